import PyProof.Rows.All
import Wide.All
import OpenK.AllK
import Wide.FinOn
import PyProof.EqAt
import PyProof.EqKinds
import PyProof.TupleCall
import Open.SpecLaws
import KE.OsGo
import PySem.Challenge.RW_yearfields_s01_answers
import HandS.ForSpec
import HandS.Dict
import HandS.WordsDict
import HandS.Comp
import HandS.Iter
import HandS.More
import HandS.TupAny
import HandS.CallSlots
import HandS.ExcInit
import HandS.ExcField
import KE.KDictKeyed
set_option Elab.async false
set_option linter.all false
set_option maxRecDepth 100000
set_option maxHeartbeats 2000000
namespace Yf
/-! ### the flat list and its calls -/
theorem whole_id (c : List (List Int)) : PyKm350.whole c = c := by
  unfold PyKm350.whole
  split <;> rfl
theorem map_whole (cs : List (List (List Int))) : cs.map PyKm350.whole = cs := by
  induction cs with
  | nil => rfl
  | cons c cs ih => rw [List.map_cons, whole_id, ih]
/-- the list l is the calls raw -/
def Parsed (l : List Int) (raw : List (List (List Int))) : Prop := ∃ f, PyFlat.calls PyKm350.shape f l = some raw
theorem parsed_nil {raw : List (List (List Int))} (h : Parsed [] raw) : raw = [] := by
  obtain ⟨f, h⟩ := h
  cases f <;> · unfold PyFlat.calls at h; exact (Option.some.inj h).symm
theorem parsed_cons {p : Int} {r : List Int} {raw : List (List (List Int))} (h : Parsed (p :: r) raw) :
    ∃ c t cs, raw = c :: cs ∧ PyFlat.call PyKm350.shape (p :: r) = some (c, t) ∧ Parsed t cs := by
  obtain ⟨f, h⟩ := h
  cases f with
  | zero => unfold PyFlat.calls at h; cases h
  | succ f =>
    unfold PyFlat.calls at h
    cases e : PyFlat.call PyKm350.shape (p :: r) with
    | none => rw [e] at h; cases h
    | some ct =>
      obtain ⟨c, t⟩ := ct
      rw [e] at h
      dsimp only at h
      cases e2 : PyFlat.calls PyKm350.shape f t with
      | none => rw [e2] at h; cases h
      | some cs =>
        rw [e2] at h
        dsimp only at h
        exact ⟨c, t, cs, (Option.some.inj h).symm, rfl, f, e2⟩
/-- one call at the head of the list: its number, its whole numbers, its row, what is behind it -/
inductive Head : Int → List Int → List (List Int) → List Int → Prop
  | start (w g n : Int) (rr : List Int) : 0 ≤ n → n.toNat ≤ rr.length → Head 0 (w :: g :: n :: rr) [[0, w, g], rr.take n.toNat] (rr.drop n.toNat)
  | field (s : Int) (t : List Int) : Head 1 (s :: t) [[1, s]] t
  | may (a b : Int) (t : List Int) : Head 2 (a :: b :: t) [[2, a, b]] t
  | plan (a b : Int) (t : List Int) : Head 3 (a :: b :: t) [[3, a, b]] t
  | grow (a b c : Int) (t : List Int) : Head 4 (a :: b :: c :: t) [[4, a, b, c]] t
  | state (a : Int) (t : List Int) : Head 5 (a :: t) [[5, a]] t
theorem call0 {p : Int} {n : Nat} {r : List Int} {c : List (List Int)} {t : List Int} (e : PyKm350.shape p = some (n, 0)) (h : PyFlat.call PyKm350.shape (p :: r) = some (c, t)) :
    n ≤ r.length ∧ c = [p :: r.take n] ∧ t = r.drop n := by
  unfold PyFlat.call at h
  dsimp only at h
  rw [e] at h
  dsimp only at h
  by_cases hl : r.length < n
  · rw [if_pos hl] at h; cases h
  · rw [if_neg hl] at h
    unfold PyFlat.rows at h
    dsimp only at h
    have q := Option.some.inj h
    injection q with q1 q2
    exact ⟨by omega, q1.symm, q2.symm⟩
theorem call_head {p : Int} {r : List Int} {c : List (List Int)} {t : List Int} (h : PyFlat.call PyKm350.shape (p :: r) = some (c, t)) : Head p r c t := by
  by_cases h0 : p = 0
  · subst h0
    unfold PyFlat.call at h
    dsimp only at h
    rw [show PyKm350.shape 0 = some (2, 1) from rfl] at h
    dsimp only at h
    match r, h with
    | [], h => cases h
    | [_], h => cases h
    | [w, g], h =>
      rw [if_neg (by simp)] at h
      cases h
    | w :: g :: n :: rr, h =>
      rw [if_neg (by simp)] at h
      have e : (w :: g :: n :: rr).drop 2 = n :: rr := rfl
      have e1 : (w :: g :: n :: rr).take 2 = [w, g] := rfl
      rw [e, e1] at h
      unfold PyFlat.rows PyFlat.row at h
      dsimp only at h
      by_cases c0 : 0 ≤ n ∧ n.toNat ≤ rr.length
      · rw [if_pos c0] at h
        unfold PyFlat.rows at h
        dsimp only at h
        have q := Option.some.inj h
        injection q with q1 q2
        subst q1 q2
        exact .start w g n rr c0.1 c0.2
      · rw [if_neg c0] at h
        cases h
  · by_cases h1 : p = 1
    · subst h1
      obtain ⟨hl, rfl, rfl⟩ := call0 (n := 1) rfl h
      match r, hl with
      | s :: t, _ => exact .field s t
    · by_cases h2 : p = 2
      · subst h2
        obtain ⟨hl, rfl, rfl⟩ := call0 (n := 2) rfl h
        match r, hl with
        | [_], hl => simp at hl
        | a :: b :: t, _ => exact .may a b t
      · by_cases h3 : p = 3
        · subst h3
          obtain ⟨hl, rfl, rfl⟩ := call0 (n := 2) rfl h
          match r, hl with
          | [_], hl => simp at hl
          | a :: b :: t, _ => exact .plan a b t
        · by_cases h4 : p = 4
          · subst h4
            obtain ⟨hl, rfl, rfl⟩ := call0 (n := 3) rfl h
            match r, hl with
            | [_], hl => simp at hl
            | [_, _], hl => simp at hl
            | a :: b :: c :: t, _ => exact .grow a b c t
          · by_cases h5 : p = 5
            · subst h5
              obtain ⟨hl, rfl, rfl⟩ := call0 (n := 1) rfl h
              match r, hl with
              | s :: t, _ => exact .state s t
            · exfalso
              have e : PyKm350.shape p = none := by
                unfold PyKm350.shape
                rw [if_neg h0, if_neg h1, if_neg h2, if_neg h3, if_neg h4, if_neg h5]
              unfold PyFlat.call at h
              dsimp only at h
              rw [e] at h
              cases h
/-- what is still to come, from the state s -/
structure Rest (s : Km350Neutral.S) (raw : List (List (List Int))) : Prop where
  inside : PyInside.calls PyKm350.bound raw = true
  all : raw.all Km350Neutral.asked1 = true
  may : Km350Neutral.may s raw = true
theorem Rest.head {s : Km350Neutral.S} {c : List (List Int)} {cs : List (List (List Int))} (h : Rest s (c :: cs)) :
    PyInside.call PyKm350.bound c = true ∧ Km350Neutral.asked1 c = true ∧ (Km350Neutral.step s c).2 ≠ [] ∧ Rest (Km350Neutral.step s c).1 cs := by
  obtain ⟨h1, h2, h3⟩ := h
  unfold PyInside.calls at h1
  rw [List.all_cons, Bool.and_eq_true] at h1
  rw [List.all_cons, Bool.and_eq_true] at h2
  unfold Km350Neutral.may at h3
  rw [Bool.and_eq_true] at h3
  refine ⟨h1.1, h2.1, fun e => ?_, ?_, h2.2, h3.2⟩
  · rw [e] at h3
    exact absurd h3.1 (by decide)
  · unfold PyInside.calls
    exact h1.2
theorem asked_gives {l : List Int} (h : PyKm350.answers_asked l = true) :
    ∃ raw, Parsed l raw ∧ raw.length ≤ 5000 ∧ Rest none raw ∧ PyKm350.answers l = PyFlat.told (PyFlat.played Km350Neutral.step none raw) := by
  unfold PyKm350.answers_asked at h
  cases e : PyFlat.calls PyKm350.shape l.length l with
  | none => rw [e] at h; cases h
  | some raw =>
    rw [e] at h
    dsimp only at h
    rw [map_whole] at h
    simp only [Bool.and_eq_true] at h
    obtain ⟨⟨⟨⟨h1, h2⟩, h3⟩, h4⟩, h5⟩ := h
    unfold PyFlat.atMost at h2
    unfold Km350Neutral.asked at h4
    simp only [Bool.and_eq_true] at h4
    refine ⟨raw, ⟨l.length, e⟩, of_decide_eq_true h2, ⟨h3, h4.2.2.1, h4.2.2.2⟩, ?_⟩
    unfold PyKm350.answers PyKm350.calls
    rw [e]
    dsimp only
    rw [map_whole]
    rfl
theorem played_cons (s : Km350Neutral.S) (c : List (List Int)) (cs : List (List (List Int))) :
    PyFlat.told (PyFlat.played Km350Neutral.step s (c :: cs)) = (((Km350Neutral.step s c).2.length : Int) :: (Km350Neutral.step s c).2) ++ PyFlat.told (PyFlat.played Km350Neutral.step (Km350Neutral.step s c).1 cs) := by
  unfold PyFlat.told
  rw [show PyFlat.played Km350Neutral.step s (c :: cs) = (Km350Neutral.step s c).2 :: PyFlat.played Km350Neutral.step (Km350Neutral.step s c).1 cs from rfl, List.flatMap_cons]
end Yf
namespace Yf
open Km350
/-! ### farms as the program holds them -/
structure CropOk (c : Crop) : Prop where
  need : c.need ≤ 100
  gives : c.gives ≤ 100
  rest : c.rest ≤ 3
  len : c.worth.length = 3
  worth : ∀ x ∈ c.worth, x ≤ 65535
structure OkF (f : Farm) : Prop where
  one : 1 ≤ f.crops.length
  six : f.crops.length ≤ 6
  crops : ∀ c ∈ f.crops, CropOk c
  w1 : 1 ≤ f.weathers
  w3 : f.weathers ≤ 3
  fallow : f.fallow ≤ 100
theorem crop_lt {f : Farm} {k : Nat} (h : k < f.crops.length) : f.crop k = f.crops[k] := by
  unfold Farm.crop
  rw [List.getD_eq_getElem?_getD, List.getElem?_eq_getElem h]
  rfl
theorem crop_ge {f : Farm} {k : Nat} (h : f.crops.length ≤ k) : f.crop k = ⟨0, f.fallow, 0, [0, 0, 0]⟩ := by
  unfold Farm.crop
  rw [List.getD_eq_getElem?_getD, List.getElem?_eq_none h]
  rfl
theorem crop_ok {f : Farm} (h : OkF f) (k : Nat) : CropOk (f.crop k) := by
  by_cases hk : k < f.crops.length
  · rw [crop_lt hk]
    exact h.crops _ (List.getElem_mem hk)
  · rw [crop_ge (by omega)]
    exact ⟨Nat.zero_le _, h.fallow, Nat.zero_le _, rfl, by
      intro x hx
      simp at hx
      omega⟩
theorem name_lt {f : Farm} {k : Nat} (h : k < f.crops.length) : f.name k = k := by
  unfold Farm.name
  rw [if_pos h]
theorem name_ge {f : Farm} {k : Nat} (h : f.crops.length ≤ k) : f.name k = 255 := by
  unfold Farm.name
  rw [if_neg (by omega)]
  rfl
theorem name_inj {f : Farm} (h : OkF f) {i j : Nat} (hi : i ≤ f.crops.length) (hj : j ≤ f.crops.length) (e : f.name i = f.name j) : i = j := by
  have := h.six
  by_cases h1 : i < f.crops.length
  · rw [name_lt h1] at e
    by_cases h2 : j < f.crops.length
    · rw [name_lt h2] at e; exact e
    · rw [name_ge (by omega)] at e; omega
  · rw [name_ge (by omega)] at e
    by_cases h2 : j < f.crops.length
    · rw [name_lt h2] at e; omega
    · omega
theorem name_mono {f : Farm} (h : OkF f) {i j : Nat} (hij : i ≤ j) : f.name i ≤ f.name j := by
  have := h.six
  by_cases h1 : i < f.crops.length
  · rw [name_lt h1]
    by_cases h2 : j < f.crops.length
    · rw [name_lt h2]; exact hij
    · rw [name_ge (by omega)]; omega
  · rw [name_ge (by omega), name_ge (by omega)]; omega
/-! ### a year -/
theorem harvest_eq (f : Farm) (k w soil : Nat) : ((f.harvest k w soil : Nat) : Int) =
    if ((f.crop k).need : Int) ≤ (soil : Int) then (((f.crop k).worth.getD w 0 : Nat) : Int) else Int.fdiv ((((f.crop k).worth.getD w 0 : Nat) : Int) * (soil : Int)) ((f.crop k).need : Int) := by
  unfold Farm.harvest
  dsimp only
  by_cases h : (f.crop k).need ≤ soil
  · rw [if_pos h, if_pos (by omega)]
  · rw [if_neg h, if_neg (by omega), Int.fdiv_eq_ediv_of_nonneg _ (by omega), Int.natCast_ediv, Int.natCast_mul]
theorem soil_eq (f : Farm) (k soil : Nat) : ((f.soil k soil : Nat) : Int) =
    if ((if (soil : Int) - ((f.crop k).need : Int) > 0 then (soil : Int) - ((f.crop k).need : Int) else 0) + ((f.crop k).gives : Int) : Int) < 100 then
      (if (soil : Int) - ((f.crop k).need : Int) > 0 then (soil : Int) - ((f.crop k).need : Int) else 0) + ((f.crop k).gives : Int) else 100 := by
  unfold Farm.soil SOIL
  dsimp only
  split <;> split <;> omega
theorem soil_le (f : Farm) (k soil : Nat) : f.soil k soil ≤ 100 := by
  unfold Farm.soil SOIL
  dsimp only
  omega
theorem may_eq {f : Farm} {last : List Nat} {k : Nat} (hk : k ≤ f.crops.length) : f.may last k = !(decide (f.name k ∈ last.take (f.crop k).rest)) := by
  unfold Farm.may
  by_cases h : k < f.crops.length
  · rw [name_lt h]
    congr 1
    rw [List.contains_eq_mem]
  · rw [crop_ge (by omega)]
    simp
theorem may_last {f : Farm} {last : List Nat} : f.may last f.crops.length = true := by
  unfold Farm.may
  rw [crop_ge (by omega)]
  simp
theorem mem_choices {f : Farm} {last : List Nat} {k : Nat} : k ∈ f.choices last ↔ k ≤ f.crops.length ∧ f.may last k = true := by
  unfold Farm.choices
  rw [List.mem_filter, List.mem_range]
  constructor
  · rintro ⟨a, b⟩; exact ⟨by omega, b⟩
  · rintro ⟨a, b⟩; exact ⟨by omega, b⟩
theorem choices_ne (f : Farm) (last : List Nat) : f.choices last ≠ [] := fun e => by
  have : f.crops.length ∈ f.choices last := mem_choices.mpr ⟨by omega, may_last⟩
  rw [e] at this
  cases this
/-! ### least and greatest -/
theorem leastOf_cons2 (x y : Nat) (l : List Nat) : leastOf (x :: y :: l) = min x (leastOf (y :: l)) := rfl
theorem leastOf_spec : ∀ (l : List Nat), l ≠ [] → leastOf l ∈ l ∧ ∀ x ∈ l, leastOf l ≤ x
  | [], h => absurd rfl h
  | [x], _ => by
    show x ∈ [x] ∧ ∀ y ∈ [x], x ≤ y
    simp
  | x :: y :: l, _ => by
    obtain ⟨h1, h2⟩ := leastOf_spec (y :: l) (by simp)
    rw [leastOf_cons2]
    constructor
    · by_cases h : x ≤ leastOf (y :: l)
      · rw [Nat.min_eq_left h]; simp
      · rw [Nat.min_eq_right (by omega)]; exact List.mem_cons_of_mem _ h1
    · intro z hz
      rcases List.mem_cons.mp hz with rfl | hz
      · omega
      · have := h2 z hz; omega
theorem leastOf_is {l : List Nat} {m : Nat} (hm : m ∈ l) (hle : ∀ x ∈ l, m ≤ x) : m = leastOf l := by
  have ne : l ≠ [] := by intro e; rw [e] at hm; cases hm
  obtain ⟨h1, h2⟩ := leastOf_spec l ne
  exact Nat.le_antisymm (hle _ h1) (h2 _ hm)
theorem leastOf_add {g : Nat → Nat} (v : Nat) {l : List Nat} (ne : l ≠ []) : leastOf (l.map fun w => g w + v) = leastOf (l.map g) + v := by
  symm
  have ne' : l.map g ≠ [] := by intro e; exact ne (List.map_eq_nil_iff.mp e)
  obtain ⟨h1, h2⟩ := leastOf_spec (l.map g) ne'
  refine leastOf_is ?_ ?_
  · obtain ⟨w, hw, e⟩ := List.mem_map.mp h1
    exact List.mem_map.mpr ⟨w, hw, by rw [e]⟩
  · intro x hx
    obtain ⟨w, hw, e⟩ := List.mem_map.mp hx
    have := h2 _ (List.mem_map.mpr ⟨w, hw, rfl⟩)
    omega
/-- the least harvest -/
def least (f : Farm) (k soil : Nat) : Nat := leastOf ((List.range f.weathers).map fun w => f.harvest k w soil)
theorem by_eq {f : Farm} (h : 1 ≤ f.weathers) (y soil : Nat) (last : List Nat) (k : Nat) : f.by_ y soil last k = least f k soil + f.value y (f.soil k soil) (f.last k last) := by
  unfold Farm.by_ least
  dsimp only
  refine leastOf_add _ ?_
  intro e
  have := congrArg List.length e
  rw [List.length_range] at this
  simp at this
  omega
theorem value_succ (f : Farm) (y soil : Nat) (last : List Nat) : f.value (y + 1) soil last = ((f.choices last).map fun k => f.by_ y soil last k).foldl max 0 := by
  rw [Farm.value]
  rfl
/-- the loop of choice -/
def pickStep (f : Farm) (y soil : Nat) (last : List Nat) (a : Int × Int) (k : Nat) : Int × Int :=
  if (f.by_ y soil last k : Int) > a.2 then ((f.name k : Int), (f.by_ y soil last k : Int)) else a
def pick (f : Farm) (y soil : Nat) (last : List Nat) (ks : List Nat) : Int × Int := ks.foldl (pickStep f y soil last) (255, -1)
theorem pick_on (f : Farm) (y soil : Nat) (last : List Nat) : ∀ (l : List Nat) (a : Nat × Nat),
    l.foldl (pickStep f y soil last) ((f.name a.1 : Int), (a.2 : Int)) = ((f.name (greatest (l.map fun k => (k, f.by_ y soil last k)) a).1 : Int), (((l.map fun k => f.by_ y soil last k).foldl max a.2 : Nat) : Int))
    ∧ ((l.map fun k => f.by_ y soil last k).foldl max a.2 : Nat) = (greatest (l.map fun k => (k, f.by_ y soil last k)) a).2
  | [], a => ⟨rfl, rfl⟩
  | k :: l, a => by
    rw [List.foldl_cons, List.map_cons, List.map_cons, List.foldl_cons, greatest]
    by_cases h : a.2 < f.by_ y soil last k
    · rw [if_pos h, show pickStep f y soil last ((f.name a.1 : Int), (a.2 : Int)) k = ((f.name k : Int), (f.by_ y soil last k : Int)) from if_pos (by show (f.by_ y soil last k : Int) > (a.2 : Int); omega), show max a.2 (f.by_ y soil last k) = f.by_ y soil last k by omega]
      exact pick_on f y soil last l (k, f.by_ y soil last k)
    · rw [if_neg h, show pickStep f y soil last ((f.name a.1 : Int), (a.2 : Int)) k = ((f.name a.1 : Int), (a.2 : Int)) from if_neg (by show ¬ (f.by_ y soil last k : Int) > (a.2 : Int); omega), show max a.2 (f.by_ y soil last k) = a.2 by omega]
      exact pick_on f y soil last l a
theorem pick_eq (f : Farm) (y soil : Nat) (last : List Nat) : pick f y soil last (f.choices last) = ((f.name (f.choice y soil last) : Int), (f.value (y + 1) soil last : Int)) := by
  have ne := choices_ne f last
  rw [value_succ]
  unfold Farm.choice pick
  cases e : f.choices last with
  | nil => exact absurd e ne
  | cons k l =>
    rw [List.foldl_cons, List.map_cons, List.map_cons, List.foldl_cons]
    rw [show pickStep f y soil last ((255 : Int), (-1 : Int)) k = ((f.name k : Int), (f.by_ y soil last k : Int)) from if_pos (by show (f.by_ y soil last k : Int) > -1; omega), show max 0 (f.by_ y soil last k) = f.by_ y soil last k by omega]
    exact (pick_on f y soil last l (k, f.by_ y soil last k)).1
/-! ### what was sown -/
def IsName (f : Farm) (a : Nat) : Prop := a < f.crops.length ∨ a = 255
def LastOk (f : Farm) (last : List Nat) : Prop := ∃ a b c, last = [a, b, c] ∧ IsName f a ∧ IsName f b ∧ IsName f c
theorem name_is (f : Farm) (k : Nat) : IsName f (f.name k) := by
  by_cases h : k < f.crops.length
  · rw [name_lt h]; exact .inl h
  · rw [name_ge (by omega)]; exact .inr rfl
theorem last_eq (f : Farm) (k a b c : Nat) : f.last k [a, b, c] = [f.name k, a, b] := rfl
theorem last_ok {f : Farm} {last : List Nat} (h : LastOk f last) (k : Nat) : LastOk f (f.last k last) := by
  obtain ⟨a, b, c, rfl, ha, hb, hc⟩ := h
  exact ⟨f.name k, a, b, rfl, name_is f k, ha, hb⟩
theorem number_some {f : Farm} {c q : Nat} (h : f.number c = some q) : q ≤ f.crops.length ∧ f.name q = c := by
  unfold Farm.number at h
  by_cases h1 : c < f.crops.length
  · rw [if_pos h1] at h
    cases h
    exact ⟨by omega, name_lt h1⟩
  · rw [if_neg h1] at h
    by_cases h2 : c = NOTHING
    · rw [if_pos h2] at h
      cases h
      exact ⟨by omega, by rw [name_ge (by omega), h2]; rfl⟩
    · rw [if_neg h2] at h; cases h
theorem number_none {f : Farm} {c : Nat} (h : f.number c = none) (k : Nat) : f.name k ≠ c := by
  unfold Farm.number at h
  by_cases h1 : c < f.crops.length
  · rw [if_pos h1] at h; cases h
  · rw [if_neg h1] at h
    by_cases h2 : c = NOTHING
    · rw [if_pos h2] at h; cases h
    · rcases name_is f k with e | e
      · intro z; omega
      · intro z; rw [e] at z; exact h2 z.symm
/-! ### how many keys there can be -/
theorem nodup_bound : ∀ (n : Nat) (l : List Nat), l.Nodup → (∀ x ∈ l, x < n) → l.length ≤ n
  | 0, l, _, h => by
    cases l with
    | nil => exact Nat.le_refl _
    | cons a r => exact absurd (h a List.mem_cons_self) (by omega)
  | n + 1, l, nd, h => by
    have h1 : (l.erase n).length ≤ n := nodup_bound n (l.erase n) (nd.erase n) fun x hx => by
      have q := (nd.mem_erase_iff).mp hx
      have := h x q.2
      have := q.1
      omega
    have h2 := List.length_erase (a := n) (l := l)
    split at h2 <;> omega
/-- a key as a number -/
def cName (a : Nat) : Nat := if a = 255 then 7 else a
def code (y soil a b c : Nat) : Nat := (((y * 128 + soil) * 8 + cName a) * 8 + cName b) * 8 + cName c
theorem cName_lt {f : Farm} (h : OkF f) {a : Nat} (ha : IsName f a) : cName a < 8 := by
  have := h.six
  unfold cName
  rcases ha with q | q <;> split <;> omega
theorem cName_inj {f : Farm} (h : OkF f) {a b : Nat} (ha : IsName f a) (hb : IsName f b) (e : cName a = cName b) : a = b := by
  have := h.six
  unfold cName at e
  by_cases h1 : a = 255
  · rw [if_pos h1] at e
    by_cases h2 : b = 255
    · omega
    · rw [if_neg h2] at e
      rcases hb with r | r <;> omega
  · rw [if_neg h1] at e
    by_cases h2 : b = 255
    · rw [if_pos h2] at e
      rcases ha with r | r <;> omega
    · rw [if_neg h2] at e
      exact e
theorem code_lt {f : Farm} (h : OkF f) {y soil a b c : Nat} (hy : y ≤ 6) (hs : soil ≤ 100) (ha : IsName f a) (hb : IsName f b) (hc : IsName f c) : code y soil a b c < 524288 := by
  have := cName_lt h ha
  have := cName_lt h hb
  have := cName_lt h hc
  unfold code
  omega
theorem code_inj {f : Farm} (h : OkF f) {y soil a b c y' soil' a' b' c' : Nat} (hs : soil ≤ 100) (ha : IsName f a) (hb : IsName f b) (hc : IsName f c) (hs' : soil' ≤ 100) (ha' : IsName f a') (hb' : IsName f b') (hc' : IsName f c')
    (e : code y soil a b c = code y' soil' a' b' c') : y = y' ∧ soil = soil' ∧ a = a' ∧ b = b' ∧ c = c' := by
  have h1 := cName_lt h ha
  have h2 := cName_lt h hb
  have h3 := cName_lt h hc
  have h4 := cName_lt h ha'
  have h5 := cName_lt h hb'
  have h6 := cName_lt h hc'
  unfold code at e
  have e3 : cName c = cName c' := by omega
  have e2 : cName b = cName b' := by omega
  have e1 : cName a = cName a' := by omega
  exact ⟨by omega, by omega, cName_inj h ha ha' e1, cName_inj h hb hb' e2, cName_inj h hc hc' e3⟩
/-! ### the crops of a row -/
/-- the crop of six numbers from the place 6 i on -/
def cropAt (row : List Int) (i : Nat) : Crop := ⟨(row.getD (6 * i) 0).toNat, (row.getD (6 * i + 1) 0).toNat, (row.getD (6 * i + 2) 0).toNat, [(row.getD (6 * i + 3) 0).toNat, (row.getD (6 * i + 4) 0).toNat, (row.getD (6 * i + 5) 0).toNat]⟩
def rowCrops (row : List Int) : List Crop := (List.range (row.length / 6)).map (cropAt row)
theorem getD_chunk (row : List Int) (i j : Nat) (hj : j < 6) : ((row.drop (6 * i)).take 6).getD j 0 = row.getD (6 * i + j) 0 := by
  rw [List.getD_eq_getElem?_getD, List.getD_eq_getElem?_getD, List.getElem?_take_of_lt hj, List.getElem?_drop]
theorem chunk_crop {row : List Int} {i : Nat} (h6 : row.length % 6 = 0) (hi : i < row.length / 6) :
    (fun x : List Int => (⟨(x.getD 0 0).toNat, (x.getD 1 0).toNat, (x.getD 2 0).toNat, Km350Neutral.nats ((x.drop 3).take 3)⟩ : Crop)) ((row.drop (6 * i)).take 6) = cropAt row i := by
  dsimp only
  rw [getD_chunk _ _ _ (by omega), getD_chunk _ _ _ (by omega), getD_chunk _ _ _ (by omega)]
  have e : (((row.drop (6 * i)).take 6).drop 3).take 3 = [row.getD (6 * i + 3) 0, row.getD (6 * i + 4) 0, row.getD (6 * i + 5) 0] := by
    apply List.ext_getElem?
    intro j
    by_cases h0 : j = 0
    · subst h0
      rw [List.getElem?_take_of_lt (by omega), List.getElem?_drop, List.getElem?_take_of_lt (by omega), List.getElem?_drop, List.getD_eq_getElem?_getD, List.getElem?_eq_getElem (by omega)]
      rfl
    · by_cases h1 : j = 1
      · subst h1
        rw [List.getElem?_take_of_lt (by omega), List.getElem?_drop, List.getElem?_take_of_lt (by omega), List.getElem?_drop, List.getElem?_eq_getElem (by omega)]
        show _ = some (row.getD (6 * i + 4) 0)
        rw [List.getD_eq_getElem?_getD, List.getElem?_eq_getElem (by omega)]
        rfl
      · by_cases h2 : j = 2
        · subst h2
          rw [List.getElem?_take_of_lt (by omega), List.getElem?_drop, List.getElem?_take_of_lt (by omega), List.getElem?_drop, List.getElem?_eq_getElem (by omega)]
          show _ = some (row.getD (6 * i + 5) 0)
          rw [List.getD_eq_getElem?_getD, List.getElem?_eq_getElem (by omega)]
          rfl
        · rw [List.getElem?_eq_none (by rw [List.length_take]; omega), List.getElem?_eq_none (by simp; omega)]
  rw [e]
  rfl
theorem chunks_crops {row : List Int} (h6 : row.length % 6 = 0) :
    ((Km350Neutral.chunks 6 row).map fun x => (⟨(x.getD 0 0).toNat, (x.getD 1 0).toNat, (x.getD 2 0).toNat, Km350Neutral.nats ((x.drop 3).take 3)⟩ : Crop)) = rowCrops row := by
  unfold Km350Neutral.chunks rowCrops
  rw [List.map_map]
  refine List.map_congr_left fun i hi => ?_
  exact chunk_crop h6 (List.mem_range.mp hi)
end Yf
/-! ### dicts whose keys are (int, int, (int, int, int)) -/
namespace L2
open PySem PySem.Spec PyProof.Rows
abbrev NE := NestedKey × Addr × Value
def nk (y s a b c : Int) : NestedKey := .tup [.num y, .num s, .tup [.num a, .num b, .num c]]
def NDict (P : Program) (w : World) (a : Addr) (xs : List NE) : Heap → Prop := fun h =>
  (a == sysModules) = false ∧ xs.length ≤ sizeLine ∧ (xs.map (·.1)).Nodup ∧ ∃ o es ep, h.get? a = some o ∧ o.ExactDict ∧ o.data = .dict es ep ∧ es.toList = xs.map (entryOfKey (nestedKind P w))
abbrev Ndt (P : Program) (w : World) (a : Addr) (xs : List NE) : HO := .ext (NDict P w a xs)
/-- the tuple at b is the key k -/
def KeyAt (H : Hp) (b : Addr) (k : NestedKey) : Prop := ∃ (y s p q r : Int) (sa : Addr), k = nk y s p q r ∧ H b = some (.tup [.int y, .int s, .ref sa]) ∧ H sa = some (.tup [.int p, .int q, .int r])
def NOk (H : Hp) (xs : List NE) : Prop := ∀ x ∈ xs, KeyAt H x.2.1 x.1
theorem KeyAt.same {H H' : Hp} {b : Addr} {k : NestedKey} (h : KeyAt H b k) (st : ∀ a xs, H a = some (.tup xs) → H' a = some (.tup xs)) : KeyAt H' b k := by
  obtain ⟨y, s, p, q, r, sa, e, h1, h2⟩ := h
  exact ⟨y, s, p, q, r, sa, e, st _ _ h1, st _ _ h2⟩
section
variable {P : Program} {w : World} {H : Hp} {h : Heap} {a b : Addr} {k : NestedKey} {xs : List NE}
theorem key_is (ok : HOk P w H h) (x : KeyAt H b k) : (nestedKind P w).is h k b := by
  obtain ⟨y, s, p, q, r, sa, rfl, h1, h2⟩ := x
  obtain ⟨_, its1, v1, o1, g1, c1, n1, d1⟩ := ok b _ h1
  obtain ⟨_, its2, v2, o2, g2, c2, n2, d2⟩ := ok sa _ h2
  cases v1 with
  | cons r1 v1 =>
  cases v1 with
  | cons r2 v1 =>
  cases v1 with
  | cons r3 v1 =>
  cases v1
  cases v2 with
  | cons t1 v2 =>
  cases v2 with
  | cons t2 v2 =>
  cases v2 with
  | cons t3 v2 =>
  cases v2
  obtain ⟨_, rfl⟩ := r1
  obtain ⟨_, rfl⟩ := r2
  cases (show _ = Value.ref sa from r3)
  obtain ⟨_, rfl⟩ := t1
  obtain ⟨_, rfl⟩ := t2
  obtain ⟨_, rfl⟩ := t3
  refine ⟨NestedIs.tup g1 c1 d1 ?_, ?_⟩
  · exact .cons (.int _ _) (.cons (.int _ _) (.cons (NestedIs.tup g2 c2 d2 (.cons (.int _ _) (.cons (.int _ _) (.cons (.int _ _) .nil)))) .nil))
  · simp [nk, NestedKey.depth, NestedKey.depthAll]
theorem nd_of (ok : HOk P w H h) (e : H a = some (Ndt P w a xs)) (ks : NOk H xs) : xs.length ≤ sizeLine ∧ (a == sysModules) = false ∧ h.DictOfH (nestedKind P w) a xs := by
  obtain ⟨⟨hd, hl, nd, o, es, ep, h1, h2, h3, h4⟩, _, _⟩ := ok a _ e
  exact ⟨hl, hd, o, es, ep, h1, h2, h3, h4, fun x hx => key_is ok (ks x hx), nd⟩
theorem nd_obj (hd : (a == sysModules) = false) (hl : xs.length ≤ sizeLine) (d : h.DictOfH (nestedKind P w) a xs) : ObjOk P w H h a (Ndt P w a xs) := by
  obtain ⟨o, es, ep, h1, h2, h3, h4, _, h5⟩ := d
  refine ⟨⟨hd, hl, h5, o, es, ep, h1, h2, h3, h4⟩, ⟨o, h1⟩, fun g1 g2 hp st => ?_⟩
  obtain ⟨hd, hl, nd, o, es, ep, h1, h2, h3, h4⟩ := hp
  exact ⟨hd, hl, nd, o, es, ep, st _ h1, h2, h3, h4⟩
end
section
variable {X : Cx} {pins : List (Addr × Obj)} {σ : St} {H : Hp} {s : Shared} {a b p : Addr} {k : NestedKey} {xs : List NE} {A : Around} {E : Value → Shared → Prop}
theorem nroom {P : Program} {w : World} {A : Around} (hu : A.units + 64 < cLine) : (nestedKind P w).room A.in1 := by
  show A.units + 1 + 8 < cLine
  omega
/-- {} -/
def tNNew (P : Program) (w : World) : TE := fun _ H Q => ∀ p, H p = none → Q (.ref p) (upd H p (Ndt P w p []))
theorem pe_nnew {pos : Pos} : PE X (.Dict [] [] pos) (tNNew X.prog X.w) := ⟨fun pins s σ H Q I h =>
  wpAny_Dict_empty ⟨.ref s.heap.objs.size, _, I.laid (a := s.heap.objs.size) (o := Ndt X.prog X.w s.heap.objs.size []) (t' := s.toks) (fun _ _ q => Heap.get?_push_of_some _ q) (Nat.le_refl _)
    (nd_obj (beq_eq_false_iff_ne.mpr (Ne.symm (Nat.ne_of_lt I.big))) (Nat.zero_le _) (Heap.DictOfH.new s.heap)), rfl, h _ (I.hok.fresh (Nat.le_refl _))⟩⟩
/-- key not in d -/
def tNNotIn (P : Program) (w : World) (ty td : TE) : TE := fun σ H Q => ty σ H fun y H1 => td σ H1 fun x H2 => ∃ a xs b k, x = .ref a ∧ H2 a = some (Ndt P w a xs) ∧ NOk H2 xs ∧ y = .ref b ∧ KeyAt H2 b k ∧ Q (.bl (!(atKey xs k).isSome)) H2
theorem pc_nnotin {i o : Expr} {ty td : TE} (hu : X.A.units + 64 < cLine) (hi : PE X i ty) (ho : PE X o td) : PC X .NotIn i o (tNNotIn X.prog X.w ty td) := by
  refine ⟨fun pins s σ H Q I h => ?_⟩
  refine thn (hi.run pins s σ H _ I h) fun iv s1 ⟨y, H1, I1, ry, q1⟩ => thn (ho.run pins s1 σ H1 _ I1 q1) fun u s2 ⟨x, H2, I2, rx, a, xs, b, k, ex, e, ks, ey, ek, q2⟩ => ?_
  subst ex ey
  obtain rfl : u = Value.ref a := rx
  obtain rfl : iv = Value.ref b := ry
  obtain ⟨hz, hd, dd⟩ := nd_of I2.hok e ks
  exact wpAny_notIn_heap (nroom hu) (key_is I2.hok ek) hd dd ⟨.bl (!(atKey xs k).isSome), H2, I2.tok _, rfl, q2⟩
/-- d[key], there -/
def tNGet (P : Program) (w : World) (td ty : TE) : TE := fun σ H Q => td σ H fun x H1 => ty σ H1 fun y H2 => ∃ a xs b k b' p, x = .ref a ∧ H2 a = some (Ndt P w a xs) ∧ NOk H2 xs ∧ y = .ref b ∧ KeyAt H2 b k ∧ atKey xs k = some (b', .ref p) ∧ Q (.ref p) H2
theorem pe_nget {i o : Expr} {ty td : TE} {pos : Pos} (hu : X.A.units + 64 < cLine) (ho : PE X o td) (hi : PE X i ty) (hs : NoSl i) : PE X (.Subscript o i pos) (tNGet X.prog X.w td ty) := by
  refine ⟨fun pins s σ H Q I h => ?_⟩
  refine subD_of PySem.F.slot_dict_getitem.lookup hs (thn (ho.run pins s σ H _ I h) fun u s1 ⟨x, H1, I1, rx, q1⟩ => thn (hi.run pins s1 σ H1 _ I1 q1) fun iv s2 ⟨y, H2, I2, ry, a, xs, b, k, b', p, ex, e, ks, ey, ek, l, q2⟩ => ?_)
  subst ex ey
  obtain rfl : u = Value.ref a := rx
  obtain rfl : iv = Value.ref b := ry
  obtain ⟨hz, hd, dd⟩ := nd_of I2.hok e ks
  exact ⟨dd.typeIs, wpAny_getItem_heap (nroom hu) (key_is I2.hok ek) dd l ⟨.ref p, H2, I2.tok _, rfl, q2⟩⟩
/-- d[key] = v -/
def sNPut (P : Program) (w : World) (td ty tv : TE) : TS := fun D σ H => tv σ H fun v H1 => td σ H1 fun x H2 => ty σ H2 fun y H3 => ∃ a xs b k p, x = .ref a ∧ H3 a = some (Ndt P w a xs) ∧ NOk H3 xs ∧ y = .ref b ∧ KeyAt H3 b k ∧ v = .ref p ∧ xs.length < sizeLine ∧
  D.nx σ (upd H3 a (Ndt P w a (storedH xs k b (.ref p))))
theorem storedH_len (xs : List NE) (k : NestedKey) (b : Addr) (v : Value) : (storedH xs k b v).length ≤ xs.length + 1 := by
  unfold storedH
  split
  · rw [List.length_map]; omega
  · rw [List.length_append]; exact Nat.le_refl _
theorem ps_nput {i o value : Expr} {ty td tv : TE} {pos pos' : Pos} (hu : X.A.units + 64 < cLine) (ho : PE X o td) (hi : PE X i ty) (hv : PE X value tv) (hs : swapsWith value (some (.Subscript o i pos')) pos.line X.env = pure false) :
    PS X (.Assign [.Subscript o i pos'] value pos) (sNPut X.prog X.w td ty tv) := by
  refine ⟨fun pins s σ H D I h => ?_⟩
  refine wpAny_Assign_Subscript (thn (hv.run pins s σ H _ I h) fun r s1 ⟨v, H1, I1, rv, q1⟩ => thn (ho.run pins s1 σ H1 _ I1 q1) fun u s2 ⟨x, H2, I2, rx, q2⟩ => thn (hi.run pins s2 σ H2 _ I2 q2) fun iv s3 ⟨y, H3, I3, ry, a, xs, b, k, p, ex, e, ks, ey, ek, ev, l, q3⟩ => ?_) hs
  subst ex ey ev
  obtain rfl : u = Value.ref a := rx
  obtain rfl : iv = Value.ref b := ry
  obtain rfl : r = Value.ref p := rv
  obtain ⟨hz, hd, dd⟩ := nd_of I3.hok e ks
  refine wpAny_setItem_heap (hsz := hz) (nroom hu) (key_is I3.hok ek) dd fun h' dd' hs' => ⟨σ, _, ?_, q3⟩
  have hl : (storedH xs k b (.ref p)).length ≤ sizeLine := by have := storedH_len xs k b (.ref p); omega
  have he : ∃ q, h'.get? a = some q := let ⟨q, _, _, hq, _⟩ := dd'; ⟨q, hq⟩
  exact d_write I3 (by rw [e]; exact True.intro) hs' he (nd_obj hd hl dd')
end
end L2
/-! ### the text: its defs by their places, what its top leaves -/
namespace Yf
open PySem PySem.Spec PyProof.Rows L2
open PySem.W (Codec)
def top (i : Nat) : Stmt := PySem.Challenge.pw_yearfields_s01_answers.main.body.getD i (.Pass ⟨0, 0, 0, 0⟩)
abbrev sCInit : Stmt := inClass (top 6) 0
abbrev sCTold : Stmt := inClass (top 6) 1
abbrev sCHarv : Stmt := inClass (top 6) 2
abbrev sCSoil : Stmt := inClass (top 6) 3
abbrev sCFoll : Stmt := inClass (top 6) 4
abbrev sCropsOf : Stmt := top 7
abbrev sNoth : Stmt := top 8
abbrev sDInit : Stmt := inClass (top 11) 0
abbrev sDTold : Stmt := inClass (top 11) 1
abbrev sFInit : Stmt := inClass (top 12) 0
abbrev sFMay : Stmt := inClass (top 12) 1
abbrev sFLeast : Stmt := inClass (top 12) 2
abbrev sFBrings : Stmt := inClass (top 12) 3
abbrev sFChoice : Stmt := inClass (top 12) 4
abbrev sFProm : Stmt := inClass (top 12) 5
abbrev sFGrow : Stmt := inClass (top 12) 6
abbrev sBehind : Stmt := top 13
abbrev sRInit : Stmt := inClass (top 19) 0
abbrev sHInit : Stmt := inClass (top 20) 0
abbrev sNeed : Stmt := top 21
abbrev sStart : Stmt := top 22
abbrev sNewF : Stmt := top 23
abbrev sFieldOf : Stmt := top 24
abbrev sMay : Stmt := top 25
abbrev sPlan : Stmt := top 26
abbrev sGrow : Stmt := top 27
abbrev sState : Stmt := top 28
abbrev sDone : Stmt := top 32
abbrev sAnswer : Stmt := top 33
abbrev sAnswers : Stmt := top 34
abbrev pCInit : List Str := ["self", "need", "gives", "rest", "worth"]
abbrev nCInit : List Str := ["self", "need", "gives", "rest", "worth"]
theorem scCInit : FnScope nCInit pCInit (defScope sCInit) := ⟨rfl, rfl, rfl, by decide +kernel, rfl, by decide +kernel, by decide +kernel⟩
abbrev pCTold : List Str := ["self"]
abbrev nCTold : List Str := ["self"]
theorem scCTold : FnScope nCTold pCTold (defScope sCTold) := ⟨rfl, rfl, rfl, by decide +kernel, rfl, by decide +kernel, by decide +kernel⟩
abbrev pCHarv : List Str := ["self", "soil", "weather"]
abbrev nCHarv : List Str := ["self", "soil", "weather"]
theorem scCHarv : FnScope nCHarv pCHarv (defScope sCHarv) := ⟨rfl, rfl, rfl, by decide +kernel, rfl, by decide +kernel, by decide +kernel⟩
abbrev pCSoil : List Str := ["self", "soil"]
abbrev nCSoil : List Str := ["self", "soil"]
theorem scCSoil : FnScope nCSoil pCSoil (defScope sCSoil) := ⟨rfl, rfl, rfl, by decide +kernel, rfl, by decide +kernel, by decide +kernel⟩
abbrev pCFoll : List Str := ["self", "number", "sown"]
abbrev nCFoll : List Str := ["self", "number", "sown"]
theorem scCFoll : FnScope nCFoll pCFoll (defScope sCFoll) := ⟨rfl, rfl, rfl, by decide +kernel, rfl, by decide +kernel, by decide +kernel⟩
abbrev pCropsOf : List Str := ["numbers"]
abbrev nCropsOf : List Str := ["numbers", "found", "at"]
theorem scCropsOf : FnScope nCropsOf pCropsOf (defScope sCropsOf) := ⟨rfl, rfl, rfl, by decide +kernel, rfl, by decide +kernel, by decide +kernel⟩
abbrev pNoth : List Str := ["fallow"]
abbrev nNoth : List Str := ["fallow", "kind"]
theorem scNoth : FnScope nNoth pNoth (defScope sNoth) := ⟨rfl, rfl, rfl, by decide +kernel, rfl, by decide +kernel, by decide +kernel⟩
abbrev pDInit : List Str := ["self", "soil"]
abbrev nDInit : List Str := ["self", "soil"]
theorem scDInit : FnScope nDInit pDInit (defScope sDInit) := ⟨rfl, rfl, rfl, by decide +kernel, rfl, by decide +kernel, by decide +kernel⟩
abbrev pDTold : List Str := ["self"]
abbrev nDTold : List Str := ["self"]
theorem scDTold : FnScope nDTold pDTold (defScope sDTold) := ⟨rfl, rfl, rfl, by decide +kernel, rfl, by decide +kernel, by decide +kernel⟩
abbrev pFInit : List Str := ["self", "crops", "weathers", "fallow"]
abbrev nFInit : List Str := ["self", "crops", "weathers", "fallow", "number"]
theorem scFInit : FnScope nFInit pFInit (defScope sFInit) := ⟨rfl, rfl, rfl, by decide +kernel, rfl, by decide +kernel, by decide +kernel⟩
abbrev pFMay : List Str := ["self", "sown"]
abbrev nFMay : List Str := ["self", "sown", "number"]
theorem scFMay : FnScope nFMay pFMay (defScope sFMay) := ⟨rfl, rfl, rfl, by decide +kernel, rfl, by decide +kernel, by decide +kernel⟩
abbrev pFLeast : List Str := ["self", "number", "soil"]
abbrev nFLeast : List Str := ["self", "number", "soil", "weather"]
theorem scFLeast : FnScope nFLeast pFLeast (defScope sFLeast) := ⟨rfl, rfl, rfl, by decide +kernel, rfl, by decide +kernel, by decide +kernel⟩
abbrev pFBrings : List Str := ["self", "years", "soil", "sown", "number"]
abbrev nFBrings : List Str := ["self", "years", "soil", "sown", "number", "least"]
theorem scFBrings : FnScope nFBrings pFBrings (defScope sFBrings) := ⟨rfl, rfl, rfl, by decide +kernel, rfl, by decide +kernel, by decide +kernel⟩
abbrev pFChoice : List Str := ["self", "years", "soil", "sown"]
abbrev nFChoice : List Str := ["self", "years", "soil", "sown", "best", "most", "number", "brought"]
theorem scFChoice : FnScope nFChoice pFChoice (defScope sFChoice) := ⟨rfl, rfl, rfl, by decide +kernel, rfl, by decide +kernel, by decide +kernel⟩
abbrev pFProm : List Str := ["self", "years", "soil", "sown"]
abbrev nFProm : List Str := ["self", "years", "soil", "sown", "key"]
theorem scFProm : FnScope nFProm pFProm (defScope sFProm) := ⟨rfl, rfl, rfl, by decide +kernel, rfl, by decide +kernel, by decide +kernel⟩
abbrev pFGrow : List Str := ["self", "field", "number", "weather"]
abbrev nFGrow : List Str := ["self", "field", "number", "weather", "harvest"]
theorem scFGrow : FnScope nFGrow pFGrow (defScope sFGrow) := ⟨rfl, rfl, rfl, by decide +kernel, rfl, by decide +kernel, by decide +kernel⟩
abbrev pBehind : List Str := ["sown", "number"]
abbrev nBehind : List Str := ["sown", "number"]
theorem scBehind : FnScope nBehind pBehind (defScope sBehind) := ⟨rfl, rfl, rfl, by decide +kernel, rfl, by decide +kernel, by decide +kernel⟩
abbrev pRInit : List Str := ["self", "number"]
abbrev nRInit : List Str := ["self", "number"]
theorem scRInit : FnScope nRInit pRInit (defScope sRInit) := ⟨rfl, rfl, rfl, by decide +kernel, rfl, by decide +kernel, by decide +kernel⟩
abbrev pHInit : List Str := ["self"]
abbrev nHInit : List Str := ["self"]
theorem scHInit : FnScope nHInit pHInit (defScope sHInit) := ⟨rfl, rfl, rfl, by decide +kernel, rfl, by decide +kernel, by decide +kernel⟩
abbrev pNeed : List Str := ["fulfilled", "number"]
abbrev nNeed : List Str := ["fulfilled", "number"]
theorem scNeed : FnScope nNeed pNeed (defScope sNeed) := ⟨rfl, rfl, rfl, by decide +kernel, rfl, by decide +kernel, by decide +kernel⟩
abbrev pStart : List Str := ["holder", "weathers", "fallow", "numbers"]
abbrev nStart : List Str := ["holder", "weathers", "fallow", "numbers", "crops", "crop"]
theorem scStart : FnScope nStart pStart (defScope sStart) := ⟨rfl, rfl, rfl, by decide +kernel, rfl, by decide +kernel, by decide +kernel⟩
abbrev pNewF : List Str := ["farm", "soil"]
abbrev nNewF : List Str := ["farm", "soil"]
theorem scNewF : FnScope nNewF pNewF (defScope sNewF) := ⟨rfl, rfl, rfl, by decide +kernel, rfl, by decide +kernel, by decide +kernel⟩
abbrev pFieldOf : List Str := ["farm", "number"]
abbrev nFieldOf : List Str := ["farm", "number"]
theorem scFieldOf : FnScope nFieldOf pFieldOf (defScope sFieldOf) := ⟨rfl, rfl, rfl, by decide +kernel, rfl, by decide +kernel, by decide +kernel⟩
abbrev pMay : List Str := ["farm", "number", "crop"]
abbrev nMay : List Str := ["farm", "number", "crop", "field"]
theorem scMay : FnScope nMay pMay (defScope sMay) := ⟨rfl, rfl, rfl, by decide +kernel, rfl, by decide +kernel, by decide +kernel⟩
abbrev pPlan : List Str := ["farm", "number", "years"]
abbrev nPlan : List Str := ["farm", "number", "years", "field"]
theorem scPlan : FnScope nPlan pPlan (defScope sPlan) := ⟨rfl, rfl, rfl, by decide +kernel, rfl, by decide +kernel, by decide +kernel⟩
abbrev pGrow : List Str := ["farm", "number", "crop", "weather"]
abbrev nGrow : List Str := ["farm", "number", "crop", "weather", "field"]
theorem scGrow : FnScope nGrow pGrow (defScope sGrow) := ⟨rfl, rfl, rfl, by decide +kernel, rfl, by decide +kernel, by decide +kernel⟩
abbrev pState : List Str := ["farm", "number"]
abbrev nState : List Str := ["farm", "number"]
theorem scState : FnScope nState pState (defScope sState) := ⟨rfl, rfl, rfl, by decide +kernel, rfl, by decide +kernel, by decide +kernel⟩
abbrev pDone : List Str := ["farm", "call", "given"]
abbrev nDone : List Str := ["farm", "call", "given"]
theorem scDone : FnScope nDone pDone (defScope sDone) := ⟨rfl, rfl, rfl, by decide +kernel, rfl, by decide +kernel, by decide +kernel⟩
abbrev pAnswer : List Str := ["holder", "call", "given", "row"]
abbrev nAnswer : List Str := ["holder", "call", "given", "row", "refused"]
theorem scAnswer : FnScope nAnswer pAnswer (defScope sAnswer) := ⟨rfl, rfl, rfl, by decide +kernel, rfl, by decide +kernel, by decide +kernel⟩
abbrev pAnswers : List Str := ["calls"]
abbrev nAnswers : List Str := ["calls", "holder", "found", "at", "call", "end", "given", "row", "behind", "answered"]
theorem scAnswers : FnScope nAnswers pAnswers (defScope sAnswers) := ⟨rfl, rfl, rfl, by decide +kernel, rfl, by decide +kernel, by decide +kernel⟩
/-- where things stand: classes, defs, the tuple of whole numbers; the ints' tokens -/
structure Ad where
  CC : Addr
  CD : Addr
  CF : Addr
  CH : Addr
  CR : Addr
  aW : Addr
  cInit : Addr
  cInitD : FuncData
  cTold : Addr
  cToldD : FuncData
  cHarv : Addr
  cHarvD : FuncData
  cSoil : Addr
  cSoilD : FuncData
  cFoll : Addr
  cFollD : FuncData
  cropsOf : Addr
  cropsOfD : FuncData
  noth : Addr
  nothD : FuncData
  dInit : Addr
  dInitD : FuncData
  dTold : Addr
  dToldD : FuncData
  fInit : Addr
  fInitD : FuncData
  fMay : Addr
  fMayD : FuncData
  fLeast : Addr
  fLeastD : FuncData
  fBrings : Addr
  fBringsD : FuncData
  fChoice : Addr
  fChoiceD : FuncData
  fProm : Addr
  fPromD : FuncData
  fGrow : Addr
  fGrowD : FuncData
  behind : Addr
  behindD : FuncData
  rInit : Addr
  rInitD : FuncData
  hInit : Addr
  hInitD : FuncData
  need : Addr
  needD : FuncData
  start : Addr
  startD : FuncData
  newF : Addr
  newFD : FuncData
  fieldOf : Addr
  fieldOfD : FuncData
  may : Addr
  mayD : FuncData
  plan : Addr
  planD : FuncData
  grow : Addr
  growD : FuncData
  state : Addr
  stateD : FuncData
  done : Addr
  doneD : FuncData
  answer : Addr
  answerD : FuncData
  answers : Addr
  answersD : FuncData
  tNOTHING : Tok
  tMOST_SOIL : Tok
  tMOST_REST : Tok
  tKINDS : Tok
  tNUMBERS : Tok
  tLAST_YEARS : Tok
  tMOST_CROPS : Tok
  tMOST_FIELDS : Tok
  tMOST_PLAN : Tok
  tMOST_YEARS : Tok
  tSTART : Tok
structure Txt (K : PySem.W.Frag) (mg : Str → Option Value) (A : Ad) : Prop where
  clCC : Cls K A.CC
  gCC : mg "Crop" = some (.ref A.CC)
  nCCneed : NoAttr K A.CC "need"
  nCCgives : NoAttr K A.CC "gives"
  nCCrest : NoAttr K A.CC "rest"
  nCCworth : NoAttr K A.CC "worth"
  clCD : Cls K A.CD
  gCD : mg "Field" = some (.ref A.CD)
  nCDsoil : NoAttr K A.CD "soil"
  nCDsown : NoAttr K A.CD "sown"
  nCDyears : NoAttr K A.CD "years"
  nCDbrought : NoAttr K A.CD "brought"
  clCF : Cls K A.CF
  gCF : mg "Farm" = some (.ref A.CF)
  nCFcrops : NoAttr K A.CF "crops"
  nCFweathers : NoAttr K A.CF "weathers"
  nCFfields : NoAttr K A.CF "fields"
  nCFfound : NoAttr K A.CF "found"
  clCH : Cls K A.CH
  gCH : mg "Holder" = some (.ref A.CH)
  nCHfarm : NoAttr K A.CH "farm"
  mkCC : Mk K A.CC A.cInit
  mkCD : Mk K A.CD A.dInit
  mkCF : Mk K A.CF A.fInit
  mkCH : Mk K A.CH A.hInit
  fCInit : Fun K "__init__" "Crop.__init__" sCInit A.cInit A.cInitD
  bCInit : Binds K A.cInitD pCInit []
  fCTold : Fun K "is_as_told" "Crop.is_as_told" sCTold A.cTold A.cToldD
  bCTold : Binds K A.cToldD pCTold []
  mCTold : Meth K A.CC "is_as_told" A.cTold
  fCHarv : Fun K "harvest" "Crop.harvest" sCHarv A.cHarv A.cHarvD
  bCHarv : Binds K A.cHarvD pCHarv []
  mCHarv : Meth K A.CC "harvest" A.cHarv
  fCSoil : Fun K "soil_behind" "Crop.soil_behind" sCSoil A.cSoil A.cSoilD
  bCSoil : Binds K A.cSoilD pCSoil []
  mCSoil : Meth K A.CC "soil_behind" A.cSoil
  fCFoll : Fun K "may_follow" "Crop.may_follow" sCFoll A.cFoll A.cFollD
  bCFoll : Binds K A.cFollD pCFoll []
  mCFoll : Meth K A.CC "may_follow" A.cFoll
  fCropsOf : Fun K "crops_of" "crops_of" sCropsOf A.cropsOf A.cropsOfD
  bCropsOf : Binds K A.cropsOfD pCropsOf []
  gCropsOf : mg "crops_of" = some (.ref A.cropsOf)
  fNoth : Fun K "nothing" "nothing" sNoth A.noth A.nothD
  bNoth : Binds K A.nothD pNoth []
  gNoth : mg "nothing" = some (.ref A.noth)
  fDInit : Fun K "__init__" "Field.__init__" sDInit A.dInit A.dInitD
  bDInit : Binds K A.dInitD pDInit []
  fDTold : Fun K "told" "Field.told" sDTold A.dTold A.dToldD
  bDTold : Binds K A.dToldD pDTold []
  mDTold : Meth K A.CD "told" A.dTold
  fFInit : Fun K "__init__" "Farm.__init__" sFInit A.fInit A.fInitD
  bFInit : Binds K A.fInitD pFInit []
  fFMay : Fun K "may_be_sown" "Farm.may_be_sown" sFMay A.fMay A.fMayD
  bFMay : Binds K A.fMayD pFMay []
  mFMay : Meth K A.CF "may_be_sown" A.fMay
  fFLeast : Fun K "least_harvest" "Farm.least_harvest" sFLeast A.fLeast A.fLeastD
  bFLeast : Binds K A.fLeastD pFLeast []
  mFLeast : Meth K A.CF "least_harvest" A.fLeast
  fFBrings : Fun K "brings" "Farm.brings" sFBrings A.fBrings A.fBringsD
  bFBrings : Binds K A.fBringsD pFBrings []
  mFBrings : Meth K A.CF "brings" A.fBrings
  fFChoice : Fun K "choice" "Farm.choice" sFChoice A.fChoice A.fChoiceD
  bFChoice : Binds K A.fChoiceD pFChoice []
  mFChoice : Meth K A.CF "choice" A.fChoice
  fFProm : Fun K "promised" "Farm.promised" sFProm A.fProm A.fPromD
  bFProm : Binds K A.fPromD pFProm []
  mFProm : Meth K A.CF "promised" A.fProm
  fFGrow : Fun K "grow" "Farm.grow" sFGrow A.fGrow A.fGrowD
  bFGrow : Binds K A.fGrowD pFGrow []
  mFGrow : Meth K A.CF "grow" A.fGrow
  fBehind : Fun K "behind" "behind" sBehind A.behind A.behindD
  bBehind : Binds K A.behindD pBehind []
  gBehind : mg "behind" = some (.ref A.behind)
  fRInit : Fun K "__init__" "Refused.__init__" sRInit A.rInit A.rInitD
  bRInit : Binds K A.rInitD pRInit []
  fHInit : Fun K "__init__" "Holder.__init__" sHInit A.hInit A.hInitD
  bHInit : Binds K A.hInitD pHInit []
  fNeed : Fun K "need" "need" sNeed A.need A.needD
  bNeed : Binds K A.needD pNeed []
  gNeed : mg "need" = some (.ref A.need)
  fStart : Fun K "start" "start" sStart A.start A.startD
  bStart : Binds K A.startD pStart []
  gStart : mg "start" = some (.ref A.start)
  fNewF : Fun K "new_field" "new_field" sNewF A.newF A.newFD
  bNewF : Binds K A.newFD pNewF []
  gNewF : mg "new_field" = some (.ref A.newF)
  fFieldOf : Fun K "field_of" "field_of" sFieldOf A.fieldOf A.fieldOfD
  bFieldOf : Binds K A.fieldOfD pFieldOf []
  gFieldOf : mg "field_of" = some (.ref A.fieldOf)
  fMay : Fun K "may" "may" sMay A.may A.mayD
  bMay : Binds K A.mayD pMay []
  gMay : mg "may" = some (.ref A.may)
  fPlan : Fun K "plan" "plan" sPlan A.plan A.planD
  bPlan : Binds K A.planD pPlan []
  gPlan : mg "plan" = some (.ref A.plan)
  fGrow : Fun K "grow" "grow" sGrow A.grow A.growD
  bGrow : Binds K A.growD pGrow []
  gGrow : mg "grow" = some (.ref A.grow)
  fState : Fun K "state" "state" sState A.state A.stateD
  bState : Binds K A.stateD pState []
  gState : mg "state" = some (.ref A.state)
  fDone : Fun K "done" "done" sDone A.done A.doneD
  bDone : Binds K A.doneD pDone []
  gDone : mg "done" = some (.ref A.done)
  fAnswer : Fun K "answer" "answer" sAnswer A.answer A.answerD
  bAnswer : Binds K A.answerD pAnswer []
  gAnswer : mg "answer" = some (.ref A.answer)
  fAnswers : Fun K "answers" "answers" sAnswers A.answers A.answersD
  bAnswers : Binds K A.answersD pAnswers []
  gAnswers : mg "answers" = some (.ref A.answers)
  gCR : mg "Refused" = some (.ref A.CR)
  ox : OexC K A.CR
  xf : XfC K A.CR
  nCR : PySem.W.findIn K (.ref A.CR) "number" = some none
  iCR : PySem.W.findIn K (.ref A.CR) "__init__" = some (some (.ref A.rInit))
  tCR : PySem.W.typeIn K (.ref A.rInit) = some (.type "function")
  eCR : PySem.W.exmOne K (.ref A.CR) (.ref A.CR) = some true
  gNOTHING : mg "NOTHING" = some (.int 255 A.tNOTHING)
  gMOST_SOIL : mg "MOST_SOIL" = some (.int 100 A.tMOST_SOIL)
  gMOST_REST : mg "MOST_REST" = some (.int 3 A.tMOST_REST)
  gKINDS : mg "KINDS" = some (.int 3 A.tKINDS)
  gNUMBERS : mg "NUMBERS" = some (.int 6 A.tNUMBERS)
  gLAST_YEARS : mg "LAST_YEARS" = some (.int 3 A.tLAST_YEARS)
  gMOST_CROPS : mg "MOST_CROPS" = some (.int 6 A.tMOST_CROPS)
  gMOST_FIELDS : mg "MOST_FIELDS" = some (.int 8 A.tMOST_FIELDS)
  gMOST_PLAN : mg "MOST_PLAN" = some (.int 6 A.tMOST_PLAN)
  gMOST_YEARS : mg "MOST_YEARS" = some (.int 4096 A.tMOST_YEARS)
  gSTART : mg "START" = some (.int 0 A.tSTART)
  zlen : mg "len" = none
  zrange : mg "range" = none
  zmin : mg "min" = none
  zmax : mg "max" = none
  zsorted : mg "sorted" = none
  zlist : mg "list" = none
  zint : mg "int" = none
  gWN : mg "WHOLE_NUMBERS" = some (.ref A.aW)
  sWN : ∀ H : Hp, SqT K H A.aW [.int 2, .int 1, .int 2, .int 2, .int 3, .int 1]
end Yf
/-! ### how things lie in the heap -/
namespace Yf
open PySem PySem.Spec PyProof.Rows L2
theorem if_true_of {c : Bool} {A B : Prop} (hc : c = true) (h : A) : if c = true then A else B := by
  rw [if_pos hc]
  exact h
theorem if_false_of {c : Bool} {A B : Prop} (hc : c = false) (h : B) : if c = true then A else B := by
  rw [hc, if_neg Bool.false_ne_true]
  exact h
abbrev vn (x : Nat) : V := .int (x : Int)
/-! #### attributes -/
section
variable {k g g1 g2 g3 g4 : Str} {v x v1 v2 v3 v4 : V} {r : List (Str × V)}
theorem lk0 : List.lookup k ((k, v) :: r) = some v := by
  have e : (k == k) = true := beq_self_eq_true k
  simp only [List.lookup, e]
theorem lkP (h : (k == g) = false) : List.lookup k ((g, x) :: r) = List.lookup k r := by
  simp only [List.lookup, h]
theorem lk1 (h1 : (k == g1) = false) : List.lookup k ((g1, v1) :: (k, v) :: r) = some v := (lkP h1).trans lk0
theorem lk2 (h1 : (k == g1) = false) (h2 : (k == g2) = false) : List.lookup k ((g1, v1) :: (g2, v2) :: (k, v) :: r) = some v := (lkP h1).trans (lk1 h2)
theorem lk3 (h1 : (k == g1) = false) (h2 : (k == g2) = false) (h3 : (k == g3) = false) : List.lookup k ((g1, v1) :: (g2, v2) :: (g3, v3) :: (k, v) :: r) = some v := (lkP h1).trans (lk2 h2 h3)
theorem lkN4 (h1 : (k == g1) = false) (h2 : (k == g2) = false) (h3 : (k == g3) = false) (h4 : (k == g4) = false) : List.lookup k [(g1, v1), (g2, v2), (g3, v3), (g4, v4)] = none :=
  (lkP h1).trans ((lkP h2).trans ((lkP h3).trans ((lkP h4).trans rfl)))
theorem pt0 {f : Str} {v x : V} {r : List (Str × V)} : putF f v ((f, x) :: r) = (f, v) :: r := if_pos rfl
theorem ptP {f g : Str} {v x : V} {r : List (Str × V)} (h : ¬ g = f) : putF f v ((g, x) :: r) = (g, x) :: putF f v r := if_neg h
end
def cropF (c : Km350.Crop) (w : Addr) : List (Str × V) := [("need", vn c.need), ("gives", vn c.gives), ("rest", vn c.rest), ("worth", .ref w)]
def fieldF (x : Km350.Field) (t : Addr) : List (Str × V) := [("soil", vn x.soil), ("sown", .ref t), ("years", vn x.years), ("brought", vn x.brought)]
def farmF (dC : Addr) (w : Nat) (lF dF : Addr) : List (Str × V) := [("crops", .ref dC), ("weathers", vn w), ("fields", .ref lF), ("found", .ref dF)]
def holdF (v : V) : List (Str × V) := [("farm", v)]
section
variable (c : Km350.Crop) (w t dC lF dF : Addr) (x : Km350.Field) (n : Nat) (v : V)
theorem cF_need : (cropF c w).lookup ("need" : Str) = some (vn c.need) := lk0
theorem cF_gives : (cropF c w).lookup ("gives" : Str) = some (vn c.gives) := lk1 (by decide +kernel)
theorem cF_rest : (cropF c w).lookup ("rest" : Str) = some (vn c.rest) := lk2 (by decide +kernel) (by decide +kernel)
theorem cF_worth : (cropF c w).lookup ("worth" : Str) = some (.ref w) := lk3 (by decide +kernel) (by decide +kernel) (by decide +kernel)
theorem cF_told : (cropF c w).lookup ("is_as_told" : Str) = none := lkN4 (by decide +kernel) (by decide +kernel) (by decide +kernel) (by decide +kernel)
theorem cF_harv : (cropF c w).lookup ("harvest" : Str) = none := lkN4 (by decide +kernel) (by decide +kernel) (by decide +kernel) (by decide +kernel)
theorem cF_soil : (cropF c w).lookup ("soil_behind" : Str) = none := lkN4 (by decide +kernel) (by decide +kernel) (by decide +kernel) (by decide +kernel)
theorem cF_foll : (cropF c w).lookup ("may_follow" : Str) = none := lkN4 (by decide +kernel) (by decide +kernel) (by decide +kernel) (by decide +kernel)
theorem dF_soil : (fieldF x t).lookup ("soil" : Str) = some (vn x.soil) := lk0
theorem dF_sown : (fieldF x t).lookup ("sown" : Str) = some (.ref t) := lk1 (by decide +kernel)
theorem dF_years : (fieldF x t).lookup ("years" : Str) = some (vn x.years) := lk2 (by decide +kernel) (by decide +kernel)
theorem dF_brought : (fieldF x t).lookup ("brought" : Str) = some (vn x.brought) := lk3 (by decide +kernel) (by decide +kernel) (by decide +kernel)
theorem dF_told : (fieldF x t).lookup ("told" : Str) = none := lkN4 (by decide +kernel) (by decide +kernel) (by decide +kernel) (by decide +kernel)
theorem fF_crops : (farmF dC n lF dF).lookup ("crops" : Str) = some (.ref dC) := lk0
theorem fF_weathers : (farmF dC n lF dF).lookup ("weathers" : Str) = some (vn n) := lk1 (by decide +kernel)
theorem fF_fields : (farmF dC n lF dF).lookup ("fields" : Str) = some (.ref lF) := lk2 (by decide +kernel) (by decide +kernel)
theorem fF_found : (farmF dC n lF dF).lookup ("found" : Str) = some (.ref dF) := lk3 (by decide +kernel) (by decide +kernel) (by decide +kernel)
theorem fF_may : (farmF dC n lF dF).lookup ("may_be_sown" : Str) = none := lkN4 (by decide +kernel) (by decide +kernel) (by decide +kernel) (by decide +kernel)
theorem fF_least : (farmF dC n lF dF).lookup ("least_harvest" : Str) = none := lkN4 (by decide +kernel) (by decide +kernel) (by decide +kernel) (by decide +kernel)
theorem fF_brings : (farmF dC n lF dF).lookup ("brings" : Str) = none := lkN4 (by decide +kernel) (by decide +kernel) (by decide +kernel) (by decide +kernel)
theorem fF_choice : (farmF dC n lF dF).lookup ("choice" : Str) = none := lkN4 (by decide +kernel) (by decide +kernel) (by decide +kernel) (by decide +kernel)
theorem fF_prom : (farmF dC n lF dF).lookup ("promised" : Str) = none := lkN4 (by decide +kernel) (by decide +kernel) (by decide +kernel) (by decide +kernel)
theorem fF_grow : (farmF dC n lF dF).lookup ("grow" : Str) = none := lkN4 (by decide +kernel) (by decide +kernel) (by decide +kernel) (by decide +kernel)
theorem hF_farm : (holdF v).lookup ("farm" : Str) = some v := lk0
/-- behind the stores -/
theorem put4 {k1 k2 k3 k4 : Str} (a b d e : V) (n12 : ¬ k1 = k2) (n13 : ¬ k1 = k3) (n23 : ¬ k2 = k3) (n14 : ¬ k1 = k4) (n24 : ¬ k2 = k4) (n34 : ¬ k3 = k4) : putF k4 e (putF k3 d (putF k2 b [(k1, a)])) = [(k1, a), (k2, b), (k3, d), (k4, e)] := by
  rw [show putF k2 b [(k1, a)] = [(k1, a), (k2, b)] from (ptP n12).trans rfl,
    show putF k3 d [(k1, a), (k2, b)] = [(k1, a), (k2, b), (k3, d)] from (ptP n13).trans (congrArg _ ((ptP n23).trans rfl))]
  exact (ptP n14).trans (congrArg _ ((ptP n24).trans (congrArg _ ((ptP n34).trans rfl))))
theorem cF_new (a b d : V) (e : V) : putF "worth" e (putF "rest" d (putF "gives" b (putF "need" a []))) = ([("need", a), ("gives", b), ("rest", d), ("worth", e)] : List (Str × V)) :=
  put4 a b d e (by decide +kernel) (by decide +kernel) (by decide +kernel) (by decide +kernel) (by decide +kernel) (by decide +kernel)
theorem dF_new (a b d : V) (e : V) : putF "brought" e (putF "years" d (putF "sown" b (putF "soil" a []))) = ([("soil", a), ("sown", b), ("years", d), ("brought", e)] : List (Str × V)) :=
  put4 a b d e (by decide +kernel) (by decide +kernel) (by decide +kernel) (by decide +kernel) (by decide +kernel) (by decide +kernel)
theorem fF_new (a b d : V) (e : V) : putF "found" e (putF "fields" d (putF "weathers" b (putF "crops" a []))) = ([("crops", a), ("weathers", b), ("fields", d), ("found", e)] : List (Str × V)) :=
  put4 a b d e (by decide +kernel) (by decide +kernel) (by decide +kernel) (by decide +kernel) (by decide +kernel) (by decide +kernel)
theorem dF_pSoil (s : Nat) : putF "soil" (vn s) (fieldF x t) = fieldF { x with soil := s } t := pt0
theorem dF_pSown (u : Addr) : putF "sown" (.ref u) (fieldF x t) = fieldF x u := (ptP (by decide +kernel)).trans (congrArg _ pt0)
theorem dF_pYears (s : Nat) : putF "years" (vn s) (fieldF x t) = fieldF { x with years := s } t := (ptP (by decide +kernel)).trans (congrArg _ ((ptP (by decide +kernel)).trans (congrArg _ pt0)))
theorem dF_pBrought (s : Nat) : putF "brought" (vn s) (fieldF x t) = fieldF { x with brought := s } t :=
  (ptP (by decide +kernel)).trans (congrArg _ ((ptP (by decide +kernel)).trans (congrArg _ ((ptP (by decide +kernel)).trans (congrArg _ pt0)))))
theorem hF_put (u : V) : putF "farm" u (holdF v) = holdF u := pt0
end
/-! #### crops, fields, farms -/
def CropAt (A : Ad) (H : Hp) (a : Addr) (c : Km350.Crop) : Prop := ∃ dx w, H a = some (.ins A.CC dx (cropF c w)) ∧ H w = some (.lst (c.worth.map vn))
theorem CropAt.same {A : Ad} {H H' : Hp} {a : Addr} {c : Km350.Crop} (h : CropAt A H a c) (s : Same H H') : CropAt A H' a c := by
  obtain ⟨dx, w, h1, h2⟩ := h
  exact ⟨dx, w, s _ _ h1, s _ _ h2⟩
/-- the farm's dict of crops: as the addresses, the last one of nothing -/
def cropKvs (f : Km350.Farm) (as : List Addr) : List (Key × V) := as.zipIdx.map fun p => (Sum.inl ((f.name p.2 : Nat) : Int), V.ref p.1)
def CropsAt (A : Ad) (H : Hp) (dC : Addr) (f : Km350.Farm) : Prop := ∃ as : List Addr, as.length = f.crops.length + 1 ∧ H dC = some (.dK (cropKvs f as)) ∧ ∀ (k : Nat) (a : Addr), as[k]? = some a → CropAt A H a (f.crop k)
theorem CropsAt.same {A : Ad} {H H' : Hp} {dC : Addr} {f : Km350.Farm} (h : CropsAt A H dC f) (s : Same H H') : CropsAt A H' dC f := by
  obtain ⟨as, h1, h2, h3⟩ := h
  exact ⟨as, h1, s _ _ h2, fun k a e => (h3 k a e).same s⟩
/-- the farm's object and its crops -/
def FarmS (A : Ad) (H : Hp) (fa : Addr) (f : Km350.Farm) (dC lF dF : Addr) : Prop := (∃ dx, H fa = some (.ins A.CF dx (farmF dC f.weathers lF dF))) ∧ CropsAt A H dC f
theorem FarmS.same {A : Ad} {H H' : Hp} {fa dC lF dF : Addr} {f : Km350.Farm} (h : FarmS A H fa f dC lF dF) (s : Same H H') : FarmS A H' fa f dC lF dF := by
  obtain ⟨⟨dx, h1⟩, h2⟩ := h
  exact ⟨⟨dx, s _ _ h1⟩, h2.same s⟩
def FieldAt (A : Ad) (H : Hp) (a : Addr) (x : Km350.Field) : Prop := ∃ dx t, H a = some (.ins A.CD dx (fieldF x t)) ∧ H t = some (.tup (x.last.map vn))
theorem FieldAt.same {A : Ad} {H H' : Hp} {a : Addr} {x : Km350.Field} (h : FieldAt A H a x) (s : Same H H') : FieldAt A H' a x := by
  obtain ⟨dx, w, h1, h2⟩ := h
  exact ⟨dx, w, s _ _ h1, s _ _ h2⟩
/-- all but one address -/
def But (d : Addr) (H H' : Hp) : Prop := ∀ b o, H b = some o → b ≠ d → H' b = some o
theorem But.of {d : Addr} {H H' : Hp} (s : Same H H') : But d H H' := fun b o e _ => s b o e
theorem But.trans {d : Addr} {H H1 H2 : Hp} (a : But d H H1) (b : But d H1 H2) : But d H H2 := fun c o e n => b c o (a c o e n) n
theorem But.tup {d : Addr} {H H' : Hp} (s : But d H H') {o : HO} (hd : H d = some o) (ne : ∀ xs, o ≠ .tup xs) {b : Addr} {xs : List V} (e : H b = some (.tup xs)) : H' b = some (.tup xs) :=
  s b _ e (ne_of e hd fun z => ne xs z.symm)
/-- the heap without what is in Z -/
noncomputable def sub (Z : Addr → Prop) (H : Hp) : Hp := fun b => open Classical in if Z b then none else H b
theorem sub_some {Z : Addr → Prop} {H : Hp} {b : Addr} {o : HO} : sub Z H b = some o ↔ ¬ Z b ∧ H b = some o := by
  unfold sub
  by_cases h : Z b
  · simp [h]
  · simp [h]
theorem sub_same {Z : Addr → Prop} {H : Hp} : Same (sub Z H) H := fun b o e => (sub_some.mp e).2
def ButZ (Z : Addr → Prop) (H H' : Hp) : Prop := ∀ b o, H b = some o → ¬ Z b → H' b = some o
theorem ButZ.of {Z : Addr → Prop} {H H' : Hp} (s : Same H H') : ButZ Z H H' := fun b o e _ => s b o e
theorem But.toZ {Z : Addr → Prop} {d : Addr} {H H' : Hp} (s : But d H H') (z : Z d) : ButZ Z H H' := fun b o e n => s b o e fun q => n (q ▸ z)
theorem ButZ.sub {Z Z' : Addr → Prop} {H H' : Hp} (s : ButZ Z H H') (hz : ∀ b, Z' b → Z b ∨ H b = none) : Same (sub Z H) (sub Z' H') := fun b o e => by
  obtain ⟨n, e⟩ := sub_some.mp e
  refine sub_some.mpr ⟨fun z => ?_, s b o e n⟩
  rcases hz b z with q | q
  · exact n q
  · rw [q] at e; cases e
end Yf
/-! ### crops: their methods -/
namespace Yf
open PySem PySem.Spec PyProof.Rows L2
theorem few {f : Str} {y : V} {fs : List (Str × V)} {n : Nat} (h : fs.length ≤ n) : (putF f y fs).length ≤ n + 1 := Nat.le_trans (length_putF f y fs) (Nat.add_le_add_right h 1)
theorem few0 : ([] : List (Str × V)).length ≤ 0 := Nat.le_refl 0
theorem rvi (i : Int) (t : Tok) : RelV (.int i) (.int i t) := ⟨t, rfl⟩
theorem thou {m n : Nat} (h : m ≤ n) (hn : n ≤ 900) : m < 1000 := by omega
section
variable {P : Program} {w : World} {K : PySem.W.Frag} {mg : Str → Option Value} {base : Heap} {A : Ad}
def spCInit (A : Ad) : Sp := fun vs H Q _ => ∃ (p dx wa : Addr) (a b c : V), vs = [.ref p, a, b, c, .ref wa] ∧ H p = some (.ins A.CC dx []) ∧
  ∀ H' : Hp, H' p = some (.ins A.CC dx [("need", a), ("gives", b), ("rest", c), ("worth", .ref wa)]) → (∀ b o, H b = some o → b ≠ p → H' b = some o) → Q .non H'
theorem ok_cInit (T : Txt K mg A) : FnOk P w K mg base CX0 1 A.cInit A.cInitD pCInit (spCInit A) := by
  refine T.fCInit.ok scCInit (fun vs H Q E h => ?_) (fun cdv Ar outer s H vs Q E hr h => ?_)
  · obtain ⟨p, dx, wa, a, b, c, rfl, _⟩ := h
    rfl
  obtain ⟨p, dx, wa, a, b, c, rfl, hp, k⟩ := h
  refine ⟨_, pss_cons (ps_fld (pv 0) (pv 1) rfl) (pss_cons (ps_fld (pv 0) (pv 2) rfl) (pss_cons (ps_fld (pv 0) (pv 3) rfl) (pss_one (ps_fld (pv 0) (pv 4) rfl)))), ?_⟩
  refine ⟨_, rfl, _, rfl, p, A.CC, dx, [], rfl, hp, T.clCC, T.nCCneed, thou few0 (by decide), ?_⟩
  refine ⟨_, rfl, _, rfl, p, A.CC, dx, _, rfl, upd_same, T.clCC, T.nCCgives, thou (few few0) (by decide), ?_⟩
  refine ⟨_, rfl, _, rfl, p, A.CC, dx, _, rfl, upd_same, T.clCC, T.nCCrest, thou (few (few few0)) (by decide), ?_⟩
  refine ⟨_, rfl, _, rfl, p, A.CC, dx, _, rfl, upd_same, T.clCC, T.nCCworth, thou (few (few (few few0))) (by decide), ?_⟩
  refine k _ (upd_same.trans (congrArg (fun q => some (HO.ins A.CC dx q)) (cF_new _ _ _ _))) fun b o e hb => ?_
  rw [upd_ne hb, upd_ne hb, upd_ne hb, upd_ne hb]
  exact e
/-- whether its numbers are as told -/
def toldC (c : Km350.Crop) : Bool := decide (c.need ≤ 100) && (decide (c.gives ≤ 100) && decide (c.rest ≤ 3))
def spCTold (A : Ad) : Sp := fun vs H Q _ => ∃ (a : Addr) (c : Km350.Crop), vs = [.ref a] ∧ CropAt A H a c ∧ Q (.bl (toldC c)) H
theorem ok_cTold (T : Txt K mg A) : FnOk P w K mg base CX0 1 A.cTold A.cToldD pCTold (spCTold A) := by
  refine T.fCTold.ok scCTold (fun vs H Q E h => ?_) (fun cdv Ar outer s H vs Q E hr h => ?_)
  · obtain ⟨a, c, rfl, _⟩ := h
    rfl
  obtain ⟨a, c, rfl, ⟨dx, wa, h1, h2⟩, k⟩ := h
  refine ⟨_, pss_one (ps_ret (pe_and (pe_cmpR op_le (pe_fld (pv 0) rfl) (pe_glob rfl T.gMOST_SOIL (rvi _ _)) (nomark _)) (pe_and (pe_cmpR op_le (pe_fld (pv 0) rfl) (pe_glob rfl T.gMOST_SOIL (rvi _ _)) (nomark _)) (pe_one (pe_cmpR op_le (pe_fld (pv 0) rfl) (pe_glob rfl T.gMOST_REST (rvi _ _)) (nomark _)))))), ?_⟩
  refine ⟨_, rfl, a, A.CC, dx, _, _, rfl, h1, T.clCC, T.nCCneed, cF_need c wa, _, _, rfl, rfl, _, rfl, ?_⟩
  unfold toldC at k
  by_cases e1 : c.need ≤ 100
  · rw [decide_eq_true e1, Bool.true_and] at k
    refine if_true_of (decide_eq_true (by omega)) ?_
    refine ⟨_, rfl, a, A.CC, dx, _, _, rfl, h1, T.clCC, T.nCCgives, cF_gives c wa, _, _, rfl, rfl, _, rfl, ?_⟩
    by_cases e2 : c.gives ≤ 100
    · rw [decide_eq_true e2, Bool.true_and] at k
      refine if_true_of (decide_eq_true (by omega)) ?_
      refine ⟨_, rfl, a, A.CC, dx, _, _, rfl, h1, T.clCC, T.nCCrest, cF_rest c wa, _, _, rfl, rfl, ?_⟩
      have e3 : decide (((c.rest : Nat) : Int) ≤ 3) = decide (c.rest ≤ 3) := decide_eq_decide.mpr (by omega)
      show Q (.bl (decide (((c.rest : Nat) : Int) ≤ 3))) H
      rw [e3]
      exact k
    · rw [decide_eq_false e2, Bool.false_and] at k
      exact if_false_of (decide_eq_false (by omega)) k
  · rw [decide_eq_false e1, Bool.false_and] at k
    exact if_false_of (decide_eq_false (by omega)) k
/-- its harvest -/
def harvC (c : Km350.Crop) (wt soil : Nat) : Nat := if c.need ≤ soil then c.worth.getD wt 0 else c.worth.getD wt 0 * soil / c.need
def soilC (c : Km350.Crop) (soil : Nat) : Nat := min 100 (soil - min soil c.need + c.gives)
theorem harv_is (f : Km350.Farm) (k wt soil : Nat) : f.harvest k wt soil = harvC (f.crop k) wt soil := rfl
theorem soil_is (f : Km350.Farm) (k soil : Nat) : f.soil k soil = soilC (f.crop k) soil := rfl
def spCHarv (A : Ad) : Sp := fun vs H Q _ => ∃ (a : Addr) (c : Km350.Crop) (soil wt : Nat), vs = [.ref a, vn soil, vn wt] ∧ CropAt A H a c ∧ CropOk c ∧ wt < 3 ∧ Q (vn (harvC c wt soil)) H
theorem ok_cHarv (T : Txt K mg A) : FnOk P w K mg base CX0 1 A.cHarv A.cHarvD pCHarv (spCHarv A) := by
  refine T.fCHarv.ok scCHarv (fun vs H Q E h => ?_) (fun cdv Ar outer s H vs Q E hr h => ?_)
  · obtain ⟨a, c, soil, wt, rfl, _⟩ := h
    rfl
  obtain ⟨a, c, soil, wt, rfl, ⟨dx, wa, h1, h2⟩, hc, hw, k⟩ := h
  refine ⟨_, pss_cons (ps_if (pt_cmpR op_ge (pv 1) (pe_fld (pv 0) rfl) (nomark _)) (pss_one (ps_ret (pe_ix ix_list (pe_fld (pv 0) rfl) (pv 2) (fun _ _ => rfl)))) pss_nil)
    (pss_one (ps_ret (pe_op op_fdivN (pe_op op_mul (pe_ix ix_list (pe_fld (pv 0) rfl) (pv 2) (fun _ _ => rfl)) (pv 1)) (pe_fld (pv 0) rfl)))), ?_⟩
  have hg : (c.worth.map vn)[wt]? = some (vn (c.worth.getD wt 0)) := by
    rw [List.getElem?_map, List.getD_eq_getElem?_getD, List.getElem?_eq_getElem (by rw [hc.len]; exact hw)]
    rfl
  have hb : c.worth.getD wt 0 ≤ 65535 := by
    rw [List.getD_eq_getElem?_getD, List.getElem?_eq_getElem (by rw [hc.len]; exact hw)]
    exact hc.worth _ (List.getElem_mem _)
  refine ⟨_, rfl, _, rfl, a, A.CC, dx, _, _, rfl, h1, T.clCC, T.nCCneed, cF_need c wa, _, _, rfl, rfl, _, rfl, ?_⟩
  unfold harvC at k
  by_cases hn : c.need ≤ soil
  · rw [if_pos hn] at k
    refine if_true_of (decide_eq_true (by omega)) ?_
    exact ⟨_, rfl, a, A.CC, dx, _, _, rfl, h1, T.clCC, T.nCCworth, cF_worth c wa, _, rfl, wa, _, _, _, rfl, rfl, SqL.of h2, atI_nat hg, k⟩
  · rw [if_neg hn] at k
    refine if_false_of (decide_eq_false (by omega)) ?_
    refine ⟨_, rfl, a, A.CC, dx, _, _, rfl, h1, T.clCC, T.nCCworth, cF_worth c wa, _, rfl, wa, _, _, _, rfl, rfl, SqL.of h2, atI_nat hg, _, rfl, _, _, rfl, rfl, .inl ⟨by omega, by omega⟩, ?_⟩
    refine ⟨_, rfl, a, A.CC, dx, _, _, rfl, h1, T.clCC, T.nCCneed, cF_need c wa, _, _, rfl, rfl, ⟨by omega, by have := hc.need; omega⟩, ?_⟩
    have e : (((c.worth.getD wt 0 : Nat) : Int) * (soil : Int)).fdiv ((c.need : Nat) : Int) = ((c.worth.getD wt 0 * soil / c.need : Nat) : Int) := by
      rw [Int.fdiv_eq_ediv_of_nonneg _ (by omega), Int.natCast_ediv, Int.natCast_mul]
    show Q (.int ((((c.worth.getD wt 0 : Nat) : Int) * (soil : Int)).fdiv ((c.need : Nat) : Int))) H
    rw [e]
    exact k
def spCSoil (A : Ad) : Sp := fun vs H Q _ => ∃ (a : Addr) (c : Km350.Crop) (soil : Nat), vs = [.ref a, vn soil] ∧ CropAt A H a c ∧ Q (vn (soilC c soil)) H
theorem ok_cSoil (T : Txt K mg A) : FnOk P w K mg base CX0 1 A.cSoil A.cSoilD pCSoil (spCSoil A) := by
  refine T.fCSoil.ok scCSoil (fun vs H Q E h => ?_) (fun cdv Ar outer s H vs Q E hr h => ?_)
  · obtain ⟨a, c, soil, rfl, _⟩ := h
    rfl
  obtain ⟨a, c, soil, rfl, ⟨dx, wa, h1, h2⟩, k⟩ := h
  refine ⟨_, pss_one (ps_ret (pe_callB (call_min2 rfl) (by rfl) T.zmin (by decide +kernel) (pa_cons (pe_glob rfl T.gMOST_SOIL (rvi _ _)) (pa_cons (pe_op op_add (pe_callB (call_max2 rfl) (by rfl) T.zmax (by decide +kernel) (pa_cons pe_int (pa_cons (pe_op op_sub (pv 1) (pe_fld (pv 0) rfl)) pa_nil))) (pe_fld (pv 0) rfl)) pa_nil)))), ?_⟩
  refine ⟨_, rfl, _, rfl, a, A.CC, dx, _, _, rfl, h1, T.clCC, T.nCCneed, cF_need c wa, _, _, rfl, rfl, _, _, rfl, ?_⟩
  refine ⟨_, rfl, a, A.CC, dx, _, _, rfl, h1, T.clCC, T.nCCgives, cF_gives c wa, _, _, rfl, rfl, _, _, rfl, ?_⟩
  have e : (if (if (soil : Int) - ((c.need : Nat) : Int) > 0 then (soil : Int) - ((c.need : Nat) : Int) else 0) + ((c.gives : Nat) : Int) < 100 then (if (soil : Int) - ((c.need : Nat) : Int) > 0 then (soil : Int) - ((c.need : Nat) : Int) else 0) + ((c.gives : Nat) : Int) else 100) = ((soilC c soil : Nat) : Int) := by
    unfold soilC
    split <;> split <;> omega
  show Q (.int (if (if (soil : Int) - ((c.need : Nat) : Int) > 0 then (soil : Int) - ((c.need : Nat) : Int) else 0) + ((c.gives : Nat) : Int) < 100 then (if (soil : Int) - ((c.need : Nat) : Int) > 0 then (soil : Int) - ((c.need : Nat) : Int) else 0) + ((c.gives : Nat) : Int) else 100)) H
  rw [e]
  exact k
/-- number not in sown[:rest] -/
def spCFoll (A : Ad) : Sp := fun vs H Q _ => ∃ (a t : Addr) (c : Km350.Crop) (n : Nat) (last : List Nat), vs = [.ref a, vn n, .ref t] ∧ CropAt A H a c ∧ H t = some (.tup (last.map vn)) ∧ ∀ H', Same H H' → Q (.bl (!(decide (n ∈ last.take c.rest)))) H'
theorem inV_nats (n : Nat) (l : List Nat) : inV (vn n) (l.map vn) = decide (n ∈ l) := by
  induction l with
  | nil => rfl
  | cons a r ih =>
    have e : inV (vn n) ((a :: r).map vn) = (eqV (vn a) (vn n) || inV (vn n) (r.map vn)) := rfl
    rw [e, ih]
    have e2 : eqV (vn a) (vn n) = decide (n = a) := by
      show decide _ = _
      exact decide_eq_decide.mpr ⟨fun h => by omega, fun h => by omega⟩
    rw [e2]
    by_cases h : n = a
    · simp [h]
    · simp [h]
theorem flat_nats (l : List Nat) : (l.map vn).all flatV = true := by
  induction l with
  | nil => rfl
  | cons a r ih => exact ih
theorem cut_take (l : List Nat) (k : Nat) : cutV (l.map vn) none (some (k : Int)) = (l.take k).map vn := by
  unfold cutV
  rw [HT.sIx_none, HT.sIx_nat, List.drop_zero, Nat.sub_zero, List.length_map, List.map_take]
  by_cases h : k ≤ l.length
  · rw [Nat.min_eq_left h]
  · rw [Nat.min_eq_right (by omega), List.take_of_length_le (by rw [List.length_map]; omega), List.take_of_length_le (by rw [List.length_map]; omega)]
theorem ok_cFoll (T : Txt K mg A) : FnOk P w K mg base CX0 1 A.cFoll A.cFollD pCFoll (spCFoll A) := by
  refine T.fCFoll.ok scCFoll (fun vs H Q E h => ?_) (fun cdv Ar outer s H vs Q E hr h => ?_)
  · obtain ⟨a, t, c, n, last, rfl, _⟩ := h
    rfl
  obtain ⟨a, t, c, n, last, rfl, ⟨dx, wa, h1, h2⟩, ht, k⟩ := h
  refine ⟨_, pss_one (ps_ret (pe_cmpR op_notIn_seq (pv 1) (pe_slice sl_tupA (pv 2) po_none (po_some (pe_fld (pv 0) rfl))) (by rfl))), ?_⟩
  refine ⟨_, rfl, _, rfl, _, rfl, a, A.CC, dx, _, _, rfl, h1, T.clCC, T.nCCrest, cF_rest c wa, _, rfl, t, _, rfl, SqT.of ht, fun hw => ?_, fun hw p hp => ?_⟩
  · refine ⟨t, _, rfl, .inr (SqT.of ht), rfl, flat_nats last, ?_⟩
    have q := k H (Same.refl H)
    have e : last.take c.rest = last := by
      have h := hw.2
      rw [HT.sIx_nat, List.length_map] at h
      exact List.take_of_length_le (by omega)
    rw [e] at q
    show Q (.bl (!inV (vn n) (last.map vn))) H
    rw [inV_nats]
    exact q
  · refine ⟨p, _, rfl, .inr (SqT.of upd_same), rfl, ?_, ?_⟩
    · rw [cut_take]
      exact flat_nats _
    · have q := k (upd H p (.tup (cutV (last.map vn) none (some (c.rest : Int))))) fun b o e => by
        rw [upd_ne (ne_of_none e hp)]
        exact e
      show Q (.bl (!inV (vn n) (cutV (last.map vn) none (some (c.rest : Int))))) _
      rw [cut_take] at q ⊢
      rw [inV_nats]
      exact q
end
end Yf
/-! ### what is made: nothing, the crops of a row, fields, farms -/
namespace Yf
open PySem PySem.Spec PyProof.Rows L2
theorem sUpd {H : Hp} {p : Addr} {o : HO} (h : H p = none) : Same H (upd H p o) := fun b q e => by
  rw [upd_ne (ne_of_none e h)]
  exact e
section
variable {P : Program} {w : World} {K : PySem.W.Frag} {mg : Str → Option Value} {base : Heap} {A : Ad}
def spNoth (A : Ad) : Sp := fun vs H Q _ => ∃ g : Nat, vs = [vn g] ∧ ∀ (H' : Hp) (a : Addr), Same H H' → H a = none → CropAt A H' a ⟨0, g, 0, [0, 0, 0]⟩ → Q (.ref a) H'
theorem ok_noth (T : Txt K mg A) : FnOk P w K mg base CX0 3 A.noth A.nothD pNoth (spNoth A) := by
  refine T.fNoth.ok scNoth (fun vs H Q E h => ?_) (fun cdv Ar outer s H vs Q E hr h => ?_)
  · obtain ⟨g, rfl, _⟩ := h
    rfl
  obtain ⟨g, rfl, k⟩ := h
  refine ⟨_, pss_one (ps_ret (pe_make T.mkCC (ok_cInit T) hr rfl T.gCC T.bCInit .nil pass0 (pa_cons pe_int (pa_cons (pv 0) (pa_cons pe_int (pa_cons
    (pe_lc (own := [("kind", 1)]) (g := gName 1) (tt := tYes) rfl scNoth.nd (pi_range1 rfl T.zrange (pa_cons (pe_glob rfl T.gKINDS (rvi _ _)) pa_nil)) (blkOk_by (own := [("kind", 1)]) (N := nNoth) (sc := defScope sNoth) (by decide +kernel))
      (fun _ _ _ _ _ => pg_name (i := 1) scNoth.nd rfl (Or.inl rfl)) (fun _ _ _ _ _ => pts_nil) (fun _ _ _ _ _ => pe_int)) pa_nil)))))), ?_⟩
  refine ⟨_, rfl, 3, rfl, by decide, by decide, fun D hD => lc_range (lo := 0) (n := 3) (fun i H' => H' = upd H D (.lst (List.replicate i (vn 0)))) rfl ?_ ?_⟩
  · rintro i H' hi rfl
    refine ⟨rfl, _, upd_same, by rw [List.length_replicate, sizeLine_eq]; omega, ?_⟩
    rw [upd_upd, List.replicate_succ']
    rfl
  · rintro H' rfl
    intro x dx nx nd ne
    refine ⟨x, dx, D, vn 0, vn g, vn 0, rfl, upd_same, fun H1 e1 kp => ⟨rfl, ?_⟩⟩
    have s1 : Same (upd H D (.lst (List.replicate 3 (vn 0)))) H1 := Same.made nx nd kp
    have s0 : Same H (upd H D (.lst (List.replicate 3 (vn 0)))) := sUpd hD
    exact k H1 x (s0.trans s1) (s0.free nx) ⟨dx, D, e1, s1 _ _ upd_same⟩
def spDInit (A : Ad) : Sp := fun vs H Q _ => ∃ (p dx : Addr) (s : Nat), vs = [.ref p, vn s] ∧ H p = some (.ins A.CD dx []) ∧
  ∀ H' : Hp, FieldAt A H' p (Km350.field0 s) → (∀ b o, H b = some o → b ≠ p → H' b = some o) → Q .non H'
theorem ok_dInit (T : Txt K mg A) : FnOk P w K mg base CX0 1 A.dInit A.dInitD pDInit (spDInit A) := by
  refine T.fDInit.ok scDInit (fun vs H Q E h => ?_) (fun cdv Ar outer s H vs Q E hr h => ?_)
  · obtain ⟨p, dx, n, rfl, _⟩ := h
    rfl
  obtain ⟨p, dx, n, rfl, hp, k⟩ := h
  refine ⟨_, pss_cons (ps_fld (pv 0) (pv 1) rfl) (pss_cons (ps_fld (pv 0) (pe_tup (pa_cons (pe_glob rfl T.gNOTHING (rvi _ _)) (pa_cons (pe_glob rfl T.gNOTHING (rvi _ _)) (pa_cons (pe_glob rfl T.gNOTHING (rvi _ _)) pa_nil)))) rfl)
    (pss_cons (ps_fld (pv 0) pe_int rfl) (pss_one (ps_fld (pv 0) pe_int rfl)))), ?_⟩
  refine ⟨_, rfl, _, rfl, p, A.CD, dx, [], rfl, hp, T.clCD, T.nCDsoil, thou few0 (by decide), ?_⟩
  refine ⟨(by show 3 ≤ sizeLine; decide), fun t ht => ?_⟩
  have npt : p ≠ t := ne_of_none upd_same ht
  refine ⟨_, rfl, p, A.CD, dx, _, rfl, (upd_ne npt).trans upd_same, T.clCD, T.nCDsown, thou (few few0) (by decide), ?_⟩
  refine ⟨_, rfl, p, A.CD, dx, _, rfl, upd_same, T.clCD, T.nCDyears, thou (few (few few0)) (by decide), ?_⟩
  refine ⟨_, rfl, p, A.CD, dx, _, rfl, upd_same, T.clCD, T.nCDbrought, thou (few (few (few few0))) (by decide), ?_⟩
  refine k _ ⟨dx, t, upd_same.trans (congrArg (fun q => some (HO.ins A.CD dx q)) (dF_new _ _ _ _)), ?_⟩ fun b o e hb => ?_
  · rw [upd_ne npt.symm, upd_ne npt.symm, upd_ne npt.symm]
    exact upd_same
  · rw [upd_ne hb, upd_ne hb, upd_ne hb]
    have e2 : upd H p (.ins A.CD dx (putF "soil" (vn n) [])) b = some o := (upd_ne hb).trans e
    rw [upd_ne (ne_of_none e2 ht)]
    exact e2
/-- all of a field, number by number -/
def toldF (x : Km350.Field) : List Nat := [x.soil] ++ x.last ++ [x.years, x.brought]
def spDTold (A : Ad) : Sp := fun vs H Q _ => ∃ (a : Addr) (x : Km350.Field), vs = [.ref a] ∧ FieldAt A H a x ∧ x.last.length ≤ 3 ∧
  ∀ (H' : Hp) (p : Addr), Same H H' → H p = none → H' p = some (.lst ((toldF x).map vn)) → Q (.ref p) H'
theorem ok_dTold (T : Txt K mg A) : FnOk P w K mg base CX0 1 A.dTold A.dToldD pDTold (spDTold A) := by
  refine T.fDTold.ok scDTold (fun vs H Q E h => ?_) (fun cdv Ar outer s H vs Q E hr h => ?_)
  · obtain ⟨a, x, rfl, _⟩ := h
    rfl
  obtain ⟨a, x, rfl, ⟨dx, t, h1, h2⟩, hl, k⟩ := h
  refine ⟨_, pss_one (ps_ret (pe_op op_cat (pe_op op_cat (pe_lst (pa_cons (pe_fld (pv 0) rfl) pa_nil)) (pe_callTy call_list_of (by rfl) T.zlist (by decide +kernel) (pa_cons (pe_fld (pv 0) rfl) pa_nil))) (pe_lst (pa_cons (pe_fld (pv 0) rfl) (pa_cons (pe_fld (pv 0) rfl) pa_nil))))), ?_⟩
  refine ⟨_, rfl, a, A.CD, dx, _, _, rfl, h1, T.clCD, T.nCDsoil, dF_soil t x, (by show 1 ≤ sizeLine; decide), fun p1 n1 => ?_⟩
  have s1 := sUpd (o := .lst [vn x.soil]) n1
  refine ⟨_, rfl, a, A.CD, dx, _, _, rfl, s1 _ _ h1, T.clCD, T.nCDsown, dF_sown t x, t, _, rfl, .inr (SqT.of (s1 _ _ h2)), fun p2 n2 => ?_⟩
  have s2 := sUpd (o := .lst (x.last.map vn)) n2
  refine ⟨p1, p2, _, _, rfl, rfl, s2 _ _ upd_same, upd_same, ?_, fun p3 n3 => ?_⟩
  · rw [List.length_map, sizeLine_eq]
    show 1 + x.last.length ≤ 16777216
    omega
  have s3 := sUpd (o := .lst ([vn x.soil] ++ x.last.map vn)) n3
  have s13 := (s1.trans s2).trans s3
  refine ⟨_, rfl, a, A.CD, dx, _, _, rfl, s13 _ _ h1, T.clCD, T.nCDyears, dF_years t x, _, rfl, a, A.CD, dx, _, _, rfl, s13 _ _ h1, T.clCD, T.nCDbrought, dF_brought t x, (by show 2 ≤ sizeLine; decide), fun p4 n4 => ?_⟩
  have s4 := sUpd (o := .lst [vn x.years, vn x.brought]) n4
  refine ⟨p3, p4, _, _, rfl, rfl, s4 _ _ upd_same, upd_same, ?_, fun p5 n5 => ?_⟩
  · rw [List.length_append, List.length_map, sizeLine_eq]
    show 1 + x.last.length + 2 ≤ 16777216
    omega
  have s5 := sUpd (o := .lst (([vn x.soil] ++ x.last.map vn) ++ [vn x.years, vn x.brought])) n5
  have s15 := (s13.trans s4)
  refine k _ p5 (s15.trans s5) (s15.free n5) (upd_same.trans ?_)
  unfold toldF
  rw [List.map_append, List.map_append]
  rfl
/-- what was sown in the last three years, a crop having been sown -/
def spBehind : Sp := fun vs H Q _ => ∃ (t : Addr) (n a b c : Nat), vs = [.ref t, vn n] ∧ H t = some (.tup [vn a, vn b, vn c]) ∧
  ∀ (H' : Hp) (p : Addr), Same H H' → H p = none → H' p = some (.tup [vn n, vn a, vn b]) → Q (.ref p) H'
theorem ok_behind (T : Txt K mg A) : FnOk P w K mg base CX0 1 A.behind A.behindD pBehind spBehind := by
  refine T.fBehind.ok scBehind (fun vs H Q E h => ?_) (fun cdv Ar outer s H vs Q E hr h => ?_)
  · obtain ⟨t, n, a, b, c, rfl, _⟩ := h
    rfl
  obtain ⟨t, n, a, b, c, rfl, ht, k⟩ := h
  refine ⟨_, pss_one (ps_ret (pe_slice sl_tupA (pe_op op_catA (pe_tup (pa_cons (pv 1) pa_nil)) (pv 0)) po_none (po_some (pe_glob rfl T.gLAST_YEARS (rvi _ _))))), ?_⟩
  refine ⟨_, rfl, (by show 1 ≤ sizeLine; decide), fun p1 n1 => ?_⟩
  have s1 := sUpd (o := .tup [vn n]) n1
  refine ⟨_, rfl, p1, t, _, _, rfl, rfl, SqT.of upd_same, SqT.of (s1 _ _ ht), (by show 4 ≤ sizeLine; decide), (fun z => nomatch z), (fun _ z => nomatch z), fun _ _ p2 n2 => ?_⟩
  have s2 := sUpd (o := .tup ([vn n] ++ [vn a, vn b, vn c])) n2
  refine ⟨_, rfl, p2, _, rfl, SqT.of upd_same, fun z => ?_, fun _ p3 n3 => ?_⟩
  · exact absurd z.2 (by show ¬ HT.sIx 4 4 (some 3) = 4; decide)
  · have s3 := sUpd (o := .tup (cutV ([vn n] ++ [vn a, vn b, vn c]) none (some 3))) n3
    exact k _ p3 ((s1.trans s2).trans s3) ((s1.trans s2).free n3) upd_same
end
end Yf
/-! ### the crops of a row -/
namespace Yf
open PySem PySem.Spec PyProof.Rows L2
theorem rg6 : ∀ k : Fin 11, Builtin.Range.small 0 ((6 * k.val : Nat) : Int) 6 = true ∧ Builtin.Range.rangeSize 0 ((6 * k.val : Nat) : Int) 6 = k.val := by decide +kernel
theorem rg_row {n : Nat} (h6 : n % 6 = 0) (hn : n ≤ 60) : RgC 0 (n : Int) 6 (n / 6) := by
  have h := rg6 ⟨n / 6, by omega⟩
  have e : 6 * (n / 6) = n := by omega
  dsimp only at h
  rw [e] at h
  exact ⟨by decide, by decide, h.1, h.2⟩
theorem getD_nn {row : List Int} (h : ∀ x ∈ row, 0 ≤ x) (i : Nat) : 0 ≤ row.getD i 0 := by
  rw [List.getD_eq_getElem?_getD]
  cases e : row[i]? with
  | none => exact Int.le_refl 0
  | some x => exact h x (List.mem_of_getElem? e)
theorem int_vn {z : Int} (h : 0 ≤ z) : V.int z = vn z.toNat := congrArg V.int (by omega)
theorem row_at {row : List Int} {i : Nat} {z : Int} (hi : i < row.length) (hz : z = (i : Int)) : atI (row.map V.int) z = some (.int (row.getD i 0)) := by
  subst hz
  refine atI_nat ?_
  rw [List.getElem?_map, List.getD_eq_getElem?_getD, List.getElem?_eq_getElem hi]
  rfl
theorem cut_ints (row : List Int) (a b : Nat) {z1 z2 : Int} (h1 : z1 = (a : Int)) (h2 : z2 = (b : Int)) (hb : b ≤ row.length) : cutV (row.map V.int) (some z1) (some z2) = ((row.drop a).take (b - a)).map V.int := by
  subst h1 h2
  unfold cutV
  rw [HT.sIx_nat, HT.sIx_nat, List.length_map, Nat.min_eq_left hb, List.map_take, List.map_drop]
  by_cases ha : a ≤ row.length
  · rw [Nat.min_eq_left ha]
  · rw [Nat.min_eq_right (by omega), show b - row.length = 0 by omega, show b - a = 0 by omega, List.take_zero, List.take_zero]
theorem drop3 {row : List Int} {i : Nat} (h : i + 3 ≤ row.length) : (row.drop i).take 3 = [row.getD i 0, row.getD (i + 1) 0, row.getD (i + 2) 0] := by
  apply List.ext_getElem?
  intro j
  match j with
  | 0 =>
    rw [List.getElem?_take_of_lt (by omega), List.getElem?_drop, List.getElem?_eq_getElem (by omega)]
    show _ = some (row.getD i 0)
    rw [List.getD_eq_getElem?_getD, List.getElem?_eq_getElem (by omega)]; rfl
  | 1 =>
    rw [List.getElem?_take_of_lt (by omega), List.getElem?_drop, List.getElem?_eq_getElem (by omega)]
    show _ = some (row.getD (i + 1) 0)
    rw [List.getD_eq_getElem?_getD, List.getElem?_eq_getElem (by omega)]; rfl
  | 2 =>
    rw [List.getElem?_take_of_lt (by omega), List.getElem?_drop, List.getElem?_eq_getElem (by omega)]
    show _ = some (row.getD (i + 2) 0)
    rw [List.getD_eq_getElem?_getD, List.getElem?_eq_getElem (by omega)]; rfl
  | j + 3 => rw [List.getElem?_eq_none (by rw [List.length_take]; omega), List.getElem?_eq_none (by simp)]
section
variable {P : Program} {w : World} {K : PySem.W.Frag} {mg : Str → Option Value} {base : Heap} {A : Ad}
def spCropsOf (K : PySem.W.Frag) (A : Ad) : Sp := fun vs H Q _ => ∃ (a : Addr) (row : List Int), vs = [.ref a] ∧ SqL K H a (row.map V.int) ∧ row.length % 6 = 0 ∧ row.length ≤ 60 ∧ (∀ x ∈ row, 0 ≤ x) ∧
  ∀ (H' : Hp) (p : Addr) (as : List Addr), Same H H' → H p = none → H' p = some (.lst (as.map V.ref)) → as.length = row.length / 6 → (∀ (j : Nat) (b : Addr), as[j]? = some b → CropAt A H' b (cropAt row j)) → Q (.ref p) H'
theorem ok_cropsOf (T : Txt K mg A) : FnOk P w K mg base CX0 3 A.cropsOf A.cropsOfD pCropsOf (spCropsOf K A) := by
  refine T.fCropsOf.ok scCropsOf (fun vs H Q E h => ?_) (fun cdv Ar outer s H vs Q E hr h => ?_)
  · obtain ⟨a, row, rfl, _⟩ := h
    rfl
  obtain ⟨a, row, rfl, hS, h6, h60, hnn, k⟩ := h
  refine ⟨_, pss_cons (ps_set (i := 1) scCropsOf.nd rfl (Or.inl rfl) (pe_lst pa_nil))
    (pss_cons (ps_for PassesOwn.never rfl (pi_range3 rfl T.zrange (pa_cons pe_int (pa_cons (pe_callB call_len_seq (by rfl) T.zlen PySem.boot_len (pa_cons (pv 0) pa_nil)) (pa_cons (pe_glob rfl T.gNUMBERS (rvi _ _)) pa_nil)))) (pg_name (i := 2) scCropsOf.nd rfl (Or.inl rfl))
      (pss_one (ps_expr (pe_bm PySem.F.plainAttrs_list PySem.F.slot_list_append PySem.F.type_list_append mt_append (pv 1) (pa_cons (pe_make T.mkCC (ok_cInit T) hr rfl T.gCC T.bCInit .nil pass0
        (pa_cons (pe_ix ix_list (pv 0) (pv 2) (fun _ _ => rfl)) (pa_cons (pe_ix ix_list (pv 0) (pe_op op_add (pv 2) pe_int) (fun _ _ => rfl)) (pa_cons (pe_ix ix_list (pv 0) (pe_op op_add (pv 2) pe_int) (fun _ _ => rfl))
          (pa_cons (pe_slice sl_list (pv 0) (po_some (pe_op op_add (pv 2) pe_int)) (po_some (pe_op op_add (pv 2) (pe_glob rfl T.gNUMBERS (rvi _ _))))) pa_nil))))) pa_nil)))))
    (pss_one (ps_ret (pv 1)))), ?_⟩
  refine ⟨(by show 0 ≤ sizeLine; decide), fun F hF => ?_⟩
  have sF := sUpd (o := .lst []) hF
  refine ⟨_, rfl, a, _, rfl, .inl (sF.seq hS), 0, ((row.map V.int).length : Int), 6, row.length / 6, rfl, by rw [List.length_map]; exact rg_row h6 h60, ?_⟩
  refine for_rangeC (lo := 0) (c := 6) (n := row.length / 6) (fun i σ H' => ∃ (v : Option V) (as : List Addr), σ = [some (.ref a), some (.ref F), v] ∧ Same H H' ∧ H' F = some (.lst (as.map V.ref)) ∧ as.length = i ∧ ∀ (j : Nat) (b : Addr), as[j]? = some b → CropAt A H' b (cropAt row j))
    ⟨none, [], rfl, sF, upd_same, rfl, fun j b e => by simp at e⟩ ?_ ?_
  · rintro i σ H' hi ⟨v, as, rfl, s1, eF, ha, hc⟩
    have hS1 := s1.seq hS
    have hi6 : 6 * i + 6 ≤ row.length := by omega
    refine ⟨_, rfl, .inl ⟨rfl, _, SqL.of eF⟩, ?_⟩
    refine ⟨_, rfl, _, rfl, a, _, _, _, rfl, rfl, hS1, row_at (i := 6 * i) (by omega) (by omega), ?_⟩
    refine ⟨_, rfl, _, rfl, _, _, rfl, rfl, a, _, _, _, rfl, rfl, hS1, row_at (i := 6 * i + 1) (by omega) (by omega), ?_⟩
    refine ⟨_, rfl, _, rfl, _, _, rfl, rfl, a, _, _, _, rfl, rfl, hS1, row_at (i := 6 * i + 2) (by omega) (by omega), ?_⟩
    refine ⟨_, rfl, _, rfl, _, _, rfl, rfl, _, rfl, _, rfl, _, _, rfl, rfl, _, rfl, a, _, rfl, hS1, fun W hW => ?_⟩
    intro x dx nx nd ne
    refine ⟨x, dx, W, _, _, _, rfl, upd_same, fun H2 e2 kp => ⟨rfl, ?_⟩⟩
    have sW : Same H' _ := sUpd (o := .lst (cutV (row.map V.int) (some (0 + (i : Int) * 6 + 3)) (some (0 + (i : Int) * 6 + 6)))) hW
    have s2 : Same _ H2 := Same.made nx nd kp
    have s12 := sW.trans s2
    refine ⟨F, as.map V.ref, .ref x, rfl, rfl, s12 _ _ eF, by rw [List.length_map, sizeLine_eq]; omega, ?_⟩
    have cx : CropAt A H2 x (cropAt row i) := by
      refine ⟨dx, W, ?_, ?_⟩
      · rw [e2]
        unfold cropF cropAt
        dsimp only
        rw [← int_vn (getD_nn hnn _), ← int_vn (getD_nn hnn _), ← int_vn (getD_nn hnn _)]
      · rw [s2 _ _ upd_same, cut_ints row (6 * i + 3) (6 * i + 6) (by omega) (by omega) hi6, show 6 * i + 6 - (6 * i + 3) = 3 by omega, drop3 (by omega)]
        show some (HO.lst [V.int (row.getD (6 * i + 3) 0), V.int (row.getD (6 * i + 4) 0), V.int (row.getD (6 * i + 5) 0)]) = some (HO.lst [vn (row.getD (6 * i + 3) 0).toNat, vn (row.getD (6 * i + 4) 0).toNat, vn (row.getD (6 * i + 5) 0).toNat])
        rw [int_vn (getD_nn hnn (6 * i + 3)), int_vn (getD_nn hnn (6 * i + 4)), int_vn (getD_nn hnn (6 * i + 5))]
    have keep : ∀ {b : Addr} {j : Nat}, CropAt A H2 b (cropAt row j) → CropAt A (upd H2 F (.lst (as.map V.ref ++ [.ref x]))) b (cropAt row j) := by
      rintro b j ⟨db, wb, g1, g2⟩
      have gF := s12 _ _ eF
      refine ⟨db, wb, (upd_ne (ne_of g1 gF fun z => nomatch z)).trans g1, ?_⟩
      by_cases q : wb = F
      · subst q
        rw [g2] at gF
        have z := HO.lst.inj (Option.some.inj gF)
        exfalso
        cases as with
        | nil => cases z
        | cons a0 as => exact V.noConfusion (List.cons.inj z).1
      · exact (upd_ne q).trans g2
    refine ⟨some (.int (0 + (i : Int) * 6)), as ++ [x], rfl, ?_, ?_, ?_, ?_⟩
    · intro b o e
      rw [upd_ne (ne_of_none e hF)]
      exact s12 _ _ (s1 _ _ e)
    · rw [List.map_append]
      exact upd_same
    · rw [List.length_append, ha]
      rfl
    · intro j b e
      by_cases hj : j < as.length
      · rw [List.getElem?_append_left hj] at e
        exact keep ((hc j b e).same s12)
      · rw [List.getElem?_append_right (by omega)] at e
        have : j = i := by
          by_cases q : j - as.length = 0
          · omega
          · rw [show j - as.length = (j - as.length - 1) + 1 by omega] at e
            simp at e
        subst this
        rw [show j - as.length = 0 by omega] at e
        cases e
        exact keep cx
  · rintro σ H' ⟨v, as, rfl, s1, eF, ha, hc⟩
    exact ⟨_, rfl, k H' F as s1 hF eF ha hc⟩
end
end Yf
/-! ### a farm's dict of crops; a farm made -/
namespace Yf
open PySem PySem.Spec PyProof.Rows L2
theorem kvs_none (f : Km350.Farm) {z : Int} : ∀ (as : List Addr) (n : Nat), (∀ j, n ≤ j → j < n + as.length → ((f.name j : Nat) : Int) ≠ z) →
    valV ((as.zipIdx n).map fun p => (Sum.inl ((f.name p.2 : Nat) : Int), V.ref p.1)) (Sum.inl z : Key) = none
  | [], _, _ => rfl
  | a :: as, n, h => by
    rw [List.zipIdx_cons, List.map_cons, valV_neg]
    · exact kvs_none f as (n + 1) fun j h1 h2 => h j (by omega) (by rw [List.length_cons]; omega)
    · intro e
      exact h n (Nat.le_refl _) (by rw [List.length_cons]; omega) (Sum.inl.inj e)
theorem kvs_some (f : Km350.Farm) : ∀ (as : List Addr) (n k : Nat) (a : Addr), as[k]? = some a → (∀ j, n ≤ j → j < n + k → f.name j ≠ f.name (n + k)) →
    valV ((as.zipIdx n).map fun p => (Sum.inl ((f.name p.2 : Nat) : Int), V.ref p.1)) (Sum.inl ((f.name (n + k) : Nat) : Int) : Key) = some (.ref a)
  | [], _, _, _, e, _ => by simp at e
  | b :: as, n, 0, a, e, _ => by
    cases e
    rw [List.zipIdx_cons, List.map_cons]
    exact valV_pos rfl
  | b :: as, n, k + 1, a, e, h => by
    rw [List.zipIdx_cons, List.map_cons, valV_neg]
    · have q := kvs_some f as (n + 1) k a e fun j h1 h2 => by
        have := h j (by omega) (by omega)
        rw [show n + 1 + k = n + (k + 1) by omega]
        exact this
      rw [show n + 1 + k = n + (k + 1) by omega] at q
      exact q
    · intro q
      have q' := Sum.inl.inj q
      dsimp only at q'
      exact h n (Nat.le_refl _) (by omega) (by omega)
theorem crops_get {f : Km350.Farm} (hf : OkF f) {as : List Addr} (hl : as.length = f.crops.length + 1) {k : Nat} (hk : k ≤ f.crops.length) : ∃ a, as[k]? = some a ∧ valV (cropKvs f as) (Sum.inl ((f.name k : Nat) : Int)) = some (.ref a) := by
  refine ⟨as[k], List.getElem?_eq_getElem (by omega), ?_⟩
  have q := kvs_some f as 0 k as[k] (List.getElem?_eq_getElem (by omega)) fun j _ h2 e => by
    rw [Nat.zero_add] at e
    have := name_inj hf (by omega) hk e
    omega
  rw [Nat.zero_add] at q
  exact q
theorem crops_not {f : Km350.Farm} {as : List Addr} {z : Int} (h : ∀ j, ((f.name j : Nat) : Int) ≠ z) : valV (cropKvs f as) (Sum.inl z) = none := kvs_none f as 0 fun j _ _ => h j
theorem kvs_snoc (f : Km350.Farm) (as : List Addr) (a : Addr) : cropKvs f (as ++ [a]) = cropKvs f as ++ [(Sum.inl ((f.name as.length : Nat) : Int), .ref a)] := by
  unfold cropKvs
  rw [List.zipIdx_append, List.map_append]
  show _ = _
  rw [Nat.zero_add]
  rfl
theorem kvs_keys (f : Km350.Farm) : ∀ (as : List Addr) (n : Nat), ((as.zipIdx n).map fun p => ((Sum.inl ((f.name p.2 : Nat) : Int), V.ref p.1) : Key × V)).map (·.1) = (((List.range' n as.length).map fun k => ((f.name k : Nat) : Int)).map Sum.inl)
  | [], _ => rfl
  | a :: as, n => by
    rw [List.zipIdx_cons, List.map_cons, List.map_cons, List.length_cons, List.range'_succ, List.map_cons, List.map_cons, kvs_keys f as (n + 1)]
theorem kvs_len (f : Km350.Farm) (as : List Addr) : (cropKvs f as).length = as.length := by
  unfold cropKvs
  rw [List.length_map, List.length_zipIdx]
theorem take_more {α : Type} : ∀ {l : List α} {i : Nat} {x : α}, l[i]? = some x → l.take (i + 1) = l.take i ++ [x]
  | [], i, x, h => by simp at h
  | a :: l, 0, x, h => by
    have e : a = x := Option.some.inj h
    subst e
    rfl
  | a :: l, i + 1, x, h => by
    have ih := take_more (l := l) (i := i) (x := x) h
    show a :: l.take (i + 1) = a :: l.take i ++ [x]
    rw [ih]
    rfl
section
variable {P : Program} {w : World} {K : PySem.W.Frag} {mg : Str → Option Value} {base : Heap} {A : Ad}
def spFInit (P : Program) (w : World) (A : Ad) : Sp := fun vs H Q _ => ∃ (p dx lc : Addr) (f : Km350.Farm) (as : List Addr), vs = [.ref p, .ref lc, vn f.weathers, vn f.fallow] ∧ H p = some (.ins A.CF dx []) ∧ H lc = some (.lst (as.map V.ref)) ∧
  as.length = f.crops.length ∧ f.crops.length ≤ 6 ∧ (∀ (k : Nat) (a : Addr), as[k]? = some a → CropAt A H a (f.crop k)) ∧
  ∀ (H' : Hp) (dC lF dF : Addr), But p H H' → FarmS A H' p f dC lF dF → H lF = none → H' lF = some (.lst []) → H dF = none → H' dF = some (Ndt P w dF []) → Q .non H'
theorem crop_but {H H' : Hp} {p b dx : Addr} {c : Km350.Crop} (s : But p H H') (hp : H p = some (.ins A.CF dx [])) (h : CropAt A H b c) : CropAt A H' b c := by
  obtain ⟨db, wb, g1, g2⟩ := h
  exact ⟨db, wb, s _ _ g1 (ne_of g1 hp fun z => nomatch (HO.ins.inj z).2.2), s _ _ g2 (ne_of g2 hp fun z => nomatch z)⟩
theorem ok_fInit (T : Txt K mg A) : FnOk P w K mg base CX0 4 A.fInit A.fInitD pFInit (spFInit P w A) := by
  refine T.fFInit.ok scFInit (fun vs H Q E h => ?_) (fun cdv Ar outer s H vs Q E hr h => ?_)
  · obtain ⟨p, dx, lc, f, as, rfl, _⟩ := h
    rfl
  obtain ⟨p, dx, lc, f, as, rfl, hp, hlc, hal, h6, hc, k⟩ := h
  have hu := hu_of hr
  refine ⟨_, pss_cons (ps_fld (pv 0) pe_dnewK rfl)
    (pss_cons (ps_for PassesOwn.never rfl (pi_range1 rfl T.zrange (pa_cons (pe_callB call_len_seq (by rfl) T.zlen PySem.boot_len (pa_cons (pv 1) pa_nil)) pa_nil)) (pg_name (i := 4) scFInit.nd rfl (Or.inl rfl))
      (pss_one (ps_dput hu (pe_fld (pv 0) rfl) (pv 4) (pe_ix ix_list (pv 1) (pv 4) (fun _ _ => rfl)) rfl)))
    (pss_cons (ps_dput hu (pe_fld (pv 0) rfl) (pe_glob rfl T.gNOTHING (rvi _ _)) (pe_call (ok_noth T) hr rfl T.gNoth T.fNoth.kp T.bNoth .nil pass0 (pa_cons (pv 3) pa_nil)) rfl)
    (pss_cons (ps_fld (pv 0) (pv 2) rfl) (pss_cons (ps_fld (pv 0) (pe_lst pa_nil) rfl) (pss_one (ps_fld (pv 0) pe_nnew rfl)))))), ?_⟩
  intro dC hdC
  have npd : p ≠ dC := ne_of_none hp hdC
  refine ⟨_, rfl, p, A.CF, dx, [], rfl, (upd_ne npd).trans hp, T.clCF, T.nCFcrops, thou few0 (by decide), ?_⟩
  refine ⟨_, rfl, lc, as.map V.ref, rfl, .inl (SqL.of ?_), _, rfl, by omega, ?_, ?_⟩
  · rw [upd_ne (ne_of hlc hp fun z => nomatch z), upd_ne (ne_of_none hlc hdC)]
    exact hlc
  · rw [List.length_map]
    omega
  refine for_range (lo := 0) (n := (as.map V.ref).length) (fun i σ H' => ∃ v : Option V, σ = [some (.ref p), some (.ref lc), some (vn f.weathers), some (vn f.fallow), v] ∧ H' p = some (.ins A.CF dx (putF "crops" (.ref dC) [])) ∧ H' dC = some (.dK (cropKvs f (as.take i))) ∧ But p H H')
    ⟨none, rfl, upd_same, ?_, ?_⟩ ?_ ?_
  · rw [upd_ne npd.symm]
    exact upd_same
  · intro b o e hb
    rw [upd_ne hb, upd_ne (ne_of_none e hdC)]
    exact e
  · rintro i σ H' hi ⟨v, rfl, ep, eC, s1⟩
    rw [List.length_map] at hi
    have hlc' := s1 _ _ hlc (ne_of hlc hp fun z => nomatch z)
    have hai : as[i]? = some as[i] := List.getElem?_eq_getElem hi
    refine ⟨_, rfl, _, rfl, lc, _, _, .ref as[i], rfl, rfl, SqL.of hlc', at_of (j := i) (by omega) (by rw [List.getElem?_map, hai]; rfl), ?_⟩
    refine ⟨_, rfl, p, A.CF, dx, _, _, rfl, ep, T.clCF, T.nCFcrops, lk0, _, rfl, dC, _, rfl, DPut.k (k := Sum.inl (0 + (i : Int))) eC (by rw [kvs_len, List.length_take, sizeLine_eq]; omega), ?_⟩
    refine ⟨some (.int (0 + (i : Int))), rfl, (upd_ne npd).trans ep, ?_, ?_⟩
    · rw [upd_same, take_more hai, kvs_snoc, putK_new]
      · have e1 : (as.take i).length = i := by rw [List.length_take]; omega
        rw [e1, name_lt (by omega), Int.zero_add]
      · refine kvs_none f (as.take i) 0 fun j _ h2 e => ?_
        rw [List.length_take] at h2
        rw [name_lt (by omega)] at e
        omega
    · intro b o e hb
      rw [upd_ne (ne_of_none e hdC)]
      exact s1 _ _ e hb
  · rintro σ H' ⟨v, rfl, ep, eC, s1⟩
    rw [List.length_map, List.take_length] at eC
    -- self.crops[NOTHING] = nothing(fallow)
    refine ⟨_, rfl, f.fallow, rfl, fun H2 an s2 nn ca => ?_⟩
    have ep2 := s2 _ _ ep
    have eC2 := s2 _ _ eC
    refine ⟨_, rfl, p, A.CF, dx, _, _, rfl, ep2, T.clCF, T.nCFcrops, lk0, dC, _, rfl, DPut.k (k := Sum.inl 255) eC2 (by rw [kvs_len, sizeLine_eq]; omega), ?_⟩
    have eK : putK (cropKvs f as) (Sum.inl 255) (.ref an) = cropKvs f (as ++ [an]) := by
      rw [kvs_snoc, hal, name_ge (Nat.le_refl _), putK_new]
      · rfl
      · refine kvs_none f as 0 fun j _ h2 e => ?_
        rw [name_lt (by omega)] at e
        omega
    rw [eK]
    generalize e3 : upd H2 dC (.dK (cropKvs f (as ++ [an]))) = H3
    have a3 : H3 dC = some (.dK (cropKvs f (as ++ [an]))) := e3 ▸ upd_same
    have k3 : ∀ b, b ≠ dC → H3 b = H2 b := fun b h => e3 ▸ upd_ne h
    clear e3
    -- weathers, fields, found
    refine ⟨_, rfl, _, rfl, p, A.CF, dx, _, rfl, (k3 p npd).trans ep2, T.clCF, T.nCFweathers, thou (few few0) (by decide), ?_⟩
    generalize e4 : upd H3 p (.ins A.CF dx (putF "weathers" (vn f.weathers) (putF "crops" (.ref dC) []))) = H4
    have a4 : H4 p = some (.ins A.CF dx (putF "weathers" (vn f.weathers) (putF "crops" (.ref dC) []))) := e4 ▸ upd_same
    have k4 : ∀ b, b ≠ p → H4 b = H3 b := fun b h => e4 ▸ upd_ne h
    clear e4
    refine ⟨(by show 0 ≤ sizeLine; decide), fun lF nF => ?_⟩
    generalize e5 : upd H4 lF (.lst []) = H5
    have a5 : H5 lF = some (.lst []) := e5 ▸ upd_same
    have k5 : Same H4 H5 := e5 ▸ sUpd nF
    clear e5
    refine ⟨_, rfl, p, A.CF, dx, _, rfl, k5 _ _ a4, T.clCF, T.nCFfields, thou (few (few few0)) (by decide), ?_⟩
    generalize e6 : upd H5 p (.ins A.CF dx (putF "fields" (.ref lF) (putF "weathers" (vn f.weathers) (putF "crops" (.ref dC) [])))) = H6
    have a6 : H6 p = some (.ins A.CF dx (putF "fields" (.ref lF) (putF "weathers" (vn f.weathers) (putF "crops" (.ref dC) [])))) := e6 ▸ upd_same
    have k6 : ∀ b, b ≠ p → H6 b = H5 b := fun b h => e6 ▸ upd_ne h
    clear e6
    intro dF nD
    refine ⟨_, rfl, p, A.CF, dx, _, rfl, (upd_ne (ne_of_none a6 nD)).trans a6, T.clCF, T.nCFfound, thou (few (few (few few0))) (by decide), ?_⟩
    have e8' : ∀ G : Hp, G = upd (upd H6 dF (Ndt P w dF [])) p (.ins A.CF dx (putF "found" (.ref dF) (putF "fields" (.ref lF) (putF "weathers" (vn f.weathers) (putF "crops" (.ref dC) []))))) → Q .non G := by
      intro H8 e8
      generalize e7 : upd H6 dF (Ndt P w dF []) = H7 at e8
      have a7 : H7 dF = some (Ndt P w dF []) := e7 ▸ upd_same
      have k7 : Same H6 H7 := e7 ▸ sUpd nD
      have a8 : H8 p = some (.ins A.CF dx (farmF dC f.weathers lF dF)) := by
        rw [e8, upd_same]
        exact congrArg (fun q => some (HO.ins A.CF dx q)) (fF_new _ _ _ _)
      have k8 : ∀ b, b ≠ p → H8 b = H7 b := fun b h => by rw [e8]; exact upd_ne h
      have npF : lF ≠ p := (ne_of_none a4 nF).symm
      have npD : dF ≠ p := (ne_of_none a6 nD).symm
      -- from H2 on: all but p and dC stand
      have s28 : ∀ b o, H2 b = some o → b ≠ p → b ≠ dC → H8 b = some o := fun b o e h1 h2 => by
        rw [k8 b h1]
        refine k7 _ _ ?_
        rw [k6 b h1]
        refine k5 _ _ ?_
        rw [k4 b h1, k3 b h2]
        exact e
      have aC : H8 dC = some (.dK (cropKvs f (as ++ [an]))) := by
        rw [k8 dC npd.symm]
        refine k7 _ _ ?_
        rw [k6 dC npd.symm]
        refine k5 _ _ ?_
        rw [k4 dC npd.symm]
        exact a3
      have s08 : But p H H8 := fun b o e hb => s28 b o (s2 _ _ (s1 _ _ e hb)) hb (ne_of_none e hdC)
      have hF0 : H lF = none := by
        cases q : H lF with
        | none => rfl
        | some o =>
          have := s2 _ _ (s1 _ _ q npF)
          rw [← k3 lF (ne_of_none q hdC), ← k4 lF npF, nF] at this
          cases this
      have hD0 : H dF = none := by
        cases q : H dF with
        | none => rfl
        | some o =>
          have h1 := s2 _ _ (s1 _ _ q npD)
          rw [← k3 dF (ne_of_none q hdC), ← k4 dF npD] at h1
          have h2 := k5 _ _ h1
          rw [← k6 dF npD, nD] at h2
          cases h2
      refine k H8 dC lF dF s08 ⟨⟨dx, a8⟩, as ++ [an], by rw [List.length_append, hal]; rfl, aC, fun j b e => ?_⟩ hF0 ?_ hD0 ?_
      · by_cases hj : j < as.length
        · rw [List.getElem?_append_left hj] at e
          exact crop_but s08 hp (hc j b e)
        · rw [List.getElem?_append_right (by omega)] at e
          have : j = as.length := by
            by_cases q : j - as.length = 0
            · omega
            · rw [show j - as.length = (j - as.length - 1) + 1 by omega] at e
              simp at e
          subst this
          rw [Nat.sub_self] at e
          cases e
          rw [crop_ge (by omega)]
          obtain ⟨db, wb, g1, g2⟩ := ca
          exact ⟨db, wb, s28 _ _ g1 (ne_of g1 ep2 fun z => nomatch (List.cons.inj (HO.ins.inj z).2.2).2) (ne_of g1 eC2 fun z => nomatch z), s28 _ _ g2 (ne_of g2 ep2 fun z => nomatch z) (ne_of g2 eC2 fun z => nomatch z)⟩
      · rw [k8 lF npF]
        refine k7 _ _ ?_
        rw [k6 lF npF]
        exact a5
      · rw [k8 dF npD]
        exact a7
    exact e8' _ rfl
end
end Yf
/-! ### what may be sown; the least harvest -/
namespace Yf
open PySem PySem.Spec PyProof.Rows L2
theorem sPut {H H' : Hp} {D : Addr} {o : HO} (s : Same H H') (hD : H D = none) : Same H (upd H' D o) := fun b q e => by
  rw [upd_ne (ne_of_none e hD)]
  exact s b q e
/-- the numbers of the crops, rising -/
def names (f : Km350.Farm) : List Int := (List.range (f.crops.length + 1)).map fun k => ((f.name k : Nat) : Int)
theorem names_keys {f : Km350.Farm} {as : List Addr} (h : as.length = f.crops.length + 1) : (cropKvs f as).map (·.1) = (names f).map Sum.inl := by
  have q := kvs_keys f as 0
  rw [h, ← List.range_eq_range'] at q
  exact q
theorem pair_range (g : Nat → Int) (h : ∀ i j, i ≤ j → g i ≤ g j) : ∀ n, ((List.range n).map g).Pairwise (· ≤ ·)
  | 0 => List.Pairwise.nil
  | n + 1 => by
    rw [List.range_succ, List.map_append, List.pairwise_append]
    refine ⟨pair_range g h n, ?_, fun a ha b hb => ?_⟩
    · exact List.pairwise_singleton _ _
    · obtain ⟨i, hi, rfl⟩ := List.mem_map.mp ha
      have hb' : b = g n := by
        rcases List.mem_map.mp hb with ⟨j, hj, e⟩
        rw [List.mem_singleton.mp hj] at e
        exact e.symm
      rw [hb']
      exact h i n (by have := List.mem_range.mp hi; omega)
theorem names_up {f : Km350.Farm} (hf : OkF f) : (names f).Pairwise (· ≤ ·) := pair_range _ (fun i j h => Int.ofNat_le.mpr (name_mono hf h)) _
theorem names_at {f : Km350.Farm} {i : Nat} {x : V} (h : ((names f).map V.int)[i]? = some x) : i ≤ f.crops.length ∧ x = vn (f.name i) := by
  have hi : i < ((names f).map V.int).length := (List.getElem?_eq_some_iff.mp h).1
  unfold names at hi h
  rw [List.length_map, List.length_map, List.length_range] at hi
  rw [List.getElem?_map, List.getElem?_map, List.getElem?_eq_getElem (by rw [List.length_range]; exact hi), List.getElem_range] at h
  exact ⟨by omega, (Option.some.inj h).symm⟩
/-- the first i numbers, those that may be sown -/
def sownTo (f : Km350.Farm) (last : List Nat) (i : Nat) : List V := ((List.range i).filter fun k => f.may last k).map fun k => vn (f.name k)
theorem sownTo_succ (f : Km350.Farm) (last : List Nat) (i : Nat) : sownTo f last (i + 1) = if f.may last i = true then sownTo f last i ++ [vn (f.name i)] else sownTo f last i := by
  unfold sownTo
  rw [List.range_succ, List.filter_append, List.map_append]
  by_cases h : f.may last i = true
  · rw [if_pos h, List.filter_cons, if_pos h]
    rfl
  · rw [if_neg h, List.filter_cons, if_neg h, List.filter_nil, List.map_nil, List.append_nil]
theorem sownTo_len (f : Km350.Farm) (last : List Nat) (i : Nat) : (sownTo f last i).length ≤ i := by
  unfold sownTo
  rw [List.length_map]
  exact Nat.le_trans (List.length_filter_le _ _) (by rw [List.length_range]; exact Nat.le_refl _)
section
variable {P : Program} {w : World} {K : PySem.W.Frag} {mg : Str → Option Value} {base : Heap} {A : Ad}
def spFMay (A : Ad) : Sp := fun vs H Q _ => ∃ (fa t dC lF dF : Addr) (f : Km350.Farm) (last : List Nat), vs = [.ref fa, .ref t] ∧ OkF f ∧ FarmS A H fa f dC lF dF ∧ H t = some (.tup (last.map vn)) ∧
  ∀ (H' : Hp) (p : Addr), Same H H' → H p = none → H' p = some (.lst ((f.choices last).map fun k => vn (f.name k))) → Q (.ref p) H'
theorem ok_fMay (T : Txt K mg A) : FnOk P w K mg base CX0 2 A.fMay A.fMayD pFMay (spFMay A) := by
  refine T.fFMay.ok scFMay (fun vs H Q E h => ?_) (fun cdv Ar outer s H vs Q E hr h => ?_)
  · obtain ⟨fa, t, dC, lF, dF, f, last, rfl, _⟩ := h
    rfl
  obtain ⟨fa, t, dC, lF, dF, f, last, rfl, hf, ⟨⟨dx, h1⟩, as, hal, hC, hcs⟩, ht, k⟩ := h
  have hu := hu_of hr
  refine ⟨_, pss_one (ps_ret (pe_lc (own := [("number", 2)]) (g := gName 2) (tt := tB (tMeth A.CC "may_follow" (spCFoll A) [] E0 (tDGet (tFld K (tVar 0) "crops") (tVar 2)) (tCons (tVar 2) (tCons (tVar 1) tNil)))) (te := tVar 2) rfl scFMay.nd
    (pi_list (pe_callB (call_sortedDI rfl) (by rfl) T.zsorted (by decide +kernel) (pa_cons (pe_fld (pv 0) rfl) pa_nil)))
    (blkOk_by (own := [("number", 2)]) (N := nFMay) (sc := defScope sFMay) (by decide +kernel))
    (fun _ _ _ _ _ => pg_name (i := 2) scFMay.nd rfl (Or.inl rfl))
    (fun _ _ _ _ _ => pts_one (pt_val (pe_meth (pe_dget hu (pe_fld (pv 0) rfl) (pv 2) (fun _ _ => rfl)) T.clCC T.mCFoll (ok_cFoll T) hr T.bCFoll .nil pass0 (by exact (pa_cons (pv 2) (pa_cons (pv 1) pa_nil))))))
    (fun _ _ _ _ _ => pv 2))), ?_⟩
  refine ⟨_, rfl, fa, A.CF, dx, _, _, rfl, h1, T.clCF, T.nCFcrops, fF_crops dC lF dF f.weathers, dC, _, names f, rfl, .inl hC, names_keys hal, ?_, fun ys p pm up hp => ?_⟩
  · unfold names
    rw [List.length_map, List.length_range]
    have := hf.six
    omega
  have ey : ys = names f := pm.eq_of_pairwise (fun x y _ _ h1 h2 => Int.le_antisymm h1 h2) up (names_up hf)
  subst ey
  have s0 : Same H _ := sUpd (o := .lst ((names f).map V.int)) hp
  refine ⟨p, rfl, ⟨_, SqL.of upd_same⟩, fun D hD => ?_⟩
  have hD0 : H D = none := s0.free hD
  have hpD : p ≠ D := ne_of_none upd_same hD
  have hlen : ((names f).map V.int).length = f.crops.length + 1 := by
    unfold names
    rw [List.length_map, List.length_map, List.length_range]
  refine lc_list (K := K) (a := p) (xs := (names f).map V.int) (fun i H' => Same H H' ∧ H' p = some (.lst ((names f).map V.int)) ∧ H' D = some (.lst (sownTo f last i)))
    ⟨sPut s0 hD0, (upd_ne hpD).trans upd_same, upd_same⟩ (fun i H' _ ⟨_, e, _⟩ => SqL.of e) ?_ ?_
  · rintro i x H' hx ⟨s1, e1, eD⟩
    obtain ⟨hi, rfl⟩ := names_at hx
    obtain ⟨ck, hck, hv⟩ := crops_get hf hal hi
    obtain ⟨cdx, cw, hk1, hk2⟩ := (hcs i ck hck).same s1
    have hg : DGet H' dC (vn (f.name i)) (some (.ref ck)) := by
      rw [← hv]
      exact DGet.k (k := Sum.inl ((f.name i : Nat) : Int)) (s1 _ _ hC)
    refine ⟨rfl, ?_⟩
    refine ⟨_, rfl, fa, A.CF, dx, _, _, rfl, s1 _ _ h1, T.clCF, T.nCFcrops, fF_crops dC lF dF f.weathers, _, rfl, dC, _, rfl, hg, ck, cdx, _, rfl, hk1, cF_foll _ _, _, rfl, _, rfl, ck, t, f.crop i, f.name i, last, rfl, ⟨cdx, cw, hk1, hk2⟩, s1 _ _ ht, fun H2 s2 => ?_⟩
    refine ⟨_, rfl, ?_⟩
    have hs := sownTo_succ f last i
    rw [← may_eq hi]
    have eD2 := s2 _ _ eD
    cases hm : f.may last i with
    | true =>
      rw [hm, if_pos rfl] at hs
      refine if_true_of rfl ?_
      refine ⟨_, rfl, _, eD2, ?_, sPut (s1.trans s2) hD0, ?_, ?_⟩
      · have := sownTo_len f last i
        have := hf.six
        rw [sizeLine_eq]
        omega
      · rw [upd_ne hpD]
        exact s2 _ _ e1
      · rw [hs]
        exact upd_same
    | false =>
      rw [hm, if_neg Bool.false_ne_true] at hs
      refine if_false_of rfl ⟨s1.trans s2, s2 _ _ e1, ?_⟩
      rw [hs]
      exact eD2
  · rintro H' ⟨s1, e1, eD⟩
    rw [hlen] at eD
    exact k H' D s1 hD0 eD
def spFLeast (A : Ad) : Sp := fun vs H Q _ => ∃ (fa dC lF dF : Addr) (f : Km350.Farm) (n soil : Nat), vs = [.ref fa, vn (f.name n), vn soil] ∧ OkF f ∧ FarmS A H fa f dC lF dF ∧ n ≤ f.crops.length ∧
  ∀ H' : Hp, Same H H' → Q (vn (least f n soil)) H'
theorem ok_fLeast (T : Txt K mg A) : FnOk P w K mg base CX0 2 A.fLeast A.fLeastD pFLeast (spFLeast A) := by
  refine T.fFLeast.ok scFLeast (fun vs H Q E h => ?_) (fun cdv Ar outer s H vs Q E hr h => ?_)
  · obtain ⟨fa, dC, lF, dF, f, n, soil, rfl, _⟩ := h
    rfl
  obtain ⟨fa, dC, lF, dF, f, n, soil, rfl, hf, ⟨⟨dx, h1⟩, as, hal, hC, hcs⟩, hn, k⟩ := h
  have hu := hu_of hr
  refine ⟨_, pss_one (ps_ret (pe_callB (cr_min rfl) (by rfl) T.zmin (by decide +kernel) (pa_cons (pe_lc (own := [("weather", 3)]) (g := gName 3) (tt := tYes) (te := tMeth A.CC "harvest" (spCHarv A) [] E0 (tDGet (tFld K (tVar 0) "crops") (tVar 1)) (tCons (tVar 2) (tCons (tVar 3) tNil))) rfl scFLeast.nd
    (pi_range1 rfl T.zrange (pa_cons (pe_fld (pv 0) rfl) pa_nil))
    (blkOk_by (own := [("weather", 3)]) (N := nFLeast) (sc := defScope sFLeast) (by decide +kernel))
    (fun _ _ _ _ _ => pg_name (i := 3) scFLeast.nd rfl (Or.inl rfl)) (fun _ _ _ _ _ => pts_nil)
    (fun _ _ _ _ _ => pe_meth (pe_dget hu (pe_fld (pv 0) rfl) (pv 1) (fun _ _ => rfl)) T.clCC T.mCHarv (ok_cHarv T) hr T.bCHarv .nil pass0 (by exact (pa_cons (pv 2) (pa_cons (pv 3) pa_nil))))) pa_nil))), ?_⟩
  obtain ⟨ck, hck, hv⟩ := crops_get hf hal hn
  refine ⟨_, rfl, fa, A.CF, dx, _, _, rfl, h1, T.clCF, T.nCFweathers, fF_weathers dC lF dF f.weathers, _, rfl, by omega, by have := hf.w3; omega, fun D hD => ?_⟩
  refine lc_range (lo := 0) (n := f.weathers) (fun i H' => Same H H' ∧ H' D = some (.lst ((List.range i).map fun wt => vn (f.harvest n wt soil)))) ⟨sPut (Same.refl H) hD, upd_same⟩ ?_ ?_
  · rintro i H' hi ⟨s1, eD⟩
    have hc := (hcs n ck hck).same s1
    obtain ⟨cdx, cw, hk1, hk2⟩ := id hc
    have hg : DGet H' dC (vn (f.name n)) (some (.ref ck)) := by
      rw [← hv]
      exact DGet.k (k := Sum.inl ((f.name n : Nat) : Int)) (s1 _ _ hC)
    refine ⟨rfl, _, rfl, fa, A.CF, dx, _, _, rfl, s1 _ _ h1, T.clCF, T.nCFcrops, fF_crops dC lF dF f.weathers, _, rfl, dC, _, rfl, hg, ck, cdx, _, rfl, hk1, cF_harv _ _, _, rfl, _, rfl, ck, f.crop n, soil, i, ?_, hc, crop_ok hf n, by have := hf.w3; omega, ?_⟩
    · rw [Int.zero_add]
      rfl
    · refine ⟨_, eD, ?_, sPut s1 hD, ?_⟩
      · rw [List.length_map, List.length_range, sizeLine_eq]
        have := hf.w3
        omega
      · rw [List.range_succ, List.map_append]
        exact upd_same
  · rintro H' ⟨s1, eD⟩
    refine ⟨D, (List.range f.weathers).map fun wt => ((f.harvest n wt soil : Nat) : Int), rfl, SqL.of ?_, ?_, fun m hm hle => ?_⟩
    · rw [List.map_map]
      exact eD
    · rw [List.length_map, List.length_range]
      have := hf.w1
      omega
    · obtain ⟨wt, hw, rfl⟩ := List.mem_map.mp hm
      have e : f.harvest n wt soil = least f n soil := by
        unfold least
        refine leastOf_is (List.mem_map.mpr ⟨wt, hw, rfl⟩) fun x hx => ?_
        obtain ⟨w2, hw2, rfl⟩ := List.mem_map.mp hx
        have := hle _ (List.mem_map.mpr ⟨w2, hw2, rfl⟩)
        omega
      have q := k H' s1
      rw [← e] at q
      exact q
end
end Yf
/-! ### what was found so far of what can be promised -/
namespace Yf
open PySem PySem.Spec PyProof.Rows L2
/-- the choice as it is told -/
def ch (f : Km350.Farm) : Nat → Nat → List Nat → Nat
  | 0, _, _ => 255
  | y + 1, soil, last => f.name (f.choice y soil last)
/-- an entry: its key's tuples, its value's -/
def EntryOk (f : Km350.Farm) (H : Hp) (x : NE) : Prop := ∃ (y soil a b c : Nat) (sa p : Addr), x.1 = nk y soil a b c ∧ y ≤ 6 ∧ soil ≤ 100 ∧ IsName f a ∧ IsName f b ∧ IsName f c ∧
  H x.2.1 = some (.tup [vn y, vn soil, .ref sa]) ∧ H sa = some (.tup [vn a, vn b, vn c]) ∧ x.2.2 = .ref p ∧ H p = some (.tup [vn (ch f y soil [a, b, c]), vn (f.value y soil [a, b, c])])
theorem EntryOk.tups {f : Km350.Farm} {H H' : Hp} {x : NE} (h : EntryOk f H x) (s : ∀ b xs, H b = some (.tup xs) → H' b = some (.tup xs)) : EntryOk f H' x := by
  obtain ⟨y, soil, a, b, c, sa, p, h1, h2, h3, h4, h5, h6, h7, h8, h9, h10⟩ := h
  exact ⟨y, soil, a, b, c, sa, p, h1, h2, h3, h4, h5, h6, s _ _ h7, s _ _ h8, h9, s _ _ h10⟩
theorem EntryOk.key {f : Km350.Farm} {H : Hp} {x : NE} (h : EntryOk f H x) : KeyAt H x.2.1 x.1 := by
  obtain ⟨y, soil, a, b, c, sa, p, h1, h2, h3, h4, h5, h6, h7, h8, h9, h10⟩ := h
  exact ⟨y, soil, a, b, c, sa, h1, h7, h8⟩
def FoundAt (P : Program) (w : World) (H : Hp) (dF : Addr) (f : Km350.Farm) : Prop := ∃ xs : List NE, H dF = some (Ndt P w dF xs) ∧ (xs.map (·.1)).Nodup ∧ ∀ x ∈ xs, EntryOk f H x
theorem FoundAt.same {P : Program} {w : World} {H H' : Hp} {dF : Addr} {f : Km350.Farm} (h : FoundAt P w H dF f) (s : Same H H') : FoundAt P w H' dF f := by
  obtain ⟨xs, h1, h2, h3⟩ := h
  exact ⟨xs, s _ _ h1, h2, fun x hx => (h3 x hx).tups fun b ys e => s _ _ e⟩
theorem nk_inj {y s a b c y' s' a' b' c' : Nat} (h : nk y s a b c = nk y' s' a' b' c') : y = y' ∧ s = s' ∧ a = a' ∧ b = b' ∧ c = c' := by
  unfold nk at h
  injection h with h
  injection h with h1 h
  injection h with h2 h
  injection h with h3 _
  injection h1 with h1
  injection h2 with h2
  injection h3 with h3
  injection h3 with h3 h
  injection h with h4 h
  injection h with h5 _
  injection h3 with h3
  injection h4 with h4
  injection h5 with h5
  exact ⟨by omega, by omega, by omega, by omega, by omega⟩
/-- a key as a number -/
def codeK : NestedKey → Nat
  | .tup [.num y, .num s, .tup [.num a, .num b, .num c]] => code y.toNat s.toNat a.toNat b.toNat c.toNat
  | _ => 0
theorem codeK_nk (y s a b c : Nat) : codeK (nk y s a b c) = code y s a b c := rfl
theorem found_len {f : Km350.Farm} (hf : OkF f) {H : Hp} {xs : List NE} (nd : (xs.map (·.1)).Nodup) (h : ∀ x ∈ xs, EntryOk f H x) : xs.length ≤ 524288 := by
  have h1 : (xs.map fun x => codeK x.1).Nodup := by
    have p : xs.Pairwise fun x y => x.1 ≠ y.1 := List.pairwise_map.mp nd
    refine List.pairwise_map.mpr (p.imp_of_mem fun {x y} hx hy hne e => hne ?_)
    obtain ⟨y1, s1, a1, b1, c1, _, _, e1, k1, l1, m1, n1, o1, _⟩ := h x hx
    obtain ⟨y2, s2, a2, b2, c2, _, _, e2, k2, l2, m2, n2, o2, _⟩ := h y hy
    rw [e1, e2] at e ⊢
    rw [codeK_nk, codeK_nk] at e
    obtain ⟨rfl, rfl, rfl, rfl, rfl⟩ := code_inj hf l1 m1 n1 o1 l2 m2 n2 o2 e
    rfl
  have h2 := nodup_bound 524288 _ h1 fun z hz => by
    obtain ⟨x, hx, rfl⟩ := List.mem_map.mp hz
    obtain ⟨y1, s1, a1, b1, c1, _, _, e1, k1, l1, m1, n1, o1, _⟩ := h x hx
    rw [e1, codeK_nk]
    exact code_lt hf k1 l1 m1 n1 o1
  rw [List.length_map] at h2
  exact h2
theorem atKey_mem {xs : List NE} {k : NestedKey} {p : Addr × Value} (h : atKey xs k = some p) : (k, p) ∈ xs := by
  unfold atKey at h
  obtain ⟨x, hx, rfl⟩ := Option.map_eq_some_iff.mp h
  have h1 := List.mem_of_find?_eq_some hx
  have h2 := List.find?_some hx
  have h3 : x.1 = k := of_decide_eq_true h2
  rw [← h3]
  exact h1
theorem atKey_not {xs : List NE} {k : NestedKey} (h : atKey xs k = none) : k ∉ xs.map (·.1) := by
  intro hm
  obtain ⟨x, hx, e⟩ := List.mem_map.mp hm
  unfold atKey at h
  have q := List.find?_eq_none.mp (Option.map_eq_none_iff.mp h) x hx
  exact q (decide_eq_true e)
theorem atKey_has {xs : List NE} {k : NestedKey} {p : Addr × Value} (nd : (xs.map (·.1)).Nodup) (h : (k, p) ∈ xs) : atKey xs k = some p := by
  obtain ⟨i, hi⟩ := List.mem_iff_getElem?.mp h
  exact atKey_of_get nd hi
theorem put_nodup {xs : List NE} {k : NestedKey} {b : Addr} {v : Value} (nd : (xs.map (·.1)).Nodup) : ((storedH xs k b v).map (·.1)).Nodup := by
  cases e : atKey xs k with
  | some p =>
    rw [storedH_old e, keys_map_putAt]
    exact nd
  | none =>
    rw [storedH_new e, List.map_append]
    exact nd_snoc nd (atKey_not e)
theorem put_get {xs : List NE} {k : NestedKey} {b : Addr} {v : Value} (nd : (xs.map (·.1)).Nodup) : ∃ b', atKey (storedH xs k b v) k = some (b', v) := by
  cases e : atKey xs k with
  | some p =>
    refine ⟨p.1, atKey_has (put_nodup nd) ?_⟩
    rw [storedH_old e]
    refine List.mem_map.mpr ⟨(k, p), atKey_mem e, ?_⟩
    show (if k = k then (k, p.1, v) else (k, p)) = _
    rw [if_pos rfl]
  | none =>
    refine ⟨b, atKey_has (put_nodup nd) ?_⟩
    rw [storedH_new e]
    exact List.mem_append_right _ (List.mem_singleton.mpr rfl)
theorem put_mem {xs : List NE} {k : NestedKey} {b : Addr} {v : Value} {x : NE} (h : x ∈ storedH xs k b v) : x ∈ xs ∨ x = (k, b, v) ∨ ∃ b', (k, b', x.2.2) = x ∧ x.2.2 = v ∧ ∃ v', (k, b', v') ∈ xs := by
  cases e : atKey xs k with
  | some p =>
    rw [storedH_old e] at h
    obtain ⟨z, hz, rfl⟩ := List.mem_map.mp h
    by_cases q : z.1 = k
    · refine .inr (.inr ⟨z.2.1, ?_, ?_, z.2.2, ?_⟩)
      · unfold putAt
        rw [if_pos q, q]
      · unfold putAt
        rw [if_pos q]
      · rw [← q]
        exact hz
    · left
      unfold putAt
      rw [if_neg q]
      exact hz
  | none =>
    rw [storedH_new e] at h
    rcases List.mem_append.mp h with q | q
    · exact .inl q
    · exact .inr (.inl (List.mem_singleton.mp q))
/-- an entry more -/
theorem found_put {P : Program} {w : World} {H H' : Hp} {dF b p sa : Addr} {f : Km350.Farm} {xs : List NE} {y soil a b' c : Nat} (nd : (xs.map (·.1)).Nodup) (h : ∀ x ∈ xs, EntryOk f H x) (hy : y ≤ 6) (hs : soil ≤ 100) (ha : IsName f a) (hb : IsName f b') (hc : IsName f c)
    (h1 : H b = some (.tup [vn y, vn soil, .ref sa])) (h2 : H sa = some (.tup [vn a, vn b', vn c])) (h3 : H p = some (.tup [vn (ch f y soil [a, b', c]), vn (f.value y soil [a, b', c])]))
    (st : ∀ b xs, H b = some (.tup xs) → H' b = some (.tup xs)) (e : H' dF = some (Ndt P w dF (storedH xs (nk y soil a b' c) b (.ref p)))) : FoundAt P w H' dF f := by
  refine ⟨_, e, put_nodup nd, fun x hx => ?_⟩
  rcases put_mem hx with q | rfl | ⟨b2, e1, e2, v', hm⟩
  · exact (h x q).tups st
  · exact ⟨y, soil, a, b', c, sa, p, rfl, hy, hs, ha, hb, hc, st _ _ h1, st _ _ h2, rfl, st _ _ h3⟩
  · obtain ⟨y1, s1, a1, b1, c1, sa1, p1, g1, g2, g3, g4, g5, g6, g7, g8, g9, g10⟩ := h _ hm
    obtain ⟨rfl, rfl, rfl, rfl, rfl⟩ := nk_inj g1
    rw [e2] at e1
    rw [← e1]
    exact ⟨y, soil, a, b', c, sa1, p, rfl, hy, hs, ha, hb, hc, st _ _ g7, st _ _ g8, rfl, st _ _ h3⟩
/-- what stands at a key -/
theorem found_at {H : Hp} {f : Km350.Farm} {xs : List NE} {y soil a b c : Nat} {q : Addr × Value} (h : ∀ x ∈ xs, EntryOk f H x) (e : atKey xs (nk y soil a b c) = some q) :
    ∃ p, q.2 = .ref p ∧ H p = some (.tup [vn (ch f y soil [a, b, c]), vn (f.value y soil [a, b, c])]) := by
  obtain ⟨y1, s1, a1, b1, c1, sa1, p1, g1, g2, g3, g4, g5, g6, g7, g8, g9, g10⟩ := h _ (atKey_mem e)
  obtain ⟨rfl, rfl, rfl, rfl, rfl⟩ := nk_inj g1
  exact ⟨p1, g9, g10⟩
/-- the farm and its crops stand while all but the dict stands -/
theorem FarmS.but {A : Ad} {H H' : Hp} {fa dC lF dF d : Addr} {f : Km350.Farm} {φ : Heap → Prop} (h : FarmS A H fa f dC lF dF) (hd : H d = some (.ext φ)) (s : But d H H') : FarmS A H' fa f dC lF dF := by
  obtain ⟨⟨dx, h1⟩, as, h2, h3, h4⟩ := h
  refine ⟨⟨dx, s _ _ h1 (ne_of h1 hd fun z => nomatch z)⟩, as, h2, s _ _ h3 (ne_of h3 hd fun z => nomatch z), fun k a e => ?_⟩
  obtain ⟨dc, wc, g1, g2⟩ := h4 k a e
  exact ⟨dc, wc, s _ _ g1 (ne_of g1 hd fun z => nomatch z), s _ _ g2 (ne_of g2 hd fun z => nomatch z)⟩
theorem but_tup {H H' : Hp} {d : Addr} {φ : Heap → Prop} (hd : H d = some (.ext φ)) (s : But d H H') {b : Addr} {xs : List V} (e : H b = some (.tup xs)) : H' b = some (.tup xs) := s _ _ e (ne_of e hd fun z => nomatch z)
end Yf
/-! ### what can be promised: three defs that call each other -/
namespace Yf
open PySem PySem.Spec PyProof.Rows L2
theorem vn_pred (y : Nat) : V.int (((y + 1 : Nat) : Int) - 1) = vn y := congrArg V.int (by omega)
theorem vn_add (a b : Nat) : V.int ((a : Int) + (b : Int)) = vn (a + b) := congrArg V.int (by omega)
section
variable {P : Program} {w : World} {K : PySem.W.Frag} {mg : Str → Option Value} {base : Heap} {A : Ad}
/-- what the three ask of the heap -/
structure PreP (P : Program) (w : World) (A : Ad) (H : Hp) (fa t dC lF dF : Addr) (f : Km350.Farm) (soil : Nat) (last : List Nat) : Prop where
  ok : OkF f
  fs : FarmS A H fa f dC lF dF
  fd : FoundAt P w H dF f
  tp : H t = some (.tup (last.map vn))
  lo : LastOk f last
  so : soil ≤ 100
theorem PreP.but {H H' : Hp} {fa t dC lF dF : Addr} {f : Km350.Farm} {soil : Nat} {last : List Nat} (h : PreP P w A H fa t dC lF dF f soil last) (s : But dF H H') (fd : FoundAt P w H' dF f) : PreP P w A H' fa t dC lF dF f soil last := by
  obtain ⟨xs, h1, _⟩ := h.fd
  exact ⟨h.ok, h.fs.but h1 s, fd, but_tup h1 s h.tp, h.lo, h.so⟩
theorem PreP.same {H H' : Hp} {fa t dC lF dF : Addr} {f : Km350.Farm} {soil : Nat} {last : List Nat} (h : PreP P w A H fa t dC lF dF f soil last) (s : Same H H') : PreP P w A H' fa t dC lF dF f soil last :=
  ⟨h.ok, h.fs.same s, h.fd.same s, s _ _ h.tp, h.lo, h.so⟩
def spFProm (P : Program) (w : World) (A : Ad) (n : Nat) : Sp := fun vs H Q _ => ∃ (fa t dC lF dF : Addr) (f : Km350.Farm) (y soil : Nat) (last : List Nat), vs = [.ref fa, vn y, vn soil, .ref t] ∧ y < n ∧ y ≤ 6 ∧ PreP P w A H fa t dC lF dF f soil last ∧
  ∀ (H' : Hp) (p : Addr), But dF H H' → FoundAt P w H' dF f → H' p = some (.tup [vn (ch f y soil last), vn (f.value y soil last)]) → Q (.ref p) H'
def spFChoice (P : Program) (w : World) (A : Ad) (n : Nat) : Sp := fun vs H Q _ => ∃ (fa t dC lF dF : Addr) (f : Km350.Farm) (y soil : Nat) (last : List Nat), vs = [.ref fa, vn (y + 1), vn soil, .ref t] ∧ y < n ∧ y + 1 ≤ 6 ∧ PreP P w A H fa t dC lF dF f soil last ∧
  ∀ (H' : Hp) (p : Addr), But dF H H' → FoundAt P w H' dF f → H' p = some (.tup [vn (ch f (y + 1) soil last), vn (f.value (y + 1) soil last)]) → Q (.ref p) H'
def spFBrings (P : Program) (w : World) (A : Ad) (n : Nat) : Sp := fun vs H Q _ => ∃ (fa t dC lF dF : Addr) (f : Km350.Farm) (y soil k : Nat) (last : List Nat), vs = [.ref fa, vn (y + 1), vn soil, .ref t, vn (f.name k)] ∧ y < n ∧ y + 1 ≤ 6 ∧ k ≤ f.crops.length ∧ PreP P w A H fa t dC lF dF f soil last ∧
  ∀ H' : Hp, But dF H H' → FoundAt P w H' dF f → Q (vn (f.by_ y soil last k)) H'
theorem ok_fBrings (T : Txt K mg A) {n : Nat} (G : FnOk P w K mg base CX0 (3 * n + 3) A.fProm A.fPromD pFProm (spFProm P w A n)) : FnOk P w K mg base CX0 (3 * n + 3 + 1) A.fBrings A.fBringsD pFBrings (spFBrings P w A n) := by
  refine T.fFBrings.ok scFBrings (fun vs H Q E h => ?_) (fun cdv Ar outer s H vs Q E hr h => ?_)
  · obtain ⟨fa, t, dC, lF, dF, f, y, soil, k, last, rfl, _⟩ := h
    rfl
  obtain ⟨fa, t, dC, lF, dF, f, y, soil, k, last, rfl, hy, hy6, hk, pre, q⟩ := h
  have hu := hu_of hr
  have hr1 := hr.mono (show 1 ≤ 3 * n + 3 by omega)
  have hr2 := hr.mono (show 2 ≤ 3 * n + 3 by omega)
  refine ⟨_, pss_cons (ps_set (i := 5) scFBrings.nd rfl (Or.inl rfl) (pe_meth (pv 0) T.clCF T.mFLeast (ok_fLeast T) hr2 T.bFLeast .nil pass0 (pa_cons (pv 4) (pa_cons (pv 2) pa_nil))))
    (pss_one (ps_ret (pe_op op_add (pv 5) (pe_ix ix_tup (pe_meth (pv 0) T.clCF T.mFProm G hr T.bFProm .nil pass0 (pa_cons (pe_op op_sub (pv 1) pe_int)
      (pa_cons (pe_meth (pe_dget hu (pe_fld (pv 0) rfl) (pv 4) (fun _ _ => rfl)) T.clCC T.mCSoil (ok_cSoil T) hr1 T.bCSoil .nil pass0 (pa_cons (pv 2) pa_nil))
      (pa_cons (pe_call (ok_behind T) hr1 rfl T.gBehind T.fBehind.kp T.bBehind .nil pass0 (pa_cons (pv 3) (pa_cons (pv 4) pa_nil))) pa_nil)))) pe_int (fun _ _ => rfl))))), ?_⟩
  obtain ⟨⟨dx, h1⟩, as, hal, hC, hcs⟩ := pre.fs
  refine ⟨_, rfl, fa, dx, _, rfl, h1, fF_least _ _ _ _, _, rfl, _, rfl, fa, dC, lF, dF, f, k, soil, rfl, pre.ok, pre.fs, hk, fun H1 s1 => ?_⟩
  obtain ⟨ck, hck, hv⟩ := crops_get pre.ok hal hk
  have hc := (hcs k ck hck).same s1
  obtain ⟨cdx, cw, hk1, hk2⟩ := id hc
  have hg : DGet H1 dC (vn (f.name k)) (some (.ref ck)) := by
    rw [← hv]
    exact DGet.k (k := Sum.inl ((f.name k : Nat) : Int)) (s1 _ _ hC)
  refine ⟨_, rfl, _, rfl, fa, dx, _, rfl, s1 _ _ h1, fF_prom _ _ _ _, _, rfl, _, _, rfl, rfl, ?_⟩
  refine ⟨_, rfl, fa, A.CF, dx, _, _, rfl, s1 _ _ h1, T.clCF, T.nCFcrops, fF_crops dC lF dF f.weathers, _, rfl, dC, _, rfl, hg, ck, cdx, _, rfl, hk1, cF_soil _ _, _, rfl, ck, f.crop k, soil, rfl, hc, ?_⟩
  obtain ⟨a, b, c, rfl, ha, hb, hcn⟩ := pre.lo
  refine ⟨_, rfl, _, rfl, t, f.name k, a, b, c, rfl, s1 _ _ pre.tp, fun H2 t2 s2 nt2 et2 => ?_⟩
  have s12 := s1.trans s2
  refine ⟨fa, t2, dC, lF, dF, f, y, f.soil k soil, f.last k [a, b, c], ?_, hy, by omega, ⟨pre.ok, pre.fs.same s12, pre.fd.same s12, et2, last_ok pre.lo k, soil_le f k soil⟩, fun H3 p3 s3 fd3 e3 => ?_⟩
  · show [V.ref fa, V.int (((y + 1 : Nat) : Int) - 1), vn (f.soil k soil), V.ref t2] = _
    rw [vn_pred]
  refine ⟨p3, _, _, vn (f.value y (f.soil k soil) (f.last k [a, b, c])), rfl, rfl, SqT.of e3, at_of (j := 1) rfl rfl, _, _, rfl, rfl, ?_⟩
  have z := q H3 ((But.of s12).trans s3) fd3
  rw [by_eq pre.ok.w1, ← vn_add] at z
  exact z
theorem ok_fChoice (T : Txt K mg A) {n : Nat} (G : FnOk P w K mg base CX0 (3 * n + 3 + 1) A.fBrings A.fBringsD pFBrings (spFBrings P w A n)) : FnOk P w K mg base CX0 (3 * n + 3 + 1 + 1) A.fChoice A.fChoiceD pFChoice (spFChoice P w A n) := by
  refine T.fFChoice.ok scFChoice (fun vs H Q E h => ?_) (fun cdv Ar outer s H vs Q E hr h => ?_)
  · obtain ⟨fa, t, dC, lF, dF, f, y, soil, last, rfl, _⟩ := h
    rfl
  obtain ⟨fa, t, dC, lF, dF, f, y, soil, last, rfl, hy, hy6, pre, q⟩ := h
  have hr2 := hr.mono (show 2 ≤ 3 * n + 3 + 1 by omega)
  refine ⟨_, pss_cons (ps_set (i := 4) scFChoice.nd rfl (Or.inl rfl) (pe_glob rfl T.gNOTHING (rvi _ _)))
    (pss_cons (ps_set (i := 5) scFChoice.nd rfl (Or.inl rfl) (pe_un un_neg pe_int))
    (pss_cons (ps_for PassesOwn.never rfl (pi_list (pe_meth (pv 0) T.clCF T.mFMay (ok_fMay T) hr2 T.bFMay .nil pass0 (pa_cons (pv 3) pa_nil))) (pg_name (i := 6) scFChoice.nd rfl (Or.inl rfl))
      (pss_cons (ps_set (i := 7) scFChoice.nd rfl (Or.inl rfl) (pe_meth (pv 0) T.clCF T.mFBrings G hr T.bFBrings .nil pass0 (pa_cons (pv 1) (pa_cons (pv 2) (pa_cons (pv 3) (pa_cons (pv 6) pa_nil))))))
      (pss_one (ps_if (pt_cmpR op_gt (pv 7) (pv 5) (nomark _)) (pss_cons (ps_set (i := 4) scFChoice.nd rfl (Or.inl rfl) (pv 6)) (pss_one (ps_set (i := 5) scFChoice.nd rfl (Or.inl rfl) (pv 7)))) pss_nil))))
    (pss_one (ps_ret (pe_tup (pa_cons (pv 4) (pa_cons (pv 5) pa_nil))))))), ?_⟩
  obtain ⟨⟨dx, h1⟩, hcr⟩ := pre.fs
  refine ⟨_, rfl, ?_⟩
  refine ⟨_, rfl, fa, dx, _, rfl, h1, fF_may _ _ _ _, _, rfl, fa, t, dC, lF, dF, f, last, rfl, pre.ok, pre.fs, pre.tp, fun H1 lp s1 nlp elp => ?_⟩
  refine ⟨lp, rfl, ⟨_, SqL.of elp⟩, ?_⟩
  have pre1 := pre.same s1
  obtain ⟨xs1, hd1, _⟩ := pre1.fd
  refine for_list (K := K) (a := lp) (xs := (f.choices last).map fun k => vn (f.name k)) (fun i σ H' => ∃ v6 v7 : Option V, σ = [some (.ref fa), some (vn (y + 1)), some (vn soil), some (.ref t), some (.int (pick f y soil last ((f.choices last).take i)).1), some (.int (pick f y soil last ((f.choices last).take i)).2), v6, v7] ∧
      But dF H1 H' ∧ FoundAt P w H' dF f) ⟨none, none, rfl, fun _ _ e _ => e, pre1.fd⟩ (fun i σ H' _ ⟨_, _, _, b, _⟩ => SqL.of (b _ _ elp (ne_of elp hd1 fun z => nomatch z))) ?_ ?_
  · rintro i x σ H' hx ⟨v6, v7, rfl, b1, fd⟩
    obtain ⟨k, hk, rfl⟩ : ∃ k, (f.choices last)[i]? = some k ∧ x = vn (f.name k) := by
      rw [List.getElem?_map] at hx
      cases e : (f.choices last)[i]? with
      | none => rw [e] at hx; cases hx
      | some z => rw [e] at hx; exact ⟨z, rfl, (Option.some.inj hx).symm⟩
    have hkm := mem_choices.mp (List.mem_of_getElem? hk)
    have pre' := pre1.but b1 fd
    obtain ⟨⟨dx', h1'⟩, _⟩ := pre'.fs
    refine ⟨_, rfl, fa, dx', _, rfl, h1', fF_brings _ _ _ _, _, rfl, _, rfl, _, rfl, _, rfl, fa, t, dC, lF, dF, f, y, soil, k, last, rfl, hy, hy6, hkm.1, pre', fun H2 b2 fd2 => ?_⟩
    have step : pick f y soil last ((f.choices last).take (i + 1)) = pickStep f y soil last (pick f y soil last ((f.choices last).take i)) k := by
      unfold pick
      rw [take_more hk, List.foldl_append]
      rfl
    refine ⟨_, rfl, _, rfl, _, _, rfl, rfl, _, rfl, ?_⟩
    unfold pickStep at step
    by_cases c : (f.by_ y soil last k : Int) > (pick f y soil last ((f.choices last).take i)).2
    · rw [if_pos c] at step
      refine if_true_of (decide_eq_true c) ?_
      refine ⟨_, rfl, _, rfl, some (vn (f.name k)), some (vn (f.by_ y soil last k)), ?_, b1.trans b2, fd2⟩
      rw [step]
      rfl
    · rw [if_neg c] at step
      refine if_false_of (decide_eq_false c) ?_
      refine ⟨some (vn (f.name k)), some (vn (f.by_ y soil last k)), ?_, b1.trans b2, fd2⟩
      rw [step]
      rfl
  · rintro σ H' ⟨v6, v7, rfl, b1, fd⟩
    rw [List.length_map, List.take_length, pick_eq]
    refine ⟨_, rfl, _, rfl, (by show 2 ≤ sizeLine; decide), fun p hp => ?_⟩
    have s2 : Same H' _ := sUpd (o := .tup [vn (f.name (f.choice y soil last)), vn (f.value (y + 1) soil last)]) hp
    exact q _ p (((But.of s1).trans b1).trans (But.of s2)) (fd.same s2) upd_same
theorem ok_fProm (T : Txt K mg A) {n : Nat} (G : FnOk P w K mg base CX0 (3 * n + 3 + 1 + 1) A.fChoice A.fChoiceD pFChoice (spFChoice P w A n)) : FnOk P w K mg base CX0 (3 * n + 3 + 1 + 1 + 1) A.fProm A.fPromD pFProm (spFProm P w A (n + 1)) := by
  refine T.fFProm.ok scFProm (fun vs H Q E h => ?_) (fun cdv Ar outer s H vs Q E hr h => ?_)
  · obtain ⟨fa, t, dC, lF, dF, f, y, soil, last, rfl, _⟩ := h
    rfl
  obtain ⟨fa, t, dC, lF, dF, f, y, soil, last, rfl, hy, hy6, pre, q⟩ := h
  have hu := hr.units
  refine ⟨_, pss_cons (ps_if (pt_cmpR op_eq (pv 1) pe_int (nomark _)) (pss_one (ps_ret (pe_tup (pa_cons (pe_glob rfl T.gNOTHING (rvi _ _)) (pa_cons pe_int pa_nil))))) pss_nil)
    (pss_cons (ps_set (i := 4) scFProm.nd rfl (Or.inl rfl) (pe_tup (pa_cons (pv 1) (pa_cons (pv 2) (pa_cons (pv 3) pa_nil)))))
    (pss_cons (ps_if (pt_cmp (pc_nnotin hu (pv 4) (pe_fld (pv 0) rfl))) (pss_one (ps_nput hu (pe_fld (pv 0) rfl) (pv 4) (pe_meth (pv 0) T.clCF T.mFChoice G hr T.bFChoice .nil pass0 (pa_cons (pv 1) (pa_cons (pv 2) (pa_cons (pv 3) pa_nil)))) rfl)) pss_nil)
    (pss_one (ps_ret (pe_nget hu (pe_fld (pv 0) rfl) (pv 4) (fun _ _ => rfl)))))), ?_⟩
  refine ⟨_, rfl, rfl, _, rfl, ?_⟩
  cases y with
  | zero =>
    refine if_true_of (decide_eq_true rfl) ?_
    refine ⟨(by show 2 ≤ sizeLine; decide), fun p hp => ?_⟩
    have s2 : Same H _ := sUpd (o := .tup [vn 255, vn 0]) hp
    exact q _ p (But.of s2) (pre.fd.same s2) upd_same
  | succ y =>
    refine if_false_of (decide_eq_false fun z => by have := V.int.inj z; omega) ?_
    obtain ⟨a, b, c, rfl, ha, hb, hc⟩ := pre.lo
    refine ⟨_, rfl, _, rfl, _, rfl, (by show 3 ≤ sizeLine; decide), fun kb hkb => ?_⟩
    have s1 : Same H (upd H kb (.tup [vn (y + 1), vn soil, .ref t])) := sUpd hkb
    have ekb : upd H kb (.tup [vn (y + 1), vn soil, .ref t]) kb = some (.tup [vn (y + 1), vn soil, .ref t]) := upd_same
    have pre1 := pre.same s1
    obtain ⟨⟨dx, h1⟩, _⟩ := pre1.fs
    obtain ⟨xs, hd1, nd1, en1⟩ := pre1.fd
    have key : KeyAt (upd H kb (.tup [vn (y + 1), vn soil, .ref t])) kb (nk (y + 1 : Nat) soil a b c) := ⟨_, _, _, _, _, t, rfl, ekb, pre1.tp⟩
    refine ⟨_, rfl, _, rfl, fa, A.CF, dx, _, _, rfl, h1, T.clCF, T.nCFfound, fF_found dC lF dF f.weathers, dF, xs, kb, nk (y + 1 : Nat) soil a b c, rfl, hd1, fun x hx => (en1 x hx).key, rfl, key, _, rfl, ?_⟩
    cases ek : atKey xs (nk (y + 1 : Nat) soil a b c) with
    | some z =>
      obtain ⟨p, hz, hp⟩ := found_at en1 ek
      obtain ⟨z1, z2⟩ := z
      obtain rfl : z2 = .ref p := hz
      refine if_false_of rfl ?_
      exact ⟨_, rfl, fa, A.CF, dx, _, _, rfl, h1, T.clCF, T.nCFfound, fF_found dC lF dF f.weathers, _, rfl, dF, xs, kb, nk (y + 1 : Nat) soil a b c, z1, p, rfl, hd1, fun x hx => (en1 x hx).key, rfl, key, ek, q _ p (But.of s1) pre1.fd hp⟩
    | none =>
      refine if_true_of rfl ?_
      refine ⟨_, rfl, fa, dx, _, rfl, h1, fF_choice _ _ _ _, _, rfl, _, rfl, _, rfl, fa, t, dC, lF, dF, f, y, soil, [a, b, c], rfl, by omega, hy6, pre1, fun H2 p b2 fd2 ep => ?_⟩
      have pre2 := pre1.but b2 fd2
      obtain ⟨⟨dx2, h2⟩, _⟩ := pre2.fs
      obtain ⟨xs2, hd2, nd2, en2⟩ := fd2
      have ekb2 : H2 kb = some (.tup [vn (y + 1), vn soil, .ref t]) := but_tup hd1 b2 ekb
      have key2 : KeyAt H2 kb (nk (y + 1 : Nat) soil a b c) := ⟨_, _, _, _, _, t, rfl, ekb2, pre2.tp⟩
      have hlen : xs2.length < sizeLine := by
        have := found_len pre.ok nd2 en2
        rw [sizeLine_eq]
        omega
      refine ⟨_, rfl, fa, A.CF, dx2, _, _, rfl, h2, T.clCF, T.nCFfound, fF_found dC lF dF f.weathers, _, rfl, dF, xs2, kb, nk (y + 1 : Nat) soil a b c, p, rfl, hd2, fun x hx => (en2 x hx).key, rfl, key2, rfl, hlen, ?_⟩
      have b3 : But dF H2 (upd H2 dF (Ndt P w dF (storedH xs2 (nk (y + 1 : Nat) soil a b c) kb (.ref p)))) := fun d o e n => (upd_ne n).trans e
      have st3 : ∀ d ys, H2 d = some (.tup ys) → upd H2 dF (Ndt P w dF (storedH xs2 (nk (y + 1 : Nat) soil a b c) kb (.ref p))) d = some (.tup ys) := fun d ys e => but_tup hd2 b3 e
      have fd3 : FoundAt P w (upd H2 dF (Ndt P w dF (storedH xs2 (nk (y + 1 : Nat) soil a b c) kb (.ref p)))) dF f := found_put nd2 en2 hy6 pre.so ha hb hc ekb2 pre2.tp ep st3 upd_same
      have pre3 := pre2.but b3 fd3
      obtain ⟨⟨dx3, h3⟩, _⟩ := pre3.fs
      obtain ⟨b', hb'⟩ := put_get (k := nk (y + 1 : Nat) soil a b c) (b := kb) (v := .ref p) nd2
      obtain ⟨xs3, hd3, nd3, en3⟩ := id fd3
      have e33 : Ndt P w dF xs3 = Ndt P w dF (storedH xs2 (nk (y + 1 : Nat) soil a b c) kb (.ref p)) := Option.some.inj (hd3.symm.trans upd_same)
      have nok : NOk (upd H2 dF (Ndt P w dF (storedH xs2 (nk (y + 1 : Nat) soil a b c) kb (.ref p)))) (storedH xs2 (nk (y + 1 : Nat) soil a b c) kb (.ref p)) := by
        intro x hx
        rcases put_mem hx with r | rfl | ⟨b2, r1, r2, v', hm⟩
        · exact (en2 x r).key.same st3
        · exact key2.same st3
        · have r := (en2 _ hm).key.same st3
          rw [← r1]
          exact r
      exact ⟨_, rfl, fa, A.CF, dx3, _, _, rfl, h3, T.clCF, T.nCFfound, fF_found dC lF dF f.weathers, _, rfl, dF, _, kb, nk (y + 1 : Nat) soil a b c, b', p, rfl, upd_same, nok, rfl, key2.same st3, hb', q _ p (((But.of s1).trans b2).trans b3) fd3 (st3 _ _ ep)⟩
theorem ok_prom (T : Txt K mg A) : ∀ n : Nat, FnOk P w K mg base CX0 (3 * n + 3) A.fProm A.fPromD pFProm (spFProm P w A n)
  | 0 => by
    have no : ∀ vs H Q E, ¬ spFProm P w A 0 vs H Q E := fun vs H Q E h => by
      obtain ⟨fa, t, dC, lF, dF, f, y, soil, last, _, hy, _⟩ := h
      exact absurd hy (Nat.not_lt_zero _)
    exact ⟨fun vs H Q E h => absurd h (no vs H Q E), fun A outer s H args us vs Q E _ _ _ _ h => absurd h (no vs H Q E)⟩
  | n + 1 => ok_fProm T (ok_fChoice T (ok_fBrings T (ok_prom T n)))
end
end Yf
/-! ### a field's next year -/
namespace Yf
open PySem PySem.Spec PyProof.Rows L2
theorem farm_ne_field {A : Ad} {C C' dx dx' dC lF dF t : Addr} {n : Nat} {x : Km350.Field} : HO.ins C dx (farmF dC n lF dF) ≠ HO.ins C' dx' (fieldF x t) := fun z =>
  absurd (congrArg Prod.fst (List.cons.inj (HO.ins.inj z).2.2).1) (show ¬ ("crops" : Str) = "soil" by decide +kernel)
theorem crop_ne_field {C C' dx dx' w t : Addr} {c : Km350.Crop} {x : Km350.Field} : HO.ins C dx (cropF c w) ≠ HO.ins C' dx' (fieldF x t) := fun z =>
  absurd (congrArg Prod.fst (List.cons.inj (HO.ins.inj z).2.2).1) (show ¬ ("need" : Str) = "soil" by decide +kernel)
theorem FarmS.butF {A : Ad} {H H' : Hp} {fa dC lF dF d dx t : Addr} {f : Km350.Farm} {x : Km350.Field} (h : FarmS A H fa f dC lF dF) (hd : H d = some (.ins A.CD dx (fieldF x t))) (s : But d H H') : FarmS A H' fa f dC lF dF := by
  obtain ⟨⟨dx, h1⟩, as, h2, h3, h4⟩ := h
  refine ⟨⟨dx, s _ _ h1 (ne_of h1 hd (farm_ne_field (A := A)))⟩, as, h2, s _ _ h3 (ne_of h3 hd fun z => nomatch z), fun k a e => ?_⟩
  obtain ⟨dc, wc, g1, g2⟩ := h4 k a e
  exact ⟨dc, wc, s _ _ g1 (ne_of g1 hd crop_ne_field), s _ _ g2 (ne_of g2 hd fun z => nomatch z)⟩
theorem fieldF_len (x : Km350.Field) (t : Addr) : (fieldF x t).length ≤ 4 := Nat.le_refl 4
section
variable {P : Program} {w : World} {K : PySem.W.Frag} {mg : Str → Option Value} {base : Heap} {A : Ad}
def spFGrow (A : Ad) : Sp := fun vs H Q _ => ∃ (fa a dC lF dF : Addr) (f : Km350.Farm) (x : Km350.Field) (k wt : Nat), vs = [.ref fa, .ref a, vn (f.name k), vn wt] ∧ OkF f ∧ FarmS A H fa f dC lF dF ∧ FieldAt A H a x ∧ LastOk f x.last ∧ k ≤ f.crops.length ∧ wt < 3 ∧
  ∀ H' : Hp, But a H H' → FieldAt A H' a (f.grown x k wt) → Q (vn (f.harvest k wt x.soil)) H'
theorem ok_fGrow (T : Txt K mg A) : FnOk P w K mg base CX0 2 A.fGrow A.fGrowD pFGrow (spFGrow A) := by
  refine T.fFGrow.ok scFGrow (fun vs H Q E h => ?_) (fun cdv Ar outer s H vs Q E hr h => ?_)
  · obtain ⟨fa, a, dC, lF, dF, f, x, k, wt, rfl, _⟩ := h
    rfl
  obtain ⟨fa, a, dC, lF, dF, f, x, k, wt, rfl, hf, fs, ⟨dx, t, e0, et⟩, lo, hk, hw, q⟩ := h
  have hu := hu_of hr
  refine ⟨_, pss_cons (ps_set (i := 4) scFGrow.nd rfl (Or.inl rfl) (pe_meth (pe_dget hu (pe_fld (pv 0) rfl) (pv 2) (fun _ _ => rfl)) T.clCC T.mCHarv (ok_cHarv T) hr T.bCHarv .nil pass0 (pa_cons (pe_fld (pv 1) rfl) (pa_cons (pv 3) pa_nil))))
    (pss_cons (ps_fld (pv 1) (pe_meth (pe_dget hu (pe_fld (pv 0) rfl) (pv 2) (fun _ _ => rfl)) T.clCC T.mCSoil (ok_cSoil T) hr T.bCSoil .nil pass0 (pa_cons (pe_fld (pv 1) rfl) pa_nil)) rfl)
    (pss_cons (ps_fld (pv 1) (pe_call (ok_behind T) hr rfl T.gBehind T.fBehind.kp T.bBehind .nil pass0 (pa_cons (pe_fld (pv 1) rfl) (pa_cons (pv 2) pa_nil))) rfl)
    (pss_cons (ps_fldaug (pv 1) pe_int in_add)
    (pss_cons (ps_fldaug (pv 1) (pv 4) in_add)
    (pss_one (ps_ret (pv 4))))))), ?_⟩
  obtain ⟨⟨fx, h1⟩, as, hal, hC, hcs⟩ := id fs
  obtain ⟨ck, hck, hv⟩ := crops_get hf hal hk
  have hc := hcs k ck hck
  obtain ⟨cdx, cw, hk1, hk2⟩ := id hc
  have hg : DGet H dC (vn (f.name k)) (some (.ref ck)) := by
    rw [← hv]
    exact DGet.k (k := Sum.inl ((f.name k : Nat) : Int)) hC
  obtain ⟨la, lb, lc, hl, hla, hlb, hlc⟩ := lo
  -- harvest
  refine ⟨_, rfl, fa, A.CF, fx, _, _, rfl, h1, T.clCF, T.nCFcrops, fF_crops dC lF dF f.weathers, _, rfl, dC, _, rfl, hg, ck, cdx, _, rfl, hk1, cF_harv _ _, _, rfl, a, A.CD, dx, _, _, rfl, e0, T.clCD, T.nCDsoil, dF_soil t x, _, rfl, ck, f.crop k, x.soil, wt, rfl, hc, crop_ok hf k, hw, ?_⟩
  -- soil
  refine ⟨_, rfl, fa, A.CF, fx, _, _, rfl, h1, T.clCF, T.nCFcrops, fF_crops dC lF dF f.weathers, _, rfl, dC, _, rfl, hg, ck, cdx, _, rfl, hk1, cF_soil _ _, _, rfl, a, A.CD, dx, _, _, rfl, e0, T.clCD, T.nCDsoil, dF_soil t x, ck, f.crop k, x.soil, rfl, hc, ?_⟩
  refine ⟨_, rfl, a, A.CD, dx, _, rfl, e0, T.clCD, T.nCDsoil, thou (fieldF_len x t) (by decide), ?_⟩
  rw [show putF "soil" (vn (soilC (f.crop k) x.soil)) (fieldF x t) = fieldF { x with soil := f.soil k x.soil } t from dF_pSoil t x _]
  generalize e1 : upd H a (.ins A.CD dx (fieldF { x with soil := f.soil k x.soil } t)) = H1
  have a1 : H1 a = some (.ins A.CD dx (fieldF { x with soil := f.soil k x.soil } t)) := e1 ▸ upd_same
  have b1 : But a H H1 := fun b o e n => by rw [← e1]; exact (upd_ne n).trans e
  have t1 : H1 t = some (.tup (x.last.map vn)) := b1 _ _ et (ne_of et e0 fun z => nomatch z)
  clear e1
  -- sown
  refine ⟨_, rfl, a, A.CD, dx, _, _, rfl, a1, T.clCD, T.nCDsown, dF_sown t _, _, rfl, t, f.name k, la, lb, lc, rfl, ?_, fun H2 t2 s2 nt2 et2 => ?_⟩
  · rw [hl] at t1
    exact t1
  refine ⟨_, rfl, a, A.CD, dx, _, rfl, s2 _ _ a1, T.clCD, T.nCDsown, thou (fieldF_len _ t) (by decide), ?_⟩
  rw [dF_pSown]
  generalize e3 : upd H2 a (.ins A.CD dx (fieldF { x with soil := f.soil k x.soil } t2)) = H3
  have a3 : H3 a = some (.ins A.CD dx (fieldF { x with soil := f.soil k x.soil } t2)) := e3 ▸ upd_same
  have b3 : But a H2 H3 := fun b o e n => by rw [← e3]; exact (upd_ne n).trans e
  have t3 : H3 t2 = some (.tup [vn (f.name k), vn la, vn lb]) := b3 _ _ et2 (ne_of et2 (s2 _ _ a1) fun z => nomatch z)
  clear e3
  -- years, brought
  refine ⟨_, rfl, a, A.CD, dx, _, _, rfl, a3, T.clCD, T.nCDyears, dF_years t2 _, _, _, rfl, rfl, dx, _, a3, thou (fieldF_len _ t2) (by decide), ?_⟩
  rw [show V.int (((x.years : Nat) : Int) + 1) = vn (x.years + 1) from vn_add x.years 1, dF_pYears]
  generalize e4 : upd H3 a (.ins A.CD dx (fieldF { { x with soil := f.soil k x.soil } with years := x.years + 1 } t2)) = H4
  have a4 : H4 a = some (.ins A.CD dx (fieldF { { x with soil := f.soil k x.soil } with years := x.years + 1 } t2)) := e4 ▸ upd_same
  have b4 : But a H3 H4 := fun b o e n => by rw [← e4]; exact (upd_ne n).trans e
  clear e4
  refine ⟨_, rfl, a, A.CD, dx, _, _, rfl, a4, T.clCD, T.nCDbrought, dF_brought t2 _, _, rfl, _, _, rfl, rfl, dx, _, a4, thou (fieldF_len _ t2) (by decide), ?_⟩
  rw [show V.int (((x.brought : Nat) : Int) + ((harvC (f.crop k) wt x.soil : Nat) : Int)) = vn (x.brought + f.harvest k wt x.soil) from vn_add _ _, dF_pBrought]
  generalize e5 : upd H4 a (.ins A.CD dx (fieldF { { { x with soil := f.soil k x.soil } with years := x.years + 1 } with brought := x.brought + f.harvest k wt x.soil } t2)) = H5
  have a5 : H5 a = some (.ins A.CD dx (fieldF { { { x with soil := f.soil k x.soil } with years := x.years + 1 } with brought := x.brought + f.harvest k wt x.soil } t2)) := e5 ▸ upd_same
  have b5 : But a H4 H5 := fun b o e n => by rw [← e5]; exact (upd_ne n).trans e
  clear e5
  refine ⟨_, rfl, q H5 ((((b1.trans (But.of s2)).trans b3).trans b4).trans b5) ⟨dx, t2, a5, ?_⟩⟩
  have t5 := b5 _ _ (b4 _ _ t3 (ne_of t3 a3 fun z => nomatch z)) (ne_of (b4 _ _ t3 (ne_of t3 a3 fun z => nomatch z)) a4 fun z => nomatch z)
  rw [t5]
  unfold Km350.Farm.grown
  dsimp only
  rw [hl]
  rfl
end
end Yf
/-! ### refusals; the state of a farm with its fields -/
namespace Yf
open PySem PySem.Spec PyProof.Rows L2
section
variable {P : Program} {w : World} {K : PySem.W.Frag} {mg : Str → Option Value} {base : Heap} {A : Ad}
def spRInit (A : Ad) : Sp := fun vs H Q _ => ∃ (a : Addr) (v : V), vs = [.ref a, v] ∧ H a = some (exo a A.CR none) ∧ ∀ dx, H dx = none → dx ≠ a → Q .non (upd (upd H dx (exd dx [("number", v)])) a (exo a A.CR (some dx)))
theorem ok_rInit (T : Txt K mg A) : FnOk P w K mg base CX0 1 A.rInit A.rInitD pRInit (spRInit A) := by
  refine T.fRInit.ok scRInit (fun vs H Q E h => ?_) (fun cdv Ar outer s H vs Q E hr h => ?_)
  · obtain ⟨a, v, rfl, _⟩ := h
    rfl
  obtain ⟨a, v, rfl, ha, q⟩ := h
  refine ⟨_, pss_one (ps_ost (pv 0) (pv 1)), ?_⟩
  exact ⟨_, rfl, _, rfl, a, A.CR, rfl, T.ox, T.nCR, .inl ⟨ha, q⟩⟩
/-- a refusal with a number -/
def Rz (A : Ad) (H : Hp) (v : Int) (E : XK) : Prop := ∀ (d : Addr) (H' : Hp), Same H H' → H d = none → H' d = some (.xd [("number", .int v)]) → E (.ref A.CR) (some d) H'
theorem Rz.same {H H1 : Hp} {v : Int} {E : XK} (h : Rz A H v E) (s : Same H H1) : Rz A H1 v E := fun d H' s' n e => h d H' (s.trans s') (s.free n) e
def spNeed (A : Ad) : Sp := fun vs H Q E => ∃ (b : Bool) (v : Int), vs = [.bl b, .int v] ∧ (b = true → Q .non H) ∧ (b = false → Rz A H v E)
theorem ok_need (T : Txt K mg A) : FnOk P w K mg base (L2.CX P w) 3 A.need A.needD pNeed (spNeed A) := by
  refine T.fNeed.okX scNeed (fun vs H Q E h => ?_) (fun cdv Ar outer s H vs Q E hr h => ?_)
  · obtain ⟨b, v, rfl, _⟩ := h
    rfl
  obtain ⟨b, v, rfl, q1, q2⟩ := h
  refine ⟨_, pss_one (ps_if (pt_not (pt_val (pv 0))) (pss_one (ps_raise rfl (takes_of (E := E) rfl rfl rfl rfl) (pmk_oex T.ox T.iCR T.tCR (ok_rInit T) hr T.bRInit .nil pass0 rfl T.gCR (by exact (pa_cons (pv 1) pa_nil))))) pss_nil), ?_⟩
  refine ⟨_, rfl, b, rfl, ?_⟩
  cases b with
  | true => exact if_false_of rfl (q1 rfl)
  | false =>
    refine if_true_of rfl ?_
    refine ⟨_, rfl, (by show 1 ≤ 1000; decide), fun a na => ?_⟩
    refine ⟨a, .int v, rfl, upd_same, fun dx nx ne => ⟨rfl, dx, [("number", .int v)], upd_same, ?_, ?_, ?_⟩⟩
    · rw [upd_ne ne]
      exact upd_same
    · rw [upd_ne ne] at nx
      exact nx
    · rw [upd_ne ne] at nx
      refine q2 rfl dx _ (fun b o e => ?_) nx upd_same
      have h1 : b ≠ a := ne_of_none e na
      have h2 : b ≠ dx := ne_of_none e nx
      rw [upd_ne h2, del_ne h1, upd_ne h1, upd_ne h2, upd_ne h1]
      exact e
def spFieldOf (A : Ad) : Sp := fun vs H Q E => ∃ (fa dx dC lF dF : Addr) (wt n : Nat) (refs : List Addr), vs = [.ref fa, vn n] ∧ H fa = some (.ins A.CF dx (farmF dC wt lF dF)) ∧ H lF = some (.lst (refs.map V.ref)) ∧
  (∀ a, refs[n]? = some a → Q (.ref a) H) ∧ (refs[n]? = none → Rz A H (-2) E)
theorem ok_fieldOf (T : Txt K mg A) : FnOk P w K mg base (L2.CX P w) 4 A.fieldOf A.fieldOfD pFieldOf (spFieldOf A) := by
  refine T.fFieldOf.okX scFieldOf (fun vs H Q E h => ?_) (fun cdv Ar outer s H vs Q E hr h => ?_)
  · obtain ⟨fa, dx, dC, lF, dF, wt, n, refs, rfl, _⟩ := h
    rfl
  obtain ⟨fa, dx, dC, lF, dF, wt, n, refs, rfl, h1, h2, q1, q2⟩ := h
  refine ⟨_, pss_cons (ps_expr (pe_call (ok_need T) hr rfl T.gNeed T.fNeed.kp T.bNeed .nil (passes_call (takes_of (E := E) rfl rfl rfl rfl) (fun _ _ _ _ h => h)) (by exact (pa_cons (pe_cmpR op_lt (pv 1) (pe_callB call_len_seq (by rfl) T.zlen PySem.boot_len (pa_cons (pe_fld (pv 0) rfl) pa_nil)) (nomark _)) (pa_cons (pe_un un_neg pe_int) pa_nil)))))
    (pss_one (ps_ret (pe_ix ix_list (pe_fld (pv 0) rfl) (pv 1) (fun _ _ => rfl)))), ?_⟩
  refine ⟨_, rfl, _, rfl, fa, A.CF, dx, _, _, rfl, h1, T.clCF, T.nCFfields, fF_fields dC lF dF wt, lF, _, rfl, .inl (SqL.of h2), _, _, rfl, rfl, _, rfl, ?_⟩
  refine ⟨_, _, rfl, fun hb => ?_, fun hb => ?_⟩
  · have hn : n < refs.length := by
      have := of_decide_eq_true hb
      rw [List.length_map] at this
      omega
    refine ⟨_, rfl, fa, A.CF, dx, _, _, rfl, h1, T.clCF, T.nCFfields, fF_fields dC lF dF wt, _, rfl, lF, _, _, .ref refs[n], rfl, rfl, SqL.of h2, atI_nat ?_, q1 _ (List.getElem?_eq_getElem hn)⟩
    rw [List.getElem?_map, List.getElem?_eq_getElem hn]
    rfl
  · refine q2 (List.getElem?_eq_none ?_)
    have := of_decide_eq_false hb
    rw [List.length_map] at this
    omega
end
/-! #### a farm with its fields, what it changes lying in Z -/
def FieldOk (f : Km350.Farm) (x : Km350.Field) : Prop := x.soil ≤ 100 ∧ LastOk f x.last
structure FarmAt (P : Program) (w : World) (A : Ad) (Z : Addr → Prop) (H : Hp) (fa : Addr) (s : Km350.Abs) (dC lF dF : Addr) (refs : List Addr) : Prop where
  ok : OkF s.farm
  zm : ∀ b, Z b → Mut (H b)
  few : s.fields.length ≤ 8
  fok : ∀ x ∈ s.fields, FieldOk s.farm x
  fs : FarmS A (sub Z H) fa s.farm dC lF dF
  zl : Z lF
  hl : H lF = some (.lst (refs.map V.ref))
  nd : refs.Nodup
  len : refs.length = s.fields.length
  zf : ∀ a ∈ refs, Z a
  fld : ∀ (i : Nat) (a : Addr) (x : Km350.Field), refs[i]? = some a → s.fields[i]? = some x → FieldAt A H a x
  zd : Z dF
  fd : FoundAt P w H dF s.farm
section
variable {P : Program} {w : World} {A : Ad} {Z : Addr → Prop} {H H' : Hp} {fa dC lF dF : Addr} {s : Km350.Abs} {refs : List Addr}
theorem mut_same (s : Same H H') {b : Addr} (h : Mut (H b)) : Mut (H' b) := by
  cases e : H b with
  | none => rw [e] at h; exact h.elim
  | some o => rw [s b o e, ← e]; exact h
theorem FarmAt.same (h : FarmAt P w A Z H fa s dC lF dF refs) (st : Same H H') : FarmAt P w A Z H' fa s dC lF dF refs where
  ok := h.ok
  zm := fun b z => mut_same st (h.zm b z)
  few := h.few
  fok := h.fok
  fs := h.fs.same ((ButZ.of st).sub fun b z => .inl z)
  zl := h.zl
  hl := st _ _ h.hl
  nd := h.nd
  len := h.len
  zf := h.zf
  fld := fun i a x e1 e2 => (h.fld i a x e1 e2).same st
  zd := h.zd
  fd := h.fd.same st
theorem FarmAt.tup (h : FarmAt P w A Z H fa s dC lF dF refs) {b : Addr} {xs : List V} (e : H b = some (.tup xs)) : ¬ Z b := fun z => by
  have := h.zm b z
  rw [e] at this
  exact this
/-- behind promised: the dict of what was found alone is another -/
theorem FarmAt.found (h : FarmAt P w A Z H fa s dC lF dF refs) (st : But dF H H') (fd : FoundAt P w H' dF s.farm) : FarmAt P w A Z H' fa s dC lF dF refs := by
  obtain ⟨xs, hd, _⟩ := h.fd
  obtain ⟨xs', hd', _⟩ := id fd
  exact {
    ok := h.ok
    zm := fun b z => by
      by_cases q : b = dF
      · rw [q, hd']
        exact True.intro
      · have m := h.zm b z
        cases e : H b with
        | none => rw [e] at m; exact m.elim
        | some o => rw [st b o e q, ← e]; exact m
    few := h.few
    fok := h.fok
    fs := h.fs.same ((st.toZ h.zd).sub fun b z => .inl z)
    zl := h.zl
    hl := st _ _ h.hl (ne_of h.hl hd fun z => nomatch z)
    nd := h.nd
    len := h.len
    zf := h.zf
    fld := fun i a x e1 e2 => by
      obtain ⟨dx, t, g1, g2⟩ := h.fld i a x e1 e2
      exact ⟨dx, t, st _ _ g1 (ne_of g1 hd fun z => nomatch z), st _ _ g2 (ne_of g2 hd fun z => nomatch z)⟩
    zd := h.zd
    fd := fd }
end
end Yf
/-! ### what each call answers, case by case -/
namespace Yf
open Km350
section
variable {s : Abs} {k c y wt x : Nat} {z : Field} {q : Nat}
theorem act_state_none (h : s.fields[k]? = none) : act s (.state k) = (s, only (-2)) := by
  unfold act
  dsimp only
  rw [h]
theorem act_state_some (h : s.fields[k]? = some z) : act s (.state k) = (s, { value := 0, out := [z.soil] ++ z.last ++ [z.years, z.brought] }) := by
  unfold act
  dsimp only
  rw [h]
theorem act_may_none (h : s.fields[k]? = none) : act s (.may k c) = (s, only (-2)) := by
  unfold act
  dsimp only
  rw [h]
theorem act_may_bad (h : s.fields[k]? = some z) (hn : s.farm.number c = none) : act s (.may k c) = (s, only (-22)) := by
  unfold act
  dsimp only
  rw [h]
  dsimp only
  rw [hn]
theorem act_may_ok (h : s.fields[k]? = some z) (hn : s.farm.number c = some q) : act s (.may k c) = (s, only (if s.farm.may z.last q = true then 1 else 0)) := by
  unfold act
  dsimp only
  rw [h]
  dsimp only
  rw [hn]
theorem act_plan_none (h : s.fields[k]? = none) : act s (.plan k y) = (s, only (-2)) := by
  unfold act
  dsimp only
  rw [h]
theorem act_plan_bad (h : s.fields[k]? = some z) (hy : y = 0 ∨ 6 < y) : act s (.plan k y) = (s, only (-22)) := by
  unfold act
  dsimp only
  rw [h]
  dsimp only
  rw [if_pos hy]
theorem act_plan_ok (h : s.fields[k]? = some z) (hy : ¬ (y = 0 ∨ 6 < y)) : act s (.plan k y) = (s, { value := 0, out := [s.farm.name (s.farm.choice (y - 1) z.soil z.last), s.farm.value y z.soil z.last] }) := by
  unfold act
  dsimp only
  rw [h]
  dsimp only
  rw [if_neg hy]
theorem act_grow_none (h : s.fields[k]? = none) : act s (.grow k c wt) = (s, only (-2)) := by
  unfold act
  dsimp only
  rw [h]
theorem act_grow_bad (h : s.fields[k]? = some z) (hn : s.farm.number c = none) : act s (.grow k c wt) = (s, only (-22)) := by
  unfold act
  dsimp only
  rw [h]
  dsimp only
  rw [hn]
theorem act_grow_w (h : s.fields[k]? = some z) (hn : s.farm.number c = some q) (hw : s.farm.weathers ≤ wt) : act s (.grow k c wt) = (s, only (-22)) := by
  unfold act
  dsimp only
  rw [h]
  dsimp only
  rw [hn]
  dsimp only
  rw [if_pos hw]
theorem act_grow_may (h : s.fields[k]? = some z) (hn : s.farm.number c = some q) (hw : ¬ s.farm.weathers ≤ wt) (hm : s.farm.may z.last q = false) : act s (.grow k c wt) = (s, only (-13)) := by
  unfold act
  dsimp only
  rw [h]
  dsimp only
  rw [hn]
  dsimp only
  rw [if_neg hw, if_pos hm]
theorem act_grow_old (h : s.fields[k]? = some z) (hn : s.farm.number c = some q) (hw : ¬ s.farm.weathers ≤ wt) (hm : s.farm.may z.last q = true) (hy : 4096 ≤ z.years) : act s (.grow k c wt) = (s, only (-28)) := by
  unfold act
  dsimp only
  rw [h]
  dsimp only
  rw [hn]
  dsimp only
  rw [if_neg hw, if_neg (by rw [hm]; exact Bool.noConfusion), if_pos (show YEARS ≤ z.years from hy)]
theorem act_grow_ok (h : s.fields[k]? = some z) (hn : s.farm.number c = some q) (hw : ¬ s.farm.weathers ≤ wt) (hm : s.farm.may z.last q = true) (hy : ¬ 4096 ≤ z.years) :
    act s (.grow k c wt) = ({ s with fields := s.fields.set k (s.farm.grown z q wt) }, only (s.farm.harvest q wt z.soil : Nat)) := by
  unfold act
  dsimp only
  rw [h]
  dsimp only
  rw [hn]
  dsimp only
  rw [if_neg hw, if_neg (by rw [hm]; exact Bool.noConfusion), if_neg (show ¬ YEARS ≤ z.years from hy)]
theorem act_field_bad (h : 100 < x) : act s (.field x) = (s, only (-22)) := by
  unfold act
  dsimp only
  rw [if_pos (show SOIL < x from h)]
theorem act_field_full (h : ¬ 100 < x) (hf : 8 ≤ s.fields.length) : act s (.field x) = (s, only (-28)) := by
  unfold act
  dsimp only
  rw [if_neg (show ¬ SOIL < x from h), if_pos (show FIELDS ≤ s.fields.length from hf)]
theorem act_field_ok (h : ¬ 100 < x) (hf : ¬ 8 ≤ s.fields.length) : act s (.field x) = ({ s with fields := s.fields ++ [field0 x] }, only (s.fields.length : Nat)) := by
  unfold act
  dsimp only
  rw [if_neg (show ¬ SOIL < x from h), if_neg (show ¬ FIELDS ≤ s.fields.length from hf)]
end
end Yf
/-! ### the calls on a farm -/
namespace Yf
open PySem PySem.Spec PyProof.Rows L2
/-- what a call answers, over the heap: a refusal, or the list of its numbers and the state behind it -/
def Ans (P : Program) (w : World) (A : Ad) (x : Km350.Call) (Z : Addr → Prop) (H : Hp) (fa : Addr) (s : Km350.Abs) (Q : VK) (E : XK) : Prop :=
  ((Km350.act s x).2.value < 0 → Rz A H (Km350.act s x).2.value E) ∧
  (0 ≤ (Km350.act s x).2.value → ∀ (H' : Hp) (p : Addr) (Z' : Addr → Prop) (dC lF dF : Addr) (refs : List Addr), ButZ Z H H' → (∀ b, Z' b → Z b ∨ H b = none) → FarmAt P w A Z' H' fa (Km350.act s x).1 dC lF dF refs → H p = none →
    H' p = some (.lst ((Km350Neutral.told (Km350.act s x).2).map V.int)) → Q (.ref p) H')
def spState (P : Program) (w : World) (A : Ad) : Sp := fun vs H Q E => ∃ (fa dC lF dF : Addr) (Z : Addr → Prop) (s : Km350.Abs) (refs : List Addr) (k : Nat), vs = [.ref fa, vn k] ∧ FarmAt P w A Z H fa s dC lF dF refs ∧ Ans P w A (.state k) Z H fa s Q E
def spMay (P : Program) (w : World) (A : Ad) : Sp := fun vs H Q E => ∃ (fa dC lF dF : Addr) (Z : Addr → Prop) (s : Km350.Abs) (refs : List Addr) (k c : Nat), vs = [.ref fa, vn k, vn c] ∧ FarmAt P w A Z H fa s dC lF dF refs ∧ Ans P w A (.may k c) Z H fa s Q E
def spPlan (P : Program) (w : World) (A : Ad) : Sp := fun vs H Q E => ∃ (fa dC lF dF : Addr) (Z : Addr → Prop) (s : Km350.Abs) (refs : List Addr) (k y : Nat), vs = [.ref fa, vn k, vn y] ∧ FarmAt P w A Z H fa s dC lF dF refs ∧ Ans P w A (.plan k y) Z H fa s Q E
def spGrow (P : Program) (w : World) (A : Ad) : Sp := fun vs H Q E => ∃ (fa dC lF dF : Addr) (Z : Addr → Prop) (s : Km350.Abs) (refs : List Addr) (k c wt : Nat), vs = [.ref fa, vn k, vn c, vn wt] ∧ FarmAt P w A Z H fa s dC lF dF refs ∧ Ans P w A (.grow k c wt) Z H fa s Q E
def spNewF (P : Program) (w : World) (A : Ad) : Sp := fun vs H Q E => ∃ (fa dC lF dF : Addr) (Z : Addr → Prop) (s : Km350.Abs) (refs : List Addr) (x : Nat), vs = [.ref fa, vn x] ∧ FarmAt P w A Z H fa s dC lF dF refs ∧ Ans P w A (.field x) Z H fa s Q E
theorem nums_vn (l : List Nat) : (Km350Neutral.nums l).map V.int = l.map vn := by
  unfold Km350Neutral.nums
  rw [List.map_map]
  rfl
section
variable {P : Program} {w : World} {K : PySem.W.Frag} {mg : Str → Option Value} {base : Heap} {A : Ad}
theorem FarmAt.obj {Z : Addr → Prop} {H : Hp} {fa dC lF dF : Addr} {s : Km350.Abs} {refs : List Addr} (h : FarmAt P w A Z H fa s dC lF dF refs) : ∃ dx, H fa = some (.ins A.CF dx (farmF dC s.farm.weathers lF dF)) := by
  obtain ⟨⟨dx, e⟩, _⟩ := h.fs
  exact ⟨dx, sub_same _ _ e⟩
theorem FarmAt.fsH {Z : Addr → Prop} {H : Hp} {fa dC lF dF : Addr} {s : Km350.Abs} {refs : List Addr} (h : FarmAt P w A Z H fa s dC lF dF refs) : FarmS A H fa s.farm dC lF dF := h.fs.same sub_same
theorem FarmAt.noF {Z : Addr → Prop} {H : Hp} {fa dC lF dF : Addr} {s : Km350.Abs} {refs : List Addr} (h : FarmAt P w A Z H fa s dC lF dF refs) {k : Nat} (e : refs[k]? = none) : s.fields[k]? = none := by
  rw [List.getElem?_eq_none_iff] at e ⊢
  rw [← h.len]
  exact e
theorem FarmAt.theF {Z : Addr → Prop} {H : Hp} {fa dC lF dF a : Addr} {s : Km350.Abs} {refs : List Addr} (h : FarmAt P w A Z H fa s dC lF dF refs) {k : Nat} (e : refs[k]? = some a) : ∃ x, s.fields[k]? = some x ∧ FieldAt A H a x ∧ FieldOk s.farm x := by
  have hk : k < refs.length := (List.getElem?_eq_some_iff.mp e).1
  rw [h.len] at hk
  have e2 : s.fields[k]? = some s.fields[k] := List.getElem?_eq_getElem hk
  exact ⟨s.fields[k], e2, h.fld k a _ e e2, h.fok _ (List.getElem_mem hk)⟩
/-- nothing of the state is changed -/
theorem Ans.keep {x : Km350.Call} {Z : Addr → Prop} {H H' : Hp} {fa dC lF dF p : Addr} {s : Km350.Abs} {refs : List Addr} {Q : VK} {E : XK} (h : Ans P w A x Z H fa s Q E) (h0 : 0 ≤ (Km350.act s x).2.value) (hs : (Km350.act s x).1 = s) (st : Same H H')
    (fat : FarmAt P w A Z H fa s dC lF dF refs) (n : H p = none) (e : H' p = some (.lst ((Km350Neutral.told (Km350.act s x).2).map V.int))) : Q (.ref p) H' :=
  h.2 h0 H' p Z dC lF dF refs (ButZ.of st) (fun b z => .inl z) (by rw [hs]; exact fat.same st) n e
theorem ok_state (T : Txt K mg A) : FnOk P w K mg base (L2.CX P w) 5 A.state A.stateD pState (spState P w A) := by
  refine T.fState.okX scState (fun vs H Q E h => ?_) (fun cdv Ar outer s H vs Q E hr h => ?_)
  · obtain ⟨fa, dC, lF, dF, Z, st, refs, k, rfl, _⟩ := h
    rfl
  obtain ⟨fa, dC, lF, dF, Z, st, refs, k, rfl, fat, q⟩ := h
  have hr1 := hr.mono (show 1 ≤ 4 by decide)
  refine ⟨_, pss_one (ps_ret (pe_op op_cat (pe_lst (pa_cons pe_int pa_nil)) (pe_meth0 (pe_call (ok_fieldOf T) hr rfl T.gFieldOf T.fFieldOf.kp T.bFieldOf .nil (passes_call (takes_of (E := E) rfl rfl rfl rfl) (fun _ _ _ _ h => h)) (by exact (pa_cons (pv 0) (pa_cons (pv 1) pa_nil)))) T.clCD T.mDTold (ok_dTold T) hr1 T.bDTold .nil pass0))), ?_⟩
  obtain ⟨dx, h1⟩ := fat.obj
  refine ⟨(by show 1 ≤ sizeLine; decide), fun p1 n1 => ?_⟩
  have s1 : Same H (upd H p1 (.lst [.int 0])) := sUpd n1
  refine ⟨_, rfl, _, rfl, fa, dx, dC, lF, dF, _, k, refs, rfl, s1 _ _ h1, s1 _ _ fat.hl, fun a ea => ?_, fun en => ?_⟩
  · obtain ⟨x, ex, fx, ok⟩ := fat.theF ea
    have fx1 := fx.same s1
    obtain ⟨dxx, t, g1, g2⟩ := id fx1
    have hl3 : x.last.length ≤ 3 := by
      obtain ⟨a, b, c, e, _⟩ := ok.2
      rw [e]
      exact Nat.le_refl 3
    refine ⟨a, dxx, _, rfl, g1, dF_told t x, a, x, rfl, fx1, hl3, fun H2 p2 s2 n2 e2 => ?_⟩
    have hlen : (toldF x).length ≤ 6 := by
      unfold toldF
      rw [List.length_append, List.length_append]
      show 1 + x.last.length + 2 ≤ 6
      omega
    refine ⟨p1, p2, _, _, rfl, rfl, s2 _ _ upd_same, e2, ?_, fun p3 n3 => ?_⟩
    · rw [List.length_map, sizeLine_eq]
      show 1 + (toldF x).length ≤ 16777216
      omega
    have s3 : Same H2 _ := sUpd (o := .lst ([.int 0] ++ (toldF x).map vn)) n3
    have hact : Km350.act st (.state k) = (st, { value := 0, out := toldF x }) := act_state_some ex
    have s12 := s1.trans s2
    refine q.keep (by rw [hact]; exact Int.le_refl 0) (by rw [hact]) (s12.trans s3) fat (s12.free n3) (upd_same.trans ?_)
    rw [hact]
    unfold Km350Neutral.told
    rw [List.map_cons, nums_vn]
    rfl
  · have hact : Km350.act st (.state k) = (st, Km350.only (-2)) := act_state_none (fat.noF en)
    have r := q.1 (by rw [hact]; show (-2 : Int) < 0; decide)
    rw [hact] at r
    exact r.same s1
theorem inV_names {f : Km350.Farm} (hf : OkF f) {last : List Nat} {q : Nat} (hq : q ≤ f.crops.length) : inV (vn (f.name q)) ((f.choices last).map fun k => vn (f.name k)) = f.may last q := by
  have e : ((f.choices last).map fun k => vn (f.name k)) = ((f.choices last).map fun k => f.name k).map vn := by
    rw [List.map_map]
    rfl
  rw [e, inV_nats]
  by_cases h : f.may last q = true
  · rw [h]
    exact decide_eq_true (List.mem_map.mpr ⟨q, mem_choices.mpr ⟨hq, h⟩, rfl⟩)
  · have h' : f.may last q = false := by
      cases z : f.may last q with
      | true => exact absurd z h
      | false => rfl
    rw [h']
    refine decide_eq_false fun hm => ?_
    obtain ⟨k, hk, e2⟩ := List.mem_map.mp hm
    have hk' := mem_choices.mp hk
    have := name_inj hf hk'.1 hq e2
    subst this
    exact h hk'.2
theorem flat_names (f : Km350.Farm) (l : List Nat) : (l.map fun k => vn (f.name k)).all flatV = true := by
  induction l with
  | nil => rfl
  | cons a r ih => exact ih
theorem ok_may (T : Txt K mg A) : FnOk P w K mg base (L2.CX P w) 5 A.may A.mayD pMay (spMay P w A) := by
  refine T.fMay.okX scMay (fun vs H Q E h => ?_) (fun cdv Ar outer s H vs Q E hr h => ?_)
  · obtain ⟨fa, dC, lF, dF, Z, st, refs, k, c, rfl, _⟩ := h
    rfl
  obtain ⟨fa, dC, lF, dF, Z, st, refs, k, c, rfl, fat, q⟩ := h
  have hu := hu_of hr
  have hr2 := hr.mono (show 2 ≤ 4 by decide)
  have hr3 := hr.mono (show 3 ≤ 4 by decide)
  refine ⟨_, pss_cons (ps_set (i := 3) scMay.nd rfl (Or.inl rfl) (pe_call (ok_fieldOf T) hr rfl T.gFieldOf T.fFieldOf.kp T.bFieldOf .nil (passes_call (takes_of (E := E) rfl rfl rfl rfl) (fun _ _ _ _ h => h)) (by exact (pa_cons (pv 0) (pa_cons (pv 1) pa_nil)))))
    (pss_cons (ps_expr (pe_call (ok_need T) hr3 rfl T.gNeed T.fNeed.kp T.bNeed .nil (passes_call (takes_of (E := E) rfl rfl rfl rfl) (fun _ _ _ _ h => h)) (by exact (pa_cons (pe_cmp (pc_din hu (pv 2) (pe_fld (pv 0) rfl))) (pa_cons (pe_un un_neg pe_int) pa_nil)))))
    (pss_one (ps_ret (pe_lst (pa_cons (pe_callTy call_int1 (by rfl) T.zint (by decide +kernel) (pa_cons (pe_cmpR op_in_seq (pv 2) (pe_meth (pv 0) T.clCF T.mFMay (ok_fMay T) hr2 T.bFMay .nil pass0 (pa_cons (pe_fld (pv 3) rfl) pa_nil)) (by rfl)) pa_nil)) pa_nil))))), ?_⟩
  obtain ⟨dx, h1⟩ := fat.obj
  refine ⟨_, rfl, _, rfl, fa, dx, dC, lF, dF, _, k, refs, rfl, h1, fat.hl, fun a ea => ?_, fun en => ?_⟩
  · obtain ⟨x, ex, fx, ok⟩ := fat.theF ea
    obtain ⟨dxx, t, g1, g2⟩ := id fx
    obtain ⟨_, as, hal, hC, hcs⟩ := fat.fsH
    cases hn : st.farm.number c with
    | none =>
      have hact : Km350.act st (.may k c) = (st, Km350.only (-22)) := act_may_bad ex hn
      have hg : DGet H dC (vn c) none := by
        rw [← crops_not (f := st.farm) (as := as) (z := (c : Int)) fun j e => number_none hn j (by omega)]
        exact DGet.k (k := Sum.inl (c : Int)) hC
      have r := q.1 (by rw [hact]; show (-22 : Int) < 0; decide)
      rw [hact] at r
      exact ⟨_, rfl, _, rfl, fa, A.CF, dx, _, _, rfl, h1, T.clCF, T.nCFcrops, fF_crops dC lF dF _, dC, _, rfl, hg, _, rfl, _, _, rfl, (fun z => nomatch z), fun _ => r⟩
    | some n =>
      obtain ⟨hn1, hn2⟩ := number_some hn
      obtain ⟨ck, hck, hv⟩ := crops_get fat.ok hal hn1
      have hg : DGet H dC (vn c) (some (.ref ck)) := by
        rw [← hv, ← hn2]
        exact DGet.k (k := Sum.inl ((st.farm.name n : Nat) : Int)) hC
      refine ⟨_, rfl, _, rfl, fa, A.CF, dx, _, _, rfl, h1, T.clCF, T.nCFcrops, fF_crops dC lF dF _, dC, _, rfl, hg, _, rfl, _, _, rfl, fun _ => ?_, fun z => nomatch z⟩
      refine ⟨_, rfl, _, rfl, fa, dx, _, rfl, h1, fF_may _ _ _ _, _, rfl, a, A.CD, dxx, _, _, rfl, g1, T.clCD, T.nCDsown, dF_sown t x, fa, t, dC, lF, dF, st.farm, x.last, rfl, fat.ok, fat.fsH, g2, fun H2 p2 s2 n2 e2 => ?_⟩
      refine ⟨p2, _, rfl, .inl (SqL.of e2), rfl, flat_names _ _, .inr ⟨_, rfl, ?_⟩⟩
      refine ⟨(by show 1 ≤ sizeLine; decide), fun p3 n3 => ?_⟩
      have hact : Km350.act st (.may k c) = (st, Km350.only (if st.farm.may x.last n = true then 1 else 0)) := act_may_ok ex hn
      have s3 : Same H2 _ := sUpd (o := .lst [.int (if st.farm.may x.last n = true then 1 else 0)]) n3
      have ev : inV (vn c) ((st.farm.choices x.last).map fun k => vn (st.farm.name k)) = st.farm.may x.last n := by
        rw [← hn2]
        exact inV_names fat.ok hn1
      show Q (.ref p3) (upd H2 p3 (.lst [.int (if inV (vn c) ((st.farm.choices x.last).map fun k => vn (st.farm.name k)) = true then 1 else 0)]))
      rw [ev]
      refine q.keep ?_ (by rw [hact]) (s2.trans s3) fat (s2.free n3) (upd_same.trans ?_)
      · rw [hact]
        show 0 ≤ (if st.farm.may x.last n = true then (1 : Int) else 0)
        split <;> decide
      · rw [hact]
        rfl
  · have hact : Km350.act st (.may k c) = (st, Km350.only (-2)) := act_may_none (fat.noF en)
    have r := q.1 (by rw [hact]; show (-2 : Int) < 0; decide)
    rw [hact] at r
    exact r
end
end Yf
/-! ### the calls on a farm: plan, a field more, a year -/
namespace Yf
open PySem PySem.Spec PyProof.Rows L2
section
variable {P : Program} {w : World} {A : Ad} {Z : Addr → Prop} {H H1 H2 H' : Hp} {fa dC lF dF a x : Addr} {s : Km350.Abs} {refs : List Addr} {z : Km350.Field}
/-- a field more -/
theorem FarmAt.more (h : FarmAt P w A Z H fa s dC lF dF refs) (st : Same H H1) (nx : H x = none) (fx : FieldAt A H1 x z) (ok : FieldOk s.farm z) (few : s.fields.length < 8) (e2 : H2 = upd H1 lF (.lst ((refs ++ [x]).map V.ref))) :
    ButZ Z H H2 ∧ (∀ b, Z b ∨ b = x → Z b ∨ H b = none) ∧ FarmAt P w A (fun b => Z b ∨ b = x) H2 fa { s with fields := s.fields ++ [z] } dC lF dF (refs ++ [x]) := by
  have hl1 := st _ _ h.hl
  have k2 : ∀ b, b ≠ lF → H2 b = H1 b := fun b q => by rw [e2]; exact upd_ne q
  have a2 : H2 lF = some (.lst ((refs ++ [x]).map V.ref)) := by rw [e2]; exact upd_same
  have bz : ButZ Z H H2 := fun b o e n => by
    rw [k2 b fun q => n (q ▸ h.zl)]
    exact st _ _ e
  have zz : ∀ b, Z b ∨ b = x → Z b ∨ H b = none := fun b q => q.imp id fun q => by rw [q]; exact nx
  have tup : ∀ b ys, H1 b = some (.tup ys) → H2 b = some (.tup ys) := fun b ys e => by
    rw [k2 b (ne_of e hl1 fun z => nomatch z)]
    exact e
  have fld : ∀ {b : Addr} {y : Km350.Field}, FieldAt A H1 b y → FieldAt A H2 b y := by
    rintro b y ⟨dx, t, g1, g2⟩
    exact ⟨dx, t, by rw [k2 b (ne_of g1 hl1 fun z => nomatch z)]; exact g1, tup _ _ g2⟩
  refine ⟨bz, zz, ?_⟩
  exact {
    ok := h.ok
    zm := fun b q => by
      by_cases e : b = lF
      · rw [e, a2]
        exact True.intro
      · rw [k2 b e]
        rcases q with q | q
        · exact mut_same st (h.zm b q)
        · obtain ⟨dx, t, g1, _⟩ := fx
          rw [q, g1]
          exact True.intro
    few := by
      show (s.fields ++ [z]).length ≤ 8
      rw [List.length_append]
      show s.fields.length + 1 ≤ 8
      omega
    fok := fun y hy => by
      rcases List.mem_append.mp hy with q | q
      · exact h.fok y q
      · rw [List.mem_singleton.mp q]
        exact ok
    fs := h.fs.same (bz.sub zz)
    zl := .inl h.zl
    hl := a2
    nd := nd_snoc h.nd fun hx => by
      have m := h.zm x (h.zf x hx)
      rw [nx] at m
      exact m
    len := by
      show (refs ++ [x]).length = (s.fields ++ [z]).length
      rw [List.length_append, List.length_append, h.len]
      rfl
    zf := fun b hb => by
      rcases List.mem_append.mp hb with q | q
      · exact .inl (h.zf b q)
      · exact .inr (List.mem_singleton.mp q)
    fld := fun i b y e1 e3 => by
      by_cases hi : i < refs.length
      · rw [List.getElem?_append_left hi] at e1
        rw [List.getElem?_append_left (by rw [← h.len]; exact hi)] at e3
        exact fld ((h.fld i b y e1 e3).same st)
      · have hi' : i = refs.length := by
          have := (List.getElem?_eq_some_iff.mp e1).1
          rw [List.length_append] at this
          simp at this
          omega
        subst hi'
        rw [List.getElem?_append_right (Nat.le_refl _), Nat.sub_self] at e1
        rw [List.getElem?_append_right (by rw [h.len]; exact Nat.le_refl _), h.len, Nat.sub_self] at e3
        cases e1
        cases e3
        exact fld fx
    zd := .inl h.zd
    fd := by
      obtain ⟨xs, g1, g2, g3⟩ := h.fd.same st
      exact ⟨xs, by rw [k2 dF (ne_of g1 hl1 fun z => nomatch z)]; exact g1, g2, fun y hy => (g3 y hy).tups tup⟩ }
/-- a field's next year -/
theorem FarmAt.grown (h : FarmAt P w A Z H fa s dC lF dF refs) {k : Nat} {y : Km350.Field} (ea : refs[k]? = some a) (ey : s.fields[k]? = some y) (st : But a H H') (fx : FieldAt A H' a z) (ok : FieldOk s.farm z) : FarmAt P w A Z H' fa { s with fields := s.fields.set k z } dC lF dF refs := by
  obtain ⟨dy, ty, h1, h2⟩ := h.fld k a y ea ey
  have za := h.zf a (List.mem_of_getElem? ea)
  have tup : ∀ b ys, H b = some (.tup ys) → H' b = some (.tup ys) := fun b ys e => st _ _ e (ne_of e h1 fun z => nomatch z)
  exact {
    ok := h.ok
    zm := fun b q => by
      by_cases e : b = a
      · obtain ⟨dx, t, g1, _⟩ := fx
        rw [e, g1]
        exact True.intro
      · have m := h.zm b q
        cases eb : H b with
        | none => rw [eb] at m; exact m.elim
        | some o => rw [st b o eb e, ← eb]; exact m
    few := by
      show (s.fields.set k z).length ≤ 8
      rw [List.length_set]
      exact h.few
    fok := fun y hy => by
      rcases List.mem_or_eq_of_mem_set hy with q | q
      · exact h.fok y q
      · rw [q]
        exact ok
    fs := h.fs.same ((st.toZ za).sub fun b q => .inl q)
    zl := h.zl
    hl := st _ _ h.hl (ne_of h.hl h1 fun z => nomatch z)
    nd := h.nd
    len := by
      show refs.length = (s.fields.set k z).length
      rw [List.length_set]
      exact h.len
    zf := h.zf
    fld := fun i b x e1 e2 => by
      by_cases hi : i = k
      · subst hi
        rw [ea] at e1
        cases e1
        have hk : i < s.fields.length := (List.getElem?_eq_some_iff.mp ey).1
        have e2' : (s.fields.set i z)[i]? = some x := e2
        rw [List.getElem?_set_self hk] at e2'
        cases e2'
        exact fx
      · have e2' : (s.fields.set k z)[i]? = some x := e2
        rw [List.getElem?_set_ne (fun q => hi q.symm)] at e2'
        obtain ⟨dx, t, g1, g2⟩ := h.fld i b x e1 e2'
        have hb : b ≠ a := fun q => by
          subst q
          exact hi (nd_ix h.nd e1 ea)
        exact ⟨dx, t, st _ _ g1 hb, tup _ _ g2⟩
    zd := h.zd
    fd := by
      obtain ⟨xs, g1, g2, g3⟩ := h.fd
      exact ⟨xs, st _ _ g1 (ne_of g1 h1 fun z => nomatch z), g2, fun y hy => (g3 y hy).tups tup⟩ }
end
section
variable {P : Program} {w : World} {K : PySem.W.Frag} {mg : Str → Option Value} {base : Heap} {A : Ad}
theorem ok_plan (T : Txt K mg A) : FnOk P w K mg base (L2.CX P w) 25 A.plan A.planD pPlan (spPlan P w A) := by
  refine T.fPlan.okX scPlan (fun vs H Q E h => ?_) (fun cdv Ar outer s H vs Q E hr h => ?_)
  · obtain ⟨fa, dC, lF, dF, Z, st, refs, k, y, rfl, _⟩ := h
    rfl
  obtain ⟨fa, dC, lF, dF, Z, st, refs, k, y, rfl, fat, q⟩ := h
  have hr3 := hr.mono (show 3 ≤ 24 by decide)
  have hr4 := hr.mono (show 4 ≤ 24 by decide)
  refine ⟨_, pss_cons (ps_set (i := 3) scPlan.nd rfl (Or.inl rfl) (pe_call (ok_fieldOf T) hr4 rfl T.gFieldOf T.fFieldOf.kp T.bFieldOf .nil (passes_call (takes_of (E := E) rfl rfl rfl rfl) (fun _ _ _ _ h => h)) (by exact (pa_cons (pv 0) (pa_cons (pv 1) pa_nil)))))
    (pss_cons (ps_expr (pe_call (ok_need T) hr3 rfl T.gNeed T.fNeed.kp T.bNeed .nil (passes_call (takes_of (E := E) rfl rfl rfl rfl) (fun _ _ _ _ h => h)) (by exact (pa_cons (pe_chain op_le op_le pe_int (pv 2) (pe_glob rfl T.gMOST_PLAN (rvi _ _))) (pa_cons (pe_un un_neg pe_int) pa_nil)))))
    (pss_one (ps_ret (pe_op op_cat (pe_lst (pa_cons pe_int pa_nil)) (pe_callTy call_list_of (by rfl) T.zlist (by decide +kernel) (pa_cons (pe_meth (pv 0) T.clCF T.mFProm (ok_prom T 7) hr T.bFProm .nil pass0 (pa_cons (pv 2) (pa_cons (pe_fld (pv 3) rfl) (pa_cons (pe_fld (pv 3) rfl) pa_nil)))) pa_nil)))))), ?_⟩
  obtain ⟨dx, h1⟩ := fat.obj
  refine ⟨_, rfl, _, rfl, fa, dx, dC, lF, dF, _, k, refs, rfl, h1, fat.hl, fun a ea => ?_, fun en => ?_⟩
  · obtain ⟨x, ex, fx, ok⟩ := fat.theF ea
    obtain ⟨dxx, t, g1, g2⟩ := id fx
    refine ⟨_, rfl, _, _, rfl, rfl, _, rfl, ?_⟩
    by_cases hy0 : y = 0
    · have r := q.1 (by rw [act_plan_bad ex (.inl hy0)]; show (-22 : Int) < 0; decide)
      rw [act_plan_bad ex (.inl hy0)] at r
      exact if_false_of (decide_eq_false (by omega)) ⟨_, rfl, _, _, rfl, (fun z => nomatch z), fun _ => r⟩
    refine if_true_of (decide_eq_true (by omega)) ?_
    refine ⟨_, _, rfl, rfl, _, rfl, _, _, rfl, fun hb => ?_, fun hb => ?_⟩
    · have hy6 : y ≤ 6 := by
        have := of_decide_eq_true hb
        omega
      have hact := act_plan_ok (y := y) ex (fun z => by omega)
      refine ⟨(by show 1 ≤ sizeLine; decide), fun p1 n1 => ?_⟩
      have s1 : Same H (upd H p1 (.lst [.int 0])) := sUpd n1
      have fat1 := fat.same s1
      refine ⟨_, rfl, fa, dx, _, rfl, s1 _ _ h1, fF_prom _ _ _ _, _, rfl, _, rfl, a, A.CD, dxx, _, _, rfl, s1 _ _ g1, T.clCD, T.nCDsoil, dF_soil t x, _, rfl, a, A.CD, dxx, _, _, rfl, s1 _ _ g1, T.clCD, T.nCDsown, dF_sown t x,
        fa, t, dC, lF, dF, st.farm, y, x.soil, x.last, rfl, by omega, hy6, ⟨fat.ok, fat1.fsH, fat1.fd, s1 _ _ g2, ok.2, ok.1⟩, fun H2 p2 b2 fd2 e2 => ?_⟩
      have fat2 := fat1.found b2 fd2
      obtain ⟨xs1, hd1, _⟩ := fat1.fd
      refine ⟨p2, _, rfl, .inr (SqT.of e2), fun p3 n3 => ?_⟩
      have s3 : Same H2 _ := sUpd (o := .lst [vn (ch st.farm y x.soil x.last), vn (st.farm.value y x.soil x.last)]) n3
      refine ⟨p1, p3, _, _, rfl, rfl, s3 _ _ (b2 _ _ upd_same (ne_of upd_same hd1 fun z => nomatch z)), upd_same, (by show 3 ≤ sizeLine; decide), fun p4 n4 => ?_⟩
      have s4 : Same _ (upd (upd H2 p3 (.lst [vn (ch st.farm y x.soil x.last), vn (st.farm.value y x.soil x.last)])) p4 (.lst ([.int 0] ++ [vn (ch st.farm y x.soil x.last), vn (st.farm.value y x.soil x.last)]))) := sUpd n4
      have bz : ButZ Z H (upd (upd H2 p3 (.lst [vn (ch st.farm y x.soil x.last), vn (st.farm.value y x.soil x.last)])) p4 (.lst ([.int 0] ++ [vn (ch st.farm y x.soil x.last), vn (st.farm.value y x.soil x.last)]))) := fun b o e n =>
        s4 _ _ (s3 _ _ (b2 _ _ (s1 _ _ e) fun z => n (z ▸ fat.zd)))
      have np : H p4 = none := by
        cases e : H p4 with
        | none => rfl
        | some o =>
          exfalso
          by_cases z : p4 = dF
          · obtain ⟨xs2, hd2, _⟩ := fd2
            rw [z, s3 _ _ hd2] at n4
            cases n4
          · rw [s3 _ _ (b2 _ _ (s1 _ _ e) z)] at n4
            cases n4
      refine q.2 (by rw [hact]; exact Int.le_refl 0) _ p4 Z dC lF dF refs bz (fun b z => .inl z) (by rw [hact]; exact (fat2.same s3).same s4) np (upd_same.trans ?_)
      rw [hact]
      unfold Km350Neutral.told
      rw [List.map_cons, nums_vn]
      have ec : ch st.farm y x.soil x.last = st.farm.name (st.farm.choice (y - 1) x.soil x.last) := by
        cases y with
        | zero => exact absurd rfl hy0
        | succ y => rfl
      rw [ec]
      rfl
    · have hy6 : 6 < y := by
        have := of_decide_eq_false hb
        omega
      have r := q.1 (by rw [act_plan_bad ex (.inr hy6)]; show (-22 : Int) < 0; decide)
      rw [act_plan_bad ex (.inr hy6)] at r
      exact r
  · have hact : Km350.act st (.plan k y) = (st, Km350.only (-2)) := act_plan_none (fat.noF en)
    have r := q.1 (by rw [hact]; show (-2 : Int) < 0; decide)
    rw [hact] at r
    exact r
end
end Yf
/-! ### the calls on a farm: a field more, a year -/
namespace Yf
open PySem PySem.Spec PyProof.Rows L2
section
variable {P : Program} {w : World} {K : PySem.W.Frag} {mg : Str → Option Value} {base : Heap} {A : Ad}
theorem ok_newF (T : Txt K mg A) : FnOk P w K mg base (L2.CX P w) 4 A.newF A.newFD pNewF (spNewF P w A) := by
  refine T.fNewF.okX scNewF (fun vs H Q E h => ?_) (fun cdv Ar outer s H vs Q E hr h => ?_)
  · obtain ⟨fa, dC, lF, dF, Z, st, refs, x, rfl, _⟩ := h
    rfl
  obtain ⟨fa, dC, lF, dF, Z, st, refs, x, rfl, fat, q⟩ := h
  have hr2 := hr.mono (show 2 ≤ 3 by decide)
  refine ⟨_, pss_cons (ps_expr (pe_call (ok_need T) hr rfl T.gNeed T.fNeed.kp T.bNeed .nil (passes_call (takes_of (E := E) rfl rfl rfl rfl) (fun _ _ _ _ h => h)) (by exact (pa_cons (pe_cmpR op_le (pv 1) (pe_glob rfl T.gMOST_SOIL (rvi _ _)) (nomark _)) (pa_cons (pe_un un_neg pe_int) pa_nil)))))
    (pss_cons (ps_expr (pe_call (ok_need T) hr rfl T.gNeed T.fNeed.kp T.bNeed .nil (passes_call (takes_of (E := E) rfl rfl rfl rfl) (fun _ _ _ _ h => h)) (by exact (pa_cons (pe_cmpR op_lt (pe_callB call_len_seq (by rfl) T.zlen PySem.boot_len (pa_cons (pe_fld (pv 0) rfl) pa_nil)) (pe_glob rfl T.gMOST_FIELDS (rvi _ _)) (nomark _)) (pa_cons (pe_un un_neg pe_int) pa_nil)))))
    (pss_cons (ps_expr (pe_bm PySem.F.plainAttrs_list PySem.F.slot_list_append PySem.F.type_list_append mt_append (pe_fld (pv 0) rfl) (pa_cons (pe_make T.mkCD (ok_dInit T) hr2 rfl T.gCD T.bDInit .nil pass0 (pa_cons (pv 1) pa_nil)) pa_nil)))
    (pss_one (ps_ret (pe_lst (pa_cons (pe_op op_sub (pe_callB call_len_seq (by rfl) T.zlen PySem.boot_len (pa_cons (pe_fld (pv 0) rfl) pa_nil)) pe_int) pa_nil)))))), ?_⟩
  obtain ⟨dx, h1⟩ := fat.obj
  refine ⟨_, rfl, _, _, rfl, rfl, _, rfl, _, _, rfl, fun hb => ?_, fun hb => ?_⟩
  · have hx : ¬ 100 < x := by
      have := of_decide_eq_true hb
      omega
    refine ⟨_, rfl, fa, A.CF, dx, _, _, rfl, h1, T.clCF, T.nCFfields, fF_fields dC lF dF _, lF, _, rfl, .inl (SqL.of fat.hl), _, _, rfl, rfl, _, rfl, _, _, rfl, fun hb2 => ?_, fun hb2 => ?_⟩
    · have hf : ¬ 8 ≤ st.fields.length := by
        have := of_decide_eq_true hb2
        rw [List.length_map, fat.len] at this
        omega
      refine ⟨_, rfl, fa, A.CF, dx, _, _, rfl, h1, T.clCF, T.nCFfields, fF_fields dC lF dF _, .inl ⟨rfl, _, SqL.of fat.hl⟩, ?_⟩
      refine ⟨_, rfl, ?_⟩
      intro n dn nn nd ne
      refine ⟨n, dn, x, rfl, upd_same, fun H1 fx kp => ⟨rfl, ?_⟩⟩
      have s1 : Same H H1 := Same.made nn nd kp
      refine ⟨lF, _, .ref n, rfl, rfl, s1 _ _ fat.hl, by rw [List.length_map, fat.len, sizeLine_eq]; omega, ?_⟩
      rw [show refs.map V.ref ++ [V.ref n] = (refs ++ [n]).map V.ref by rw [List.map_append]; rfl]
      have ok0 : FieldOk st.farm (Km350.field0 x) := ⟨by show x ≤ 100; omega, 255, 255, 255, rfl, .inr rfl, .inr rfl, .inr rfl⟩
      generalize e2 : upd H1 lF (.lst ((refs ++ [n]).map V.ref)) = H2
      obtain ⟨bz, zz, fat2⟩ := fat.more s1 nn fx ok0 (by omega) e2.symm
      clear e2
      obtain ⟨dx2, h2⟩ := fat2.obj
      have hact := act_field_ok (s := st) hx hf
      refine ⟨_, rfl, fa, A.CF, dx2, _, _, rfl, h2, T.clCF, T.nCFfields, fF_fields dC lF dF _, lF, _, rfl, .inl (SqL.of fat2.hl), _, _, rfl, rfl, (by show 1 ≤ sizeLine; decide), fun p np => ?_⟩
      have s3 : Same H2 _ := sUpd (o := .lst [.int ((((refs ++ [n]).map V.ref).length : Int) - 1)]) np
      have n0 : H p = none := by
        cases e : H p with
        | none => rfl
        | some o =>
          exfalso
          by_cases z : p = lF
          · rw [z, fat2.hl] at np
            cases np
          · by_cases zz' : Z p
            · have m := fat2.zm p (.inl zz')
              rw [np] at m
              exact m
            · rw [bz _ _ e zz'] at np
              cases np
      refine q.2 (by rw [hact]; exact Int.natCast_nonneg _) _ p _ dC lF dF (refs ++ [n]) (fun b o e z => s3 _ _ (bz _ _ e z)) zz (by rw [hact]; exact fat2.same s3) n0 (upd_same.trans ?_)
      rw [hact]
      have e3 : (((refs ++ [n]).map V.ref).length : Int) - 1 = ((st.fields.length : Nat) : Int) := by
        rw [List.length_map, List.length_append, fat.len]
        show ((st.fields.length + 1 : Nat) : Int) - 1 = _
        omega
      show some (HO.lst [V.int ((((refs ++ [n]).map V.ref).length : Int) - 1)]) = some (HO.lst [V.int ((st.fields.length : Nat) : Int)])
      rw [e3]
    · have hf : 8 ≤ st.fields.length := by
        have := of_decide_eq_false hb2
        rw [List.length_map, fat.len] at this
        omega
      have r := q.1 (by rw [act_field_full hx hf]; show (-28 : Int) < 0; decide)
      rw [act_field_full hx hf] at r
      exact r
  · have hx : 100 < x := by
      have := of_decide_eq_false hb
      omega
    have r := q.1 (by rw [act_field_bad hx]; show (-22 : Int) < 0; decide)
    rw [act_field_bad hx] at r
    exact r
theorem ok_grow (T : Txt K mg A) : FnOk P w K mg base (L2.CX P w) 5 A.grow A.growD pGrow (spGrow P w A) := by
  refine T.fGrow.okX scGrow (fun vs H Q E h => ?_) (fun cdv Ar outer s H vs Q E hr h => ?_)
  · obtain ⟨fa, dC, lF, dF, Z, st, refs, k, c, wt, rfl, _⟩ := h
    rfl
  obtain ⟨fa, dC, lF, dF, Z, st, refs, k, c, wt, rfl, fat, q⟩ := h
  have hu := hu_of hr
  have hr2 := hr.mono (show 2 ≤ 4 by decide)
  have hr3 := hr.mono (show 3 ≤ 4 by decide)
  refine ⟨_, pss_cons (ps_set (i := 4) scGrow.nd rfl (Or.inl rfl) (pe_call (ok_fieldOf T) hr rfl T.gFieldOf T.fFieldOf.kp T.bFieldOf .nil (passes_call (takes_of (E := E) rfl rfl rfl rfl) (fun _ _ _ _ h => h)) (by exact (pa_cons (pv 0) (pa_cons (pv 1) pa_nil)))))
    (pss_cons (ps_expr (pe_call (ok_need T) hr3 rfl T.gNeed T.fNeed.kp T.bNeed .nil (passes_call (takes_of (E := E) rfl rfl rfl rfl) (fun _ _ _ _ h => h)) (by exact (pa_cons (pe_and (pe_cmp (pc_din hu (pv 2) (pe_fld (pv 0) rfl))) (pe_one (pe_cmpR op_lt (pv 3) (pe_fld (pv 0) rfl) (nomark _)))) (pa_cons (pe_un un_neg pe_int) pa_nil)))))
    (pss_cons (ps_expr (pe_call (ok_need T) hr3 rfl T.gNeed T.fNeed.kp T.bNeed .nil (passes_call (takes_of (E := E) rfl rfl rfl rfl) (fun _ _ _ _ h => h)) (by exact (pa_cons (pe_cmpR op_in_seq (pv 2) (pe_meth (pv 0) T.clCF T.mFMay (ok_fMay T) hr2 T.bFMay .nil pass0 (pa_cons (pe_fld (pv 4) rfl) pa_nil)) (by rfl)) (pa_cons (pe_un un_neg pe_int) pa_nil)))))
    (pss_cons (ps_expr (pe_call (ok_need T) hr3 rfl T.gNeed T.fNeed.kp T.bNeed .nil (passes_call (takes_of (E := E) rfl rfl rfl rfl) (fun _ _ _ _ h => h)) (by exact (pa_cons (pe_cmpR op_lt (pe_fld (pv 4) rfl) (pe_glob rfl T.gMOST_YEARS (rvi _ _)) (nomark _)) (pa_cons (pe_un un_neg pe_int) pa_nil)))))
    (pss_one (ps_ret (pe_lst (pa_cons (pe_meth (pv 0) T.clCF T.mFGrow (ok_fGrow T) hr2 T.bFGrow .nil pass0 (pa_cons (pv 4) (pa_cons (pv 2) (pa_cons (pv 3) pa_nil)))) pa_nil))))))), ?_⟩
  obtain ⟨dx, h1⟩ := fat.obj
  refine ⟨_, rfl, _, rfl, fa, dx, dC, lF, dF, _, k, refs, rfl, h1, fat.hl, fun a ea => ?_, fun en => ?_⟩
  · obtain ⟨x, ex, fx, ok⟩ := fat.theF ea
    obtain ⟨dxx, t, g1, g2⟩ := id fx
    obtain ⟨_, as, hal, hC, hcs⟩ := fat.fsH
    cases hn : st.farm.number c with
    | none =>
      have hg : DGet H dC (vn c) none := by
        rw [← crops_not (f := st.farm) (as := as) (z := (c : Int)) fun j e => number_none hn j (by omega)]
        exact DGet.k (k := Sum.inl (c : Int)) hC
      have r := q.1 (by rw [act_grow_bad ex hn]; show (-22 : Int) < 0; decide)
      rw [act_grow_bad ex hn] at r
      refine ⟨_, rfl, _, rfl, fa, A.CF, dx, _, _, rfl, h1, T.clCF, T.nCFcrops, fF_crops dC lF dF _, dC, _, rfl, hg, _, rfl, ?_⟩
      exact if_false_of rfl ⟨_, rfl, _, _, rfl, (fun z => nomatch z), fun _ => r⟩
    | some n =>
      obtain ⟨hn1, hn2⟩ := number_some hn
      obtain ⟨ck, hck, hv⟩ := crops_get fat.ok hal hn1
      have hg : DGet H dC (vn c) (some (.ref ck)) := by
        rw [← hv, ← hn2]
        exact DGet.k (k := Sum.inl ((st.farm.name n : Nat) : Int)) hC
      refine ⟨_, rfl, _, rfl, fa, A.CF, dx, _, _, rfl, h1, T.clCF, T.nCFcrops, fF_crops dC lF dF _, dC, _, rfl, hg, _, rfl, ?_⟩
      refine if_true_of rfl ?_
      refine ⟨_, rfl, _, rfl, fa, A.CF, dx, _, _, rfl, h1, T.clCF, T.nCFweathers, fF_weathers dC lF dF _, _, _, rfl, rfl, _, rfl, _, _, rfl, fun hb => ?_, fun hb => ?_⟩
      · have hw : ¬ st.farm.weathers ≤ wt := by
          have := of_decide_eq_true hb
          omega
        refine ⟨_, rfl, _, rfl, fa, dx, _, rfl, h1, fF_may _ _ _ _, _, rfl, a, A.CD, dxx, _, _, rfl, g1, T.clCD, T.nCDsown, dF_sown t x, fa, t, dC, lF, dF, st.farm, x.last, rfl, fat.ok, fat.fsH, g2, fun H2 p2 s2 n2 e2 => ?_⟩
        have ev : inV (vn c) ((st.farm.choices x.last).map fun k => vn (st.farm.name k)) = st.farm.may x.last n := by
          rw [← hn2]
          exact inV_names fat.ok hn1
        refine ⟨p2, _, rfl, .inl (SqL.of e2), rfl, flat_names _ _, _, rfl, _, _, rfl, fun hm => ?_, fun hm => ?_⟩
        · have hm' : st.farm.may x.last n = true := ev.symm.trans hm
          have fat2 := fat.same s2
          refine ⟨_, rfl, a, A.CD, dxx, _, _, rfl, s2 _ _ g1, T.clCD, T.nCDyears, dF_years t x, _, _, rfl, rfl, _, rfl, _, _, rfl, fun hy => ?_, fun hy => ?_⟩
          · have hy' : ¬ 4096 ≤ x.years := by
              have := of_decide_eq_true hy
              omega
            have hact := act_grow_ok ex hn hw hm' hy'
            have ok' : FieldOk st.farm (st.farm.grown x n wt) := ⟨soil_le _ _ _, last_ok ok.2 n⟩
            refine ⟨_, rfl, fa, dx, _, rfl, s2 _ _ h1, fF_grow _ _ _ _, _, rfl, _, rfl, _, rfl, fa, a, dC, lF, dF, st.farm, x, n, wt, ?_, fat.ok, fat2.fsH, fx.same s2, ok.2, hn1, by have := fat.ok.w3; omega, fun H3 b3 fx3 => ?_⟩
            · show [V.ref fa, V.ref a, vn c, vn wt] = _
              rw [hn2]
            have fat3 := fat2.grown ea ex b3 fx3 ok'
            have za := fat.zf a (List.mem_of_getElem? ea)
            refine ⟨(by show 1 ≤ sizeLine; decide), fun p np => ?_⟩
            have s4 : Same H3 _ := sUpd (o := .lst [vn (st.farm.harvest n wt x.soil)]) np
            have n0 : H p = none := by
              cases e : H p with
              | none => rfl
              | some o =>
                exfalso
                by_cases z : p = a
                · obtain ⟨_, _, g3, _⟩ := fx3
                  rw [z, g3] at np
                  cases np
                · rw [b3 _ _ (s2 _ _ e) z] at np
                  cases np
            refine q.2 (by rw [hact]; exact Int.natCast_nonneg _) _ p Z dC lF dF refs (fun b o e z => s4 _ _ (b3 _ _ (s2 _ _ e) fun y => z (y ▸ za))) (fun b z => .inl z) (by rw [hact]; exact fat3.same s4) n0 (upd_same.trans ?_)
            rw [hact]
            rfl
          · have hy' : 4096 ≤ x.years := by
              have := of_decide_eq_false hy
              omega
            have r := q.1 (by rw [act_grow_old ex hn hw hm' hy']; show (-28 : Int) < 0; decide)
            rw [act_grow_old ex hn hw hm' hy'] at r
            exact r.same s2
        · have hm' : st.farm.may x.last n = false := ev.symm.trans hm
          have r := q.1 (by rw [act_grow_may ex hn hw hm']; show (-13 : Int) < 0; decide)
          rw [act_grow_may ex hn hw hm'] at r
          exact r.same s2
      · have hw : st.farm.weathers ≤ wt := by
          have := of_decide_eq_false hb
          omega
        have r := q.1 (by rw [act_grow_w ex hn hw]; show (-22 : Int) < 0; decide)
        rw [act_grow_w ex hn hw] at r
        exact r
  · have hact : Km350.act st (.grow k c wt) = (st, Km350.only (-2)) := act_grow_none (fat.noF en)
    have r := q.1 (by rw [hact]; show (-2 : Int) < 0; decide)
    rw [hact] at r
    exact r
end
end Yf
/-! ### one call: what is asked, what is answered -/
namespace Yf
open Km350
def RowOk (row : List Int) : Prop := row.length % 6 = 0 ∧ row.length ≤ 60 ∧ ∀ x ∈ row, 0 ≤ x ∧ x ≤ 65535
/-- the farm that a start asks for -/
def newFarm (row : List Int) (wt g : Nat) : Farm := ⟨rowCrops row, wt, g⟩
def StartOk (row : List Int) (wt g : Nat) : Prop := 1 ≤ row.length / 6 ∧ row.length / 6 ≤ 6 ∧ okFarm (newFarm row wt g) = true
theorem rowCrops_len (row : List Int) : (rowCrops row).length = row.length / 6 := by
  unfold rowCrops
  rw [List.length_map, List.length_range]
theorem rowCrops_at {row : List Int} {j wt g : Nat} (h : j < row.length / 6) : (newFarm row wt g).crop j = cropAt row j := by
  unfold Farm.crop newFarm rowCrops
  dsimp only
  rw [List.getD_eq_getElem?_getD, List.getElem?_map, List.getElem?_eq_getElem (by rw [List.length_range]; exact h), List.getElem_range]
  rfl
theorem okCrop_iff (row : List Int) (j : Nat) : okCrop (cropAt row j) = (decide ((cropAt row j).need ≤ 100) && (decide ((cropAt row j).gives ≤ 100) && decide ((cropAt row j).rest ≤ 3))) := by
  unfold okCrop
  have e : ((cropAt row j).worth.length == 3) = true := rfl
  rw [e, Bool.and_true]
  rfl
theorem okFarm_iff (row : List Int) (wt g : Nat) : okFarm (newFarm row wt g) = true ↔ (∀ j, j < row.length / 6 → okCrop (cropAt row j) = true) ∧ 1 ≤ wt ∧ wt ≤ 3 ∧ g ≤ 100 := by
  unfold okFarm newFarm rowCrops
  simp only [Bool.and_eq_true, List.all_map, List.all_eq_true, List.mem_range, decide_eq_true_eq]
  exact Iff.rfl
theorem start_okF {row : List Int} {wt g : Nat} (hr : RowOk row) (h : StartOk row wt g) : OkF (newFarm row wt g) := by
  obtain ⟨h1, h2, h3⟩ := h
  obtain ⟨h4, h5, h6, h7⟩ := (okFarm_iff row wt g).mp h3
  have hl : (newFarm row wt g).crops.length = row.length / 6 := rowCrops_len row
  refine ⟨by rw [hl]; exact h1, by rw [hl]; exact h2, fun c hc => ?_, h5, h6, h7⟩
  obtain ⟨j, hj, rfl⟩ := List.mem_map.mp (show c ∈ (List.range (row.length / 6)).map (cropAt row) from hc)
  have hk := h4 j (List.mem_range.mp hj)
  rw [okCrop_iff] at hk
  simp only [Bool.and_eq_true, decide_eq_true_eq] at hk
  have b : ∀ i, (row.getD i 0).toNat ≤ 65535 := fun i => by
    rw [List.getD_eq_getElem?_getD]
    cases e : row[i]? with
    | none => decide
    | some x =>
      have := hr.2.2 x (List.mem_of_getElem? e)
      show x.toNat ≤ 65535
      omega
  refine ⟨hk.1, hk.2.1, hk.2.2, rfl, fun x hx => ?_⟩
  have hx' : x = (row.getD (6 * j + 3) 0).toNat ∨ x = (row.getD (6 * j + 4) 0).toNat ∨ x = (row.getD (6 * j + 5) 0).toNat := by
    have := hx
    unfold cropAt at this
    simpa using this
  rcases hx' with rfl | rfl | rfl <;> exact b _
/-- the calls other than the start, by their number and their whole numbers -/
inductive CallIs : Int → List Int → Call → Prop
  | field (a : Nat) : CallIs 1 [(a : Int)] (.field a)
  | may (a b : Nat) : CallIs 2 [(a : Int), (b : Int)] (.may a b)
  | plan (a b : Nat) : CallIs 3 [(a : Int), (b : Int)] (.plan a b)
  | grow (a b c : Nat) : CallIs 4 [(a : Int), (b : Int), (c : Int)] (.grow a b c)
  | state (a : Nat) : CallIs 5 [(a : Int)] (.state a)
theorem step_other {s : Abs} {p : Int} {given : List Int} {x : Call} (h : CallIs p given x) : Km350Neutral.step (some s) [p :: given] = (some (act s x).1, Km350Neutral.told (act s x).2) := by
  cases h <;> rfl
/-- behind a refusal all is as it was -/
theorem act_neg {s : Abs} {p : Int} {given : List Int} {x : Call} (h : CallIs p given x) (hn : (act s x).2.value < 0) : (act s x).1 = s ∧ (act s x).2.out = [] := by
  cases h with
  | field a =>
    by_cases h1 : 100 < a
    · rw [act_field_bad h1]; exact ⟨rfl, rfl⟩
    · by_cases h2 : 8 ≤ s.fields.length
      · rw [act_field_full h1 h2]; exact ⟨rfl, rfl⟩
      · rw [act_field_ok h1 h2] at hn
        exact absurd (show ((s.fields.length : Nat) : Int) < 0 from hn) (by omega)
  | may a b =>
    cases e : s.fields[a]? with
    | none => rw [act_may_none e]; exact ⟨rfl, rfl⟩
    | some z =>
      cases e2 : s.farm.number b with
      | none => rw [act_may_bad e e2]; exact ⟨rfl, rfl⟩
      | some q => rw [act_may_ok e e2]; exact ⟨rfl, rfl⟩
  | plan a b =>
    cases e : s.fields[a]? with
    | none => rw [act_plan_none e]; exact ⟨rfl, rfl⟩
    | some z =>
      by_cases h : b = 0 ∨ 6 < b
      · rw [act_plan_bad e h]; exact ⟨rfl, rfl⟩
      · rw [act_plan_ok e h] at hn
        exact absurd (show (0 : Int) < 0 from hn) (by decide)
  | grow a b c =>
    cases e : s.fields[a]? with
    | none => rw [act_grow_none e]; exact ⟨rfl, rfl⟩
    | some z =>
      cases e2 : s.farm.number b with
      | none => rw [act_grow_bad e e2]; exact ⟨rfl, rfl⟩
      | some q =>
        by_cases h : s.farm.weathers ≤ c
        · rw [act_grow_w e e2 h]; exact ⟨rfl, rfl⟩
        · cases h3 : s.farm.may z.last q with
          | false => rw [act_grow_may e e2 h h3]; exact ⟨rfl, rfl⟩
          | true =>
            by_cases h4 : 4096 ≤ z.years
            · rw [act_grow_old e e2 h h3 h4]; exact ⟨rfl, rfl⟩
            · rw [act_grow_ok e e2 h h3 h4] at hn
              exact absurd (show ((s.farm.harvest q c z.soil : Nat) : Int) < 0 from hn) (by omega)
  | state a =>
    cases e : s.fields[a]? with
    | none => rw [act_state_none e]; exact ⟨rfl, rfl⟩
    | some z =>
      rw [act_state_some e] at hn
      exact absurd (show (0 : Int) < 0 from hn) (by decide)
theorem act_start_bad {s : Abs} {row : List Int} {wt g : Nat} (h : ¬ StartOk row wt g) : act s (.start (rowCrops row) (row.length / 6) wt g) = (s, only (-22)) := by
  unfold act
  dsimp only
  rw [if_pos]
  by_cases h1 : row.length / 6 = 0
  · exact .inl h1
  · by_cases h2 : 6 < row.length / 6
    · exact .inr (.inl h2)
    · refine .inr (.inr ?_)
      cases e : okFarm (newFarm row wt g) with
      | false => exact e
      | true => exact absurd ⟨by omega, by omega, e⟩ h
theorem act_start_ok {s : Abs} {row : List Int} {wt g : Nat} (h : StartOk row wt g) : act s (.start (rowCrops row) (row.length / 6) wt g) = (⟨newFarm row wt g, []⟩, only 0) := by
  unfold act
  dsimp only
  rw [if_neg]
  · rfl
  · obtain ⟨h1, h2, h3⟩ := h
    rintro (q | q | q)
    · omega
    · exact absurd (show 6 < row.length / 6 from q) (by omega)
    · rw [show okFarm (newFarm row wt g) = false from q] at h3
      cases h3
theorem callOf_start {row : List Int} {wt g : Nat} (hr : RowOk row) : Km350Neutral.callOf [[0, (wt : Int), (g : Int)], row] = some (.start (rowCrops row) (row.length / 6) wt g) := by
  rw [← chunks_crops hr.1]
  rfl
theorem step_start_bad {so : Km350Neutral.S} {row : List Int} {wt g : Nat} (hr : RowOk row) (h : ¬ StartOk row wt g) : Km350Neutral.step so [[0, (wt : Int), (g : Int)], row] = (so, [-22]) := by
  unfold Km350Neutral.step
  rw [callOf_start hr]
  dsimp only
  cases so with
  | some s =>
    dsimp only
    rw [act_start_bad h]; rfl
  | none => rw [act_start_bad h]; rfl
theorem step_start_ok {so : Km350Neutral.S} {row : List Int} {wt g : Nat} (hr : RowOk row) (h : StartOk row wt g) : Km350Neutral.step so [[0, (wt : Int), (g : Int)], row] = (some ⟨newFarm row wt g, []⟩, [0]) := by
  unfold Km350Neutral.step
  rw [callOf_start hr]
  dsimp only
  cases so with
  | some s =>
    dsimp only
    rw [act_start_ok h]; rfl
  | none => rw [act_start_ok h]; rfl
/-- a call that may be asked of the state -/
inductive Asks : Km350Neutral.S → Int → List Int → List Int → List (List Int) → Prop
  | start (so : Km350Neutral.S) (wt g : Nat) (row : List Int) : RowOk row → Asks so 0 [(wt : Int), (g : Int)] row [[0, (wt : Int), (g : Int)], row]
  | other (s : Abs) (p : Int) (given row : List Int) (x : Call) : CallIs p given x → Asks (some s) p given row [p :: given]
theorem CallIs.ne0 {p : Int} {given : List Int} {x : Call} (h : CallIs p given x) : p ≠ 0 := by
  cases h <;> decide
theorem nn_nat {z : Int} (h : 0 ≤ z) : ∃ n : Nat, z = (n : Int) := ⟨z.toNat, by omega⟩
theorem within_nn {lo hi z : Int} (h : PyInside.within lo hi z = true) : lo ≤ z ∧ z ≤ hi := by
  unfold PyInside.within at h
  rw [Bool.and_eq_true] at h
  exact ⟨of_decide_eq_true h.1, of_decide_eq_true h.2⟩
theorem step_none {c : List (List Int)} {x : Call} (h : Km350Neutral.callOf c = some x) (hs : Km350Neutral.isStart x = false) : (Km350Neutral.step none c).2 = [] := by
  unfold Km350Neutral.step
  rw [h]
  dsimp only
  rw [hs]
  rfl
/-- from what is asked of a line: the call at its head -/
theorem asks_of {so : Km350Neutral.S} {p : Int} {r : List Int} {c : List (List Int)} {t : List Int} (hd : Head p r c t) (hb : PyInside.call PyKm350.bound c = true) (ha : Km350Neutral.asked1 c = true) (hn : (Km350Neutral.step so c).2 ≠ []) :
    (p = 0 ∧ ∃ w g n rr, r = w :: g :: n :: rr ∧ 0 ≤ n ∧ n.toNat ≤ rr.length ∧ t = rr.drop n.toNat ∧ Asks so 0 [w, g] (rr.take n.toNat) c) ∨
    (p ≠ 0 ∧ ∃ given, r = given ++ t ∧ ((p = 1 ∧ given.length = 1) ∨ (p = 2 ∧ given.length = 2) ∨ (p = 3 ∧ given.length = 2) ∨ (p = 4 ∧ given.length = 3) ∨ (p = 5 ∧ given.length = 1)) ∧ ∀ row, Asks so p given row c) := by
  cases hd with
  | start w g n rr h0 hl =>
    refine .inl ⟨rfl, w, g, n, rr, rfl, h0, hl, rfl, ?_⟩
    have hb' : (PyInside.within 0 4294967295 w && (PyInside.within 0 4294967295 g && true)) = true ∧ ((decide (0 ≤ (rr.take n.toNat).length) && decide ((rr.take n.toNat).length ≤ 60)) && (rr.take n.toNat).all (PyInside.within 0 65535) && true) = true := Bool.and_eq_true_iff.mp hb
    obtain ⟨b1, b2⟩ := hb'
    simp only [Bool.and_eq_true, Bool.and_true, List.all_eq_true] at b1 b2
    obtain ⟨a, rfl⟩ := nn_nat (within_nn b1.1).1
    obtain ⟨b, rfl⟩ := nn_nat (within_nn b1.2).1
    have ha' : ((decide ((rr.take n.toNat).length % 6 = 0) && _) && _ && _) = true := ha
    simp only [Bool.and_eq_true] at ha'
    exact .start so a b _ ⟨of_decide_eq_true ha'.1.1.1, of_decide_eq_true b2.1.2, fun x hx => within_nn (b2.2 x hx)⟩
  | field s t =>
    refine .inr ⟨by decide, [s], rfl, .inl ⟨rfl, rfl⟩, fun row => ?_⟩
    have b1 : (PyInside.within 0 4294967295 s && true) = true := (Bool.and_eq_true_iff.mp hb).1
    rw [Bool.and_true] at b1
    obtain ⟨a, rfl⟩ := nn_nat (within_nn b1).1
    cases so with
    | none => exact absurd (step_none (x := .field a) rfl rfl) hn
    | some s => exact .other s 1 _ row _ (.field a)
  | may a b t =>
    refine .inr ⟨by decide, [a, b], rfl, .inr (.inl ⟨rfl, rfl⟩), fun row => ?_⟩
    have b1 : (PyInside.within 0 4294967295 a && (PyInside.within 0 4294967295 b && true)) = true := (Bool.and_eq_true_iff.mp hb).1
    simp only [Bool.and_eq_true, Bool.and_true] at b1
    obtain ⟨a, rfl⟩ := nn_nat (within_nn b1.1).1
    obtain ⟨b, rfl⟩ := nn_nat (within_nn b1.2).1
    cases so with
    | none => exact absurd (step_none (x := .may a b) rfl rfl) hn
    | some s => exact .other s 2 _ row _ (.may a b)
  | plan a b t =>
    refine .inr ⟨by decide, [a, b], rfl, .inr (.inr (.inl ⟨rfl, rfl⟩)), fun row => ?_⟩
    have b1 : (PyInside.within 0 4294967295 a && (PyInside.within 0 4294967295 b && true)) = true := (Bool.and_eq_true_iff.mp hb).1
    simp only [Bool.and_eq_true, Bool.and_true] at b1
    obtain ⟨a, rfl⟩ := nn_nat (within_nn b1.1).1
    obtain ⟨b, rfl⟩ := nn_nat (within_nn b1.2).1
    cases so with
    | none => exact absurd (step_none (x := .plan a b) rfl rfl) hn
    | some s => exact .other s 3 _ row _ (.plan a b)
  | grow a b c t =>
    refine .inr ⟨by decide, [a, b, c], rfl, .inr (.inr (.inr (.inl ⟨rfl, rfl⟩))), fun row => ?_⟩
    have b1 : (PyInside.within 0 4294967295 a && (PyInside.within 0 4294967295 b && (PyInside.within 0 4294967295 c && true))) = true := (Bool.and_eq_true_iff.mp hb).1
    simp only [Bool.and_eq_true, Bool.and_true] at b1
    obtain ⟨a, rfl⟩ := nn_nat (within_nn b1.1).1
    obtain ⟨b, rfl⟩ := nn_nat (within_nn b1.2.1).1
    obtain ⟨c, rfl⟩ := nn_nat (within_nn b1.2.2).1
    cases so with
    | none => exact absurd (step_none (x := .grow a b c) rfl rfl) hn
    | some s => exact .other s 4 _ row _ (.grow a b c)
  | state a t =>
    refine .inr ⟨by decide, [a], rfl, .inr (.inr (.inr (.inr ⟨rfl, rfl⟩))), fun row => ?_⟩
    have b1 : (PyInside.within 0 4294967295 a && true) = true := (Bool.and_eq_true_iff.mp hb).1
    rw [Bool.and_true] at b1
    obtain ⟨a, rfl⟩ := nn_nat (within_nn b1).1
    cases so with
    | none => exact absurd (step_none (x := .state a) rfl rfl) hn
    | some s => exact .other s 5 _ row _ (.state a)
/-- an answer has one, three or seven numbers -/
def Odd7 (l : List Int) : Prop := l.length % 2 = 1 ∧ l.length ≤ 7
theorem odd_only (v : Int) : Odd7 (Km350Neutral.told (only v)) := ⟨rfl, by show 1 ≤ 7; decide⟩
theorem act_short {s : Abs} (hl : ∀ z ∈ s.fields, z.last.length = 3) {p : Int} {given : List Int} {x : Call} (h : CallIs p given x) : Odd7 (Km350Neutral.told (act s x).2) := by
  cases h with
  | field a =>
    by_cases h1 : 100 < a
    · rw [act_field_bad h1]; exact odd_only _
    · by_cases h2 : 8 ≤ s.fields.length
      · rw [act_field_full h1 h2]; exact odd_only _
      · rw [act_field_ok h1 h2]; exact odd_only _
  | may a b =>
    cases e : s.fields[a]? with
    | none => rw [act_may_none e]; exact odd_only _
    | some z =>
      cases e2 : s.farm.number b with
      | none => rw [act_may_bad e e2]; exact odd_only _
      | some q => rw [act_may_ok e e2]; exact odd_only _
  | plan a b =>
    cases e : s.fields[a]? with
    | none => rw [act_plan_none e]; exact odd_only _
    | some z =>
      by_cases h : b = 0 ∨ 6 < b
      · rw [act_plan_bad e h]; exact odd_only _
      · rw [act_plan_ok e h]
        have e3 : ∀ u v : Nat, Odd7 (Km350Neutral.told { value := 0, out := [u, v] }) := fun u v => by
          have e : (Km350Neutral.told { value := 0, out := [u, v] }).length = 3 := rfl
          unfold Odd7
          rw [e]
          decide
        exact e3 _ _
  | grow a b c =>
    cases e : s.fields[a]? with
    | none => rw [act_grow_none e]; exact odd_only _
    | some z =>
      cases e2 : s.farm.number b with
      | none => rw [act_grow_bad e e2]; exact odd_only _
      | some q =>
        by_cases h : s.farm.weathers ≤ c
        · rw [act_grow_w e e2 h]; exact odd_only _
        · cases h3 : s.farm.may z.last q with
          | false => rw [act_grow_may e e2 h h3]; exact odd_only _
          | true =>
            by_cases h4 : 4096 ≤ z.years
            · rw [act_grow_old e e2 h h3 h4]; exact odd_only _
            · rw [act_grow_ok e e2 h h3 h4]; exact odd_only _
  | state a =>
    cases e : s.fields[a]? with
    | none => rw [act_state_none e]; exact odd_only _
    | some z =>
      rw [act_state_some e]
      have h3 := hl z (List.mem_of_getElem? e)
      have e7 : (Km350Neutral.told { value := 0, out := [z.soil] ++ z.last ++ [z.years, z.brought] }).length = 7 := by
        unfold Km350Neutral.told Km350Neutral.nums
        rw [List.length_cons, List.length_map, List.length_append, List.length_append, h3]
        rfl
      show Odd7 (Km350Neutral.told { value := 0, out := [z.soil] ++ z.last ++ [z.years, z.brought] })
      unfold Odd7
      rw [e7]
      exact ⟨rfl, Nat.le_refl 7⟩
theorem step_short {so : Km350Neutral.S} (hl : ∀ s, so = some s → ∀ z ∈ s.fields, z.last.length = 3) {p : Int} {given row : List Int} {c : List (List Int)} (h : Asks so p given row c) : Odd7 (Km350Neutral.step so c).2 := by
  cases h with
  | start so wt g row hrow =>
    by_cases hs : StartOk row wt g
    · rw [step_start_ok hrow hs]; exact ⟨rfl, by show 1 ≤ 7; decide⟩
    · rw [step_start_bad hrow hs]; exact ⟨rfl, by show 1 ≤ 7; decide⟩
  | other s p given row x hc =>
    rw [step_other hc]
    exact act_short (hl s rfl) hc
/-! ### places in the list -/
theorem drop_app {l l1 l2 : List Int} {i : Nat} (h : l.drop i = l1 ++ l2) : l.drop (i + l1.length) = l2 ∧ (l.drop i).take l1.length = l1 := by
  constructor
  · rw [← List.drop_drop, h, List.drop_left]
  · rw [h, List.take_left]
theorem drop_len {l l1 l2 : List Int} {i : Nat} (h : l.drop i = l1 ++ l2) (hi : i ≤ l.length) : i + l1.length ≤ l.length := by
  have := congrArg List.length h
  rw [List.length_drop, List.length_append] at this
  omega
theorem drop_get {l r : List Int} {i : Nat} {p : Int} (h : l.drop i = p :: r) : l[i]? = some p := by
  have := congrArg (fun m => m[0]?) h
  simp only [List.getElem?_drop, Nat.add_zero] at this
  exact this
theorem drop_next {l r : List Int} {i : Nat} {p : Int} (h : l.drop i = p :: r) : l.drop (i + 1) = r := (drop_app (l1 := [p]) h).1
end Yf
/-! ### what holds the farm; a start -/
namespace Yf
open PySem PySem.Spec PyProof.Rows L2
def HoldAt (P : Program) (w : World) (A : Ad) (Z : Addr → Prop) (H : Hp) (ho : Addr) (so : Km350Neutral.S) : Prop := ¬ Z ho ∧ ∃ (dx : Addr) (v : V), H ho = some (.ins A.CH dx (holdF v)) ∧
  match so with
  | none => v = .non
  | some s => ∃ (fa dC lF dF : Addr) (refs : List Addr), v = .ref fa ∧ FarmAt P w A Z H fa s dC lF dF refs
/-- what a call leaves, what it answers -/
def Done (P : Program) (w : World) (A : Ad) (Z : Addr → Prop) (H : Hp) (ho : Addr) (so' : Km350Neutral.S) (ans : List Int) (Q : VK) : Prop :=
  ∀ (H' : Hp) (p : Addr) (Z' : Addr → Prop), (∀ b o, H b = some o → ¬ Z b → b ≠ ho → H' b = some o) → (∀ b, Z' b → Z b ∨ H b = none) → HoldAt P w A Z' H' ho so' → H p = none → H' p = some (.lst (ans.map V.int)) → Q (.ref p) H'
theorem HoldAt.same {P : Program} {w : World} {A : Ad} {Z : Addr → Prop} {H H' : Hp} {ho : Addr} {so : Km350Neutral.S} (h : HoldAt P w A Z H ho so) (st : Same H H') : HoldAt P w A Z H' ho so := by
  obtain ⟨nz, dx, v, e, m⟩ := h
  refine ⟨nz, dx, v, st _ _ e, ?_⟩
  cases so with
  | none => exact m
  | some s =>
    obtain ⟨fa, dC, lF, dF, refs, hv, fat⟩ := m
    exact ⟨fa, dC, lF, dF, refs, hv, fat.same st⟩
theorem hold_ne_farm {C C' dx dx' dC lF dF : Addr} {n : Nat} {v : V} : HO.ins C dx (holdF v) ≠ HO.ins C' dx' (farmF dC n lF dF) := fun z => nomatch (List.cons.inj (HO.ins.inj z).2.2).2
theorem hold_ne_crop {C C' dx dx' t : Addr} {c : Km350.Crop} {v : V} : HO.ins C dx (holdF v) ≠ HO.ins C' dx' (cropF c t) := fun z => nomatch (List.cons.inj (HO.ins.inj z).2.2).2
/-- a new farm, what it changes: its list of fields, its dict -/
theorem FarmS.new {P : Program} {w : World} {A : Ad} {H : Hp} {fa dC lF dF : Addr} {f : Km350.Farm} (hf : OkF f) (h : FarmS A H fa f dC lF dF) (h1 : H lF = some (.lst [])) (h2 : H dF = some (Ndt P w dF [])) :
    FarmAt P w A (fun b => b = lF ∨ b = dF) H fa ⟨f, []⟩ dC lF dF [] where
  ok := hf
  zm := fun b q => by
    rcases q with q | q
    · rw [q, h1]; exact True.intro
    · rw [q, h2]; exact True.intro
  few := Nat.zero_le _
  fok := fun x hx => nomatch hx
  fs := by
    obtain ⟨⟨dx, e1⟩, as, e2, e3, e4⟩ := h
    have nz : ∀ {b : Addr} {o : HO}, H b = some o → o ≠ .lst [] → (∀ φ, o ≠ .ext φ) → sub (fun b => b = lF ∨ b = dF) H b = some o := fun {b o} e n1 n2 => by
      refine sub_some.mpr ⟨fun q => ?_, e⟩
      rcases q with q | q
      · rw [q, h1] at e; exact n1 (Option.some.inj e).symm
      · rw [q, h2] at e; exact n2 _ (Option.some.inj e).symm
    refine ⟨⟨dx, nz e1 (fun z => nomatch z) fun _ z => nomatch z⟩, as, e2, nz e3 (fun z => nomatch z) (fun _ z => nomatch z), fun k a ea => ?_⟩
    obtain ⟨dc, wc, g1, g2⟩ := e4 k a ea
    refine ⟨dc, wc, nz g1 (fun z => nomatch z) (fun _ z => nomatch z), nz g2 (fun z => ?_) fun _ z => nomatch z⟩
    have := congrArg List.length (HO.lst.inj z)
    rw [List.length_map, (crop_ok hf k).len] at this
    cases this
  zl := .inl rfl
  hl := h1
  nd := List.nodup_nil
  len := rfl
  zf := fun a ha => nomatch ha
  fld := fun i a x e => by simp at e
  zd := .inr rfl
  fd := ⟨[], h2, List.nodup_nil, fun x hx => nomatch hx⟩
section
variable {P : Program} {w : World} {K : PySem.W.Frag} {mg : Str → Option Value} {base : Heap} {A : Ad}
def spHInit (A : Ad) : Sp := fun vs H Q _ => ∃ (p dx : Addr), vs = [.ref p] ∧ H p = some (.ins A.CH dx []) ∧ ∀ H' : Hp, H' p = some (.ins A.CH dx (holdF .non)) → (∀ b o, H b = some o → b ≠ p → H' b = some o) → Q .non H'
theorem ok_hInit (T : Txt K mg A) : FnOk P w K mg base CX0 1 A.hInit A.hInitD pHInit (spHInit A) := by
  refine T.fHInit.ok scHInit (fun vs H Q E h => ?_) (fun cdv Ar outer s H vs Q E hr h => ?_)
  · obtain ⟨p, dx, rfl, _⟩ := h
    rfl
  obtain ⟨p, dx, rfl, hp, k⟩ := h
  refine ⟨_, pss_one (ps_fld (pv 0) pe_non rfl), ?_⟩
  refine ⟨_, rfl, p, A.CH, dx, [], rfl, hp, T.clCH, T.nCHfarm, thou few0 (by decide), ?_⟩
  exact k _ upd_same fun b o e hb => (upd_ne hb).trans e
def spStart (P : Program) (w : World) (K : PySem.W.Frag) (A : Ad) : Sp := fun vs H Q E => ∃ (ho rw_ : Addr) (Z : Addr → Prop) (so : Km350Neutral.S) (row : List Int) (wt g : Nat), vs = [.ref ho, vn wt, vn g, .ref rw_] ∧ HoldAt P w A Z H ho so ∧ SqL K H rw_ (row.map V.int) ∧ RowOk row ∧
  (¬ StartOk row wt g → Rz A H (-22) E) ∧ (StartOk row wt g → Done P w A Z H ho (some ⟨newFarm row wt g, []⟩) [0] Q)
theorem ok_start (T : Txt K mg A) : FnOk P w K mg base (L2.CX P w) 6 A.start A.startD pStart (spStart P w K A) := by
  refine T.fStart.okX scStart (fun vs H Q E h => ?_) (fun cdv Ar outer s H vs Q E hr h => ?_)
  · obtain ⟨ho, rw_, Z, so, row, wt, g, rfl, _⟩ := h
    rfl
  obtain ⟨ho, rw_, Z, so, row, wt, g, rfl, hh, hS, hrow, qb, qg⟩ := h
  have hr1 := hr.mono (show 1 ≤ 5 by decide)
  have hr3 := hr.mono (show 3 ≤ 5 by decide)
  refine ⟨_, pss_cons (ps_set (i := 4) scStart.nd rfl (Or.inl rfl) (pe_call (ok_cropsOf T) hr3 rfl T.gCropsOf T.fCropsOf.kp T.bCropsOf .nil pass0 (pa_cons (pv 3) pa_nil)))
    (pss_cons (ps_expr (pe_call (ok_need T) hr3 rfl T.gNeed T.fNeed.kp T.bNeed .nil (passes_call (takes_of (E := E) rfl rfl rfl rfl) (fun _ _ _ _ h => h)) (by exact (pa_cons (pe_chain op_le op_le pe_int (pe_callB call_len_seq (by rfl) T.zlen PySem.boot_len (pa_cons (pv 4) pa_nil)) (pe_glob rfl T.gMOST_CROPS (rvi _ _))) (pa_cons (pe_un un_neg pe_int) pa_nil)))))
    (pss_cons (ps_for (passes_of rfl) rfl (pi_list (pv 4)) (pg_name (i := 5) scStart.nd rfl (Or.inl rfl)) (pss_one (ps_expr (pe_call (ok_need T) hr3 rfl T.gNeed T.fNeed.kp T.bNeed .nil (passes_call (takes_of (E := E) rfl rfl rfl rfl) (fun _ _ _ _ h => h)) (by exact (pa_cons (pe_meth0 (pv 5) T.clCC T.mCTold (ok_cTold T) hr1 T.bCTold .nil pass0) (pa_cons (pe_un un_neg pe_int) pa_nil)))))))
    (pss_cons (ps_expr (pe_call (ok_need T) hr3 rfl T.gNeed T.fNeed.kp T.bNeed .nil (passes_call (takes_of (E := E) rfl rfl rfl rfl) (fun _ _ _ _ h => h)) (by exact (pa_cons (pe_and (pe_chain op_le op_le pe_int (pv 1) (pe_glob rfl T.gKINDS (rvi _ _))) (pe_one (pe_cmpR op_le (pv 2) (pe_glob rfl T.gMOST_SOIL (rvi _ _)) (nomark _)))) (pa_cons (pe_un un_neg pe_int) pa_nil)))))
    (pss_cons (ps_fld (pv 0) (pe_make T.mkCF (ok_fInit T) hr rfl T.gCF T.bFInit .nil pass0 (pa_cons (pv 4) (pa_cons (pv 1) (pa_cons (pv 2) pa_nil)))) rfl)
    (pss_one (ps_ret (pe_lst (pa_cons pe_int pa_nil)))))))), ?_⟩
  refine ⟨_, rfl, rw_, row, rfl, hS, hrow.1, hrow.2.1, (fun x hx => (hrow.2.2 x hx).1), fun H1 lc as s1 nlc elc hal hcs => ?_⟩
  have bad : ¬ StartOk row wt g → Rz A H1 (-22) E := fun h => (qb h).same s1
  -- need(1 <= len(crops) <= 6)
  refine ⟨_, rfl, lc, _, rfl, .inl (SqL.of elc), _, _, rfl, rfl, _, rfl, ?_⟩
  have hlen : (as.map V.ref).length = row.length / 6 := by
    rw [List.length_map]
    exact hal
  by_cases h0 : row.length / 6 = 0
  · exact if_false_of (decide_eq_false (by rw [hlen]; omega)) ⟨_, rfl, _, _, rfl, (fun z => nomatch z), fun _ => bad fun z => by have := z.1; omega⟩
  refine if_true_of (decide_eq_true (by rw [hlen]; omega)) ?_
  refine ⟨_, _, rfl, rfl, _, rfl, _, _, rfl, fun hb => ?_, fun hb => ?_⟩
  rotate_left
  · have h6 : ¬ row.length / 6 ≤ 6 := by
      have := of_decide_eq_false hb
      rw [hlen] at this
      omega
    exact bad fun z => h6 z.2.1
  have h6 : row.length / 6 ≤ 6 := by
    have := of_decide_eq_true hb
    rw [hlen] at this
    omega
  -- for crop in crops
  refine ⟨_, rfl, lc, rfl, ⟨_, SqL.of elc⟩, ?_⟩
  refine for_list (K := K) (a := lc) (xs := as.map V.ref) (fun i σ H' => ∃ v : Option V, σ = [some (.ref ho), some (vn wt), some (vn g), some (.ref rw_), some (.ref lc), v] ∧ H' = H1 ∧ ∀ j, j < i → toldC (cropAt row j) = true)
    ⟨none, rfl, rfl, fun j hj => absurd hj (Nat.not_lt_zero j)⟩ (fun i σ H' _ ⟨_, _, e, _⟩ => by rw [e]; exact SqL.of elc) ?_ ?_
  · rintro i x σ H' hx ⟨v, rfl, rfl, hj⟩
    obtain ⟨a, ha, rfl⟩ : ∃ a, as[i]? = some a ∧ x = V.ref a := by
      rw [List.getElem?_map] at hx
      cases e : as[i]? with
      | none => rw [e] at hx; cases hx
      | some z => rw [e] at hx; exact ⟨z, rfl, (Option.some.inj hx).symm⟩
    have hc := hcs i a ha
    obtain ⟨cdx, cw, g1, g2⟩ := id hc
    refine ⟨_, rfl, a, cdx, _, rfl, g1, cF_told _ _, a, cropAt row i, rfl, hc, _, rfl, _, _, rfl, fun ht => ?_, fun ht => ?_⟩
    · refine ⟨some (.ref a), rfl, rfl, fun j hj' => ?_⟩
      by_cases q : j = i
      · rw [q]; exact ht
      · exact hj j (by omega)
    · refine bad fun z => ?_
      have hi : i < row.length / 6 := by
        rw [← hal]
        exact (List.getElem?_eq_some_iff.mp ha).1
      have h1 := ((okFarm_iff row wt g).mp z.2.2).1 i hi
      rw [okCrop_iff] at h1
      rw [show toldC (cropAt row i) = _ from h1] at ht
      cases ht
  · rintro σ H' ⟨v, rfl, rfl, hj⟩
    rw [hlen] at hj
    have okc : ∀ j, j < row.length / 6 → Km350.okCrop (cropAt row j) = true := fun j h => by
      rw [okCrop_iff]
      exact hj j h
    have nok : ¬ (1 ≤ wt ∧ wt ≤ 3 ∧ g ≤ 100) → Rz A H' (-22) E := fun h => bad fun z => h ((okFarm_iff row wt g).mp z.2.2).2
    -- need(1 <= weathers <= 3 and fallow <= 100)
    refine ⟨_, rfl, _, _, rfl, rfl, _, rfl, ?_⟩
    by_cases hw1 : 1 ≤ wt
    rotate_left
    · refine if_false_of (decide_eq_false (by omega)) ⟨_, rfl, ?_⟩
      exact if_false_of rfl ⟨_, rfl, _, _, rfl, (fun z => nomatch z), fun _ => nok fun z => hw1 z.1⟩
    refine if_true_of (decide_eq_true (by omega)) ?_
    refine ⟨_, _, rfl, rfl, _, rfl, ?_⟩
    by_cases hw3 : wt ≤ 3
    rotate_left
    · exact if_false_of (decide_eq_false (by omega)) ⟨_, rfl, _, _, rfl, (fun z => nomatch z), fun _ => nok fun z => hw3 z.2.1⟩
    refine if_true_of (decide_eq_true (by omega)) ?_
    refine ⟨_, rfl, _, _, rfl, rfl, _, rfl, _, _, rfl, fun hg => ?_, fun hg => ?_⟩
    rotate_left
    · refine nok fun z => ?_
      have := of_decide_eq_false hg
      omega
    have hg' : g ≤ 100 := by
      have := of_decide_eq_true hg
      omega
    have sok : StartOk row wt g := ⟨by omega, h6, (okFarm_iff row wt g).mpr ⟨okc, hw1, hw3, hg'⟩⟩
    have hf := start_okF hrow sok
    have fl : (newFarm row wt g).crops.length = row.length / 6 := rowCrops_len row
    -- holder.farm = Farm(crops, weathers, fallow)
    refine ⟨_, rfl, _, rfl, _, rfl, ?_⟩
    intro fa fx nfa nfx nef
    have sM : Same H' (upd (upd H' fx (.own fa)) fa (.ins A.CF fx [])) := (sUpd nfx).trans (sUpd (by rw [upd_ne (Ne.symm nef)]; exact nfa))
    refine ⟨fa, fx, lc, newFarm row wt g, as, rfl, upd_same, sM _ _ elc, by rw [fl]; exact hal, by rw [fl]; exact h6, fun k a ea => ?_, fun H2 dC lF dF b2 fs nlF elF ndF edF => ⟨rfl, ?_⟩⟩
    · rw [rowCrops_at (by rw [← hal]; exact (List.getElem?_eq_some_iff.mp ea).1)]
      exact (hcs k a ea).same sM
    obtain ⟨nz, hx, hv, eho, _⟩ := hh.same s1
    have s2 : Same H' H2 := fun b o e => b2 _ _ (sM _ _ e) (ne_of_none e nfa)
    have eho2 := s2 _ _ eho
    refine ⟨_, rfl, ho, A.CH, hx, _, rfl, eho2, T.clCH, T.nCHfarm, (by show 1 < 1000; decide), ?_⟩
    rw [hF_put]
    have fat2 := FarmS.new hf fs elF edF
    generalize e3 : upd H2 ho (.ins A.CH hx (holdF (.ref fa))) = H3
    have a3 : H3 ho = some (.ins A.CH hx (holdF (.ref fa))) := e3 ▸ upd_same
    have k3 : ∀ b, b ≠ ho → H3 b = H2 b := fun b h => e3 ▸ upd_ne h
    clear e3
    have noh : ∀ {b : Addr} {o : HO}, H2 b = some o → o ≠ .ins A.CH hx (holdF hv) → H3 b = some o := fun {b o} e n => by
      rw [k3 b (ne_of e eho2 n)]
      exact e
    have fs3 : FarmS A H3 fa (newFarm row wt g) dC lF dF := by
      obtain ⟨⟨dx, e1⟩, as', e2, e3, e4⟩ := fs
      refine ⟨⟨dx, noh e1 fun z => hold_ne_farm z.symm⟩, as', e2, noh e3 (fun z => nomatch z), fun k a ea => ?_⟩
      obtain ⟨dc, wc, g1, g2⟩ := e4 k a ea
      exact ⟨dc, wc, noh g1 fun z => hold_ne_crop z.symm, noh g2 fun z => nomatch z⟩
    have fat3 := FarmS.new (P := P) (w := w) hf fs3 (noh elF fun z => nomatch z) (noh edF fun z => nomatch z)
    -- return [0]
    refine ⟨(by show 1 ≤ sizeLine; decide), fun p np => ?_⟩
    have s4 : Same H3 (upd H3 p (.lst [.int 0])) := sUpd np
    have keep : ∀ b o, H b = some o → b ≠ ho → H3 b = some o := fun b o e h => by
      rw [k3 b h]
      exact s2 _ _ (s1 _ _ e)
    have eh0 : ∃ o, H ho = some o := by
      obtain ⟨_, dx, v, e, _⟩ := hh
      exact ⟨_, e⟩
    refine qg sok _ p (fun b => b = lF ∨ b = dF) (fun b o e _ h => s4 _ _ (keep b o e h)) (fun b q => .inr ?_) ?_ ?_ upd_same
    · have fr : ∀ b, (upd (upd H' fx (.own fa)) fa (.ins A.CF fx [])) b = none → H b = none := fun b n => (s1.trans sM).free n
      rcases q with q | q
      · rw [q]; exact fr _ nlF
      · rw [q]; exact fr _ ndF
    · refine ⟨fun q => ?_, hx, .ref fa, s4 _ _ a3, fa, dC, lF, dF, [], rfl, fat3.same s4⟩
      rcases q with q | q
      · rw [q, elF] at eho2; cases eho2
      · rw [q, edF] at eho2; cases eho2
    · cases e : H p with
      | none => rfl
      | some o =>
        exfalso
        by_cases q : p = ho
        · rw [q, a3] at np; cases np
        · rw [keep p o e q] at np; cases np
end
end Yf
/-! ### a call by its number; a refusal caught -/
namespace Yf
open PySem PySem.Spec PyProof.Rows L2
section
variable {P : Program} {w : World} {K : PySem.W.Frag} {mg : Str → Option Value} {base : Heap} {A : Ad}
def spDone (P : Program) (w : World) (K : PySem.W.Frag) (A : Ad) : Sp := fun vs H Q E => ∃ (fa gv dC lF dF : Addr) (Z : Addr → Prop) (s : Km350.Abs) (refs : List Addr) (p : Int) (given : List Int) (x : Km350.Call), vs = [.ref fa, .int p, .ref gv] ∧ SqL K H gv (given.map V.int) ∧ CallIs p given x ∧
  FarmAt P w A Z H fa s dC lF dF refs ∧ Ans P w A x Z H fa s Q E
theorem ok_done (T : Txt K mg A) : FnOk P w K mg base (L2.CX P w) 26 A.done A.doneD pDone (spDone P w K A) := by
  refine T.fDone.okX scDone (fun vs H Q E h => ?_) (fun cdv Ar outer s H vs Q E hr h => ?_)
  · obtain ⟨fa, gv, dC, lF, dF, Z, st, refs, p, given, x, rfl, _⟩ := h
    rfl
  obtain ⟨fa, gv, dC, lF, dF, Z, st, refs, p, given, x, rfl, hS, hc, fat, q⟩ := h
  have hr4 := hr.mono (show 4 ≤ 25 by decide)
  have hr5 := hr.mono (show 5 ≤ 25 by decide)
  refine ⟨_, pss_cons (ps_if (pt_cmpR op_eq (pv 1) pe_int (nomark _)) (pss_one (ps_ret (pe_call (ok_newF T) hr4 rfl T.gNewF T.fNewF.kp T.bNewF .nil (passes_call (takes_of (E := E) rfl rfl rfl rfl) (fun _ _ _ _ h => h)) (by exact (pa_cons (pv 0) (pa_cons (pe_ix ix_list (pv 2) pe_int (fun _ _ => rfl)) pa_nil)))))) pss_nil)
    (pss_cons (ps_if (pt_cmpR op_eq (pv 1) pe_int (nomark _)) (pss_one (ps_ret (pe_call (ok_may T) hr5 rfl T.gMay T.fMay.kp T.bMay .nil (passes_call (takes_of (E := E) rfl rfl rfl rfl) (fun _ _ _ _ h => h)) (by exact (pa_cons (pv 0) (pa_cons (pe_ix ix_list (pv 2) pe_int (fun _ _ => rfl)) (pa_cons (pe_ix ix_list (pv 2) pe_int (fun _ _ => rfl)) pa_nil))))))) pss_nil)
    (pss_cons (ps_if (pt_cmpR op_eq (pv 1) pe_int (nomark _)) (pss_one (ps_ret (pe_call (ok_plan T) hr rfl T.gPlan T.fPlan.kp T.bPlan .nil (passes_call (takes_of (E := E) rfl rfl rfl rfl) (fun _ _ _ _ h => h)) (by exact (pa_cons (pv 0) (pa_cons (pe_ix ix_list (pv 2) pe_int (fun _ _ => rfl)) (pa_cons (pe_ix ix_list (pv 2) pe_int (fun _ _ => rfl)) pa_nil))))))) pss_nil)
    (pss_cons (ps_if (pt_cmpR op_eq (pv 1) pe_int (nomark _)) (pss_one (ps_ret (pe_call (ok_grow T) hr5 rfl T.gGrow T.fGrow.kp T.bGrow .nil (passes_call (takes_of (E := E) rfl rfl rfl rfl) (fun _ _ _ _ h => h)) (by exact (pa_cons (pv 0) (pa_cons (pe_ix ix_list (pv 2) pe_int (fun _ _ => rfl)) (pa_cons (pe_ix ix_list (pv 2) pe_int (fun _ _ => rfl)) (pa_cons (pe_ix ix_list (pv 2) pe_int (fun _ _ => rfl)) pa_nil)))))))) pss_nil)
    (pss_one (ps_ret (pe_call (ok_state T) hr5 rfl T.gState T.fState.kp T.bState .nil (passes_call (takes_of (E := E) rfl rfl rfl rfl) (fun _ _ _ _ h => h)) (by exact (pa_cons (pv 0) (pa_cons (pe_ix ix_list (pv 2) pe_int (fun _ _ => rfl)) pa_nil))))))))), ?_⟩
  cases hc with
  | field a =>
    refine ⟨_, rfl, rfl, _, rfl, if_true_of (decide_eq_true rfl) ?_⟩
    exact ⟨_, rfl, _, rfl, gv, _, _, _, rfl, rfl, hS, at_of (j := 0) rfl rfl, fa, dC, lF, dF, Z, st, refs, a, rfl, fat, q⟩
  | may a b =>
    refine ⟨_, rfl, rfl, _, rfl, if_false_of (decide_eq_false (by decide)) ?_⟩
    refine ⟨_, rfl, rfl, _, rfl, if_true_of (decide_eq_true rfl) ?_⟩
    exact ⟨_, rfl, _, rfl, gv, _, _, _, rfl, rfl, hS, at_of (j := 0) rfl rfl, _, rfl, gv, _, _, _, rfl, rfl, hS, at_of (j := 1) rfl rfl, fa, dC, lF, dF, Z, st, refs, a, b, rfl, fat, q⟩
  | plan a b =>
    refine ⟨_, rfl, rfl, _, rfl, if_false_of (decide_eq_false (by decide)) ?_⟩
    refine ⟨_, rfl, rfl, _, rfl, if_false_of (decide_eq_false (by decide)) ?_⟩
    refine ⟨_, rfl, rfl, _, rfl, if_true_of (decide_eq_true rfl) ?_⟩
    exact ⟨_, rfl, _, rfl, gv, _, _, _, rfl, rfl, hS, at_of (j := 0) rfl rfl, _, rfl, gv, _, _, _, rfl, rfl, hS, at_of (j := 1) rfl rfl, fa, dC, lF, dF, Z, st, refs, a, b, rfl, fat, q⟩
  | grow a b c =>
    refine ⟨_, rfl, rfl, _, rfl, if_false_of (decide_eq_false (by decide)) ?_⟩
    refine ⟨_, rfl, rfl, _, rfl, if_false_of (decide_eq_false (by decide)) ?_⟩
    refine ⟨_, rfl, rfl, _, rfl, if_false_of (decide_eq_false (by decide)) ?_⟩
    refine ⟨_, rfl, rfl, _, rfl, if_true_of (decide_eq_true rfl) ?_⟩
    exact ⟨_, rfl, _, rfl, gv, _, _, _, rfl, rfl, hS, at_of (j := 0) rfl rfl, _, rfl, gv, _, _, _, rfl, rfl, hS, at_of (j := 1) rfl rfl, _, rfl, gv, _, _, _, rfl, rfl, hS, at_of (j := 2) rfl rfl, fa, dC, lF, dF, Z, st, refs, a, b, c, rfl, fat, q⟩
  | state a =>
    refine ⟨_, rfl, rfl, _, rfl, if_false_of (decide_eq_false (by decide)) ?_⟩
    refine ⟨_, rfl, rfl, _, rfl, if_false_of (decide_eq_false (by decide)) ?_⟩
    refine ⟨_, rfl, rfl, _, rfl, if_false_of (decide_eq_false (by decide)) ?_⟩
    refine ⟨_, rfl, rfl, _, rfl, if_false_of (decide_eq_false (by decide)) ?_⟩
    exact ⟨_, rfl, _, rfl, gv, _, _, _, rfl, rfl, hS, at_of (j := 0) rfl rfl, fa, dC, lF, dF, Z, st, refs, a, rfl, fat, q⟩
def spAnswer (P : Program) (w : World) (K : PySem.W.Frag) (A : Ad) : Sp := fun vs H Q _ => ∃ (ho gv rw_ : Addr) (Z : Addr → Prop) (so : Km350Neutral.S) (p : Int) (given row : List Int) (c : List (List Int)), vs = [.ref ho, .int p, .ref gv, .ref rw_] ∧ HoldAt P w A Z H ho so ∧
  SqL K H gv (given.map V.int) ∧ SqL K H rw_ (row.map V.int) ∧ Asks so p given row c ∧ Done P w A Z H ho (Km350Neutral.step so c).1 (Km350Neutral.step so c).2 Q
/-- the except suite: return [refused.number] -/
def t_suite (A : Ad) : Addr → Value → Option Addr → TS := fun a cls d => tRet (tLst (tCons (tXf a cls d A.CR "number" (tVar 4)) tNil))
def t_body (P : Program) (w : World) (K : PySem.W.Frag) (A : Ad) (W : WX) : TS :=
  tSeq (tIfS (tTest (tOp rEq (tVar 1) (tC (.int 0)))) (tRet (tCallS (spStart P w K A) (WE W) (tCons (tVar 0) (tCons (tOp (rIxL K) (tVar 2) (tC (.int 0))) (tCons (tOp (rIxL K) (tVar 2) (tC (.int 1))) (tCons (tVar 3) tNil)))))) tNext)
    (tRet (tCallS (spDone P w K A) (WE W) (tCons (tFld K (tVar 0) "farm") (tCons (tVar 1) (tCons (tVar 2) tNil)))))
theorem ok_answer (T : Txt K mg A) : FnOk P w K mg base CX0 27 A.answer A.answerD pAnswer (spAnswer P w K A) := by
  refine T.fAnswer.ok scAnswer (fun vs H Q E h => ?_) (fun cdv Ar outer s H vs Q E hr h => ?_)
  · obtain ⟨ho, gv, rw_, Z, so, p, given, row, c, rfl, _⟩ := h
    rfl
  obtain ⟨ho, gv, rw_, Z, so, p, given, row, c, rfl, hh, hS1, hS2, ask, q⟩ := h
  have hr6 := hr.mono (show 6 ≤ 26 by decide)
  refine ⟨_, pss_one (ps_try_as (i := 4) (tb := t_body P w K A) (ts := t_suite A) (Wout := fun _ _ _ _ => False) rfl rfl scAnswer.nd rfl rfl ⟨rfl, by decide, Or.inl T.gCR⟩ takes0
    (fun W pn xe tk _ => pss_cons (ps_if (pt_cmpR op_eq (pv 1) (pe_glob rfl T.gSTART (rvi _ _)) (nomark _)) (pss_one (ps_ret (by exact (pe_callS (ok_start T) hr6 rfl T.gStart T.fStart.kp T.bStart (fun σ => passAt tk σ) (by exact (pa_cons (pv 0) (pa_cons (pe_ix ix_list (pv 2) pe_int (fun _ _ => rfl)) (pa_cons (pe_ix ix_list (pv 2) pe_int (fun _ _ => rfl)) (pa_cons (pv 3) pa_nil))))))))) pss_nil)
      (pss_one (ps_ret (by exact (pe_callS (ok_done T) hr rfl T.gDone T.fDone.kp T.bDone (fun σ => passAt tk σ) (by exact (pa_cons (pe_fld (pv 0) rfl) (pa_cons (pv 1) (pa_cons (pv 2) pa_nil)))))))))
    (fun a oe cls d pn hz hf => pss_one (ps_ret (pe_lst (by exact (pa_cons (pe_xf T.xf T.nCR hz hf (pv 4)) pa_nil)))))), ?_⟩
  obtain ⟨nz, hx, hv, eho, hm⟩ := id hh
  -- a refusal: the list of its number
  have suite : ∀ (v : Int), Done P w A Z H ho so [v] Q → Rz A H v (WE (wAs K (.ref A.CR) 4 (t_suite A) (fun _ _ _ _ => False) { nx := fun _ H' => Q .non H', rt := Q }) (start nAnswer [.ref ho, .int p, .ref gv, .ref rw_])) := by
    intro v dn d H' s' nd ed
    refine ⟨true, T.eCR, fun _ a na => ?_, fun z => Bool.noConfusion z⟩
    refine ⟨_, rfl, rfl, rfl, d, _, _, rfl, ed, lk0, (by show 1 ≤ sizeLine; decide), fun pp np => ?_⟩
    have s2 : Same H' (upd H' pp (.lst [.int v])) := sUpd np
    have s3 := s'.trans s2
    exact dn _ pp Z (fun b o e _ _ => s3 _ _ e) (fun b z => .inl z) (hh.same s3) (s'.free np) upd_same
  cases ask with
  | start so wt g row hrow =>
    refine ⟨_, rfl, rfl, _, rfl, if_true_of (decide_eq_true rfl) ?_⟩
    refine ⟨_, rfl, _, rfl, gv, _, _, _, rfl, rfl, hS1, at_of (j := 0) rfl rfl, _, rfl, gv, _, _, _, rfl, rfl, hS1, at_of (j := 1) rfl rfl, _, rfl, ho, rw_, Z, so, row, wt, g, rfl, hh, hS2, hrow, fun hb => ?_, fun hg => ?_⟩
    · rw [step_start_bad hrow hb] at q
      exact suite (-22) q
    · rw [step_start_ok hrow hg] at q
      exact q
  | other st p given row x hc =>
    refine ⟨_, rfl, rfl, _, rfl, if_false_of (decide_eq_false fun z => hc.ne0 (V.int.inj z)) ?_⟩
    rw [step_other hc] at q
    obtain ⟨fa, dC, lF, dF, refs, rfl, fat⟩ := hm
    refine ⟨_, rfl, ho, A.CH, hx, _, _, rfl, eho, T.clCH, T.nCHfarm, hF_farm _, _, rfl, _, rfl, fa, gv, dC, lF, dF, Z, st, refs, p, given, x, rfl, hS1, hc, fat, fun hn => ?_, fun hp H' pp Z' dC' lF' dF' refs' bz zz fat' np ep => ?_⟩
    · obtain ⟨e1, e2⟩ := act_neg hc hn
      refine suite _ ?_
      rw [e1] at q
      have e3 : Km350Neutral.told (Km350.act st x).2 = [(Km350.act st x).2.value] := by
        unfold Km350Neutral.told
        rw [e2]
        rfl
      rw [e3] at q
      exact q
    · refine q H' pp Z' (fun b o e z _ => bz _ _ e z) zz ⟨fun z => ?_, hx, .ref fa, bz _ _ eho nz, fa, dC', lF', dF', refs', rfl, fat'⟩ np ep
      rcases zz ho z with r | r
      · exact nz r
      · rw [r] at eho; cases eho
end
end Yf
/-! ### the calls, one behind another -/
namespace Yf
open PySem PySem.Spec PyProof.Rows L2
/-- a list beside the state is changed; it has not three items, so it is none of the crops' lists -/
theorem HoldAt.list {P : Program} {w : World} {A : Ad} {Z : Addr → Prop} {H H' : Hp} {ho F : Addr} {so : Km350Neutral.S} {xs : List V} (h : HoldAt P w A Z H ho so) (nF : ¬ Z F) (eF : H F = some (.lst xs)) (n3 : xs.length ≠ 3) (k : ∀ b, b ≠ F → H' b = H b) : HoldAt P w A Z H' ho so := by
  obtain ⟨nz, dx, v, e, m⟩ := h
  have keep : ∀ {b : Addr} {o : HO}, H b = some o → o ≠ .lst xs → H' b = some o := fun {b o} e n => (k b (ne_of e eF n)).trans e
  have keepZ : ∀ {b : Addr}, Z b → H' b = H b := fun {b} z => k b fun q => nF (q ▸ z)
  refine ⟨nz, dx, v, keep e (fun z => nomatch z), ?_⟩
  cases so with
  | none => exact m
  | some s =>
    obtain ⟨fa, dC, lF, dF, refs, hv, h⟩ := m
    have tup : ∀ b ys, H b = some (.tup ys) → H' b = some (.tup ys) := fun b ys e => keep e fun z => nomatch z
    have keepS : ∀ {b : Addr} {o : HO}, sub Z H b = some o → o ≠ .lst xs → sub Z H' b = some o := fun {b o} e n => by
      obtain ⟨z, e⟩ := sub_some.mp e
      exact sub_some.mpr ⟨z, keep e n⟩
    refine ⟨fa, dC, lF, dF, refs, hv, ?_⟩
    exact {
      ok := h.ok
      zm := fun b z => by rw [keepZ z]; exact h.zm b z
      few := h.few
      fok := h.fok
      fs := by
        obtain ⟨⟨fx, e1⟩, as, e2, e3, e4⟩ := h.fs
        refine ⟨⟨fx, keepS e1 fun z => nomatch z⟩, as, e2, keepS e3 (fun z => nomatch z), fun i a ea => ?_⟩
        obtain ⟨dc, wc, g1, g2⟩ := e4 i a ea
        refine ⟨dc, wc, keepS g1 (fun z => nomatch z), keepS g2 fun z => ?_⟩
        have := congrArg List.length (HO.lst.inj z)
        rw [List.length_map, (crop_ok h.ok i).len] at this
        exact n3 this.symm
      zl := h.zl
      hl := by rw [keepZ h.zl]; exact h.hl
      nd := h.nd
      len := h.len
      zf := h.zf
      fld := fun i a x e1 e2 => by
        obtain ⟨fx, t, g1, g2⟩ := h.fld i a x e1 e2
        exact ⟨fx, t, keep g1 (fun z => nomatch z), tup _ _ g2⟩
      zd := h.zd
      fd := by
        obtain ⟨ys, g1, g2, g3⟩ := h.fd
        exact ⟨ys, by rw [keepZ h.zd]; exact g1, g2, fun y hy => (g3 y hy).tups tup⟩ }
theorem HoldAt.short {P : Program} {w : World} {A : Ad} {Z : Addr → Prop} {H : Hp} {ho : Addr} {so : Km350Neutral.S} (h : HoldAt P w A Z H ho so) : ∀ s, so = some s → ∀ z ∈ s.fields, z.last.length = 3 := by
  rintro s rfl z hz
  obtain ⟨_, _, _, _, fa, dC, lF, dF, refs, _, fat⟩ := h
  obtain ⟨a, b, c, e, _⟩ := (fat.fok z hz).2
  rw [e]
  rfl
/-- how far the list is read -/
def leftOf (n : Nat) (σ : List (Option V)) : Nat := match σ[3]? with
  | some (some (V.int z)) => n - z.toNat
  | _ => 0
theorem cut_at {l l1 l2 : List Int} {i : Nat} (h : l.drop i = l1 ++ l2) (hi : i ≤ l.length) {z1 z2 : Int} (h1 : z1 = (i : Int)) (h2 : z2 = ((i + l1.length : Nat) : Int)) : cutV (l.map V.int) (some z1) (some z2) = l1.map V.int := by
  rw [cut_ints l i (i + l1.length) h1 h2 (drop_len h hi), Nat.add_sub_cancel_left, (drop_app h).2]
theorem wn_at {p : Int} {n : Nat} (h : (p = 0 ∧ n = 2) ∨ (p = 1 ∧ n = 1) ∨ (p = 2 ∧ n = 2) ∨ (p = 3 ∧ n = 2) ∨ (p = 4 ∧ n = 3) ∨ (p = 5 ∧ n = 1)) : atI ([.int 2, .int 1, .int 2, .int 2, .int 3, .int 1] : List V) p = some (vn n) := by
  rcases h with ⟨rfl, rfl⟩ | ⟨rfl, rfl⟩ | ⟨rfl, rfl⟩ | ⟨rfl, rfl⟩ | ⟨rfl, rfl⟩ | ⟨rfl, rfl⟩ <;> rfl
/-- what holds between two turns -/
structure Mid (P : Program) (w : World) (A : Ad) (H : Hp) (ns : List Int) (ho F : Addr) (at_ : Nat) (Z : Addr → Prop) (so : Km350Neutral.S) (fnd : List Int) (H' : Hp) : Prop where
  same : Same H H'
  fresh : ∀ b, Z b → H b = none
  hold : HoldAt P w A Z H' ho so
  nF : ¬ Z F
  eF : H' F = some (.lst (fnd.map V.int))
  even : fnd.length % 2 = 0
  short : fnd.length ≤ 8 * at_
  le : at_ ≤ ns.length
  rest : ∃ raw, Parsed (ns.drop at_) raw ∧ Rest so raw ∧ PyKm350.answers ns = fnd ++ PyFlat.told (PyFlat.played Km350Neutral.step so raw)
section
variable {P : Program} {w : World} {A : Ad} {H H' H2 H3 : Hp} {ns : List Int} {ho F q : Addr} {at_ : Nat} {Z Z' : Addr → Prop} {so : Km350Neutral.S} {fnd : List Int}
/-- a turn more -/
theorem Mid.next (m : Mid P w A H ns ho F at_ Z so fnd H') (nho : H ho = none) (nFF : H F = none) {c : List (List Int)} {end_ : Nat} {cs : List (List (List Int))} {p : Int} {given row : List Int} (ask : Asks so p given row c) (hpar : Parsed (ns.drop end_) cs) (hrest : Rest (Km350Neutral.step so c).1 cs)
    (hans : PyKm350.answers ns = fnd ++ PyFlat.told (PyFlat.played Km350Neutral.step so (c :: cs))) (he : at_ + 1 ≤ end_) (hle : end_ ≤ ns.length)
    (H1 : Hp) (s1 : Same H' H1) (fr : ∀ b o, H1 b = some o → ¬ Z b → b ≠ ho → H2 b = some o) (zz : ∀ b, Z' b → Z b ∨ H1 b = none) (hold : HoldAt P w A Z' H2 ho (Km350Neutral.step so c).1)
    (k3 : ∀ b, b ≠ F → H3 b = H2 b) (e3 : H3 F = some (.lst ((fnd ++ ((((Km350Neutral.step so c).2.length : Nat) : Int) :: (Km350Neutral.step so c).2)).map V.int))) :
    Mid P w A H ns ho F end_ Z' (Km350Neutral.step so c).1 (fnd ++ ((((Km350Neutral.step so c).2.length : Nat) : Int) :: (Km350Neutral.step so c).2)) H3 := by
  obtain ⟨nz, hx, hv, eho, _⟩ := id m.hold
  have hne : F ≠ ho := fun z => by
    rw [← z, m.eF] at eho
    cases eho
  have eF1 := s1 _ _ m.eF
  have eF2 : H2 F = some (.lst (fnd.map V.int)) := fr _ _ eF1 m.nF hne
  have odd := step_short m.hold.short ask
  have nF' : ¬ Z' F := fun z => by
    rcases zz F z with r | r
    · exact m.nF r
    · rw [r] at eF1; cases eF1
  exact {
    same := fun b o e => by
      have hb : b ≠ F := ne_of_none e nFF
      have hb2 : b ≠ ho := ne_of_none e nho
      have hz : ¬ Z b := fun z => by rw [m.fresh b z] at e; cases e
      rw [k3 b hb]
      exact fr _ _ (s1 _ _ (m.same _ _ e)) hz hb2
    fresh := fun b z => by
      rcases zz b z with r | r
      · exact m.fresh b r
      · exact (m.same.trans s1).free r
    hold := hold.list nF' eF2 (by rw [List.length_map]; have := m.even; omega) k3
    nF := nF'
    eF := e3
    even := by
      rw [List.length_append, List.length_cons]
      have := m.even
      have := odd.1
      omega
    short := by
      rw [List.length_append, List.length_cons]
      have := m.short
      have := odd.2
      omega
    le := hle
    rest := by
      refine ⟨cs, hpar, hrest, ?_⟩
      rw [hans, played_cons, List.append_assoc] }
end
end Yf
namespace Yf
open PySem PySem.Spec PyProof.Rows L2
section
variable {P : Program} {w : World} {K : PySem.W.Frag} {mg : Str → Option Value} {base : Heap} {A : Ad}
/-- answers: the request's list is handed in, the specification's list comes out -/
def spAnswers (K : PySem.W.Frag) : Sp := fun vs H Q _ => ∃ (a : Addr) (ns : List Int), vs = [.ref a] ∧ SqL K H a (ns.map V.int) ∧ ns.length ≤ 30000 ∧ PyKm350.answers_asked ns = true ∧
  ∀ (H' : Hp) (p : Addr), H' p = some (.lst ((PyKm350.answers ns).map V.int)) → Q (.ref p) H'
theorem ok_answers (T : Txt K mg A) : FnOk P w K mg base CX0 28 A.answers A.answersD pAnswers (spAnswers K) := by
  refine T.fAnswers.ok scAnswers (fun vs H Q E h => ?_) (fun cdv Ar outer s H vs Q E hr h => ?_)
  · obtain ⟨a, ns, rfl, _⟩ := h
    rfl
  obtain ⟨a, ns, rfl, hS, hlen, hask, k⟩ := h
  have hr2 := hr.mono (show 2 ≤ 27 by decide)
  refine ⟨_, pss_cons (ps_set (i := 1) scAnswers.nd rfl (Or.inl rfl) (pe_make0 T.mkCH (ok_hInit T) hr2 rfl T.gCH T.bHInit .nil pass0))
    (pss_cons (ps_set (i := 2) scAnswers.nd rfl (Or.inl rfl) (pe_lst pa_nil))
    (pss_cons (ps_set (i := 3) scAnswers.nd rfl (Or.inl rfl) pe_int)
    (pss_cons (ps_while PassesOwn.never (pt_cmpR op_lt (pv 3) (pe_callB call_len_seq (by rfl) T.zlen PySem.boot_len (pa_cons (pv 0) pa_nil)) (nomark _))
      (pss_cons (ps_set (i := 4) scAnswers.nd rfl (Or.inl rfl) (pe_ix ix_list (pv 0) (pv 3) (fun _ _ => rfl)))
      (pss_cons (ps_set (i := 5) scAnswers.nd rfl (Or.inl rfl) (pe_op op_add (pe_op op_add (pv 3) pe_int) (pe_ix ix_tup (pe_glob (v := .ref A.aW) rfl T.gWN rfl) (pv 4) (fun _ _ => rfl))))
      (pss_cons (ps_set (i := 6) scAnswers.nd rfl (Or.inl rfl) (pe_slice sl_list (pv 0) (po_some (pe_op op_add (pv 3) pe_int)) (po_some (pv 5))))
      (pss_cons (ps_set (i := 7) scAnswers.nd rfl (Or.inl rfl) (pe_lst pa_nil))
      (pss_cons (ps_if (pt_cmpR op_eq (pv 4) (pe_glob rfl T.gSTART (rvi _ _)) (nomark _))
        (pss_cons (ps_set (i := 8) scAnswers.nd rfl (Or.inl rfl) (pe_op op_add (pe_op op_add (pv 5) pe_int) (pe_ix ix_list (pv 0) (pv 5) (fun _ _ => rfl))))
        (pss_cons (ps_set (i := 7) scAnswers.nd rfl (Or.inl rfl) (pe_slice sl_list (pv 0) (po_some (pe_op op_add (pv 5) pe_int)) (po_some (pv 8))))
        (pss_one (ps_set (i := 5) scAnswers.nd rfl (Or.inl rfl) (pv 8))))) pss_nil)
      (pss_cons (ps_set (i := 9) scAnswers.nd rfl (Or.inl rfl) (pe_call (ok_answer (P := P) (w := w) (base := base) T) hr rfl T.gAnswer T.fAnswer.kp T.bAnswer .nil pass0 (pa_cons (pv 1) (pa_cons (pv 4) (pa_cons (pv 6) (pa_cons (pv 7) pa_nil))))))
      (pss_cons (ps_set (i := 3) scAnswers.nd rfl (Or.inl rfl) (pv 5))
      (pss_cons (ps_expr (pe_bm PySem.F.plainAttrs_list PySem.F.slot_list_append PySem.F.type_list_append mt_append (pv 2) (pa_cons (pe_callB call_len_seq (by rfl) T.zlen PySem.boot_len (pa_cons (pv 9) pa_nil)) pa_nil)))
      (pss_one (ps_expr (pe_bm PySem.F.plainAttrs_list PySem.F.slot_list_extend PySem.F.type_list_extend mt_extend (pv 2) (pa_cons (pv 9) pa_nil)))))))))))))
    (pss_one (ps_ret (pv 2)))))), ?_⟩
  -- holder = Holder(); found = []
  intro ho hx nho nhx neh
  refine ⟨ho, hx, rfl, upd_same, fun H1 eho kp => ⟨rfl, ?_⟩⟩
  have s1 : Same H H1 := Same.made nho nhx kp
  refine ⟨(by show 0 ≤ sizeLine; decide), fun F nF => ?_⟩
  have s2 : Same H1 (upd H1 F (.lst [])) := sUpd nF
  obtain ⟨raw0, par0, _, rest0, ans0⟩ := asked_gives hask
  have m0 : Mid P w A H ns ho F 0 (fun _ => False) none [] (upd H1 F (.lst [])) := {
    same := s1.trans s2
    fresh := fun b z => z.elim
    hold := ⟨fun z => z, hx, .non, s2 _ _ eho, rfl⟩
    nF := fun z => z
    eF := upd_same
    even := rfl
    short := Nat.le_refl _
    le := Nat.zero_le _
    rest := ⟨raw0, par0, rest0, ans0⟩ }
  have nF0 : H F = none := s1.free nF
  refine while_by (fun σ H' => ∃ (at_ : Nat) (Z : Addr → Prop) (so : Km350Neutral.S) (fnd : List Int) (v4 v5 v6 v7 v8 v9 : Option V), σ = [some (.ref a), some (.ref ho), some (.ref F), some (vn at_), v4, v5, v6, v7, v8, v9] ∧ Mid P w A H ns ho F at_ Z so fnd H') (fun σ _ => leftOf ns.length σ)
    ⟨0, _, none, [], none, none, none, none, none, none, rfl, m0⟩ ?_ ?_
  · rintro σ H' ⟨at_, Z, so, fnd, v4, v5, v6, v7, v8, v9, rfl, m⟩
    have hS' := m.same.seq hS
    refine ⟨_, rfl, _, rfl, a, _, rfl, .inl hS', _, _, rfl, rfl, _, rfl, ?_⟩
    obtain ⟨raw, par, rest, ans⟩ := m.rest
    by_cases hat : at_ < ns.length
    rotate_left
    · refine if_false_of (decide_eq_false (by rw [List.length_map]; omega)) ?_
      refine ⟨_, rfl, k H' F ?_⟩
      have e0 : ns.drop at_ = [] := List.drop_eq_nil_of_le (by omega)
      rw [e0] at par
      rw [parsed_nil par] at ans
      rw [ans]
      have : PyFlat.told (PyFlat.played Km350Neutral.step so []) = [] := rfl
      rw [this, List.append_nil]
      exact m.eF
    refine if_true_of (decide_eq_true (by rw [List.length_map]; omega)) ?_
    obtain ⟨p, r, epr⟩ : ∃ p r, ns.drop at_ = p :: r := by
      cases e : ns.drop at_ with
      | nil =>
        have := congrArg List.length e
        rw [List.length_drop] at this
        simp at this
        omega
      | cons p r => exact ⟨p, r, rfl⟩
    rw [epr] at par
    obtain ⟨c, t, cs, rfl, hcall, hpar⟩ := parsed_cons par
    have hd := call_head hcall
    obtain ⟨hb, ha1, hne, hrest⟩ := rest.head
    have get : atI (ns.map V.int) (at_ : Int) = some (.int p) := by
      refine atI_nat ?_
      rw [List.getElem?_map, drop_get epr]
      rfl
    have er := drop_next epr
    have at1 : V.int (((at_ : Nat) : Int) + 1) = vn (at_ + 1) := vn_add at_ 1
    -- call = calls[at]
    refine ⟨_, rfl, _, rfl, a, _, _, _, rfl, rfl, hS', get, ?_⟩
    have hzero : p = 0 ∨ p ≠ 0 := by omega
    rcases asks_of hd hb ha1 hne with ⟨rfl, wt, g, n, rr, rfl, hn0, hnl, rfl, ask⟩ | ⟨hp0, given, egt, hk, ask⟩
    · -- fy_start: two whole numbers and a row
      obtain ⟨nn, rfl⟩ := nn_nat hn0
      have hn' : ((nn : Nat) : Int).toNat = nn := rfl
      rw [hn'] at hnl ask hpar
      have er3 : ns.drop (at_ + 1) = [wt, g] ++ ((nn : Int) :: rr) := er
      have l3 := drop_len er3 (by omega)
      have er4 : ns.drop (at_ + 3) = (nn : Int) :: rr := (drop_app er3).1
      have er5 : ns.drop (at_ + 4) = rr := drop_next er4
      have er6 : ns.drop (at_ + 4) = rr.take nn ++ rr.drop nn := by rw [er5, List.take_append_drop]
      have lt : (rr.take nn).length = nn := by rw [List.length_take]; omega
      have hl4 : at_ + 4 ≤ ns.length := by
        have := (List.getElem?_eq_some_iff.mp (drop_get er4)).1
        omega
      have l6 := drop_len er6 hl4
      rw [lt] at l6
      have er7 : ns.drop (at_ + 4 + nn) = rr.drop nn := by
        have := (drop_app er6).1
        rw [lt] at this
        exact this
      refine ⟨_, rfl, _, _, rfl, rfl, _, rfl, A.aW, _, _, _, rfl, rfl, T.sWN _, wn_at (n := 2) (.inl ⟨rfl, rfl⟩), _, _, rfl, rfl, ?_⟩
      refine ⟨_, rfl, _, rfl, _, _, rfl, rfl, _, rfl, _, rfl, _, rfl, a, _, rfl, hS', fun gv ngv => ?_⟩
      have sg : Same H' (upd H' gv (.lst (cutV (ns.map V.int) (some ((at_ : Int) + 1)) (some ((at_ : Int) + 1 + 2))))) := sUpd ngv
      refine ⟨(by show 0 ≤ sizeLine; decide), fun rv0 nrv0 => ?_⟩
      have sr0 : Same (upd H' gv (.lst (cutV (ns.map V.int) (some ((at_ : Int) + 1)) (some ((at_ : Int) + 1 + 2))))) _ := sUpd (o := .lst []) nrv0
      have hS2 := (sg.trans sr0).seq hS'
      refine ⟨_, rfl, rfl, _, rfl, if_true_of (decide_eq_true rfl) ?_⟩
      refine ⟨_, rfl, _, _, rfl, rfl, _, rfl, _, rfl, a, _, _, .int (nn : Int), rfl, rfl, hS2, at_of (j := at_ + 3) (by omega) (by rw [List.getElem?_map, drop_get er4]; rfl), _, _, rfl, rfl, ?_⟩
      refine ⟨_, rfl, _, rfl, _, _, rfl, rfl, _, rfl, _, rfl, _, rfl, a, _, rfl, hS2, fun rv nrv => ?_⟩
      have sr : Same _ (upd (upd (upd H' gv (.lst (cutV (ns.map V.int) (some ((at_ : Int) + 1)) (some ((at_ : Int) + 1 + 2))))) rv0 (.lst [])) rv (.lst (cutV (ns.map V.int) (some ((at_ : Int) + 1 + 2 + 1)) (some ((at_ : Int) + 1 + 2 + 1 + (nn : Int)))))) := sUpd nrv
      have eg : upd (upd (upd H' gv (.lst (cutV (ns.map V.int) (some ((at_ : Int) + 1)) (some ((at_ : Int) + 1 + 2))))) rv0 (.lst [])) rv (.lst (cutV (ns.map V.int) (some ((at_ : Int) + 1 + 2 + 1)) (some ((at_ : Int) + 1 + 2 + 1 + (nn : Int))))) gv = some (.lst ([wt, g].map V.int)) := by
        refine sr _ _ (sr0 _ _ ?_)
        rw [upd_same, cut_at er3 (by omega) (by omega) (by show _ = ((at_ + 1 + 2 : Nat) : Int); omega)]
      have erw : upd (upd (upd H' gv (.lst (cutV (ns.map V.int) (some ((at_ : Int) + 1)) (some ((at_ : Int) + 1 + 2))))) rv0 (.lst [])) rv (.lst (cutV (ns.map V.int) (some ((at_ : Int) + 1 + 2 + 1)) (some ((at_ : Int) + 1 + 2 + 1 + (nn : Int))))) rv = some (.lst ((rr.take nn).map V.int)) := by
        rw [upd_same, cut_at er6 hl4 (by omega) (by rw [lt]; omega)]
      have s1 := (sg.trans sr0).trans sr
      generalize upd (upd (upd H' gv (.lst (cutV (ns.map V.int) (some ((at_ : Int) + 1)) (some ((at_ : Int) + 1 + 2))))) rv0 (.lst [])) rv (.lst (cutV (ns.map V.int) (some ((at_ : Int) + 1 + 2 + 1)) (some ((at_ : Int) + 1 + 2 + 1 + (nn : Int))))) = H1 at s1 eg erw
      refine ⟨_, rfl, ?_⟩
      refine ⟨_, rfl, _, rfl, _, rfl, _, rfl, ho, gv, rv, Z, so, 0, [wt, g], rr.take nn, _, rfl, m.hold.same s1, SqL.of eg, SqL.of erw, ask, fun H2 q Z' fr zz hold nq eq => ?_⟩
      have hne2 : F ≠ ho := fun z => by
        obtain ⟨_, _, _, e, _⟩ := m.hold
        rw [← z, m.eF] at e
        cases e
      have eF1 := s1 _ _ m.eF
      have eF2 : H2 F = some (.lst (fnd.map V.int)) := fr _ _ eF1 m.nF hne2
      have hqF : q ≠ F := fun z => by
        rw [z, eF1] at nq
        cases nq
      have odd := step_short m.hold.short ask
      have hsz : fnd.length ≤ 240000 := by
        have := m.short
        omega
      refine ⟨_, rfl, ?_⟩
      refine ⟨_, rfl, .inl ⟨rfl, _, SqL.of eF2⟩, _, rfl, q, _, rfl, .inl (SqL.of eq), F, _, _, rfl, rfl, eF2, by rw [List.length_map, sizeLine_eq]; omega, ?_⟩
      refine ⟨_, rfl, .inl ⟨rfl, _, SqL.of upd_same⟩, _, rfl, F, q, _, _, rfl, rfl, upd_same, (upd_ne hqF).trans eq, ?_, ?_⟩
      · rw [List.length_append, List.length_map, List.length_map, sizeLine_eq]
        show fnd.length + 1 + _ ≤ 16777216
        have := odd.2
        omega
      rw [upd_upd, List.length_map]
      have e3 : fnd.map V.int ++ [V.int (((Km350Neutral.step so c).2.length : Nat) : Int)] ++ (Km350Neutral.step so c).2.map V.int = (fnd ++ ((((Km350Neutral.step so c).2.length : Nat) : Int) :: (Km350Neutral.step so c).2)).map V.int := by
        rw [List.map_append, List.map_cons, List.append_assoc]
        rfl
      rw [e3]
      have hpar' : Parsed (ns.drop (at_ + 4 + nn)) cs := by rw [er7]; exact hpar
      have mid := m.next nho nF0 ask hpar' hrest ans (show at_ + 1 ≤ (at_ + 4 + nn) by omega) (by omega) H1 s1 fr zz hold (H3 := upd H2 F (.lst ((fnd ++ ((((Km350Neutral.step so c).2.length : Nat) : Int) :: (Km350Neutral.step so c).2)).map V.int))) (fun b h => upd_ne h) upd_same
      have ev : V.int ((at_ : Int) + 1 + 2 + 1 + (nn : Int)) = vn (at_ + 4 + nn) := congrArg V.int (by omega)
      refine ⟨⟨(at_ + 4 + nn), Z', _, _, some (V.int 0), some (vn (at_ + 4 + nn)), some (.ref gv), some (.ref rv), some (V.int ((at_ : Int) + 1 + 2 + 1 + (nn : Int))), some (.ref q), ?_, mid⟩, ?_⟩
      · show [some (V.ref a), some (V.ref ho), some (V.ref F), some (V.int ((at_ : Int) + 1 + 2 + 1 + (nn : Int))), some (V.int 0), some (V.int ((at_ : Int) + 1 + 2 + 1 + (nn : Int))), some (V.ref gv), some (V.ref rv), some (V.int ((at_ : Int) + 1 + 2 + 1 + (nn : Int))), some (V.ref q)] = _
        rw [ev]
      · show ns.length - ((at_ : Int) + 1 + 2 + 1 + (nn : Int)).toNat < ns.length - (at_ : Int).toNat
        omega
    · -- the others: whole numbers alone
      have hkk : ∃ kk, given.length = kk ∧ ((p = 0 ∧ kk = 2) ∨ (p = 1 ∧ kk = 1) ∨ (p = 2 ∧ kk = 2) ∨ (p = 3 ∧ kk = 2) ∨ (p = 4 ∧ kk = 3) ∨ (p = 5 ∧ kk = 1)) := ⟨given.length, rfl, .inr hk⟩
      obtain ⟨kk, hgl, hwn⟩ := hkk
      have er3 : ns.drop (at_ + 1) = given ++ t := er.trans egt
      have l3 := drop_len er3 (by omega)
      rw [hgl] at l3
      have er7 : ns.drop (at_ + 1 + kk) = t := by
        have := (drop_app er3).1
        rw [hgl] at this
        exact this
      refine ⟨_, rfl, _, _, rfl, rfl, _, rfl, A.aW, _, _, _, rfl, rfl, T.sWN _, wn_at (n := kk) hwn, _, _, rfl, rfl, ?_⟩
      refine ⟨_, rfl, _, rfl, _, _, rfl, rfl, _, rfl, _, rfl, _, rfl, a, _, rfl, hS', fun gv ngv => ?_⟩
      have sg : Same H' (upd H' gv (.lst (cutV (ns.map V.int) (some ((at_ : Int) + 1)) (some ((at_ : Int) + 1 + (kk : Int)))))) := sUpd ngv
      refine ⟨(by show 0 ≤ sizeLine; decide), fun rv nrv => ?_⟩
      have sr : Same _ (upd (upd H' gv (.lst (cutV (ns.map V.int) (some ((at_ : Int) + 1)) (some ((at_ : Int) + 1 + (kk : Int)))))) rv (.lst [])) := sUpd nrv
      have eg : upd (upd H' gv (.lst (cutV (ns.map V.int) (some ((at_ : Int) + 1)) (some ((at_ : Int) + 1 + (kk : Int)))))) rv (.lst []) gv = some (.lst (given.map V.int)) := by
        refine sr _ _ ?_
        rw [upd_same, cut_at er3 (by omega) (by omega) (by rw [hgl]; omega)]
      have erw : upd (upd H' gv (.lst (cutV (ns.map V.int) (some ((at_ : Int) + 1)) (some ((at_ : Int) + 1 + (kk : Int)))))) rv (.lst []) rv = some (.lst (([] : List Int).map V.int)) := upd_same
      have s1 := sg.trans sr
      refine ⟨_, rfl, rfl, _, rfl, if_false_of (decide_eq_false fun z => hp0 (V.int.inj z)) ?_⟩
      generalize upd (upd H' gv (.lst (cutV (ns.map V.int) (some ((at_ : Int) + 1)) (some ((at_ : Int) + 1 + (kk : Int)))))) rv (.lst []) = H1 at s1 eg erw
      refine ⟨_, rfl, _, rfl, _, rfl, _, rfl, ho, gv, rv, Z, so, p, given, [], _, rfl, m.hold.same s1, SqL.of eg, SqL.of erw, ask [], fun H2 q Z' fr zz hold nq eq => ?_⟩
      have ask := ask []
      have hne2 : F ≠ ho := fun z => by
        obtain ⟨_, _, _, e, _⟩ := m.hold
        rw [← z, m.eF] at e
        cases e
      have eF1 := s1 _ _ m.eF
      have eF2 : H2 F = some (.lst (fnd.map V.int)) := fr _ _ eF1 m.nF hne2
      have hqF : q ≠ F := fun z => by
        rw [z, eF1] at nq
        cases nq
      have odd := step_short m.hold.short ask
      have hsz : fnd.length ≤ 240000 := by
        have := m.short
        omega
      refine ⟨_, rfl, ?_⟩
      refine ⟨_, rfl, .inl ⟨rfl, _, SqL.of eF2⟩, _, rfl, q, _, rfl, .inl (SqL.of eq), F, _, _, rfl, rfl, eF2, by rw [List.length_map, sizeLine_eq]; omega, ?_⟩
      refine ⟨_, rfl, .inl ⟨rfl, _, SqL.of upd_same⟩, _, rfl, F, q, _, _, rfl, rfl, upd_same, (upd_ne hqF).trans eq, ?_, ?_⟩
      · rw [List.length_append, List.length_map, List.length_map, sizeLine_eq]
        show fnd.length + 1 + _ ≤ 16777216
        have := odd.2
        omega
      rw [upd_upd, List.length_map]
      have e3 : fnd.map V.int ++ [V.int (((Km350Neutral.step so c).2.length : Nat) : Int)] ++ (Km350Neutral.step so c).2.map V.int = (fnd ++ ((((Km350Neutral.step so c).2.length : Nat) : Int) :: (Km350Neutral.step so c).2)).map V.int := by
        rw [List.map_append, List.map_cons, List.append_assoc]
        rfl
      rw [e3]
      have hpar' : Parsed (ns.drop (at_ + 1 + kk)) cs := by rw [er7]; exact hpar
      have mid := m.next nho nF0 ask hpar' hrest ans (show at_ + 1 ≤ (at_ + 1 + kk) by omega) (by omega) H1 s1 fr zz hold (H3 := upd H2 F (.lst ((fnd ++ ((((Km350Neutral.step so c).2.length : Nat) : Int) :: (Km350Neutral.step so c).2)).map V.int))) (fun b h => upd_ne h) upd_same
      have ev : V.int ((at_ : Int) + 1 + (kk : Int)) = vn (at_ + 1 + kk) := congrArg V.int (by omega)
      refine ⟨⟨(at_ + 1 + kk), Z', _, _, some (V.int p), some (vn (at_ + 1 + kk)), some (.ref gv), some (.ref rv), v8, some (.ref q), ?_, mid⟩, ?_⟩
      · show [some (V.ref a), some (V.ref ho), some (V.ref F), some (V.int ((at_ : Int) + 1 + (kk : Int))), some (V.int p), some (V.int ((at_ : Int) + 1 + (kk : Int))), some (V.ref gv), some (V.ref rv), v8, some (V.ref q)] = _
        rw [ev]
      · show ns.length - ((at_ : Int) + 1 + (kk : Int)).toNat < ns.length - (at_ : Int).toNat
        omega
  · intro σ H' Q1 Q2 hq h
    obtain ⟨v, e, v0, e0, pp, ys, h1, h2, i, j, h3, h4, kk, h5, h6⟩ := h
    exact ⟨v, e, v0, e0, pp, ys, h1, h2, i, j, h3, h4, kk, h5, hq _ _ h6⟩
end
end Yf
/-! ### the end: what the top has written -/
namespace Yf
open PySem PySem.Spec PyProof.Rows L2
open PySem.W (Codec)
theorem exm_self {K : PySem.W.Frag} {S : Addr} (h1 : PySem.W.subIn K (.ref S) (.type "BaseException") = some true) (h2 : PySem.W.isClsIn K S = true) (h3 : PySem.W.typeIn K (.ref S) = some (.type "type")) (h4 : PySem.W.subIn K (.ref S) (.ref S) = some true) :
    PySem.W.exmOne K (.ref S) (.ref S) = some true := by
  have e1 : (PySem.W.subIn K (.ref S) (.type "BaseException") == some true) = true := by rw [h1] <;> rfl
  have e2 : ((PySem.W.clsIn K S).isSome && PySem.W.typeIn K (.ref S) == some (.type "type")) = true := by
    have h2' : (PySem.W.clsIn K S).isSome = true := h2
    rw [h2', h3] <;> rfl
  show (if (PySem.W.subIn K (.ref S) (.type "BaseException") == some true) = true then (if ((PySem.W.clsIn K S).isSome && PySem.W.typeIn K (.ref S) == some (.type "type")) = true then PySem.W.subIn K (.ref S) (.ref S) else none) else none) = some true
  rw [if_pos e1, if_pos e2]
  exact h4
theorem all_mk {P : Program} {w : World} {K : PySem.W.Frag} {h : Heap} {mg : Str → Option Value} {fa CC CD CF CH CR aW cInit cTold cHarv cSoil cFoll cropsOf noth dInit dTold fInit fMay fLeast fBrings fChoice fProm fGrow behind rInit hInit need start newF fieldOf may plan grow state done answer answers : Addr}
    {od_cInit an_cInit od_cTold an_cTold od_cHarv an_cHarv od_cSoil an_cSoil od_cFoll an_cFoll od_cropsOf an_cropsOf od_noth an_noth od_dInit an_dInit od_dTold an_dTold od_fInit an_fInit od_fMay an_fMay od_fLeast an_fLeast od_fBrings an_fBrings od_fChoice an_fChoice od_fProm an_fProm od_fGrow an_fGrow od_behind an_behind od_rInit an_rInit od_hInit an_hInit od_need an_need od_start an_start od_newF an_newF od_fieldOf an_fieldOf od_may an_may od_plan an_plan od_grow an_grow od_state an_state od_done an_done od_answer an_answer od_answers an_answers odW : Option Addr}
    {sl_cInit sl_cTold sl_cHarv sl_cSoil sl_cFoll sl_cropsOf sl_noth sl_dInit sl_dTold sl_fInit sl_fMay sl_fLeast sl_fBrings sl_fChoice sl_fProm sl_fGrow sl_behind sl_rInit sl_hInit sl_need sl_start sl_newF sl_fieldOf sl_may sl_plan sl_grow sl_state sl_done sl_answer sl_answers slW : Array (Option Value)}
    {oc_cInit kV_cInit dc_cInit pm_cInit cd_cInit ct_cInit oc_cTold kV_cTold dc_cTold pm_cTold cd_cTold ct_cTold oc_cHarv kV_cHarv dc_cHarv pm_cHarv cd_cHarv ct_cHarv oc_cSoil kV_cSoil dc_cSoil pm_cSoil cd_cSoil ct_cSoil oc_cFoll kV_cFoll dc_cFoll pm_cFoll cd_cFoll ct_cFoll oc_cropsOf kV_cropsOf dc_cropsOf pm_cropsOf cd_cropsOf ct_cropsOf oc_noth kV_noth dc_noth pm_noth cd_noth ct_noth oc_dInit kV_dInit dc_dInit pm_dInit cd_dInit ct_dInit oc_dTold kV_dTold dc_dTold pm_dTold cd_dTold ct_dTold oc_fInit kV_fInit dc_fInit pm_fInit cd_fInit ct_fInit oc_fMay kV_fMay dc_fMay pm_fMay cd_fMay ct_fMay oc_fLeast kV_fLeast dc_fLeast pm_fLeast cd_fLeast ct_fLeast oc_fBrings kV_fBrings dc_fBrings pm_fBrings cd_fBrings ct_fBrings oc_fChoice kV_fChoice dc_fChoice pm_fChoice cd_fChoice ct_fChoice oc_fProm kV_fProm dc_fProm pm_fProm cd_fProm ct_fProm oc_fGrow kV_fGrow dc_fGrow pm_fGrow cd_fGrow ct_fGrow oc_behind kV_behind dc_behind pm_behind cd_behind ct_behind oc_rInit kV_rInit dc_rInit pm_rInit cd_rInit ct_rInit oc_hInit kV_hInit dc_hInit pm_hInit cd_hInit ct_hInit oc_need kV_need dc_need pm_need cd_need ct_need oc_start kV_start dc_start pm_start cd_start ct_start oc_newF kV_newF dc_newF pm_newF cd_newF ct_newF oc_fieldOf kV_fieldOf dc_fieldOf pm_fieldOf cd_fieldOf ct_fieldOf oc_may kV_may dc_may pm_may cd_may ct_may oc_plan kV_plan dc_plan pm_plan cd_plan ct_plan oc_grow kV_grow dc_grow pm_grow cd_grow ct_grow oc_state kV_state dc_state pm_state cd_state ct_state oc_done kV_done dc_done pm_done cd_done ct_done oc_answer kV_answer dc_answer pm_answer cd_answer ct_answer oc_answers kV_answers dc_answers pm_answers cd_answers ct_answers : Value}
    {nm q : Str} {N : Addr} {bs : List Value} {sn : List Str} {sub_ : List Value} {ab : Bool} {col : Option Bool} {dd : Option Addr} {m0 m1 m2 m3 m5 : Option Value}
    {tNOTHING tMOST_SOIL tMOST_REST tKINDS tNUMBERS tLAST_YEARS tMOST_CROPS tMOST_FIELDS tMOST_PLAN tMOST_YEARS tSTART w0 w1 w2 w3 w4 w5 : Tok} {nW : Nat}
    (X : K.In h) (G : h.Ns mainGlobals mg) (hfa : mg "answers" = some (.ref fa))
    (aCC : PySem.W.nsIn K mainGlobals "Crop" = some (some (.ref CC)))
    (aCD : PySem.W.nsIn K mainGlobals "Field" = some (some (.ref CD)))
    (aCF : PySem.W.nsIn K mainGlobals "Farm" = some (some (.ref CF)))
    (aCH : PySem.W.nsIn K mainGlobals "Holder" = some (some (.ref CH)))
    (aCR : PySem.W.nsIn K mainGlobals "Refused" = some (some (.ref CR)))
    (pgCC : PySem.W.plainGet K CC Str.empty = true)
    (hdCC : PySem.W.hasDictIn K CC = true)
    (poCC : PySem.W.plainOver K CC = true)
    (saCC : PySem.W.findIn K (.ref CC) "__setattr__" = some (some (.builtin "object.__setattr__")))
    (mkCC : PySem.W.makesIn K CC = true)
    (kcCC : PySem.W.keepIn K (.ref CC) = true)
    (nCCneed : PySem.W.findIn K (.ref CC) "need" = some none)
    (nCCgives : PySem.W.findIn K (.ref CC) "gives" = some none)
    (nCCrest : PySem.W.findIn K (.ref CC) "rest" = some none)
    (nCCworth : PySem.W.findIn K (.ref CC) "worth" = some none)
    (pgCD : PySem.W.plainGet K CD Str.empty = true)
    (hdCD : PySem.W.hasDictIn K CD = true)
    (poCD : PySem.W.plainOver K CD = true)
    (saCD : PySem.W.findIn K (.ref CD) "__setattr__" = some (some (.builtin "object.__setattr__")))
    (mkCD : PySem.W.makesIn K CD = true)
    (kcCD : PySem.W.keepIn K (.ref CD) = true)
    (nCDsoil : PySem.W.findIn K (.ref CD) "soil" = some none)
    (nCDsown : PySem.W.findIn K (.ref CD) "sown" = some none)
    (nCDyears : PySem.W.findIn K (.ref CD) "years" = some none)
    (nCDbrought : PySem.W.findIn K (.ref CD) "brought" = some none)
    (pgCF : PySem.W.plainGet K CF Str.empty = true)
    (hdCF : PySem.W.hasDictIn K CF = true)
    (poCF : PySem.W.plainOver K CF = true)
    (saCF : PySem.W.findIn K (.ref CF) "__setattr__" = some (some (.builtin "object.__setattr__")))
    (mkCF : PySem.W.makesIn K CF = true)
    (kcCF : PySem.W.keepIn K (.ref CF) = true)
    (nCFcrops : PySem.W.findIn K (.ref CF) "crops" = some none)
    (nCFweathers : PySem.W.findIn K (.ref CF) "weathers" = some none)
    (nCFfields : PySem.W.findIn K (.ref CF) "fields" = some none)
    (nCFfound : PySem.W.findIn K (.ref CF) "found" = some none)
    (pgCH : PySem.W.plainGet K CH Str.empty = true)
    (hdCH : PySem.W.hasDictIn K CH = true)
    (poCH : PySem.W.plainOver K CH = true)
    (saCH : PySem.W.findIn K (.ref CH) "__setattr__" = some (some (.builtin "object.__setattr__")))
    (mkCH : PySem.W.makesIn K CH = true)
    (kcCH : PySem.W.keepIn K (.ref CH) = true)
    (nCHfarm : PySem.W.findIn K (.ref CH) "farm" = some none)
    (mcInit : PySem.W.findIn K (.ref CC) "__init__" = some (some (.ref cInit)))
    (icInit : PySem.W.isFn K (.ref cInit) = true)
    (lcInit : K.lookup cInit = some ⟨oc_cInit, od_cInit, .func (PySem.W.fnOf "__init__" "Crop.__init__" (defArgs sCInit) (defBody sCInit) (defScope sCInit) .none kV_cInit dc_cInit pm_cInit an_cInit cd_cInit ct_cInit), sl_cInit⟩)
    (ccInit : PySem.W.codeIn K cd_cInit "Crop.__init__" = true)
    (kcInit : PySem.W.keepIn K (.ref cInit) = true)
    (mcTold : PySem.W.findIn K (.ref CC) "is_as_told" = some (some (.ref cTold)))
    (icTold : PySem.W.isFn K (.ref cTold) = true)
    (lcTold : K.lookup cTold = some ⟨oc_cTold, od_cTold, .func (PySem.W.fnOf "is_as_told" "Crop.is_as_told" (defArgs sCTold) (defBody sCTold) (defScope sCTold) .none kV_cTold dc_cTold pm_cTold an_cTold cd_cTold ct_cTold), sl_cTold⟩)
    (ccTold : PySem.W.codeIn K cd_cTold "Crop.is_as_told" = true)
    (kcTold : PySem.W.keepIn K (.ref cTold) = true)
    (mcHarv : PySem.W.findIn K (.ref CC) "harvest" = some (some (.ref cHarv)))
    (icHarv : PySem.W.isFn K (.ref cHarv) = true)
    (lcHarv : K.lookup cHarv = some ⟨oc_cHarv, od_cHarv, .func (PySem.W.fnOf "harvest" "Crop.harvest" (defArgs sCHarv) (defBody sCHarv) (defScope sCHarv) .none kV_cHarv dc_cHarv pm_cHarv an_cHarv cd_cHarv ct_cHarv), sl_cHarv⟩)
    (ccHarv : PySem.W.codeIn K cd_cHarv "Crop.harvest" = true)
    (kcHarv : PySem.W.keepIn K (.ref cHarv) = true)
    (mcSoil : PySem.W.findIn K (.ref CC) "soil_behind" = some (some (.ref cSoil)))
    (icSoil : PySem.W.isFn K (.ref cSoil) = true)
    (lcSoil : K.lookup cSoil = some ⟨oc_cSoil, od_cSoil, .func (PySem.W.fnOf "soil_behind" "Crop.soil_behind" (defArgs sCSoil) (defBody sCSoil) (defScope sCSoil) .none kV_cSoil dc_cSoil pm_cSoil an_cSoil cd_cSoil ct_cSoil), sl_cSoil⟩)
    (ccSoil : PySem.W.codeIn K cd_cSoil "Crop.soil_behind" = true)
    (kcSoil : PySem.W.keepIn K (.ref cSoil) = true)
    (mcFoll : PySem.W.findIn K (.ref CC) "may_follow" = some (some (.ref cFoll)))
    (icFoll : PySem.W.isFn K (.ref cFoll) = true)
    (lcFoll : K.lookup cFoll = some ⟨oc_cFoll, od_cFoll, .func (PySem.W.fnOf "may_follow" "Crop.may_follow" (defArgs sCFoll) (defBody sCFoll) (defScope sCFoll) .none kV_cFoll dc_cFoll pm_cFoll an_cFoll cd_cFoll ct_cFoll), sl_cFoll⟩)
    (ccFoll : PySem.W.codeIn K cd_cFoll "Crop.may_follow" = true)
    (kcFoll : PySem.W.keepIn K (.ref cFoll) = true)
    (mcropsOf : PySem.W.nsIn K mainGlobals "crops_of" = some (some (.ref cropsOf)))
    (lcropsOf : K.lookup cropsOf = some ⟨oc_cropsOf, od_cropsOf, .func (PySem.W.fnOf "crops_of" "crops_of" (defArgs sCropsOf) (defBody sCropsOf) (defScope sCropsOf) .none kV_cropsOf dc_cropsOf pm_cropsOf an_cropsOf cd_cropsOf ct_cropsOf), sl_cropsOf⟩)
    (ccropsOf : PySem.W.codeIn K cd_cropsOf "crops_of" = true)
    (kcropsOf : PySem.W.keepIn K (.ref cropsOf) = true)
    (mnoth : PySem.W.nsIn K mainGlobals "nothing" = some (some (.ref noth)))
    (lnoth : K.lookup noth = some ⟨oc_noth, od_noth, .func (PySem.W.fnOf "nothing" "nothing" (defArgs sNoth) (defBody sNoth) (defScope sNoth) .none kV_noth dc_noth pm_noth an_noth cd_noth ct_noth), sl_noth⟩)
    (cnoth : PySem.W.codeIn K cd_noth "nothing" = true)
    (knoth : PySem.W.keepIn K (.ref noth) = true)
    (mdInit : PySem.W.findIn K (.ref CD) "__init__" = some (some (.ref dInit)))
    (idInit : PySem.W.isFn K (.ref dInit) = true)
    (ldInit : K.lookup dInit = some ⟨oc_dInit, od_dInit, .func (PySem.W.fnOf "__init__" "Field.__init__" (defArgs sDInit) (defBody sDInit) (defScope sDInit) .none kV_dInit dc_dInit pm_dInit an_dInit cd_dInit ct_dInit), sl_dInit⟩)
    (cdInit : PySem.W.codeIn K cd_dInit "Field.__init__" = true)
    (kdInit : PySem.W.keepIn K (.ref dInit) = true)
    (mdTold : PySem.W.findIn K (.ref CD) "told" = some (some (.ref dTold)))
    (idTold : PySem.W.isFn K (.ref dTold) = true)
    (ldTold : K.lookup dTold = some ⟨oc_dTold, od_dTold, .func (PySem.W.fnOf "told" "Field.told" (defArgs sDTold) (defBody sDTold) (defScope sDTold) .none kV_dTold dc_dTold pm_dTold an_dTold cd_dTold ct_dTold), sl_dTold⟩)
    (cdTold : PySem.W.codeIn K cd_dTold "Field.told" = true)
    (kdTold : PySem.W.keepIn K (.ref dTold) = true)
    (mfInit : PySem.W.findIn K (.ref CF) "__init__" = some (some (.ref fInit)))
    (ifInit : PySem.W.isFn K (.ref fInit) = true)
    (lfInit : K.lookup fInit = some ⟨oc_fInit, od_fInit, .func (PySem.W.fnOf "__init__" "Farm.__init__" (defArgs sFInit) (defBody sFInit) (defScope sFInit) .none kV_fInit dc_fInit pm_fInit an_fInit cd_fInit ct_fInit), sl_fInit⟩)
    (cfInit : PySem.W.codeIn K cd_fInit "Farm.__init__" = true)
    (kfInit : PySem.W.keepIn K (.ref fInit) = true)
    (mfMay : PySem.W.findIn K (.ref CF) "may_be_sown" = some (some (.ref fMay)))
    (ifMay : PySem.W.isFn K (.ref fMay) = true)
    (lfMay : K.lookup fMay = some ⟨oc_fMay, od_fMay, .func (PySem.W.fnOf "may_be_sown" "Farm.may_be_sown" (defArgs sFMay) (defBody sFMay) (defScope sFMay) .none kV_fMay dc_fMay pm_fMay an_fMay cd_fMay ct_fMay), sl_fMay⟩)
    (cfMay : PySem.W.codeIn K cd_fMay "Farm.may_be_sown" = true)
    (kfMay : PySem.W.keepIn K (.ref fMay) = true)
    (mfLeast : PySem.W.findIn K (.ref CF) "least_harvest" = some (some (.ref fLeast)))
    (ifLeast : PySem.W.isFn K (.ref fLeast) = true)
    (lfLeast : K.lookup fLeast = some ⟨oc_fLeast, od_fLeast, .func (PySem.W.fnOf "least_harvest" "Farm.least_harvest" (defArgs sFLeast) (defBody sFLeast) (defScope sFLeast) .none kV_fLeast dc_fLeast pm_fLeast an_fLeast cd_fLeast ct_fLeast), sl_fLeast⟩)
    (cfLeast : PySem.W.codeIn K cd_fLeast "Farm.least_harvest" = true)
    (kfLeast : PySem.W.keepIn K (.ref fLeast) = true)
    (mfBrings : PySem.W.findIn K (.ref CF) "brings" = some (some (.ref fBrings)))
    (ifBrings : PySem.W.isFn K (.ref fBrings) = true)
    (lfBrings : K.lookup fBrings = some ⟨oc_fBrings, od_fBrings, .func (PySem.W.fnOf "brings" "Farm.brings" (defArgs sFBrings) (defBody sFBrings) (defScope sFBrings) .none kV_fBrings dc_fBrings pm_fBrings an_fBrings cd_fBrings ct_fBrings), sl_fBrings⟩)
    (cfBrings : PySem.W.codeIn K cd_fBrings "Farm.brings" = true)
    (kfBrings : PySem.W.keepIn K (.ref fBrings) = true)
    (mfChoice : PySem.W.findIn K (.ref CF) "choice" = some (some (.ref fChoice)))
    (ifChoice : PySem.W.isFn K (.ref fChoice) = true)
    (lfChoice : K.lookup fChoice = some ⟨oc_fChoice, od_fChoice, .func (PySem.W.fnOf "choice" "Farm.choice" (defArgs sFChoice) (defBody sFChoice) (defScope sFChoice) .none kV_fChoice dc_fChoice pm_fChoice an_fChoice cd_fChoice ct_fChoice), sl_fChoice⟩)
    (cfChoice : PySem.W.codeIn K cd_fChoice "Farm.choice" = true)
    (kfChoice : PySem.W.keepIn K (.ref fChoice) = true)
    (mfProm : PySem.W.findIn K (.ref CF) "promised" = some (some (.ref fProm)))
    (ifProm : PySem.W.isFn K (.ref fProm) = true)
    (lfProm : K.lookup fProm = some ⟨oc_fProm, od_fProm, .func (PySem.W.fnOf "promised" "Farm.promised" (defArgs sFProm) (defBody sFProm) (defScope sFProm) .none kV_fProm dc_fProm pm_fProm an_fProm cd_fProm ct_fProm), sl_fProm⟩)
    (cfProm : PySem.W.codeIn K cd_fProm "Farm.promised" = true)
    (kfProm : PySem.W.keepIn K (.ref fProm) = true)
    (mfGrow : PySem.W.findIn K (.ref CF) "grow" = some (some (.ref fGrow)))
    (ifGrow : PySem.W.isFn K (.ref fGrow) = true)
    (lfGrow : K.lookup fGrow = some ⟨oc_fGrow, od_fGrow, .func (PySem.W.fnOf "grow" "Farm.grow" (defArgs sFGrow) (defBody sFGrow) (defScope sFGrow) .none kV_fGrow dc_fGrow pm_fGrow an_fGrow cd_fGrow ct_fGrow), sl_fGrow⟩)
    (cfGrow : PySem.W.codeIn K cd_fGrow "Farm.grow" = true)
    (kfGrow : PySem.W.keepIn K (.ref fGrow) = true)
    (mbehind : PySem.W.nsIn K mainGlobals "behind" = some (some (.ref behind)))
    (lbehind : K.lookup behind = some ⟨oc_behind, od_behind, .func (PySem.W.fnOf "behind" "behind" (defArgs sBehind) (defBody sBehind) (defScope sBehind) .none kV_behind dc_behind pm_behind an_behind cd_behind ct_behind), sl_behind⟩)
    (cbehind : PySem.W.codeIn K cd_behind "behind" = true)
    (kbehind : PySem.W.keepIn K (.ref behind) = true)
    (mrInit : PySem.W.findIn K (.ref CR) "__init__" = some (some (.ref rInit)))
    (lrInit : K.lookup rInit = some ⟨oc_rInit, od_rInit, .func (PySem.W.fnOf "__init__" "Refused.__init__" (defArgs sRInit) (defBody sRInit) (defScope sRInit) .none kV_rInit dc_rInit pm_rInit an_rInit cd_rInit ct_rInit), sl_rInit⟩)
    (crInit : PySem.W.codeIn K cd_rInit "Refused.__init__" = true)
    (krInit : PySem.W.keepIn K (.ref rInit) = true)
    (mhInit : PySem.W.findIn K (.ref CH) "__init__" = some (some (.ref hInit)))
    (ihInit : PySem.W.isFn K (.ref hInit) = true)
    (lhInit : K.lookup hInit = some ⟨oc_hInit, od_hInit, .func (PySem.W.fnOf "__init__" "Holder.__init__" (defArgs sHInit) (defBody sHInit) (defScope sHInit) .none kV_hInit dc_hInit pm_hInit an_hInit cd_hInit ct_hInit), sl_hInit⟩)
    (chInit : PySem.W.codeIn K cd_hInit "Holder.__init__" = true)
    (khInit : PySem.W.keepIn K (.ref hInit) = true)
    (mneed : PySem.W.nsIn K mainGlobals "need" = some (some (.ref need)))
    (lneed : K.lookup need = some ⟨oc_need, od_need, .func (PySem.W.fnOf "need" "need" (defArgs sNeed) (defBody sNeed) (defScope sNeed) .none kV_need dc_need pm_need an_need cd_need ct_need), sl_need⟩)
    (cneed : PySem.W.codeIn K cd_need "need" = true)
    (kneed : PySem.W.keepIn K (.ref need) = true)
    (mstart : PySem.W.nsIn K mainGlobals "start" = some (some (.ref start)))
    (lstart : K.lookup start = some ⟨oc_start, od_start, .func (PySem.W.fnOf "start" "start" (defArgs sStart) (defBody sStart) (defScope sStart) .none kV_start dc_start pm_start an_start cd_start ct_start), sl_start⟩)
    (cstart : PySem.W.codeIn K cd_start "start" = true)
    (kstart : PySem.W.keepIn K (.ref start) = true)
    (mnewF : PySem.W.nsIn K mainGlobals "new_field" = some (some (.ref newF)))
    (lnewF : K.lookup newF = some ⟨oc_newF, od_newF, .func (PySem.W.fnOf "new_field" "new_field" (defArgs sNewF) (defBody sNewF) (defScope sNewF) .none kV_newF dc_newF pm_newF an_newF cd_newF ct_newF), sl_newF⟩)
    (cnewF : PySem.W.codeIn K cd_newF "new_field" = true)
    (knewF : PySem.W.keepIn K (.ref newF) = true)
    (mfieldOf : PySem.W.nsIn K mainGlobals "field_of" = some (some (.ref fieldOf)))
    (lfieldOf : K.lookup fieldOf = some ⟨oc_fieldOf, od_fieldOf, .func (PySem.W.fnOf "field_of" "field_of" (defArgs sFieldOf) (defBody sFieldOf) (defScope sFieldOf) .none kV_fieldOf dc_fieldOf pm_fieldOf an_fieldOf cd_fieldOf ct_fieldOf), sl_fieldOf⟩)
    (cfieldOf : PySem.W.codeIn K cd_fieldOf "field_of" = true)
    (kfieldOf : PySem.W.keepIn K (.ref fieldOf) = true)
    (mmay : PySem.W.nsIn K mainGlobals "may" = some (some (.ref may)))
    (lmay : K.lookup may = some ⟨oc_may, od_may, .func (PySem.W.fnOf "may" "may" (defArgs sMay) (defBody sMay) (defScope sMay) .none kV_may dc_may pm_may an_may cd_may ct_may), sl_may⟩)
    (cmay : PySem.W.codeIn K cd_may "may" = true)
    (kmay : PySem.W.keepIn K (.ref may) = true)
    (mplan : PySem.W.nsIn K mainGlobals "plan" = some (some (.ref plan)))
    (lplan : K.lookup plan = some ⟨oc_plan, od_plan, .func (PySem.W.fnOf "plan" "plan" (defArgs sPlan) (defBody sPlan) (defScope sPlan) .none kV_plan dc_plan pm_plan an_plan cd_plan ct_plan), sl_plan⟩)
    (cplan : PySem.W.codeIn K cd_plan "plan" = true)
    (kplan : PySem.W.keepIn K (.ref plan) = true)
    (mgrow : PySem.W.nsIn K mainGlobals "grow" = some (some (.ref grow)))
    (lgrow : K.lookup grow = some ⟨oc_grow, od_grow, .func (PySem.W.fnOf "grow" "grow" (defArgs sGrow) (defBody sGrow) (defScope sGrow) .none kV_grow dc_grow pm_grow an_grow cd_grow ct_grow), sl_grow⟩)
    (cgrow : PySem.W.codeIn K cd_grow "grow" = true)
    (kgrow : PySem.W.keepIn K (.ref grow) = true)
    (mstate : PySem.W.nsIn K mainGlobals "state" = some (some (.ref state)))
    (lstate : K.lookup state = some ⟨oc_state, od_state, .func (PySem.W.fnOf "state" "state" (defArgs sState) (defBody sState) (defScope sState) .none kV_state dc_state pm_state an_state cd_state ct_state), sl_state⟩)
    (cstate : PySem.W.codeIn K cd_state "state" = true)
    (kstate : PySem.W.keepIn K (.ref state) = true)
    (mdone : PySem.W.nsIn K mainGlobals "done" = some (some (.ref done)))
    (ldone : K.lookup done = some ⟨oc_done, od_done, .func (PySem.W.fnOf "done" "done" (defArgs sDone) (defBody sDone) (defScope sDone) .none kV_done dc_done pm_done an_done cd_done ct_done), sl_done⟩)
    (cdone : PySem.W.codeIn K cd_done "done" = true)
    (kdone : PySem.W.keepIn K (.ref done) = true)
    (manswer : PySem.W.nsIn K mainGlobals "answer" = some (some (.ref answer)))
    (lanswer : K.lookup answer = some ⟨oc_answer, od_answer, .func (PySem.W.fnOf "answer" "answer" (defArgs sAnswer) (defBody sAnswer) (defScope sAnswer) .none kV_answer dc_answer pm_answer an_answer cd_answer ct_answer), sl_answer⟩)
    (canswer : PySem.W.codeIn K cd_answer "answer" = true)
    (kanswer : PySem.W.keepIn K (.ref answer) = true)
    (manswers : PySem.W.nsIn K mainGlobals "answers" = some (some (.ref answers)))
    (lanswers : K.lookup answers = some ⟨oc_answers, od_answers, .func (PySem.W.fnOf "answers" "answers" (defArgs sAnswers) (defBody sAnswers) (defScope sAnswers) .none kV_answers dc_answers pm_answers an_answers cd_answers ct_answers), sl_answers⟩)
    (canswers : PySem.W.codeIn K cd_answers "answers" = true)
    (kanswers : PySem.W.keepIn K (.ref answers) = true)
    (xL : K.lookup CR = some (excClassObj nm q CR N bs [.type "ValueError", .type "Exception", .type "BaseException", .type "object"] true sn sub_ ab col dd m0 m1 m2 m3 m5 "ValueError.__new__"))
    (saR : PySem.W.findIn K (.ref CR) "__setattr__" = some (some (.builtin "object.__setattr__")))
    (gaR : PySem.W.findIn K (.ref CR) "__getattribute__" = some (some (.builtin "BaseException.__getattribute__")))
    (ggR : PySem.W.findIn K (.ref CR) "__getattr__" = some none)
    (nbR : PySem.W.findIn K (.ref CR) "number" = some none)
    (tIR : PySem.W.typeIn K (.ref rInit) = some (.type "function"))
    (kR : PySem.W.keepIn K (.ref CR) = true)
    (eR : PySem.W.subIn K (.ref CR) (.type "BaseException") = some true)
    (tR : PySem.W.typeIn K (.ref CR) = some (.type "type"))
    (hR : PySem.W.hasDictIn K CR = true)
    (iR : PySem.W.isClsIn K CR = true)
    (sR : PySem.W.subIn K (.ref CR) (.ref CR) = some true)
    (gNOTHING : PySem.W.nsIn K mainGlobals "NOTHING" = some (some (.int 255 tNOTHING)))
    (gMOST_SOIL : PySem.W.nsIn K mainGlobals "MOST_SOIL" = some (some (.int 100 tMOST_SOIL)))
    (gMOST_REST : PySem.W.nsIn K mainGlobals "MOST_REST" = some (some (.int 3 tMOST_REST)))
    (gKINDS : PySem.W.nsIn K mainGlobals "KINDS" = some (some (.int 3 tKINDS)))
    (gNUMBERS : PySem.W.nsIn K mainGlobals "NUMBERS" = some (some (.int 6 tNUMBERS)))
    (gLAST_YEARS : PySem.W.nsIn K mainGlobals "LAST_YEARS" = some (some (.int 3 tLAST_YEARS)))
    (gMOST_CROPS : PySem.W.nsIn K mainGlobals "MOST_CROPS" = some (some (.int 6 tMOST_CROPS)))
    (gMOST_FIELDS : PySem.W.nsIn K mainGlobals "MOST_FIELDS" = some (some (.int 8 tMOST_FIELDS)))
    (gMOST_PLAN : PySem.W.nsIn K mainGlobals "MOST_PLAN" = some (some (.int 6 tMOST_PLAN)))
    (gMOST_YEARS : PySem.W.nsIn K mainGlobals "MOST_YEARS" = some (some (.int 4096 tMOST_YEARS)))
    (gSTART : PySem.W.nsIn K mainGlobals "START" = some (some (.int 0 tSTART)))
    (zlen : PySem.W.nsIn K mainGlobals "len" = some none)
    (zrange : PySem.W.nsIn K mainGlobals "range" = some none)
    (zmin : PySem.W.nsIn K mainGlobals "min" = some none)
    (zmax : PySem.W.nsIn K mainGlobals "max" = some none)
    (zsorted : PySem.W.nsIn K mainGlobals "sorted" = some none)
    (zlist : PySem.W.nsIn K mainGlobals "list" = some none)
    (zint : PySem.W.nsIn K mainGlobals "int" = some none)
    (aWN : PySem.W.nsIn K mainGlobals "WHOLE_NUMBERS" = some (some (.ref aW)))
    (lWN : K.lookup aW = some ⟨.type "tuple", odW, .seq #[.int 2 w0, .int 1 w1, .int 2 w2, .int 2 w3, .int 3 w4, .int 1 w5] nW, slW⟩) :
    ∃ fd : FuncData, (∀ (s : Shared) (us : List Value), us.length = (["calls"] : List Str).length → BindsTo s fd ⟨us, []⟩ ((["calls"] : List Str).zip us)) ∧ ∀ base : Heap, K.In base → base.Ns mainGlobals mg → FnOk P w K mg base CX0 28 fa fd ["calls"] (spAnswers K) := by
  have e := hfa.symm.trans (PySem.W.mg_of X G manswers)
  cases e
  have F_cInit := fun_mk (st := sCInit) lcInit ccInit kcInit
  have B_cInit := F_cInit.binds (ps := pCInit) fun _ _ _ _ _ _ us hl => match us, hl with | [_, _, _, _, _], _ => rfl
  have F_cTold := fun_mk (st := sCTold) lcTold ccTold kcTold
  have B_cTold := F_cTold.binds (ps := pCTold) fun _ _ _ _ _ _ us hl => match us, hl with | [_], _ => rfl
  have F_cHarv := fun_mk (st := sCHarv) lcHarv ccHarv kcHarv
  have B_cHarv := F_cHarv.binds (ps := pCHarv) fun _ _ _ _ _ _ us hl => match us, hl with | [_, _, _], _ => rfl
  have F_cSoil := fun_mk (st := sCSoil) lcSoil ccSoil kcSoil
  have B_cSoil := F_cSoil.binds (ps := pCSoil) fun _ _ _ _ _ _ us hl => match us, hl with | [_, _], _ => rfl
  have F_cFoll := fun_mk (st := sCFoll) lcFoll ccFoll kcFoll
  have B_cFoll := F_cFoll.binds (ps := pCFoll) fun _ _ _ _ _ _ us hl => match us, hl with | [_, _, _], _ => rfl
  have F_cropsOf := fun_mk (st := sCropsOf) lcropsOf ccropsOf kcropsOf
  have B_cropsOf := F_cropsOf.binds (ps := pCropsOf) fun _ _ _ _ _ _ us hl => match us, hl with | [_], _ => rfl
  have F_noth := fun_mk (st := sNoth) lnoth cnoth knoth
  have B_noth := F_noth.binds (ps := pNoth) fun _ _ _ _ _ _ us hl => match us, hl with | [_], _ => rfl
  have F_dInit := fun_mk (st := sDInit) ldInit cdInit kdInit
  have B_dInit := F_dInit.binds (ps := pDInit) fun _ _ _ _ _ _ us hl => match us, hl with | [_, _], _ => rfl
  have F_dTold := fun_mk (st := sDTold) ldTold cdTold kdTold
  have B_dTold := F_dTold.binds (ps := pDTold) fun _ _ _ _ _ _ us hl => match us, hl with | [_], _ => rfl
  have F_fInit := fun_mk (st := sFInit) lfInit cfInit kfInit
  have B_fInit := F_fInit.binds (ps := pFInit) fun _ _ _ _ _ _ us hl => match us, hl with | [_, _, _, _], _ => rfl
  have F_fMay := fun_mk (st := sFMay) lfMay cfMay kfMay
  have B_fMay := F_fMay.binds (ps := pFMay) fun _ _ _ _ _ _ us hl => match us, hl with | [_, _], _ => rfl
  have F_fLeast := fun_mk (st := sFLeast) lfLeast cfLeast kfLeast
  have B_fLeast := F_fLeast.binds (ps := pFLeast) fun _ _ _ _ _ _ us hl => match us, hl with | [_, _, _], _ => rfl
  have F_fBrings := fun_mk (st := sFBrings) lfBrings cfBrings kfBrings
  have B_fBrings := F_fBrings.binds (ps := pFBrings) fun _ _ _ _ _ _ us hl => match us, hl with | [_, _, _, _, _], _ => rfl
  have F_fChoice := fun_mk (st := sFChoice) lfChoice cfChoice kfChoice
  have B_fChoice := F_fChoice.binds (ps := pFChoice) fun _ _ _ _ _ _ us hl => match us, hl with | [_, _, _, _], _ => rfl
  have F_fProm := fun_mk (st := sFProm) lfProm cfProm kfProm
  have B_fProm := F_fProm.binds (ps := pFProm) fun _ _ _ _ _ _ us hl => match us, hl with | [_, _, _, _], _ => rfl
  have F_fGrow := fun_mk (st := sFGrow) lfGrow cfGrow kfGrow
  have B_fGrow := F_fGrow.binds (ps := pFGrow) fun _ _ _ _ _ _ us hl => match us, hl with | [_, _, _, _], _ => rfl
  have F_behind := fun_mk (st := sBehind) lbehind cbehind kbehind
  have B_behind := F_behind.binds (ps := pBehind) fun _ _ _ _ _ _ us hl => match us, hl with | [_, _], _ => rfl
  have F_rInit := fun_mk (st := sRInit) lrInit crInit krInit
  have B_rInit := F_rInit.binds (ps := pRInit) fun _ _ _ _ _ _ us hl => match us, hl with | [_, _], _ => rfl
  have F_hInit := fun_mk (st := sHInit) lhInit chInit khInit
  have B_hInit := F_hInit.binds (ps := pHInit) fun _ _ _ _ _ _ us hl => match us, hl with | [_], _ => rfl
  have F_need := fun_mk (st := sNeed) lneed cneed kneed
  have B_need := F_need.binds (ps := pNeed) fun _ _ _ _ _ _ us hl => match us, hl with | [_, _], _ => rfl
  have F_start := fun_mk (st := sStart) lstart cstart kstart
  have B_start := F_start.binds (ps := pStart) fun _ _ _ _ _ _ us hl => match us, hl with | [_, _, _, _], _ => rfl
  have F_newF := fun_mk (st := sNewF) lnewF cnewF knewF
  have B_newF := F_newF.binds (ps := pNewF) fun _ _ _ _ _ _ us hl => match us, hl with | [_, _], _ => rfl
  have F_fieldOf := fun_mk (st := sFieldOf) lfieldOf cfieldOf kfieldOf
  have B_fieldOf := F_fieldOf.binds (ps := pFieldOf) fun _ _ _ _ _ _ us hl => match us, hl with | [_, _], _ => rfl
  have F_may := fun_mk (st := sMay) lmay cmay kmay
  have B_may := F_may.binds (ps := pMay) fun _ _ _ _ _ _ us hl => match us, hl with | [_, _, _], _ => rfl
  have F_plan := fun_mk (st := sPlan) lplan cplan kplan
  have B_plan := F_plan.binds (ps := pPlan) fun _ _ _ _ _ _ us hl => match us, hl with | [_, _, _], _ => rfl
  have F_grow := fun_mk (st := sGrow) lgrow cgrow kgrow
  have B_grow := F_grow.binds (ps := pGrow) fun _ _ _ _ _ _ us hl => match us, hl with | [_, _, _, _], _ => rfl
  have F_state := fun_mk (st := sState) lstate cstate kstate
  have B_state := F_state.binds (ps := pState) fun _ _ _ _ _ _ us hl => match us, hl with | [_, _], _ => rfl
  have F_done := fun_mk (st := sDone) ldone cdone kdone
  have B_done := F_done.binds (ps := pDone) fun _ _ _ _ _ _ us hl => match us, hl with | [_, _, _], _ => rfl
  have F_answer := fun_mk (st := sAnswer) lanswer canswer kanswer
  have B_answer := F_answer.binds (ps := pAnswer) fun _ _ _ _ _ _ us hl => match us, hl with | [_, _, _, _], _ => rfl
  have F_answers := fun_mk (st := sAnswers) lanswers canswers kanswers
  have B_answers := F_answers.binds (ps := pAnswers) fun _ _ _ _ _ _ us hl => match us, hl with | [_], _ => rfl
  have T : Txt K mg ({
      CC := CC
      CD := CD
      CF := CF
      CH := CH
      CR := CR
      aW := aW
      cInit := cInit
      cInitD := PySem.W.fnOf "__init__" "Crop.__init__" (defArgs sCInit) (defBody sCInit) (defScope sCInit) .none kV_cInit dc_cInit pm_cInit an_cInit cd_cInit ct_cInit
      cTold := cTold
      cToldD := PySem.W.fnOf "is_as_told" "Crop.is_as_told" (defArgs sCTold) (defBody sCTold) (defScope sCTold) .none kV_cTold dc_cTold pm_cTold an_cTold cd_cTold ct_cTold
      cHarv := cHarv
      cHarvD := PySem.W.fnOf "harvest" "Crop.harvest" (defArgs sCHarv) (defBody sCHarv) (defScope sCHarv) .none kV_cHarv dc_cHarv pm_cHarv an_cHarv cd_cHarv ct_cHarv
      cSoil := cSoil
      cSoilD := PySem.W.fnOf "soil_behind" "Crop.soil_behind" (defArgs sCSoil) (defBody sCSoil) (defScope sCSoil) .none kV_cSoil dc_cSoil pm_cSoil an_cSoil cd_cSoil ct_cSoil
      cFoll := cFoll
      cFollD := PySem.W.fnOf "may_follow" "Crop.may_follow" (defArgs sCFoll) (defBody sCFoll) (defScope sCFoll) .none kV_cFoll dc_cFoll pm_cFoll an_cFoll cd_cFoll ct_cFoll
      cropsOf := cropsOf
      cropsOfD := PySem.W.fnOf "crops_of" "crops_of" (defArgs sCropsOf) (defBody sCropsOf) (defScope sCropsOf) .none kV_cropsOf dc_cropsOf pm_cropsOf an_cropsOf cd_cropsOf ct_cropsOf
      noth := noth
      nothD := PySem.W.fnOf "nothing" "nothing" (defArgs sNoth) (defBody sNoth) (defScope sNoth) .none kV_noth dc_noth pm_noth an_noth cd_noth ct_noth
      dInit := dInit
      dInitD := PySem.W.fnOf "__init__" "Field.__init__" (defArgs sDInit) (defBody sDInit) (defScope sDInit) .none kV_dInit dc_dInit pm_dInit an_dInit cd_dInit ct_dInit
      dTold := dTold
      dToldD := PySem.W.fnOf "told" "Field.told" (defArgs sDTold) (defBody sDTold) (defScope sDTold) .none kV_dTold dc_dTold pm_dTold an_dTold cd_dTold ct_dTold
      fInit := fInit
      fInitD := PySem.W.fnOf "__init__" "Farm.__init__" (defArgs sFInit) (defBody sFInit) (defScope sFInit) .none kV_fInit dc_fInit pm_fInit an_fInit cd_fInit ct_fInit
      fMay := fMay
      fMayD := PySem.W.fnOf "may_be_sown" "Farm.may_be_sown" (defArgs sFMay) (defBody sFMay) (defScope sFMay) .none kV_fMay dc_fMay pm_fMay an_fMay cd_fMay ct_fMay
      fLeast := fLeast
      fLeastD := PySem.W.fnOf "least_harvest" "Farm.least_harvest" (defArgs sFLeast) (defBody sFLeast) (defScope sFLeast) .none kV_fLeast dc_fLeast pm_fLeast an_fLeast cd_fLeast ct_fLeast
      fBrings := fBrings
      fBringsD := PySem.W.fnOf "brings" "Farm.brings" (defArgs sFBrings) (defBody sFBrings) (defScope sFBrings) .none kV_fBrings dc_fBrings pm_fBrings an_fBrings cd_fBrings ct_fBrings
      fChoice := fChoice
      fChoiceD := PySem.W.fnOf "choice" "Farm.choice" (defArgs sFChoice) (defBody sFChoice) (defScope sFChoice) .none kV_fChoice dc_fChoice pm_fChoice an_fChoice cd_fChoice ct_fChoice
      fProm := fProm
      fPromD := PySem.W.fnOf "promised" "Farm.promised" (defArgs sFProm) (defBody sFProm) (defScope sFProm) .none kV_fProm dc_fProm pm_fProm an_fProm cd_fProm ct_fProm
      fGrow := fGrow
      fGrowD := PySem.W.fnOf "grow" "Farm.grow" (defArgs sFGrow) (defBody sFGrow) (defScope sFGrow) .none kV_fGrow dc_fGrow pm_fGrow an_fGrow cd_fGrow ct_fGrow
      behind := behind
      behindD := PySem.W.fnOf "behind" "behind" (defArgs sBehind) (defBody sBehind) (defScope sBehind) .none kV_behind dc_behind pm_behind an_behind cd_behind ct_behind
      rInit := rInit
      rInitD := PySem.W.fnOf "__init__" "Refused.__init__" (defArgs sRInit) (defBody sRInit) (defScope sRInit) .none kV_rInit dc_rInit pm_rInit an_rInit cd_rInit ct_rInit
      hInit := hInit
      hInitD := PySem.W.fnOf "__init__" "Holder.__init__" (defArgs sHInit) (defBody sHInit) (defScope sHInit) .none kV_hInit dc_hInit pm_hInit an_hInit cd_hInit ct_hInit
      need := need
      needD := PySem.W.fnOf "need" "need" (defArgs sNeed) (defBody sNeed) (defScope sNeed) .none kV_need dc_need pm_need an_need cd_need ct_need
      start := start
      startD := PySem.W.fnOf "start" "start" (defArgs sStart) (defBody sStart) (defScope sStart) .none kV_start dc_start pm_start an_start cd_start ct_start
      newF := newF
      newFD := PySem.W.fnOf "new_field" "new_field" (defArgs sNewF) (defBody sNewF) (defScope sNewF) .none kV_newF dc_newF pm_newF an_newF cd_newF ct_newF
      fieldOf := fieldOf
      fieldOfD := PySem.W.fnOf "field_of" "field_of" (defArgs sFieldOf) (defBody sFieldOf) (defScope sFieldOf) .none kV_fieldOf dc_fieldOf pm_fieldOf an_fieldOf cd_fieldOf ct_fieldOf
      may := may
      mayD := PySem.W.fnOf "may" "may" (defArgs sMay) (defBody sMay) (defScope sMay) .none kV_may dc_may pm_may an_may cd_may ct_may
      plan := plan
      planD := PySem.W.fnOf "plan" "plan" (defArgs sPlan) (defBody sPlan) (defScope sPlan) .none kV_plan dc_plan pm_plan an_plan cd_plan ct_plan
      grow := grow
      growD := PySem.W.fnOf "grow" "grow" (defArgs sGrow) (defBody sGrow) (defScope sGrow) .none kV_grow dc_grow pm_grow an_grow cd_grow ct_grow
      state := state
      stateD := PySem.W.fnOf "state" "state" (defArgs sState) (defBody sState) (defScope sState) .none kV_state dc_state pm_state an_state cd_state ct_state
      done := done
      doneD := PySem.W.fnOf "done" "done" (defArgs sDone) (defBody sDone) (defScope sDone) .none kV_done dc_done pm_done an_done cd_done ct_done
      answer := answer
      answerD := PySem.W.fnOf "answer" "answer" (defArgs sAnswer) (defBody sAnswer) (defScope sAnswer) .none kV_answer dc_answer pm_answer an_answer cd_answer ct_answer
      answers := fa
      answersD := PySem.W.fnOf "answers" "answers" (defArgs sAnswers) (defBody sAnswers) (defScope sAnswers) .none kV_answers dc_answers pm_answers an_answers cd_answers ct_answers
      tNOTHING := tNOTHING
      tMOST_SOIL := tMOST_SOIL
      tMOST_REST := tMOST_REST
      tKINDS := tKINDS
      tNUMBERS := tNUMBERS
      tLAST_YEARS := tLAST_YEARS
      tMOST_CROPS := tMOST_CROPS
      tMOST_FIELDS := tMOST_FIELDS
      tMOST_PLAN := tMOST_PLAN
      tMOST_YEARS := tMOST_YEARS
      tSTART := tSTART } : Ad) := {
    clCC := ⟨pgCC, hdCC, poCC, saCC⟩
    gCC := PySem.W.mg_of X G aCC
    nCCneed := nCCneed
    nCCgives := nCCgives
    nCCrest := nCCrest
    nCCworth := nCCworth
    clCD := ⟨pgCD, hdCD, poCD, saCD⟩
    gCD := PySem.W.mg_of X G aCD
    nCDsoil := nCDsoil
    nCDsown := nCDsown
    nCDyears := nCDyears
    nCDbrought := nCDbrought
    clCF := ⟨pgCF, hdCF, poCF, saCF⟩
    gCF := PySem.W.mg_of X G aCF
    nCFcrops := nCFcrops
    nCFweathers := nCFweathers
    nCFfields := nCFfields
    nCFfound := nCFfound
    clCH := ⟨pgCH, hdCH, poCH, saCH⟩
    gCH := PySem.W.mg_of X G aCH
    nCHfarm := nCHfarm
    mkCC := ⟨mkCC, mcInit, icInit, kcCC⟩
    mkCD := ⟨mkCD, mdInit, idInit, kcCD⟩
    mkCF := ⟨mkCF, mfInit, ifInit, kcCF⟩
    mkCH := ⟨mkCH, mhInit, ihInit, kcCH⟩
    fCInit := F_cInit
    bCInit := B_cInit
    fCTold := F_cTold
    bCTold := B_cTold
    mCTold := ⟨mcTold, icTold, kcTold⟩
    fCHarv := F_cHarv
    bCHarv := B_cHarv
    mCHarv := ⟨mcHarv, icHarv, kcHarv⟩
    fCSoil := F_cSoil
    bCSoil := B_cSoil
    mCSoil := ⟨mcSoil, icSoil, kcSoil⟩
    fCFoll := F_cFoll
    bCFoll := B_cFoll
    mCFoll := ⟨mcFoll, icFoll, kcFoll⟩
    fCropsOf := F_cropsOf
    bCropsOf := B_cropsOf
    gCropsOf := PySem.W.mg_of X G mcropsOf
    fNoth := F_noth
    bNoth := B_noth
    gNoth := PySem.W.mg_of X G mnoth
    fDInit := F_dInit
    bDInit := B_dInit
    fDTold := F_dTold
    bDTold := B_dTold
    mDTold := ⟨mdTold, idTold, kdTold⟩
    fFInit := F_fInit
    bFInit := B_fInit
    fFMay := F_fMay
    bFMay := B_fMay
    mFMay := ⟨mfMay, ifMay, kfMay⟩
    fFLeast := F_fLeast
    bFLeast := B_fLeast
    mFLeast := ⟨mfLeast, ifLeast, kfLeast⟩
    fFBrings := F_fBrings
    bFBrings := B_fBrings
    mFBrings := ⟨mfBrings, ifBrings, kfBrings⟩
    fFChoice := F_fChoice
    bFChoice := B_fChoice
    mFChoice := ⟨mfChoice, ifChoice, kfChoice⟩
    fFProm := F_fProm
    bFProm := B_fProm
    mFProm := ⟨mfProm, ifProm, kfProm⟩
    fFGrow := F_fGrow
    bFGrow := B_fGrow
    mFGrow := ⟨mfGrow, ifGrow, kfGrow⟩
    fBehind := F_behind
    bBehind := B_behind
    gBehind := PySem.W.mg_of X G mbehind
    fRInit := F_rInit
    bRInit := B_rInit
    fHInit := F_hInit
    bHInit := B_hInit
    fNeed := F_need
    bNeed := B_need
    gNeed := PySem.W.mg_of X G mneed
    fStart := F_start
    bStart := B_start
    gStart := PySem.W.mg_of X G mstart
    fNewF := F_newF
    bNewF := B_newF
    gNewF := PySem.W.mg_of X G mnewF
    fFieldOf := F_fieldOf
    bFieldOf := B_fieldOf
    gFieldOf := PySem.W.mg_of X G mfieldOf
    fMay := F_may
    bMay := B_may
    gMay := PySem.W.mg_of X G mmay
    fPlan := F_plan
    bPlan := B_plan
    gPlan := PySem.W.mg_of X G mplan
    fGrow := F_grow
    bGrow := B_grow
    gGrow := PySem.W.mg_of X G mgrow
    fState := F_state
    bState := B_state
    gState := PySem.W.mg_of X G mstate
    fDone := F_done
    bDone := B_done
    gDone := PySem.W.mg_of X G mdone
    fAnswer := F_answer
    bAnswer := B_answer
    gAnswer := PySem.W.mg_of X G manswer
    fAnswers := F_answers
    bAnswers := B_answers
    gAnswers := PySem.W.mg_of X G manswers
    gCR := PySem.W.mg_of X G aCR
    ox := ⟨⟨nm, q, N, bs, _, sn, sub_, ab, col, dd, m0, m1, m2, m3, m5, xL, by decide +kernel⟩, saR, eR, tR, kR⟩
    xf := ⟨gaR, ggR, eR, hR⟩
    nCR := nbR
    iCR := mrInit
    tCR := tIR
    eCR := exm_self eR iR tR sR
    gNOTHING := PySem.W.mg_of X G gNOTHING
    gMOST_SOIL := PySem.W.mg_of X G gMOST_SOIL
    gMOST_REST := PySem.W.mg_of X G gMOST_REST
    gKINDS := PySem.W.mg_of X G gKINDS
    gNUMBERS := PySem.W.mg_of X G gNUMBERS
    gLAST_YEARS := PySem.W.mg_of X G gLAST_YEARS
    gMOST_CROPS := PySem.W.mg_of X G gMOST_CROPS
    gMOST_FIELDS := PySem.W.mg_of X G gMOST_FIELDS
    gMOST_PLAN := PySem.W.mg_of X G gMOST_PLAN
    gMOST_YEARS := PySem.W.mg_of X G gMOST_YEARS
    gSTART := PySem.W.mg_of X G gSTART
    zlen := PySem.W.mg_none_of X G zlen
    zrange := PySem.W.mg_none_of X G zrange
    zmin := PySem.W.mg_none_of X G zmin
    zmax := PySem.W.mg_none_of X G zmax
    zsorted := PySem.W.mg_none_of X G zsorted
    zlist := PySem.W.mg_none_of X G zlist
    zint := PySem.W.mg_none_of X G zint
    gWN := PySem.W.mg_of X G aWN
    sWN := fun H => .inr ⟨_, _, nW, lWN, rfl, rfl, (by show 6 ≤ sizeLine; decide), .cons (rvi _ _) (.cons (rvi _ _) (.cons (rvi _ _) (.cons (rvi _ _) (.cons (rvi _ _) (.cons (rvi _ _) (.nil))))))⟩ }
  exact ⟨PySem.W.fnOf "answers" "answers" (defArgs sAnswers) (defBody sAnswers) (defScope sAnswers) .none kV_answers dc_answers pm_answers an_answers cd_answers ct_answers, fun s us hu => match us, hu with | [_], _ => .of_eq rfl, fun base _ _ => ok_answers T⟩
end Yf
open PySem PySem.W PyProof.Rows
set_option maxRecDepth 100000 in
set_option maxHeartbeats 8000000 in
theorem PySem.Challenge.cw_yearfields_s01_answers_holds : PySem.Challenge.rw_yearfields_s01_answers.Holds := by
  w_on; k_headS; (case hw => exact ⟨[.list [.int 0, .int 1, .int 0, .int 6, .int 0, .int 0, .int 0, .int 0, .int 0, .int 0]], by decide +kernel, by decide +kernel⟩)
  k_fillS
  refine L2.walk_specK (r := PySem.Challenge.rw_yearfields_s01_answers) (k := 28) (CX := L2.CX0) (ps := ["calls"]) (sp := Yf.spAnswers) (by decide +kernel) rfl rfl ⟨rfl, by decide, by decide⟩ (fun w h Y => PySem.W.kIn_of Y) ?F ?S (fun _ _ _ _ z => z)
  case F =>
    intro w mg fa h Y KX G hmg
    refine' Yf.all_mk KX G hmg ?aCC ?aCD ?aCF ?aCH ?aCR ?pgCC ?hdCC ?poCC ?saCC ?mkCC ?kcCC ?nCCneed ?nCCgives ?nCCrest ?nCCworth ?pgCD ?hdCD ?poCD ?saCD ?mkCD ?kcCD ?nCDsoil ?nCDsown ?nCDyears ?nCDbrought ?pgCF ?hdCF ?poCF ?saCF ?mkCF ?kcCF ?nCFcrops ?nCFweathers ?nCFfields ?nCFfound ?pgCH ?hdCH ?poCH ?saCH ?mkCH ?kcCH ?nCHfarm ?mcInit ?icInit ?lcInit ?ccInit ?kcInit ?mcTold ?icTold ?lcTold ?ccTold ?kcTold ?mcHarv ?icHarv ?lcHarv ?ccHarv ?kcHarv ?mcSoil ?icSoil ?lcSoil ?ccSoil ?kcSoil ?mcFoll ?icFoll ?lcFoll ?ccFoll ?kcFoll ?mcropsOf ?lcropsOf ?ccropsOf ?kcropsOf ?mnoth ?lnoth ?cnoth ?knoth ?mdInit ?idInit ?ldInit ?cdInit ?kdInit ?mdTold ?idTold ?ldTold ?cdTold ?kdTold ?mfInit ?ifInit ?lfInit ?cfInit ?kfInit ?mfMay ?ifMay ?lfMay ?cfMay ?kfMay ?mfLeast ?ifLeast ?lfLeast ?cfLeast ?kfLeast ?mfBrings ?ifBrings ?lfBrings ?cfBrings ?kfBrings ?mfChoice ?ifChoice ?lfChoice ?cfChoice ?kfChoice ?mfProm ?ifProm ?lfProm ?cfProm ?kfProm ?mfGrow ?ifGrow ?lfGrow ?cfGrow ?kfGrow ?mbehind ?lbehind ?cbehind ?kbehind ?mrInit ?lrInit ?crInit ?krInit ?mhInit ?ihInit ?lhInit ?chInit ?khInit ?mneed ?lneed ?cneed ?kneed ?mstart ?lstart ?cstart ?kstart ?mnewF ?lnewF ?cnewF ?knewF ?mfieldOf ?lfieldOf ?cfieldOf ?kfieldOf ?mmay ?lmay ?cmay ?kmay ?mplan ?lplan ?cplan ?kplan ?mgrow ?lgrow ?cgrow ?kgrow ?mstate ?lstate ?cstate ?kstate ?mdone ?ldone ?cdone ?kdone ?manswer ?lanswer ?canswer ?kanswer ?manswers ?lanswers ?canswers ?kanswers ?xL ?saR ?gaR ?ggR ?nbR ?tIR ?kR ?eR ?tR ?hR ?iR ?sR ?gNOTHING ?gMOST_SOIL ?gMOST_REST ?gKINDS ?gNUMBERS ?gLAST_YEARS ?gMOST_CROPS ?gMOST_FIELDS ?gMOST_PLAN ?gMOST_YEARS ?gSTART ?zlen ?zrange ?zmin ?zmax ?zsorted ?zlist ?zint ?aWN ?lWN
    (case aCC => k_is)
    (case aCD => k_is)
    (case aCF => k_is)
    (case aCH => k_is)
    (case aCR => k_is)
    (case pgCC => k_is)
    (case hdCC => k_is)
    (case poCC => k_is)
    (case saCC => k_is)
    (case mkCC => k_is)
    (case kcCC => k_is)
    (case nCCneed => k_is)
    (case nCCgives => k_is)
    (case nCCrest => k_is)
    (case nCCworth => k_is)
    (case pgCD => k_is)
    (case hdCD => k_is)
    (case poCD => k_is)
    (case saCD => k_is)
    (case mkCD => k_is)
    (case kcCD => k_is)
    (case nCDsoil => k_is)
    (case nCDsown => k_is)
    (case nCDyears => k_is)
    (case nCDbrought => k_is)
    (case pgCF => k_is)
    (case hdCF => k_is)
    (case poCF => k_is)
    (case saCF => k_is)
    (case mkCF => k_is)
    (case kcCF => k_is)
    (case nCFcrops => k_is)
    (case nCFweathers => k_is)
    (case nCFfields => k_is)
    (case nCFfound => k_is)
    (case pgCH => k_is)
    (case hdCH => k_is)
    (case poCH => k_is)
    (case saCH => k_is)
    (case mkCH => k_is)
    (case kcCH => k_is)
    (case nCHfarm => k_is)
    (case mcInit => k_is)
    (case icInit => k_is)
    (case lcInit => k_is)
    (case ccInit => k_is)
    (case kcInit => k_is)
    (case mcTold => k_is)
    (case icTold => k_is)
    (case lcTold => k_is)
    (case ccTold => k_is)
    (case kcTold => k_is)
    (case mcHarv => k_is)
    (case icHarv => k_is)
    (case lcHarv => k_is)
    (case ccHarv => k_is)
    (case kcHarv => k_is)
    (case mcSoil => k_is)
    (case icSoil => k_is)
    (case lcSoil => k_is)
    (case ccSoil => k_is)
    (case kcSoil => k_is)
    (case mcFoll => k_is)
    (case icFoll => k_is)
    (case lcFoll => k_is)
    (case ccFoll => k_is)
    (case kcFoll => k_is)
    (case mcropsOf => k_is)
    (case lcropsOf => k_is)
    (case ccropsOf => k_is)
    (case kcropsOf => k_is)
    (case mnoth => k_is)
    (case lnoth => k_is)
    (case cnoth => k_is)
    (case knoth => k_is)
    (case mdInit => k_is)
    (case idInit => k_is)
    (case ldInit => k_is)
    (case cdInit => k_is)
    (case kdInit => k_is)
    (case mdTold => k_is)
    (case idTold => k_is)
    (case ldTold => k_is)
    (case cdTold => k_is)
    (case kdTold => k_is)
    (case mfInit => k_is)
    (case ifInit => k_is)
    (case lfInit => k_is)
    (case cfInit => k_is)
    (case kfInit => k_is)
    (case mfMay => k_is)
    (case ifMay => k_is)
    (case lfMay => k_is)
    (case cfMay => k_is)
    (case kfMay => k_is)
    (case mfLeast => k_is)
    (case ifLeast => k_is)
    (case lfLeast => k_is)
    (case cfLeast => k_is)
    (case kfLeast => k_is)
    (case mfBrings => k_is)
    (case ifBrings => k_is)
    (case lfBrings => k_is)
    (case cfBrings => k_is)
    (case kfBrings => k_is)
    (case mfChoice => k_is)
    (case ifChoice => k_is)
    (case lfChoice => k_is)
    (case cfChoice => k_is)
    (case kfChoice => k_is)
    (case mfProm => k_is)
    (case ifProm => k_is)
    (case lfProm => k_is)
    (case cfProm => k_is)
    (case kfProm => k_is)
    (case mfGrow => k_is)
    (case ifGrow => k_is)
    (case lfGrow => k_is)
    (case cfGrow => k_is)
    (case kfGrow => k_is)
    (case mbehind => k_is)
    (case lbehind => k_is)
    (case cbehind => k_is)
    (case kbehind => k_is)
    (case mrInit => k_is)
    (case lrInit => k_is)
    (case crInit => k_is)
    (case krInit => k_is)
    (case mhInit => k_is)
    (case ihInit => k_is)
    (case lhInit => k_is)
    (case chInit => k_is)
    (case khInit => k_is)
    (case mneed => k_is)
    (case lneed => k_is)
    (case cneed => k_is)
    (case kneed => k_is)
    (case mstart => k_is)
    (case lstart => k_is)
    (case cstart => k_is)
    (case kstart => k_is)
    (case mnewF => k_is)
    (case lnewF => k_is)
    (case cnewF => k_is)
    (case knewF => k_is)
    (case mfieldOf => k_is)
    (case lfieldOf => k_is)
    (case cfieldOf => k_is)
    (case kfieldOf => k_is)
    (case mmay => k_is)
    (case lmay => k_is)
    (case cmay => k_is)
    (case kmay => k_is)
    (case mplan => k_is)
    (case lplan => k_is)
    (case cplan => k_is)
    (case kplan => k_is)
    (case mgrow => k_is)
    (case lgrow => k_is)
    (case cgrow => k_is)
    (case kgrow => k_is)
    (case mstate => k_is)
    (case lstate => k_is)
    (case cstate => k_is)
    (case kstate => k_is)
    (case mdone => k_is)
    (case ldone => k_is)
    (case cdone => k_is)
    (case kdone => k_is)
    (case manswer => k_is)
    (case lanswer => k_is)
    (case canswer => k_is)
    (case kanswer => k_is)
    (case manswers => k_is)
    (case lanswers => k_is)
    (case canswers => k_is)
    (case kanswers => k_is)
    (case xL => k_is)
    (case saR => k_is)
    (case gaR => k_is)
    (case ggR => k_is)
    (case nbR => k_is)
    (case tIR => k_is)
    (case kR => k_is)
    (case eR => k_is)
    (case tR => k_is)
    (case hR => k_is)
    (case iR => k_is)
    (case sR => first | rfl | k_is)
    (case gNOTHING => k_is)
    (case gMOST_SOIL => k_is)
    (case gMOST_REST => k_is)
    (case gKINDS => k_is)
    (case gNUMBERS => k_is)
    (case gLAST_YEARS => k_is)
    (case gMOST_CROPS => k_is)
    (case gMOST_FIELDS => k_is)
    (case gMOST_PLAN => k_is)
    (case gMOST_YEARS => k_is)
    (case gSTART => k_is)
    (case zlen => k_is)
    (case zrange => k_is)
    (case zmin => k_is)
    (case zmax => k_is)
    (case zsorted => k_is)
    (case zlist => k_is)
    (case zint => k_is)
    (case aWN => k_is)
    (case lWN => k_is)
  case S =>
    intro K H xs a hO hwi hask hx
    cases hx with
    | cons h1 h2 =>
      cases h2
      cases h1 with
      | lst hs ha =>
        have e := L2.ints_dw a.1 _ ha
        subst e
        have q : ((Codec.inLen 0 30000 a.1 && a.1.all (Codec.inInt 0 4294967295)) && true) = true := hwi
        rw [Bool.and_eq_true, Bool.and_eq_true] at q
        exact ⟨_, a.1, rfl, hs, (Codec.inNat_iff.mp q.1.1).2, hask, fun H' p hp => .lst (L2.SqL.of hp) (L2.dw_ints _)⟩
#print axioms PySem.Challenge.cw_yearfields_s01_answers_holds
