import PyProof.Rows.All
import Wide.All
import OpenK.AllK
import Wide.FinOn
import HandS.ForMost
import HandS.AnyAll
import HandS.GenList
import KE.KDictDisplayH
import HandS.OwnEq
import HandS.SetFor
import HandS.Strs
import HandS.DictComp
import KE.GoesEnum
import HandS.IsInst
import HandS.Style
import HandS.TupAny
import HandS.Conv
import HandS.Deep
import HandS.EndTab
import HandS.EndOwn
import KE.KNestM
import PySem.Challenge.RW_starlands_k03_whole_hubs
/-! Islands, connected sets, the search by layers: plain mathematics, no program in sight. -/
set_option linter.all false
namespace Star

/-! ### lists -/
theorem nodup_len {α : Type} [DecidableEq α] : ∀ (l m : List α), l.Nodup → (∀ x ∈ l, x ∈ m) → l.length ≤ m.length
  | [], _, _, _ => Nat.zero_le _
  | a :: r, m, hn, hs => by
    rw [List.nodup_cons] at hn
    have ha : a ∈ m := hs a List.mem_cons_self
    have ih := nodup_len r (m.erase a) hn.2 fun x hx => (List.mem_erase_of_ne (fun e : x = a => hn.1 (by rw [← e]; exact hx))).mpr (hs x (List.mem_cons_of_mem _ hx))
    rw [List.length_erase_of_mem ha] at ih
    have hp : 0 < m.length := List.length_pos_of_mem ha
    rw [List.length_cons]
    omega
/-- a list without repeats, all in m, as long as m: it has all of m -/
theorem nodup_all {α : Type} [DecidableEq α] (l m : List α) (hl : l.Nodup) (hs : ∀ x ∈ l, x ∈ m) (hlen : m.length ≤ l.length) : ∀ x ∈ m, x ∈ l := by
  intro x hx
  by_cases h : x ∈ l
  · exact h
  · have q := nodup_len (x :: l) m (List.nodup_cons.mpr ⟨h, hl⟩) fun y hy => by
      rcases List.mem_cons.mp hy with e | hy
      · rw [e]; exact hx
      · exact hs y hy
    rw [List.length_cons] at q
    omega

/-! ### what is reached -/
inductive Reach {α : Type} (nx : α → List α) : α → α → Prop
  | refl (x : α) : Reach nx x x
  | step {x y z : α} : Reach nx x y → z ∈ nx y → Reach nx x z
theorem Reach.trans {α : Type} {nx : α → List α} {x y z : α} (a : Reach nx x y) (b : Reach nx y z) : Reach nx x z := by
  induction b with
  | refl => exact a
  | step _ h ih => exact .step ih h
theorem Reach.inv {α : Type} {nx : α → List α} {p : α → Prop} (hs : ∀ x y, p x → y ∈ nx x → p y) {x y : α} (h : Reach nx x y) (hx : p x) : p y := by
  induction h with
  | refl => exact hx
  | step _ h ih => exact hs _ _ ih h

/-! ### a search by layers -/
section
variable {α : Type} [DecidableEq α]
def addN (seen : List α) (m ys : List α) : List α := ys.foldl (fun m y => if y ∈ seen ∨ y ∈ m then m else m ++ [y]) m
def newOnes (nx : α → List α) (seen rows : List α) : List α := rows.foldl (fun m x => addN seen m (nx x)) []
theorem addN_nil (seen m : List α) : addN seen m [] = m := rfl
theorem addN_cons (seen m ys : List α) (y : α) : addN seen m (y :: ys) = addN seen (if y ∈ seen ∨ y ∈ m then m else m ++ [y]) ys := rfl
theorem addN_snoc (seen m ys : List α) (y : α) : addN seen m (ys ++ [y]) = if y ∈ seen ∨ y ∈ addN seen m ys then addN seen m ys else addN seen m ys ++ [y] := by
  unfold addN
  rw [List.foldl_append]
  rfl
theorem addN_spec (seen : List α) : ∀ (ys m : List α), (seen ++ m).Nodup → (seen ++ addN seen m ys).Nodup ∧ (∀ x ∈ m, x ∈ addN seen m ys) ∧ (∀ y ∈ ys, y ∈ seen ∨ y ∈ addN seen m ys) ∧ ∀ x ∈ addN seen m ys, x ∈ m ∨ x ∈ ys
  | [], m, h => ⟨h, fun _ hx => hx, fun _ hy => (nomatch hy), fun _ hx => .inl hx⟩
  | y :: ys, m, h => by
    rw [addN_cons]
    by_cases c : y ∈ seen ∨ y ∈ m
    · rw [if_pos c]
      obtain ⟨i1, i2, i3, i4⟩ := addN_spec seen ys m h
      refine ⟨i1, i2, fun z hz => ?_, fun x hx => ?_⟩
      · rcases List.mem_cons.mp hz with e | hz
        · rw [e]; exact c.imp_right (i2 y)
        · exact i3 z hz
      · exact (i4 x hx).imp_right (List.mem_cons_of_mem _)
    · rw [if_neg c]
      have hn : (seen ++ (m ++ [y])).Nodup := by
        rw [← List.append_assoc]
        refine List.nodup_append.mpr ⟨h, List.nodup_cons.mpr ⟨(fun z => nomatch z), List.nodup_nil⟩, fun a ha b hb e => ?_⟩
        rw [List.mem_singleton.mp hb] at e
        rw [e] at ha
        exact c (List.mem_append.mp ha)
      obtain ⟨i1, i2, i3, i4⟩ := addN_spec seen ys (m ++ [y]) hn
      refine ⟨i1, fun x hx => i2 x (List.mem_append_left _ hx), fun z hz => ?_, fun x hx => ?_⟩
      · rcases List.mem_cons.mp hz with e | hz
        · rw [e]; exact .inr (i2 y (List.mem_append_right _ List.mem_cons_self))
        · exact i3 z hz
      · rcases i4 x hx with z | z
        · rcases List.mem_append.mp z with z | z
          · exact .inl z
          · rw [List.mem_singleton.mp z]; exact .inr List.mem_cons_self
        · exact .inr (List.mem_cons_of_mem _ z)
theorem rows_spec (nx : α → List α) (seen : List α) : ∀ (rows m : List α), (seen ++ m).Nodup →
    (seen ++ rows.foldl (fun m x => addN seen m (nx x)) m).Nodup ∧ (∀ x ∈ m, x ∈ rows.foldl (fun m x => addN seen m (nx x)) m) ∧
      (∀ x ∈ rows, ∀ y ∈ nx x, y ∈ seen ∨ y ∈ rows.foldl (fun m x => addN seen m (nx x)) m) ∧ ∀ z ∈ rows.foldl (fun m x => addN seen m (nx x)) m, z ∈ m ∨ ∃ x ∈ rows, z ∈ nx x
  | [], m, h => ⟨h, fun _ hx => hx, fun _ hx => (nomatch hx), fun _ hz => .inl hz⟩
  | x :: r, m, h => by
    obtain ⟨a1, a2, a3, a4⟩ := addN_spec seen (nx x) m h
    obtain ⟨i1, i2, i3, i4⟩ := rows_spec nx seen r (addN seen m (nx x)) a1
    refine ⟨i1, fun z hz => i2 z (a2 z hz), fun z hz y hy => ?_, fun z hz => ?_⟩
    · rcases List.mem_cons.mp hz with e | hz
      · rw [e] at hy
        exact (a3 y hy).imp_right (i2 y)
      · exact i3 z hz y hy
    · rcases i4 z hz with q | ⟨w, hw, q⟩
      · rcases a4 z q with q | q
        · exact .inl q
        · exact .inr ⟨x, List.mem_cons_self, q⟩
      · exact .inr ⟨w, List.mem_cons_of_mem _ hw, q⟩
/-- amid a search from s0: what was seen; rows: the last layer, whose next ones are not looked at yet -/
structure BInv (nx : α → List α) (s0 : α) (seen rows : List α) : Prop where
  mem : s0 ∈ seen
  nd : seen.Nodup
  sub : ∀ x ∈ rows, x ∈ seen
  reach : ∀ x ∈ seen, Reach nx s0 x
  done : ∀ x ∈ seen, x ∉ rows → ∀ y ∈ nx x, y ∈ seen
theorem BInv.start (nx : α → List α) (s0 : α) : BInv nx s0 [s0] [s0] :=
  ⟨List.mem_cons_self, List.nodup_cons.mpr ⟨(fun z => nomatch z), List.nodup_nil⟩, fun _ h => h, fun x h => by rw [List.mem_singleton.mp h]; exact .refl _, fun x h n => absurd h n⟩
theorem BInv.nodup_new {nx : α → List α} {s0 : α} {seen rows : List α} (b : BInv nx s0 seen rows) : (seen ++ newOnes nx seen rows).Nodup :=
  (rows_spec nx seen rows [] (by rw [List.append_nil]; exact b.nd)).1
theorem BInv.turn {nx : α → List α} {s0 : α} {seen rows : List α} (b : BInv nx s0 seen rows) : BInv nx s0 (seen ++ newOnes nx seen rows) (newOnes nx seen rows) := by
  obtain ⟨i1, i2, i3, i4⟩ := rows_spec nx seen rows [] (by rw [List.append_nil]; exact b.nd)
  refine ⟨List.mem_append_left _ b.mem, i1, fun x hx => List.mem_append_right _ hx, fun x hx => ?_, fun x hx hn y hy => ?_⟩
  · rcases List.mem_append.mp hx with hx | hx
    · exact b.reach x hx
    · rcases i4 x hx with z | ⟨w, hw, z⟩
      · nomatch z
      · exact .step (b.reach w (b.sub w hw)) z
  · rcases List.mem_append.mp hx with hx | hx
    · by_cases hr : x ∈ rows
      · exact List.mem_append.mpr (i3 x hr y hy)
      · exact List.mem_append_left _ (b.done x hx hr y hy)
    · exact absurd hx hn
theorem BInv.end {nx : α → List α} {s0 : α} {seen : List α} (b : BInv nx s0 seen []) (x : α) : x ∈ seen ↔ Reach nx s0 x :=
  ⟨b.reach x, fun h => Reach.inv (p := fun y => y ∈ seen) (fun y z hy hz => b.done y hy (fun q => nomatch q) z hz) h b.mem⟩
/-- a measure of a search whose things are at most B -/
def meas (B : Nat) (seen rows : List α) : Nat := 2 * (B - seen.length) + (if rows = [] then 0 else 1)
theorem meas_turn {nx : α → List α} {s0 : α} {seen rows : List α} {B : Nat} (hr : rows ≠ []) (hB : (seen ++ newOnes nx seen rows).length ≤ B) : meas B (seen ++ newOnes nx seen rows) (newOnes nx seen rows) < meas B seen rows := by
  unfold meas
  rw [if_neg hr, List.length_append] at *
  cases e : newOnes nx seen rows with
  | nil => rw [if_pos rfl, List.length_nil]; omega
  | cons a r =>
    rw [if_neg (by simp)]
    rw [e] at hB
    rw [List.length_cons] at hB
    rw [List.length_cons]
    omega
end

/-! ### the island -/
def inner (L x : Nat) : Nat := if (x - 1) % L = 0 then 0 else x - 1
def near (A L x : Nat) : List Nat := if x = 0 then (List.range A).map (fun a => 1 + a * L) else inner L x :: (if (x - 1) % L + 1 < L then [x + 1] else [])
structure Isl (A L : Nat) : Prop where
  ha : A = 3 ∨ A = 4
  hl : L = 1 ∨ L = 2 ∨ L = 3
theorem Isl.all {A L : Nat} (h : Isl A L) {p : Nat → Nat → Prop} (h31 : p 3 1) (h32 : p 3 2) (h33 : p 3 3) (h41 : p 4 1) (h42 : p 4 2) (h43 : p 4 3) : p A L := by
  rcases h.ha with rfl | rfl <;> rcases h.hl with rfl | rfl | rfl <;> assumption
theorem near_sym {A L : Nat} (h : Isl A L) : ∀ x, x < A * L + 1 → ∀ y ∈ near A L x, x ∈ near A L y := by
  refine h.all (p := fun A L => ∀ x, x < A * L + 1 → ∀ y ∈ near A L x, x ∈ near A L y) ?_ ?_ ?_ ?_ ?_ ?_ <;> decide
theorem near_lt {A L : Nat} (h : Isl A L) : ∀ x, x < A * L + 1 → ∀ y ∈ near A L x, y < A * L + 1 := by
  refine h.all (p := fun A L => ∀ x, x < A * L + 1 → ∀ y ∈ near A L x, y < A * L + 1) ?_ ?_ ?_ ?_ ?_ ?_ <;> decide
theorem near_nodup {A L : Nat} (h : Isl A L) : ∀ x, x < A * L + 1 → (near A L x).Nodup := by
  refine h.all (p := fun A L => ∀ x, x < A * L + 1 → (near A L x).Nodup) ?_ ?_ ?_ ?_ ?_ ?_ <;> decide
/-- the tip of an arm touches one cell only -/
theorem near_tip {A L : Nat} (h : Isl A L) : ∀ a, a < A → near A L (a * L + L) = [inner L (a * L + L)] := by
  refine h.all (p := fun A L => ∀ a, a < A → near A L (a * L + L) = [inner L (a * L + L)]) ?_ ?_ ?_ ?_ ?_ ?_ <;> decide
/-- a cell of an arm touches the hub and cells of its arm alone -/
theorem near_arm {A L : Nat} (h : Isl A L) : ∀ a, a < A → ∀ s, s < L → ∀ y ∈ near A L (a * L + 1 + s), y = 0 ∨ ∃ t, t < L ∧ y = a * L + 1 + t := by
  refine h.all (p := fun A L => ∀ a, a < A → ∀ s, s < L → ∀ y ∈ near A L (a * L + 1 + s), y = 0 ∨ ∃ t, t < L ∧ y = a * L + 1 + t) ?_ ?_ ?_ ?_ ?_ ?_ <;> decide

/-! ### sets that hang together -/
def inS (A L : Nat) (S : List Nat) (x : Nat) : List Nat := (near A L x).filter fun y => decide (y ∈ S)
def Conn (A L : Nat) (S : List Nat) : Prop := S ≠ [] ∧ ∀ x ∈ S, ∀ y ∈ S, Reach (inS A L S) x y
theorem mem_inS {A L : Nat} {S : List Nat} {x y : Nat} : y ∈ inS A L S x ↔ y ∈ near A L x ∧ y ∈ S := by
  unfold inS
  rw [List.mem_filter, decide_eq_true_eq]
theorem Conn.congr {A L : Nat} {S T : List Nat} (h : ∀ x, x ∈ S ↔ x ∈ T) (c : Conn A L S) : Conn A L T := by
  have e : inS A L S = inS A L T := by
    funext x
    unfold inS
    exact List.filter_congr fun y _ => by rw [decide_eq_decide]; exact h y
  refine ⟨fun z => ?_, fun x hx y hy => ?_⟩
  · obtain ⟨x, hx⟩ := List.exists_mem_of_ne_nil S c.1
    rw [h x, z] at hx
    nomatch hx
  · rw [← e]
    exact c.2 x ((h x).mpr hx) y ((h y).mpr hy)
section
variable {A L : Nat} {S : List Nat} (hI : Isl A L) (hS : ∀ x ∈ S, x < A * L + 1)
include hI hS
theorem reach_in {x y : Nat} (h : Reach (inS A L S) x y) (hx : x ∈ S) : y ∈ S := Reach.inv (p := fun z => z ∈ S) (fun a b _ hb => (mem_inS.mp hb).2) h hx
theorem reach_sym {x y : Nat} (h : Reach (inS A L S) x y) (hx : x ∈ S) : Reach (inS A L S) y x := by
  induction h with
  | refl => exact .refl _
  | step h1 h2 ih =>
    rename_i y z
    obtain ⟨h3, h4⟩ := mem_inS.mp h2
    have hy := reach_in hI hS h1 hx
    exact Reach.trans (.step (.refl z) (mem_inS.mpr ⟨near_sym hI y (hS y hy) z h3, hy⟩)) ih
/-- from one on -/
theorem conn_of {h : Nat} (hh : h ∈ S) (r : ∀ x ∈ S, Reach (inS A L S) h x) : Conn A L S :=
  ⟨List.ne_nil_of_mem hh, fun x hx y hy => (reach_sym hI hS (r x hx) hh).trans (r y hy)⟩
/-- what the search finds in S: all of S, if S hangs together -/
theorem hang_end {h : Nat} {seen : List Nat} (hh : h ∈ S) (nd : S.Nodup) (b : BInv (inS A L S) h seen []) : seen.length = S.length ↔ Conn A L S := by
  have sub : ∀ x ∈ seen, x ∈ S := fun x hx => reach_in hI hS (b.reach x hx) hh
  constructor
  · intro e
    exact conn_of hI hS hh fun x hx => (b.end x).mp (nodup_all seen S b.nd sub (by omega) x hx)
  · intro c
    have h1 := nodup_len seen S b.nd sub
    have h2 := nodup_len S seen nd fun x hx => (b.end x).mpr (c.2 h hh x hx)
    omega
/-- whoever is not alone has someone beside -/
theorem conn_nbr (c : Conn A L S) {x z : Nat} (hx : x ∈ S) (hz : z ∈ S) (hne : z ≠ x) : ∃ y ∈ near A L x, y ∈ S := by
  have r := c.2 z hz x hx
  cases r with
  | refl => exact absurd rfl hne
  | step h1 h2 =>
    rename_i y
    have hy := reach_in hI hS h1 hz
    exact ⟨y, near_sym hI y (hS y hy) x (mem_inS.mp h2).1, hy⟩
end
/-- more may hang on -/
theorem Reach.mono {A L : Nat} {S T : List Nat} (h : ∀ x ∈ S, x ∈ T) {x y : Nat} (r : Reach (inS A L S) x y) : Reach (inS A L T) x y := by
  induction r with
  | refl => exact .refl _
  | step _ h2 ih =>
    obtain ⟨h3, h4⟩ := mem_inS.mp h2
    exact .step ih (mem_inS.mpr ⟨h3, h _ h4⟩)
/-- the program's layer: one cell's next ones by one -/
def addS (S seen m : List Nat) (y : Nat) : List Nat := if y ∈ S ∧ y ∉ seen ++ m then m ++ [y] else m
theorem addS_fold (S seen : List Nat) : ∀ (ys m : List Nat), ys.foldl (addS S seen) m = addN seen m (ys.filter fun y => decide (y ∈ S))
  | [], _ => rfl
  | y :: ys, m => by
    rw [List.foldl_cons, addS_fold S seen ys]
    by_cases h : y ∈ S
    · rw [List.filter_cons_of_pos (by simpa using h), addN_cons]
      unfold addS
      by_cases h2 : y ∈ seen ∨ y ∈ m
      · rw [if_pos h2, if_neg (by rw [List.mem_append]; exact fun z => z.2 h2)]
      · rw [if_neg h2, if_pos ⟨h, by rw [List.mem_append]; exact h2⟩]
    · rw [List.filter_cons_of_neg (by simpa using h)]
      unfold addS
      rw [if_neg fun z => h z.1]
/-- the law's layer: one cell's next ones at once -/
theorem addN_filter (S seen : List Nat) : ∀ (ys m : List Nat), ys.Nodup → addN seen m (ys.filter fun y => decide (y ∈ S)) = m ++ ys.filter fun y => decide (y ∈ S) && (!decide (y ∈ seen) && !decide (y ∈ m))
  | [], m, _ => by
    show m = m ++ []
    rw [List.append_nil]
  | y :: ys, m, hn => by
    rw [List.nodup_cons] at hn
    by_cases h : y ∈ S
    · rw [List.filter_cons_of_pos (by simpa using h), addN_cons]
      by_cases h2 : y ∈ seen ∨ y ∈ m
      · rw [if_pos h2, addN_filter S seen ys m hn.2, List.filter_cons_of_neg]
        rcases h2 with h2 | h2
        · simp [h2]
        · simp [h2]
      · rw [if_neg h2, addN_filter S seen ys _ hn.2, List.filter_cons_of_pos]
        · rw [List.append_assoc]
          congr 1
          show [y] ++ _ = y :: _
          rw [List.singleton_append]
          congr 1
          refine List.filter_congr fun z hz => ?_
          have hzy : z ≠ y := fun e => hn.1 (by rw [← e]; exact hz)
          have e1 : decide (z ∈ m ++ [y]) = decide (z ∈ m) := by
            rw [decide_eq_decide, List.mem_append, List.mem_singleton]
            exact ⟨fun q => q.elim id fun q => absurd q hzy, .inl⟩
          rw [e1]
        · have h3 : y ∉ seen := fun q => h2 (.inl q)
          have h4 : y ∉ m := fun q => h2 (.inr q)
          simp [h, h3, h4]
    · rw [List.filter_cons_of_neg (by simpa using h), addN_filter S seen ys m hn.2, List.filter_cons_of_neg]
      simp [h]
end Star
/-! Charts: takings keep a chart a chart, keep the tips; a frozen hub stays; how many charts there are. -/
set_option linter.all false
namespace Star

/-! ### charts -/
def cellsOf (c : List Nat) (o : Nat) : List Nat := (List.range c.length).filter fun i => decide (c.getD i 0 = o)
def rest (c : List Nat) (x : Nat) : List Nat := (cellsOf c (c.getD x 0)).filter fun i => decide (i ≠ x)
def Take (A L : Nat) (c : List Nat) (l x : Nat) : Prop := c.getD x 0 ≠ l ∧ (∃ y ∈ near A L x, c.getD y 0 = l) ∧ Conn A L (rest c x)
structure Valid (A L k : Nat) (c : List Nat) : Prop where
  len : c.length = A * L + 1
  lt : ∀ x ∈ c, x < k
  conn : ∀ o, o < k → Conn A L (cellsOf c o)
theorem mem_cellsOf {c : List Nat} {o i : Nat} : i ∈ cellsOf c o ↔ i < c.length ∧ c.getD i 0 = o := by
  unfold cellsOf
  rw [List.mem_filter, List.mem_range, decide_eq_true_eq]
theorem mem_rest {c : List Nat} {x i : Nat} : i ∈ rest c x ↔ (i < c.length ∧ c.getD i 0 = c.getD x 0) ∧ i ≠ x := by
  unfold rest
  rw [List.mem_filter, mem_cellsOf, decide_eq_true_eq]
theorem cellsOf_nodup (c : List Nat) (o : Nat) : (cellsOf c o).Nodup := List.Nodup.sublist List.filter_sublist List.nodup_range
theorem rest_nodup (c : List Nat) (x : Nat) : (rest c x).Nodup := List.Nodup.sublist List.filter_sublist (cellsOf_nodup _ _)
theorem getD_lt {c : List Nat} {k : Nat} (h : ∀ x ∈ c, x < k) {i : Nat} (hi : i < c.length) : c.getD i 0 < k := by
  rw [List.getD_eq_getElem?_getD, List.getElem?_eq_getElem hi]
  exact h _ (List.getElem_mem hi)
theorem getD_set {c : List Nat} {x l : Nat} (hx : x < c.length) (i : Nat) : (c.set x l).getD i 0 = if i = x then l else c.getD i 0 := by
  rw [List.getD_eq_getElem?_getD, List.getElem?_set]
  by_cases h : x = i
  · subst h
    rw [if_pos rfl, if_pos rfl, if_pos hx]
    rfl
  · rw [if_neg h, if_neg (Ne.symm h), List.getD_eq_getElem?_getD]
section
variable {A L k : Nat} {c : List Nat} (hI : Isl A L) (V : Valid A L k c)
include hI V
theorem Valid.step {l x : Nat} (hl : l < k) (hx : x < c.length) (t : Take A L c l x) : Valid A L k (c.set x l) := by
  obtain ⟨t1, ⟨y, hy, hyl⟩, t3⟩ := t
  have hxl : x < A * L + 1 := by rw [← V.len]; exact hx
  refine ⟨by rw [List.length_set]; exact V.len, fun z hz => ?_, fun o ho => ?_⟩
  · rcases List.mem_or_eq_of_mem_set hz with h | h
    · exact V.lt z h
    · rw [h]; exact hl
  · by_cases e1 : o = c.getD x 0
    · refine Conn.congr (fun i => ?_) t3
      rw [mem_rest, mem_cellsOf, List.length_set, getD_set hx, e1]
      constructor
      · intro ⟨⟨h1, h2⟩, h3⟩
        exact ⟨h1, by rw [if_neg h3]; exact h2⟩
      · intro ⟨h1, h2⟩
        by_cases h3 : i = x
        · rw [if_pos h3] at h2
          exact absurd h2.symm t1
        · rw [if_neg h3] at h2
          exact ⟨⟨h1, h2⟩, h3⟩
    · by_cases e2 : o = l
      · subst e2
        have hS : ∀ i ∈ cellsOf (c.set x o) o, i < A * L + 1 := fun i hi => by
          have q := (mem_cellsOf.mp hi).1
          rw [List.length_set, V.len] at q
          exact q
        have hsub : ∀ i ∈ cellsOf c o, i ∈ cellsOf (c.set x o) o := fun i hi => by
          obtain ⟨h1, h2⟩ := mem_cellsOf.mp hi
          refine mem_cellsOf.mpr ⟨by rw [List.length_set]; exact h1, ?_⟩
          rw [getD_set hx]
          by_cases h3 : i = x
          · rw [if_pos h3]
          · rw [if_neg h3]; exact h2
        have hyc : y < c.length := by rw [V.len]; exact near_lt hI x hxl y hy
        have hy0 : y ∈ cellsOf c o := mem_cellsOf.mpr ⟨hyc, hyl⟩
        have hx1 : x ∈ cellsOf (c.set x o) o := mem_cellsOf.mpr ⟨by rw [List.length_set]; exact hx, by rw [getD_set hx, if_pos rfl]⟩
        refine conn_of hI hS (hsub y hy0) fun i hi => ?_
        obtain ⟨h1, h2⟩ := mem_cellsOf.mp hi
        rw [List.length_set] at h1
        rw [getD_set hx] at h2
        by_cases h3 : i = x
        · subst h3
          exact .step (.refl y) (mem_inS.mpr ⟨near_sym hI i hxl y hy, hx1⟩)
        · rw [if_neg h3] at h2
          exact Reach.mono hsub ((V.conn o ho).2 y hy0 i (mem_cellsOf.mpr ⟨h1, h2⟩))
      · refine Conn.congr (fun i => ?_) (V.conn o ho)
        rw [mem_cellsOf, mem_cellsOf, List.length_set, getD_set hx]
        by_cases h3 : i = x
        · rw [if_pos h3, h3]
          exact ⟨fun q => absurd q.2.symm e1, fun q => absurd q.2.symm e2⟩
        · rw [if_neg h3]
theorem Take.notTip {l x : Nat} (hx : x < c.length) (t : Take A L c l x) {a : Nat} (ha : a < A) : x ≠ a * L + L := by
  intro e
  obtain ⟨t1, ⟨y, hy, hyl⟩, t3⟩ := t
  obtain ⟨z, hz⟩ := List.exists_mem_of_ne_nil _ t3.1
  obtain ⟨⟨hz1, hz2⟩, hz3⟩ := mem_rest.mp hz
  have hk : c.getD x 0 < k := getD_lt V.lt hx
  have hS : ∀ i ∈ cellsOf c (c.getD x 0), i < A * L + 1 := fun i hi => by rw [← V.len]; exact (mem_cellsOf.mp hi).1
  obtain ⟨w, hw, hw2⟩ := conn_nbr hI hS (V.conn _ hk) (mem_cellsOf.mpr ⟨hx, rfl⟩) (mem_cellsOf.mpr ⟨hz1, hz2⟩) hz3
  rw [e, near_tip hI a ha] at hy hw
  rw [List.mem_singleton] at hy hw
  rw [hw, ← hy] at hw2
  have q := (mem_cellsOf.mp hw2).2
  rw [hyl] at q
  exact t1 q.symm
end
/-! ### one taking on -/
def behind (c : List Nat) (t : Nat × Nat) : List Nat := c.set t.2 t.1
open Classical in
noncomputable def takesAt (A L : Nat) (c : List Nat) (l : Nat) : List (Nat × Nat) := ((List.range c.length).filter fun x => decide (Take A L c l x)).map fun x => (l, x)
noncomputable def takes (A L k : Nat) (c : List Nat) : List (Nat × Nat) := (List.range k).flatMap (takesAt A L c)
noncomputable def nxC (A L k : Nat) (c : List Nat) : List (List Nat) := (takes A L k c).map (behind c)
open Classical in
theorem mem_takes {A L k : Nat} {c : List Nat} {t : Nat × Nat} : t ∈ takes A L k c ↔ t.1 < k ∧ t.2 < c.length ∧ Take A L c t.1 t.2 := by
  unfold takes takesAt
  rw [List.mem_flatMap]
  constructor
  · intro ⟨l, hl, h⟩
    obtain ⟨x, hx, e⟩ := List.mem_map.mp h
    rw [List.mem_filter, List.mem_range, decide_eq_true_eq] at hx
    subst e
    exact ⟨List.mem_range.mp hl, hx.1, hx.2⟩
  · intro ⟨h1, h2, h3⟩
    refine ⟨t.1, List.mem_range.mpr h1, List.mem_map.mpr ⟨t.2, ?_, rfl⟩⟩
    rw [List.mem_filter, List.mem_range, decide_eq_true_eq]
    exact ⟨h2, h3⟩
theorem mem_nxC {A L k : Nat} {c d : List Nat} : d ∈ nxC A L k c ↔ ∃ l x, l < k ∧ x < c.length ∧ Take A L c l x ∧ d = c.set x l := by
  unfold nxC behind
  rw [List.mem_map]
  constructor
  · intro ⟨t, h, e⟩
    obtain ⟨h1, h2, h3⟩ := mem_takes.mp h
    exact ⟨t.1, t.2, h1, h2, h3, e.symm⟩
  · intro ⟨l, x, h1, h2, h3, e⟩
    exact ⟨(l, x), mem_takes.mpr ⟨h1, h2, h3⟩, e.symm⟩
section
variable {A L k : Nat} {c d : List Nat} (hI : Isl A L)
include hI
theorem Valid.reach (V : Valid A L k c) (r : Reach (nxC A L k) c d) : Valid A L k d :=
  Reach.inv (p := fun d => Valid A L k d) (fun x y hx hy => by
    obtain ⟨l, i, h1, h2, h3, rfl⟩ := mem_nxC.mp hy
    exact hx.step hI h1 h2 h3) r V
/-- the tips never change -/
theorem tips_same (V : Valid A L k c) (r : Reach (nxC A L k) c d) : ∀ a, a < A → d.getD (a * L + L) 0 = c.getD (a * L + L) 0 :=
  (Reach.inv (p := fun d => Valid A L k d ∧ ∀ a, a < A → d.getD (a * L + L) 0 = c.getD (a * L + L) 0) (fun x y hx hy => by
    obtain ⟨l, i, h1, h2, h3, rfl⟩ := mem_nxC.mp hy
    refine ⟨hx.1.step hI h1 h2 h3, fun a ha => ?_⟩
    rw [getD_set h2, if_neg (fun e => h3.notTip hI hx.1 h2 ha e.symm)]
    exact hx.2 a ha) r ⟨V, fun _ _ => rfl⟩).2
end
/-! ### frozen -/
def Bare (L : Nat) (c : List Nat) (a : Nat) : Prop := ∀ s, s < L → c.getD (a * L + 1 + s) 0 = c.getD 0 0
theorem arm_inj {L a b s t : Nat} (hs : s < L) (ht : t < L) (e : a * L + 1 + s = b * L + 1 + t) : a = b := by
  have e2 : a * L + s = b * L + t := by omega
  have h1 : (a * L + s) / L = a := by
    rw [Nat.mul_comm, Nat.mul_add_div (by omega), Nat.div_eq_of_lt hs, Nat.add_zero]
  have h2 : (b * L + t) / L = b := by
    rw [Nat.mul_comm, Nat.mul_add_div (by omega), Nat.div_eq_of_lt ht, Nat.add_zero]
  rw [← h1, ← h2, e2]
theorem arm_lt {A L a s : Nat} (ha : a < A) (hs : s < L) : a * L + 1 + s < A * L + 1 := by
  have h : (a + 1) * L ≤ A * L := Nat.mul_le_mul_right L ha
  rw [Nat.add_mul] at h
  omega
section
variable {A L k : Nat} {c d : List Nat} (hI : Isl A L)
include hI
theorem Isl.lpos : 0 < L := by rcases hI.hl with h | h | h <;> omega
theorem Take.notHub (V : Valid A L k c) {l x : Nat} (t : Take A L c l x) {a b : Nat} (ha : a < A) (hb : b < A) (hab : a ≠ b) (h1 : Bare L c a) (h2 : Bare L c b) : x ≠ 0 := by
  intro e
  subst e
  have hL := hI.lpos
  have m1 : a * L + 1 + 0 ∈ rest c 0 := mem_rest.mpr ⟨⟨by rw [V.len]; exact arm_lt ha hL, h1 0 hL⟩, by omega⟩
  have m2 : b * L + 1 + 0 ∈ rest c 0 := mem_rest.mpr ⟨⟨by rw [V.len]; exact arm_lt hb hL, h2 0 hL⟩, by omega⟩
  obtain ⟨s, hs, e⟩ := Reach.inv (p := fun y => ∃ s, s < L ∧ y = a * L + 1 + s) (fun y z ⟨s, hs, e⟩ hz => by
    obtain ⟨z1, z2⟩ := mem_inS.mp hz
    rw [e] at z1
    rcases near_arm hI a ha s hs z z1 with q | q
    · exact absurd q (mem_rest.mp z2).2
    · exact q) (t.2.2.2 _ m1 _ m2) ⟨0, hL, rfl⟩
  exact hab (arm_inj hs hL e.symm)
theorem Take.notBare {l x : Nat} (t : Take A L c l x) {a : Nat} (ha : a < A) (h1 : Bare L c a) : ∀ s, s < L → x ≠ a * L + 1 + s := by
  intro s hs e
  obtain ⟨t1, ⟨y, hy, hyl⟩, t3⟩ := t
  rw [e] at hy t1
  rw [h1 s hs] at t1
  rcases near_arm hI a ha s hs y hy with q | ⟨u, hu, q⟩
  · rw [q] at hyl
    exact t1 hyl
  · rw [q, h1 u hu] at hyl
    exact t1 hyl
/-- two bare arms: nobody takes the hub, ever -/
theorem frozen_hub (V : Valid A L k c) {a b : Nat} (ha : a < A) (hb : b < A) (hab : a ≠ b) (h1 : Bare L c a) (h2 : Bare L c b) (r : Reach (nxC A L k) c d) : d.getD 0 0 = c.getD 0 0 :=
  (Reach.inv (p := fun d => Valid A L k d ∧ Bare L d a ∧ Bare L d b ∧ d.getD 0 0 = c.getD 0 0) (fun x y ⟨i1, i2, i3, i4⟩ hy => by
    obtain ⟨l, i, g1, g2, g3, rfl⟩ := mem_nxC.mp hy
    have n0 := g3.notHub hI i1 ha hb hab i2 i3
    have e0 : (x.set i l).getD 0 0 = x.getD 0 0 := by rw [getD_set g2, if_neg (Ne.symm n0)]
    refine ⟨i1.step hI g1 g2 g3, fun s hs => ?_, fun s hs => ?_, by rw [e0]; exact i4⟩
    · rw [e0, getD_set g2, if_neg (Ne.symm (g3.notBare hI ha i2 s hs))]
      exact i2 s hs
    · rw [e0, getD_set g2, if_neg (Ne.symm (g3.notBare hI hb i3 s hs))]
      exact i3 s hs) r ⟨V, h1, h2, rfl⟩).2.2.2
end
/-! ### how many charts -/
def vec4 : Nat → List (List Nat)
  | 0 => [[]]
  | n + 1 => (vec4 n).map (0 :: ·) ++ ((vec4 n).map (1 :: ·) ++ ((vec4 n).map (2 :: ·) ++ (vec4 n).map (3 :: ·)))
theorem vec4_len : ∀ n, (vec4 n).length = 4 ^ n
  | 0 => rfl
  | n + 1 => by
    unfold vec4
    rw [List.length_append, List.length_append, List.length_append, List.length_map, List.length_map, List.length_map, List.length_map, vec4_len n, Nat.pow_succ]
    omega
theorem mem_vec4 : ∀ v : List Nat, (∀ x ∈ v, x < 4) → v ∈ vec4 v.length
  | [], _ => List.mem_cons_self
  | a :: v, h => by
    have ih := mem_vec4 v fun x hx => h x (List.mem_cons_of_mem _ hx)
    have ha := h a List.mem_cons_self
    rw [List.length_cons]
    unfold vec4
    simp only [List.mem_append, List.mem_map]
    have : a = 0 ∨ a = 1 ∨ a = 2 ∨ a = 3 := by omega
    rcases this with rfl | rfl | rfl | rfl
    · exact .inl ⟨v, ih, rfl⟩
    · exact .inr (.inl ⟨v, ih, rfl⟩)
    · exact .inr (.inr (.inl ⟨v, ih, rfl⟩))
    · exact .inr (.inr (.inr ⟨v, ih, rfl⟩))
def inCells (A L : Nat) : List Nat := (List.range (A * L + 1)).filter fun i => (List.range A).all fun a => i != a * L + L
theorem inCells_len {A L : Nat} (hI : Isl A L) : (inCells A L).length ≤ 9 := by
  refine hI.all (p := fun A L => (inCells A L).length ≤ 9) ?_ ?_ ?_ ?_ ?_ ?_ <;> decide
theorem pow_le9 {n : Nat} (h : n ≤ 9) : 4 ^ n ≤ 262144 := Nat.pow_le_pow_right (n := 4) (by decide) h
/-- charts with the same tips are few -/
theorem charts_few {A L k : Nat} (hI : Isl A L) (hk : k ≤ 4) (c : List Nat) (seen : List (List Nat)) (nd : seen.Nodup) (hv : ∀ d ∈ seen, Valid A L k d ∧ ∀ a, a < A → d.getD (a * L + L) 0 = c.getD (a * L + L) 0) : seen.length ≤ 262144 := by
  have inj : ∀ d ∈ seen, ∀ e ∈ seen, (inCells A L).map (fun i => d.getD i 0) = (inCells A L).map (fun i => e.getD i 0) → d = e := by
    intro d hd e he q
    obtain ⟨v1, t1⟩ := hv d hd
    obtain ⟨v2, t2⟩ := hv e he
    refine List.ext_getElem (by rw [v1.len, v2.len]) fun i h1 h2 => ?_
    have w : d.getD i 0 = e.getD i 0 := by
      by_cases m : i ∈ inCells A L
      · exact List.map_inj_left.mp q i m
      · have m2 : ∃ a, a < A ∧ i = a * L + L := by
          apply Classical.byContradiction
          intro n
          apply m
          unfold inCells
          refine List.mem_filter.mpr ⟨List.mem_range.mpr (by rw [← v1.len]; exact h1), List.all_eq_true.mpr fun a ha => ?_⟩
          exact bne_iff_ne.mpr fun z => n ⟨a, List.mem_range.mp ha, z⟩
        obtain ⟨a, ha, rfl⟩ := m2
        rw [t1 a ha, t2 a ha]
    rw [List.getD_eq_getElem?_getD, List.getD_eq_getElem?_getD, List.getElem?_eq_getElem h1, List.getElem?_eq_getElem h2] at w
    exact w
  have n2 : (seen.map fun d => (inCells A L).map fun i => d.getD i 0).Nodup := by
    clear hv
    induction seen with
    | nil => exact List.nodup_nil
    | cons a r ih =>
      rw [List.nodup_cons] at nd
      rw [List.map_cons, List.nodup_cons]
      refine ⟨fun z => ?_, ih nd.2 fun d hd e he => inj d (List.mem_cons_of_mem _ hd) e (List.mem_cons_of_mem _ he)⟩
      obtain ⟨e, he, q⟩ := List.mem_map.mp z
      have := inj e (List.mem_cons_of_mem _ he) a List.mem_cons_self q
      rw [this] at he
      exact nd.1 he
  have q := nodup_len _ (vec4 (inCells A L).length) n2 fun v hv2 => by
    obtain ⟨d, hd, e⟩ := List.mem_map.mp hv2
    subst e
    have w := mem_vec4 ((inCells A L).map fun i => d.getD i 0) fun x hx => by
      obtain ⟨i, hi, e⟩ := List.mem_map.mp hx
      subst e
      have hi2 := (List.mem_filter.mp hi).1
      rw [List.mem_range, ← (hv d hd).1.len] at hi2
      have := getD_lt (hv d hd).1.lt hi2
      omega
    rw [List.length_map] at w
    exact w
  rw [List.length_map, vec4_len] at q
  exact Nat.le_trans q (pow_le9 (inCells_len hI))
end Star
/-! Every map that is not frozen lets each land reach the hub: canonical maps by the kernel, the rest by renaming. -/
set_option linter.all false
namespace Star

/-! ### canonical maps -/
def stepI (p : Nat → Nat → Bool) (a : Nat) (st : List Nat × Nat × Nat) (s : Nat) : List Nat × Nat × Nat :=
  if p a s then (st.1 ++ [st.2.2], st.2.2, st.2.2 + 1) else (st.1 ++ [st.2.1], st.2.1, st.2.2)
def armI (L : Nat) (p : Nat → Nat → Bool) (st : List Nat × Nat) (a : Nat) : List Nat × Nat :=
  let r := (List.range L).foldl (stepI p a) (st.1, 0, st.2)
  (r.1, r.2.2)
def fillI (A L : Nat) (p : Nat → Nat → Bool) : List Nat × Nat := (List.range A).foldl (armI L p) ([0], 1)
def pOf (L : Nat) (b : List Bool) (a s : Nat) : Bool := b.getD (a * L + s) false
def vecs : Nat → Nat → List (List Bool)
  | 0, 0 => [[]]
  | 0, _ + 1 => []
  | n + 1, 0 => (vecs n 0).map (false :: ·)
  | n + 1, m + 1 => (vecs n (m + 1)).map (false :: ·) ++ (vecs n m).map (true :: ·)
theorem mem_vecs : ∀ (b : List Bool), b ∈ vecs b.length (b.count true)
  | [] => List.mem_cons_self
  | false :: b => by
    have ih := mem_vecs b
    rw [List.length_cons, List.count_cons_of_ne (by decide)]
    cases h : b.count true with
    | zero =>
      rw [h] at ih
      exact List.mem_map.mpr ⟨b, ih, rfl⟩
    | succ m =>
      rw [h] at ih
      exact List.mem_append_left _ (List.mem_map.mpr ⟨b, ih, rfl⟩)
  | true :: b => by
    have ih := mem_vecs b
    rw [List.length_cons, List.count_cons_self]
    exact List.mem_append_right _ (List.mem_map.mpr ⟨b, ih, rfl⟩)

/-! ### checks -/
def mem (x : Nat) : List Nat → Bool
  | [] => false
  | y :: r => Nat.beq x y || mem x r
theorem mem_iff {x : Nat} : ∀ {l : List Nat}, mem x l = true → x ∈ l
  | y :: r, h => by
    unfold mem at h
    rcases Bool.or_eq_true _ _ ▸ h with h | h
    · rw [Nat.eq_of_beq_eq_true h]; exact List.mem_cons_self
    · exact List.mem_cons_of_mem _ (mem_iff h)
def connB (L : Nat) : List Nat → Bool
  | [] => false
  | h :: r => r.all fun x => !Nat.beq x 0 && mem (inner L x) (h :: r)
def takeB (A L : Nat) (c : List Nat) (l x : Nat) : Bool := !Nat.beq (c.getD x 0) l && ((near A L x).any fun y => Nat.beq (c.getD y 0) l) && connB L (rest c x)
def validB (A L k : Nat) (c : List Nat) : Bool := Nat.beq c.length (A * L + 1) && c.all (fun x => Nat.blt x k) && (List.range k).all fun o => connB L (cellsOf c o)
def pathB (A L k j : Nat) : List Nat → List Nat → Bool
  | c, [] => Nat.beq (c.getD 0 0) j
  | c, s :: p => Nat.blt (s / 16) k && Nat.blt (s % 16) c.length && takeB A L c (s / 16) (s % 16) && pathB A L k j (c.set (s % 16) (s / 16)) p
def pathsB (A L k : Nat) (c : List Nat) : Nat → List (List Nat) → Bool
  | j, [] => Nat.beq j k
  | j, p :: r => pathB A L k j c p && pathsB A L k c (j + 1) r
def bareB (L : Nat) (c : List Nat) (a : Nat) : Bool := (List.range L).all fun s => Nat.beq (c.getD (a * L + 1 + s) 0) (c.getD 0 0)
def frozenB (A L : Nat) (c : List Nat) : Bool := Nat.ble 2 ((List.range A).filter (bareB L c)).length
def chk (A L k : Nat) : List (List Bool) → List (List (List Nat)) → Bool
  | [], _ => true
  | b :: bs, tab => let st := fillI A L (pOf L b)
    Nat.beq st.2 k && validB A L k st.1 && (if frozenB A L st.1 then chk A L k bs tab else match tab with
      | [] => false
      | p :: ps => pathsB A L k st.1 0 p && chk A L k bs ps)
theorem inner_near {A L : Nat} (hI : Isl A L) : ∀ x, x < A * L + 1 → x ≠ 0 → inner L x ∈ near A L x := by
  refine hI.all (p := fun A L => ∀ x, x < A * L + 1 → x ≠ 0 → inner L x ∈ near A L x) ?_ ?_ ?_ ?_ ?_ ?_ <;> decide
theorem inner_lt {L x : Nat} (h : x ≠ 0) : inner L x < x := by unfold inner; split <;> omega
theorem connB_ok {A L : Nat} (hI : Isl A L) {S : List Nat} (hS : ∀ x ∈ S, x < A * L + 1) (h : connB L S = true) : Conn A L S := by
  match S, hS, h with
  | h0 :: r, hS, h =>
    refine conn_of hI hS List.mem_cons_self fun x => ?_
    induction x using Nat.strongRecOn with
    | ind x ih =>
      intro hx
      rcases List.mem_cons.mp hx with e | hr
      · rw [e]; exact .refl _
      · have q := List.all_eq_true.mp h x hr
        rw [Bool.and_eq_true, Bool.not_eq_true'] at q
        have hx0 : x ≠ 0 := fun e => by rw [e] at q; exact absurd q.1 (by decide)
        have hm := mem_iff q.2
        have hn := inner_near hI x (hS x hx) hx0
        exact .step (ih _ (inner_lt hx0) hm) (mem_inS.mpr ⟨near_sym hI x (hS x hx) _ hn, hx⟩)
theorem takeB_ok {A L : Nat} (hI : Isl A L) {c : List Nat} {l x : Nat} (hc : c.length = A * L + 1) (h : takeB A L c l x = true) : Take A L c l x := by
  unfold takeB at h
  rw [Bool.and_eq_true, Bool.and_eq_true, Bool.not_eq_true'] at h
  obtain ⟨⟨h1, h2⟩, h3⟩ := h
  refine ⟨fun e => ?_, ?_, connB_ok hI (fun i hi => by rw [← hc]; exact (mem_rest.mp hi).1.1) h3⟩
  · rw [e, Nat.beq_refl] at h1
    exact absurd h1 (by decide)
  · obtain ⟨y, hy, e⟩ := List.any_eq_true.mp h2
    exact ⟨y, hy, Nat.eq_of_beq_eq_true e⟩
theorem blt_lt {a b : Nat} (h : Nat.blt a b = true) : a < b := Nat.le_of_ble_eq_true h
theorem validB_ok {A L k : Nat} (hI : Isl A L) {c : List Nat} (h : validB A L k c = true) : Valid A L k c := by
  unfold validB at h
  rw [Bool.and_eq_true, Bool.and_eq_true] at h
  obtain ⟨⟨h1, h2⟩, h3⟩ := h
  have e := Nat.eq_of_beq_eq_true h1
  refine ⟨e, fun x hx => blt_lt (List.all_eq_true.mp h2 x hx), fun o ho => connB_ok hI (fun i hi => by rw [← e]; exact (mem_cellsOf.mp hi).1) (List.all_eq_true.mp h3 o (List.mem_range.mpr ho))⟩
theorem pathB_ok {A L k j : Nat} (hI : Isl A L) : ∀ (p c : List Nat), c.length = A * L + 1 → pathB A L k j c p = true → ∃ d, Reach (nxC A L k) c d ∧ d.getD 0 0 = j
  | [], c, _, h => ⟨c, .refl c, Nat.eq_of_beq_eq_true h⟩
  | s :: p, c, hc, h => by
    unfold pathB at h
    rw [Bool.and_eq_true, Bool.and_eq_true, Bool.and_eq_true] at h
    obtain ⟨⟨⟨h1, h2⟩, h3⟩, h4⟩ := h
    obtain ⟨d, r, e⟩ := pathB_ok hI p _ (by rw [List.length_set]; exact hc) h4
    exact ⟨d, Reach.trans (.step (.refl c) (mem_nxC.mpr ⟨_, _, blt_lt h1, blt_lt h2, takeB_ok hI hc h3, rfl⟩)) r, e⟩
theorem pathsB_ok {A L k : Nat} (hI : Isl A L) {c : List Nat} (hc : c.length = A * L + 1) : ∀ (ps : List (List Nat)) (i : Nat), pathsB A L k c i ps = true → ∀ j, i ≤ j → j < k → ∃ d, Reach (nxC A L k) c d ∧ d.getD 0 0 = j
  | [], i, h, j, h1, h2 => by
    have := Nat.eq_of_beq_eq_true h
    omega
  | p :: r, i, h, j, h1, h2 => by
    unfold pathsB at h
    rw [Bool.and_eq_true] at h
    by_cases e : i = j
    · rw [← e]
      exact pathB_ok hI p c hc h.1
    · exact pathsB_ok hI hc r (i + 1) h.2 j (by omega) h2
theorem bareB_iff {L : Nat} {c : List Nat} {a : Nat} : bareB L c a = true ↔ Bare L c a := by
  unfold bareB Bare
  rw [List.all_eq_true]
  exact ⟨fun h s hs => Nat.eq_of_beq_eq_true (h s (List.mem_range.mpr hs)), fun h s hs => by rw [h s (List.mem_range.mp hs)]; exact Nat.beq_refl _⟩
def bares (A L : Nat) (c : List Nat) : List Nat := (List.range A).filter (bareB L c)
structure CanOk (A L k : Nat) (st : List Nat × Nat) : Prop where
  used : st.2 = k
  valid : Valid A L k st.1
  all : (bares A L st.1).length < 2 → ∀ j, j < k → ∃ d, Reach (nxC A L k) st.1 d ∧ d.getD 0 0 = j
theorem chk_ok {A L k : Nat} (hI : Isl A L) : ∀ (bs : List (List Bool)) (tab : List (List (List Nat))), chk A L k bs tab = true → ∀ b ∈ bs, CanOk A L k (fillI A L (pOf L b))
  | [], _, _, _, hb => nomatch hb
  | b0 :: bs, tab, h, b, hb => by
    unfold chk at h
    simp only [] at h
    rw [Bool.and_eq_true, Bool.and_eq_true] at h
    obtain ⟨⟨h1, h2⟩, h3⟩ := h
    have V := validB_ok hI h2
    have hu := Nat.eq_of_beq_eq_true h1
    by_cases f : frozenB A L (fillI A L (pOf L b0)).1 = true
    · rw [if_pos f] at h3
      rcases List.mem_cons.mp hb with e | hb
      · rw [e]
        refine ⟨hu, V, fun q => ?_⟩
        have := Nat.le_of_ble_eq_true f
        unfold bares at q
        omega
      · exact chk_ok hI bs tab h3 b hb
    · rw [if_neg f] at h3
      match tab, h3 with
      | p :: ps, h3 =>
        rw [Bool.and_eq_true] at h3
        rcases List.mem_cons.mp hb with e | hb
        · rw [e]
          exact ⟨hu, V, fun _ j hj => pathsB_ok hI V.len p 0 h3.1 j (Nat.zero_le j) hj⟩
        · exact chk_ok hI bs ps h3.2 b hb
def tab_3_1_2 : List (List (List Nat)) := []
def tab_3_2_2 : List (List (List Nat)) := []
def tab_3_2_3 : List (List (List Nat)) := [[[],[19,37,16],[19,37,32]],[[],[19,16],[19,32]],[[],[37,16],[37,32]],[[],[16],[32]],[[],[17,37,16],[17,37,32]],[[],[17,16],[17,32]],[[],[17,35,16],[17,35,32]],[[],[17,16],[17,32]],[[],[37,16],[37,32]],[[],[16],[32]],[[],[35,16],[35,32]],[[],[16],[32]]]
def tab_3_3_2 : List (List (List Nat)) := []
def tab_3_3_3 : List (List (List Nat)) := [[[],[21,20,40,39,16],[21,20,40,39,32]],[[],[21,20,39,16],[21,20,39,32]],[[],[21,20,16],[21,20,32]],[[],[20,40,39,16],[20,40,39,32]],[[],[20,39,16],[20,39,32]],[[],[20,16],[20,32]],[[],[40,39,16],[40,39,32]],[[],[39,16],[39,32]],[[],[16],[32]],[[],[18,17,40,39,16],[18,17,40,39,32]],[[],[18,17,39,16],[18,17,39,32]],[[],[18,17,16],[18,17,32]],[[],[18,17,37,36,16],[18,17,37,36,32]],[[],[18,17,36,16],[18,17,36,32]],[[],[18,17,16],[18,17,32]],[[],[17,40,39,16],[17,40,39,32]],[[],[17,39,16],[17,39,32]],[[],[17,16],[17,32]],[[],[17,37,36,16],[17,37,36,32]],[[],[17,36,16],[17,36,32]],[[],[17,16],[17,32]],[[],[40,39,16],[40,39,32]],[[],[39,16],[39,32]],[[],[16],[32]],[[],[37,36,16],[37,36,32]],[[],[36,16],[36,32]],[[],[16],[32]]]
def tab_3_3_4 : List (List (List Nat)) := [[[],[21,20,39,16],[21,20,39,32],[21,20,39,32,33,56,55,48]],[[],[21,20,16],[21,20,32],[21,20,32,33,56,55,48]],[[],[21,20,16],[21,20,32],[21,20,32,33,55,48]],[[],[20,39,16],[20,39,32],[20,39,32,33,56,55,48]],[[],[20,16],[20,32],[20,32,33,56,55,48]],[[],[20,16],[20,32],[20,32,33,55,48]],[[],[20,56,55,16],[20,37,56,55,16,17,36,32],[20,56,55,48]],[[],[20,55,16],[20,37,55,16,17,36,32],[20,55,48]],[[],[20,16],[20,16,17,37,36,32],[20,48]],[[],[39,16],[39,32],[39,32,33,56,55,48]],[[],[16],[32],[32,33,56,55,48]],[[],[16],[32],[32,33,55,48]],[[],[56,55,16],[37,56,55,16,17,36,32],[56,55,48]],[[],[55,16],[37,55,16,17,36,32],[55,48]],[[],[16],[16,17,37,36,32],[48]],[[],[56,55,16],[56,55,16,17,36,32],[56,55,48]],[[],[55,16],[55,16,17,36,32],[55,48]],[[],[16],[16,17,36,32],[48]],[[],[18,17,39,16],[18,17,39,32],[18,17,39,32,33,56,55,48]],[[],[18,17,16],[18,17,32],[18,17,32,33,56,55,48]],[[],[18,17,16],[18,17,32],[18,17,32,33,55,48]],[[],[18,17,37,36,16],[18,17,37,36,32],[18,17,56,55,48]],[[],[18,17,55,16],[37,36,55,32],[18,17,55,48]],[[],[18,17,16],[37,36,32],[18,17,48]],[[],[18,17,36,16],[18,17,36,32],[36,56,55,48]],[[],[18,17,36,16],[36,55,32],[36,55,48]],[[],[18,17,16],[36,32],[36,48]],[[],[18,17,36,16],[18,17,36,32],[18,17,36,32,33,53,52,48]],[[],[18,17,16],[18,17,32],[56,55,48]],[[],[18,17,16],[55,32],[55,48]],[[],[4,18,17,16],[32],[48]],[[],[18,17,16],[18,17,32],[18,17,32,33,53,52,48]],[[],[18,17,16],[18,17,32],[18,17,32,33,52,48]],[[],[17,39,16],[17,39,32],[17,39,32,33,56,55,48]],[[],[17,16],[17,32],[17,32,33,56,55,48]],[[],[17,16],[17,32],[17,32,33,55,48]],[[],[17,37,36,16],[17,37,36,32],[17,56,55,48]],[[],[17,55,16],[17,37,36,32],[17,55,48]],[[],[17,16],[37,36,32],[17,48]],[[],[17,36,16],[17,36,32],[17,56,55,48]],[[],[17,36,16],[17,36,32],[17,55,48]],[[],[17,16],[36,32],[17,48]],[[],[17,36,16],[17,36,32],[17,36,32,33,53,52,48]],[[],[17,16],[17,32],[56,55,48]],[[],[17,16],[17,32],[55,48]],[[],[4,17,16],[32],[48]],[[],[17,16],[17,32],[17,32,33,53,52,48]],[[],[17,16],[17,32],[17,32,33,52,48]],[[],[17,56,55,16],[17,34,56,55,16,20,33,32],[17,56,55,48]],[[],[17,55,16],[17,34,55,16,20,33,32],[17,55,48]],[[],[17,16],[17,16,20,34,33,32],[17,48]],[[],[17,53,52,16],[17,34,53,52,16,20,33,32],[17,53,52,48]],[[],[17,52,16],[17,34,52,16,20,33,32],[17,52,48]],[[],[17,16],[17,16,20,34,33,32],[17,48]],[[],[39,16],[39,32],[39,32,33,56,55,48]],[[],[16],[32],[32,33,56,55,48]],[[],[16],[32],[32,33,55,48]],[[],[37,36,16],[37,36,32],[56,55,48]],[[],[55,16],[37,36,32],[55,48]],[[],[16],[1,37,36,32],[48]],[[],[36,16],[36,32],[56,55,48]],[[],[36,16],[36,32],[55,48]],[[],[16],[1,36,32],[48]],[[],[36,16],[36,32],[36,32,33,53,52,48]],[[],[16],[32],[1,56,55,48]],[[],[16],[32],[1,55,48]],[[],[4,16],[1,32],[1,48]],[[],[16],[32],[32,33,53,52,48]],[[],[16],[32],[32,33,52,48]],[[],[56,55,16],[34,56,55,16,20,33,32],[56,55,48]],[[],[55,16],[34,55,16,20,33,32],[55,48]],[[],[16],[16,20,34,33,32],[48]],[[],[53,52,16],[34,53,52,16,20,33,32],[53,52,48]],[[],[52,16],[34,52,16,20,33,32],[52,48]],[[],[16],[16,20,34,33,32],[48]],[[],[56,55,16],[56,55,16,20,33,32],[56,55,48]],[[],[55,16],[55,16,20,33,32],[55,48]],[[],[16],[16,20,33,32],[48]],[[],[53,52,16],[53,52,16,20,33,32],[53,52,48]],[[],[52,16],[52,16,20,33,32],[52,48]],[[],[16],[16,20,33,32],[48]]]
def tab_4_1_2 : List (List (List Nat)) := []
def tab_4_2_2 : List (List (List Nat)) := []
def tab_4_2_3 : List (List (List Nat)) := []
def tab_4_3_2 : List (List (List Nat)) := []
def tab_4_3_3 : List (List (List Nat)) := []
def tab_4_3_4 : List (List (List Nat)) := [[[],[21,20,40,39,59,58,16],[21,20,40,39,59,58,32],[21,20,40,39,59,58,48]],[[],[21,20,40,39,58,16],[21,20,40,39,58,32],[21,20,40,39,58,48]],[[],[21,20,40,39,16],[21,20,40,39,32],[21,20,40,39,48]],[[],[21,20,39,59,58,16],[21,20,39,59,58,32],[21,20,39,59,58,48]],[[],[21,20,39,58,16],[21,20,39,58,32],[21,20,39,58,48]],[[],[21,20,39,16],[21,20,39,32],[21,20,39,48]],[[],[21,20,59,58,16],[21,20,59,58,32],[21,20,59,58,48]],[[],[21,20,58,16],[21,20,58,32],[21,20,58,48]],[[],[21,20,16],[21,20,32],[21,20,48]],[[],[20,40,39,59,58,16],[20,40,39,59,58,32],[20,40,39,59,58,48]],[[],[20,40,39,58,16],[20,40,39,58,32],[20,40,39,58,48]],[[],[20,40,39,16],[20,40,39,32],[20,40,39,48]],[[],[20,39,59,58,16],[20,39,59,58,32],[20,39,59,58,48]],[[],[20,39,58,16],[20,39,58,32],[20,39,58,48]],[[],[20,39,16],[20,39,32],[20,39,48]],[[],[20,59,58,16],[20,59,58,32],[20,59,58,48]],[[],[20,58,16],[20,58,32],[20,58,48]],[[],[20,16],[20,32],[20,48]],[[],[40,39,59,58,16],[40,39,59,58,32],[40,39,59,58,48]],[[],[40,39,58,16],[40,39,58,32],[40,39,58,48]],[[],[40,39,16],[40,39,32],[40,39,48]],[[],[39,59,58,16],[39,59,58,32],[39,59,58,48]],[[],[39,58,16],[39,58,32],[39,58,48]],[[],[39,16],[39,32],[39,48]],[[],[59,58,16],[59,58,32],[59,58,48]],[[],[58,16],[58,32],[58,48]],[[],[16],[32],[48]],[[],[18,17,40,39,59,58,16],[18,17,40,39,59,58,32],[18,17,40,39,59,58,48]],[[],[18,17,40,39,58,16],[18,17,40,39,58,32],[18,17,40,39,58,48]],[[],[18,17,40,39,16],[18,17,40,39,32],[18,17,40,39,48]],[[],[18,17,39,59,58,16],[18,17,39,59,58,32],[18,17,39,59,58,48]],[[],[18,17,39,58,16],[18,17,39,58,32],[18,17,39,58,48]],[[],[18,17,39,16],[18,17,39,32],[18,17,39,48]],[[],[18,17,59,58,16],[18,17,59,58,32],[18,17,59,58,48]],[[],[18,17,58,16],[18,17,58,32],[18,17,58,48]],[[],[18,17,16],[18,17,32],[18,17,48]],[[],[18,17,37,36,59,58,16],[18,17,37,36,59,58,32],[18,17,37,36,59,58,48]],[[],[18,17,37,36,58,16],[18,17,37,36,58,32],[18,17,37,36,58,48]],[[],[18,17,37,36,16],[18,17,37,36,32],[18,17,37,36,48]],[[],[18,17,37,36,56,55,16],[18,17,37,36,56,55,32],[18,17,37,36,56,55,48]],[[],[18,17,37,36,55,16],[18,17,37,36,55,32],[18,17,37,36,55,48]],[[],[18,17,37,36,16],[18,17,37,36,32],[18,17,37,36,48]],[[],[18,17,36,59,58,16],[18,17,36,59,58,32],[18,17,36,59,58,48]],[[],[18,17,36,58,16],[18,17,36,58,32],[18,17,36,58,48]],[[],[18,17,36,16],[18,17,36,32],[18,17,36,48]],[[],[18,17,36,56,55,16],[18,17,36,56,55,32],[18,17,36,56,55,48]],[[],[18,17,36,55,16],[18,17,36,55,32],[18,17,36,55,48]],[[],[18,17,36,16],[18,17,36,32],[18,17,36,48]],[[],[18,17,59,58,16],[18,17,59,58,32],[18,17,59,58,48]],[[],[18,17,58,16],[18,17,58,32],[18,17,58,48]],[[],[18,17,16],[18,17,32],[18,17,48]],[[],[18,17,56,55,16],[18,17,56,55,32],[18,17,56,55,48]],[[],[18,17,55,16],[18,17,55,32],[18,17,55,48]],[[],[18,17,16],[18,17,32],[18,17,48]],[[],[17,40,39,59,58,16],[17,40,39,59,58,32],[17,40,39,59,58,48]],[[],[17,40,39,58,16],[17,40,39,58,32],[17,40,39,58,48]],[[],[17,40,39,16],[17,40,39,32],[17,40,39,48]],[[],[17,39,59,58,16],[17,39,59,58,32],[17,39,59,58,48]],[[],[17,39,58,16],[17,39,58,32],[17,39,58,48]],[[],[17,39,16],[17,39,32],[17,39,48]],[[],[17,59,58,16],[17,59,58,32],[17,59,58,48]],[[],[17,58,16],[17,58,32],[17,58,48]],[[],[17,16],[17,32],[17,48]],[[],[17,37,36,59,58,16],[17,37,36,59,58,32],[17,37,36,59,58,48]],[[],[17,37,36,58,16],[17,37,36,58,32],[17,37,36,58,48]],[[],[17,37,36,16],[17,37,36,32],[17,37,36,48]],[[],[17,37,36,56,55,16],[17,37,36,56,55,32],[17,37,36,56,55,48]],[[],[17,37,36,55,16],[17,37,36,55,32],[17,37,36,55,48]],[[],[17,37,36,16],[17,37,36,32],[17,37,36,48]],[[],[17,36,59,58,16],[17,36,59,58,32],[17,36,59,58,48]],[[],[17,36,58,16],[17,36,58,32],[17,36,58,48]],[[],[17,36,16],[17,36,32],[17,36,48]],[[],[17,36,56,55,16],[17,36,56,55,32],[17,36,56,55,48]],[[],[17,36,55,16],[17,36,55,32],[17,36,55,48]],[[],[17,36,16],[17,36,32],[17,36,48]],[[],[17,59,58,16],[17,59,58,32],[17,59,58,48]],[[],[17,58,16],[17,58,32],[17,58,48]],[[],[17,16],[17,32],[17,48]],[[],[17,56,55,16],[17,56,55,32],[17,56,55,48]],[[],[17,55,16],[17,55,32],[17,55,48]],[[],[17,16],[17,32],[17,48]],[[],[40,39,59,58,16],[40,39,59,58,32],[40,39,59,58,48]],[[],[40,39,58,16],[40,39,58,32],[40,39,58,48]],[[],[40,39,16],[40,39,32],[40,39,48]],[[],[39,59,58,16],[39,59,58,32],[39,59,58,48]],[[],[39,58,16],[39,58,32],[39,58,48]],[[],[39,16],[39,32],[39,48]],[[],[59,58,16],[59,58,32],[59,58,48]],[[],[58,16],[58,32],[58,48]],[[],[16],[32],[48]],[[],[37,36,59,58,16],[37,36,59,58,32],[37,36,59,58,48]],[[],[37,36,58,16],[37,36,58,32],[37,36,58,48]],[[],[37,36,16],[37,36,32],[37,36,48]],[[],[37,36,56,55,16],[37,36,56,55,32],[37,36,56,55,48]],[[],[37,36,55,16],[37,36,55,32],[37,36,55,48]],[[],[37,36,16],[37,36,32],[37,36,48]],[[],[36,59,58,16],[36,59,58,32],[36,59,58,48]],[[],[36,58,16],[36,58,32],[36,58,48]],[[],[36,16],[36,32],[36,48]],[[],[36,56,55,16],[36,56,55,32],[36,56,55,48]],[[],[36,55,16],[36,55,32],[36,55,48]],[[],[36,16],[36,32],[36,48]],[[],[59,58,16],[59,58,32],[59,58,48]],[[],[58,16],[58,32],[58,48]],[[],[16],[32],[48]],[[],[56,55,16],[56,55,32],[56,55,48]],[[],[55,16],[55,32],[55,48]],[[],[16],[32],[48]]]
theorem chk_312 : chk 3 1 2 (vecs 3 1) tab_3_1_2 = true := by decide +kernel
theorem chk_322 : chk 3 2 2 (vecs 6 1) tab_3_2_2 = true := by decide +kernel
theorem chk_323 : chk 3 2 3 (vecs 6 2) tab_3_2_3 = true := by decide +kernel
theorem chk_332 : chk 3 3 2 (vecs 9 1) tab_3_3_2 = true := by decide +kernel
theorem chk_333 : chk 3 3 3 (vecs 9 2) tab_3_3_3 = true := by decide +kernel
theorem chk_334 : chk 3 3 4 (vecs 9 3) tab_3_3_4 = true := by decide +kernel
theorem chk_412 : chk 4 1 2 (vecs 4 1) tab_4_1_2 = true := by decide +kernel
theorem chk_422 : chk 4 2 2 (vecs 8 1) tab_4_2_2 = true := by decide +kernel
theorem chk_423 : chk 4 2 3 (vecs 8 2) tab_4_2_3 = true := by decide +kernel
theorem chk_432 : chk 4 3 2 (vecs 12 1) tab_4_3_2 = true := by decide +kernel
theorem chk_433 : chk 4 3 3 (vecs 12 2) tab_4_3_3 = true := by decide +kernel
theorem chk_434 : chk 4 3 4 (vecs 12 3) tab_4_3_4 = true := by decide +kernel
theorem can_ok {A L k : Nat} (hI : Isl A L) (h2 : 2 ≤ k) (hk : k ≤ L + 1) (b : List Bool) (hb : b.length = A * L) (hc : b.count true + 1 = k) : CanOk A L k (fillI A L (pOf L b)) := by
  have m := mem_vecs b
  have e : b.count true = k - 1 := by omega
  rw [hb, e] at m
  obtain ⟨ha, hl⟩ := hI
  rcases ha with rfl | rfl
  · rcases hl with rfl | rfl | rfl
    · obtain rfl : k = 2 := by omega
      exact chk_ok ⟨.inl rfl, .inl rfl⟩ _ _ chk_312 b m
    · have : k = 2 ∨ k = 3 := by omega
      rcases this with rfl | rfl
      · exact chk_ok ⟨.inl rfl, .inr (.inl rfl)⟩ _ _ chk_322 b m
      · exact chk_ok ⟨.inl rfl, .inr (.inl rfl)⟩ _ _ chk_323 b m
    · have : k = 2 ∨ k = 3 ∨ k = 4 := by omega
      rcases this with rfl | rfl | rfl
      · exact chk_ok ⟨.inl rfl, .inr (.inr rfl)⟩ _ _ chk_332 b m
      · exact chk_ok ⟨.inl rfl, .inr (.inr rfl)⟩ _ _ chk_333 b m
      · exact chk_ok ⟨.inl rfl, .inr (.inr rfl)⟩ _ _ chk_334 b m
  · rcases hl with rfl | rfl | rfl
    · obtain rfl : k = 2 := by omega
      exact chk_ok ⟨.inr rfl, .inl rfl⟩ _ _ chk_412 b m
    · have : k = 2 ∨ k = 3 := by omega
      rcases this with rfl | rfl
      · exact chk_ok ⟨.inr rfl, .inr (.inl rfl)⟩ _ _ chk_422 b m
      · exact chk_ok ⟨.inr rfl, .inr (.inl rfl)⟩ _ _ chk_423 b m
    · have : k = 2 ∨ k = 3 ∨ k = 4 := by omega
      rcases this with rfl | rfl | rfl
      · exact chk_ok ⟨.inr rfl, .inr (.inr rfl)⟩ _ _ chk_432 b m
      · exact chk_ok ⟨.inr rfl, .inr (.inr rfl)⟩ _ _ chk_433 b m
      · exact chk_ok ⟨.inr rfl, .inr (.inr rfl)⟩ _ _ chk_434 b m
end Star
/-! From cuts and an order of lands to a map, and what is true of it. -/
set_option linter.all false
namespace Star

/-! ### filling: the parts -/
/-- after a arms -/
def pre (L : Nat) (p : Nat → Nat → Bool) (a : Nat) : List Nat × Nat := (List.range a).foldl (armI L p) ([0], 1)
/-- amid arm a, after s steps -/
def mid (L : Nat) (p : Nat → Nat → Bool) (a s : Nat) : List Nat × Nat × Nat := (List.range s).foldl (stepI p a) ((pre L p a).1, 0, (pre L p a).2)
theorem pre_zero (L : Nat) (p : Nat → Nat → Bool) : pre L p 0 = ([0], 1) := rfl
theorem mid_zero (L : Nat) (p : Nat → Nat → Bool) (a : Nat) : mid L p a 0 = ((pre L p a).1, 0, (pre L p a).2) := rfl
theorem mid_succ (L : Nat) (p : Nat → Nat → Bool) (a s : Nat) : mid L p a (s + 1) = stepI p a (mid L p a s) s := by
  unfold mid
  rw [List.range_succ, List.foldl_append]
  rfl
theorem pre_succ (L : Nat) (p : Nat → Nat → Bool) (a : Nat) : pre L p (a + 1) = ((mid L p a L).1, (mid L p a L).2.2) := by
  unfold pre
  rw [List.range_succ, List.foldl_append]
  rfl
theorem pre_fill (A L : Nat) (p : Nat → Nat → Bool) : pre L p A = fillI A L p := rfl
theorem mid_mono (L : Nat) (p : Nat → Nat → Bool) (a s : Nat) : ∀ t, (mid L p a s).2.2 ≤ (mid L p a (s + t)).2.2
  | 0 => Nat.le_refl _
  | t + 1 => by
    have := mid_mono L p a s t
    rw [← Nat.add_assoc, mid_succ]
    unfold stepI
    split
    · exact Nat.le_succ_of_le this
    · exact this
theorem pre_mono (L : Nat) (p : Nat → Nat → Bool) (a : Nat) : ∀ t, (pre L p a).2 ≤ (pre L p (a + t)).2
  | 0 => Nat.le_refl _
  | t + 1 => by
    have := pre_mono L p a t
    rw [← Nat.add_assoc, pre_succ]
    have m := mid_mono L p (a + t) 0 L
    rw [mid_zero, Nat.zero_add] at m
    exact Nat.le_trans this m
theorem used_lt {A L : Nat} {p : Nat → Nat → Bool} {a s : Nat} (ha : a < A) (hs : s < L) (h : p a s = true) : (mid L p a s).2.2 < (fillI A L p).2 := by
  have m1 := mid_mono L p a (s + 1) (L - (s + 1))
  rw [Nat.add_sub_cancel' hs, mid_succ] at m1
  unfold stepI at m1
  rw [if_pos h] at m1
  have m2 := pre_mono L p (a + 1) (A - (a + 1))
  rw [Nat.add_sub_cancel' ha, pre_succ] at m2
  exact Nat.lt_of_lt_of_le m1 m2
theorem mid_congr {L : Nat} {p q : Nat → Nat → Bool} {a : Nat} (hp : pre L p a = pre L q a) (h : ∀ s, s < L → p a s = q a s) : ∀ s, s ≤ L → mid L p a s = mid L q a s
  | 0, _ => by rw [mid_zero, mid_zero, hp]
  | s + 1, hs => by
    rw [mid_succ, mid_succ, mid_congr hp h s (by omega)]
    unfold stepI
    rw [h s hs]
theorem pre_congr {L : Nat} {p q : Nat → Nat → Bool} : ∀ a, (∀ b, b < a → ∀ s, s < L → p b s = q b s) → pre L p a = pre L q a
  | 0, _ => rfl
  | a + 1, h => by
    rw [pre_succ, pre_succ, mid_congr (pre_congr a fun b hb => h b (by omega)) (h a (by omega)) L (Nat.le_refl _)]

/-! ### cuts -/
def cutP (cuts : List (Nat × Nat)) (a s : Nat) : Bool := decide ((a, s) ∈ cuts)
def cutB (A L : Nat) (cuts : List (Nat × Nat)) : List Bool := (List.range (A * L)).map fun i => decide ((i / L, i % L) ∈ cuts)
theorem arm_div {L a s : Nat} (hs : s < L) : (a * L + s) / L = a := by
  rw [Nat.mul_comm, Nat.mul_add_div (by omega), Nat.div_eq_of_lt hs, Nat.add_zero]
theorem arm_mod {L a s : Nat} (hs : s < L) : (a * L + s) % L = s := by
  rw [Nat.mul_comm, Nat.mul_add_mod, Nat.mod_eq_of_lt hs]
theorem cut_pOf {A L : Nat} (cuts : List (Nat × Nat)) {a s : Nat} (ha : a < A) (hs : s < L) : pOf L (cutB A L cuts) a s = cutP cuts a s := by
  have h1 : a * L + s < A * L := by
    have := arm_lt (A := A) ha hs
    omega
  unfold pOf cutB cutP
  rw [List.getD_eq_getElem?_getD, List.getElem?_map, List.getElem?_range h1]
  show decide (((a * L + s) / L, (a * L + s) % L) ∈ cuts) = _
  rw [arm_div hs, arm_mod hs]
theorem cut_count {A L : Nat} (cuts : List (Nat × Nat)) (nd : cuts.Nodup) (hc : ∀ c ∈ cuts, c.1 < A ∧ c.2 < L) : (cutB A L cuts).count true = cuts.length := by
  have e : (cutB A L cuts).count true = ((List.range (A * L)).filter fun i => decide ((i / L, i % L) ∈ cuts)).length := by
    unfold cutB
    rw [List.count_eq_countP, List.countP_map, List.countP_eq_length_filter]
    congr 1
    refine List.filter_congr fun i _ => ?_
    show (decide ((i / L, i % L) ∈ cuts) == true) = _
    cases decide ((i / L, i % L) ∈ cuts) <;> rfl
  rw [e]
  have n1 : ((List.range (A * L)).filter fun i => decide ((i / L, i % L) ∈ cuts)).Nodup := List.Nodup.sublist List.filter_sublist List.nodup_range
  have mapinj : ∀ (l : List Nat), l.Nodup → (l.map fun i => (i / L, i % L)).Nodup := by
    intro l
    induction l with
    | nil => exact fun _ => List.nodup_nil
    | cons i r ih =>
      intro h
      rw [List.nodup_cons] at h
      rw [List.map_cons, List.nodup_cons]
      refine ⟨fun z => ?_, ih h.2⟩
      obtain ⟨j, hj, q⟩ := List.mem_map.mp z
      injection q with q1 q2
      have : j = i := by rw [← Nat.div_add_mod j L, ← Nat.div_add_mod i L, q1, q2]
      rw [this] at hj
      exact h.1 hj
  apply Nat.le_antisymm
  · have := nodup_len _ cuts (mapinj _ n1) fun c hc2 => by
      obtain ⟨i, hi, q⟩ := List.mem_map.mp hc2
      rw [List.mem_filter, decide_eq_true_eq] at hi
      rw [← q]
      exact hi.2
    rw [List.length_map] at this
    exact this
  · have := nodup_len cuts (((List.range (A * L)).filter fun i => decide ((i / L, i % L) ∈ cuts)).map fun i => (i / L, i % L)) nd fun c hc2 => by
      obtain ⟨h1, h2⟩ := hc c hc2
      refine List.mem_map.mpr ⟨c.1 * L + c.2, List.mem_filter.mpr ⟨List.mem_range.mpr ?_, ?_⟩, ?_⟩
      · have := arm_lt (A := A) h1 h2
        omega
      · rw [arm_div h2, arm_mod h2, decide_eq_true_eq]
        exact hc2
      · show (_, _) = c
        rw [arm_div h2, arm_mod h2]
    rw [List.length_map] at this
    exact this
theorem can_cuts {A L k : Nat} (hI : Isl A L) (h2 : 2 ≤ k) (hk : k ≤ L + 1) (cuts : List (Nat × Nat)) (nd : cuts.Nodup) (hc : ∀ c ∈ cuts, c.1 < A ∧ c.2 < L) (hl : cuts.length + 1 = k) : CanOk A L k (fillI A L (cutP cuts)) := by
  have q := can_ok hI h2 hk (cutB A L cuts) (by unfold cutB; rw [List.length_map, List.length_range]) (by rw [cut_count cuts nd hc]; exact hl)
  have e : fillI A L (pOf L (cutB A L cuts)) = fillI A L (cutP cuts) := by
    rw [← pre_fill, ← pre_fill]
    exact pre_congr A fun b hb s hs => cut_pOf cuts hb hs
  rw [e] at q
  exact q

/-! ### other names for the lands -/
structure Perm (k : Nat) (order : List Nat) : Prop where
  len : order.length = k
  nd : order.Nodup
  lt : ∀ x ∈ order, x < k
def nm (order : List Nat) (i : Nat) : Nat := order.getD i 0
section
variable {A L k : Nat} {order : List Nat} (P : Perm k order)
include P
omit P in
theorem nodup_inj : ∀ {l : List Nat} {i j : Nat}, l.Nodup → ∀ (hi : i < l.length) (hj : j < l.length), l[i] = l[j] → i = j
  | a :: l, 0, 0, _, _, _, _ => rfl
  | a :: l, 0, j + 1, h, hi, hj, e => absurd (by rw [show a = l[j]'(Nat.lt_of_succ_lt_succ hj) from e]; exact List.getElem_mem _) (List.nodup_cons.mp h).1
  | a :: l, i + 1, 0, h, hi, hj, e => absurd (by rw [← show l[i]'(Nat.lt_of_succ_lt_succ hi) = a from e]; exact List.getElem_mem _) (List.nodup_cons.mp h).1
  | a :: l, i + 1, j + 1, h, hi, hj, e => congrArg Nat.succ (nodup_inj (List.nodup_cons.mp h).2 (Nat.lt_of_succ_lt_succ hi) (Nat.lt_of_succ_lt_succ hj) e)
theorem nm_lt {i : Nat} (h : i < k) : nm order i < k := getD_lt P.lt (by rw [P.len]; exact h)
theorem nm_inj {i j : Nat} (hi : i < k) (hj : j < k) (e : nm order i = nm order j) : i = j := by
  rw [← P.len] at hi hj
  unfold nm at e
  rw [List.getD_eq_getElem?_getD, List.getD_eq_getElem?_getD, List.getElem?_eq_getElem hi, List.getElem?_eq_getElem hj] at e
  exact nodup_inj P.nd hi hj e
theorem nm_surj {o : Nat} (ho : o < k) : ∃ i, i < k ∧ nm order i = o := by
  have m := nodup_all order (List.range k) P.nd (fun x hx => List.mem_range.mpr (P.lt x hx)) (by rw [List.length_range, P.len]; exact Nat.le_refl _) o (List.mem_range.mpr ho)
  obtain ⟨i, hi, e⟩ := List.getElem_of_mem m
  refine ⟨i, by rw [← P.len]; exact hi, ?_⟩
  unfold nm
  rw [List.getD_eq_getElem?_getD, List.getElem?_eq_getElem hi]
  exact e
end
theorem getD_map {c : List Nat} {f : Nat → Nat} {i : Nat} (h : i < c.length) : (c.map f).getD i 0 = f (c.getD i 0) := by
  rw [List.getD_eq_getElem?_getD, List.getD_eq_getElem?_getD, List.getElem?_map, List.getElem?_eq_getElem h]
  rfl
section
variable {A L k : Nat} {order c : List Nat} (P : Perm k order) (hI : Isl A L) (V : Valid A L k c)
include P V
theorem cells_map {i : Nat} (hi : i < k) (x : Nat) : x ∈ cellsOf (c.map (nm order)) (nm order i) ↔ x ∈ cellsOf c i := by
  rw [mem_cellsOf, mem_cellsOf, List.length_map]
  constructor
  · intro ⟨h1, h2⟩
    rw [getD_map h1] at h2
    exact ⟨h1, nm_inj P (getD_lt V.lt h1) hi h2⟩
  · intro ⟨h1, h2⟩
    exact ⟨h1, by rw [getD_map h1, h2]⟩
theorem Valid.map : Valid A L k (c.map (nm order)) := by
  refine ⟨by rw [List.length_map]; exact V.len, fun x hx => ?_, fun o ho => ?_⟩
  · obtain ⟨y, hy, e⟩ := List.mem_map.mp hx
    rw [← e]
    exact nm_lt P (V.lt y hy)
  · obtain ⟨i, hi, e⟩ := nm_surj P ho
    rw [← e]
    exact (V.conn i hi).congr fun x => (cells_map P V hi x).symm
include hI
theorem Take.map {l x : Nat} (hl : l < k) (hx : x < c.length) (t : Take A L c l x) : Take A L (c.map (nm order)) (nm order l) x := by
  obtain ⟨t1, ⟨y, hy, e⟩, t3⟩ := t
  have hyc : y < c.length := by rw [V.len]; exact near_lt hI x (by rw [← V.len]; exact hx) y hy
  refine ⟨fun q => ?_, ⟨y, hy, by rw [getD_map hyc, e]⟩, t3.congr fun i => ?_⟩
  · rw [getD_map hx] at q
    exact t1 (nm_inj P (getD_lt V.lt hx) hl q)
  · rw [mem_rest, mem_rest, List.length_map, getD_map hx]
    constructor
    · intro ⟨⟨h1, h2⟩, h3⟩
      exact ⟨⟨h1, by rw [getD_map h1, h2]⟩, h3⟩
    · intro ⟨⟨h1, h2⟩, h3⟩
      rw [getD_map h1] at h2
      exact ⟨⟨h1, nm_inj P (getD_lt V.lt h1) (getD_lt V.lt hx) h2⟩, h3⟩
theorem reach_map {d : List Nat} (r : Reach (nxC A L k) c d) : Reach (nxC A L k) (c.map (nm order)) (d.map (nm order)) := by
  induction r with
  | refl => exact .refl _
  | step r1 h ih =>
    obtain ⟨l, x, h1, h2, h3, rfl⟩ := mem_nxC.mp h
    refine .step ih (mem_nxC.mpr ⟨nm order l, x, nm_lt P h1, by rw [List.length_map]; exact h2, Take.map P hI (V.reach hI r1) h1 h2 h3, ?_⟩)
    rw [List.map_set]
theorem bares_map : bares A L (c.map (nm order)) = bares A L c := by
  unfold bares
  refine List.filter_congr fun a ha => ?_
  rw [List.mem_range] at ha
  have h0 : 0 < c.length := by rw [V.len]; omega
  rw [Bool.eq_iff_iff, bareB_iff, bareB_iff]
  constructor
  · intro h s hs
    have hc : a * L + 1 + s < c.length := by rw [V.len]; exact arm_lt ha hs
    have q := h s hs
    rw [getD_map hc, getD_map h0] at q
    exact nm_inj P (getD_lt V.lt hc) (getD_lt V.lt h0) q
  · intro h s hs
    have hc : a * L + 1 + s < c.length := by rw [V.len]; exact arm_lt ha hs
    rw [getD_map hc, getD_map h0, h s hs]
end
/-- all the law needs of the map that it makes -/
structure MapOk (A L k : Nat) (c : List Nat) : Prop where
  isl : Isl A L
  k2 : 2 ≤ k
  kL : k ≤ L + 1
  valid : Valid A L k c
  all : (bares A L c).length < 2 → ∀ j, j < k → ∃ d, Reach (nxC A L k) c d ∧ d.getD 0 0 = j
theorem map_ok {A L k : Nat} (hI : Isl A L) (h2 : 2 ≤ k) (hk : k ≤ L + 1) {cuts : List (Nat × Nat)} (nd : cuts.Nodup) (hc : ∀ c ∈ cuts, c.1 < A ∧ c.2 < L) (hl : cuts.length + 1 = k) {order : List Nat} (P : Perm k order) : MapOk A L k ((fillI A L (cutP cuts)).1.map (nm order)) := by
  obtain ⟨u, V, all⟩ := can_cuts hI h2 hk cuts nd hc hl
  refine ⟨hI, h2, hk, V.map P, fun hb j hj => ?_⟩
  rw [bares_map P hI V] at hb
  obtain ⟨i, hi, e⟩ := nm_surj P hj
  obtain ⟨d, r, e2⟩ := all hb i hi
  refine ⟨_, reach_map P hI V r, ?_⟩
  have V2 := V.reach hI r
  rw [getD_map (by rw [V2.len]; omega), e2, e]
/-- two bare arms: the hub is frozen -/
theorem MapOk.frozen {A L k : Nat} {c d : List Nat} (M : MapOk A L k c) (h : 2 ≤ (bares A L c).length) (r : Reach (nxC A L k) c d) : d.getD 0 0 = c.getD 0 0 := by
  have nd : (bares A L c).Nodup := List.Nodup.sublist List.filter_sublist List.nodup_range
  have hm : ∀ a ∈ bares A L c, a < A ∧ Bare L c a := fun a ha => by
    obtain ⟨h1, h2⟩ := List.mem_filter.mp ha
    exact ⟨List.mem_range.mp h1, bareB_iff.mp h2⟩
  match e : bares A L c with
  | [] => rw [e] at h; exact absurd h (by decide)
  | [a] => rw [e] at h; exact absurd h (by rw [List.length_singleton]; decide)
  | a :: b :: r2 =>
    rw [e] at nd hm
    rw [List.nodup_cons] at nd
    obtain ⟨a1, a2⟩ := hm a List.mem_cons_self
    obtain ⟨b1, b2⟩ := hm b (List.mem_cons_of_mem _ List.mem_cons_self)
    exact frozen_hub M.isl M.valid a1 b1 (fun q => nd.1 (by rw [q]; exact List.mem_cons_self)) a2 b2 r
end Star
/-! A search's layer whose order is free. -/
set_option linter.all false
namespace Star
section
variable {α : Type} [DecidableEq α]
structure Lay (nx : α → List α) (seen don m : List α) : Prop where
  nd : (seen ++ m).Nodup
  cov : ∀ x ∈ don, ∀ y ∈ nx x, y ∈ seen ∨ y ∈ m
  org : ∀ z ∈ m, ∃ x ∈ don, z ∈ nx x
theorem Lay.start {nx : α → List α} {seen : List α} (h : seen.Nodup) : Lay nx seen [] [] := ⟨by rw [List.append_nil]; exact h, fun _ z => (nomatch z), fun _ z => (nomatch z)⟩
theorem Lay.add {nx : α → List α} {seen don m new : List α} {x : α} (h : Lay nx seen don m) (h1 : new.Nodup) (h2 : ∀ z ∈ new, z ∉ seen ∧ z ∉ m) (h3 : ∀ y ∈ nx x, y ∈ seen ∨ y ∈ m ∨ y ∈ new) (h4 : ∀ z ∈ new, z ∈ nx x) : Lay nx seen (don ++ [x]) (m ++ new) := by
  refine ⟨?_, fun z hz y hy => ?_, fun z hz => ?_⟩
  · rw [← List.append_assoc]
    refine List.nodup_append.mpr ⟨h.nd, h1, fun a ha b hb e => ?_⟩
    subst e
    obtain ⟨n1, n2⟩ := h2 a hb
    exact (List.mem_append.mp ha).elim n1 n2
  · rcases List.mem_append.mp hz with hz | hz
    · exact (h.cov z hz y hy).imp_right (List.mem_append_left _)
    · rw [List.mem_singleton.mp hz] at hy
      rcases h3 y hy with q | q | q
      · exact .inl q
      · exact .inr (List.mem_append_left _ q)
      · exact .inr (List.mem_append_right _ q)
  · rcases List.mem_append.mp hz with hz | hz
    · obtain ⟨y, hy, q⟩ := h.org z hz
      exact ⟨y, List.mem_append_left _ hy, q⟩
    · exact ⟨x, List.mem_append_right _ List.mem_cons_self, h4 z hz⟩
theorem BInv.turnL {nx : α → List α} {s0 : α} {seen rows m : List α} (b : BInv nx s0 seen rows) (l : Lay nx seen rows m) : BInv nx s0 (seen ++ m) m := by
  refine ⟨List.mem_append_left _ b.mem, l.nd, fun x hx => List.mem_append_right _ hx, fun x hx => ?_, fun x hx hn y hy => ?_⟩
  · rcases List.mem_append.mp hx with hx | hx
    · exact b.reach x hx
    · obtain ⟨w, hw, z⟩ := l.org x hx
      exact .step (b.reach w (b.sub w hw)) z
  · rcases List.mem_append.mp hx with hx | hx
    · by_cases hr : x ∈ rows
      · exact List.mem_append.mpr (l.cov x hr y hy)
      · exact List.mem_append_left _ (b.done x hx hr y hy)
    · exact absurd hx hn
theorem meas_turnL {seen rows m : List α} {B : Nat} (hr : rows ≠ []) (hB : (seen ++ m).length ≤ B) : meas B (seen ++ m) m < meas B seen rows := by
  unfold meas
  rw [if_neg hr]
  rw [List.length_append] at *
  cases m with
  | nil => rw [if_pos rfl, List.length_nil]; omega
  | cons a r =>
    rw [if_neg (by simp)]
    rw [List.length_cons] at *
    omega
end
def lnStep (L x a : Nat) (f : List Nat) (s : Nat) : List Nat :=
  let here := 1 + a * L + s
  let inn := if s = 0 then 0 else here - 1
  let f1 := if x = inn then f ++ [here] else f
  if x = here then f1 ++ [inn] else f1
def lnArm (L x : Nat) (f : List Nat) (a : Nat) : List Nat := (List.range L).foldl (lnStep L x a) f
def lnear (A L x : Nat) : List Nat := (List.range A).foldl (lnArm L x) []
theorem lnear_perm {A L : Nat} (h : Isl A L) : ∀ x, x < A * L + 1 → (lnear A L x).Perm (near A L x) := by
  have : ∀ x, x < A * L + 1 → (lnear A L x).isPerm (near A L x) = true := by
    refine h.all (p := fun A L => ∀ x, x < A * L + 1 → (lnear A L x).isPerm (near A L x) = true) ?_ ?_ ?_ ?_ ?_ ?_ <;> decide
  exact fun x hx => List.isPerm_iff.mp (this x hx)
theorem lnStep_len (L x a s : Nat) (f : List Nat) : (lnStep L x a f s).length ≤ f.length + 2 := by
  unfold lnStep
  simp only
  repeat' split
  all_goals try simp only [List.length_append, List.length_singleton]
  all_goals omega
end Star
set_option Elab.async false
set_option linter.all false
set_option maxRecDepth 100000
set_option maxHeartbeats 2000000
/-! all(..), any(..) of a generator expression over anything that PI serves, the element any PE (it may call defs). -/
namespace GX
open PySem PySem.Spec PyProof.Rows L2

/-- the context of a generator expression's code -/
abbrev gCx (X : Cx) (A : Around) (s : Shared) (H : Hp) (cenv : Env) (fp : List Addr) : Cx :=
  { X with A := A, s_0 := s, H_0 := H, env := cenv, outer := X.stack, stack := cenv :: X.stack, ex := fp, fn := fun _ => false, calm := true, pn := [], xe := fun _ _ => False }
section
variable {X : Cx} {pins : List (Addr × Obj)} {σ : L2.St} {H : Hp} {s : Shared}
theorem gen_start {scope : Scope} {own : List (Str × Nat)} {fp : List Addr} {code : Value} {A : Around} {h' : Heap} {m : Str → Option Value} {g' : Array GenState} {t' : Nat}
    (I : Inv X pins σ H s) (ok : BlkOk X.N X.env.scope scope own) (hN : X.N.Nodup) (hcell : ∀ y ∈ scope.names, y.2 ≠ .cell) (hfp : ∀ b ∈ fp, FpOk X pins H b ∧ b < s.heap.objs.size)
    (hA : A.frames = some (genEnv scope (cloFrom X.env.cells scope.names []) s.heap.objs.size code builtinsNs X.env :: X.stack)) (hh : A.handled = none)
    (hn : h'.Ns s.heap.objs.size m) (kp : ∀ b o, s.heap.get? b = some o → h'.get? b = some o) (hg : AllBare g') :
    Inv (gCx X A s H (genEnv scope (cloFrom X.env.cells scope.names []) s.heap.objs.size code builtinsNs X.env) fp) [] (wipe σ (own.map (·.2))) H { s with heap := h', gens := g', toks := t' } := by
  have hfree : ∀ y ∈ scope.names, y.2 = .free → ∃ c, X.env.cells.lookup y.1 = some c := fun y hy e => by
    rcases ok.free y hy e with k | k
    · exact I.ok.has _ (.inl k)
    · exact I.ok.has _ (.inr k)
  generalize hcenv : genEnv scope (cloFrom X.env.cells scope.names []) s.heap.objs.size code builtinsNs X.env = cenv at hA ⊢
  have hL : cenv.locals = s.heap.objs.size := by rw [← hcenv]; rfl
  have hcl : cenv.cells = cloFrom X.env.cells scope.names [] := by rw [← hcenv]; rfl
  have hsc : cenv.scope = scope := by rw [← hcenv]; rfl
  have cm : ∀ {y c}, (y, c) ∈ cloFrom X.env.cells scope.names [] → X.env.cells.lookup y = some c ∧ c < s.heap.objs.size := fun {y c} hm => by
    rcases cloFrom_mem hm with hm | ⟨h1, rfl⟩
    · cases hm
    · obtain ⟨c, hc⟩ := hfree _ h1 rfl
      rw [hc]
      obtain ⟨w, z⟩ := I.cell _ _ hc
      exact ⟨rfl, z.lt⟩
  have mem : ∀ {y c}, cenv.cells.lookup y = some c → X.env.cells.lookup y = some c ∧ c < s.heap.objs.size := fun {y c} e => by
    rw [hcl] at e
    exact cm (PySem.mem_of_lookup e)
  have look : ∀ {y}, scope.names.lookup y = some .free → ∃ c, cenv.cells.lookup y = some c ∧ X.env.cells.lookup y = some c := fun {y} hl => by
    obtain ⟨c', e'⟩ := mem_lookup (cloFrom_has (cells := X.env.cells) (acc := []) (PySem.mem_of_lookup hl))
    rw [← hcl] at e'
    exact ⟨c', e', (mem e').1⟩
  have okB : (gCx X A s H cenv fp).Ok := by
    refine ⟨I.ok.mod, by show cenv.scope.kind = _; rw [hsc]; exact ok.kind, by show cenv.globals = _; rw [← hcenv]; exact I.ok.glob, by show cenv.builtins = _; rw [← hcenv]; rfl, by show s.heap.objs.size ≤ cenv.locals; rw [hL]; exact Nat.le_refl _,
      fun y z c e1 e2 => ?_, fun y hy => ?_, fun y c z e => absurd (show false = true from z) Bool.false_ne_true, fun _ => hh, hA, .inr ⟨rfl, by show cenv.frame = some cenv.locals; rw [← hcenv]; rfl⟩, fun b hb => ⟨?_, fun y c e z => ?_⟩, I.bs, Nat.le_trans I.ok.bsz I.sz, fun b o e hb => ?_, fun b hb z => ?_, I.stack, I.stkFree⟩
    · have e1 : cenv.cells.lookup y = some c := e1
      have e2 : cenv.cells.lookup z = some c := e2
      exact I.ok.inj y z c (mem e1).1 (mem e2).1
    · show ∃ c, cenv.cells.lookup y = some c
      rcases hy with hy | hy
      · have hy' : cenv.scope.names.lookup y = some .cell := hy
        rw [hsc] at hy'
        exact absurd rfl (hcell _ (PySem.mem_of_lookup hy'))
      · have hy' : cenv.scope.names.lookup y = some .free := hy
        rw [hsc] at hy'
        obtain ⟨c, h1, _⟩ := look hy'
        exact ⟨c, h1⟩
    · show b ≠ cenv.locals
      rw [hL]; exact Nat.ne_of_lt (hfp b hb).2
    · have e : cenv.cells.lookup y = some c := e
      exact (hfp b hb).1.2.2.2.2.1 y c (mem e).1 z
    · rcases (hfp b hb).1.2.2.2.1 with z | z
      · exact I.ok.noex b o e z
      · exact absurd (Nat.lt_of_lt_of_le (Heap.lt_size e) (Nat.le_trans I.ok.bsz z)) (Nat.lt_irrefl _)
    · rcases List.mem_cons.mp (I.stkSub b z) with z | z
      · exact (hfp b hb).1.2.1 z
      · exact (hfp b hb).1.2.2.1 z
  refine ⟨okB, rfl, hg, Un.kept kp, ⟨m, by show h'.Ns cenv.locals m; rw [hL]; exact hn, fun i y av e1 e2 e3 => ?_⟩, fun y c e => ?_, ?_, fun y c e => ?_, fun p hp => ?_, I.hok.kept kp, by rw [wipe_length]; exact I.len⟩
  · obtain ⟨e2, hne⟩ := wipe_some e2
    have hfr : scope.names.lookup y = some .free := by
      have key : ∀ k, cenv.scope.names.lookup y = some k → k = .local ∨ k = .cell ∨ k = .free → scope.names.lookup y = some .free := fun k hk hk' => by
        rw [hsc] at hk
        have no : ¬ (k = .local ∨ k = .cell) := fun hh => by
          rcases ok.own _ (PySem.mem_of_lookup hk) hh with e' | e'
          · obtain ⟨p, hp, hpy⟩ := List.mem_map.mp e'
            have e3 := ok.ix p hp
            have : p.1 = y := hpy
            rw [this] at e3
            exact hne (List.mem_map.mpr ⟨p, hp, nodup_ix hN e3 e1⟩)
          · exact e' (List.mem_of_getElem? e1)
        rcases hk' with rfl | rfl | rfl
        · exact absurd (.inl rfl) no
        · exact absurd (.inr rfl) no
        · exact hk
      have e3 : Vis cenv.scope y := e3
      rcases e3 with e3 | e3 | e3
      · exact key _ e3 (.inl rfl)
      · exact key _ e3 (.inr (.inl rfl))
      · exact key _ e3 (.inr (.inr rfl))
    obtain ⟨m, hn, hl⟩ := I.loc
    have hvis : Vis X.env.scope y := (ok.free _ (PySem.mem_of_lookup hfr) rfl).elim (fun k => .inr (.inl k)) (fun k => .inr (.inr k))
    obtain ⟨w, r, q⟩ := hl i y av e1 e2 hvis
    have kf : cenv.kindOf y = some .free := by
      show cenv.scope.names.lookup y = some .free
      rw [hsc]; exact hfr
    refine ⟨w, r, .inr ⟨.inr kf, ?_⟩⟩
    obtain ⟨c, h1, h2⟩ := look hfr
    rcases q with ⟨k, _⟩ | ⟨_, c', e', z⟩
    · have k : X.env.scope.names.lookup y = some .local := k
      rcases ok.free _ (PySem.mem_of_lookup hfr) rfl with k' | k' <;> rw [show X.env.scope.names.lookup y = _ from k'] at k <;> cases k
    · rw [h2] at e'; cases e'
      exact ⟨c, h1, z.keeps kp⟩
  · have e : cenv.cells.lookup y = some c := e
    obtain ⟨w, z⟩ := I.cell y c (mem e).1
    exact ⟨w, z.keeps kp⟩
  · show H cenv.locals = none
    rw [hL]; exact I.hok.fresh (Nat.le_refl _)
  · have e : cenv.cells.lookup y = some c := e
    exact I.freeC y c (mem e).1
  · exact absurd (show p ∈ ([] : List (Addr × Obj)) ++ [] from hp) (by simp)
end

/-- while the generator sleeps nothing moves but the table of generators -/
def Woke (s s' : Shared) : Prop := s'.heap = s.heap ∧ s'.os = s.os ∧ AllBare s'.gens
theorem Woke.inv {X : Cx} {pins : List (Addr × Obj)} {σ : L2.St} {H : Hp} {s s' : Shared} (I : Inv X pins σ H s) (w : Woke s s') : Inv X pins σ H s' := by
  obtain ⟨h1, h2, h3⟩ := w
  refine I.call' (ch := []) h2 ?_ ?_ h3 fun b z => by simp at z
  · rw [h1]; exact Un.refl
  · rw [h1]; exact I.hok
/-- a truth value is handed out: at stopAt the consumer ends -/
def gY (X : Cx) (pn : List (Addr × Obj)) (σ0 : L2.St) (stopAt : Bool) (Qs : Hp → Prop) : Protocol := fun _ _ v s kap =>
  ∃ b H, v = .bool b ∧ Inv X pn σ0 H s ∧ if b = stopAt then Qs H else ∀ s', Woke s s' → kap (.send .none) s'
def gP (X : Cx) (pn : List (Addr × Obj)) (σ0 : L2.St) (Qe : Hp → Prop) : Nat → Shared → Shared → Prop := fun _ _ s => ∃ H, Inv X pn σ0 H s ∧ Qe H
def gR (X : Cx) (pn : List (Addr × Obj)) (σ0 : L2.St) (Qe : Hp → Prop) : GenEnd := fun n s₀ r s => r = .ok .next ∧ gP X pn σ0 Qe n s₀ s

theorem seg_g {X : Cx} {pn : List (Addr × Obj)} {σ0 : L2.St} {B : Around} {elt iter : Expr} {x : Str} {px gpos : Pos} {scope : Scope} {it : Addr} {fp : List Addr} {tn : Nat → Heap → Prop} {J : It} {te : TE} {n ix : Nat} {W : Nat → Hp → Prop} {Qs Qe : Hp → Prop} {stopAt : Bool}
    (hXA : X.A = B.over (.compLoop (.GeneratorExp elt [⟨.Name x px, iter, [], 0⟩] scope gpos) 0 (.ref it) .none X.env) []) (hc : X.calm = true) (hco : X.env.scope.isCoroutine = false) (hxe : X.xe = fun _ _ => False)
    (T : Turn X.prog X.w X.K (.Name x px) J fp it tn) (pg : PG X (.Name x px) (gName ix)) (pe : PE X elt te)
    (stat : ∀ (σ' : L2.St) (H' : Hp) (s' : Shared), Inv X pn σ' H' s' → (∀ b ∈ fp, H' b = none) → ∀ b ∈ fp, FpOk X pn H' b) (hσ : ∀ v, σ0[ix]? ≠ some (some v))
    (turn : ∀ i H, i < n → W i H → J.go i H ∧ ∀ x H', J.yld i H x H' → te (σ0.set ix (some x)) H' (fun v H'' => ∃ b, v = .bl b ∧ if b = stopAt then Qs H'' else W (i + 1) H''))
    (fin : ∀ H, W n H → J.stop n H ∧ Qe H) :
    ∀ (k i : Nat) (s₀ s : Shared) (H : Hp), i + k = n → Inv X pn σ0 H s → tn i s.heap → (∀ b ∈ fp, H b = none) → W i H →
      Seg (model X.prog X.w) B (gR X pn σ0 Qe) (gY X pn σ0 stopAt Qs) k s₀ (.compLoop (.GeneratorExp elt [⟨.Name x px, iter, [], 0⟩] scope gpos) 0 (.ref it) .none X.env)
        ((model X.prog X.w).den (.compLoop (.GeneratorExp elt [⟨.Name x px, iter, [], 0⟩] scope gpos) 0 (.ref it) .none X.env)) [] s := by
  have over : ∀ {α : Type} {t : Sem α} {Q : α → Shared → Prop} {E : Value → Shared → Prop} {s : Shared}, wpAny (model X.prog X.w) X.A t Q (fun _ _ => False) s → wpAny (model X.prog X.w) (B.over (.compLoop (.GeneratorExp elt [⟨.Name x px, iter, [], 0⟩] scope gpos) 0 (.ref it) .none X.env) []) t Q E s := by
    intro α t Q E s h
    rw [← hXA]
    exact thnF h fun _ _ q => q
  intro k
  induction k with
  | zero =>
    intro i s₀ s H hk I st hn w
    have hin : i = n := by omega
    subst hin
    show Seg _ B _ _ _ s₀ _ ((compTurn (.GeneratorExp elt [⟨.Name x px, iter, [], 0⟩] scope gpos) 0 (.ref it) .none X.env).onRaise (leaving X.env)) [] s
    rw [compTurn_gen, Sem.onRaise_eq_wrap]
    refine seg_bind_wrap (wpAny_standAt ?_)
    obtain ⟨stop, q⟩ := fin H w
    refine seg_bind_wrap (over (thnF (T.done X rfl rfl rfl hc i pn s σ0 H (fun _ _ => False) I (stat _ _ _ I hn) st stop) fun r s1 ⟨hr, I1⟩ => ?_))
    subst hr
    exact seg_end (.ok .next) ⟨rfl, H, I1, q⟩
  | succ k ih =>
    intro i s₀ s H hk I st hn w
    have hlt : i < n := by omega
    show Seg _ B _ _ _ s₀ _ ((compTurn (.GeneratorExp elt [⟨.Name x px, iter, [], 0⟩] scope gpos) 0 (.ref it) .none X.env).onRaise (leaving X.env)) [] s
    rw [compTurn_gen, Sem.onRaise_eq_wrap]
    refine seg_bind_wrap (wpAny_standAt ?_)
    obtain ⟨go, step⟩ := turn i H hlt w
    refine seg_bind_wrap (over (thnF (T.item X rfl rfl rfl hc i pn s σ0 H (fun _ _ => False) I (stat _ _ _ I hn) st go) fun r s1 ⟨u, hr, h1⟩ => ?_))
    subst hr
    refine seg_bind_wrap (over (thnF h1 fun _ s2 ⟨xv, H2, I2, r2, y2, st2, n2⟩ => ?_))
    have I2' := I2.pinned (stat _ _ _ I2 n2) (T.obj _ _ st2)
    refine seg_bind_wrap (over ?_)
    have pgr := pg.run _ s2 σ0 H2 xv u (fun σ' H' => σ' = σ0.set ix (some xv) ∧ H' = H2) I2' r2 ⟨rfl, rfl⟩
    rw [hxe] at pgr
    refine thnF pgr fun _ s3 ⟨σ3, H3, I3, e3, e3'⟩ => ?_
    subst e3 e3'
    refine seg_bind_wrap (over ?_)
    simp only [List.forIn_nil]
    refine wpAny_pure ?_
    simp only [if_true]
    have hy : ∀ v, yieldOut X.env v = yieldValue v := fun v => by simp only [yieldOut, hco, Bool.false_eq_true, if_false]
    simp only [hy]
    rw [Sem.bind_eq_wrap', Sem.bind_eq_wrap', Sem.wrap_wrap, Sem.wrap_wrap]
    refine seg_wrap (over ?_)
    have per := pe.run _ s3 _ H3 _ I3 (step xv H3 y2)
    rw [hxe] at per
    refine thnF per fun y s4 ⟨yv, H4, I4, r4, b, eb, q4⟩ => ?_
    subst eb
    have ey : y = Value.bool b := r4
    subst ey
    have pin' : ∀ b ∈ fp, ∀ o, s2.heap.get? b = some o → s4.heap.get? b = some o ∧ H4 b = none := fun b hb o e =>
      let z := I4.pin (b, o) (List.mem_append_right _ (List.mem_append_right _ (mem_pinsAt hb e)))
      ⟨z.1, z.2.1⟩
    have I5 : Inv X pn σ0 H4 s4 := (I4.unpinned (pins := pn)).weak (by rw [List.length_set]) fun j v e => by
      by_cases hj : ix = j
      · subst hj; exact absurd e (hσ v)
      · rw [List.getElem?_set_ne hj]; exact e
    refine seg_at (seg_yield rfl rfl rfl ⟨b, H4, rfl, I5, ?_⟩)
    by_cases hb : b = stopAt
    · rw [if_pos hb] at q4 ⊢
      exact q4
    · rw [if_neg hb] at q4 ⊢
      intro s' wk
      refine seg_again rfl (ih (i + 1) s' s' H4 (by omega) (wk.inv I5) ?_ (fun b hb => ?_) q4)
      · rw [wk.1]
        exact T.keep _ _ _ st2 fun b hb o e => (pin' b hb o e).1
      · obtain ⟨o, e, _⟩ := T.obj _ _ st2 b hb
        exact (pin' b hb o e).2
theorem seg_gStart {X : Cx} {B : Around} {elt iter : Expr} {x : Str} {px gpos : Pos} {scope : Scope} {it : Addr} {fp : List Addr} {tn : Nat → Heap → Prop} {J : It} {k : Nat} {R : GenEnd} {Y : Protocol} {s₀ s : Shared}
    (T : Turn X.prog X.w X.K (.Name x px) J fp it tn) (st : tn 0 s.heap)
    (loop : Seg (model X.prog X.w) B R Y k s₀ (.compLoop (.GeneratorExp elt [⟨.Name x px, iter, [], 0⟩] scope gpos) 0 (.ref it) .none X.env)
        ((model X.prog X.w).den (.compLoop (.GeneratorExp elt [⟨.Name x px, iter, [], 0⟩] scope gpos) 0 (.ref it) .none X.env)) [] s) :
    Seg (model X.prog X.w) B R Y k s₀ (.compStart (.GeneratorExp elt [⟨.Name x px, iter, [], 0⟩] scope gpos) 0 (.ref it) .none X.env)
        ((model X.prog X.w).den (.compStart (.GeneratorExp elt [⟨.Name x px, iter, [], 0⟩] scope gpos) 0 (.ref it) .none X.env)) [] s := by
  show Seg _ B _ _ _ s₀ _ ((compStart (.GeneratorExp elt [⟨.Name x px, iter, [], 0⟩] scope gpos) 0 (.ref it) .none X.env).onRaise (leaving X.env)) [] s
  unfold compStart
  rw [Sem.onRaise_eq_wrap]
  show Seg _ B _ _ _ s₀ _ ((ask >>= _).wrap _ _ _ _) [] s
  refine seg_bind_wrap (wpAny_askSetting ?_)
  split
  · exact seg_again rfl loop
  · first
      | exact seg_bind_wrap (wpAny_rule (seg_bind_wrap (wpAny_standAt (seg_bind_wrap (T.self _ 0 s _ _ st (seg_again rfl loop))))))
      | (refine seg_bind_wrap (wpAny_rule ?_); show Seg _ B _ _ _ s₀ _ ((standAt iter.pos >>= _).wrap _ _ _ _) [] s; exact seg_bind_wrap (wpAny_standAt (seg_bind_wrap (T.self _ 0 s _ _ st (seg_again rfl loop)))))

theorem goes_gR {M : Model} {B : Around} {X : Cx} {pn : List (Addr × Obj)} {σ0 : L2.St} {Qe : Hp → Prop} {Y : Protocol} {n : Nat} {gs : GenState} {r : Resume} {s : Shared} (h : gs.Goes M B (gR X pn σ0 Qe) Y n r s) :
    gs.Goes M B (fun n s₀ r s₁ => r = .ok .next ∧ gP X pn σ0 Qe n s₀ s₁) Y n r s := h
/-- the builtin all draws the generator -/
theorem all_drain {X : Cx} {A : Around} {a : Addr} {go : Obj} {g : Nat} {σ0 : L2.St} {Qs Qe : Hp → Prop} {RR : Result → Shared → Prop} (hh : A.handled = none) (hd : A.depth < recursionLimit)
    (hgen : ∀ h : Heap, h.get? a = some go → h.IsGen a g) (hT : ∀ H s', Inv X [(a, go)] σ0 H s' → Qe H → RR (.ok (.ret (.bool true))) s') (hF : ∀ H s', Inv X [(a, go)] σ0 H s' → Qs H → RR (.ok (.ret (.bool false))) s') :
    ∀ (m : Nat) (s : Shared) (H : Hp), Inv X [(a, go)] σ0 H s → (∃ gs, s.gens[g]? = some gs ∧ gs.Goes (model X.prog X.w) A.in1.in1 (gR X [(a, go)] σ0 Qe) (gY X [(a, go)] σ0 false Qs) m (.send .none) (s.setGen g .running)) →
      codeAny (model X.prog X.w) A (.builtin "all.loop" ⟨[.ref a], []⟩) RR s := by
  have pinned : ∀ {H : Hp} {s : Shared}, Inv X [(a, go)] σ0 H s → s.heap.IsGen a g := fun {H s} I => hgen _ (I.pin (a, go) (List.mem_append_right _ (List.mem_singleton.mpr rfl))).1
  have kept : ∀ {H : Hp} {s₁ : Shared} {h' : Heap}, Inv X [(a, go)] σ0 H s₁ → (∀ b o, s₁.heap.get? b = some o → h'.get? b = some o) → Inv X [(a, go)] σ0 H { s₁.setGen g .finished with heap := h' } := fun {H s₁ h'} I hk =>
    I.call' (ch := []) rfl (Un.kept hk) (I.hok.kept hk) (allBare_setGen I.bare rfl) fun b z => by simp at z
  intro m
  induction m with
  | zero =>
    intro s H I ⟨gs, hgs, hgo⟩
    refine codeAny_builtin F.entry_all_loop ?_
    rw [Around.under_plainId F.plain_all_loop _]
    show wpAny _ A.in1 (pyNext (.ref a) >>= _) _ _ s
    refine wpAny_bind (wpAny_pyNext_genexpQ (A := A.in1) hh I.nolimit hd (pinned I) hgs (goes_gR hgo) (fun v s₁ gs' hb hv => ?_) (fun s₁ hp h' hk => ?_))
    · obtain ⟨b, H1, rfl, I1, q⟩ := hv
      refine wpAny_bind (wpAny_holding (wpAny_truthy_bool ?_))
      refine wpAny_bind (wpAny_letGo ?_)
      cases b with
      | true =>
        rw [if_neg (by decide)] at q
        exact (q s₁ ⟨rfl, rfl, I1.bare⟩).elim
      | false =>
        simp only [Bool.false_eq_true, if_false]
        rw [if_pos rfl] at q
        exact wpAny_bind (wpAny_rule (wpAny_pure (hF H1 _ (Woke.inv I1 ⟨rfl, rfl, allBare_setGen I1.bare hb⟩) q)))
    · obtain ⟨H1, I1, q⟩ := hp
      exact wpAny_bind (wpAny_rule (wpAny_pure (hT H1 _ (kept I1 hk) q)))
  | succ m ih =>
    intro s H I ⟨gs, hgs, hgo⟩
    have hgl : g < s.gens.size := (Array.getElem?_eq_some_iff.mp hgs).1
    refine codeAny_builtin F.entry_all_loop ?_
    rw [Around.under_plainId F.plain_all_loop _]
    show wpAny _ A.in1 (pyNext (.ref a) >>= _) _ _ s
    refine wpAny_bind (GenW.wpAny_gsz (n := g + 1) hgl (wpAny_pyNext_genexpQ (A := A.in1) hh I.nolimit hd (pinned I) hgs (goes_gR hgo) (fun v s₁ gs' hb hv => ?_) (fun s₁ hp h' hk => ?_)))
    · intro hsz
      obtain ⟨b, H1, rfl, I1, q⟩ := hv
      refine wpAny_bind (wpAny_holding (wpAny_truthy_bool ?_))
      refine wpAny_bind (wpAny_letGo ?_)
      cases b with
      | true =>
        rw [if_neg (by decide)] at q
        simp only [if_true]
        have hsz1 : g < s₁.gens.size := by
          have q' : (s₁.setGen g gs').gens.size = s₁.gens.size := GenW.setGen_size _ _ _
          have hsz' : g + 1 ≤ (s₁.setGen g gs').gens.size := hsz
          omega
        refine wpAny_pure ⟨plainId_quiet F.plain_all_loop _, ih _ H1 (Woke.inv I1 ⟨rfl, rfl, allBare_setGen I1.bare hb⟩) ⟨gs', setGen_at hsz1, ?_⟩⟩
        exact q _ ⟨rfl, rfl, allBare_setGen (s := s₁.setGen g gs') (allBare_setGen I1.bare hb) rfl⟩
      | false =>
        simp only [Bool.false_eq_true, if_false]
        rw [if_pos rfl] at q
        exact wpAny_bind (wpAny_rule (wpAny_pure (hF H1 _ (Woke.inv I1 ⟨rfl, rfl, allBare_setGen I1.bare hb⟩) q)))
    · intro hsz
      obtain ⟨H1, I1, q⟩ := hp
      exact wpAny_bind (wpAny_rule (wpAny_pure (hT H1 _ (kept I1 hk) q)))
theorem any_drain {X : Cx} {A : Around} {a : Addr} {go : Obj} {g : Nat} {σ0 : L2.St} {Qs Qe : Hp → Prop} {RR : Result → Shared → Prop} (hh : A.handled = none) (hd : A.depth < recursionLimit)
    (hgen : ∀ h : Heap, h.get? a = some go → h.IsGen a g) (hT : ∀ H s', Inv X [(a, go)] σ0 H s' → Qe H → RR (.ok (.ret (.bool false))) s') (hF : ∀ H s', Inv X [(a, go)] σ0 H s' → Qs H → RR (.ok (.ret (.bool true))) s') :
    ∀ (m : Nat) (s : Shared) (H : Hp), Inv X [(a, go)] σ0 H s → (∃ gs, s.gens[g]? = some gs ∧ gs.Goes (model X.prog X.w) A.in1.in1 (gR X [(a, go)] σ0 Qe) (gY X [(a, go)] σ0 true Qs) m (.send .none) (s.setGen g .running)) →
      codeAny (model X.prog X.w) A (.builtin "any.loop" ⟨[.ref a], []⟩) RR s := by
  have pinned : ∀ {H : Hp} {s : Shared}, Inv X [(a, go)] σ0 H s → s.heap.IsGen a g := fun {H s} I => hgen _ (I.pin (a, go) (List.mem_append_right _ (List.mem_singleton.mpr rfl))).1
  have kept : ∀ {H : Hp} {s₁ : Shared} {h' : Heap}, Inv X [(a, go)] σ0 H s₁ → (∀ b o, s₁.heap.get? b = some o → h'.get? b = some o) → Inv X [(a, go)] σ0 H { s₁.setGen g .finished with heap := h' } := fun {H s₁ h'} I hk =>
    I.call' (ch := []) rfl (Un.kept hk) (I.hok.kept hk) (allBare_setGen I.bare rfl) fun b z => by simp at z
  intro m
  induction m with
  | zero =>
    intro s H I ⟨gs, hgs, hgo⟩
    refine codeAny_builtin F.entry_any_loop ?_
    rw [Around.under_plainId F.plain_any_loop _]
    show wpAny _ A.in1 (pyNext (.ref a) >>= _) _ _ s
    refine wpAny_bind (wpAny_pyNext_genexpQ (A := A.in1) hh I.nolimit hd (pinned I) hgs (goes_gR hgo) (fun v s₁ gs' hb hv => ?_) (fun s₁ hp h' hk => ?_))
    · obtain ⟨b, H1, rfl, I1, q⟩ := hv
      refine wpAny_bind (wpAny_holding (wpAny_truthy_bool ?_))
      refine wpAny_bind (wpAny_letGo ?_)
      cases b with
      | false =>
        rw [if_neg (by decide)] at q
        exact (q s₁ ⟨rfl, rfl, I1.bare⟩).elim
      | true =>
        simp only [if_true]
        rw [if_pos rfl] at q
        exact wpAny_bind (wpAny_rule (wpAny_pure (hF H1 _ (Woke.inv I1 ⟨rfl, rfl, allBare_setGen I1.bare hb⟩) q)))
    · obtain ⟨H1, I1, q⟩ := hp
      exact wpAny_bind (wpAny_rule (wpAny_pure (hT H1 _ (kept I1 hk) q)))
  | succ m ih =>
    intro s H I ⟨gs, hgs, hgo⟩
    have hgl : g < s.gens.size := (Array.getElem?_eq_some_iff.mp hgs).1
    refine codeAny_builtin F.entry_any_loop ?_
    rw [Around.under_plainId F.plain_any_loop _]
    show wpAny _ A.in1 (pyNext (.ref a) >>= _) _ _ s
    refine wpAny_bind (GenW.wpAny_gsz (n := g + 1) hgl (wpAny_pyNext_genexpQ (A := A.in1) hh I.nolimit hd (pinned I) hgs (goes_gR hgo) (fun v s₁ gs' hb hv => ?_) (fun s₁ hp h' hk => ?_)))
    · intro hsz
      obtain ⟨b, H1, rfl, I1, q⟩ := hv
      refine wpAny_bind (wpAny_holding (wpAny_truthy_bool ?_))
      refine wpAny_bind (wpAny_letGo ?_)
      cases b with
      | false =>
        rw [if_neg (by decide)] at q
        simp only [Bool.false_eq_true, if_false]
        have hsz1 : g < s₁.gens.size := by
          have q' : (s₁.setGen g gs').gens.size = s₁.gens.size := GenW.setGen_size _ _ _
          have hsz' : g + 1 ≤ (s₁.setGen g gs').gens.size := hsz
          omega
        refine wpAny_pure ⟨plainId_quiet F.plain_any_loop _, ih _ H1 (Woke.inv I1 ⟨rfl, rfl, allBare_setGen I1.bare hb⟩) ⟨gs', setGen_at hsz1, ?_⟩⟩
        exact q _ ⟨rfl, rfl, allBare_setGen (s := s₁.setGen g gs') (allBare_setGen I1.bare hb) rfl⟩
      | true =>
        simp only [if_true]
        rw [if_pos rfl] at q
        exact wpAny_bind (wpAny_rule (wpAny_pure (hF H1 _ (Woke.inv I1 ⟨rfl, rfl, allBare_setGen I1.bare hb⟩) q)))
    · intro hsz
      obtain ⟨H1, I1, q⟩ := hp
      exact wpAny_bind (wpAny_rule (wpAny_pure (hT H1 _ (kept I1 hk) q)))

/-- the generator expression's own scope -/
structure GSc (scope : Scope) (x : Str) : Prop where
  co : scope.isCoroutine = false
  cell : ∀ y ∈ scope.names, y.2 ≠ .cell
  dot : scope.names.lookup (".0" : Str) = some NameKind.local
  loc : scope.names.lookup x = some .local
/-- all (stopAt false), any (stopAt true) of (elt for x in iter): W by the turn; the def's table at P may grow -/
def qBody (stopAt : Bool) (P : Addr) (te : TE) (vs : List Nat) (ix : Nat) (σ : L2.St) (Q : VK) (J : It) (H1 : Hp) : Prop := GxR.TabG H1 P ∧ ∀ H2, GxR.Tabbed P H1 H2 →
  ∃ (n : Nat) (W : Nat → Hp → Prop), W 0 H2 ∧ (∀ i H, i < n → W i H → J.go i H ∧ ∀ x H', J.yld i H x H' → te ((wipe σ vs).set ix (some x)) H' (fun v H'' => ∃ b, v = .bl b ∧ if b = stopAt then Q (.bl stopAt) H'' else W (i + 1) H'')) ∧
    ∀ H, W n H → J.stop n H ∧ Q (.bl (!stopAt)) H
def tQuan (stopAt : Bool) (P : Addr) (wi : TI) (te : TE) (vs : List Nat) (ix : Nat) : TE := fun σ H Q => wi σ H (qBody stopAt P te vs ix σ Q)
/-- a generator is made and drawn: what the consumer gets -/
def Made (X : Cx) (pins : List (Addr × Obj)) (σ : L2.St) (stopAt : Bool) (Q : VK) (g : Value) (s5 : Shared) : Prop :=
  ∃ (a : Addr) (go : Obj) (n : Nat) (Xg : Cx) (σ0 : L2.St) (H : Hp) (m : Nat), g = .ref a ∧ Xg.prog = X.prog ∧ Xg.w = X.w ∧ (∀ h : Heap, h.get? a = some go → h.IsGen a n) ∧ Inv Xg [(a, go)] σ0 H s5 ∧
    (∀ H' s', Inv Xg [(a, go)] σ0 H' s' → Inv X pins σ H' s') ∧
    ∃ gs, s5.gens[n]? = some gs ∧ gs.Goes (model X.prog X.w) X.A.in1.in1 (gR Xg [(a, go)] σ0 fun H => Q (.bl (!stopAt)) H) (gY Xg [(a, go)] σ0 stopAt fun H => Q (.bl stopAt) H) m (.send .none) (s5.setGen n .running)

section
variable {X : Cx} {pins : List (Addr × Obj)} {σ : L2.St} {H : Hp} {s : Shared}
theorem gen_pi {c P : Addr} {elt iter : Expr} {x : Str} {px gpos : Pos} {scope : Scope} {own : List (Str × Nat)} {wi : TI} {te : TE} {k ix : Nat} {stopAt : Bool} {Q : VK} {Q' : Value → Shared → Prop}
    (hr : Room (k + 1) X.A) (TB : GxR.TabB X.base X.mg c P) (hcode : X.env.code = .ref c) (hN : X.N.Nodup) (ok : BlkOk X.N X.env.scope scope own) (S : GSc scope x) (hi : PI X (.Name x px) iter wi) (hx : X.N[ix]? = some x) (ho : ix ∈ own.map (·.2))
    (he : ∀ (A : Around) (s : Shared) (H : Hp) (C : Addr) (cl : List (Str × Addr)) (code : Value) (fp : List Addr), Room k A → PE (gCx X A s H (genEnv scope cl C code builtinsNs X.env) fp) elt te)
    (hs : ∀ v, genFold iter X.env v = pure v) (I : Inv X pins σ H s) (h : tQuan stopAt P wi te (own.map (·.2)) ix σ H Q) (hQ : ∀ g s5, Made X pins σ stopAt Q g s5 → Q' g s5) :
    wpAny (model X.prog X.w) X.A (eval (.GeneratorExp elt [⟨.Name x px, iter, [], 0⟩] scope gpos) X.env) Q' X.xe s := by
  have hfree : ∀ y ∈ scope.names, y.2 = .free → ∃ c, X.env.cells.lookup y.1 = some c := fun y hy e => by
    rcases ok.free y hy e with k | k
    · exact I.ok.has _ (.inl k)
    · exact I.ok.has _ (.inr k)
  refine wpAny_GeneratorExp_make S.co (closure_ok hfree) S.cell S.dot ok.kind (by have := hr.dp; omega) ?_ hs
  refine thn (hi.run pins s σ H _ I h) fun xv s1 hx1 => thn hx1 fun itv s2 h2 => ?_
  obtain ⟨it, fp, tn, J, H1, e, I1, T, st2, f2, ⟨ps, hP, ht⟩, q⟩ := h2
  subst e
  have hPs : s2.heap.get? P = some { cls := .none, data := .fields ps } := I1.hok P _ hP
  have hPlt : P < s2.heap.objs.size := Heap.lt_size hPs
  have cd : PySem.W.CodeHd s2.heap c P := TB.code.keeps I1.bk
  have fpP : ∀ b ∈ fp, b ≠ P := fun b hb z => by
    have e := (f2 b hb).1
    rw [z, hP] at e
    cases e
  refine ⟨I1.nolimit, ?_⟩
  have cont : ∀ (code : Value) (h3 : Heap) (tk : Nat) (ps' : Array Value), Heap.ExtBut P s2.heap h3 → s2.heap.objs.size ≤ h3.objs.size → h3.get? P = some { cls := .none, data := .fields ps' } → (∃ more, ps' = ps ++ more) → TriplesOk ps'.toList →
      wpAny (model X.prog X.w) X.A (builtinsFor X.env.globals X.env.builtins) (fun bi s₄ =>
        ∀ h', h'.Ns s₄.heap.objs.size (fun y => if y = ".0" then some (.ref it) else none) → Heap.SameBut s₄.heap.objs.size (s₄.heap.push { cls := .type "frame", data := .dict #[] }) h' →
          Q' (.ref h'.objs.size) { s₄ with
            gens := s₄.gens.push (.fresh (.compStart (.GeneratorExp elt [⟨.Name x px, iter, [], 0⟩] scope gpos) 0 (.ref it) .none (genEnv scope (cloFrom X.env.cells scope.names []) s₄.heap.objs.size code bi X.env))),
            toks := s₄.toks + 1 + 1 + 1,
            heap := h'.push { cls := .type "generator", data := .fields #[.int s₄.gens.size 0, .str "<genexpr>" (s₄.toks + 1), .str (X.env.qual ++ "<genexpr>") (s₄.toks + 1 + 1)] } }) X.xe { s2 with heap := h3, toks := tk } := by
    intro code h3 tk ps' hx3 hsz hP3 ⟨more, em⟩ ht3
    obtain ⟨bm, ob, e1, e2, e3, e4, e5, e6, e7, e8⟩ := TB.bm
    have keep3 : ∀ b u, b ≠ P → s2.heap.get? b = some u → h3.get? b = some u := fun b u hb e => hx3 b u hb e
    refine wpAny_builtinsFor (m := X.mg) (by rw [I1.ok.glob]; exact (I1.mod.glob.keeps I1.bk).extBut hx3 TB.gP) e1 e2 (keep3 _ _ e4 (I1.bk _ _ e5)) e6 e7 e8 ?_
    have I4 : Inv X pins σ (upd H1 P (.tbl (ps ++ more))) { s2 with heap := h3, toks := tk } := by
      have J := GxR.inv_tab (more := more) (h' := h3) (g' := s2.gens) (d' := s2.drawn) (t' := tk) I1 hP keep3 (by rw [← em]; exact hP3) I1.bare
      exact J
    have T4 : GxR.Tabbed P H1 (upd H1 P (.tbl (ps ++ more))) := ⟨⟨ps ++ more, upd_same, by rw [← em]; exact ht3⟩, fun b hb => upd_ne hb⟩
    obtain ⟨n, W, w0, turn, fin⟩ := q _ T4
    generalize hH2 : upd H1 P (.tbl (ps ++ more)) = H2 at I4 w0
    have n2 : ∀ b ∈ fp, H2 b = none := fun b hb => by
      rw [← hH2, upd_ne (fpP b hb)]
      exact (f2 b hb).1
    have st4 : tn 0 h3 := T.keep _ _ _ st2 fun b hb o e => keep3 b o (fpP b hb) e
    generalize hs4 : ({ s2 with heap := h3, toks := tk } : Shared) = s4 at I4 ⊢
    have eh4 : s4.heap = h3 := by rw [← hs4]
    have st4' : tn 0 s4.heap := by rw [eh4]; exact st4
    intro h' hn' hs'
    have hsz' : h'.objs.size = s4.heap.objs.size + 1 := by rw [hs'.1, Heap.size_push]
    have keep' : ∀ b o, s4.heap.get? b = some o → h'.get? b = some o := fun b o e => hs'.extBut b o (Nat.ne_of_lt (Heap.lt_size e)) (Heap.get?_push_of_some _ e)
    generalize hgo : ({ cls := .type "generator", data := .fields #[.int s4.gens.size 0, .str "<genexpr>" (s4.toks + 1), .str (X.env.qual ++ "<genexpr>") (s4.toks + 1 + 1)] } : Obj) = go
    have keep5 : ∀ b o, s4.heap.get? b = some o → (h'.push go).get? b = some o := fun b o e => Heap.get?_push_of_some _ (keep' b o e)
    have hgen : ∀ h : Heap, h.get? h'.objs.size = some go → h.IsGen h'.objs.size s4.gens.size := fun h e => by
      rw [← hgo] at e
      exact ⟨_, _, _, e, rfl, rfl, rfl⟩
    have hget : (h'.push go).get? h'.objs.size = some go := by
      rw [← hgo]
      exact Heap.get?_push_size _ rfl
    generalize hcl : Code.compLoop (.GeneratorExp elt [⟨.Name x px, iter, [], 0⟩] scope gpos) 0 (.ref it) .none (genEnv scope (cloFrom X.env.cells scope.names []) s4.heap.objs.size code builtinsNs X.env) = cl
    have hA : (X.A.in1.in1.over cl []).frames = some (genEnv scope (cloFrom X.env.cells scope.names []) s4.heap.objs.size code builtinsNs X.env :: X.stack) := by
      rw [← hcl]
      have e : X.A.in1.in1.frames = some X.stack := I.ok.frames
      unfold Around.over
      rw [e]
      rfl
    have hRm : Room k (X.A.in1.in1.over cl []) := by
      rw [← hcl]
      refine ⟨hr.hd, ?_, ?_⟩
      · have := hr.dp
        show X.A.depth + 0 + 1 + 3 * k + 5 < _
        omega
      · have := hr.un
        show X.A.units + 1 + 1 + 0 + 3 + 16 * k + 200 < _
        omega
    have f4 : ∀ b ∈ fp, FpOk X pins H2 b ∧ b < s4.heap.objs.size := fun b hb => by
      obtain ⟨o, e, _⟩ := T.obj _ _ st4' b hb
      exact ⟨⟨n2 b hb, (f2 b hb).2⟩, Heap.lt_size e⟩
    have G0 := gen_start (A := X.A.in1.in1.over cl []) (code := code) (h' := h'.push go) (g' := s4.gens.push (.fresh (.compStart (.GeneratorExp elt [⟨.Name x px, iter, [], 0⟩] scope gpos) 0 (.ref it) .none (genEnv scope (cloFrom X.env.cells scope.names []) s4.heap.objs.size code builtinsNs X.env))))
      (t' := s4.toks + 1 + 1 + 1) I4 ok hN S.cell f4 hA hr.hd (hn'.push _) keep5 (AllBare.push I4.bare rfl)
    have pe := he (X.A.in1.in1.over cl []) s4 H2 s4.heap.objs.size (cloFrom X.env.cells scope.names []) code fp hRm
    have hgn : H2 h'.objs.size = none := I4.hok.fresh (by rw [hsz']; exact Nat.le_succ _)
    have hgs : h'.objs.size ∉ frs X.stack := fun hm => by
      rcases List.mem_cons.mp (I4.stkSub _ hm) with z | z
      · have h1 := I4.lt
        rw [← z, hsz'] at h1
        exact absurd h1 (Nat.not_lt_of_le (Nat.le_succ _))
      · exact I4.nofs (by rw [hsz']; exact Nat.le_succ _) z
    have hgd : ∀ v, go.data ≠ .cell v := fun v z => by
      rw [← hgo] at z
      cases z
    generalize hXg : gCx X (X.A.in1.in1.over cl []) s4 H2 (genEnv scope (cloFrom X.env.cells scope.names []) s4.heap.objs.size code builtinsNs X.env) fp = Xg at G0 pe
    have G1 : Inv Xg [(h'.objs.size, go)] (wipe σ (own.map (·.2))) H2 { s4 with heap := h'.push go, gens := s4.gens.push (.fresh (.compStart (.GeneratorExp elt [⟨.Name x px, iter, [], 0⟩] scope gpos) 0 (.ref it) .none (genEnv scope (cloFrom X.env.cells scope.names []) s4.heap.objs.size code builtinsNs X.env))), toks := s4.toks + 1 + 1 + 1 } := by
      refine G0.pins_of fun p hp => ?_
      rw [List.mem_singleton.mp hp]
      refine ⟨hget, hgn, ?_, ?_, hgd⟩
      · rw [← hXg]
        show h'.objs.size ≠ s4.heap.objs.size
        rw [hsz']; exact Nat.succ_ne_self _
      · rw [← hXg]
        exact hgs
    have eprog : Xg.prog = X.prog := by rw [← hXg]
    have ew : Xg.w = X.w := by rw [← hXg]
    have eK : Xg.K = X.K := by rw [← hXg]
    have eN : Xg.N = X.N := by rw [← hXg]
    have eenv : Xg.env = genEnv scope (cloFrom X.env.cells scope.names []) s4.heap.objs.size code builtinsNs X.env := by rw [← hXg]
    have ecalm : Xg.calm = true := by rw [← hXg]
    have exe : Xg.xe = fun _ _ => False := by rw [← hXg]
    have eA : Xg.A = X.A.in1.in1.over (.compLoop (.GeneratorExp elt [⟨.Name x px, iter, [], 0⟩] scope gpos) 0 (.ref it) .none Xg.env) [] := by
      rw [eenv, hcl, ← hXg]
    have epn : Xg.pn = [] := by rw [← hXg]
    have eex : Xg.ex = fp := by rw [← hXg]
    have hback : ∀ H' s', Inv Xg [(h'.objs.size, go)] (wipe σ (own.map (·.2))) H' s' → Inv X pins σ H' s' := fun H' s' J => by
      have os := J.os
      have base := J.base
      have hok := J.hok
      have bare := J.bare
      rw [← hXg] at os base hok
      exact I4.call' (ch := fp) os base hok bare fun b hb => ⟨(f4 b hb).1.2.2.2.1, (f4 b hb).1.2.1, (f4 b hb).1.2.2.2.2.1, (f4 b hb).1.2.2.2.2.2⟩
    have pg : PG Xg (.Name x px) (gName ix) := pg_name (by rw [eN]; exact hN) (by rw [eN]; exact hx) (.inl (by rw [eenv]; exact S.loc)) (.inr (by rw [eenv]; exact S.loc))
    have stat : ∀ (σ' : L2.St) (H' : Hp) (s' : Shared), Inv Xg [(h'.objs.size, go)] σ' H' s' → (∀ b ∈ fp, H' b = none) → ∀ b ∈ fp, FpOk Xg [(h'.objs.size, go)] H' b := fun σ' H' s' I' hn b hb => by
      have hbx : b ∈ Xg.ex := by rw [eex]; exact hb
      refine ⟨hn b hb, (I'.ok.exf b hbx).1, I'.ok.exfs b hbx, .inl hbx, fun x c e => (I'.ok.exf b hbx).2 x c e, fun p hp => ?_⟩
      rw [epn] at hp
      rw [List.mem_singleton.mp hp]
      have h1 := (f4 b hb).2
      show h'.objs.size ≠ b
      rw [hsz']
      exact Nat.ne_of_gt (Nat.lt_succ_of_lt h1)
    have hσ : ∀ v, (wipe σ (own.map (·.2)))[ix]? ≠ some (some v) := fun v e => (wipe_some e).2 ho
    have hTg : Turn Xg.prog Xg.w Xg.K (.Name x px) J fp it tn := by
      rw [eprog, ew, eK]; exact T
    have loop := seg_g (B := X.A.in1.in1) (iter := iter) (px := px) (scope := scope) (gpos := gpos) (W := W) (Qs := fun H => Q (.bl stopAt) H) (Qe := fun H => Q (.bl (!stopAt)) H) (stopAt := stopAt) (n := n) eA ecalm (by rw [eenv]; exact S.co) exe hTg pg pe stat hσ turn fin
    have key : ∀ S : Shared, Inv Xg [(h'.objs.size, go)] (wipe σ (own.map (·.2))) H2 S → tn 0 S.heap →
        Seg (model X.prog X.w) X.A.in1.in1 (gR Xg [(h'.objs.size, go)] (wipe σ (own.map (·.2))) fun H => Q (.bl (!stopAt)) H) (gY Xg [(h'.objs.size, go)] (wipe σ (own.map (·.2))) stopAt fun H => Q (.bl stopAt) H) n S
          (.compStart (.GeneratorExp elt [⟨.Name x px, iter, [], 0⟩] scope gpos) 0 (.ref it) .none (genEnv scope (cloFrom X.env.cells scope.names []) s4.heap.objs.size code builtinsNs X.env))
          ((model X.prog X.w).den (.compStart (.GeneratorExp elt [⟨.Name x px, iter, [], 0⟩] scope gpos) 0 (.ref it) .none (genEnv scope (cloFrom X.env.cells scope.names []) s4.heap.objs.size code builtinsNs X.env))) [] S := fun S G st => by
      have z := seg_gStart (s₀ := S) (iter := iter) (px := px) (scope := scope) (gpos := gpos) hTg st (loop n 0 S S H2 (Nat.zero_add n) G st n2 w0)
      rw [eprog, ew, eenv] at z
      exact z
    refine hQ _ _ ⟨h'.objs.size, go, s4.gens.size, Xg, _, H2, n, rfl, eprog, ew, hgen, G1, hback, _, Array.getElem?_push_size .., rfl, ?_⟩
    have G2 := Woke.inv (s' := ({ s4 with heap := h'.push go, gens := s4.gens.push (.fresh (.compStart (.GeneratorExp elt [⟨.Name x px, iter, [], 0⟩] scope gpos) 0 (.ref it) .none (genEnv scope (cloFrom X.env.cells scope.names []) s4.heap.objs.size code builtinsNs X.env))), toks := s4.toks + 1 + 1 + 1 } : Shared).setGen s4.gens.size .running) G1 ⟨rfl, rfl, allBare_setGen G1.bare rfl⟩
    have st5 : tn 0 (h'.push go) := T.keep _ _ _ st4' fun b _ o e => keep5 b o e
    exact key _ G2 st5
  cases hf : codeAmong gpos ps.toList with
  | none =>
    refine wpAny_genexprCodeX hcode (cd.code hPs ht) (cd.tab hPs) hf fun c' h' tk hx hge hlt hco' _ htab' _ => ?_
    obtain ⟨o1, vs, f1, tf, fl, tg, inF, tx, tt, op, _, _, _, _, _, _, _, _, _, htr, _⟩ := hco'
    exact cont _ h' tk _ hx (Nat.le_trans hge (Nat.le_of_lt hlt)) htab'.2 ⟨_, rfl⟩ htr
  | some cv =>
    refine wpAny_genexprCode_hit hcode (cd.code hPs ht) hf ?_
    exact cont cv s2.heap s2.toks ps (Heap.ExtBut.refl _ _) (Nat.le_refl _) hPs ⟨#[], by simp⟩ ht

/-- all(elt for x in iter) -/
theorem pe_allG {c P : Addr} {elt iter : Expr} {x : Str} {px p pos gpos : Pos} {scope : Scope} {own : List (Str × Nat)} {wi : TI} {te : TE} {k ix : Nat}
    (hr : Room (k + 1) X.A) (hg : Gl X "all") (hm : X.mg "all" = none) (TB : GxR.TabB X.base X.mg c P) (hcode : X.env.code = .ref c) (hN : X.N.Nodup) (ok : BlkOk X.N X.env.scope scope own) (S : GSc scope x) (hi : PI X (.Name x px) iter wi) (hx : X.N[ix]? = some x) (ho : ix ∈ own.map (·.2))
    (he : ∀ (A : Around) (s : Shared) (H : Hp) (C : Addr) (cl : List (Str × Addr)) (code : Value) (fp : List Addr), Room k A → PE (gCx X A s H (genEnv scope cl C code builtinsNs X.env) fp) elt te)
    (hs : ∀ v, genFold iter X.env v = pure v := by intro _; rfl)
    (he2 : starEach [.GeneratorExp elt [⟨.Name x px, iter, [], 0⟩] scope gpos] X.env = (false, eval (.GeneratorExp elt [⟨.Name x px, iter, [], 0⟩] scope gpos) X.env) :: starEach [] X.env := by rfl) :
    PE X (.Call (.Name "all" p) [.GeneratorExp elt [⟨.Name x px, iter, [], 0⟩] scope gpos] [] pos) (tQuan false P wi te (own.map (·.2)) ix) := by
  refine ⟨fun pins s σ H Q I h => ?_⟩
  refine wpAny_Call_Name_kw (ld_blt (u := .builtin "all") I hg hm (by decide +kernel) ?_)
  refine PyProof.Rows.callWith_builtin1 ?_ he2 (by rfl)
  rw [he2]
  show wpAny _ _ (spliced ((false, eval (.GeneratorExp elt [⟨.Name x px, iter, [], 0⟩] scope gpos) X.env) :: backTo pos (starEach [] X.env))) _ _ s
  refine Calls.spliced_cons (gen_pi hr TB hcode hN ok S hi hx ho he hs I h fun g s5 hG => ?_)
  obtain ⟨a, go, n, Xg, σ0, H5, m, rfl, eP, ew, hgen, IG, back, goes⟩ := hG
  refine Calls.spliced_nil ?_
  refine call_function_tree F.kind_all F.plain_all F.entry_all (F.args_all1 _) ?_
  unfold Builtin.«all»
  refine wpAny_bind (m := oneArg "all" _) (wpAny_pure ?_)
  refine wpAny_bind (wpAny_pyIter_gen (hgen _ (IG.pin (a, go) (List.mem_append_right _ (List.mem_singleton.mpr rfl))).1) ?_)
  rw [← eP, ← ew] at goes
  have z := all_drain (X := Xg) (A := X.A) (a := a) (go := go) (g := n) (σ0 := σ0) (Qs := fun H => Q (.bl false) H) (Qe := fun H => Q (.bl (!false)) H)
    (RR := fun r s' => ∃ b H', r = .ok (.ret (.bool b)) ∧ Inv X pins σ H' s' ∧ Q (.bl b) H') hr.hd hr.depth hgen
    (fun H' s' J q => ⟨true, H', rfl, back H' s' J, q⟩) (fun H' s' J q => ⟨false, H', rfl, back H' s' J, q⟩) m s5 H5 IG goes
  rw [eP, ew] at z
  refine wpAny_pure ⟨plainId_quiet F.plain_all_loop _, codeAny_mono z fun r s' hr' => ?_⟩
  obtain ⟨b, H', rfl, J, q⟩ := hr'
  exact ⟨.bl b, H', J, rfl, q⟩

/-- any(elt for x in iter) -/
theorem pe_anyG {c P : Addr} {elt iter : Expr} {x : Str} {px p pos gpos : Pos} {scope : Scope} {own : List (Str × Nat)} {wi : TI} {te : TE} {k ix : Nat}
    (hr : Room (k + 1) X.A) (hg : Gl X "any") (hm : X.mg "any" = none) (TB : GxR.TabB X.base X.mg c P) (hcode : X.env.code = .ref c) (hN : X.N.Nodup) (ok : BlkOk X.N X.env.scope scope own) (S : GSc scope x) (hi : PI X (.Name x px) iter wi) (hx : X.N[ix]? = some x) (ho : ix ∈ own.map (·.2))
    (he : ∀ (A : Around) (s : Shared) (H : Hp) (C : Addr) (cl : List (Str × Addr)) (code : Value) (fp : List Addr), Room k A → PE (gCx X A s H (genEnv scope cl C code builtinsNs X.env) fp) elt te)
    (hs : ∀ v, genFold iter X.env v = pure v := by intro _; rfl)
    (he2 : starEach [.GeneratorExp elt [⟨.Name x px, iter, [], 0⟩] scope gpos] X.env = (false, eval (.GeneratorExp elt [⟨.Name x px, iter, [], 0⟩] scope gpos) X.env) :: starEach [] X.env := by rfl) :
    PE X (.Call (.Name "any" p) [.GeneratorExp elt [⟨.Name x px, iter, [], 0⟩] scope gpos] [] pos) (tQuan true P wi te (own.map (·.2)) ix) := by
  refine ⟨fun pins s σ H Q I h => ?_⟩
  refine wpAny_Call_Name_kw (ld_blt (u := .builtin "any") I hg hm (by decide +kernel) ?_)
  refine PyProof.Rows.callWith_builtin1 ?_ he2 (by rfl)
  rw [he2]
  show wpAny _ _ (spliced ((false, eval (.GeneratorExp elt [⟨.Name x px, iter, [], 0⟩] scope gpos) X.env) :: backTo pos (starEach [] X.env))) _ _ s
  refine Calls.spliced_cons (gen_pi hr TB hcode hN ok S hi hx ho he hs I h fun g s5 hG => ?_)
  obtain ⟨a, go, n, Xg, σ0, H5, m, rfl, eP, ew, hgen, IG, back, goes⟩ := hG
  refine Calls.spliced_nil ?_
  refine call_function_tree F.kind_any F.plain_any F.entry_any (F.args_any1 _) ?_
  unfold Builtin.«any»
  refine wpAny_bind (m := oneArg "any" _) (wpAny_pure ?_)
  refine wpAny_bind (wpAny_pyIter_gen (hgen _ (IG.pin (a, go) (List.mem_append_right _ (List.mem_singleton.mpr rfl))).1) ?_)
  rw [← eP, ← ew] at goes
  have z := any_drain (X := Xg) (A := X.A) (a := a) (go := go) (g := n) (σ0 := σ0) (Qs := fun H => Q (.bl true) H) (Qe := fun H => Q (.bl (!true)) H)
    (RR := fun r s' => ∃ b H', r = .ok (.ret (.bool b)) ∧ Inv X pins σ H' s' ∧ Q (.bl b) H') hr.hd hr.depth hgen
    (fun H' s' J q => ⟨false, H', rfl, back H' s' J, q⟩) (fun H' s' J q => ⟨true, H', rfl, back H' s' J, q⟩) m s5 H5 IG goes
  rw [eP, ew] at z
  refine wpAny_pure ⟨plainId_quiet F.plain_any_loop _, codeAny_mono z fun r s' hr' => ?_⟩
  obtain ⟨b, H', rfl, J, q⟩ := hr'
  exact ⟨.bl b, H', J, rfl, q⟩
end
end GX
set_option Elab.async false
set_option linter.all false
set_option maxRecDepth 100000
set_option maxHeartbeats 2000000
/-! A dict whose keys are charts, pairs (A, tuple of lands): made with one pair, asked, filled, walked. -/
namespace DX
open PySem PySem.Spec PyProof.Rows L2

/-- a whole number that is not negative; a list of such -/
abbrev vI (n : Nat) : V := .int (n : Int)
abbrev vsI (l : List Nat) : List V := l.map vI
def ckey (A : Nat) (c : List Nat) : NestedKey := .tup [.num A, .tup (c.map fun (n : Nat) => NestedKey.num (n : Int))]
theorem num_inj : ∀ {c d : List Nat}, c.map (fun (n : Nat) => NestedKey.num (n : Int)) = d.map (fun (n : Nat) => NestedKey.num (n : Int)) → c = d
  | [], [], _ => rfl
  | [], _ :: _, h => by simp at h
  | _ :: _, [], h => by simp at h
  | a :: r, b :: t, h => by
    rw [List.map_cons, List.map_cons] at h
    injection h with h1 h2
    injection h1 with h3
    rw [num_inj h2, show a = b by omega]
theorem ckey_inj {A : Nat} {c d : List Nat} (h : ckey A c = ckey A d) : c = d := by
  unfold ckey at h
  injection h with h1
  injection h1 with _ h2
  injection h2 with h3 _
  injection h3 with h4
  exact num_inj h4
theorem depth_nums : ∀ c : List Nat, NestedKey.depthAll (c.map fun (n : Nat) => NestedKey.num (n : Int)) = 0
  | [] => rfl
  | a :: r => by
    rw [List.map_cons]
    show max 0 (NestedKey.depthAll (r.map fun (n : Nat) => NestedKey.num (n : Int))) = 0
    rw [depth_nums r]; rfl
theorem ckey_depth (A : Nat) (c : List Nat) : (ckey A c).depth ≤ 8 := by
  show max 0 (max (NestedKey.depthAll (c.map fun (n : Nat) => NestedKey.num (n : Int)) + 1) 0) + 1 ≤ 8
  rw [depth_nums]; decide

/-- the chart (A, c) stands at p -/
def ChAt (H : Hp) (A : Nat) (p : Addr) (c : List Nat) : Prop := ∃ q, H p = some (.tup [vI A, .ref q]) ∧ H q = some (.tup (vsI c))
theorem nested_ints {h : Heap} : ∀ {c : List Nat} {its : List Value}, Vals (vsI c) its → NestedAll h (c.map fun (n : Nat) => NestedKey.num (n : Int)) its
  | [], _, r => by cases r; exact .nil
  | a :: c, _, r => by
    cases r with
    | cons r rr =>
      obtain ⟨t, rfl⟩ := r
      exact .cons (.int _ _) (nested_ints rr)
theorem key_is {P : Program} {w : World} {H : Hp} {h : Heap} {A : Nat} {p : Addr} {c : List Nat} (ok : HOk P w H h) (e : ChAt H A p c) : (nestedKind P w).is h (ckey A c) p := by
  obtain ⟨q, e1, e2⟩ := e
  obtain ⟨_, its, r, o, h1, h2, n, h3⟩ := (show ObjOk P w H h p (.tup [vI A, .ref q]) from ok p _ e1)
  obtain ⟨_, its2, r2, o2, k1, k2, n2, k3⟩ := (show ObjOk P w H h q (.tup (vsI c)) from ok q _ e2)
  refine ⟨.tup h1 h2 h3 ?_, ckey_depth A c⟩
  cases r with
  | cons ra rr =>
    cases rr with
    | cons rb re =>
      cases re
      obtain ⟨t, rfl⟩ := ra
      cases rb
      exact .cons (.int _ _) (.cons (.tup k1 k2 k3 (nested_ints r2)) .nil)

/-- an entry: the key's cells, where the key stands, the number -/
abbrev Ent : Type := List Nat × Addr × Int
def RelE (A : Nat) (p : Ent) (q : NestedKey × Addr × Value) : Prop := q.1 = ckey A p.1 ∧ q.2.1 = p.2.1 ∧ ∃ t, q.2.2 = Value.int p.2.2 t
def DCok (P : Program) (w : World) (A : Nat) (a : Addr) (kvs : List Ent) (h : Heap) : Prop :=
  (a == sysModules) = false ∧ kvs.length ≤ sizeLine ∧ (kvs.map (·.1)).Nodup ∧ ∃ xs : List (NestedKey × Addr × Value), Paired (RelE A) kvs xs ∧
    ∃ o es ep, h.get? a = some o ∧ o.ExactDict ∧ o.data = .dict es ep ∧ es.toList = xs.map (entryOfKey (nestedKind P w))
def DC (P : Program) (w : World) (A : Nat) (a : Addr) (kvs : List Ent) : HO := .ext (DCok P w A a kvs)
def KeysAt (H : Hp) (A : Nat) (kvs : List Ent) : Prop := ∀ p ∈ kvs, ChAt H A p.2.1 p.1
theorem dc_new {P : Program} {w : World} {H : Hp} {A : Nat} {a : Addr} {kvs : List Ent} {h : Heap} (x : DCok P w A a kvs h) : ObjOk P w H h a (DC P w A a kvs) := by
  refine ⟨x, ?_, fun h1 h2 y k => ?_⟩
  · obtain ⟨_, _, _, _, _, o, _, _, e, _⟩ := x
    exact ⟨o, e⟩
  · obtain ⟨y1, y2, y3, xs, y4, o, es, ep, e, r⟩ := y
    exact ⟨y1, y2, y3, xs, y4, o, es, ep, k _ e, r⟩
section
variable {P : Program} {w : World} {H : Hp} {h : Heap} {A : Nat} {a : Addr} {kvs : List Ent}
theorem dc_ok (ok : HOk P w H h) (e : Rd H a (DC P w A a kvs)) : DCok P w A a kvs h := by
  have x := e.ok ok
  exact x.1
theorem relE_keys : ∀ {kvs : List Ent} {xs : List (NestedKey × Addr × Value)}, Paired (RelE A) kvs xs → xs.map (·.1) = kvs.map fun p => ckey A p.1
  | _, _, .nil => rfl
  | _, _, .cons r t => by rw [List.map_cons, List.map_cons, relE_keys t, r.1]
theorem nodup_ckey : ∀ {kvs : List Ent}, (kvs.map (·.1)).Nodup → (kvs.map fun p => ckey A p.1).Nodup
  | [], _ => List.nodup_nil
  | p :: r, h => by
    rw [List.map_cons, List.nodup_cons] at h ⊢
    refine ⟨fun z => h.1 ?_, nodup_ckey h.2⟩
    obtain ⟨q, hq, e⟩ := List.mem_map.mp z
    exact List.mem_map.mpr ⟨q, hq, ckey_inj e⟩
theorem relE_is (ok : HOk P w H h) : ∀ {kvs : List Ent} {xs : List (NestedKey × Addr × Value)}, Paired (RelE A) kvs xs → KeysAt H A kvs → ∀ x ∈ xs, (nestedKind P w).is h x.1 x.2.1
  | _, _, .nil, _, x, hx => nomatch hx
  | _, _, .cons r t, hk, x, hx => by
    rcases List.mem_cons.mp hx with e | hx
    · subst e
      have z := hk _ List.mem_cons_self
      rw [r.1, r.2.1]
      exact key_is ok z
    · exact relE_is ok t (fun p hp => hk p (List.mem_cons_of_mem _ hp)) x hx
theorem dc_dict (ok : HOk P w H h) (x : DCok P w A a kvs h) (hk : KeysAt H A kvs) : ∃ xs, Paired (RelE A) kvs xs ∧ h.DictOfH (nestedKind P w) a xs := by
  obtain ⟨_, _, nd, xs, pr, o, es, ep, e, hx, hd, he⟩ := x
  exact ⟨xs, pr, o, es, ep, e, hx, hd, he, relE_is ok pr hk, by rw [relE_keys pr]; exact nodup_ckey nd⟩
theorem atKey_relE {c : List Nat} : ∀ {kvs : List Ent} {xs : List (NestedKey × Addr × Value)}, Paired (RelE A) kvs xs →
    (c ∉ kvs.map (·.1) → atKey xs (ckey A c) = none) ∧ (c ∈ kvs.map (·.1) → ∃ p z t, (c, p, z) ∈ kvs ∧ atKey xs (ckey A c) = some (p, Value.int z t))
  | _, _, .nil => ⟨fun _ => rfl, fun h => nomatch h⟩
  | p :: kvs, q :: xs, .cons r t => by
    obtain ⟨i1, i2⟩ := atKey_relE (c := c) t
    have hc : ∀ l : List (NestedKey × Addr × Value), atKey (q :: l) (ckey A c) = if q.1 = ckey A c then some q.2 else atKey l (ckey A c) := fun l => by
      unfold atKey
      rw [List.find?_cons]
      by_cases h : q.1 = ckey A c
      · simp [h]
      · simp [h]
    constructor
    · intro h
      rw [hc, if_neg ?_]
      · exact i1 fun z => h (by rw [List.map_cons]; exact List.mem_cons_of_mem _ z)
      · intro z
        rw [r.1] at z
        exact h (by rw [List.map_cons, ckey_inj z]; exact List.mem_cons_self)
    · intro h
      by_cases e : q.1 = ckey A c
      · obtain ⟨t', et⟩ := r.2.2
        rw [hc, if_pos e]
        have e' := e
        rw [r.1] at e'
        have ec := ckey_inj e'
        refine ⟨p.2.1, p.2.2, t', ?_, ?_⟩
        · rw [← ec]; exact List.mem_cons_self
        · rw [← r.2.1, ← et]
      · rw [hc, if_neg e]
        have h' : c ∈ kvs.map (·.1) := by
          rw [List.map_cons] at h
          rcases List.mem_cons.mp h with z | z
          · exact absurd (by rw [r.1, z]) e
          · exact z
        obtain ⟨p', z, t', m, e2⟩ := i2 h'
        exact ⟨p', z, t', List.mem_cons_of_mem _ m, e2⟩
end

section
variable {X : Cx} {pins : List (Addr × Obj)} {σ : L2.St} {H : Hp} {s : Shared}
theorem room8 {A : Around} (hu : A.units + 64 < cLine) (P : Program) (w : World) : (nestedKind P w).room A.in1 := by
  show A.units + 1 + 8 < cLine
  omega
/-- c not in d -/
theorem op_dcNotIn (hu : X.A.units + 64 < cLine) : OpR X (compareOp .NotIn) (fun x y H Q => ∃ p d A c kvs, x = .ref p ∧ y = .ref d ∧ ChAt H A p c ∧ H d = some (DC X.prog X.w A d kvs) ∧ KeysAt H A kvs ∧ Q (.bl (decide (c ∉ kvs.map (·.1)))) H) := by
  intro pins s σ H x y v u Q I rx ry h
  obtain ⟨p, d, A, c, kvs, rfl, rfl, hc, hd, hk, q⟩ := h
  cases rx
  cases ry
  have x := dc_ok I.hok (.inl hd)
  obtain ⟨xs, pr, dd⟩ := dc_dict I.hok x hk
  refine wpAny_notIn_heap (room8 hu _ _) (key_is I.hok hc) x.1 dd ⟨.bl _, H, I.tok _, rfl, ?_⟩
  obtain ⟨a1, a2⟩ := atKey_relE (c := c) pr
  by_cases hm : c ∈ kvs.map (·.1)
  · obtain ⟨p', z, t, _, e⟩ := a2 hm
    rw [e]
    rw [decide_eq_false (by simpa using hm)] at q
    exact q
  · rw [a1 hm]
    rw [decide_eq_true hm] at q
    exact q
/-- d[c], there -/
def tDCGet (P : Program) (w : World) (td tk : TE) : TE := fun σ H Q => td σ H fun y H1 => tk σ H1 fun x H2 => ∃ p d A c kvs, x = .ref p ∧ y = .ref d ∧ ChAt H2 A p c ∧ H2 d = some (DC P w A d kvs) ∧ KeysAt H2 A kvs ∧ c ∈ kvs.map (·.1) ∧ ∀ p' z, (c, p', z) ∈ kvs → Q (.int z) H2
theorem pe_dcGet {o i : Expr} {td tk : TE} {pos : Pos} (hu : X.A.units + 64 < cLine) (ho : PE X o td) (hi : PE X i tk) (hs : NoSl i) : PE X (.Subscript o i pos) (tDCGet X.prog X.w td tk) := by
  refine ⟨fun pins s σ H Q I h => ?_⟩
  refine subD_of PySem.F.slot_dict_getitem.lookup hs (thn (ho.run pins s σ H _ I h) fun u s1 ⟨x, H1, I1, rx, q1⟩ => thn (hi.run pins s1 σ H1 _ I1 q1) fun iv s2 ⟨y, H2, I2, ry, p, d, A, c, kvs, ex, ey, hc, hd, hk, hm, q⟩ => ?_)
  subst ex ey
  obtain rfl : u = Value.ref d := rx
  obtain rfl : iv = Value.ref p := ry
  have x := dc_ok I2.hok (.inl hd)
  obtain ⟨xs, pr, dd⟩ := dc_dict I2.hok x hk
  obtain ⟨p', z, t, hm2, e⟩ := (atKey_relE (c := c) pr).2 hm
  refine ⟨dd.typeIs, wpAny_getItem_heap (room8 hu _ _) (key_is I2.hok hc) dd e ⟨.int z, H2, I2.tok _, ⟨t, rfl⟩, q p' z hm2⟩⟩
/-- d[c] = z, a new key -/
theorem set_dc (hu : X.A.units + 64 < cLine) : PSet X (fun o i v H Q => ∃ d p A c kvs z, o = .ref d ∧ i = .ref p ∧ v = .int z ∧ ChAt H A p c ∧ H d = some (DC X.prog X.w A d kvs) ∧ KeysAt H A kvs ∧ c ∉ kvs.map (·.1) ∧ kvs.length < sizeLine ∧
    Q (upd H d (DC X.prog X.w A d (kvs ++ [(c, p, z)])))) := by
  intro pins s σ H o i v ov iv u Q I ro ri rv h
  obtain ⟨d, p, A, c, kvs, z, rfl, rfl, rfl, hc, hd, hk, hm, hl, q⟩ := h
  cases ro
  cases ri
  obtain ⟨t, rfl⟩ := rv
  have x := dc_ok I.hok (.inl hd)
  obtain ⟨xs, pr, dd⟩ := dc_dict I.hok x hk
  have hz : xs.length ≤ sizeLine := by rw [← Paired.length pr]; exact x.2.1
  have en := (atKey_relE (c := c) pr).1 hm
  refine wpAny_setItem_heap (hsz := hz) (room8 hu _ _) (key_is I.hok hc) dd fun h' dd' hs => ⟨_, ?_, q⟩
  rw [storedH_new en] at dd'
  obtain ⟨o, es, ep, e, hx, hdt, he, _, _⟩ := dd'
  refine d_write I (by rw [hd]; exact True.intro) hs ⟨o, e⟩ (dc_new ⟨x.1, by rw [List.length_append]; exact hl, ?_, xs ++ [(ckey A c, p, .int z t)], ?_, o, es, ep, e, hx, hdt, he⟩)
  · rw [List.map_append, List.map_singleton]
    refine List.nodup_append.mpr ⟨x.2.2.1, List.nodup_cons.mpr ⟨(fun z => nomatch z), List.nodup_nil⟩, fun a ha b hb e => ?_⟩
    rw [List.mem_singleton.mp hb] at e
    rw [e] at ha
    exact hm ha
  · exact pairedApp pr ⟨rfl, rfl, t, rfl⟩
where
  pairedApp {A : Nat} : ∀ {kvs : List Ent} {xs : List (NestedKey × Addr × Value)} {p : Ent} {q : NestedKey × Addr × Value}, Paired (RelE A) kvs xs → RelE A p q → Paired (RelE A) (kvs ++ [p]) (xs ++ [q])
    | _, _, _, _, .nil, r => .cons r .nil
    | _, _, _, _, .cons a b, r => .cons a (pairedApp b r)
/-- {c: z}; the new dict stands empty while the pair is made -/
theorem pe_dcOne {k v : Expr} {tk tv : TE} {pos : Pos} (hu : X.A.units + 64 < cLine) (hk : PE X k tk) (hv : PE X v tv) : PE X (.Dict [some k] [v] pos) (fun σ H Q => ∀ d, H d = none → tk σ (upd H d (DC X.prog X.w 0 d [])) fun x H1 => tv σ H1 fun y H2 =>
    ∃ p A c z, x = .ref p ∧ y = .int z ∧ ChAt H2 A p c ∧ H2 d = some (DC X.prog X.w 0 d []) ∧ Q (.ref d) (upd H2 d (DC X.prog X.w A d [(c, p, z)]))) := by
  refine ⟨fun pins s σ H Q I q => ?_⟩
  have hn := I.hok.fresh (Nat.le_refl s.heap.objs.size)
  have hd0 : (s.heap.objs.size == sysModules) = false := beq_eq_false_iff_ne.mpr (Ne.symm (Nat.ne_of_lt I.big))
  have I1 := I.laid (a := s.heap.objs.size) (o := DC X.prog X.w 0 s.heap.objs.size []) (h' := s.heap.push { cls := .type "dict", data := .dict #[] }) (t' := s.toks) (fun _ _ q => Heap.get?_push_of_some _ q) (Nat.le_refl _)
    (dc_new ⟨hd0, Nat.zero_le _, List.nodup_nil, [], .nil, _, #[], 0, Heap.get?_push_size _ rfl, ⟨rfl, rfl, rfl⟩, rfl, rfl⟩)
  have hu8 : (nestedKind X.prog X.w).room X.A := by show X.A.units + 8 < cLine; omega
  rw [arm_eval_Dict, show (evalEachOpt [some k] X.env).zip ((evalEach [v] X.env).map fun v => do let x ← v; standAt pos; pure x) = (pairTrees [some k] [v] X.env pos).map fun p => (some p.1, p.2) from rfl,
    dictDisplay_pairs (pairTrees [some k] [v] X.env pos) (by intro z; cases z) (by show 1 < 17; decide)]
  refine wpAny_bind (wpAny_standAt (wpAny_bind (wpAny_subDictH (knd := nestedKind X.prog X.w) (Q := fun d s' => wpAny (model X.prog X.w) X.A (pure (Value.ref d)) (EP X pins σ Q) X.xe s') hu8 (by show 1 ≤ 15; decide) ?_)))
  refine pairTrees_cons_walk (thn (hk.run pins _ σ _ _ I1 (q _ hn)) fun u s1 ⟨x, H1, I2, rx, q1⟩ => thn (hv.run pins s1 σ H1 _ I2 q1) fun w2 s2 ⟨y, H2, I3, ry, p, A, c, z, ex, ey, hc, hd, q2⟩ => pairTrees_nil_walk ?_)
  subst ex ey
  obtain rfl : u = Value.ref p := rx
  obtain ⟨t, rfl⟩ := ry
  obtain ⟨z1, z2, z3, xs, pr, o, es, ep, e, hx, hdt, he⟩ := dc_ok I3.hok (.inl hd)
  cases pr
  refine ⟨[(ckey A c, p, .int z t)], ⟨rfl, rfl, key_is I3.hok hc, trivial⟩, ⟨o, es, ep, e, hx, hdt, he, (fun x hx => nomatch hx), List.nodup_nil⟩, fun h' tk hm hs => wpAny_pure ?_⟩
  obtain ⟨o', es', ep', e', hx', hdt', he', _, _⟩ := hm
  refine ⟨.ref s.heap.objs.size, _, d_write (t' := tk) I3 (by rw [hd]; exact True.intro) hs ⟨o', e'⟩ (dc_new (kvs := [(c, p, z)]) ⟨z1, (by show 1 ≤ sizeLine; decide), List.nodup_cons.mpr ⟨(fun z => nomatch z), List.nodup_nil⟩, [(ckey A c, p, .int z t)], .cons ⟨rfl, rfl, t, rfl⟩ .nil, o', es', ep', e', hx', hdt', he'⟩), rfl, q2⟩

/-! ### the keys of the dict, locked -/
def Itc (P : Program) (w : World) (d : Addr) (o : Obj) (A : Nat) (kvs : List Ent) : It :=
  ⟨fun i H => H d = some (.frz o (DC P w A d kvs)) ∧ i < kvs.length, fun i H x H' => H' = H ∧ ∃ c p z, kvs[i]? = some (c, p, z) ∧ x = .ref p, fun i H => H d = some (.frz o (DC P w A d kvs)) ∧ kvs.length ≤ i⟩
theorem frzC {d : Addr} {o : Obj} {A : Nat} {kvs : List Ent} (I : Inv X pins σ H s) (h : H d = some (.frz o (DC X.prog X.w A d kvs))) :
    (d == sysModules) = false ∧ s.heap.get? d = some o ∧ o.ExactDict ∧ ∃ (es : Array DictEntry) (ep : Nat), o.data = .dict es ep ∧ es.size = kvs.length ∧
      ∀ (i : Nat) (c : List Nat) (p : Addr) (z : Int), kvs[i]? = some (c, p, z) → ∃ en : DictEntry, es[i]? = some en ∧ en.key = .ref p := by
  obtain ⟨hd, x⟩ := I.hok d _ h
  obtain ⟨z1, z2, z3, xs, pr, o', es, ep, ho, hx, hdt, he⟩ := x.1
  rw [hd] at ho
  cases ho
  refine ⟨z1, hd, hx, es, ep, hdt, ?_, fun i c p z e => ?_⟩
  · have l1 : es.size = xs.length := size_of_entries he
    have l2 : kvs.length = xs.length := Paired.length pr
    omega
  · obtain ⟨b, hb, e1, e2, _⟩ := paired_get pr e
    have q := entry_at he i
    rw [hb] at q
    exact ⟨_, q, by show Value.ref b.2.1 = Value.ref p; rw [e2]⟩
theorem turn_dc {P : Program} {w : World} {K : PySem.W.Frag} {tg : Expr} {d : Addr} {o : Obj} {A : Nat} {kvs : List Ent} {es : Array DictEntry} {ep : Nat} (it : Addr) (hod : o.data = .dict es ep) :
    Turn P w K tg (Itc P w d o A kvs) [it] it (fun i h => h.IsKeyIter it d i kvs.length ep) where
  mem := by simp
  obj := fun i h st b hb => by
    have e : b = it := by simpa using hb
    subst e
    obtain ⟨oi, e, c, dd⟩ := st
    exact ⟨oi, e, fun v z => by rw [dd] at z; cases z⟩
  keep := fun i h h' st k => st.at fun oi e => k it (by simp) oi e
  item := by
    intro X hP hw hK hc i pins s σ H E I hf st hg
    subst hP hw hK
    obtain ⟨hd, hi⟩ := hg
    obtain ⟨f0, f1, f2, f3, f4, f5⟩ := hf it (by simp)
    obtain ⟨hs, hgd, hx, es', ep', hdt, hsz, ent⟩ := frzC I hd
    obtain ⟨rfl, rfl⟩ := dict_ep hod hdt
    obtain ⟨⟨c, p, z⟩, hkv⟩ : ∃ p, kvs[i]? = some p := ⟨kvs[i], List.getElem?_eq_getElem hi⟩
    obtain ⟨en, hen, hkey⟩ := ent i c p z hkv
    refine next_key_item st hgd hdt hsz hen fun h' st' sb => ?_
    have I1 : Inv X pins σ H { s with heap := h' } := I.turned (t' := s.toks) (fun b ob hb e => (sb.2 b hb).trans e) f0 f1 f3 f4 f5
    obtain ⟨oi, e, c', dd⟩ := id st'
    exact ⟨en.key, rfl, go_of (s := { s with heap := h' }) e c' dd (by decide) ⟨.ref p, H, I1, hkey, ⟨rfl, c, p, z, hkv, rfl⟩, st', fun b hb => (hf b hb).1⟩⟩
  done := by
    intro X hP hw hK hc i pins s σ H E I hf st hg
    subst hP hw hK
    obtain ⟨hd, hi⟩ := hg
    obtain ⟨f0, f1, f2, f3, f4, f5⟩ := hf it (by simp)
    obtain ⟨hs, hgd, hx, es', ep', hdt, hsz, ent⟩ := frzC I hd
    obtain ⟨rfl, rfl⟩ := dict_ep hod hdt
    exact next_key_end (I.ok.hd hc) st hgd hdt hsz hi fun h' eb => ⟨rfl, I.turned (t' := s.toks) (fun b ob hb e => eb b ob hb e) f0 f1 f3 f4 f5⟩
  self := fun A i s Q E st h => by
    refine wpAny_pyIter_slot st.typeIs F.slot_dict_keyiterator_iter (wpAny_call_entry F.slot_dict_keyiterator_iter st.typeIs F.entry_dict_keyiterator_iter ?_ (F.args_dict_keyiterator_iter_1 _))
    show wpAny _ _ (ret (.ref it)) _ _ s
    exact wpAny_pure ⟨_, rfl, "dict_keyiterator", _, st.typeIs, F.slot_dict_keyiterator_next.lookup, h⟩
def iDC (P : Program) (w : World) (td : TE) : TI := fun σ H R => td σ H fun x H1 => ∃ d o A kvs, x = .ref d ∧ H1 d = some (.frz o (DC P w A d kvs)) ∧ R (Itc P w d o A kvs) H1
theorem pi_dc {tg e : Expr} {td : TE} (he : PE X e td) : PI X tg e (iDC X.prog X.w td) := by
  refine ⟨fun pins s σ H R I h => ?_⟩
  refine thn (he.run pins s σ H _ I h) fun u s1 ⟨x, H1, I1, rx, d, o, A, kvs, ex, hd, q⟩ => ?_
  subst ex
  obtain rfl : u = Value.ref d := rx
  obtain ⟨hs, hgd, hx, es, ep, hdt, hsz, ent⟩ := frzC I1 hd
  refine iter_keys hs hgd hx hdt (pi_one (tk := s1.toks) I1 _ (turn_dc _ hdt) ⟨_, Heap.get?_push_size _ rfl, rfl, ?_⟩ q)
  rw [hsz] <;> rfl
end
end DX
set_option Elab.async false
set_option linter.all false
set_option maxRecDepth 100000
set_option maxHeartbeats 2000000
/-! set(list), set(tuple) of few different small numbers, whatever their length; == of two such sets. -/
namespace SX2
open PySem PySem.Spec PyProof.Rows L2

/-! ### no more different things than there are -/
theorem nodup_len {α : Type} [DecidableEq α] : ∀ (l m : List α), l.Nodup → (∀ x ∈ l, x ∈ m) → l.length ≤ m.length
  | [], _, _, _ => Nat.zero_le _
  | a :: r, m, hn, hs => by
    rw [List.nodup_cons] at hn
    have ha : a ∈ m := hs a List.mem_cons_self
    have ih := nodup_len r (m.erase a) hn.2 fun x hx => (List.mem_erase_of_ne (fun e : x = a => hn.1 (by rw [← e]; exact hx))).mpr (hs x (List.mem_cons_of_mem _ hx))
    rw [List.length_erase_of_mem ha] at ih
    have hp : 0 < m.length := List.length_pos_of_mem ha
    rw [List.length_cons]
    omega
/-- ints from 0 to below B -/
def upTo (B : Nat) : List Int := (List.range B).map fun (n : Nat) => (n : Int)
theorem mem_upTo {B : Nat} {z : Int} (h0 : 0 ≤ z) (h1 : z < B) : z ∈ upTo B := List.mem_map.mpr ⟨z.toNat, List.mem_range.mpr (by omega), Int.toNat_of_nonneg h0⟩
theorem small_set {w : World} {h : Heap} {a : Addr} {ns : List Int} {c B : Nat} (R : SetR w h a (fun j => decide (j ∈ ns)) c) (hs : ∀ z ∈ ns, 0 ≤ z ∧ z < B) : c ≤ B := by
  obtain ⟨o, es, ep, t, _, _, _, _, nd, hm, _, _, hn, _, _⟩ := R
  have q := nodup_len (es.toList.map keyOf) (upTo B) nd fun x hx => by
    have z := (hm x).mpr hx
    have z2 : x ∈ ns := of_decide_eq_true z
    exact mem_upTo (hs x z2).1 (hs x z2).2
  have l1 : (upTo B).length = B := by unfold upTo; rw [List.length_map, List.length_range]
  rw [l1, List.length_map, Array.length_toList, hn] at q
  exact q

section
variable {P : Program} {w : World} {A : Around} {E : Value → Shared → Prop} {s : Shared}
/-- the loop of set.update over ints below B -/
theorem upd_small {I : Addr} {fp wr : List Addr} {G : Array GenState → Array GenState → Prop} {n : Nat} {Pv : Nat → Value → Prop} {St : Nat → Shared → Prop} {R : Result → Shared → Prop} {B : Nat}
    (W : WalksS P w A.in1 I fp wr G n Pv St) (S : Addr) (hSf : S ∉ fp) (ns : List Int) (hn : n = ns.length) (hB : B + 1 < scanBound) (hs : ∀ z ∈ ns, 0 ≤ z ∧ z < B) (hval : ∀ i v, Pv i v → ∃ k t, ns[i]? = some k ∧ v = .int k t) :
    ∀ (k i : Nat) (s : Shared), n - i = k → i ≤ n → St i s → (∃ c, SetR w s.heap S (fun j => decide (j ∈ ns.take i)) c) →
      (∀ s' c, Moved (S :: wr) G s s' → SetR w s'.heap S (fun j => decide (j ∈ ns)) c → R (.ok (.ret .none)) s') →
      codeAny (model P w) A (.builtin "set.update.loop" ⟨[.ref S, .ref I], []⟩) R s := by
  have hSw : S ∉ wr := fun h => hSf (W.sub _ h)
  have hsub : ∀ b ∈ wr, b ∈ S :: wr := fun b hb => List.mem_cons_of_mem _ hb
  intro k
  induction k with
  | zero =>
    intro i s hk' hi hst ⟨c, hS⟩ hR
    have hin : i = n := by omega
    subst hin
    refine codeAny_builtin F.entry_set_update_loop ?_
    rw [Around.under_plainId F.plain_set_update_loop _]
    show wpAny _ A.in1 (pyNext (.ref I) >>= _) _ _ s
    refine wpAny_bind (W.done s _ _ hst fun s' hm => ?_)
    show wpAny _ A.in1 (ret Value.none) _ _ s'
    rw [show ns.take i = ns from List.take_of_length_le (by omega)] at hS
    exact wpAny_pure (hR s' c (hm.mono hsub) (hS.at fun o e => hm.heap S o hSw e))
  | succ k ih =>
    intro i s hk' hi hst ⟨c, hS⟩ hR
    have hlt : i < n := by omega
    have hc : c ≤ B := small_set hS fun z hz => hs z (List.mem_of_mem_take hz)
    refine codeAny_builtin F.entry_set_update_loop ?_
    rw [Around.under_plainId F.plain_set_update_loop _]
    show wpAny _ A.in1 (pyNext (.ref I) >>= _) _ _ s
    refine wpAny_bind (W.item i s _ _ hlt hst fun v s' hP hst' hm => ?_)
    obtain ⟨z, t, hz, rfl⟩ := hval i v hP
    have hS' : SetR w s'.heap S (fun j => decide (j ∈ ns.take i)) c := hS.at fun o e => hm.heap S o hSw e
    show wpAny _ A.in1 (holding [Value.int z t] (setAdd S (.int z t)) >>= _) _ _ s'
    refine wpAny_bind (wpAny_holding ?_)
    unfold setAdd
    refine wpAny_holding ?_
    refine wpAny_bind ((intKind P w).pyHash (k := z) (intKind_is _ _ _ _) ?_)
    refine setR_add_hashed (s := { s' with toks := s'.toks + 1 }) hS' (by omega) fun h' hsb hS2 => ?_
    have hS3 : ∃ c', SetR w h' S (fun j => decide (j ∈ ns.take (i + 1))) c' := ⟨_, hS2.congr fun j => by
      rw [List.take_add_one, hz]
      simp [List.mem_append]⟩
    refine wpAny_pure ⟨plainId_quiet F.plain_set_update_loop _, ih (i + 1) _ (by omega) hlt (W.frame _ s' _ _ hst' (Nat.le_succ _) fun b hb o e => ?_) hS3 fun s'' c2 hm'' hS'' => ?_⟩
    · rw [hsb.2 b (fun h : b = S => hSf (by rw [← h]; exact hb))]; exact e
    · refine hR s'' c2 (Moved.trans W.gtrans ((hm.mono hsub).then_heap (Nat.le_succ _) fun b o hb e => ?_) hm'') hS''
      rw [hsb.2 b (fun h : b = S => hb (by rw [h]; exact List.mem_cons_self))]; exact e

/-- a new empty set -/
abbrev set0 (w : World) : Obj := { cls := .type "set", dict := none, data := .set #[] 0 (.fresh 0 0 (!w.params.followText "set-order")) }
set_option maxHeartbeats 3200000 in
theorem call_set_small {l : Addr} {items : Array Value} {B : Nat} (ns : List Int) {Q : Value → Shared → Prop} (hh : A.handled = none) (hl : s.heap.IsList l items) (hit : IntsAre items.toList ns) (hB : B + 1 < scanBound) (hs : ∀ z ∈ ns, 0 ≤ z ∧ z < B)
    (h : ∀ (h' : Heap) (tk c : Nat), SetR w h' s.heap.objs.size (fun j => decide (j ∈ ns)) c → (∀ b o, s.heap.get? b = some o → h'.get? b = some o) → Q (.ref s.heap.objs.size) { s with heap := h', toks := tk }) :
    wpAny (model P w) A (call (.type "set") [.ref l]) Q E s := by
  have hisz : items.size = ns.length := by
    have q := IntsAre.length hit
    rw [Array.length_toList] at q
    exact q
  obtain ⟨c, tl, hmro⟩ := F.called_set.mro
  have hmade := F.called_set.made
  have hsub := F.called_set.sub
  refine wpAny_call (codeAny_of_tree ?_)
  show wpAny _ _ (callAny (.type "set") _) _ _ _
  refine wpAny_pure ⟨Code.quiet_builtin _ (by decide +kernel), codeAny_builtin F.entry_type_call ?_⟩
  rw [Around.under_plain (weight_type_call_type "set" [.ref l] []) rfl]
  have h1 := F.called_set.notType
  have h2 := F.called_set.canCreate
  have hct := F.typeCall_set_1 (.ref l)
  repeat (any_goals (first | assumption | wp_step))
  refine codeAny_mono (code_set_led1 (.ref l) (E := E) (Q₁ := fun obj s₁ => obj = .ref s.heap.objs.size ∧ s₁ = { s with heap := s.heap.push (set0 w) }) ⟨rfl, rfl⟩) fun r s₁ hr => ?_
  cases r with
  | error e => exact hr
  | ok fl =>
    cases fl with
    | ret obj =>
      obtain ⟨rfl, rfl⟩ := hr
      have hS : (s.heap.push (set0 w)).get? s.heap.objs.size = some (set0 w) := Heap.get?_push_size _ rfl
      have hT : Shared.TypeIs { s with heap := s.heap.push (set0 w) } (.ref s.heap.objs.size) "set" := ⟨_, hS, rfl⟩
      have hli := F.called_set.init.lookup
      have hbi := F.called_set.init.bind (.ref s.heap.objs.size)
      repeat (any_goals (first | assumption | wp_step))
      refine codeAny_mono (codeAny_call_builtin (R := wants (fun r s₂ => r = .none ∧ ∃ h' tk c, s₂ = { s with heap := h', toks := tk } ∧ SetR w h' s.heap.objs.size (fun j => decide (j ∈ ns)) c ∧
          (∀ b o, s.heap.get? b = some o → h'.get? b = some o)) E) F.called_set.init.plain F.entry_set_init (check_set_init_1 hT ?_)) fun r₂ s₂ hr₂ => ?_
      · obtain ⟨ol, hol, hcl, nl, hdl⟩ := hl
        obtain ⟨ocls, odict, odata, oslots⟩ := ol
        simp only at hcl hdl
        subst hcl; subst hdl
        have hol' : (s.heap.push (set0 w)).get? l = some { cls := .type "list", dict := odict, data := .seq items nl, slots := oslots } := Heap.get?_push_of_some _ hol
        have hsls := F.sub_list_set
        have hslf := F.sub_list_frozenset
        have hne : (Value.type "list" == Value.type "dict") = false := by decide
        have hl1 : (s.heap.push (set0 w)).IsList l items := ⟨_, hol', rfl, nl, rfl⟩
        unfold Builtin.«set.__init__» noKeywords Builtin.Frozenset.updateFrom
        generalize hPI : pyIter = PI
        wp_walk
        subst hPI
        refine wpAny_pyIter_list hl1 ?_
        refine wpAny_bind (wpAny_runValue ?_)
        have hlS : l < s.heap.objs.size := Heap.lt_size hol
        have hh3 : A.in1.in1.in1.handled = none := by simp [hh]
        have hneI : l ≠ (s.heap.push (set0 w)).objs.size := by
          rw [Heap.size_push]; exact Nat.ne_of_lt (Nat.lt_succ_of_lt hlS)
        have hSf : s.heap.objs.size ∉ [(s.heap.push (set0 w)).objs.size, l] := by
          rw [Heap.size_push]; simp only [List.mem_cons, List.mem_singleton, List.not_mem_nil, or_false, not_or]
          exact ⟨Nat.ne_of_lt (Nat.lt_succ_self _), Nat.ne_of_gt hlS⟩
        have hval : ∀ (i : Nat) (v : Value), items[i]? = some v → ∃ k t, ns[i]? = some k ∧ v = .int k t := fun i v hv => by
          have hi : i < ns.length := by rw [← hisz]; exact (Array.getElem?_eq_some_iff.mp hv).1
          obtain ⟨t, e⟩ := PyProof.Rows.IntsAre.int_at hit i v (by rw [Array.getElem?_toList]; exact hv)
          refine ⟨ns[i], t, List.getElem?_eq_getElem hi, ?_⟩
          rw [e, List.getD_eq_getElem?_getD, List.getElem?_eq_getElem hi] <;> rfl
        refine upd_small ((Walks.list hh3 _ l hneI items).toS) s.heap.objs.size hSf ns hisz hB hs hval (items.size - 0) 0 _ (by omega) (Nat.zero_le _)
          ⟨⟨_, Heap.get?_push_size _ rfl, rfl, rfl⟩, (hl1.push _)⟩ ⟨0, setR_new_at (Heap.get?_push_of_some _ hS)⟩ fun s' c' hm hS' => ?_
        obtain ⟨h', g2, d', tk', os'⟩ := s'
        have eg : g2 = s.gens := hm.gens
        have ed : d' = s.drawn := hm.drawn
        have eo : os' = s.os := hm.os
        subst eg; subst ed; subst eo
        show wpAny _ _ _ _ _ _
        refine wpAny_pure ?_
        show wpAny _ _ (ret Value.none) _ _ _
        refine wpAny_pure ⟨rfl, h', tk', c', rfl, hS', fun b o e => ?_⟩
        have hb0 : b < s.heap.objs.size := Heap.lt_size e
        have hb2 : b ≠ (s.heap.push (set0 w)).objs.size := by
          rw [Heap.size_push]; exact Nat.ne_of_lt (Nat.lt_succ_of_lt hb0)
        exact hm.heap b o (by simp only [List.mem_cons, List.mem_singleton, List.not_mem_nil, or_false, not_or]; exact ⟨Nat.ne_of_lt hb0, hb2⟩) (Heap.get?_push_of_some _ (Heap.get?_push_of_some _ e))
      · cases r₂ with
        | error e => exact hr₂
        | ok fl₂ =>
          cases fl₂ with
          | ret r =>
            obtain ⟨rfl, h', tk, c', rfl, hS', hk'⟩ := hr₂
            repeat (any_goals (first | assumption | wp_step))
            exact h _ _ _ hS' hk'
          | _ => exact hr₂.elim
    | _ => exact hr.elim
end
end SX2
set_option Elab.async false
set_option linter.all false
set_option maxRecDepth 100000
set_option maxHeartbeats 2000000
/-! sets of small ints over the layer -/
namespace SX2
open PySem PySem.Spec PyProof.Rows L2

/-! ### over the layer -/
theorem ints_vals : ∀ {ns : List Int} {us : List Value}, Vals (ns.map V.int) us → IntsAre us ns
  | [], _, .nil => .nil
  | n :: ns, _, .cons r t => by
    obtain ⟨k, rfl⟩ := r
    exact .cons n k (ints_vals t)
section
variable {X : Cx}
/-- set(xs), a list or a tuple of ints from 0 to below 100: some number n of members -/
def rSetS (K : PySem.W.Frag) (w : World) : List V → Hp → VK → Prop := fun vs H Q => ∃ (p : Addr) (ns : List Int), vs = [.ref p] ∧ (SqL K H p (ns.map V.int) ∨ (SqT K H p (ns.map V.int) ∧ ns.length ≤ 1000)) ∧ (∀ z ∈ ns, 0 ≤ z ∧ z < (100 : Nat)) ∧
  ∀ a n, H a = none → n ≤ 100 → (∃ ks : List Int, ks.Nodup ∧ ks.length = n ∧ ∀ k, k ∈ ks ↔ k ∈ ns) → Q (.ref a) (upd H a (SetO w a (fun j => decide (j ∈ ns)) n))
theorem cr_setS (hc : X.calm = true) : CallR X (.type "set") (rSetS X.K X.w) := by
  intro pins s σ H vs us Q I r h
  obtain ⟨p, ns, rfl, hq, hs, q⟩ := h
  rw [Vals.ref1 r]
  have fin : ∀ (h' : Heap) (tk c : Nat), SetR X.w h' s.heap.objs.size (fun j => decide (j ∈ ns)) c → (∀ b o, s.heap.get? b = some o → h'.get? b = some o) → EP X pins σ Q (.ref s.heap.objs.size) { s with heap := h', toks := tk } := fun h' tk c hR hk =>
    ⟨.ref s.heap.objs.size, _, I.laid (t' := tk) hk (Nat.le_refl _) (setO_new hR), rfl, q _ c (I.hok.fresh (Nat.le_refl _)) (small_set hR hs) (by
      obtain ⟨o, es, ep, t, _, _, _, _, h5, h6, _, _, h9, _⟩ := hR
      exact ⟨es.toList.map keyOf, h5, by rw [List.length_map, Array.length_toList]; exact h9, fun k => by rw [← h6 k, decide_eq_true_eq]⟩)⟩
  rcases hq with hq | ⟨hq, hl⟩
  · obtain ⟨its, rv, pl, hz⟩ := I.list hq
    exact call_set_small ns (I.ok.hd hc) pl.isList (by simpa using ints_vals rv) (by decide) hs fin
  · obtain ⟨its, rv, ht, hz⟩ := I.tuple hq
    exact call_set_tupI ns (I.ok.hd hc) (show s.heap.IsTuple p its.toArray from ht) (by simpa using ints_vals rv) (by unfold scanBound; omega) fun h' tk c hR _ hk => fin h' tk c hR hk
end
section
variable {P : Program} {w : World} {A : Around} {E : Value → Shared → Prop} {s : Shared}
theorem entry_set_eq : entryFor table "set.__eq__" = some Builtin.«frozenset.__eq__» :=
  entryFor_alias (id' := "frozenset.__eq__") (by kernel_rfl) rfl (by decide +kernel) (by kernel_rfl)
theorem isSet_any {a : Addr} {Q : Bool → Shared → Prop} (hT : s.TypeIs (.ref a) "set") (h : Q true s) : wpAny (model P w) A (Builtin.Frozenset.isAnySet (.ref a)) Q E s := by
  unfold Builtin.Frozenset.isAnySet orM
  refine wpAny_bind (wpAny_isInstance hT sub_set_self ?_)
  exact wpAny_pure h
theorem size_ok {a : Addr} {S : Int → Bool} {n : Nat} {Q : Nat → Shared → Prop} (ha : SetR w s.heap a S n) (h : Q n s) : wpAny (model P w) A (Builtin.Frozenset.sizeOf a) Q E s := by
  obtain ⟨o, es, ep, t, ho, _, hd, _, _, _, _, hf, hn, _, _⟩ := ha
  unfold Builtin.Frozenset.sizeOf
  refine wpAny_bind (wpAny_setEntries_of ho hd hf (wpAny_pure ?_))
  rw [hn]; exact h
theorem quiet_loop {γ : Type} {Q : Option γ × Unit → Shared → Prop} (g : Sem (ForInStep (Option γ × Unit))) (f : Int × Value → Option γ × Unit → Sem (ForInStep (Option γ × Unit)))
    (hf : ∀ k x acc, f (k, x) acc = Builtin.Frozenset.quietEq x >>= fun d => if (!d) = true then g else pure (ForInStep.yield (none, ()))) (h : Q (none, ()) s) :
    ∀ l : List (Int × Value), (∀ e ∈ l, GoodE e) → wpAny (model P w) A (forIn l (none, ()) f) Q E s
  | [], _ => by
    rw [List.forIn_nil]
    exact wpAny_pure h
  | (k, x) :: r, hg => by
    rw [List.forIn_cons, hf]
    obtain ⟨z, tk, e, _⟩ := hg (k, x) List.mem_cons_self
    have e' : x = Value.int z tk := e
    subst e'
    refine wpAny_bind (wpAny_bind (wpAny_of_eq (a := true) rfl ?_))
    rw [if_neg (by decide)]
    refine wpAny_pure ?_
    exact quiet_loop g f hf h r fun e he => hg e (List.mem_cons_of_mem _ he)
theorem unseen_ok {a b : Addr} {S T : Int → Bool} {n m : Nat} {Q : List (Int × Value) → Shared → Prop} (ha : SetR w s.heap a S n) (hb : SetR w s.heap b T m)
    (h : ∀ l : List (Int × Value), l.length = n → (∀ e ∈ l, GoodE e) → (∀ k, S k = true ↔ k ∈ l.map keyOf) → Q l s) : wpAny (model P w) A (Builtin.Frozenset.walkUnseen a b) Q E s := by
  obtain ⟨o, es, ep, t, ho, _, hd, g, _, hm, _, hf, hn, _, _⟩ := ha
  obtain ⟨o2, es2, ep2, t2, ho2, _, hd2, g2, _, _, _, hf2, _, _, _⟩ := hb
  unfold Builtin.Frozenset.walkUnseen
  refine wpAny_bind (wpAny_setEntries_of ho hd hf ?_)
  refine wpAny_bind (wpAny_setEntries_of ho2 hd2 hf2 ?_)
  refine wpAny_bind (quiet_loop _ _ (fun k x acc => rfl) ?_ _ fun e he => ?_)
  · exact wpAny_pure (h _ (by rw [Array.length_toList]; exact hn) g hm)
  · rcases List.mem_append.mp he with he | he
    · exact g e he
    · exact g2 e he
theorem find_loop {b : Addr} {T : Int → Bool} {m : Nat} {Q : Option Bool × Unit → Shared → Prop} (hb : SetR w s.heap b T m) (u : Sem Unit) (hu : ∀ (Q' : Unit → Shared → Prop), Q' () s → wpAny (model P w) A u Q' E s)
    (f : Int × Value → Option Bool × Unit → Sem (ForInStep (Option Bool × Unit)))
    (hf : ∀ k x acc, f (k, x) acc = holding [x] (setFind b x k) >>= fun d => if d.isNone = true then pure (ForInStep.done (some false, ())) else u >>= fun _ => pure (ForInStep.yield (none, ()))) :
    ∀ l : List (Int × Value), (∀ e ∈ l, GoodE e) → ((∀ k ∈ l.map keyOf, T k = true) → Q (none, ()) s) → (¬ (∀ k ∈ l.map keyOf, T k = true) → Q (some false, ()) s) → wpAny (model P w) A (forIn l (none, ()) f) Q E s
  | [], _, h1, _ => by
    rw [List.forIn_nil]
    exact wpAny_pure (h1 fun k hk => (nomatch hk))
  | (k, x) :: r, hg, h1, h2 => by
    rw [List.forIn_cons, hf]
    obtain ⟨z, tk, e, ek⟩ := hg (k, x) List.mem_cons_self
    have e' : x = Value.int z tk := e
    have ek' : k = hashInt z := ek
    subst e' ek'
    obtain ⟨es, ep, tb, o, ho, hel, hd, hm, hs, hff, hn⟩ : ∃ es ep tb, ∃ o, s.heap.get? b = some o ∧ ElemsOf (intKind P w) es.toList ∧ o.data = .set es ep tb ∧ (∀ k, T k = true ↔ ∃ e ∈ es.toList, (intKind P w).is k e.2 = true) ∧ es.size < scanBound ∧ tb.fits es.size = true ∧ es.size = m := by
      obtain ⟨o, es, ep, t, a1, a2, a3, a4, a5, a6, a7, a8⟩ := hb.setOf (P := P)
      exact ⟨es, ep, t, o, a1, a4, a3, a5, a6, a7, a8⟩
    refine wpAny_bind (wpAny_bind (wpAny_holding ?_))
    refine PySem.W.setFind_any (knd := intKind P w) (k := z) (S := T) (intKind_is _ _ _ _) rfl ho hd hel hm hs hff fun q hq => ?_
    have hcons : List.map keyOf ((hashInt z, Value.int z tk) :: r) = z :: r.map keyOf := rfl
    cases hT : T z with
    | true =>
      rw [hT] at hq
      rw [if_neg (by cases q with | none => cases hq | some _ => simp)]
      refine wpAny_bind (hu _ (wpAny_pure ?_))
      refine find_loop hb u hu f hf r (fun e he => hg e (List.mem_cons_of_mem _ he)) (fun hh => h1 ?_) fun hh => h2 fun h3 => hh fun k hk => h3 k (by rw [hcons]; exact List.mem_cons_of_mem _ hk)
      rw [hcons]
      intro k hk
      rcases List.mem_cons.mp hk with e | hk
      · rw [e]; exact hT
      · exact hh k hk
    | false =>
      rw [hT] at hq
      rw [if_pos (by cases q with | none => rfl | some _ => cases hq)]
      refine wpAny_pure (wpAny_pure (h2 fun h3 => ?_))
      have z2 := h3 z (by rw [hcons]; exact List.mem_cons_self)
      rw [hT] at z2
      cases z2
theorem subset_ok {a b : Addr} {S T : Int → Bool} {n : Nat} {id : String} {Q : Bool → Shared → Prop} (ha : SetR w s.heap a S n) (hb : SetR w s.heap b T n)
    (h : ∀ r : Bool, (r = true ↔ ∀ k, S k = true → T k = true) → Q r s) : wpAny (model P w) A (Builtin.Frozenset.subsetOf id a b) Q E s := by
  unfold Builtin.Frozenset.subsetOf
  refine wpAny_bind (size_ok ha (wpAny_bind (size_ok hb ?_)))
  rw [if_neg (Nat.lt_irrefl n)]
  obtain ⟨o, es, ep, t, ho, hx, hd, g, nd, hm, hs, hf, hn, r1, r2⟩ := _root_.id ha
  refine wpAny_bind (wpAny_setEpoch_of ho hd hf ?_)
  refine wpAny_bind (unseen_ok ha hb fun l hl hg hk => ?_)
  refine wpAny_bind (find_loop hb (Builtin.Frozenset.unchanged id a ep) (fun Q' hq => ?_) _ (fun k x acc => rfl) l hg (fun h1 => ?_) fun h1 => ?_)
  · unfold Builtin.Frozenset.unchanged
    refine wpAny_bind (wpAny_setEpoch_of ho hd hf ?_)
    rw [if_neg (by simp)]
    exact wpAny_pure hq
  · exact wpAny_pure (h true ⟨fun _ k hS => h1 k ((hk k).mp hS), fun _ => rfl⟩)
  · exact wpAny_pure (h false ⟨fun z => (nomatch z), fun z => absurd (fun k hk' => z k ((hk k).mpr hk')) h1⟩)
/-- the members are there, one after another -/
theorem eq_set {A' : Around} {a b : Addr} {S T : Int → Bool} {n m : Nat} {Q : Value → Shared → Prop} (ha : SetR w s.heap a S n) (hb : SetR w s.heap b T m)
    (h : ∀ r : Bool, (r = true ↔ n = m ∧ ∀ k, S k = true → T k = true) → Q (.bool r) s) :
    wpAny (model P w) A' (Builtin.«frozenset.__eq__» ⟨[.ref a, .ref b], []⟩) (GQ.FinOf P w A (wants Q E)) (fun e s' => wants Q E (.error e) s') s := by
  have hTa : s.TypeIs (.ref a) "set" := (ha.setOf (P := P)).typeIs
  have hTb : s.TypeIs (.ref b) "set" := (hb.setOf (P := P)).typeIs
  show wpAny _ _ (Builtin.Frozenset.slot1 "__eq__" ⟨[.ref a, .ref b], []⟩ >>= _) _ _ _
  refine wpAny_bind (wpAny_of_eq (a := (Value.ref a, Value.ref b)) rfl ?_)
  refine wpAny_bind (isSet_any hTb ?_)
  rw [if_neg (by decide)]
  dsimp only
  refine wpAny_bind (wpAny_of_eq (a := a) rfl ?_)
  refine wpAny_bind (wpAny_of_eq (a := b) rfl ?_)
  refine wpAny_bind (size_ok ha (wpAny_bind (size_ok hb ?_)))
  refine wpAny_bind ?_
  have fin : ∀ r : Bool, (r = true ↔ n = m ∧ ∀ k, S k = true → T k = true) → wpAny (model P w) A' (ret (Value.bool r)) (GQ.FinOf P w A (wants Q E)) (fun e s' => wants Q E (.error e) s') s := fun r hr => wpAny_pure (h r hr)
  by_cases e : n = m
  · subst e
    rw [if_neg (by simp)]
    refine wpAny_bind ?_
    unfold andM
    refine wpAny_bind (wpAny_isInstance hTa F.sub_set_frozenset ?_)
    refine wpAny_pure ?_
    rw [if_neg (by decide)]
    exact subset_ok ha hb fun r hr => fin r (by rw [hr]; exact ⟨fun z => ⟨rfl, z⟩, fun z => z.2⟩)
  · rw [if_pos (by simpa using e)]
    exact wpAny_pure (fin false ⟨fun z => (nomatch z), fun z => absurd z.1 e⟩)
end
section
variable {X : Cx}
/-- s == t, two sets of ints -/
theorem op_eqSet (hu : X.A.units < cLine) : OpR X (compareOp .Eq) (fun x y H Q => ∃ a b S T n m, x = .ref a ∧ y = .ref b ∧ H a = some (SetO X.w a S n) ∧ H b = some (SetO X.w b T m) ∧ ∀ r : Bool, (r = true ↔ n = m ∧ ∀ k, S k = true → T k = true) → Q (.bl r) H) := by
  intro pins s σ H x y v u Q I rx ry h
  obtain ⟨a, b, S, T, n, m, rfl, rfl, ha, hb, q⟩ := h
  cases rx
  cases ry
  have Ra := setO_get I ha
  have Rb := setO_get I hb
  have hTa : s.TypeIs (.ref a) "set" := (Ra.setOf (P := X.prog)).typeIs
  have hTb : s.TypeIs (.ref b) "set" := (Rb.setOf (P := X.prog)).typeIs
  show wpAny _ _ (richCompare .Eq (.ref a) (.ref b)) _ _ _
  refine wpAny_richCompare_same_room (op := .Eq) hTa hTb F.slot_set_eq (GQ.call_here F.slot_set_eq hTa entry_set_eq (F.args_set_eq_2 _ _) ?_) hu
  exact eq_set (Q := fun v s' => v ≠ Value.notImplemented ∧ EP X pins σ Q v s') Ra Rb fun r hr => ⟨(fun z => nomatch z), .bl r, H, I, rfl, q r hr⟩
end
end SX2
set_option Elab.async false
set_option linter.all false
set_option maxRecDepth 100000
set_option maxHeartbeats 2000000
/-! enumerate of a tuple, max of a tuple, a dict comprehension over a list. -/
namespace TX
open PySem PySem.Spec PyProof.Rows L2

theorem meets_enumT (t : Addr) (items : Array Value) :
    Meets (Builtin.«enumerate.__new__» ⟨[.type "enumerate", .ref t], []⟩) (fun _ R s => s.heap.IsTuple t items ∧
      R (.ok (.ret (.ref (s.heap.push { cls := .type "tuple_iterator", data := .fields #[.ref t, .int 0 0] }).objs.size)))
        { s with heap := (s.heap.push { cls := .type "tuple_iterator", data := .fields #[.ref t, .int 0 0] }).push { cls := .type "enumerate", data := .fields #[.none, .bool false, .ref s.heap.objs.size, rawInt 0, .none, .none] } }) :=
  .of_wp fun prog w A R s h => by
    obtain ⟨hp, g, d, tk, os⟩ := s
    obtain ⟨⟨⟨c, dct, dt, sl⟩, hl, hc, n, hd⟩, h⟩ := h
    replace hc : c = .type "tuple" := hc
    replace hd : dt = .seq items n := hd
    subst hc hd
    have hsub := sub_enumerate
    have hT : Heap.IsTuple (Shared.heap ⟨hp, g, d, tk, os⟩) t items := ⟨_, hl, rfl, n, rfl⟩
    wp_walk using AutoSeq1.wpAny_loadPart' hl
    refine wpAny_stack_any fun st => wpAny_pure ?_
    split
    · rename_i c _ _ _ _ _
      cases (c == Value.type "enumerate")
      · wp_walk using AutoSeq1.wpAny_loadPart' hl, wpAny_pyIter_tuple hT
        exact ⟨_, rfl, h⟩
      · wp_walk using AutoSeq1.wpAny_loadPart' hl, wpAny_pyIter_tuple hT
        exact ⟨_, rfl, h⟩
    · wp_walk using AutoSeq1.wpAny_loadPart' hl, wpAny_pyIter_tuple hT
      exact ⟨_, rfl, h⟩
section
variable {prog : Program} {w : World} {A : Around} {E : Value → Shared → Prop} {s : Shared}
theorem call_enumT {t : Addr} {items : Array Value} {Q : Value → Shared → Prop} (hT : s.heap.IsTuple t items)
    (h : ∀ h', IsEnum h' (s.heap.objs.size + 1) s.heap.objs.size 0 .none → h'.IsTupleIter s.heap.objs.size t 0 →
      (∀ b o, s.heap.get? b = some o → h'.get? b = some o) → Q (.ref (s.heap.objs.size + 1)) { s with heap := h' }) :
    wpAny (model prog w) A (call (.type "enumerate") [.ref t]) Q E s := by
  refine callType_new F.called_enumerate (by decide) (F.typeCall_enumerate_1 _) (F.newCall_enumerate_1 _) (fun obj => F.args_object_init_2 obj _) F.entry_enumerate_new
    (meets_enumT t items) ⟨hT, ?_⟩
  have hz : (s.heap.push { cls := .type "tuple_iterator", data := .fields #[.ref t, .int 0 0] }).objs.size = s.heap.objs.size + 1 := Heap.size_push ..
  show _ ∧ _
  rw [hz]
  have he : IsEnum ((s.heap.push { cls := .type "tuple_iterator", data := .fields #[.ref t, .int 0 0] }).push
      { cls := .type "enumerate", data := .fields #[.none, .bool false, .ref s.heap.objs.size, rawInt 0, .none, .none] }) (s.heap.objs.size + 1) s.heap.objs.size 0 .none := by
    have q := Heap.get?_push_size (s.heap.push { cls := .type "tuple_iterator", data := .fields #[.ref t, .int 0 0] })
      (o := { cls := .type "enumerate", data := .fields #[.none, .bool false, .ref s.heap.objs.size, rawInt 0, .none, .none] }) rfl
    rw [hz] at q; exact q
  exact ⟨⟨_, he, rfl⟩, h _ he ⟨_, Heap.get?_push_of_some _ (Heap.get?_push_size _ rfl), rfl, rfl⟩ fun b o x => Heap.get?_push_of_some _ (Heap.get?_push_of_some _ x)⟩
/-- max of a tuple of ints -/
theorem max_tup {l : Addr} {its : List Value} {ns : List Int} {Q : Value → Shared → Prop} (hh : A.handled = none) (hl : s.heap.IsTuple l its.toArray) (hi : IntsAre its ns) (hne : 0 < ns.length)
    (h : ∀ h' tk M t', (∀ b o, s.heap.get? b = some o → h'.get? b = some o) → M ∈ ns → (∀ a, a ∈ ns → a ≤ M) → Q (.int M t') { s with heap := h', toks := tk }) : wpAny (model prog w) A (call (.builtin "max") [.ref l]) Q E s := by
  obtain ⟨xs, e⟩ := hi.allInts.items
  have hn : numsOf (intItems xs).toList = ns := by rw [← e]; exact hi.numsOf
  rw [nums_intItems] at hn
  subst hn
  rw [e] at hl
  have hsz : 0 < xs.size := by simpa using hne
  have hlt : l < s.heap.objs.size := by obtain ⟨_, e, _⟩ := hl; exact Heap.lt_size e
  refine call_max_walk (wpAny_pyIter_tuple hl ?_)
  refine ⟨_, _, _, _, _, _, _, rfl, Walks.tuple (A := A.in1) hh s.heap.objs.size l (Nat.ne_of_lt hlt) (intItems xs), ⟨⟨_, Heap.get?_push_size _ rfl, rfl, rfl⟩, hl.push _⟩, fun b hb => ?_, by simpa [intItems] using hsz, CmpOf.ints_gt (numAt xs) (fun _ _ => intItems_at), fun v h' tk hP hk => ?_⟩
  · show b < (s.heap.push _).objs.size
    rw [Heap.size_push]
    rcases List.mem_cons.mp hb with e | hb
    · rw [e]; exact Nat.lt_succ_self _
    · rw [List.mem_singleton.mp hb]; exact Nat.lt_succ_of_lt hlt
  · have hP' : (intItems xs)[argBest (fun i j => decide (numAt xs i > numAt xs j)) (xs.size - 1)]? = some v := by simpa [intItems] using hP
    obtain ⟨t, rfl⟩ := intItems_at hP'
    obtain ⟨h1, h2⟩ := argBest_gt (numAt xs) (xs.size - 1)
    refine h h' tk _ t (fun b o e => hk b o (fun hm => ?_) (Heap.get?_push_of_some _ e)) ?_ fun a ha => ?_
    · rw [List.mem_singleton.mp hm] at e
      exact absurd (Heap.lt_size e) (Nat.lt_irrefl _)
    · rw [numAt_eq]; exact PySem.getD_mem (by rw [List.length_map, Array.length_toList]; omega)
    · obtain ⟨j, hj, rfl⟩ := mem_getD ha
      rw [List.length_map, Array.length_toList] at hj
      rw [← numAt_eq]; exact h2 j (by omega)
end
section
variable {X : Cx}
def rMaxT (K : PySem.W.Frag) : List V → Hp → VK → Prop := fun vs H Q => ∃ (a : Addr) (ns : List Int), vs = [V.ref a] ∧ SqT K H a (ns.map V.int) ∧ 0 < ns.length ∧ ∀ m, m ∈ ns → (∀ y, y ∈ ns → y ≤ m) → Q (.int m) H
theorem cr_maxT (hc : X.calm = true) : CallR X (.builtin "max") (rMaxT X.K) := by
  intro pins s σ H vs us Q I r h
  obtain ⟨a, ns, rfl, hs, hne, q⟩ := h
  obtain ⟨its, rv, ht, _⟩ := I.tuple hs
  rw [Vals.ref1 r]
  exact max_tup (I.ok.hd hc) (show s.heap.IsTuple a its.toArray from ht) rv.ints hne fun h' tk m t' hk h1 h2 => ⟨.int _, H, I.kept hk, ⟨_, rfl⟩, q m h1 h2⟩
end
/-- the places and items of a tuple, each a new pair -/
def IteT (K : PySem.W.Frag) (a : Addr) : It :=
  ⟨fun i H => ∃ xs x, SqT K H a xs ∧ xs[i]? = some x, fun i H y H' => ∃ T x, y = .ref T ∧ H T = none ∧ H' = upd H T (.tup [.int (i : Nat), x]) ∧ ∀ xs, SqT K H a xs → xs[i]? = some x, fun i H => ∃ xs, SqT K H a xs ∧ xs.length = i⟩
theorem turn_enumT {P : Program} {w : World} {K : PySem.W.Frag} {elts : List Expr} {kk : Nat} {tpos : Pos} (a e it : Addr) :
    Turn P w K (.Tuple elts kk tpos) (IteT K a) [e, it] e (fun i h => (∃ old, IsEnum h e it ((i : Nat) : Int) old) ∧ h.IsTupleIter it a i ∧ e ≠ it) where
  mem := by simp
  obj := fun i h st b hb => by
    obtain ⟨⟨old, he⟩, ⟨o, ho, hc, hd⟩, _⟩ := st
    have e' : b = e ∨ b = it := by simpa using hb
    rcases e' with z | z
    · rw [z]; exact ⟨_, he, fun v q => nomatch q⟩
    · rw [z]; exact ⟨o, ho, fun v q => by rw [hd] at q; cases q⟩
  keep := fun i h h' st k => let ⟨⟨old, he⟩, hi, hne⟩ := st; ⟨⟨old, k e (by simp) _ he⟩, hi.at fun o q => k it (by simp) o q, hne⟩
  item := by
    intro X hP hw hK hc i pins s σ H E I hf st hg
    subst hP hw hK
    obtain ⟨⟨old, he⟩, hit, hne⟩ := st
    obtain ⟨xs, x, hq, hx⟩ := hg
    obtain ⟨its, rv, p, hz⟩ := I.tuple hq
    obtain ⟨u, hu, ru⟩ := rv.get hx
    have ht : s.heap.IsTuple a its.toArray := p
    have hel : e < s.heap.objs.size := Heap.lt_size he
    have hil : it < s.heap.objs.size := by obtain ⟨_, q, _⟩ := hit; exact Heap.lt_size q
    have hai : a ≠ it := fun z => by
      obtain ⟨o1, q1, c1, _⟩ := ht
      obtain ⟨o2, q2, c2, _⟩ := hit
      rw [z, q2] at q1; cases q1
      injection c1.symm.trans c2 with z2
      exact absurd z2 (by decide)
    have hea : e ≠ a := fun z => by
      obtain ⟨o1, q1, c1, _⟩ := ht
      rw [← z] at q1
      have q2 : s.heap.get? e = some _ := he
      rw [q2] at q1; cases q1
      injection c1 with z2
      exact absurd z2 (by decide)
    have hef : e ∉ [it, a] := by simp only [List.mem_cons, List.not_mem_nil, or_false, not_or]; exact ⟨hne, hea⟩
    have hi : i < its.toArray.size := by
      have q := (List.getElem?_eq_some_iff.mp hu).1
      simpa using q
    refine wpAny_pyNext_enum_itemD (Draws.tuple (A := X.A.in1) (I.ok.hd hc) it a hai its.toArray) he ⟨hit, ht⟩ hi hne hef fun x' h' tk hPx ho hst' hT hsz hk => ?_
    have ex : x' = u := by
      have q : its.toArray[i]? = some x' := hPx
      rw [List.getElem?_toArray, hu] at q
      exact (Option.some.inj q).symm
    subst ex
    refine ⟨_, rfl, wpAny_letOwnedTupleGo_enum (s := { s with heap := h', toks := tk + 1 }) ho fun h'' he' sb => ?_⟩
    have hT2 : h''.get? s.heap.objs.size = some { cls := .type "tuple", data := .seq #[.int i tk, x'] } := (sb.2 _ (Nat.ne_of_gt hel)).trans hT
    have new : ObjOk X.prog X.w (upd H s.heap.objs.size (.tup [.int (i : Nat), x])) h'' s.heap.objs.size (.tup [.int (i : Nat), x]) :=
      ⟨by show 2 ≤ sizeLine; decide, [.int i tk, x'], .cons ⟨_, rfl⟩ (.cons ru .nil), ⟨_, hT2, rfl, _, rfl⟩⟩
    have I1 : Inv X pins σ (upd H s.heap.objs.size (.tup [.int (i : Nat), x])) { s with heap := h'', toks := tk + 1 } :=
      I.turnedNew (ch := [e, it]) (fun b ob hb q => (sb.2 b (fun z => hb (by simp [z]))).trans (hk b ob (fun z => hb (by simp [z])) (fun z => hb (by simp [z])) q)) hf (Nat.le_refl _) new
    refine ⟨.ref s.heap.objs.size, _, I1, rfl, ⟨_, x, rfl, I.hok.fresh (Nat.le_refl _), rfl, fun ys hy => by rw [I.tuple_inj hy hq]; exact hx⟩, ⟨⟨x', ?_⟩, hst'.1.at fun o q => (sb.2 it (Ne.symm hne)).trans q, hne⟩, fun b hb => ?_⟩
    · have e1 : ((i + 1 : Nat) : Int) = (i : Int) + 1 := by omega
      rw [e1]; exact he'
    · have hb' : b < s.heap.objs.size := by
        have e' : b = e ∨ b = it := by simpa using hb
        rcases e' with z | z
        · rw [z]; exact hel
        · rw [z]; exact hil
      rw [upd_ne (Nat.ne_of_lt hb')]
      exact (hf b hb).1
  done := by
    intro X hP hw hK hc i pins s σ H E I hf st hg
    subst hP hw hK
    obtain ⟨⟨old, he⟩, hit, hne⟩ := st
    obtain ⟨xs, hq, hx⟩ := hg
    obtain ⟨its, rv, p, hz⟩ := I.tuple hq
    have ht : s.heap.IsTuple a its.toArray := p
    obtain ⟨f0, f1, f2, f3, f4, f5⟩ := hf it (by simp)
    have hl := rv.length
    have hai : a ≠ it := fun z => by
      obtain ⟨o1, q1, c1, _⟩ := ht
      obtain ⟨o2, q2, c2, _⟩ := hit
      rw [z, q2] at q1; cases q1
      injection c1.symm.trans c2 with z2
      exact absurd z2 (by decide)
    have hn : i = its.toArray.size := by
      rw [List.size_toArray]; omega
    subst hn
    exact wpAny_pyNext_enum_endD (Draws.tuple (A := X.A.in1) (I.ok.hd hc) it a hai its.toArray) he ⟨hit, ht⟩ fun h' eb => ⟨rfl, I.turned (t' := s.toks) (fun b o hb q => eb b o hb q) f0 f1 f3 f4 f5⟩
  self := fun A i s Q E st h => let ⟨⟨_, he⟩, _⟩ := st; wpAny_pyIter_enum he h
def iEnumT (K : PySem.W.Frag) (ta : TA) : TI := fun σ H R => ta σ H fun vs H1 => ∃ a xs, vs = [.ref a] ∧ SqT K H1 a xs ∧ R (IteT K a) H1
theorem pi_enumT {X : Cx} {e : Expr} {ta : TA} {p pos tpos : Pos} {elts : List Expr} {kk : Nat} (hg : Gl X "enumerate") (hm : X.mg "enumerate" = none) (ha : PA X [e] ta) (hs : starEach [e] X.env = [(false, eval e X.env)] := by rfl) :
    PI X (.Tuple elts kk tpos) (.Call (.Name "enumerate" p) [e] [] pos) (iEnumT X.K ta) := by
  refine ⟨fun pins s σ H R I h => ?_⟩
  refine Call_ (ld_blt I hg hm boot_enumerate (PyProof.Rows.callWith_type1 (thn (ha.run pos pins s σ H _ I h) fun us s1 ⟨vs, H1, I1, r1, q1⟩ => ?_) hs rfl))
  obtain ⟨a, xs, ex, hq, q⟩ := q1
  subst ex
  cases r1 with
  | cons r rr =>
    cases rr
    cases r
    obtain ⟨its, rv, p', hz⟩ := I1.tuple hq
    refine call_enumT (show s1.heap.IsTuple a its.toArray from p') fun h' he hit hk => wpAny_pyIter_enum he ?_
    have I2 : Inv X pins σ H1 { s1 with heap := h' } := I1.kept (t' := s1.toks) hk
    refine ⟨s1.heap.objs.size + 1, [s1.heap.objs.size + 1, s1.heap.objs.size], _, _, H1, rfl, I2, turn_enumT a (s1.heap.objs.size + 1) s1.heap.objs.size, ⟨⟨.none, he⟩, hit, Nat.succ_ne_self _⟩, fun b hb => ?_, q⟩
    have e' : b = s1.heap.objs.size + 1 ∨ b = s1.heap.objs.size := by simpa using hb
    have hle : s1.heap.objs.size ≤ b := by
      rcases e' with z | z
      · rw [z]; exact Nat.le_add_right _ _
      · rw [z]; exact Nat.le_refl _
    exact I1.fpOk hle (I1.hok.fresh hle)
/-- a comprehension over enumerate(tuple): a turn gets the place i, the item x and the pair's address T -/
theorem lc_enumT {K : PySem.W.Frag} {a : Addr} {xs : List V} {g : TG} {tt : TT} {te : TE} {vs : List Nat} {σ : L2.St} {H1 : Hp} {D : Addr} {Qd : Hp → Prop} (Pv : Nat → Hp → Prop) (h0 : Pv 0 (upd H1 D (.lst []))) (hl : ∀ i H, i ≤ xs.length → Pv i H → SqT K H a xs)
    (hs : ∀ i x H T, xs[i]? = some x → Pv i H → H T = none → g (.ref T) (wipe σ vs) (upd H T (.tup [.int (i : Nat), x])) fun σ2 H2 => wipe σ2 vs = wipe σ vs ∧ tt σ2 H2 fun b H3 =>
      if b = true then te σ2 H3 fun y H4 => ∃ acc, H4 D = some (.lst acc) ∧ acc.length < sizeLine ∧ Pv (i + 1) (upd H4 D (.lst (acc ++ [y]))) else Pv (i + 1) H3) (hd : ∀ H, Pv xs.length H → Qd H) :
    ∃ W : Nat → Nat → Hp → Prop, (∃ m, W 0 m (upd H1 D (.lst []))) ∧ ∀ i m H, W i m H →
      ((IteT K a).stop i H ∧ Qd H) ∨ ((IteT K a).go i H ∧ ∃ Nx : Hp → Prop, (∀ H', Nx H' → ∃ m', m' < m ∧ W (i + 1) m' H') ∧ ∀ x H', (IteT K a).yld i H x H' → g x (wipe σ vs) H' fun σ2 H2 => wipe σ2 vs = wipe σ vs ∧ tt σ2 H2 fun b H3 =>
        if b = true then te σ2 H3 fun y H4 => ∃ acc, H4 D = some (.lst acc) ∧ acc.length < sizeLine ∧ Nx (upd H4 D (.lst (acc ++ [y]))) else Nx H3) := by
  refine ⟨fun i m H => m = xs.length - i ∧ i ≤ xs.length ∧ Pv i H, ⟨xs.length, by simp, Nat.zero_le _, h0⟩, ?_⟩
  rintro i m H ⟨rfl, hi, p⟩
  have q := hl i H hi p
  by_cases hlt : i < xs.length
  · refine .inr ⟨⟨xs, xs[i], q, by simp [hlt]⟩, Pv (i + 1), fun H' p' => ⟨xs.length - (i + 1), by omega, rfl, hlt, p'⟩, fun x H' y => ?_⟩
    obtain ⟨T, z, rfl, nT, rfl, hz⟩ := y
    exact hs i z H T (hz xs q) p nT
  · have e : i = xs.length := by omega
    subst e
    exact .inl ⟨⟨xs, q, rfl⟩, hd H p⟩
/-- a dict comprehension over a list -/
theorem dc_list {K : PySem.W.Frag} {a : Addr} {xs : List V} {g : TG} {tt : TT} {tk tv : TE} {vs : List Nat} {σ : L2.St} {H1 : Hp} {D : Addr} {Qd : Hp → Prop} (Pv : Nat → Hp → Prop) (h0 : Pv 0 (upd H1 D (.dK []))) (hl : ∀ i H, i ≤ xs.length → Pv i H → SqL K H a xs)
    (hs : ∀ i x H, xs[i]? = some x → Pv i H → g x (wipe σ vs) H fun σ2 H2 => wipe σ2 vs = wipe σ vs ∧ tt σ2 H2 fun b H3 =>
      if b = true then tk σ2 H3 fun y H4 => tv σ2 H4 fun z H5 => ∃ kvs k, y = kV k ∧ H5 D = some (.dK kvs) ∧ kvs.length < sizeLine ∧ Pv (i + 1) (upd H5 D (.dK (putK kvs k z))) else Pv (i + 1) H3) (hd : ∀ H, Pv xs.length H → Qd H) :
    ∃ W : Nat → Nat → Hp → Prop, (∃ m, W 0 m (upd H1 D (.dK []))) ∧ ∀ i m H, W i m H →
      ((Itl K a).stop i H ∧ Qd H) ∨ ((Itl K a).go i H ∧ ∃ Nx : Hp → Prop, (∀ H', Nx H' → ∃ m', m' < m ∧ W (i + 1) m' H') ∧ ∀ x H', (Itl K a).yld i H x H' → g x (wipe σ vs) H' fun σ2 H2 => wipe σ2 vs = wipe σ vs ∧ tt σ2 H2 fun b H3 =>
        if b = true then tk σ2 H3 fun y H4 => tv σ2 H4 fun z H5 => ∃ kvs k, y = kV k ∧ H5 D = some (.dK kvs) ∧ kvs.length < sizeLine ∧ Nx (upd H5 D (.dK (putK kvs k z))) else Nx H3) := by
  refine ⟨fun i m H => m = xs.length - i ∧ i ≤ xs.length ∧ Pv i H, ⟨xs.length, by simp, Nat.zero_le _, h0⟩, ?_⟩
  rintro i m H ⟨rfl, hi, p⟩
  have q := hl i H hi p
  by_cases hlt : i < xs.length
  · refine .inr ⟨⟨xs, xs[i], q, by simp [hlt]⟩, Pv (i + 1), fun H' p' => ⟨xs.length - (i + 1), by omega, rfl, hlt, p'⟩, fun x H' y => ?_⟩
    obtain ⟨e, y⟩ := y
    subst e
    exact hs i x _ (y xs q) p
  · have e : i = xs.length := by omega
    subst e
    exact .inl ⟨⟨xs, q, Nat.le_refl _⟩, hd H p⟩
end TX
set_option Elab.async false
set_option linter.all false
set_option maxRecDepth 100000
/-! The walk: words. -/
namespace Sl
open PySem PySem.Spec PyProof.Rows L2 Star DX
/-! ### heaps: tables grow, all else stays -/
structure Gr (H H' : Hp) : Prop where
  keep : ∀ b x, H b = some x → (∀ ps, x ≠ .tbl ps) → H' b = some x
  tab : ∀ P, GxR.TabG H P → GxR.TabG H' P
  non : ∀ b, H' b = none → H b = none
theorem Gr.refl (H : Hp) : Gr H H := ⟨fun _ _ h _ => h, fun _ h => h, fun _ h => h⟩
theorem Gr.trans {H H1 H2 : Hp} (a : Gr H H1) (b : Gr H1 H2) : Gr H H2 := ⟨fun c x h n => b.keep c x (a.keep c x h n) n, fun P h => b.tab P (a.tab P h), fun c h => a.non c (b.non c h)⟩
theorem Gr.set {H H1 : Hp} {o : Addr} {x : HO} (a : Gr H H1) (n : H o = none) : Gr H (upd H1 o x) :=
  ⟨fun b y h q => by rw [upd_ne (ne_of_none h n)]; exact a.keep b y h q, fun P ⟨ps, h, t⟩ => by
    obtain ⟨qs, h2, t2⟩ := a.tab P ⟨ps, h, t⟩
    exact ⟨qs, by rw [upd_ne (ne_of_none h n)]; exact h2, t2⟩, fun b h => by
    by_cases e : b = o
    · rw [e]; exact n
    · rw [upd_ne e] at h
      exact a.non b h⟩
theorem Gr.new {H : Hp} {o : Addr} {x : HO} (n : H o = none) : Gr H (upd H o x) := (Gr.refl H).set n
theorem Gr.tabd {P : Addr} {H H' : Hp} (g : GxR.TabG H P) (t : GxR.Tabbed P H H') : Gr H H' :=
  ⟨fun b x h q => by
    by_cases e : b = P
    · obtain ⟨ps, h2, _⟩ := g
      rw [e, h2] at h
      exact absurd (Option.some.inj h).symm (q ps)
    · rw [t.2 b e]; exact h, fun Q h => by
    by_cases e : Q = P
    · rw [e]; exact t.1
    · obtain ⟨ps, h1, h2⟩ := h
      exact ⟨ps, by rw [t.2 Q e]; exact h1, h2⟩, fun b h => by
    by_cases e : b = P
    · obtain ⟨ps, h2, _⟩ := t.1
      rw [e, h2] at h
      cases h
    · rw [t.2 b e] at h; exact h⟩
theorem Gr.lst {H H' : Hp} {a : Addr} {xs : List V} (e : Gr H H') (h : H a = some (.lst xs)) : H' a = some (.lst xs) := e.keep a _ h fun _ z => nomatch z
theorem Gr.tup {H H' : Hp} {a : Addr} {xs : List V} (e : Gr H H') (h : H a = some (.tup xs)) : H' a = some (.tup xs) := e.keep a _ h fun _ z => nomatch z
theorem Gr.ch {H H' : Hp} {A : Nat} {p : Addr} {c : List Nat} (e : Gr H H') (h : ChAt H A p c) : ChAt H' A p c := by
  obtain ⟨q, h1, h2⟩ := h
  exact ⟨q, e.tup h1, e.tup h2⟩
theorem Gr.seqL {K : PySem.W.Frag} {H H' : Hp} {a : Addr} {xs : List V} (e : Gr H H') (h : SqL K H a xs) : SqL K H' a xs := by
  rcases h with (h | ⟨o, h⟩) | ⟨o, us, c, h1, h2⟩
  · exact .inl (.inl (e.lst h))
  · exact .inl (.inr ⟨o, e.keep a _ h fun _ z => nomatch z⟩)
  · exact .inr ⟨o, us, c, h1, h2⟩
def Tabs (T : List Addr) (H : Hp) : Prop := ∀ P ∈ T, GxR.TabG H P
theorem Gr.tabs {T : List Addr} {H H' : Hp} (e : Gr H H') (h : Tabs T H) : Tabs T H' := fun P hP => e.tab P (h P hP)

/-! ### the text -/
def topS (i : Nat) : Stmt := PySem.Challenge.pw_starlands_k03_whole_hubs.main.body.getD i (.Pass ⟨0, 0, 0, 0⟩)
/-- a def that may be called -/
structure Cal (P : Program) (w : World) (K : PySem.W.Frag) (mg : Str → Option Value) (base : Heap) (k : Nat) (x : Str) (ps : List Str) (sp : Sp) where
  f : Addr
  fd : FuncData
  ok : FnOk P w K mg base CX0 k f fd ps sp
  gl : mg x = some (.ref f)
  kp : PySem.W.keepIn K (.ref f) = true
  b : Binds K fd ps []
section
variable {X : Cx}
theorem pcall {k n : Nat} {x : Str} {ps : List Str} {sp : Sp} {e : Expr} {es : List Expr} {t : TA} {p pos : Pos} (C : Cal X.prog X.w X.K X.mg X.base k x ps sp) (hr : Room n X.A) (hk : k ≤ n) (hg : Gl X x) (ha : PA X (e :: es) t)
    (hdb : (x == ("__debug__" : Str)) = false := by decide) (he : starEach (e :: es) X.env = (false, eval e X.env) :: starEach es X.env := by rfl) (hpl : (backTo pos (starEach es X.env)).any (·.1) = false := by rfl) :
    PE X (.Call (.Name x p) (e :: es) [] pos) (tCall sp [] (fun _ _ _ => False) t) := pe_call C.ok (hr.mono hk) hg C.gl C.kp C.b .nil pass0 ha hdb he hpl
end
end Sl
set_option Elab.async false
set_option linter.all false
set_option maxRecDepth 100000
namespace Sl
open PySem PySem.Spec PyProof.Rows L2 Star DX
/-! Operators by natural numbers. -/
theorem natV {a : Nat} {i : Int} (h : i = (a : Int)) : V.int i = vI a := by rw [h]
section
variable {X : Cx}
theorem nAdd : OpR X (binaryOp .Add) (fun x y H Q => ∃ a b : Nat, x = vI a ∧ y = vI b ∧ Q (vI (a + b)) H) := fun pins s σ H x y v u Q I rx ry ⟨a, b, e1, e2, q⟩ =>
  op_add pins s σ H x y v u Q I rx ry ⟨_, _, e1, e2, by dsimp only; rw [natV (a := a + b) (by omega)]; exact q⟩
theorem nSub : OpR X (binaryOp .Sub) (fun x y H Q => ∃ a b : Nat, x = vI a ∧ y = vI b ∧ b ≤ a ∧ Q (vI (a - b)) H) := fun pins s σ H x y v u Q I rx ry ⟨a, b, e1, e2, h, q⟩ =>
  op_sub pins s σ H x y v u Q I rx ry ⟨_, _, e1, e2, by dsimp only; rw [natV (a := a - b) (by omega)]; exact q⟩
theorem nMul : OpR X (binaryOp .Mult) (fun x y H Q => ∃ a b : Nat, x = vI a ∧ y = vI b ∧ a < 100 ∧ Q (vI (a * b)) H) := fun pins s σ H x y v u Q I rx ry ⟨a, b, e1, e2, h, q⟩ =>
  op_mul pins s σ H x y v u Q I rx ry ⟨_, _, e1, e2, .inl ⟨by omega, by omega⟩, by dsimp only; rw [natV (a := a * b) (Int.natCast_mul a b).symm]; exact q⟩
theorem nDiv : OpR X (binaryOp .FloorDiv) (fun x y H Q => ∃ a b : Nat, x = vI a ∧ y = vI b ∧ 0 < b ∧ b < 100 ∧ Q (vI (a / b)) H) := fun pins s σ H x y v u Q I rx ry ⟨a, b, e1, e2, h, h2, q⟩ =>
  op_fdivN pins s σ H x y v u Q I rx ry ⟨_, _, e1, e2, ⟨by omega, by omega⟩, by dsimp only; rw [natV (a := a / b) (by rw [Int.fdiv_eq_ediv_of_nonneg _ (by omega)]; rfl)]; exact q⟩
theorem nMod : OpR X (binaryOp .Mod) (fun x y H Q => ∃ a b : Nat, x = vI a ∧ y = vI b ∧ 0 < b ∧ Q (vI (a % b)) H) := fun pins s σ H x y v u Q I rx ry ⟨a, b, e1, e2, h, q⟩ =>
  op_modN pins s σ H x y v u Q I rx ry ⟨_, _, e1, e2, by omega, by dsimp only; rw [natV (a := a % b) (by rw [Int.fmod_eq_emod_of_nonneg _ (by omega)]; rfl)]; exact q⟩
theorem blV {p q : Prop} [Decidable p] [Decidable q] (h : p ↔ q) : V.bl (decide p) = V.bl (decide q) := by rw [decide_eq_decide.mpr h]
theorem nLt : OpR X (compareOp .Lt) (fun x y H Q => ∃ a b : Nat, x = vI a ∧ y = vI b ∧ Q (.bl (decide (a < b))) H) := fun pins s σ H x y v u Q I rx ry ⟨a, b, e1, e2, q⟩ =>
  op_lt pins s σ H x y v u Q I rx ry ⟨_, _, e1, e2, by dsimp only; rw [blV (q := a < b) (by omega)]; exact q⟩
theorem nGt : OpR X (compareOp .Gt) (fun x y H Q => ∃ a b : Nat, x = vI a ∧ y = vI b ∧ Q (.bl (decide (b < a))) H) := fun pins s σ H x y v u Q I rx ry ⟨a, b, e1, e2, q⟩ =>
  op_gt pins s σ H x y v u Q I rx ry ⟨_, _, e1, e2, by dsimp only; rw [blV (q := b < a) (by omega)]; exact q⟩
theorem nGe : OpR X (compareOp .GtE) (fun x y H Q => ∃ a b : Nat, x = vI a ∧ y = vI b ∧ Q (.bl (decide (b ≤ a))) H) := fun pins s σ H x y v u Q I rx ry ⟨a, b, e1, e2, q⟩ =>
  op_ge pins s σ H x y v u Q I rx ry ⟨_, _, e1, e2, by dsimp only; rw [blV (q := b ≤ a) (by omega)]; exact q⟩
theorem vI_inj {a b : Nat} : vI a = vI b ↔ a = b := ⟨fun e => by injection e with e; omega, fun e => by rw [e]⟩
theorem nEq : OpR X (compareOp .Eq) (fun x y H Q => ∃ a b : Nat, x = vI a ∧ y = vI b ∧ Q (.bl (decide (a = b))) H) := fun pins s σ H x y v u Q I rx ry ⟨a, b, e1, e2, q⟩ => by
  subst e1 e2
  exact op_eq pins s σ H _ _ v u Q I rx ry ⟨rfl, by rw [blV vI_inj]; exact q⟩
theorem nNe : OpR X (compareOp .NotEq) (fun x y H Q => ∃ a b : Nat, x = vI a ∧ y = vI b ∧ Q (.bl (decide (a ≠ b))) H) := fun pins s σ H x y v u Q I rx ry ⟨a, b, e1, e2, q⟩ => by
  subst e1 e2
  refine op_ne pins s σ H _ _ v u Q I rx ry ⟨rfl, ?_⟩
  have e : (!decide (vI a = vI b)) = decide (a ≠ b) := by
    rw [decide_eq_decide.mpr (vI_inj (a := a) (b := b)), decide_not]
  rw [e]
  exact q
/-- a list or a tuple of naturals -/
def SqN (K : PySem.W.Frag) (H : Hp) (p : Addr) (c : List Nat) : Prop := SqL K H p (vsI c) ∨ SqT K H p (vsI c)
theorem len_vsI (c : List Nat) : (vsI c).length = c.length := List.length_map _
theorem vsI_snoc (c : List Nat) (a : Nat) : vsI c ++ [vI a] = vsI (c ++ [a]) := by
  show c.map vI ++ [a].map vI = _
  rw [← List.map_append]
theorem nLen : CallR X (.builtin "len") (fun xs H Q => ∃ p c, xs = [.ref p] ∧ SqN X.K H p c ∧ Q (vI c.length) H) := fun pins s σ H xs us Q I rx ⟨p, c, e, h, q⟩ =>
  call_len_seq pins s σ H xs us Q I rx ⟨p, vsI c, e, h, by rw [natV (a := c.length) (by rw [len_vsI])]; exact q⟩
theorem flat_vsI (c : List Nat) : (vsI c).all flatV = true := by
  rw [List.all_eq_true]
  intro x hx
  obtain ⟨a, _, e⟩ := List.mem_map.mp hx
  rw [← e]
  rfl
theorem inV_vsI (a : Nat) (c : List Nat) : inV (vI a) (vsI c) = decide (a ∈ c) := by
  unfold inV
  rw [Bool.eq_iff_iff, List.any_eq_true, decide_eq_true_eq]
  constructor
  · intro ⟨y, hy, e⟩
    obtain ⟨b, hb, rfl⟩ := List.mem_map.mp hy
    have e2 : ((b : Int) == (a : Int)) = true := e
    have : b = a := by
      have := eq_of_beq e2
      omega
    rw [← this]
    exact hb
  · intro h
    refine ⟨vI a, List.mem_map.mpr ⟨a, h, rfl⟩, ?_⟩
    show ((a : Int) == (a : Int)) = true
    exact beq_self_eq_true _
theorem nIn : OpR X (compareOp .In) (fun x y H Q => ∃ (a : Nat) (p : Addr) (c : List Nat), x = vI a ∧ y = .ref p ∧ SqN X.K H p c ∧ Q (.bl (decide (a ∈ c))) H) := fun pins s σ H x y v u Q I rx ry ⟨a, p, c, e1, e2, h, q⟩ => by
  subst e1
  exact op_in_seq pins s σ H _ y v u Q I rx ry ⟨p, vsI c, e2, h, rfl, flat_vsI c, by show Q (.bl (inV (vI a) (vsI c))) H; rw [inV_vsI]; exact q⟩
theorem nNotIn : OpR X (compareOp .NotIn) (fun x y H Q => ∃ (a : Nat) (p : Addr) (c : List Nat), x = vI a ∧ y = .ref p ∧ SqN X.K H p c ∧ Q (.bl (decide (a ∉ c))) H) := fun pins s σ H x y v u Q I rx ry ⟨a, p, c, e1, e2, h, q⟩ => by
  subst e1
  exact op_notIn_seq pins s σ H _ y v u Q I rx ry ⟨p, vsI c, e2, h, rfl, flat_vsI c, by show Q (.bl (!inV (vI a) (vsI c))) H; rw [inV_vsI, ← decide_not]; exact q⟩
theorem get_vsI {c : List Nat} {i : Nat} (h : i < c.length) : (vsI c)[i]? = some (vI (c.getD i 0)) := by
  show (c.map vI)[i]? = _
  rw [List.getElem?_map, List.getElem?_eq_getElem h, List.getD_eq_getElem?_getD, List.getElem?_eq_getElem h]
  rfl
theorem nIxT : IxR X (fun x y H Q => ∃ (p : Addr) (c : List Nat) (i : Nat), x = .ref p ∧ y = vI i ∧ SqT X.K H p (vsI c) ∧ i < c.length ∧ Q (vI (c.getD i 0)) H) := fun e1 e2 pins s σ H x y v u Q I rx ry ⟨p, c, i, h1, h2, h3, h4, q⟩ hs =>
  ix_tup e1 e2 pins s σ H x y v u Q I rx ry ⟨p, _, _, _, h1, h2, h3, atI_nat (get_vsI h4), q⟩ hs
theorem nIxL : IxR X (fun x y H Q => ∃ (p : Addr) (c : List Nat) (i : Nat), x = .ref p ∧ y = vI i ∧ SqL X.K H p (vsI c) ∧ i < c.length ∧ Q (vI (c.getD i 0)) H) := fun e1 e2 pins s σ H x y v u Q I rx ry ⟨p, c, i, h1, h2, h3, h4, q⟩ hs =>
  ix_list e1 e2 pins s σ H x y v u Q I rx ry ⟨p, _, _, _, h1, h2, h3, atI_nat (get_vsI h4), q⟩ hs
/-- chart[0], chart[1] -/
theorem chIx0 : IxR X (fun x y H Q => ∃ (A : Nat) (p : Addr) (c : List Nat), x = .ref p ∧ y = vI 0 ∧ ChAt H A p c ∧ Q (vI A) H) := fun e1 e2 pins s σ H x y v u Q I rx ry ⟨A, p, c, h1, h2, ⟨q, h3, h4⟩, k⟩ hs =>
  ix_tup e1 e2 pins s σ H x y v u Q I rx ry ⟨p, _, _, _, h1, h2, SqT.of h3, atI_nat (j := 0) rfl, k⟩ hs
theorem chIx1 : IxR X (fun x y H Q => ∃ (A : Nat) (p : Addr) (c : List Nat), x = .ref p ∧ y = vI 1 ∧ ChAt H A p c ∧ ∀ q, H p = some (.tup [vI A, .ref q]) → H q = some (.tup (vsI c)) → Q (.ref q) H) := fun e1 e2 pins s σ H x y v u Q I rx ry ⟨A, p, c, h1, h2, ⟨q, h3, h4⟩, k⟩ hs =>
  ix_tup e1 e2 pins s σ H x y v u Q I rx ry ⟨p, _, _, _, h1, h2, SqT.of h3, atI_nat (j := 1) rfl, k q h3 h4⟩ hs
/-- max(cells) -/
theorem nMaxT (hc : X.calm = true) : CallR X (.builtin "max") (fun xs H Q => ∃ (p : Addr) (c : List Nat) (k : Nat), xs = [.ref p] ∧ SqT X.K H p (vsI c) ∧ (∀ x ∈ c, x < k + 1) ∧ k ∈ c ∧ Q (vI k) H) := fun pins s σ H xs us Q I rx ⟨p, c, k, e, h, h1, h2, q⟩ => by
  refine TX.cr_maxT hc pins s σ H xs us Q I rx ⟨p, c.map fun (a : Nat) => (a : Int), e, by rw [List.map_map]; exact h, ?_, fun m hm hle => ?_⟩
  · rw [List.length_map]
    exact List.length_pos_of_mem h2
  · obtain ⟨a, ha, rfl⟩ := List.mem_map.mp hm
    have g1 := h1 a ha
    have g2 := hle k (List.mem_map.mpr ⟨k, h2, rfl⟩)
    have : a = k := by omega
    rw [this]
    exact q
/-- xs.append(a) -/
theorem nApp : MtM X "list.append" (fun x vs H Q => ∃ (l : Addr) (c : List Nat) (a : Nat), x = .ref l ∧ vs = [vI a] ∧ H l = some (.lst (vsI c)) ∧ c.length < 1000 ∧ Q .non (upd H l (.lst (vsI (c ++ [a]))))) := fun pins s σ H x vs v us Q I rx rv ⟨l, c, a, e1, e2, h1, h2, q⟩ =>
  mt_append pins s σ H x vs v us Q I rx rv ⟨l, _, _, e1, e2, h1, by rw [len_vsI]; exact small1000 (by omega), by rw [vsI_snoc]; exact q⟩
end
theorem sm {l : List Nat} (h : l.length < 1000) : (vsI l).length < sizeLine := by rw [len_vsI]; exact small1000 (by omega)
/-! the same within a comprehension, where K is said -/
section
variable {X : Cx} (K : PySem.W.Frag)
theorem nLenk (hK : X.K = K := by rfl) : CallR X (.builtin "len") (fun xs H Q => ∃ p c, xs = [.ref p] ∧ SqN K H p c ∧ Q (vI c.length) H) := by subst hK; exact nLen
theorem nInk (hK : X.K = K := by rfl) : OpR X (compareOp .In) (fun x y H Q => ∃ (a : Nat) (p : Addr) (c : List Nat), x = vI a ∧ y = .ref p ∧ SqN K H p c ∧ Q (.bl (decide (a ∈ c))) H) := by subst hK; exact nIn
theorem nNotInk (hK : X.K = K := by rfl) : OpR X (compareOp .NotIn) (fun x y H Q => ∃ (a : Nat) (p : Addr) (c : List Nat), x = vI a ∧ y = .ref p ∧ SqN K H p c ∧ Q (.bl (decide (a ∉ c))) H) := by subst hK; exact nNotIn
theorem nIxTk (hK : X.K = K := by rfl) : IxR X (fun x y H Q => ∃ (p : Addr) (c : List Nat) (i : Nat), x = .ref p ∧ y = vI i ∧ SqT K H p (vsI c) ∧ i < c.length ∧ Q (vI (c.getD i 0)) H) := by subst hK; exact nIxT
theorem nIxLk (hK : X.K = K := by rfl) : IxR X (fun x y H Q => ∃ (p : Addr) (c : List Nat) (i : Nat), x = .ref p ∧ y = vI i ∧ SqL K H p (vsI c) ∧ i < c.length ∧ Q (vI (c.getD i 0)) H) := by subst hK; exact nIxL
theorem ix_tupk (hK : X.K = K := by rfl) : IxR X (rIxT K) := by subst hK; exact ix_tup
theorem ix_listk (hK : X.K = K := by rfl) : IxR X (rIxL K) := by subst hK; exact ix_list
theorem pi_listk {tg l : Expr} {tl : TE} (hl : PE X l tl) (hK : X.K = K := by rfl) : PI X tg l (iList K tl) := by subst hK; exact pi_list hl
theorem sl_tupAk (hK : X.K = K := by rfl) : SlR X (rSlA K) := by subst hK; exact sl_tupA
end
theorem lc_rangeN {n : Nat} {g : TG} {tt : TT} {te : TE} {vs : List Nat} {σ : L2.St} {H1 : Hp} {D : Addr} {Qd : Hp → Prop} (Pv : Nat → Hp → Prop) (h0 : Pv 0 (upd H1 D (.lst [])))
    (hs : ∀ i H, i < n → Pv i H → g (vI i) (wipe σ vs) H fun σ2 H2 => wipe σ2 vs = wipe σ vs ∧ tt σ2 H2 fun b H3 =>
      if b = true then te σ2 H3 fun y H4 => ∃ acc, H4 D = some (.lst acc) ∧ acc.length < sizeLine ∧ Pv (i + 1) (upd H4 D (.lst (acc ++ [y]))) else Pv (i + 1) H3) (hd : ∀ H, Pv n H → Qd H) :
    ∃ W : Nat → Nat → Hp → Prop, (∃ m, W 0 m (upd H1 D (.lst []))) ∧ ∀ i m H, W i m H →
      ((Itr 0 n).stop i H ∧ Qd H) ∨ ((Itr 0 n).go i H ∧ ∃ Nx : Hp → Prop, (∀ H', Nx H' → ∃ m', m' < m ∧ W (i + 1) m' H') ∧ ∀ x H', (Itr 0 n).yld i H x H' → g x (wipe σ vs) H' fun σ2 H2 => wipe σ2 vs = wipe σ vs ∧ tt σ2 H2 fun b H3 =>
        if b = true then te σ2 H3 fun y H4 => ∃ acc, H4 D = some (.lst acc) ∧ acc.length < sizeLine ∧ Nx (upd H4 D (.lst (acc ++ [y]))) else Nx H3) :=
  lc_range (lo := 0) Pv h0 (fun i H hi p => by rw [natV (i := 0 + (i : Int)) (a := i) (by omega)]; exact hs i H hi p) hd
theorem for_rangeN {n : Nat} {g : TG} {tb : TS} {D : Ends} {σ : L2.St} {H : Hp} (Pv : Nat → L2.St → Hp → Prop) (h0 : Pv 0 σ H)
    (hs : ∀ i σ H, i < n → Pv i σ H → g (vI i) σ H fun σ2 H2 => tb { D with nx := Pv (i + 1), ct := Pv (i + 1), bk := D.nx } σ2 H2) (hd : ∀ σ H, Pv n σ H → D.nx σ H) :
    ∃ W : Nat → Nat → L2.St → Hp → Prop, (∃ m, W 0 m σ H) ∧ ∀ i m σ H, W i m σ H →
      ((Itr 0 n).stop i H ∧ D.nx σ H) ∨ ((Itr 0 n).go i H ∧ ∃ N : L2.St → Hp → Prop, (∀ σ' H', N σ' H' → ∃ m', m' < m ∧ W (i + 1) m' σ' H') ∧ ∀ x H', (Itr 0 n).yld i H x H' → g x σ H' fun σ2 H2 => tb { D with nx := N, ct := N, bk := D.nx } σ2 H2) :=
  for_range (lo := 0) Pv h0 (fun i σ H hi p => by rw [natV (i := 0 + (i : Int)) (a := i) (by omega)]; exact hs i σ H hi p) hd
end Sl
set_option Elab.async false
set_option linter.all false
set_option maxRecDepth 100000
set_option maxHeartbeats 4000000
namespace Sl
open PySem PySem.Spec PyProof.Rows L2 Star DX
section
variable {P : Program} {w : World} {K : PySem.W.Frag} {mg : Str → Option Value} {base : Heap}
/-! ### is_in -/
abbrev N_is_in : List Str := ["value", "least", "most"]
theorem sc_is_in : FnScope N_is_in ["value", "least", "most"] (defScope (topS 7)) := ⟨rfl, rfl, rfl, by decide +kernel, rfl, by decide +kernel, by decide +kernel⟩
def sp_is_in : Sp := fun vs H Q _ => ∃ v a b : Int, vs = [.int v, .int a, .int b] ∧ a ≤ v ∧ v ≤ b ∧ Q (.bl true) H
theorem ok_is_in {f : Addr} {fd : FuncData} (F : Fun K "is_in" "is_in" (topS 7) f fd) (m_isinstance : mg "isinstance" = none) (m_int : mg "int" = none) (m_bool : mg "bool" = none) : FnOk P w K mg base CX0 1 f fd ["value", "least", "most"] sp_is_in := by
  have nd := sc_is_in.nd
  refine F.ok sc_is_in (fun vs H Q E h => ?_) (fun cdv A outer s H vs Q E hr h => ?_)
  · obtain ⟨v, a, b, rfl, _⟩ := h; rfl
  · obtain ⟨v, a, b, rfl, h1, h2, q⟩ := h
    refine ⟨_, (pss_one (ps_ret (pe_and (pe_callB call_isi (by rfl) m_isinstance (by decide +kernel) (pa_cons (pv 0) (pa_cons (pe_bltn (v := .ty "int") (by rfl) m_int (by decide +kernel) rfl) pa_nil))) (pe_and (pe_not (pe_callB call_isi (by rfl) m_isinstance (by decide +kernel) (pa_cons (pv 0) (pa_cons (pe_bltn (v := .ty "bool") (by rfl) m_bool (by decide +kernel) rfl) pa_nil)))) (pe_one (pe_chain op_le op_le (pv 1) (pv 0) (pv 2))))))), ?_⟩
    refine ⟨_, rfl, _, _, _, _, true, rfl, .ty _, .base (.int v), kit_ty (by decide +kernel), true, rfl, ?_⟩
    refine ⟨_, rfl, _, _, _, _, false, rfl, .ty _, .base (.int v), kit_ty (by decide +kernel), false, rfl, true, rfl, ?_⟩
    refine ⟨_, rfl, _, rfl, a, v, rfl, rfl, decide (a ≤ v), rfl, ?_⟩
    dsimp only
    rw [decide_eq_true h1]
    refine ⟨_, rfl, v, b, rfl, rfl, ?_⟩
    dsimp only
    rw [decide_eq_true h2]
    exact q
/-! ### near -/
abbrev N_near : List Str := ["arms", "length", "cell", "step", "found", "arm"]
theorem sc_near : FnScope N_near ["arms", "length", "cell"] (defScope (topS 8)) := ⟨rfl, rfl, rfl, by decide +kernel, rfl, by decide +kernel, by decide +kernel⟩
def sp_near : Sp := fun vs H Q _ => ∃ A L x : Nat, vs = [vI A, vI L, vI x] ∧ Isl A L ∧ x < A * L + 1 ∧ ∀ H' p, Gr H H' → H p = none → H' p = some (.lst (vsI (near A L x))) → Q (.ref p) H'
theorem Isl.le4 {A L : Nat} (h : Isl A L) : A ≤ 4 ∧ L ≤ 3 ∧ 0 < L ∧ 3 ≤ A := by
  obtain ⟨h1, h2⟩ := h
  omega
theorem one_le {x : V} : [x].length ≤ sizeLine := by show 1 ≤ sizeLine; decide
theorem one_lt {x : Nat} : [x].length < 1000 := by show 1 < 1000; decide
theorem near_small {A L : Nat} (h : Isl A L) : A * L + 1 ≤ 13 := by
  refine h.all (p := fun A L => A * L + 1 ≤ 13) ?_ ?_ ?_ ?_ ?_ ?_ <;> decide
theorem ok_near {f : Addr} {fd : FuncData} (F : Fun K "near" "near" (topS 8) f fd) (m_range : mg "range" = none) : FnOk P w K mg base CX0 1 f fd ["arms", "length", "cell"] sp_near := by
  have nd := sc_near.nd
  refine F.ok sc_near (fun vs H Q E h => ?_) (fun cdv A outer s H vs Q E hr h => ?_)
  · obtain ⟨_, _, _, rfl, _⟩ := h; rfl
  · obtain ⟨m, L, x, rfl, hI, hx, q⟩ := h
    obtain ⟨b1, b2, b3, b4⟩ := Isl.le4 hI
    refine ⟨_, (pss_cons (ps_if (pt_cmpR nEq (pv 2) pe_int (nomark _)) (pss_one (ps_ret (pe_lc (own := [("arm", 5)]) rfl nd (pi_range1 (by rfl) m_range (pa_cons (pv 0) pa_nil)) (blkOk_by (own := [("arm", 5)]) (N := N_near) (sc := defScope (topS 8)) (by decide +kernel)) (fun _ _ _ _ _ => (pg_name (i := 5) nd rfl (Or.inl rfl))) (fun _ _ _ _ _ => pts_nil) (fun _ _ _ _ _ => (pe_op nAdd pe_int (pe_op nMul (pv 5) (pv 1))))))) pss_nil)
      (pss_cons (ps_set (i := 3) nd rfl (Or.inl rfl) (pe_op nMod (pe_op nSub (pv 2) pe_int) (pv 1)))
      (pss_cons (ps_set (i := 4) nd rfl (Or.inl rfl) (pe_lst (pa_cons (pe_ifExp (pt_truth (pv 3) (fun _ => rfl)) (pe_op nSub (pv 2) pe_int) pe_int) pa_nil)))
      (pss_cons (ps_if (pt_cmpR nLt (pe_op nAdd (pv 3) pe_int) (pv 1) (nomark _)) (pss_one (ps_expr (pe_bm PySem.F.plainAttrs_list PySem.F.slot_list_append PySem.F.type_list_append nApp (pv 4) (pa_cons (pe_op nAdd (pv 2) pe_int) pa_nil)))) pss_nil)
      (pss_one (ps_ret (pv 4))))))), ?_⟩
    refine ⟨_, rfl, x, 0, rfl, rfl, _, rfl, ite2 (fun e => ?_) (fun e => ?_)⟩
    · have e0 : x = 0 := of_decide_eq_true e
      subst e0
      refine ⟨_, rfl, m, rfl, by omega, by omega, fun D hD => ?_⟩
      refine lc_rangeN (n := m) (fun i H' => H' = upd H D (.lst (vsI ((List.range i).map fun a => 1 + a * L)))) rfl (fun i H' hi e => ?_) (fun H' e => ?_)
      · subst e
        refine ⟨rfl, _, rfl, _, rfl, i, L, rfl, rfl, by omega, 1, _, rfl, rfl, _, upd_same, sm ?_, ?_⟩
        · rw [List.length_map, List.length_range]
          omega
        · rw [vsI_snoc, upd_upd, List.range_succ, List.map_append]
          rfl
      · subst e
        exact q _ D (Gr.new hD) hD upd_same
    · have e0 : x ≠ 0 := fun z => e (decide_eq_true z)
      have hk : TruV K (vI ((x - 1) % L)) H (decide ((x - 1) % L ≠ 0)) := by
        show decide ((x - 1) % L ≠ 0) = ((((x - 1) % L : Nat) : Int) != 0)
        rw [bne, Bool.eq_iff_iff]
        simp
        omega
      have hin : inner L x = if (x - 1) % L = 0 then 0 else x - 1 := rfl
      refine ⟨_, rfl, x, 1, rfl, rfl, by omega, _, rfl, x - 1, L, rfl, rfl, b3, ?_⟩
      refine ⟨_, rfl, _, hk, ite2 (fun e => ⟨_, rfl, x, 1, rfl, rfl, by omega, ?_⟩) (fun e => ?_)⟩
      · have e1 := of_decide_eq_true e
        rw [if_neg e1] at hin
        rw [show vI (x - 1) = vI (inner L x) by rw [hin]]
        refine ⟨one_le, fun o ho => ?_⟩
        refine ⟨_, rfl, (x - 1) % L, 1, rfl, rfl, _, rfl, _, L, rfl, rfl, _, rfl, ite2 (fun e2 => ?_) (fun e2 => ?_)⟩
        · have e3 := of_decide_eq_true e2
          refine ⟨_, rfl, .inl ⟨rfl, _, SqL.of upd_same⟩, _, rfl, x, 1, rfl, rfl, o, [inner L x], x + 1, rfl, rfl, upd_same, one_lt, ?_⟩
          refine ⟨_, rfl, q _ o ((Gr.new ho).set ho) ho ?_⟩
          rw [upd_same]
          unfold near
          rw [if_neg e0, if_pos e3]
          rfl
        · have e3 : ¬ (x - 1) % L + 1 < L := fun z => e2 (decide_eq_true z)
          refine ⟨_, rfl, q _ o (Gr.new ho) ho ?_⟩
          rw [upd_same]
          unfold near
          rw [if_neg e0, if_neg e3]
          rfl
      · have e1 : (x - 1) % L = 0 := Classical.byContradiction fun z => e (decide_eq_true z)
        rw [if_pos e1] at hin
        refine ⟨one_le, fun o ho => ?_⟩
        refine ⟨_, rfl, (x - 1) % L, 1, rfl, rfl, _, rfl, _, L, rfl, rfl, _, rfl, ite2 (fun e2 => ?_) (fun e2 => ?_)⟩
        · have e3 := of_decide_eq_true e2
          refine ⟨_, rfl, .inl ⟨rfl, _, SqL.of upd_same⟩, _, rfl, x, 1, rfl, rfl, o, [0], x + 1, rfl, rfl, upd_same, one_lt, ?_⟩
          refine ⟨_, rfl, q _ o ((Gr.new ho).set ho) ho ?_⟩
          rw [upd_same]
          unfold near
          rw [if_neg e0, if_pos e3, hin]
          rfl
        · have e3 : ¬ (x - 1) % L + 1 < L := fun z => e2 (decide_eq_true z)
          refine ⟨_, rfl, q _ o (Gr.new ho) ho ?_⟩
          rw [upd_same]
          unfold near
          rw [if_neg e0, if_neg e3, hin]
          rfl
/-! ### length_of -/
theorem sc_length_of : FnScope ["chart"] ["chart"] (defScope (topS 9)) := ⟨rfl, rfl, rfl, by decide +kernel, rfl, by decide +kernel, by decide +kernel⟩
/-- the chart at p -/
structure Ch (H : Hp) (A L : Nat) (p : Addr) (c : List Nat) : Prop where
  isl : Isl A L
  len : c.length = A * L + 1
  at_ : ChAt H A p c
theorem Ch.gr {H H' : Hp} {A L : Nat} {p : Addr} {c : List Nat} (h : Ch H A L p c) (g : Gr H H') : Ch H' A L p c := ⟨h.isl, h.len, g.ch h.at_⟩
theorem len_div {A L n : Nat} (hI : Isl A L) (h : n = A * L + 1) : (n - 1) / A = L := by
  obtain ⟨b1, b2, b3, b4⟩ := Isl.le4 hI
  rw [h, Nat.add_sub_cancel, Nat.mul_div_cancel_left _ (by omega)]
def sp_length_of : Sp := fun vs H Q _ => ∃ A L p c, vs = [.ref p] ∧ Ch H A L p c ∧ Q (vI L) H
theorem ok_length_of {f : Addr} {fd : FuncData} (F : Fun K "length_of" "length_of" (topS 9) f fd) (m_len : mg "len" = none) : FnOk P w K mg base CX0 1 f fd ["chart"] sp_length_of := by
  have nd := sc_length_of.nd
  refine F.ok sc_length_of (fun vs H Q E h => ?_) (fun cdv A outer s H vs Q E hr h => ?_)
  · obtain ⟨_, _, _, _, rfl, _⟩ := h; rfl
  · obtain ⟨m, L, p, c, rfl, hC, q⟩ := h
    obtain ⟨b1, b2, b3, b4⟩ := Isl.le4 hC.isl
    refine ⟨_, (pss_one (ps_ret (pe_op nDiv (pe_op nSub (pe_callB nLen (by rfl) m_len (by decide +kernel) (pa_cons (pe_ix chIx1 (pv 0) pe_int (fun _ _ => rfl)) pa_nil)) pe_int) (pe_ix chIx0 (pv 0) pe_int (fun _ _ => rfl))))), ?_⟩
    refine ⟨_, rfl, m, p, c, rfl, rfl, hC.at_, fun a h1 h2 => ⟨a, c, rfl, .inr (SqT.of h2), c.length, 1, rfl, rfl, by rw [hC.len]; omega, _, rfl, m, p, c, rfl, rfl, hC.at_, _, m, rfl, rfl, by omega, by omega, ?_⟩⟩
    rw [len_div hC.isl hC.len]
    exact q
/-! ### held -/
abbrev N_held : List Str := ["cells", "land", "cell", "one"]
theorem sc_held : FnScope N_held ["cells", "land"] (defScope (topS 11)) := ⟨rfl, rfl, rfl, by decide +kernel, rfl, by decide +kernel, by decide +kernel⟩
def sp_held : Sp := fun vs H Q _ => ∃ p c o, vs = [.ref p, vI o] ∧ H p = some (.tup (vsI c)) ∧ c.length ≤ 13 ∧ ∀ H' r, Gr H H' → H r = none → H' r = some (.lst (vsI (cellsOf c o))) → Q (.ref r) H'
def cellsTo (c : List Nat) (o i : Nat) : List Nat := (List.range i).filter fun i => decide (c.getD i 0 = o)
theorem filter_len {p : Nat → Bool} {i : Nat} : ((List.range i).filter p).length ≤ i := by
  have := List.length_filter_le p (List.range i)
  rw [List.length_range] at this
  exact this
theorem ok_held {f : Addr} {fd : FuncData} (F : Fun K "held" "held" (topS 11) f fd) (m_enumerate : mg "enumerate" = none) : FnOk P w K mg base CX0 1 f fd ["cells", "land"] sp_held := by
  have nd := sc_held.nd
  refine F.ok sc_held (fun vs H Q E h => ?_) (fun cdv A outer s H vs Q E hr h => ?_)
  · obtain ⟨_, _, _, rfl, _⟩ := h; rfl
  · obtain ⟨p, c, o, rfl, hp, hl, q⟩ := h
    refine ⟨_, (pss_one (ps_ret (pe_lc (own := [("cell", 2), ("one", 3)]) (g := gTup K 2 (gCons (gName 2) (gCons (gName 3) gNil))) rfl nd (TX.pi_enumT (by rfl) m_enumerate (pa_cons (pv 0) pa_nil)) (blkOk_by (own := [("cell", 2), ("one", 3)]) (N := N_held) (sc := defScope (topS 11)) (by decide +kernel)) (fun _ _ _ _ _ => (pg_tup rfl (pgs_cons (pg_name (i := 2) nd rfl (Or.inl rfl)) (pgs_cons (pg_name (i := 3) nd rfl (Or.inl rfl)) pgs_nil)))) (fun _ _ _ _ _ => pts_one (pt_cmpR nEq (pv 3) (pv 1) (nomark _))) (fun _ _ _ _ _ => (pv 2))))), ?_⟩
    refine ⟨_, rfl, p, vsI c, rfl, SqT.of hp, fun D hD => ?_⟩
    refine TX.lc_enumT (a := p) (xs := vsI c) (fun i H' => Gr H H' ∧ H' D = some (.lst (vsI (cellsTo c o i)))) ⟨Gr.new hD, upd_same⟩ (fun i H' _ e => SqT.of (e.1.tup hp)) (fun i x H' T hx e hT => ?_) (fun H' e => ?_)
    · obtain ⟨g, eD⟩ := e
      have hi : i < c.length := by
        have := (List.getElem?_eq_some_iff.mp hx).1
        rw [len_vsI] at this
        exact this
      rw [get_vsI hi] at hx
      cases hx
      have nTD : D ≠ T := ne_of_none eD hT
      have g2 : Gr H' (upd H' T (.tup [vI i, vI (c.getD i 0)])) := Gr.new hT
      refine ⟨T, _, rfl, SqT.of upd_same, rfl, _, _, rfl, _, [], rfl, rfl, ?_⟩
      refine ⟨rfl, _, rfl, _, rfl, _, o, rfl, rfl, _, rfl, ite2 (fun e => ?_) (fun e => ?_)⟩
      · have e1 := of_decide_eq_true e
        refine ⟨_, rfl, _, g2.lst eD, sm ?_, (g.trans g2).set hD, ?_⟩
        · have := filter_len (p := fun i => decide (c.getD i 0 = o)) (i := i)
          unfold cellsTo
          omega
        · rw [upd_same, vsI_snoc]
          unfold cellsTo
          rw [List.range_succ, List.filter_append, List.filter_cons_of_pos (by simpa using e1)]
          rfl
      · have e1 : ¬ c.getD i 0 = o := fun z => e (decide_eq_true z)
        refine ⟨g.trans g2, ?_⟩
        rw [g2.lst eD]
        unfold cellsTo
        rw [List.range_succ, List.filter_append, List.filter_cons_of_neg (by simpa using e1), List.filter_nil, List.append_nil]
    · obtain ⟨g, eD⟩ := e
      rw [len_vsI] at eD
      exact q H' D g hD eD
end
end Sl
set_option Elab.async false
set_option linter.all false
set_option maxRecDepth 100000
set_option maxHeartbeats 4000000
namespace Sl
open PySem PySem.Spec PyProof.Rows L2 Star DX
section
variable {P : Program} {w : World} {K : PySem.W.Frag} {mg : Str → Option Value} {base : Heap}
/-! ### hangs -/
abbrev N_hangs : List Str := ["arms", "cells", "some", "length", "found", "rows", "more", "cell", "other"]
theorem sc_hangs : FnScope N_hangs ["arms", "cells", "some"] (defScope (topS 10)) := ⟨rfl, rfl, rfl, by decide +kernel, rfl, by decide +kernel, by decide +kernel⟩
def sp_hangs : Sp := fun vs H Q _ => ∃ A L q c s S, vs = [vI A, .ref q, .ref s] ∧ Isl A L ∧ H q = some (.tup (vsI c)) ∧ c.length = A * L + 1 ∧ H s = some (.lst (vsI S)) ∧ S.Nodup ∧ (∀ x ∈ S, x < A * L + 1) ∧
  ∀ b H', (b = true ↔ Conn A L S) → Gr H H' → Q (.bl b) H'
/-- what holds of the search's lists -/
structure Sch (S seen m : List Nat) : Prop where
  nd : (seen ++ m).Nodup
  sub : ∀ x ∈ seen ++ m, x ∈ S
theorem Sch.len {A L : Nat} {S seen m : List Nat} (hI : Isl A L) (hS : ∀ x ∈ S, x < A * L + 1) (h : Sch S seen m) : (seen ++ m).length ≤ 13 := by
  have := nodup_len (seen ++ m) (List.range (A * L + 1)) h.nd fun x hx => List.mem_range.mpr (hS x (h.sub x hx))
  rw [List.length_range] at this
  exact Nat.le_trans this (near_small hI)
theorem Sch.add {S seen m : List Nat} {y : Nat} (h : Sch S seen m) (h1 : y ∈ S) (h2 : y ∉ seen ++ m) : Sch S seen (m ++ [y]) := by
  refine ⟨?_, fun x hx => ?_⟩
  · rw [← List.append_assoc]
    refine List.nodup_append.mpr ⟨h.nd, List.nodup_cons.mpr ⟨(fun z => nomatch z), List.nodup_nil⟩, fun a ha b hb e => ?_⟩
    rw [List.mem_singleton.mp hb] at e
    rw [e] at ha
    exact h2 ha
  · rw [← List.append_assoc] at hx
    rcases List.mem_append.mp hx with hx | hx
    · exact h.sub x hx
    · rw [List.mem_singleton.mp hx]; exact h1
theorem Sch.addS {S seen m : List Nat} (y : Nat) (h : Sch S seen m) : Sch S seen (addS S seen m y) := by
  unfold Star.addS
  by_cases c : y ∈ S ∧ y ∉ seen ++ m
  · rw [if_pos c]; exact h.add c.1 c.2
  · rw [if_neg c]; exact h
theorem take_snoc {l : List Nat} {i : Nat} (h : i < l.length) : l.take (i + 1) = l.take i ++ [l.getD i 0] := by
  rw [List.take_add_one, List.getD_eq_getElem?_getD, List.getElem?_eq_getElem h]
  rfl
theorem at_vsI {c : List Nat} {i : Nat} {x : V} (h : (vsI c)[i]? = some x) : i < c.length ∧ x = vI (c.getD i 0) := by
  have hi : i < c.length := by
    have := (List.getElem?_eq_some_iff.mp h).1
    rw [len_vsI] at this
    exact this
  rw [get_vsI hi] at h
  exact ⟨hi, (Option.some.inj h).symm⟩
theorem ok_hangs {f : Addr} {fd : FuncData} (F : Fun K "hangs" "hangs" (topS 10) f fd) (c_near : Cal P w K mg base 1 "near" ["arms", "length", "cell"] sp_near) (m_len : mg "len" = none) : FnOk P w K mg base CX0 2 f fd ["arms", "cells", "some"] sp_hangs := by
  have nd := sc_hangs.nd
  refine F.ok sc_hangs (fun vs H Q E h => ?_) (fun cdv A outer s H vs Q E hr h => ?_)
  · obtain ⟨_, _, _, _, _, _, rfl, _⟩ := h; rfl
  · obtain ⟨m, L, q, c, so, S, rfl, hI, hq, hc, hs, hnd, hS, k⟩ := h
    obtain ⟨b1, b2, b3, b4⟩ := Isl.le4 hI
    refine ⟨_, (pss_cons (ps_if (pt_not (pt_truth (pv 2) (fun _ => rfl))) (pss_one (ps_ret pe_bl)) pss_nil)
      (pss_cons (ps_par3 (i := 3) (j := 4) (l := 5) rfl nd rfl rfl rfl (by decide) (by decide) (by decide) rfl rfl rfl (pa_cons (pe_op nDiv (pe_op nSub (pe_callB nLen (by rfl) m_len (by decide +kernel) (pa_cons (pv 1) pa_nil)) pe_int) (pv 0)) (pa_cons (pe_lst (pa_cons (pe_ix nIxL (pv 2) pe_int (fun _ _ => rfl)) pa_nil)) (pa_cons (pe_lst (pa_cons (pe_ix nIxL (pv 2) pe_int (fun _ _ => rfl)) pa_nil)) pa_nil))) (by rfl))
      (pss_cons (ps_while PassesOwn.never (pt_truth (pv 5) (fun _ => rfl)) (pss_cons (ps_set (i := 6) nd rfl (Or.inl rfl) (pe_lst pa_nil))
      (pss_cons (ps_for PassesOwn.never rfl (pi_list (pv 5)) (pg_name (i := 7) nd rfl (Or.inl rfl)) (pss_one (ps_for PassesOwn.never rfl (pi_list (pcall c_near hr (by decide) (by rfl) (pa_cons (pv 0) (pa_cons (pv 3) (pa_cons (pv 7) pa_nil))))) (pg_name (i := 8) nd rfl (Or.inl rfl)) (pss_one (ps_if (PW.pt (pw_and (pt_cmpR nIn (pv 8) (pv 2) (by rfl)) (pw_and1 (pt_cmpR nNotIn (pv 8) (pv 4) (by rfl))))) (pss_cons (ps_expr (pe_bm PySem.F.plainAttrs_list PySem.F.slot_list_append PySem.F.type_list_append nApp (pv 4) (pa_cons (pv 8) pa_nil)))
      (pss_one (ps_expr (pe_bm PySem.F.plainAttrs_list PySem.F.slot_list_append PySem.F.type_list_append nApp (pv 6) (pa_cons (pv 8) pa_nil))))) pss_nil)))))
      (pss_one (ps_set (i := 5) nd rfl (Or.inl rfl) (pv 6))))))
      (pss_one (ps_ret (pe_cmpR nEq (pe_callB nLen (by rfl) m_len (by decide +kernel) (pa_cons (pv 4) pa_nil)) (pe_callB nLen (by rfl) m_len (by decide +kernel) (pa_cons (pv 2) pa_nil)) (nomark _))))))), ?_⟩
    refine ⟨_, rfl, _, .inl ⟨_, SqL.of hs, rfl⟩, ite2 (fun e => ?_) (fun e => ?_)⟩
    · have e0 : S = [] := by
        cases S with
        | nil => rfl
        | cons a r => exact absurd e (fun z => nomatch z)
      refine k false H ⟨fun z => (nomatch z), fun z => absurd e0 z.1⟩ (Gr.refl H)
    · cases S with
      | nil => exact absurd rfl e
      | cons h rs =>
      clear e
      refine ⟨_, rfl, q, c, rfl, .inr (SqT.of hq), c.length, 1, rfl, rfl, by omega, _, rfl, _, m, rfl, rfl, by omega, by omega, ?_⟩
      rw [len_div hI hc]
      refine ⟨_, rfl, so, h :: rs, 0, rfl, rfl, SqL.of hs, Nat.succ_pos _, one_le, fun o ho => ?_⟩
      have g1 : Gr H (upd H o (.lst (vsI [h]))) := Gr.new ho
      refine ⟨_, rfl, so, h :: rs, 0, rfl, rfl, SqL.of (g1.lst hs), Nat.succ_pos _, one_le, fun r hr' => ?_⟩
      have nro : o ≠ r := ne_of_none upd_same hr'
      have g2 : Gr (upd H o (.lst (vsI [h]))) (upd (upd H o (.lst (vsI [h]))) r (.lst (vsI [h]))) := Gr.new hr'
      refine ⟨_, _, _, rfl, ?_⟩
      generalize hS0 : h :: rs = S0 at *
      have hh : h ∈ S0 := by rw [← hS0]; exact List.mem_cons_self
      have eg : S0.getD 0 0 = h := by rw [← hS0]; rfl
      rw [eg]
      refine ⟨fun n σ H1 => ∃ r seen rows y6 y7 y8, σ = [some (vI m), some (.ref q), some (.ref so), some (vI L), some (.ref o), some (.ref r), y6, y7, y8] ∧ Gr H H1 ∧ H o = none ∧ H1 o = some (.lst (vsI seen)) ∧ H1 r = some (.lst (vsI rows)) ∧ o ≠ r ∧ BInv (inS m L S0) h seen rows ∧ n = meas 13 seen rows,
        ⟨_, r, [h], [h], none, none, none, rfl, g1.trans g2, ho, g2.lst upd_same, upd_same, nro, BInv.start _ h, rfl⟩, fun n σ H1 hW => ?_⟩
      obtain ⟨r, seen, rows, y6, y7, y8, rfl, g, g0, eo, er, nro, bi, rfl⟩ := hW
      have sch : Sch S0 seen [] := ⟨by rw [List.append_nil]; exact bi.nd, fun x hx => reach_in hI hS (bi.reach x (by rw [List.append_nil] at hx; exact hx)) hh⟩
      refine ⟨_, rfl, _, .inl ⟨_, SqL.of er, rfl⟩, ite2 (fun e => ?_) (fun e => ?_)⟩
      · have hrows : rows ≠ [] := fun z => by
          rw [z] at e
          exact absurd e (fun z => nomatch z)
        refine ⟨fun σ H2 => ∃ r seen' rows' y6 y7 y8, σ = [some (vI m), some (.ref q), some (.ref so), some (vI L), some (.ref o), some (.ref r), y6, y7, y8] ∧ Gr H H2 ∧ H o = none ∧ H2 o = some (.lst (vsI seen')) ∧ H2 r = some (.lst (vsI rows')) ∧ o ≠ r ∧ BInv (inS m L S0) h seen' rows' ∧ meas 13 seen' rows' < meas 13 seen rows,
          fun σ' H' ⟨r', s', r2, z6, z7, z8, z⟩ => ⟨_, z.2.2.2.2.2.2.2, r', s', r2, z6, z7, z8, z.1, z.2.1, z.2.2.1, z.2.2.2.1, z.2.2.2.2.1, z.2.2.2.2.2.1, z.2.2.2.2.2.2.1, rfl⟩, ?_⟩
        refine ⟨Nat.zero_le _, fun o2 ho2 => ?_⟩
        have n2o : o ≠ o2 := ne_of_none eo ho2
        have n2r : r ≠ o2 := ne_of_none er ho2
        have n2H : H o2 = none := g.non o2 ho2
        have noH : H o = none := g0 
        have g3 : Gr H1 (upd H1 o2 (.lst [])) := Gr.new ho2
        -- for cell in rows
        refine ⟨_, rfl, r, rfl, ⟨_, SqL.of (g3.lst er)⟩, ?_⟩
        refine for_list (K := K) (a := r) (xs := vsI rows) (fun i σ H2 => ∃ y7 y8 mm, σ = [some (vI m), some (.ref q), some (.ref so), some (vI L), some (.ref o), some (.ref r), some (.ref o2), y7, y8] ∧ Gr H H2 ∧ H2 r = some (.lst (vsI rows)) ∧ H2 o = some (.lst (vsI (seen ++ mm))) ∧ H2 o2 = some (.lst (vsI mm)) ∧ Sch S0 seen mm ∧ mm = (rows.take i).foldl (fun m1 x => addN seen m1 (inS m L S0 x)) [])
          ⟨y7, y8, [], rfl, g.trans g3, g3.lst er, by rw [List.append_nil]; exact g3.lst eo, upd_same, sch, rfl⟩ (fun i σ H2 _ z => ?_) (fun i x σ H2 hx z => ?_) (fun σ H2 z => ?_)
        · obtain ⟨_, _, _, _, _, z, _⟩ := z
          exact SqL.of z
        · obtain ⟨z7, z8, mm, rfl, g5, e1, e2, e3, sc, emm⟩ := z
          obtain ⟨hi, rfl⟩ := at_vsI hx
          have hxs : rows.getD i 0 ∈ S0 := reach_in hI hS (bi.reach _ (bi.sub _ (by rw [List.getD_eq_getElem?_getD, List.getElem?_eq_getElem hi]; exact List.getElem_mem hi))) hh
          generalize hX : rows.getD i 0 = X at *
          refine ⟨_, rfl, _, rfl, _, rfl, m, L, X, rfl, hI, hS _ hxs, fun H3 p g6 np ep => ?_⟩
          have npo : o ≠ p := ne_of_none e2 np
          have npo2 : o2 ≠ p := ne_of_none e3 np
          refine ⟨p, rfl, ⟨_, SqL.of ep⟩, ?_⟩
          refine for_list (K := K) (a := p) (xs := vsI (near m L X)) (fun j σ H4 => ∃ y8 mj, σ = [some (vI m), some (.ref q), some (.ref so), some (vI L), some (.ref o), some (.ref r), some (.ref o2), some (vI X), y8] ∧ Gr H H4 ∧ H4 r = some (.lst (vsI rows)) ∧ H4 o = some (.lst (vsI (seen ++ mj))) ∧ H4 o2 = some (.lst (vsI mj)) ∧ H4 p = some (.lst (vsI (near m L X))) ∧ Sch S0 seen mj ∧ mj = ((near m L X).take j).foldl (addS S0 seen) mm)
            ⟨z8, mm, rfl, g5.trans g6, g6.lst e1, g6.lst e2, g6.lst e3, ep, sc, rfl⟩ (fun j σ H4 _ z => ?_) (fun j x σ H4 hy z => ?_) (fun σ H4 z => ?_)
          · obtain ⟨_, _, _, _, _, _, _, z, _⟩ := z
            exact SqL.of z
          · obtain ⟨y8, mj, rfl, g7, f1, f2, f3, f4, sj, ej⟩ := z
            obtain ⟨hj, rfl⟩ := at_vsI hy
            generalize hY : (near m L X).getD j 0 = Y at *
            have stepE : ((near m L X).take (j + 1)).foldl (addS S0 seen) mm = addS S0 seen mj Y := by
              rw [take_snoc hj, List.foldl_append, ← ej, hY]
              rfl
            have hl := sj.len hI hS
            have sj2 := sj.addS Y
            refine ⟨_, rfl, _, rfl, Y, so, S0, rfl, rfl, .inl (SqL.of (g7.lst hs)), _, rfl, ite2 (fun e => ?_) (fun e => ?_)⟩
            · have c1 := of_decide_eq_true e
              refine ⟨_, rfl, _, rfl, Y, o, seen ++ mj, rfl, rfl, .inl (SqL.of f2), _, rfl, ite2 (fun e => ?_) (fun e => ?_)⟩
              · have c2 := of_decide_eq_true e
                have ea : addS S0 seen mj Y = mj ++ [Y] := by unfold addS; rw [if_pos ⟨c1, c2⟩]
                rw [List.length_append] at hl
                refine ⟨_, rfl, .inl ⟨rfl, _, SqL.of f2⟩, _, rfl, o, seen ++ mj, Y, rfl, rfl, f2, by rw [List.length_append]; omega, ?_⟩
                have f3' : (upd H4 o (.lst (vsI (seen ++ mj ++ [Y])))) o2 = some (.lst (vsI mj)) := by rw [upd_ne (Ne.symm n2o)]; exact f3
                refine ⟨_, rfl, .inl ⟨rfl, _, SqL.of f3'⟩, _, rfl, o2, mj, Y, rfl, rfl, f3', by omega, ?_⟩
                refine ⟨_, mj ++ [Y], rfl, (g7.set noH).set n2H, ?_, ?_, upd_same, ?_, by rw [← ea]; exact sj2, by rw [stepE, ea]⟩
                · rw [upd_ne n2r, upd_ne (Ne.symm nro)]; exact f1
                · rw [upd_ne n2o, upd_same, List.append_assoc]
                · rw [upd_ne (Ne.symm npo2), upd_ne (Ne.symm npo)]; exact f4
              · have c2 : ¬ Y ∉ seen ++ mj := fun z => e (decide_eq_true z)
                have ea : addS S0 seen mj Y = mj := by unfold addS; rw [if_neg fun z => c2 z.2]
                exact ⟨_, mj, rfl, g7, f1, f2, f3, f4, sj, by rw [stepE, ea]⟩
            · have c1 : ¬ Y ∈ S0 := fun z => e (decide_eq_true z)
              have ea : addS S0 seen mj Y = mj := by unfold addS; rw [if_neg fun z => c1 z.1]
              exact ⟨_, mj, rfl, g7, f1, f2, f3, f4, sj, by rw [stepE, ea]⟩
          · obtain ⟨y8, mj, rfl, g7, f1, f2, f3, f4, sj, ej⟩ := z
            rw [len_vsI, List.take_length, addS_fold] at ej
            refine ⟨_, y8, mj, rfl, g7, f1, f2, f3, sj, ?_⟩
            rw [take_snoc hi, List.foldl_append, ← emm, hX]
            exact ej
        · obtain ⟨z7, z8, mm, rfl, g5, e1, e2, e3, sc, emm⟩ := z
          rw [len_vsI, List.take_length] at emm
          have emm2 : mm = newOnes (inS m L S0) seen rows := emm
          refine ⟨_, rfl, o2, seen ++ mm, mm, _, z7, z8, rfl, g5, noH, e2, e3, n2o, by rw [emm2]; exact bi.turn, ?_⟩
          rw [emm2]
          refine meas_turn (s0 := h) hrows ?_
          rw [← emm2]
          exact sc.len hI hS
      · have hrows : rows = [] := by
          cases rows with
          | nil => rfl
          | cons a l => exact absurd rfl e
        subst hrows
        refine ⟨_, rfl, o, seen, rfl, .inl (SqL.of eo), _, rfl, so, S0, rfl, .inl (SqL.of (g.lst hs)), _, _, rfl, rfl, ?_⟩
        refine k _ _ ?_ g
        rw [decide_eq_true_eq]
        exact hang_end hI hS hh hnd bi
end
end Sl
set_option Elab.async false
set_option linter.all false
set_option maxRecDepth 100000
namespace Sl
open PySem PySem.Spec PyProof.Rows L2 Star DX
/-! readings of all, any -/
section
variable {K : PySem.W.Frag} {T : Addr} {te : TE} {vs : List Nat} {ix : Nat} {σ : L2.St} {H1 : Hp} {Q : VK} {stopAt : Bool}
theorem quan_tup {a : Addr} {c : List Nat} (R : Nat → Prop) (hT : GxR.TabG H1 T) (ha : H1 a = some (.tup (vsI c))) (h0 : R 0)
    (hs : ∀ i H, i < c.length → Gr H1 H → R i → te ((wipe σ vs).set ix (some (vI (c.getD i 0)))) H (fun v H'' => ∃ b, v = .bl b ∧ if b = stopAt then Q (.bl stopAt) H'' else Gr H1 H'' ∧ R (i + 1)))
    (hd : ∀ H, Gr H1 H → R c.length → Q (.bl (!stopAt)) H) :
    GX.qBody stopAt T te vs ix σ Q (Itt K a) H1 := by
  refine ⟨hT, fun H2 tb => ⟨c.length, fun i H => Gr H1 H ∧ R i, ⟨Gr.tabd hT tb, h0⟩, fun i H hi ⟨g, r⟩ => ⟨⟨vsI c, _, SqT.of (g.tup ha), get_vsI hi⟩, fun x H' y => ?_⟩, fun H ⟨g, r⟩ => ⟨⟨vsI c, SqT.of (g.tup ha), by rw [len_vsI]; exact Nat.le_refl _⟩, hd H g r⟩⟩⟩
  obtain ⟨rfl, y⟩ := y
  have e := y _ (SqT.of (g.tup ha))
  rw [get_vsI hi] at e
  cases e
  exact hs i _ hi g r
theorem quan_lst {a : Addr} {c : List Nat} (R : Nat → Prop) (hT : GxR.TabG H1 T) (ha : H1 a = some (.lst (vsI c))) (h0 : R 0)
    (hs : ∀ i H, i < c.length → Gr H1 H → R i → te ((wipe σ vs).set ix (some (vI (c.getD i 0)))) H (fun v H'' => ∃ b, v = .bl b ∧ if b = stopAt then Q (.bl stopAt) H'' else Gr H1 H'' ∧ R (i + 1)))
    (hd : ∀ H, Gr H1 H → R c.length → Q (.bl (!stopAt)) H) :
    GX.qBody stopAt T te vs ix σ Q (Itl K a) H1 := by
  refine ⟨hT, fun H2 tb => ⟨c.length, fun i H => Gr H1 H ∧ R i, ⟨Gr.tabd hT tb, h0⟩, fun i H hi ⟨g, r⟩ => ⟨⟨vsI c, _, SqL.of (g.lst ha), get_vsI hi⟩, fun x H' y => ?_⟩, fun H ⟨g, r⟩ => ⟨⟨vsI c, SqL.of (g.lst ha), by rw [len_vsI]; exact Nat.le_refl _⟩, hd H g r⟩⟩⟩
  obtain ⟨rfl, y⟩ := y
  have e := y _ (SqL.of (g.lst ha))
  rw [get_vsI hi] at e
  cases e
  exact hs i _ hi g r
theorem quan_rng {n : Nat} (R : Nat → Prop) (hT : GxR.TabG H1 T) (h0 : R 0)
    (hs : ∀ i H, i < n → Gr H1 H → R i → te ((wipe σ vs).set ix (some (vI i))) H (fun v H'' => ∃ b, v = .bl b ∧ if b = stopAt then Q (.bl stopAt) H'' else Gr H1 H'' ∧ R (i + 1)))
    (hd : ∀ H, Gr H1 H → R n → Q (.bl (!stopAt)) H) :
    GX.qBody stopAt T te vs ix σ Q (Itr 0 n) H1 := by
  refine ⟨hT, fun H2 tb => ⟨n, fun i H => Gr H1 H ∧ R i, ⟨Gr.tabd hT tb, h0⟩, fun i H hi ⟨g, r⟩ => ⟨hi, fun x H' y => ?_⟩, fun H ⟨g, r⟩ => ⟨Nat.le_refl _, hd H g r⟩⟩⟩
  obtain ⟨rfl, rfl⟩ := y
  rw [natV (i := 0 + (i : Int)) (a := i) (by omega)]
  exact hs i _ hi g r
end
end Sl
set_option Elab.async false
set_option linter.all false
set_option maxRecDepth 100000
set_option maxHeartbeats 4000000
namespace Sl
open PySem PySem.Spec PyProof.Rows L2 Star DX
theorem iteP {p : Prop} {A B : Prop} [Decidable p] (h : p) (a : A) : if decide p = true then A else B := by rw [if_pos (decide_eq_true h)]; exact a
theorem iteD {p : Prop} {A B : Prop} [Decidable p] (h : ¬ p) (b : B) : if decide p = true then A else B := by rw [if_neg (by rw [decide_eq_true_eq]; exact h)]; exact b
/-- a def whose code object is known -/
structure FunC (K : PySem.W.Frag) (x qual : Str) (st : Stmt) (f : Addr) (fd : FuncData) (c : Addr) : Prop where
  ex : ∃ (oc : Value) (od : Option Addr) (kV doc pm : Value) (an : Option Addr) (ct : Value) (osl : Array (Option Value)),
    fd = PySem.W.fnOf x qual (defArgs st) (defBody st) (defScope st) .none kV doc pm an (.ref c) ct ∧ K.lookup f = some ⟨oc, od, .func fd, osl⟩ ∧ PySem.W.codeIn K (.ref c) qual = true
  kp : PySem.W.keepIn K (.ref f) = true
section
variable {P : Program} {w : World} {K : PySem.W.Frag} {mg : Str → Option Value} {base : Heap}
theorem FunC.toFun {x qual : Str} {st : Stmt} {f : Addr} {fd : FuncData} {c : Addr} (F : FunC K x qual st f fd c) : Fun K x qual st f fd := by
  obtain ⟨⟨oc, od, kV, doc, pm, an, ct, osl, h1, h2, h3⟩, kp⟩ := F
  exact ⟨⟨oc, od, kV, doc, pm, an, _, ct, osl, h1, h2, h3⟩, kp⟩
theorem FunC.ok {x qual : Str} {st : Stmt} {f : Addr} {fd : FuncData} {c : Addr} {N ps : List Str} {k : Nat} {sp : Sp} (F : FunC K x qual st f fd c) (S : FnScope N ps (defScope st)) (len : ∀ vs H Q E, sp vs H Q E → vs.length = ps.length)
    (hbody : ∀ (A : Around) (outer : List Env) (s : Shared) (H : Hp) (vs : List V) (Q : VK) (E : XK), Room k (A.deeper (envOfC qual (defScope st) s.heap.objs.size f (.ref c))) → sp vs H Q E →
      ∃ t, PSs (cxOf CX0 P w K mg base N qual (defScope st) f (.ref c) A outer s H E).nox (defBody st) t ∧ t { nx := fun _ H' => Q .non H', rt := Q } (start N vs) H) : FnOk P w K mg base CX0 (k + 1) f fd ps sp := by
  obtain ⟨oc, od, kV, doc, pm, an, ct, osl, rfl, lk, hcd⟩ := F.ex
  refine fn_of lk hcd S len fun A outer s H vs Q E hr hsp => ?_
  obtain ⟨t, h, q⟩ := hbody A outer s H vs Q E hr hsp
  exact ⟨t, h.nox, q⟩
/-- a chart that the law may make -/
structure Vc (T : List Addr) (H : Hp) (A L k : Nat) (p : Addr) (c : List Nat) : Prop where
  ch : Ch H A L p c
  v : Valid A L k c
  k2 : 2 ≤ k
  kL : k ≤ L + 1
  tb : Tabs T H
theorem Vc.gr {T : List Addr} {H H' : Hp} {A L k : Nat} {p : Addr} {c : List Nat} (h : Vc T H A L k p c) (g : Gr H H') : Vc T H' A L k p c := ⟨h.ch.gr g, h.v, h.k2, h.kL, g.tabs h.tb⟩
theorem Vc.sm {T : List Addr} {H : Hp} {A L k : Nat} {p : Addr} {c : List Nat} (h : Vc T H A L k p c) : c.length ≤ 13 := by rw [h.v.len]; exact near_small h.ch.isl
theorem Valid.top {A L k : Nat} {c : List Nat} (V : Valid A L k c) (hk : 0 < k) : k - 1 ∈ c := by
  obtain ⟨x, hx⟩ := List.exists_mem_of_ne_nil _ (V.conn (k - 1) (by omega)).1
  obtain ⟨h1, h2⟩ := mem_cellsOf.mp hx
  rw [← h2, List.getD_eq_getElem?_getD, List.getElem?_eq_getElem h1]
  exact List.getElem_mem h1
/-! ### lands_of -/
theorem sc_lands_of : FnScope ["chart"] ["chart"] (defScope (topS 15)) := ⟨rfl, rfl, rfl, by decide +kernel, rfl, by decide +kernel, by decide +kernel⟩
def sp_lands_of (T : List Addr) : Sp := fun vs H Q _ => ∃ A L k p c, vs = [.ref p] ∧ Vc T H A L k p c ∧ Q (vI k) H
theorem ok_lands_of {T : List Addr} {f : Addr} {fd : FuncData} (F : Fun K "lands_of" "lands_of" (topS 15) f fd) (m_max : mg "max" = none) : FnOk P w K mg base CX0 1 f fd ["chart"] (sp_lands_of T) := by
  have nd := sc_lands_of.nd
  refine F.ok sc_lands_of (fun vs H Q E h => ?_) (fun cdv A outer s H vs Q E hr h => ?_)
  · obtain ⟨_, _, _, _, _, rfl, _⟩ := h; rfl
  · obtain ⟨m, L, k, p, c, rfl, hV, q⟩ := h
    have hk := hV.k2
    refine ⟨_, (pss_one (ps_ret (pe_op nAdd (pe_callB (nMaxT rfl) (by rfl) m_max (by decide +kernel) (pa_cons (pe_ix chIx1 (pv 0) pe_int (fun _ _ => rfl)) pa_nil)) pe_int))), ?_⟩
    refine ⟨_, rfl, m, p, c, rfl, rfl, hV.ch.at_, fun a h1 h2 => ⟨a, c, k - 1, rfl, SqT.of h2, fun x hx => by have := hV.v.lt x hx; omega, Valid.top hV.v (by omega), k - 1, 1, rfl, rfl, ?_⟩⟩
    rw [show k - 1 + 1 = k by omega]
    exact q
/-! ### outward -/
def armC (L : Nat) (c : List Nat) (a : Nat) : List Nat := (List.range L).map fun s => c.getD (a * L + 1 + s) 0
theorem armC_cut {A L : Nat} {c : List Nat} {a : Nat} (h : c.length = A * L + 1) (ha : a < A) (hL : 0 < L) : (c.drop (1 + a * L)).take L = armC L c a := by
  have hle : a * L + L ≤ A * L := by
    have : (a + 1) * L ≤ A * L := Nat.mul_le_mul_right L ha
    rw [Nat.add_mul] at this
    omega
  unfold armC
  refine List.ext_getElem (by rw [List.length_take, List.length_drop, List.length_map, List.length_range]; omega) fun i h1 h2 => ?_
  rw [List.length_map, List.length_range] at h2
  rw [List.getElem_take, List.getElem_drop, List.getElem_map, List.getElem_range, List.getD_eq_getElem?_getD, List.getElem?_eq_getElem (by omega)]
  show _ = c[a * L + 1 + i]
  congr 1
  omega
theorem cut_vsI {A L : Nat} {c : List Nat} {a : Nat} (h : c.length = A * L + 1) (ha : a < A) (hL : 0 < L) : cutV (vsI c) (some ((1 + a * L : Nat) : Int)) (some ((1 + (a + 1) * L : Nat) : Int)) = vsI (armC L c a) ∧
    ¬ (HT.sIx (vsI c).length 0 (some ((1 + a * L : Nat) : Int)) = 0 ∧ HT.sIx (vsI c).length (vsI c).length (some ((1 + (a + 1) * L : Nat) : Int)) = (vsI c).length) := by
  have hle : a * L + L ≤ A * L := by
    have : (a + 1) * L ≤ A * L := Nat.mul_le_mul_right L ha
    rw [Nat.add_mul] at this
    omega
  have e2 : (a + 1) * L = a * L + L := by rw [Nat.add_mul, Nat.one_mul]
  have l1 : (vsI c).length = A * L + 1 := by rw [len_vsI]; exact h
  constructor
  · unfold cutV
    rw [HT.sIx_nat, HT.sIx_nat, l1, e2, Nat.min_eq_left (by omega), Nat.min_eq_left (by omega), ← armC_cut h ha hL]
    rw [show 1 + (a * L + L) - (1 + a * L) = L by omega]
    show ((c.map vI).drop _).take L = ((c.drop (1 + a * L)).take L).map vI
    rw [List.map_take, List.map_drop]
  · rw [HT.sIx_nat, l1, Nat.min_eq_left (by omega)]
    omega
abbrev N_outward : List Str := ["chart", "arm", "length"]
theorem sc_outward : FnScope N_outward ["chart", "arm"] (defScope (topS 16)) := ⟨rfl, rfl, rfl, by decide +kernel, rfl, by decide +kernel, by decide +kernel⟩
def sp_outward : Sp := fun vs H Q _ => ∃ A L p c a, vs = [.ref p, vI a] ∧ Ch H A L p c ∧ a < A ∧ ∀ H' r, Gr H H' → H r = none → H' r = some (.lst (vsI (armC L c a))) → Q (.ref r) H'
theorem ok_outward {f : Addr} {fd : FuncData} (F : Fun K "outward" "outward" (topS 16) f fd) (c_length_of : Cal P w K mg base 1 "length_of" ["chart"] sp_length_of) (m_list : mg "list" = none) : FnOk P w K mg base CX0 2 f fd ["chart", "arm"] sp_outward := by
  have nd := sc_outward.nd
  refine F.ok sc_outward (fun vs H Q E h => ?_) (fun cdv A outer s H vs Q E hr h => ?_)
  · obtain ⟨_, _, _, _, _, rfl, _⟩ := h; rfl
  · obtain ⟨m, L, p, c, a, rfl, hC, ha, q⟩ := h
    obtain ⟨b1, b2, b3, b4⟩ := Isl.le4 hC.isl
    obtain ⟨z1, z2⟩ := cut_vsI hC.len ha b3
    refine ⟨_, (pss_cons (ps_set (i := 2) nd rfl (Or.inl rfl) (pcall c_length_of hr (by decide) (by rfl) (pa_cons (pv 0) pa_nil)))
      (pss_one (ps_ret (pe_callTy call_list_of (by rfl) m_list (by decide +kernel) (pa_cons (pe_slice sl_tupA (pe_ix chIx1 (pv 0) pe_int (fun _ _ => rfl)) (po_some (pe_op nAdd pe_int (pe_op nMul (pv 1) (pv 2)))) (po_some (pe_op nAdd pe_int (pe_op nMul (pe_op nAdd (pv 1) pe_int) (pv 2))))) pa_nil))))), ?_⟩
    refine ⟨_, rfl, m, L, p, c, rfl, hC, ?_⟩
    refine ⟨_, rfl, m, p, c, rfl, rfl, hC.at_, fun t h1 h2 => ?_⟩
    refine ⟨_, rfl, _, rfl, a, L, rfl, rfl, by omega, 1, _, rfl, rfl, _, rfl, ?_⟩
    refine ⟨_, rfl, a, 1, rfl, rfl, _, rfl, a + 1, L, rfl, rfl, by omega, 1, _, rfl, rfl, _, rfl, ?_⟩
    refine ⟨t, vsI c, rfl, SqT.of h2, fun z => absurd z z2, fun _ r hr2 => ?_⟩
    rw [z1]
    have g : Gr H (upd H r (.tup (vsI (armC L c a)))) := Gr.new hr2
    refine ⟨r, _, rfl, .inr (SqT.of upd_same), fun l hl => q _ l (g.trans (Gr.new hl)) (g.non l hl) upd_same⟩
/-! ### are_cells -/
abbrev N_are_cells : List Str := ["arms", "cells", "lands", "length", "one", "land"]
theorem sc_are_cells : FnScope N_are_cells ["arms", "cells"] (defScope (topS 12)) := ⟨rfl, rfl, rfl, by decide +kernel, rfl, by decide +kernel, by decide +kernel⟩
def sp_are_cells (T : List Addr) : Sp := fun vs H Q _ => ∃ A L k q c, vs = [vI A, .ref q] ∧ Isl A L ∧ Valid A L k c ∧ 2 ≤ k ∧ k ≤ L + 1 ∧ H q = some (.tup (vsI c)) ∧ Tabs T H ∧ ∀ H', Gr H H' → Q (.bl true) H'
theorem ok_are_cells {T : List Addr} {f pt : Addr} {fd : FuncData} {cd : Addr} {vt : Tok} (F : FunC K "are_cells" "are_cells" (topS 12) f fd cd) (TB : GxR.TabB base mg cd pt) (hT : pt ∈ T) (m_len : mg "len" = none) (m_all : mg "all" = none) (m_max : mg "max" = none) (m_range : mg "range" = none) (m_MOST_LENGTH : mg "MOST_LENGTH" = some (.int 4 vt))
    (c_is_in : Cal P w K mg base 1 "is_in" ["value", "least", "most"] sp_is_in) (c_held : Cal P w K mg base 1 "held" ["cells", "land"] sp_held) (c_hangs : Cal P w K mg base 2 "hangs" ["arms", "cells", "some"] sp_hangs) : FnOk P w K mg base CX0 4 f fd ["arms", "cells"] (sp_are_cells T) := by
  have nd := sc_are_cells.nd
  refine F.ok sc_are_cells (fun vs H Q E h => ?_) (fun A outer s H vs Q E hr h => ?_)
  · obtain ⟨_, _, _, _, _, rfl, _⟩ := h; rfl
  · obtain ⟨m, L, k, q, c, rfl, hI, hV, hk2, hkL, hq, hTb, kq⟩ := h
    obtain ⟨b1, b2, b3, b4⟩ := Isl.le4 hI
    refine ⟨_, (pss_cons (ps_if (PW.pt (pw_or (pt_cmpR nLt (pe_callB nLen (by rfl) m_len (by decide +kernel) (pa_cons (pv 1) pa_nil)) (pe_op nAdd (pv 0) pe_int) (nomark _)) (pw_or (pt_truth (pe_op nMod (pe_op nSub (pe_callB nLen (by rfl) m_len (by decide +kernel) (pa_cons (pv 1) pa_nil)) pe_int) (pv 0)) (fun _ => rfl)) (pw_or1 (pt_cmpR nGt (pe_op nDiv (pe_op nSub (pe_callB nLen (by rfl) m_len (by decide +kernel) (pa_cons (pv 1) pa_nil)) pe_int) (pv 0)) (pe_glob (v := .int 4) (by rfl) m_MOST_LENGTH ⟨_, rfl⟩) (nomark _)))))) (pss_one (ps_ret pe_bl)) pss_nil)
      (pss_cons (ps_set (i := 3) nd rfl (Or.inr rfl) (pe_op nDiv (pe_op nSub (pe_callB nLen (by rfl) m_len (by decide +kernel) (pa_cons (pv 1) pa_nil)) pe_int) (pv 0)))
      (pss_cons (ps_if (pt_not (pt_val (GX.pe_allG (k := 2) (ix := 4) (own := [("one", 4)]) hr (by rfl) m_all TB rfl nd (blkOk_by (own := [("one", 4)]) (N := N_are_cells) (sc := defScope (topS 12)) (by decide +kernel)) ⟨rfl, by decide +kernel, by decide +kernel, by decide +kernel⟩ (pi_tup (pv 1)) rfl (by decide) (fun A s H C cl code fp hr => pcall c_is_in hr (by decide) (by rfl) (pa_cons (pv 4) (pa_cons pe_int (pa_cons (pv 3) pa_nil))))))) (pss_one (ps_ret pe_bl)) pss_nil)
      (pss_cons (ps_set (i := 2) nd rfl (Or.inl rfl) (pe_op nAdd (pe_callB (nMaxT rfl) (by rfl) m_max (by decide +kernel) (pa_cons (pv 1) pa_nil)) pe_int))
      (pss_one (ps_ret (pe_and (pe_cmpR nGt (pv 2) pe_int (nomark _)) (pe_one (GX.pe_allG (k := 2) (ix := 5) (own := [("land", 5)]) hr (by rfl) m_all TB rfl nd (blkOk_by (own := [("land", 5)]) (N := N_are_cells) (sc := defScope (topS 12)) (by decide +kernel)) ⟨rfl, by decide +kernel, by decide +kernel, by decide +kernel⟩ (pi_range1 (by rfl) m_range (pa_cons (pv 2) pa_nil)) rfl (by decide) (fun A s H C cl code fp hr => pcall c_hangs hr (by decide) (by rfl) (pa_cons (pv 0) (pa_cons (pv 1) (pa_cons (pcall c_held hr (by decide) (by rfl) (pa_cons (pv 1) (pa_cons (pv 5) pa_nil))) pa_nil))))))))))))), ?_⟩
    have hl := hV.len
    have hmul : m ≤ m * L := Nat.le_mul_of_pos_right m b3
    have hdiv : (c.length - 1) / m = L := len_div hI hl
    have hmod : (c.length - 1) % m = 0 := by rw [hl, Nat.add_sub_cancel]; exact Nat.mul_mod_right m L
    refine ⟨_, rfl, q, c, rfl, .inr (SqT.of hq), _, rfl, m, 1, rfl, rfl, c.length, m + 1, rfl, rfl, _, rfl, iteD (by omega) ?_⟩
    refine ⟨_, rfl, q, c, rfl, .inr (SqT.of hq), c.length, 1, rfl, rfl, by omega, _, rfl, _, m, rfl, rfl, by omega, false, ?_, iteF ?_⟩
    · rw [hmod]; rfl
    refine ⟨_, rfl, q, c, rfl, .inr (SqT.of hq), c.length, 1, rfl, rfl, by omega, _, rfl, _, m, rfl, rfl, by omega, by omega, _, 4, rfl, rfl, _, rfl, iteD (by rw [hdiv]; omega) ?_⟩
    refine ⟨_, rfl, q, c, rfl, .inr (SqT.of hq), c.length, 1, rfl, rfl, by omega, _, rfl, _, m, rfl, rfl, by omega, by omega, ?_⟩
    rw [hdiv]
    refine ⟨_, rfl, q, rfl, ⟨_, SqT.of hq⟩, ?_⟩
    refine quan_tup (c := c) (fun _ => True) (hTb pt hT) hq trivial (fun i H1 hi g _ => ?_) (fun H1 g _ => ?_)
    · refine ⟨_, rfl, _, rfl, ((c.getD i 0 : Nat) : Int), 0, (L : Int), rfl, by omega, ?_, true, rfl, ?_⟩
      · have := getD_lt hV.lt hi
        omega
      · rw [if_neg (by decide)]
        exact ⟨g, trivial⟩
    · refine ⟨true, rfl, iteF ?_⟩
      refine ⟨_, rfl, q, c, k - 1, rfl, SqT.of (g.tup hq), fun x hx => by have := hV.lt x hx; omega, Valid.top hV (by omega), k - 1, 1, rfl, rfl, ?_⟩
      rw [show k - 1 + 1 = k by omega]
      refine ⟨_, rfl, k, 1, rfl, rfl, true, by rw [decide_eq_true (by omega)], iteT ?_⟩
      refine ⟨_, rfl, k, rfl, by omega, by omega, ?_⟩
      refine quan_rng (n := k) (fun _ => True) (g.tab pt (hTb pt hT)) trivial (fun i H2 hi g2 _ => ?_) (fun H2 g2 _ => kq H2 (g.trans g2))
      have g3 := g.trans g2
      refine ⟨_, rfl, _, rfl, _, rfl, _, rfl, q, c, i, rfl, g3.tup hq, by rw [hl]; exact near_small hI, fun H3 r g4 nr er => ?_⟩
      refine ⟨m, L, q, c, r, cellsOf c i, rfl, hI, g4.tup (g3.tup hq), hl, er, cellsOf_nodup _ _, fun x hx => by rw [← hl]; exact (mem_cellsOf.mp hx).1, fun b H4 hb g5 => ?_⟩
      have hbt : b = true := hb.mpr (hV.conn i hi)
      subst hbt
      refine ⟨true, rfl, ?_⟩
      rw [if_neg (by decide)]
      exact ⟨(g2.trans g4).trans g5, trivial⟩
end
end Sl
set_option Elab.async false
set_option linter.all false
set_option maxRecDepth 100000
namespace Sl
open PySem PySem.Spec PyProof.Rows L2 Star DX
/-! comprehensions whose items are naturals -/
section
variable {K : PySem.W.Frag} {g : TG} {tt : TT} {te : TE} {vs : List Nat} {σ : L2.St} {H1 : Hp} {D : Addr} {Qd : Hp → Prop}
theorem lcN_list {a : Addr} {c : List Nat} (p : Nat → Bool) (f : Nat → Nat) (hD : H1 D = none) (ha : H1 a = some (.lst (vsI c))) (hc : c.length < 1000)
    (hs : ∀ i H (Y : V → Hp → Prop) (N : Hp → Prop), i < c.length → Gr H1 H → (p (c.getD i 0) = true → ∀ H4, Gr H H4 → Y (vI (f (c.getD i 0))) H4) → (p (c.getD i 0) = false → ∀ H3, Gr H H3 → N H3) →
      g (vI (c.getD i 0)) (wipe σ vs) H fun σ2 H2 => wipe σ2 vs = wipe σ vs ∧ tt σ2 H2 fun b H3 => if b = true then te σ2 H3 Y else N H3)
    (hd : ∀ H, Gr H1 H → H D = some (.lst (vsI ((c.filter p).map f))) → Qd H) :
    ∃ W : Nat → Nat → Hp → Prop, (∃ m, W 0 m (upd H1 D (.lst []))) ∧ ∀ i m H, W i m H →
      ((Itl K a).stop i H ∧ Qd H) ∨ ((Itl K a).go i H ∧ ∃ Nx : Hp → Prop, (∀ H', Nx H' → ∃ m', m' < m ∧ W (i + 1) m' H') ∧ ∀ x H', (Itl K a).yld i H x H' → g x (wipe σ vs) H' fun σ2 H2 => wipe σ2 vs = wipe σ vs ∧ tt σ2 H2 fun b H3 =>
        if b = true then te σ2 H3 fun y H4 => ∃ acc, H4 D = some (.lst acc) ∧ acc.length < sizeLine ∧ Nx (upd H4 D (.lst (acc ++ [y]))) else Nx H3) := by
  refine lc_list (K := K) (a := a) (xs := vsI c) (fun i H => Gr H1 H ∧ H D = some (.lst (vsI (((c.take i).filter p).map f)))) ⟨Gr.new hD, upd_same⟩ (fun i H _ z => SqL.of (z.1.lst ha)) (fun i x H hx z => ?_) (fun H z => ?_)
  · obtain ⟨hi, rfl⟩ := at_vsI hx
    obtain ⟨gr, e⟩ := z
    refine hs i H _ _ hi gr (fun hp H4 g4 => ⟨_, g4.lst e, sm ?_, (gr.trans g4).set hD, ?_⟩) (fun hp H3 g3 => ⟨gr.trans g3, ?_⟩)
    · rw [List.length_map]
      have := List.length_filter_le p (c.take i)
      rw [List.length_take] at this
      omega
    · rw [upd_same, vsI_snoc, take_snoc hi, List.filter_append, List.filter_cons_of_pos hp, List.map_append]
      rfl
    · rw [g3.lst e, take_snoc hi, List.filter_append, List.filter_cons_of_neg (by rw [hp]; exact Bool.false_ne_true), List.filter_nil, List.append_nil]
  · rw [len_vsI, List.take_length] at z
    exact hd H z.1 z.2
theorem lcN_rng {n : Nat} (p : Nat → Bool) (f : Nat → Nat) (hD : H1 D = none) (hc : n < 1000)
    (hs : ∀ i H (Y : V → Hp → Prop) (N : Hp → Prop), i < n → Gr H1 H → (p i = true → ∀ H4, Gr H H4 → Y (vI (f i)) H4) → (p i = false → ∀ H3, Gr H H3 → N H3) →
      g (vI i) (wipe σ vs) H fun σ2 H2 => wipe σ2 vs = wipe σ vs ∧ tt σ2 H2 fun b H3 => if b = true then te σ2 H3 Y else N H3)
    (hd : ∀ H, Gr H1 H → H D = some (.lst (vsI (((List.range n).filter p).map f))) → Qd H) :
    ∃ W : Nat → Nat → Hp → Prop, (∃ m, W 0 m (upd H1 D (.lst []))) ∧ ∀ i m H, W i m H →
      ((Itr 0 n).stop i H ∧ Qd H) ∨ ((Itr 0 n).go i H ∧ ∃ Nx : Hp → Prop, (∀ H', Nx H' → ∃ m', m' < m ∧ W (i + 1) m' H') ∧ ∀ x H', (Itr 0 n).yld i H x H' → g x (wipe σ vs) H' fun σ2 H2 => wipe σ2 vs = wipe σ vs ∧ tt σ2 H2 fun b H3 =>
        if b = true then te σ2 H3 fun y H4 => ∃ acc, H4 D = some (.lst acc) ∧ acc.length < sizeLine ∧ Nx (upd H4 D (.lst (acc ++ [y]))) else Nx H3) := by
  refine lc_rangeN (n := n) (fun i H => Gr H1 H ∧ H D = some (.lst (vsI (((List.range i).filter p).map f)))) ⟨Gr.new hD, upd_same⟩ (fun i H hi z => ?_) (fun H z => hd H z.1 z.2)
  obtain ⟨gr, e⟩ := z
  refine hs i H _ _ hi gr (fun hp H4 g4 => ⟨_, g4.lst e, sm ?_, (gr.trans g4).set hD, ?_⟩) (fun hp H3 g3 => ⟨gr.trans g3, ?_⟩)
  · rw [List.length_map]
    have := List.length_filter_le p (List.range i)
    rw [List.length_range] at this
    omega
  · rw [upd_same, vsI_snoc, List.range_succ, List.filter_append, List.filter_cons_of_pos hp, List.map_append]
    rfl
  · rw [g3.lst e, List.range_succ, List.filter_append, List.filter_cons_of_neg (by rw [hp]; exact Bool.false_ne_true), List.filter_nil, List.append_nil]
end
theorem getD_mem {l : List Nat} {i : Nat} (h : i < l.length) : l.getD i 0 ∈ l := by
  rw [List.getD_eq_getElem?_getD, List.getElem?_eq_getElem h]
  exact List.getElem_mem h
theorem mem_getD {l : List Nat} {x : Nat} (h : x ∈ l) : ∃ i, i < l.length ∧ l.getD i 0 = x := by
  obtain ⟨j, hj, e⟩ := List.getElem_of_mem h
  exact ⟨j, hj, by rw [List.getD_eq_getElem?_getD, List.getElem?_eq_getElem hj]; exact e⟩
theorem map_id_nat (l : List Nat) : l.map (fun x => x) = l := List.map_id l
end Sl
set_option Elab.async false
set_option linter.all false
set_option maxRecDepth 100000
set_option maxHeartbeats 4000000
namespace Sl
open PySem PySem.Spec PyProof.Rows L2 Star DX
section
variable {P : Program} {w : World} {K : PySem.W.Frag} {mg : Str → Option Value} {base : Heap}
/-! ### is_map, need_map -/
theorem sc_is_map : FnScope ["value"] ["value"] (defScope (topS 13)) := ⟨rfl, rfl, rfl, by decide +kernel, rfl, by decide +kernel, by decide +kernel⟩
def sp_is_map (T : List Addr) : Sp := fun vs H Q _ => ∃ A L k p c, vs = [.ref p] ∧ Vc T H A L k p c ∧ ∀ H', Gr H H' → Q (.bl true) H'
theorem ok_is_map {T : List Addr} {f : Addr} {fd : FuncData} {v1 v2 : Tok} (F : Fun K "is_map" "is_map" (topS 13) f fd) (m_isinstance : mg "isinstance" = none) (m_tuple : mg "tuple" = none) (m_len : mg "len" = none) (m_LEAST_ARMS : mg "LEAST_ARMS" = some (.int 3 v1)) (m_MOST_ARMS : mg "MOST_ARMS" = some (.int 4 v2))
    (c_is_in : Cal P w K mg base 1 "is_in" ["value", "least", "most"] sp_is_in) (c_are_cells : Cal P w K mg base 4 "are_cells" ["arms", "cells"] (sp_are_cells T)) : FnOk P w K mg base CX0 5 f fd ["value"] (sp_is_map T) := by
  have nd := sc_is_map.nd
  refine F.ok sc_is_map (fun vs H Q E h => ?_) (fun cdv A outer s H vs Q E hr h => ?_)
  · obtain ⟨_, _, _, _, _, rfl, _⟩ := h; rfl
  · obtain ⟨m, L, k, p, c, rfl, hV, kq⟩ := h
    obtain ⟨b1, b2, b3, b4⟩ := Isl.le4 hV.ch.isl
    obtain ⟨t, h1, h2⟩ := hV.ch.at_
    refine ⟨_, (pss_cons (ps_if (PW.pt (pw_or (pt_not (pt_val (pe_callB call_isi (by rfl) m_isinstance (by decide +kernel) (pa_cons (pv 0) (pa_cons (pe_bltn (v := .ty "tuple") (by rfl) m_tuple (by decide +kernel) rfl) pa_nil))))) (pw_or (pt_cmpR nNe (pe_callB call_len_seq (by rfl) m_len (by decide +kernel) (pa_cons (pv 0) pa_nil)) pe_int (nomark _)) (pw_or1 (pt_not (pt_val (pcall c_is_in hr (by decide) (by rfl) (pa_cons (pe_ix chIx0 (pv 0) pe_int (fun _ _ => rfl)) (pa_cons (pe_glob (v := .int 3) (by rfl) m_LEAST_ARMS ⟨_, rfl⟩) (pa_cons (pe_glob (v := .int 4) (by rfl) m_MOST_ARMS ⟨_, rfl⟩) pa_nil)))))))))) (pss_one (ps_ret pe_bl)) pss_nil)
      (pss_one (ps_ret (pe_and (pe_callB call_isi (by rfl) m_isinstance (by decide +kernel) (pa_cons (pe_ix chIx1 (pv 0) pe_int (fun _ _ => rfl)) (pa_cons (pe_bltn (v := .ty "tuple") (by rfl) m_tuple (by decide +kernel) rfl) pa_nil))) (pe_one (pcall c_are_cells hr (by decide) (by rfl) (pa_cons (pe_ix chIx0 (pv 0) pe_int (fun _ _ => rfl)) (pa_cons (pe_ix chIx1 (pv 0) pe_int (fun _ _ => rfl)) pa_nil)))))))), ?_⟩
    refine ⟨_, rfl, _, _, _, _, true, rfl, .ty _, .base (.tup h1), kit_ty (by decide +kernel), true, rfl, iteF ?_⟩
    refine ⟨_, rfl, p, _, rfl, .inr (SqT.of h1), 2, 2, rfl, rfl, _, rfl, iteD (by decide) ?_⟩
    refine ⟨_, rfl, m, p, c, rfl, rfl, ⟨t, h1, h2⟩, (m : Int), 3, 4, rfl, by omega, by omega, true, rfl, iteF ?_⟩
    refine ⟨_, rfl, m, p, c, rfl, rfl, ⟨t, h1, h2⟩, fun t' e1 e2 => ?_⟩
    refine ⟨_, _, _, _, true, rfl, .ty _, .base (.tup e2), kit_ty (by decide +kernel), true, rfl, iteT ?_⟩
    refine ⟨_, rfl, m, p, c, rfl, rfl, ⟨t, h1, h2⟩, _, rfl, m, p, c, rfl, rfl, ⟨t, h1, h2⟩, fun t2 e3 e4 => ?_⟩
    exact ⟨m, L, k, t2, c, rfl, hV.ch.isl, hV.v, hV.k2, hV.kL, e4, hV.tb, kq⟩
theorem sc_need_map : FnScope ["chart"] ["chart"] (defScope (topS 14)) := ⟨rfl, rfl, rfl, by decide +kernel, rfl, by decide +kernel, by decide +kernel⟩
def sp_need_map (T : List Addr) : Sp := fun vs H Q _ => ∃ A L k p c, vs = [.ref p] ∧ Vc T H A L k p c ∧ ∀ H', Gr H H' → Q .non H'
theorem ok_need_map {T : List Addr} {f : Addr} {fd : FuncData} (F : Fun K "need_map" "need_map" (topS 14) f fd) (c_is_map : Cal P w K mg base 5 "is_map" ["value"] (sp_is_map T)) : FnOk P w K mg base CX0 6 f fd ["chart"] (sp_need_map T) := by
  have nd := sc_need_map.nd
  refine F.ok sc_need_map (fun vs H Q E h => ?_) (fun cdv A outer s H vs Q E hr h => ?_)
  · obtain ⟨_, _, _, _, _, rfl, _⟩ := h; rfl
  · obtain ⟨m, L, k, p, c, rfl, hV, kq⟩ := h
    refine ⟨_, (pss_one (ps_if (pt_not (pt_val (pcall c_is_map hr (by decide) (by rfl) (pa_cons (pv 0) pa_nil)))) (pss_one ps_never) pss_nil)), ?_⟩
    exact ⟨_, rfl, m, L, k, p, c, rfl, hV, fun H' g => ⟨true, rfl, iteF (kq H' g)⟩⟩
/-! ### is_made -/
abbrev N_is_made : List Str := ["chart", "taking", "cell", "other", "land", "one"]
theorem sc_is_made : FnScope N_is_made ["chart", "taking"] (defScope (topS 18)) := ⟨rfl, rfl, rfl, by decide +kernel, rfl, by decide +kernel, by decide +kernel⟩
def TkAt (H : Hp) (t : Nat × Nat) (r : Addr) : Prop := H r = some (.tup [vI t.1, vI t.2])
def sp_is_made (T : List Addr) : Sp := fun vs H Q _ => ∃ A L k p c t l x, vs = [.ref p, .ref t] ∧ Vc T H A L k p c ∧ TkAt H (l, x) t ∧ x < c.length ∧ ∀ b H', (b = true ↔ Take A L c l x) → Gr H H' → Q (.bl b) H'
theorem ok_is_made {T : List Addr} {f pt cd : Addr} {fd : FuncData} (F : FunC K "is_made" "is_made" (topS 18) f fd cd) (TB : GxR.TabB base mg cd pt) (hT : pt ∈ T) (m_any : mg "any" = none)
    (c_near : Cal P w K mg base 1 "near" ["arms", "length", "cell"] sp_near) (c_length_of : Cal P w K mg base 1 "length_of" ["chart"] sp_length_of) (c_held : Cal P w K mg base 1 "held" ["cells", "land"] sp_held) (c_hangs : Cal P w K mg base 2 "hangs" ["arms", "cells", "some"] sp_hangs) : FnOk P w K mg base CX0 3 f fd ["chart", "taking"] (sp_is_made T) := by
  have nd := sc_is_made.nd
  refine F.ok sc_is_made (fun vs H Q E h => ?_) (fun A outer s H vs Q E hr h => ?_)
  · obtain ⟨_, _, _, _, _, _, _, _, rfl, _⟩ := h; rfl
  · obtain ⟨m, L, k, p, c, t, l, x, rfl, hV, ht, hx, kq⟩ := h
    have hI := hV.ch.isl
    obtain ⟨b1, b2, b3, b4⟩ := Isl.le4 hI
    have hl := hV.v.len
    have hxl : x < m * L + 1 := by rw [← hl]; exact hx
    refine ⟨_, (pss_cons (ps_asg (pv 1) (pg_tup rfl (pgs_cons (pg_name (i := 4) nd rfl (Or.inr rfl)) (pgs_cons (pg_name (i := 2) nd rfl (Or.inr rfl)) pgs_nil))))
      (pss_cons (ps_set (i := 3) nd rfl (Or.inl rfl) (pe_ix nIxT (pe_ix chIx1 (pv 0) pe_int (fun _ _ => rfl)) (pv 2) (fun _ _ => rfl)))
      (pss_cons (ps_if (PW.pt (pw_or (pt_cmpR nEq (pv 3) (pv 4) (nomark _)) (pw_or1 (pt_not (pt_val (GX.pe_anyG (k := 1) (ix := 5) (own := [("one", 5)]) hr (by rfl) m_any TB rfl nd (blkOk_by (own := [("one", 5)]) (N := N_is_made) (sc := defScope (topS 18)) (by decide +kernel)) ⟨rfl, by decide +kernel, by decide +kernel, by decide +kernel⟩ (pi_list (pcall c_near hr (by decide) (by rfl) (pa_cons (pe_ix chIx0 (pv 0) pe_int (fun _ _ => rfl)) (pa_cons (pcall c_length_of hr (by decide) (by rfl) (pa_cons (pv 0) pa_nil)) (pa_cons (pv 2) pa_nil))))) rfl (by decide) (fun A s H C cl code fp hr => (pe_cmpR nEq (pe_ix (nIxTk K) (pe_ix chIx1 (pv 0) pe_int (fun _ _ => rfl)) (pv 5) (fun _ _ => rfl)) (pv 4) (nomark _))))))))) (pss_one (ps_ret pe_bl)) pss_nil)
      (pss_one (ps_ret (pcall c_hangs hr (by decide) (by rfl) (pa_cons (pe_ix chIx0 (pv 0) pe_int (fun _ _ => rfl)) (pa_cons (pe_ix chIx1 (pv 0) pe_int (fun _ _ => rfl)) (pa_cons (pe_lc (own := [("one", 5)]) rfl nd (pi_list (pcall c_held hr (by decide) (by rfl) (pa_cons (pe_ix chIx1 (pv 0) pe_int (fun _ _ => rfl)) (pa_cons (pv 3) pa_nil)))) (blkOk_by (own := [("one", 5)]) (N := N_is_made) (sc := defScope (topS 18)) (by decide +kernel)) (fun _ _ _ _ _ => (pg_name (i := 5) nd rfl (Or.inl rfl))) (fun _ _ _ _ _ => pts_one (pt_cmpR nNe (pv 5) (pv 2) (nomark _))) (fun _ _ _ _ _ => (pv 5))) pa_nil))))))))), ?_⟩
    refine ⟨_, rfl, t, _, rfl, SqT.of ht, rfl, _, _, rfl, _, [], rfl, rfl, ?_⟩
    refine ⟨_, rfl, m, p, c, rfl, rfl, hV.ch.at_, fun q h1 h2 => ⟨_, rfl, q, c, x, rfl, rfl, SqT.of h2, hx, ?_⟩⟩
    generalize hO : c.getD x 0 = o
    refine ⟨_, rfl, _, rfl, o, l, rfl, rfl, _, rfl, ite2 (fun e => ?_) (fun e => ?_)⟩
    · have e0 := of_decide_eq_true e
      exact kq false H ⟨fun z => (nomatch z), fun z => absurd (hO.trans e0) z.1⟩ (Gr.refl H)
    · have e0 : o ≠ l := fun z => e (decide_eq_true z)
      refine ⟨_, rfl, m, p, c, rfl, rfl, hV.ch.at_, _, rfl, m, L, p, c, rfl, hV.ch, _, rfl, m, L, x, rfl, hI, hxl, fun H1 r g1 nr er => ?_⟩
      refine ⟨r, rfl, ⟨_, SqL.of er⟩, ?_⟩
      have hV1 := hV.gr g1
      refine quan_lst (c := near m L x) (fun i => ∀ j, j < i → c.getD ((near m L x).getD j 0) 0 ≠ l) (g1.tab pt (hV.tb pt hT)) er (fun j z => absurd z (Nat.not_lt_zero j)) (fun i H2 hi g2 rr => ?_) (fun H2 g2 rr => ?_)
      · have hV2 := hV1.gr g2
        have hy : (near m L x).getD i 0 ∈ near m L x := by
          rw [List.getD_eq_getElem?_getD, List.getElem?_eq_getElem hi]
          exact List.getElem_mem hi
        have hyl := near_lt hI x hxl _ hy
        generalize hY : (near m L x).getD i 0 = y at *
        refine ⟨_, rfl, m, p, c, rfl, rfl, hV2.ch.at_, fun q2 h3 h4 => ⟨_, rfl, q2, c, y, rfl, rfl, SqT.of h4, by rw [hl]; exact hyl, _, rfl, _, l, rfl, rfl, _, rfl, ?_⟩⟩
        by_cases hyl2 : c.getD y 0 = l
        · rw [if_pos (decide_eq_true hyl2)]
          refine ⟨true, rfl, iteF ?_⟩
          -- hangs
          have g3 := g1.trans g2
          have hV3 := hV.gr g3
          refine ⟨_, rfl, m, p, c, rfl, rfl, hV3.ch.at_, _, rfl, m, p, c, rfl, rfl, hV3.ch.at_, fun q5 f1 f2 => ?_⟩
          refine ⟨_, rfl, m, p, c, rfl, rfl, hV3.ch.at_, fun q6 f3 f4 => ⟨_, rfl, q6, c, o, rfl, f4, hV.sm, fun H4 r2 g4 nr2 er2 => ?_⟩⟩
          refine ⟨r2, rfl, ⟨_, SqL.of er2⟩, fun D hD => ?_⟩
          refine lcN_list (c := cellsOf c o) (fun z => decide (z ≠ x)) (fun z => z) hD er2 ?_ (fun i H5 Y N hi g5 hY hN => ?_) (fun H5 g5 e5 => ?_)
          · have := filter_len (p := fun i => decide (c.getD i 0 = o)) (i := c.length)
            have h13 := hV.sm
            unfold cellsOf
            omega
          · refine ⟨rfl, _, rfl, _, rfl, _, x, rfl, rfl, _, rfl, ite2 (fun e => ⟨_, rfl, hY e H5 (Gr.refl _)⟩) (fun e => hN (Bool.eq_false_iff.mpr e) H5 (Gr.refl _))⟩
          · rw [map_id_nat] at e5
            have e6 : (cellsOf c o).filter (fun z => decide (z ≠ x)) = Star.rest c x := by unfold Star.rest; rw [hO]
            rw [e6] at e5
            have g6 := g4.trans g5
            refine ⟨m, L, q5, c, D, Star.rest c x, rfl, hI, g6.tup f2, hl, e5, rest_nodup c x, fun z hz => by rw [← hl]; exact (mem_rest.mp hz).1.1, fun b H6 hb g7 => kq b H6 ?_ ((g3.trans g6).trans g7)⟩
            rw [hb]
            exact ⟨fun z => ⟨by rw [hO]; exact e0, ⟨y, hy, hyl2⟩, z⟩, fun z => z.2.2⟩
        · rw [if_neg (by rw [decide_eq_true_eq]; exact hyl2)]
          refine ⟨g2, fun j hj => ?_⟩
          by_cases hji : j = i
          · rw [hji, hY]; exact hyl2
          · exact rr j (by omega)
      · refine ⟨false, rfl, iteT ?_⟩
        refine kq false H2 ⟨fun z => (nomatch z), fun z => ?_⟩ (g1.trans g2)
        obtain ⟨_, ⟨y, hy, e⟩, _⟩ := z
        obtain ⟨j, hj, ej⟩ := mem_getD hy
        have := rr j hj
        rw [ej] at this
        exact absurd e this
end
end Sl
set_option Elab.async false
set_option linter.all false
set_option maxRecDepth 100000
set_option maxHeartbeats 4000000
namespace Sl
open PySem PySem.Spec PyProof.Rows L2 Star DX
/-! ### lists of takings -/
abbrev Tk : Type := (Nat × Nat) × Addr
def refs (xs : List Tk) : List V := xs.map fun x => V.ref x.2
def TkL (H : Hp) (xs : List Tk) : Prop := ∀ x ∈ xs, TkAt H x.1 x.2
theorem Gr.tkl {H H' : Hp} {xs : List Tk} (g : Gr H H') (h : TkL H xs) : TkL H' xs := fun x hx => g.tup (h x hx)
theorem refs_len (xs : List Tk) : (refs xs).length = xs.length := List.length_map _
theorem refs_snoc (xs : List Tk) (x : Tk) : refs xs ++ [V.ref x.2] = refs (xs ++ [x]) := by
  unfold refs
  rw [List.map_append]
  rfl
theorem refs_app (xs ys : List Tk) : refs xs ++ refs ys = refs (xs ++ ys) := by
  unfold refs
  rw [List.map_append]
theorem refs_at {xs : List Tk} {i : Nat} {x : V} (h : (refs xs)[i]? = some x) : ∃ t, xs[i]? = some t ∧ t ∈ xs ∧ x = .ref t.2 := by
  unfold refs at h
  rw [List.getElem?_map] at h
  cases e : xs[i]? with
  | none => rw [e] at h; cases h
  | some t =>
    rw [e] at h
    exact ⟨t, rfl, List.mem_of_getElem? e, (Option.some.inj h).symm⟩
open Classical in
noncomputable def tkTo (A L : Nat) (c : List Nat) (l i : Nat) : List (Nat × Nat) := ((List.range i).filter fun x => decide (Take A L c l x)).map fun x => (l, x)
theorem tkTo_all (A L : Nat) (c : List Nat) (l : Nat) : tkTo A L c l c.length = takesAt A L c l := rfl
theorem tkTo_yes {A L : Nat} {c : List Nat} {l i : Nat} (h : Take A L c l i) : tkTo A L c l (i + 1) = tkTo A L c l i ++ [(l, i)] := by
  unfold tkTo
  rw [List.range_succ, List.filter_append, List.filter_cons_of_pos (by simpa using h), List.map_append]
  rfl
theorem tkTo_no {A L : Nat} {c : List Nat} {l i : Nat} (h : ¬ Take A L c l i) : tkTo A L c l (i + 1) = tkTo A L c l i := by
  unfold tkTo
  rw [List.range_succ, List.filter_append, List.filter_cons_of_neg (by simpa using h), List.filter_nil, List.append_nil]
theorem tkTo_len (A L : Nat) (c : List Nat) (l i : Nat) : (tkTo A L c l i).length ≤ i := by
  unfold tkTo
  rw [List.length_map]
  exact filter_len
noncomputable def tksTo (A L : Nat) (c : List Nat) (i : Nat) : List (Nat × Nat) := (List.range i).flatMap (takesAt A L c)
theorem tksTo_succ (A L : Nat) (c : List Nat) (i : Nat) : tksTo A L c (i + 1) = tksTo A L c i ++ takesAt A L c i := by
  unfold tksTo
  rw [List.range_succ, List.flatMap_append]
  simp
theorem tksTo_len (A L : Nat) (c : List Nat) : ∀ i, (tksTo A L c i).length ≤ i * c.length
  | 0 => Nat.le_of_eq (by show ([] : List (Nat × Nat)).length = _; simp)
  | i + 1 => by
    rw [tksTo_succ, List.length_append, ← tkTo_all, Nat.add_mul, Nat.one_mul]
    exact Nat.add_le_add (tksTo_len A L c i) (tkTo_len A L c i c.length)
theorem two_le {x y : V} : [x, y].length ≤ sizeLine := by show 2 ≤ sizeLine; decide
theorem Isl.k4 {A L k : Nat} (h : Isl A L) (hk : k ≤ L + 1) : k ≤ 4 := by
  have := Isl.le4 h
  omega
theorem lenI {xs : List Tk} {n : Nat} (h : xs.length ≤ n) (hn : n < 1000) : (refs xs).length < sizeLine := by rw [refs_len]; exact small1000 (by omega)
section
variable {P : Program} {w : World} {K : PySem.W.Frag} {mg : Str → Option Value} {base : Heap}
/-! ### all_takings -/
abbrev N_all_takings : List Str := ["chart", "found", "land", "cell"]
theorem sc_all_takings : FnScope N_all_takings ["chart"] (defScope (topS 19)) := ⟨rfl, rfl, rfl, by decide +kernel, rfl, by decide +kernel, by decide +kernel⟩
def sp_all_takings (T : List Addr) : Sp := fun vs H Q _ => ∃ A L k p c, vs = [.ref p] ∧ Vc T H A L k p c ∧ ∀ H' r xs, Gr H H' → H r = none → H' r = some (.lst (refs xs)) → TkL H' xs → xs.map (·.1) = takes A L k c → Q (.ref r) H'
theorem ok_all_takings {T : List Addr} {f : Addr} {fd : FuncData} (F : Fun K "all_takings" "all_takings" (topS 19) f fd) (m_range : mg "range" = none) (m_len : mg "len" = none)
    (c_lands_of : Cal P w K mg base 1 "lands_of" ["chart"] (sp_lands_of T)) (c_is_made : Cal P w K mg base 3 "is_made" ["chart", "taking"] (sp_is_made T)) : FnOk P w K mg base CX0 4 f fd ["chart"] (sp_all_takings T) := by
  have nd := sc_all_takings.nd
  refine F.ok sc_all_takings (fun vs H Q E h => ?_) (fun cdv A outer s H vs Q E hr h => ?_)
  · obtain ⟨_, _, _, _, _, rfl, _⟩ := h; rfl
  · obtain ⟨m, L, k, p, c, rfl, hV, kq⟩ := h
    have hI := hV.ch.isl
    have hk4 := Isl.k4 hI hV.kL
    have h13 := hV.sm
    refine ⟨_, (pss_cons (ps_set (i := 1) nd rfl (Or.inl rfl) (pe_lst pa_nil))
      (pss_cons (ps_for PassesOwn.never rfl (pi_range1 (by rfl) m_range (pa_cons (pcall c_lands_of hr (by decide) (by rfl) (pa_cons (pv 0) pa_nil)) pa_nil)) (pg_name (i := 2) nd rfl (Or.inr rfl)) (pss_one (ps_set (i := 1) nd rfl (Or.inl rfl) (pe_op op_cat (pv 1) (pe_lc (own := [("cell", 3)]) rfl nd (pi_range1 (by rfl) m_range (pa_cons (pe_callB nLen (by rfl) m_len (by decide +kernel) (pa_cons (pe_ix chIx1 (pv 0) pe_int (fun _ _ => rfl)) pa_nil)) pa_nil)) (blkOk_by (own := [("cell", 3)]) (N := N_all_takings) (sc := defScope (topS 19)) (by decide +kernel)) (fun _ _ _ _ _ => (pg_name (i := 3) nd rfl (Or.inl rfl))) (fun _ _ _ _ _ => pts_one (pt_val (pcall c_is_made hr (by decide) (by rfl) (pa_cons (pv 0) (pa_cons (pe_tup (pa_cons (pv 2) (pa_cons (pv 3) pa_nil))) pa_nil))))) (fun _ _ _ _ _ => (pe_tup (pa_cons (pv 2) (pa_cons (pv 3) pa_nil)))))))))
      (pss_one (ps_ret (pv 1))))), ?_⟩
    refine ⟨Nat.zero_le _, fun o0 ho0 => ?_⟩
    have g0 : Gr H (upd H o0 (.lst [])) := Gr.new ho0
    refine ⟨_, rfl, m, L, k, p, c, rfl, hV.gr g0, k, rfl, by omega, by omega, ?_⟩
    refine for_rangeN (n := k) (fun i σ H1 => ∃ o xs y2, σ = [some (.ref p), some (.ref o), y2, none] ∧ Gr H H1 ∧ H o = none ∧ H1 o = some (.lst (refs xs)) ∧ TkL H1 xs ∧ xs.map (·.1) = tksTo m L c i)
      ⟨o0, [], none, rfl, g0, ho0, upd_same, fun x hx => (nomatch hx), rfl⟩ (fun i σ H1 hi z => ?_) (fun σ H1 z => ?_)
    · obtain ⟨o, xs, y2, rfl, g1, no, eo, tk, ex⟩ := z
      have hV1 := hV.gr g1
      refine ⟨_, rfl, _, rfl, m, p, c, rfl, rfl, hV1.ch.at_, fun q h1 h2 => ⟨q, c, rfl, .inr (SqT.of h2), c.length, rfl, by omega, by omega, fun D hD => ?_⟩⟩
      refine lc_rangeN (n := c.length) (fun j H2 => Gr H1 H2 ∧ ∃ ys, H2 D = some (.lst (refs ys)) ∧ TkL H2 ys ∧ ys.map (·.1) = tkTo m L c i j) ⟨Gr.new hD, [], upd_same, fun x hx => (nomatch hx), rfl⟩ (fun j H2 hj z => ?_) (fun H2 z => ?_)
      · obtain ⟨g2, ys, eD, tky, ey⟩ := z
        have hV2 := hV1.gr g2
        refine ⟨rfl, _, rfl, _, rfl, _, rfl, two_le, fun t nt => ?_⟩
        have g3 : Gr H2 (upd H2 t (.tup [vI i, vI j])) := Gr.new nt
        refine ⟨m, L, k, p, c, t, i, j, rfl, hV2.gr g3, upd_same, hj, fun b H4 hb g4 => ⟨b, rfl, ?_⟩⟩
        have g5 := g3.trans g4
        cases b with
        | true =>
          refine iteT ⟨_, rfl, _, rfl, two_le, fun t2 nt2 => ?_⟩
          have g6 : Gr H4 (upd H4 t2 (.tup [vI i, vI j])) := Gr.new nt2
          have gD := (g5.trans g6)
          have hle : ys.length ≤ c.length := by
            have := tkTo_len m L c i j
            rw [← ey, List.length_map] at this
            omega
          have nD : D ≠ t2 := ne_of_none (g5.lst eD) nt2
          refine ⟨_, gD.lst eD, lenI hle (by omega), (g2.trans gD).set hD, ys ++ [((i, j), t2)], by rw [upd_same, ← refs_snoc], ?_, ?_⟩
          · intro x hx
            have nx : ∀ x : Tk, TkAt (upd H4 t2 (.tup [vI i, vI j])) x.1 x.2 → x.2 ≠ D := fun x h e => by
              unfold TkAt at h
              rw [e, gD.lst eD] at h
              cases h
            unfold TkAt
            rcases List.mem_append.mp hx with hx | hx
            · have := gD.tkl tky x hx
              rw [upd_ne (nx x this)]
              exact this
            · rw [List.mem_singleton.mp hx]
              rw [upd_ne (Ne.symm nD), upd_same]
          · rw [List.map_append, ey, tkTo_yes (hb.mp rfl)]
            rfl
        | false =>
          refine iteF ⟨g2.trans g5, ys, g5.lst eD, g5.tkl tky, ?_⟩
          rw [ey, tkTo_no fun z => Bool.false_ne_true (hb.mpr z)]
      · obtain ⟨g2, ys, eD, tky, ey⟩ := z
        rw [tkTo_all] at ey
        have e2 : (xs ++ ys).map (·.1) = tksTo m L c (i + 1) := by rw [List.map_append, ex, ey, tksTo_succ]
        have hln : (xs ++ ys).length ≤ 52 := by
          have h1 := tksTo_len m L c (i + 1)
          rw [← e2, List.length_map] at h1
          have : (i + 1) * c.length ≤ 4 * 13 := Nat.mul_le_mul (by omega) h13
          omega
        refine ⟨o, D, refs xs, refs ys, rfl, rfl, g2.lst eo, eD, by rw [refs_len, refs_len, ← List.length_append]; exact Nat.le_of_lt (small1000 (by omega)), fun o2 no2 => ?_⟩
        have g3 := g1.trans g2
        have g4 : Gr H2 (upd H2 o2 (.lst (refs xs ++ refs ys))) := Gr.new no2
        refine ⟨o2, xs ++ ys, _, rfl, g3.trans g4, g3.non o2 no2, by rw [upd_same, refs_app], g4.tkl fun x hx => ?_, e2⟩
        rcases List.mem_append.mp hx with hx | hx
        · exact g2.tkl tk x hx
        · exact tky x hx
    · obtain ⟨o, xs, y2, rfl, g1, no, eo, tk, ex⟩ := z
      exact ⟨_, rfl, kq H1 o xs g1 no eo tk ex⟩
/-! ### hub_takings -/
abbrev N_hub_takings : List Str := ["chart", "taking"]
theorem sc_hub_takings : FnScope N_hub_takings ["chart"] (defScope (topS 21)) := ⟨rfl, rfl, rfl, by decide +kernel, rfl, by decide +kernel, by decide +kernel⟩
def hubT (t : Nat × Nat) : Bool := decide (t.2 = 0)
def sp_hub_takings (T : List Addr) : Sp := fun vs H Q _ => ∃ A L k p c, vs = [.ref p] ∧ Vc T H A L k p c ∧ ∀ H' r xs, Gr H H' → H' r = some (.tup (refs xs)) → TkL H' xs → xs.map (·.1) = (takes A L k c).filter hubT → Q (.ref r) H'
theorem hub_step {xs : List Tk} {i : Nat} {t : Tk} (h : xs[i]? = some t) : (xs.take (i + 1)).filter (fun x => hubT x.1) = (xs.take i).filter (fun x => hubT x.1) ++ (if hubT t.1 = true then [t] else []) := by
  rw [List.take_add_one, h, List.filter_append]
  congr 1
  show List.filter (fun x : Tk => hubT x.1) [t] = _
  rw [List.filter_cons]
  rfl
theorem filter_map_fst {xs : List Tk} {p : Nat × Nat → Bool} : (xs.filter fun x => p x.1).map (·.1) = (xs.map (·.1)).filter p := by
  induction xs with
  | nil => rfl
  | cons x r ih =>
    rw [List.map_cons, List.filter_cons, List.filter_cons, ← ih]
    cases p x.1 <;> rfl
theorem ok_hub_takings {T : List Addr} {f : Addr} {fd : FuncData} (F : Fun K "hub_takings" "hub_takings" (topS 21) f fd) (m_tuple : mg "tuple" = none)
    (c_need_map : Cal P w K mg base 6 "need_map" ["chart"] (sp_need_map T)) (c_all_takings : Cal P w K mg base 4 "all_takings" ["chart"] (sp_all_takings T)) : FnOk P w K mg base CX0 7 f fd ["chart"] (sp_hub_takings T) := by
  have nd := sc_hub_takings.nd
  refine F.ok sc_hub_takings (fun vs H Q E h => ?_) (fun cdv A outer s H vs Q E hr h => ?_)
  · obtain ⟨_, _, _, _, _, rfl, _⟩ := h; rfl
  · obtain ⟨m, L, k, p, c, rfl, hV, kq⟩ := h
    refine ⟨_, (pss_cons (ps_expr (pcall c_need_map hr (by decide) (by rfl) (pa_cons (pv 0) pa_nil)))
      (pss_one (ps_ret (pe_callTy call_tuple_of (by rfl) m_tuple (by decide +kernel) (pa_cons (pe_lc (own := [("taking", 1)]) rfl nd (pi_list (pcall c_all_takings hr (by decide) (by rfl) (pa_cons (pv 0) pa_nil))) (blkOk_by (own := [("taking", 1)]) (N := N_hub_takings) (sc := defScope (topS 21)) (by decide +kernel)) (fun _ _ _ _ _ => (pg_name (i := 1) nd rfl (Or.inl rfl))) (fun _ _ _ _ _ => pts_one (pt_cmpR nEq (pe_ix (ix_tupk K) (pv 1) pe_int (fun _ _ => rfl)) pe_int (nomark _))) (fun _ _ _ _ _ => (pv 1))) pa_nil))))), ?_⟩
    refine ⟨_, rfl, m, L, k, p, c, rfl, hV, fun H1 g1 => ?_⟩
    refine ⟨_, rfl, m, L, k, p, c, rfl, hV.gr g1, fun H2 r xs g2 nr er tk ex => ?_⟩
    have hln : xs.length ≤ 52 := by
      have h1 := tksTo_len m L c k
      have e1 : takes m L k c = tksTo m L c k := rfl
      rw [← e1, ← ex, List.length_map] at h1
      have : k * c.length ≤ 4 * 13 := Nat.mul_le_mul (Isl.k4 hV.ch.isl hV.kL) hV.sm
      omega
    refine ⟨r, rfl, ⟨_, SqL.of er⟩, fun D hD => ?_⟩
    refine lc_list (K := K) (a := r) (xs := refs xs) (fun i H3 => Gr H2 H3 ∧ H3 D = some (.lst (refs ((xs.take i).filter fun x => hubT x.1)))) ⟨Gr.new hD, upd_same⟩ (fun i H3 _ z => SqL.of (z.1.lst er)) (fun i x H3 hx z => ?_) (fun H3 z => ?_)
    · obtain ⟨t, et, mt, rfl⟩ := refs_at hx
      obtain ⟨g3, eD⟩ := z
      have htk := g3.tkl tk t mt
      refine ⟨rfl, _, rfl, t.2, _, 1, _, rfl, rfl, SqT.of htk, rfl, t.1.2, 0, rfl, rfl, _, rfl, ite2 (fun e => ?_) (fun e => ?_)⟩
      · refine ⟨_, rfl, _, eD, lenI (n := 52) ?_ (by omega), g3.set hD, ?_⟩
        · have := List.length_filter_le (fun x : Tk => hubT x.1) (xs.take i)
          rw [List.length_take] at this
          omega
        · have e2 : hubT t.1 = true := e
          rw [upd_same, hub_step et, if_pos e2, ← refs_snoc]
      · have e2 : ¬ hubT t.1 = true := e
        refine ⟨g3, ?_⟩
        rw [eD, hub_step et, if_neg e2, List.append_nil]
    · obtain ⟨g3, eD⟩ := z
      rw [refs_len, List.take_length] at eD
      refine ⟨D, _, rfl, .inl ⟨SqL.of eD, fun l nl => ?_⟩⟩
      have g4 : Gr H3 (upd H3 l (.tup (refs (xs.filter fun x => hubT x.1)))) := Gr.new nl
      refine kq _ l _ ((g1.trans g2).trans (g3.trans g4)) upd_same (g4.tkl fun x hx => g3.tkl tk x ((List.mem_filter.mp hx).1)) ?_
      rw [filter_map_fst, ex]
/-! ### bare_of and its kin -/
abbrev N_bare_of : List Str := ["chart", "hub", "arm", "land"]
theorem sc_bare_of : FnScope N_bare_of ["chart"] (defScope (topS 22)) := ⟨rfl, rfl, rfl, by decide +kernel, rfl, by decide +kernel, by decide +kernel⟩
def relab (sc d : Scope) : Scope := { sc with names := sc.names.map fun (n, k) => if (k == .free && d.kind == .function && d.names.lookup n == some .cell) then (n, .cell) else (n, k) }
def in_bare_of : Scope := relab (match defBody (topS 22) with
  | [_, .Return (some (.Call _ [.ListComp _ _ sc _] _ _)) _] => sc
  | _ => defScope (topS 22)) (defScope (topS 22))
def sp_bare_of (T : List Addr) : Sp := fun vs H Q _ => ∃ A L k p c, vs = [.ref p] ∧ Vc T H A L k p c ∧ ∀ H', Gr H H' → Q (vI (bares A L c).length) H'
theorem armC_bare {L : Nat} {c : List Nat} {a : Nat} : bareB L c a = true ↔ ∀ i, i < L → (armC L c a).getD i 0 = c.getD 0 0 := by
  rw [bareB_iff]
  unfold Bare armC
  constructor
  · intro h i hi
    rw [List.getD_eq_getElem?_getD, List.getElem?_map, List.getElem?_range hi]
    exact h i hi
  · intro h i hi
    have := h i hi
    rw [List.getD_eq_getElem?_getD, List.getElem?_map, List.getElem?_range hi] at this
    exact this
theorem armC_len (L : Nat) (c : List Nat) (a : Nat) : (armC L c a).length = L := by unfold armC; rw [List.length_map, List.length_range]
theorem ok_bare_of {T : List Addr} {f pt cd : Addr} {fd : FuncData} (F : FunC K "bare_of" "bare_of" (topS 22) f fd cd) (TB : GxR.TabB base mg cd pt) (hT : pt ∈ T) (m_len : mg "len" = none) (m_range : mg "range" = none) (m_all : mg "all" = none)
    (c_outward : Cal P w K mg base 2 "outward" ["chart", "arm"] sp_outward) : FnOk P w K mg base CX0 3 f fd ["chart"] (sp_bare_of T) := by
  have nd := sc_bare_of.nd
  refine F.ok sc_bare_of (fun vs H Q E h => ?_) (fun A outer s H vs Q E hr h => ?_)
  · obtain ⟨_, _, _, _, _, rfl, _⟩ := h; rfl
  · obtain ⟨m, L, k, p, c, rfl, hV, kq⟩ := h
    obtain ⟨b1, b2, b3, b4⟩ := Isl.le4 hV.ch.isl
    refine ⟨_, (pss_cons (ps_set (i := 1) nd rfl (Or.inr rfl) (pe_ix nIxT (pe_ix chIx1 (pv 0) pe_int (fun _ _ => rfl)) pe_int (fun _ _ => rfl)))
      (pss_one (ps_ret (pe_callB nLen (by rfl) m_len (by decide +kernel) (pa_cons (pe_lc (own := [("arm", 2)]) rfl nd (pi_range1 (by rfl) m_range (pa_cons (pe_ix chIx0 (pv 0) pe_int (fun _ _ => rfl)) pa_nil)) (blkOk_by (own := [("arm", 2)]) (N := N_bare_of) (sc := defScope (topS 22)) (by decide +kernel)) (fun _ _ _ _ _ => (pg_name (i := 2) nd rfl (Or.inl rfl))) (fun _ _ _ _ _ => pts_one (pt_val (GX.pe_allG (k := 1) (ix := 3) (own := [("land", 3)]) hr (by rfl) m_all TB rfl nd (blkOk_by (own := [("land", 3)]) (N := N_bare_of) (sc := in_bare_of) (by decide +kernel)) ⟨rfl, by decide +kernel, by decide +kernel, by decide +kernel⟩ (pi_listk K (pcall c_outward hr (by decide) (by rfl) (pa_cons (pv 0) (pa_cons (pv 2) pa_nil)))) rfl (by decide) (fun A s H C cl code fp hr => (pe_cmpR nEq (pv 3) (pv 1) (nomark _)))))) (fun _ _ _ _ _ => pe_int)) pa_nil))))), ?_⟩
    refine ⟨_, rfl, m, p, c, rfl, rfl, hV.ch.at_, fun q h1 h2 => ⟨q, c, 0, rfl, rfl, SqT.of h2, by rw [hV.v.len]; omega, ?_⟩⟩
    refine ⟨_, rfl, m, p, c, rfl, rfl, hV.ch.at_, m, rfl, by omega, by omega, fun D hD => ?_⟩
    refine lcN_rng (n := m) (bareB L c) (fun _ => 1) hD (by omega) (fun i H1 Y N hi g1 hY hN => ?_) (fun H1 g1 e1 => ?_)
    · have hV1 := hV.gr g1
      refine ⟨rfl, _, rfl, _, rfl, m, L, p, c, i, rfl, hV1.ch, hi, fun H2 r g2 nr er => ?_⟩
      have hV2 := hV1.gr g2
      refine ⟨r, rfl, ⟨_, SqL.of er⟩, ?_⟩
      refine quan_lst (c := armC L c i) (fun j => ∀ u, u < j → (armC L c i).getD u 0 = c.getD 0 0) (hV2.tb pt hT) er (fun j z => absurd z (Nat.not_lt_zero j)) (fun j H3 hj g3 rr => ?_) (fun H3 g3 rr => ?_)
      · refine ⟨_, rfl, _, rfl, _, _, rfl, rfl, _, rfl, ?_⟩
        by_cases e : (armC L c i).getD j 0 = c.getD 0 0
        · rw [if_neg (by rw [decide_eq_true e]; decide)]
          refine ⟨g3, fun u hu => ?_⟩
          by_cases hj2 : u = j
          · rw [hj2]; exact e
          · exact rr u (by omega)
        · rw [if_pos (decide_eq_false e)]
          refine ⟨false, rfl, iteF (hN ?_ H3 (g2.trans g3))⟩
          rw [Bool.eq_false_iff]
          intro z
          exact e (armC_bare.mp z j (by rw [armC_len] at hj; exact hj))
      · rw [armC_len] at rr
        exact ⟨true, rfl, iteT (hY (armC_bare.mpr rr) H3 (g2.trans g3))⟩
    · refine ⟨D, _, rfl, .inl (SqL.of e1), ?_⟩
      rw [List.length_map]
      exact kq H1 g1
theorem sc_freezes : FnScope ["chart"] ["chart"] (defScope (topS 23)) := ⟨rfl, rfl, rfl, by decide +kernel, rfl, by decide +kernel, by decide +kernel⟩
def sp_freezes (T : List Addr) : Sp := fun vs H Q _ => ∃ A L k p c, vs = [.ref p] ∧ Vc T H A L k p c ∧ ∀ H', Gr H H' → Q (.bl (decide (1 < (bares A L c).length))) H'
theorem ok_freezes {T : List Addr} {f : Addr} {fd : FuncData} (F : Fun K "freezes" "freezes" (topS 23) f fd) (c_bare_of : Cal P w K mg base 3 "bare_of" ["chart"] (sp_bare_of T)) : FnOk P w K mg base CX0 4 f fd ["chart"] (sp_freezes T) := by
  have nd := sc_freezes.nd
  refine F.ok sc_freezes (fun vs H Q E h => ?_) (fun cdv A outer s H vs Q E hr h => ?_)
  · obtain ⟨_, _, _, _, _, rfl, _⟩ := h; rfl
  · obtain ⟨m, L, k, p, c, rfl, hV, kq⟩ := h
    refine ⟨_, (pss_one (ps_ret (pe_cmpR nGt (pcall c_bare_of hr (by decide) (by rfl) (pa_cons (pv 0) pa_nil)) pe_int (nomark _)))), ?_⟩
    exact ⟨_, rfl, m, L, k, p, c, rfl, hV, fun H1 g1 => ⟨_, 1, rfl, rfl, kq H1 g1⟩⟩
theorem sc_bare_arms : FnScope ["chart"] ["chart"] (defScope (topS 24)) := ⟨rfl, rfl, rfl, by decide +kernel, rfl, by decide +kernel, by decide +kernel⟩
theorem ok_bare_arms {T : List Addr} {f : Addr} {fd : FuncData} (F : Fun K "bare_arms" "bare_arms" (topS 24) f fd) (c_need_map : Cal P w K mg base 6 "need_map" ["chart"] (sp_need_map T)) (c_bare_of : Cal P w K mg base 3 "bare_of" ["chart"] (sp_bare_of T)) : FnOk P w K mg base CX0 7 f fd ["chart"] (sp_bare_of T) := by
  have nd := sc_bare_arms.nd
  refine F.ok sc_bare_arms (fun vs H Q E h => ?_) (fun cdv A outer s H vs Q E hr h => ?_)
  · obtain ⟨_, _, _, _, _, rfl, _⟩ := h; rfl
  · obtain ⟨m, L, k, p, c, rfl, hV, kq⟩ := h
    refine ⟨_, (pss_cons (ps_expr (pcall c_need_map hr (by decide) (by rfl) (pa_cons (pv 0) pa_nil)))
      (pss_one (ps_ret (pcall c_bare_of hr (by decide) (by rfl) (pa_cons (pv 0) pa_nil))))), ?_⟩
    exact ⟨_, rfl, m, L, k, p, c, rfl, hV, fun H1 g1 => ⟨_, rfl, m, L, k, p, c, rfl, hV.gr g1, fun H2 g2 => kq H2 (g1.trans g2)⟩⟩
theorem sc_is_frozen : FnScope ["chart"] ["chart"] (defScope (topS 26)) := ⟨rfl, rfl, rfl, by decide +kernel, rfl, by decide +kernel, by decide +kernel⟩
theorem ok_is_frozen {T : List Addr} {f : Addr} {fd : FuncData} (F : Fun K "is_frozen" "is_frozen" (topS 26) f fd) (c_need_map : Cal P w K mg base 6 "need_map" ["chart"] (sp_need_map T)) (c_freezes : Cal P w K mg base 4 "freezes" ["chart"] (sp_freezes T)) : FnOk P w K mg base CX0 7 f fd ["chart"] (sp_freezes T) := by
  have nd := sc_is_frozen.nd
  refine F.ok sc_is_frozen (fun vs H Q E h => ?_) (fun cdv A outer s H vs Q E hr h => ?_)
  · obtain ⟨_, _, _, _, _, rfl, _⟩ := h; rfl
  · obtain ⟨m, L, k, p, c, rfl, hV, kq⟩ := h
    refine ⟨_, (pss_cons (ps_expr (pcall c_need_map hr (by decide) (by rfl) (pa_cons (pv 0) pa_nil)))
      (pss_one (ps_ret (pcall c_freezes hr (by decide) (by rfl) (pa_cons (pv 0) pa_nil))))), ?_⟩
    exact ⟨_, rfl, m, L, k, p, c, rfl, hV, fun H1 g1 => ⟨_, rfl, m, L, k, p, c, rfl, hV.gr g1, fun H2 g2 => kq H2 (g1.trans g2)⟩⟩
end
end Sl
set_option Elab.async false
set_option linter.all false
set_option maxRecDepth 100000
set_option maxHeartbeats 4000000
namespace Sl
open PySem PySem.Spec PyProof.Rows L2 Star DX
/-! ### tips -/
def tipsOf (A L : Nat) (c : List Nat) : List Nat := (List.range A).map fun a => c.getD (a * L + L) 0
theorem arm_last {L : Nat} {c : List Nat} {a : Nat} (hL : 0 < L) : atI (vsI (armC L c a)) (-1) = some (vI (c.getD (a * L + L) 0)) := by
  obtain ⟨l, rfl⟩ : ∃ l, L = l + 1 := ⟨L - 1, by omega⟩
  have e : vsI (armC (l + 1) c a) = vsI ((List.range l).map fun s => c.getD (a * (l + 1) + 1 + s) 0) ++ [vI (c.getD (a * (l + 1) + (l + 1)) 0)] := by
    rw [vsI_snoc]
    unfold armC
    rw [List.range_succ, List.map_append]
    show vsI (_ ++ [c.getD (a * (l + 1) + 1 + l) 0]) = _
    rw [show a * (l + 1) + 1 + l = a * (l + 1) + (l + 1) by omega]
  rw [e]
  exact atI_last _ _
/-! ### the lands on an arm -/
def dst (l : List Nat) : List Nat := addN [] [] l
def dE (a : Nat) : Key × V := (Sum.inl (a : Int), V.bl true)
theorem dst_snoc (l : List Nat) (x : Nat) : dst (l ++ [x]) = if x ∈ dst l then dst l else dst l ++ [x] := by
  unfold dst
  rw [addN_snoc]
  by_cases h : x ∈ addN [] [] l
  · rw [if_pos (.inr h), if_pos h]
  · rw [if_neg (by simpa using h), if_neg h]
theorem dst_spec (l : List Nat) : (dst l).Nodup ∧ ∀ x, x ∈ dst l ↔ x ∈ l := by
  obtain ⟨h1, _, h3, h4⟩ := addN_spec ([] : List Nat) l [] List.nodup_nil
  exact ⟨h1, fun x => ⟨fun h => (h4 x h).resolve_left (fun z => nomatch z), fun h => (h3 x h).resolve_left (fun z => nomatch z)⟩⟩
theorem dst_le (l : List Nat) : (dst l).length ≤ l.length := nodup_len _ _ (dst_spec l).1 fun x hx => ((dst_spec l).2 x).mp hx
theorem put_dE (l : List Nat) (x : Nat) : putK (l.map dE) (Sum.inl (x : Int)) (V.bl true) = (if x ∈ l then l else l ++ [x]).map dE := by
  unfold putK
  by_cases h : x ∈ l
  · rw [if_pos h, if_pos (List.any_eq_true.mpr ⟨dE x, List.mem_map.mpr ⟨x, h, rfl⟩, by simp [dE]⟩), List.map_map]
    refine List.map_congr_left fun a _ => ?_
    show (if (dE a).1 = Sum.inl (x : Int) then ((dE a).1, V.bl true) else dE a) = dE a
    split <;> rfl
  · rw [if_neg h, if_neg, List.map_append]
    · rfl
    · intro z
      obtain ⟨y, hy, e⟩ := List.any_eq_true.mp z
      obtain ⟨a, ha, rfl⟩ := List.mem_map.mp hy
      have e2 : (Sum.inl (a : Int) : Key) = Sum.inl (x : Int) := of_decide_eq_true e
      injection e2 with e3
      have : a = x := by omega
      rw [this] at ha
      exact h ha
def landsN (A L : Nat) (c : List Nat) (a : Nat) : Nat := (dst ((armC L c a).filter fun x => decide (x ≠ c.getD 0 0))).length
section
variable {P : Program} {w : World} {K : PySem.W.Frag} {mg : Str → Option Value} {base : Heap}
abbrev N_tips : List Str := ["chart", "arm"]
theorem sc_tips : FnScope N_tips ["chart"] (defScope (topS 27)) := ⟨rfl, rfl, rfl, by decide +kernel, rfl, by decide +kernel, by decide +kernel⟩
def sp_tips : Sp := fun vs H Q _ => ∃ A L p c, vs = [.ref p] ∧ Ch H A L p c ∧ ∀ H' r, Gr H H' → H' r = some (.tup (vsI (tipsOf A L c))) → Q (.ref r) H'
theorem ok_tips {f : Addr} {fd : FuncData} (F : Fun K "tips" "tips" (topS 27) f fd) (m_tuple : mg "tuple" = none) (m_range : mg "range" = none) (c_outward : Cal P w K mg base 2 "outward" ["chart", "arm"] sp_outward) : FnOk P w K mg base CX0 3 f fd ["chart"] sp_tips := by
  have nd := sc_tips.nd
  refine F.ok sc_tips (fun vs H Q E h => ?_) (fun cdv A outer s H vs Q E hr h => ?_)
  · obtain ⟨_, _, _, _, rfl, _⟩ := h; rfl
  · obtain ⟨m, L, p, c, rfl, hC, kq⟩ := h
    obtain ⟨b1, b2, b3, b4⟩ := Isl.le4 hC.isl
    refine ⟨_, (pss_one (ps_ret (pe_callTy call_tuple_of (by rfl) m_tuple (by decide +kernel) (pa_cons (pe_lc (own := [("arm", 1)]) rfl nd (pi_range1 (by rfl) m_range (pa_cons (pe_ix chIx0 (pv 0) pe_int (fun _ _ => rfl)) pa_nil)) (blkOk_by (own := [("arm", 1)]) (N := N_tips) (sc := defScope (topS 27)) (by decide +kernel)) (fun _ _ _ _ _ => (pg_name (i := 1) nd rfl (Or.inl rfl))) (fun _ _ _ _ _ => pts_nil) (fun _ _ _ _ _ => (pe_ix (ix_listk K) (pcall c_outward hr (by decide) (by rfl) (pa_cons (pv 0) (pa_cons (pv 1) pa_nil))) (pe_un un_neg pe_int) (fun _ _ => rfl)))) pa_nil)))), ?_⟩
    refine ⟨_, rfl, m, p, c, rfl, rfl, hC.at_, m, rfl, by omega, by omega, fun D hD => ?_⟩
    refine lcN_rng (n := m) (fun _ => true) (fun a => c.getD (a * L + L) 0) hD (by omega) (fun i H1 Y N hi g1 hY hN => ?_) (fun H1 g1 e1 => ?_)
    · refine ⟨rfl, _, rfl, _, rfl, m, L, p, c, i, rfl, hC.gr g1, hi, fun H2 r g2 nr er => ?_⟩
      exact ⟨1, rfl, r, _, _, _, rfl, rfl, SqL.of er, arm_last b3, hY rfl H2 g2⟩
    · rw [List.filter_eq_self.mpr fun _ _ => rfl] at e1
      refine ⟨D, _, rfl, .inl ⟨SqL.of e1, fun l nl => kq _ l (g1.trans (Gr.new nl)) upd_same⟩⟩
theorem sc_own_lands : FnScope ["chart"] ["chart"] (defScope (topS 28)) := ⟨rfl, rfl, rfl, by decide +kernel, rfl, by decide +kernel, by decide +kernel⟩
def sp_own_lands (T : List Addr) : Sp := fun vs H Q _ => ∃ A L k p c, vs = [.ref p] ∧ Vc T H A L k p c ∧ (1 < (bares A L c).length → ∀ H', Gr H H' → Q .non H') ∧ (¬ 1 < (bares A L c).length → ∀ H' r, Gr H H' → H' r = some (.tup (vsI (tipsOf A L c))) → Q (.ref r) H')
theorem ok_own_lands {T : List Addr} {f : Addr} {fd : FuncData} (F : Fun K "own_lands" "own_lands" (topS 28) f fd) (c_need_map : Cal P w K mg base 6 "need_map" ["chart"] (sp_need_map T)) (c_freezes : Cal P w K mg base 4 "freezes" ["chart"] (sp_freezes T)) (c_tips : Cal P w K mg base 3 "tips" ["chart"] sp_tips) : FnOk P w K mg base CX0 7 f fd ["chart"] (sp_own_lands T) := by
  have nd := sc_own_lands.nd
  refine F.ok sc_own_lands (fun vs H Q E h => ?_) (fun cdv A outer s H vs Q E hr h => ?_)
  · obtain ⟨_, _, _, _, _, rfl, _⟩ := h; rfl
  · obtain ⟨m, L, k, p, c, rfl, hV, k1, k2⟩ := h
    refine ⟨_, (pss_cons (ps_expr (pcall c_need_map hr (by decide) (by rfl) (pa_cons (pv 0) pa_nil)))
      (pss_one (ps_ret (pe_ifExp (pt_val (pcall c_freezes hr (by decide) (by rfl) (pa_cons (pv 0) pa_nil))) pe_non (pcall c_tips hr (by decide) (by rfl) (pa_cons (pv 0) pa_nil)))))), ?_⟩
    refine ⟨_, rfl, m, L, k, p, c, rfl, hV, fun H1 g1 => ⟨_, rfl, m, L, k, p, c, rfl, hV.gr g1, fun H2 g2 => ⟨_, rfl, ite2 (fun e => ?_) (fun e => ?_)⟩⟩⟩
    · exact k1 (of_decide_eq_true e) H2 (g1.trans g2)
    · exact ⟨_, rfl, m, L, p, c, rfl, (hV.gr (g1.trans g2)).ch, fun H3 r g3 er => k2 (fun z => e (decide_eq_true z)) H3 r ((g1.trans g2).trans g3) er⟩
abbrev N_other_lands : List Str := ["chart", "own", "land"]
theorem sc_other_lands : FnScope N_other_lands ["chart"] (defScope (topS 29)) := ⟨rfl, rfl, rfl, by decide +kernel, rfl, by decide +kernel, by decide +kernel⟩
def otherOf (A L k : Nat) (c : List Nat) : List Nat := (List.range k).filter fun j => decide (j ∉ tipsOf A L c)
def sp_other_lands (T : List Addr) : Sp := fun vs H Q _ => ∃ A L k p c, vs = [.ref p] ∧ Vc T H A L k p c ∧ (1 < (bares A L c).length → ∀ H', Gr H H' → Q .non H') ∧ (¬ 1 < (bares A L c).length → ∀ H' r, Gr H H' → H' r = some (.tup (vsI (otherOf A L k c))) → Q (.ref r) H')
theorem ok_other_lands {T : List Addr} {f : Addr} {fd : FuncData} (F : Fun K "other_lands" "other_lands" (topS 29) f fd) (m_tuple : mg "tuple" = none) (m_range : mg "range" = none) (c_need_map : Cal P w K mg base 6 "need_map" ["chart"] (sp_need_map T)) (c_freezes : Cal P w K mg base 4 "freezes" ["chart"] (sp_freezes T)) (c_tips : Cal P w K mg base 3 "tips" ["chart"] sp_tips)
    (c_lands_of : Cal P w K mg base 1 "lands_of" ["chart"] (sp_lands_of T)) : FnOk P w K mg base CX0 7 f fd ["chart"] (sp_other_lands T) := by
  have nd := sc_other_lands.nd
  refine F.ok sc_other_lands (fun vs H Q E h => ?_) (fun cdv A outer s H vs Q E hr h => ?_)
  · obtain ⟨_, _, _, _, _, rfl, _⟩ := h; rfl
  · obtain ⟨m, L, k, p, c, rfl, hV, k1, k2⟩ := h
    have hk4 := Isl.k4 hV.ch.isl hV.kL
    refine ⟨_, (pss_cons (ps_expr (pcall c_need_map hr (by decide) (by rfl) (pa_cons (pv 0) pa_nil)))
      (pss_cons (ps_if (pt_val (pcall c_freezes hr (by decide) (by rfl) (pa_cons (pv 0) pa_nil))) (pss_one (ps_ret pe_non)) pss_nil)
      (pss_cons (ps_set (i := 1) nd rfl (Or.inr rfl) (pcall c_tips hr (by decide) (by rfl) (pa_cons (pv 0) pa_nil)))
      (pss_one (ps_ret (pe_callTy call_tuple_of (by rfl) m_tuple (by decide +kernel) (pa_cons (pe_lc (own := [("land", 2)]) rfl nd (pi_range1 (by rfl) m_range (pa_cons (pcall c_lands_of hr (by decide) (by rfl) (pa_cons (pv 0) pa_nil)) pa_nil)) (blkOk_by (own := [("land", 2)]) (N := N_other_lands) (sc := defScope (topS 29)) (by decide +kernel)) (fun _ _ _ _ _ => (pg_name (i := 2) nd rfl (Or.inl rfl))) (fun _ _ _ _ _ => pts_one (pt_cmpR (nNotInk K) (pv 2) (pv 1) (by rfl))) (fun _ _ _ _ _ => (pv 2))) pa_nil))))))), ?_⟩
    refine ⟨_, rfl, m, L, k, p, c, rfl, hV, fun H1 g1 => ⟨_, rfl, m, L, k, p, c, rfl, hV.gr g1, fun H2 g2 => ⟨_, rfl, ite2 (fun e => ?_) (fun e => ?_)⟩⟩⟩
    · exact k1 (of_decide_eq_true e) H2 (g1.trans g2)
    · have g3 := g1.trans g2
      have hV3 := hV.gr g3
      refine ⟨_, rfl, m, L, p, c, rfl, hV3.ch, fun H3 r g4 er => ?_⟩
      refine ⟨_, rfl, m, L, k, p, c, rfl, hV3.gr g4, k, rfl, by omega, by omega, fun D hD => ?_⟩
      refine lcN_rng (n := k) (fun j => decide (j ∉ tipsOf m L c)) (fun j => j) hD (by omega) (fun i H4 Y N hi g5 hY hN => ?_) (fun H4 g5 e5 => ?_)
      · refine ⟨rfl, _, rfl, _, rfl, i, r, tipsOf m L c, rfl, rfl, .inr (SqT.of (g5.tup er)), _, rfl, ite2 (fun e => ⟨_, rfl, hY e H4 (Gr.refl _)⟩) (fun e => hN (Bool.eq_false_iff.mpr e) H4 (Gr.refl _))⟩
      · rw [map_id_nat] at e5
        refine ⟨D, _, rfl, .inl ⟨SqL.of e5, fun l nl => k2 (fun z => e (decide_eq_true z)) _ l ((g3.trans g4).trans (g5.trans (Gr.new nl))) upd_same⟩⟩
theorem sc_ever_hub : FnScope ["chart"] ["chart"] (defScope (topS 30)) := ⟨rfl, rfl, rfl, by decide +kernel, rfl, by decide +kernel, by decide +kernel⟩
def sp_ever_hub (T : List Addr) : Sp := fun vs H Q _ => ∃ A L k p c, vs = [.ref p] ∧ Vc T H A L k p c ∧ ∀ H' r, Gr H H' → H' r = some (.tup (vsI (if 1 < (bares A L c).length then [c.getD 0 0] else List.range k))) → Q (.ref r) H'
theorem rgV_nat (n : Nat) : rgV 0 (n : Int) = vsI (List.range n) := by
  unfold rgV
  rw [show ((n : Int) - 0).toNat = n by omega]
  exact List.map_congr_left fun i _ => natV (by omega)
theorem ok_ever_hub {T : List Addr} {f : Addr} {fd : FuncData} (F : Fun K "ever_hub" "ever_hub" (topS 30) f fd) (m_tuple : mg "tuple" = none) (m_range : mg "range" = none) (c_need_map : Cal P w K mg base 6 "need_map" ["chart"] (sp_need_map T)) (c_freezes : Cal P w K mg base 4 "freezes" ["chart"] (sp_freezes T))
    (c_lands_of : Cal P w K mg base 1 "lands_of" ["chart"] (sp_lands_of T)) : FnOk P w K mg base CX0 7 f fd ["chart"] (sp_ever_hub T) := by
  have nd := sc_ever_hub.nd
  refine F.ok sc_ever_hub (fun vs H Q E h => ?_) (fun cdv A outer s H vs Q E hr h => ?_)
  · obtain ⟨_, _, _, _, _, rfl, _⟩ := h; rfl
  · obtain ⟨m, L, k, p, c, rfl, hV, kq⟩ := h
    have hk4 := Isl.k4 hV.ch.isl hV.kL
    refine ⟨_, (pss_cons (ps_expr (pcall c_need_map hr (by decide) (by rfl) (pa_cons (pv 0) pa_nil)))
      (pss_one (ps_ret (pe_ifExp (pt_val (pcall c_freezes hr (by decide) (by rfl) (pa_cons (pv 0) pa_nil))) (pe_tup (pa_cons (pe_ix nIxT (pe_ix chIx1 (pv 0) pe_int (fun _ _ => rfl)) pe_int (fun _ _ => rfl)) pa_nil)) (pe_tupRg rfl (by rfl) m_tuple (prg_1 (by rfl) m_range (pcall c_lands_of hr (by decide) (by rfl) (pa_cons (pv 0) pa_nil)))))))), ?_⟩
    refine ⟨_, rfl, m, L, k, p, c, rfl, hV, fun H1 g1 => ⟨_, rfl, m, L, k, p, c, rfl, hV.gr g1, fun H2 g2 => ⟨_, rfl, ite2 (fun e => ?_) (fun e => ?_)⟩⟩⟩
    · have g3 := g1.trans g2
      have hV3 := hV.gr g3
      refine ⟨_, rfl, m, p, c, rfl, rfl, hV3.ch.at_, fun q h1 h2 => ⟨q, c, 0, rfl, rfl, SqT.of h2, by rw [hV.v.len]; omega, one_le, fun r nr => ?_⟩⟩
      refine kq _ r (g3.trans (Gr.new nr)) ?_
      rw [upd_same, if_pos (of_decide_eq_true e)]
      rfl
    · have g3 := g1.trans g2
      refine ⟨_, rfl, m, L, k, p, c, rfl, hV.gr g3, k, rfl, RgOk.of_le (by omega) (by omega) (by omega) (by omega), fun r nr => ?_⟩
      refine kq _ r (g3.trans (Gr.new nr)) ?_
      rw [upd_same, if_neg (fun z => e (decide_eq_true z)), rgV_nat]
abbrev N_lands_on : List Str := ["chart", "arm", "land"]
theorem sc_lands_on : FnScope N_lands_on ["chart"] (defScope (topS 25)) := ⟨rfl, rfl, rfl, by decide +kernel, rfl, by decide +kernel, by decide +kernel⟩
def in_lands_on : Scope := relab (match defBody (topS 25) with
  | [_, .Return (some (.Call _ [.ListComp _ _ sc _] _ _)) _] => sc
  | _ => defScope (topS 25)) (defScope (topS 25))
def sp_lands_on (T : List Addr) : Sp := fun vs H Q _ => ∃ A L k p c, vs = [.ref p] ∧ Vc T H A L k p c ∧ ∀ H' r, Gr H H' → H' r = some (.tup (vsI ((List.range A).map (landsN A L c)))) → Q (.ref r) H'
theorem ok_lands_on {T : List Addr} {f : Addr} {fd : FuncData} (F : Fun K "lands_on" "lands_on" (topS 25) f fd) (m_tuple : mg "tuple" = none) (m_range : mg "range" = none) (m_len : mg "len" = none) (c_need_map : Cal P w K mg base 6 "need_map" ["chart"] (sp_need_map T)) (c_outward : Cal P w K mg base 2 "outward" ["chart", "arm"] sp_outward) : FnOk P w K mg base CX0 7 f fd ["chart"] (sp_lands_on T) := by
  have nd := sc_lands_on.nd
  refine F.ok sc_lands_on (fun vs H Q E h => ?_) (fun cdv A outer s H vs Q E hr h => ?_)
  · obtain ⟨_, _, _, _, _, rfl, _⟩ := h; rfl
  · obtain ⟨m, L, k, p, c, rfl, hV, kq⟩ := h
    obtain ⟨b1, b2, b3, b4⟩ := Isl.le4 hV.ch.isl
    refine ⟨_, (pss_cons (ps_expr (pcall c_need_map hr (by decide) (by rfl) (pa_cons (pv 0) pa_nil)))
      (pss_one (ps_ret (pe_callTy call_tuple_of (by rfl) m_tuple (by decide +kernel) (pa_cons (pe_lc (own := [("arm", 1)]) rfl nd (pi_range1 (by rfl) m_range (pa_cons (pe_ix chIx0 (pv 0) pe_int (fun _ _ => rfl)) pa_nil)) (blkOk_by (own := [("arm", 1)]) (N := N_lands_on) (sc := defScope (topS 25)) (by decide +kernel)) (fun _ _ _ _ _ => (pg_name (i := 1) nd rfl (Or.inl rfl))) (fun _ _ _ _ _ => pts_nil)
        (fun _ _ _ _ _ => (pe_callB call_lenD (by rfl) m_len (by decide +kernel) (pa_cons (pe_dc (own := [("land", 2)]) rfl nd (pi_listk K (pcall c_outward hr (by decide) (by rfl) (pa_cons (pv 0) (pa_cons (pv 1) pa_nil)))) (blkOk_by (own := [("land", 2)]) (N := N_lands_on) (sc := in_lands_on) (by decide +kernel)) (fun _ _ _ _ _ => (pg_name (i := 2) nd rfl (Or.inl rfl))) (fun _ _ _ _ _ => pts_one (pt_cmpR nNe (pv 2) (pe_ix (nIxTk K) (pe_ix chIx1 (pv 0) pe_int (fun _ _ => rfl)) pe_int (fun _ _ => rfl)) (nomark _))) (fun _ _ _ _ _ => (pv 2)) (fun _ _ _ _ _ => pe_bl)) pa_nil)))) pa_nil))))), ?_⟩
    refine ⟨_, rfl, m, L, k, p, c, rfl, hV, fun H1 g1 => ?_⟩
    have hV1 := hV.gr g1
    refine ⟨_, rfl, m, p, c, rfl, rfl, hV1.ch.at_, m, rfl, by omega, by omega, fun D hD => ?_⟩
    refine lcN_rng (n := m) (fun _ => true) (landsN m L c) hD (by omega) (fun i H2 Y N hi g2 hY hN => ?_) (fun H2 g2 e2 => ?_)
    · have hV2 := hV1.gr g2
      refine ⟨rfl, _, rfl, _, rfl, m, L, p, c, i, rfl, hV2.ch, hi, fun H3 r g3 nr er => ?_⟩
      have hV3 := hV2.gr g3
      refine ⟨r, rfl, ⟨_, SqL.of er⟩, fun D2 hD2 => ?_⟩
      refine TX.dc_list (K := K) (a := r) (xs := vsI (armC L c i)) (fun j H4 => Gr H3 H4 ∧ H4 D2 = some (.dK ((dst (((armC L c i).take j).filter fun x => decide (x ≠ c.getD 0 0))).map dE))) ⟨Gr.new hD2, upd_same⟩ (fun j H4 _ z => SqL.of (z.1.lst er)) (fun j x H4 hx z => ?_) (fun H4 z => ?_)
      · obtain ⟨hj, rfl⟩ := at_vsI hx
        obtain ⟨g4, e4⟩ := z
        have hV4 := hV3.gr g4
        refine ⟨rfl, _, rfl, _, rfl, m, p, c, rfl, rfl, hV4.ch.at_, fun q h1 h2 => ⟨q, c, 0, rfl, rfl, SqT.of h2, by rw [hV.v.len]; omega, _, _, rfl, rfl, _, rfl, ite2 (fun e => ?_) (fun e => ?_)⟩⟩
        · refine ⟨_, rfl, _, Sum.inl _, rfl, e4, ?_, g4.set hD2, ?_⟩
          · rw [List.length_map]
            have h1 := dst_le (((armC L c i).take j).filter fun x => decide (x ≠ c.getD 0 0))
            have h2 := List.length_filter_le (fun x => decide (x ≠ c.getD 0 0)) ((armC L c i).take j)
            rw [List.length_take, armC_len] at h2
            exact small1000 (by omega)
          · rw [upd_same, put_dE, ← dst_snoc, take_snoc hj, List.filter_append]
            rw [show List.filter (fun x => decide (x ≠ c.getD 0 0)) [(armC L c i).getD j 0] = [(armC L c i).getD j 0] from List.filter_cons_of_pos e]
        · refine ⟨g4, ?_⟩
          rw [e4, take_snoc hj, List.filter_append]
          rw [show List.filter (fun x => decide (x ≠ c.getD 0 0)) [(armC L c i).getD j 0] = [] from List.filter_cons_of_neg e, List.append_nil]
      · obtain ⟨g4, e4⟩ := z
        rw [len_vsI, List.take_length] at e4
        refine ⟨D2, _, rfl, e4, ?_⟩
        rw [List.length_map]
        exact hY rfl H4 (g3.trans g4)
    · rw [List.filter_eq_self.mpr fun _ _ => rfl] at e2
      refine ⟨D, _, rfl, .inl ⟨SqL.of e2, fun l nl => kq _ l ((g1.trans g2).trans (Gr.new nl)) upd_same⟩⟩
end
end Sl
set_option Elab.async false
set_option linter.all false
set_option maxRecDepth 100000
namespace Sl
open PySem PySem.Spec PyProof.Rows L2 Star DX
/-! data: lists of naturals, lists of charts -/
def intsD (l : List Nat) : List PyData := l.map fun (n : Nat) => PyData.int (n : Int)
theorem dp_ints {K : PySem.W.Frag} {H : Hp} : ∀ l : List Nat, DpAll K H (vsI l) (intsD l)
  | [] => .nil
  | a :: l => .cons (.int _) (dp_ints l)
theorem lay_ints : ∀ l : List Nat, PyData.canLayAll0 (intsD l) = true
  | [] => rfl
  | a :: l => by
    show (true && PyData.canLayAll0 (intsD l)) = true
    rw [lay_ints l]
    rfl
theorem dep_ints : ∀ l : List Nat, PyData.depthAll (intsD l) = 0
  | [] => rfl
  | a :: l => by
    show max 0 (PyData.depthAll (intsD l)) = 0
    rw [dep_ints l]
    rfl
theorem shaped_list {ds : List PyData} (h1 : PyData.canLayAll0 ds = true) (h2 : PyData.depthAll ds ≤ 63) : SeqAt.shaped (.list ds) = true := by
  unfold SeqAt.shaped
  rw [Bool.and_eq_true, decide_eq_true_eq]
  refine ⟨h1, ?_⟩
  show PyData.depthAll ds + 1 ≤ 64
  omega
theorem shaped_ints (l : List Nat) : SeqAt.shaped (.list (intsD l)) = true := shaped_list (lay_ints l) (by rw [dep_ints]; omega)
def chD (A : Nat) (c : List Nat) : PyData := .tuple [.int (A : Int), .tuple (intsD c)]
theorem dp_ch {K : PySem.W.Frag} {H : Hp} {A : Nat} {p : Addr} {c : List Nat} (h : ChAt H A p c) : Dp K H (.ref p) (chD A c) := by
  obtain ⟨q, h1, h2⟩ := h
  exact .tup (SqT.of h1) (.cons (.int _) (.cons (.tup (SqT.of h2) (dp_ints c)) .nil))
abbrev Ck : Type := List Nat × Addr
def crefs (xs : List Ck) : List V := xs.map fun x => V.ref x.2
def CkL (H : Hp) (A : Nat) (xs : List Ck) : Prop := ∀ x ∈ xs, ChAt H A x.2 x.1
theorem Gr.ckl {H H' : Hp} {A : Nat} {xs : List Ck} (g : Gr H H') (h : CkL H A xs) : CkL H' A xs := fun x hx => g.ch (h x hx)
theorem crefs_snoc (xs : List Ck) (x : Ck) : crefs xs ++ [V.ref x.2] = crefs (xs ++ [x]) := by
  unfold crefs
  rw [List.map_append]
  rfl
theorem crefs_len (xs : List Ck) : (crefs xs).length = xs.length := List.length_map _
theorem crefs_at {xs : List Ck} {i : Nat} {x : V} (h : (crefs xs)[i]? = some x) : ∃ t, xs[i]? = some t ∧ t ∈ xs ∧ x = .ref t.2 := by
  unfold crefs at h
  rw [List.getElem?_map] at h
  cases e : xs[i]? with
  | none => rw [e] at h; cases h
  | some t =>
    rw [e] at h
    exact ⟨t, rfl, List.mem_of_getElem? e, (Option.some.inj h).symm⟩
def chsD (A : Nat) (xs : List Ck) : List PyData := xs.map fun x => chD A x.1
theorem dp_chs {K : PySem.W.Frag} {H : Hp} {A : Nat} : ∀ xs : List Ck, CkL H A xs → DpAll K H (crefs xs) (chsD A xs)
  | [], _ => .nil
  | x :: xs, h => .cons (dp_ch (h x List.mem_cons_self)) (dp_chs xs fun y hy => h y (List.mem_cons_of_mem _ hy))
theorem lay_chs {A : Nat} : ∀ xs : List Ck, PyData.canLayAll0 (chsD A xs) = true
  | [] => rfl
  | x :: xs => by
    show ((true && ((PyData.canLayAll0 (intsD x.1)) && true)) && PyData.canLayAll0 (chsD A xs)) = true
    rw [lay_chs xs, lay_ints]
    rfl
theorem dep_chs {A : Nat} : ∀ xs : List Ck, PyData.depthAll (chsD A xs) ≤ 2
  | [] => Nat.zero_le _
  | x :: xs => by
    show max (max 0 (max (PyData.depthAll (intsD x.1) + 1) 0) + 1) (PyData.depthAll (chsD A xs)) ≤ 2
    rw [dep_ints]
    exact Nat.max_le.mpr ⟨by decide, dep_chs xs⟩
section
variable {X : Cx}
theorem nNeNil (hu : X.A.units + 64 < cLine) : OpR X (compareOp .NotEq) (fun x y H Q => ∃ p q l, x = .ref p ∧ y = .ref q ∧ H p = some (.lst (vsI l)) ∧ H q = some (.lst []) ∧ Q (.bl (decide (l ≠ []))) H) := fun pins s σ H x y v u Q I rx ry ⟨p, q, l, e1, e2, h1, h2, k⟩ => by
  subst e1 e2
  refine op_neD hu pins s σ H _ _ v u Q I rx ry ⟨.list (intsD l), .list (intsD []), .lst (SqL.of h1) (dp_ints l), .lst (SqL.of h2) (dp_ints []), shaped_ints l, shaped_ints [], ?_⟩
  have e : (!PyData.eqv (.list (intsD l)) (.list (intsD []))) = decide (l ≠ []) := by
    cases l with
    | nil => rfl
    | cons a r => rfl
  rw [e]
  exact k
theorem cNeNil (hu : X.A.units + 64 < cLine) : OpR X (compareOp .NotEq) (fun x y H Q => ∃ p q A xs, x = .ref p ∧ y = .ref q ∧ H p = some (.lst (crefs xs)) ∧ CkL H A xs ∧ H q = some (.lst []) ∧ Q (.bl (decide (xs ≠ []))) H) := fun pins s σ H x y v u Q I rx ry ⟨p, q, A, xs, e1, e2, h1, h2, h3, k⟩ => by
  subst e1 e2
  refine op_neD hu pins s σ H _ _ v u Q I rx ry ⟨.list (chsD A xs), .list (intsD []), .lst (SqL.of h1) (dp_chs xs h2), .lst (SqL.of h3) (dp_ints []), shaped_list (lay_chs xs) (by have := dep_chs (A := A) xs; omega), shaped_ints [], ?_⟩
  have e : (!PyData.eqv (.list (chsD A xs)) (.list (intsD []))) = decide (xs ≠ []) := by
    cases xs with
    | nil => rfl
    | cons a r => rfl
  rw [e]
  exact k
/-- t + u of naturals -/
theorem nCat : OpR X (binaryOp .Add) (fun x y H Q => ∃ a b c d, x = .ref a ∧ y = .ref b ∧ H a = some (.tup (vsI c)) ∧ H b = some (.tup (vsI d)) ∧ c.length + d.length < 1000 ∧ ∀ H' p, Gr H H' → H' p = some (.tup (vsI (c ++ d))) → Q (.ref p) H') := fun pins s σ H x y v u Q I rx ry ⟨a, b, c, d, e1, e2, h1, h2, h3, k⟩ =>
  op_catA pins s σ H x y v u Q I rx ry ⟨a, b, vsI c, vsI d, e1, e2, SqT.of h1, SqT.of h2, by rw [len_vsI, len_vsI]; exact Nat.le_of_lt (small1000 (by omega)),
    fun z => k H b (Gr.refl H) (by rw [show c = [] from List.map_eq_nil_iff.mp z]; exact h2),
    fun _ z => k H a (Gr.refl H) (by rw [show d = [] from List.map_eq_nil_iff.mp z, List.append_nil]; exact h1),
    fun _ _ p np => k _ p (Gr.new np) (by rw [upd_same]; show some (HO.tup (c.map vI ++ d.map vI)) = _; rw [← List.map_append])⟩
/-- t[:x], t[x:] of naturals -/
def cutN (c : List Nat) : Option Int → Option Int → Option (List Nat)
  | none, some i => some (c.take i.toNat)
  | some i, none => some (c.drop i.toNat)
  | _, _ => none
theorem cutN_ok {c d : List Nat} {lo hi : Option Int} (h0 : ∀ i, lo = some i → 0 ≤ i) (h1 : ∀ i, hi = some i → 0 ≤ i) (h : cutN c lo hi = some d) : cutV (vsI c) lo hi = vsI d := by
  unfold cutV
  match lo, hi, h with
  | none, some i, h =>
    obtain ⟨n, rfl⟩ := Int.eq_ofNat_of_zero_le (h1 i rfl)
    cases h
    show ((vsI c).drop (HT.sIx (vsI c).length 0 none)).take (HT.sIx (vsI c).length (vsI c).length (some (n : Int)) - HT.sIx (vsI c).length 0 none) = _
    rw [HT.sIx_none, HT.sIx_nat, Nat.sub_zero, List.drop_zero]
    show (c.map vI).take _ = (c.take n).map vI
    rw [List.map_take, List.length_map]
    by_cases z : n ≤ c.length
    · rw [Nat.min_eq_left z]
    · rw [Nat.min_eq_right (by omega), List.take_of_length_le (by rw [List.length_map]; exact Nat.le_refl _), List.take_of_length_le (by rw [List.length_map]; omega)]
  | some i, none, h =>
    obtain ⟨n, rfl⟩ := Int.eq_ofNat_of_zero_le (h0 i rfl)
    cases h
    show ((vsI c).drop (HT.sIx (vsI c).length 0 (some (n : Int)))).take (HT.sIx (vsI c).length (vsI c).length none - HT.sIx (vsI c).length 0 (some (n : Int))) = _
    rw [HT.sIx_none, HT.sIx_nat]
    show ((c.map vI).drop _).take _ = (c.drop n).map vI
    rw [List.map_drop, List.length_map]
    by_cases z : n ≤ c.length
    · rw [Nat.min_eq_left z, List.take_of_length_le (by rw [List.length_drop, List.length_map]; exact Nat.le_refl _)]
    · rw [Nat.min_eq_right (by omega), Nat.sub_self, List.take_zero, List.drop_eq_nil_of_le (by rw [List.length_map]; omega)]
theorem nSlT : SlR X (fun x lo hi H Q => ∃ a c d, x = .ref a ∧ H a = some (.tup (vsI c)) ∧ (∀ i, lo = some i → 0 ≤ i) ∧ (∀ i, hi = some i → 0 ≤ i) ∧ cutN c lo hi = some d ∧ ∀ H' p, Gr H H' → H' p = some (.tup (vsI d)) → Q (.ref p) H') := fun pins s σ H x v vl vu lo hi sl Q I rx hs pl pu ⟨a, c, d, e1, h1, g1, g2, h2, k⟩ => by
  have e := cutN_ok g1 g2 h2
  refine sl_tupA pins s σ H x v vl vu lo hi sl Q I rx hs pl pu ⟨a, vsI c, e1, SqT.of h1, fun z => k H a (Gr.refl H) ?_, fun _ p np => k _ p (Gr.new np) (by rw [upd_same, e])⟩
  have e2 : cutV (vsI c) lo hi = vsI c := by
    unfold cutV
    rw [z.1, z.2, Nat.sub_zero, List.drop_zero, List.take_length]
  rw [← e, e2]
  exact h1
end
end Sl
set_option Elab.async false
set_option linter.all false
set_option maxRecDepth 100000
set_option maxHeartbeats 4000000
namespace Sl
open PySem PySem.Spec PyProof.Rows L2 Star DX
/-- a permutation of naturals, by ints -/
theorem perm_nat {l : List Nat} {ns : List Int} (h : ns.Perm (l.map fun (n : Nat) => (n : Int))) : ∃ m : List Nat, m.Perm l ∧ ns = m.map fun (n : Nat) => (n : Int) := by
  refine ⟨ns.map Int.toNat, ?_, ?_⟩
  · have := h.map Int.toNat
    rw [List.map_map] at this
    have e : l.map (Int.toNat ∘ fun (n : Nat) => (n : Int)) = l := by
      conv => rhs; rw [← List.map_id l]
      exact List.map_congr_left fun a _ => Int.toNat_natCast a
    rw [e] at this
    exact this
  · rw [List.map_map]
    conv => lhs; rw [← List.map_id ns]
    refine List.map_congr_left fun a ha => ?_
    obtain ⟨n, _, e⟩ := List.mem_map.mp (h.mem_iff.mp ha)
    show a = ((a.toNat : Nat) : Int)
    rw [← e]
    rfl
section
variable {P : Program} {w : World} {K : PySem.W.Frag} {mg : Str → Option Value} {base : Heap}
/-! ### _law_near -/
abbrev N__law_near : List Str := ["_law_arms", "_law_length", "_law_cell", "_law_found", "_law_arm", "_law_step", "_law_here", "_law_inner"]
theorem sc__law_near : FnScope N__law_near ["_law_arms", "_law_length", "_law_cell"] (defScope (topS 35)) := ⟨rfl, rfl, rfl, by decide +kernel, rfl, by decide +kernel, by decide +kernel⟩
def sp__law_near : Sp := fun vs H Q _ => ∃ A L x : Nat, vs = [vI A, vI L, vI x] ∧ Isl A L ∧ x < A * L + 1 ∧ ∀ H' p ns, Gr H H' → H p = none → ns.Perm (near A L x) → H' p = some (.lst (vsI ns)) → Q (.ref p) H'
theorem ok__law_near {f : Addr} {fd : FuncData} (F : Fun K "_law_near" "_law_near" (topS 35) f fd) (m_range : mg "range" = none) (m_sorted : mg "sorted" = none) : FnOk P w K mg base CX0 1 f fd ["_law_arms", "_law_length", "_law_cell"] sp__law_near := by
  have nd := sc__law_near.nd
  refine F.ok sc__law_near (fun vs H Q E h => ?_) (fun cdv A outer s H vs Q E hr h => ?_)
  · obtain ⟨_, _, _, rfl, _⟩ := h; rfl
  · obtain ⟨m, L, x, rfl, hI, hx, kq⟩ := h
    obtain ⟨b1, b2, b3, b4⟩ := Isl.le4 hI
    refine ⟨_, (pss_cons (ps_set (i := 3) nd rfl (Or.inl rfl) (pe_lst pa_nil))
      (pss_cons (ps_for PassesOwn.never rfl (pi_range1 (by rfl) m_range (pa_cons (pv 0) pa_nil)) (pg_name (i := 4) nd rfl (Or.inl rfl)) (pss_one (ps_for PassesOwn.never rfl (pi_range1 (by rfl) m_range (pa_cons (pv 1) pa_nil)) (pg_name (i := 5) nd rfl (Or.inl rfl)) (pss_cons (ps_set (i := 6) nd rfl (Or.inl rfl) (pe_op nAdd (pe_op nAdd pe_int (pe_op nMul (pv 4) (pv 1))) (pv 5)))
      (pss_cons (ps_set (i := 7) nd rfl (Or.inl rfl) (pe_ifExp (pt_cmpR nEq (pv 5) pe_int (nomark _)) pe_int (pe_op nSub (pv 6) pe_int)))
      (pss_cons (ps_if (pt_cmpR nEq (pv 2) (pv 7) (nomark _)) (pss_one (ps_expr (pe_bm PySem.F.plainAttrs_list PySem.F.slot_list_append PySem.F.type_list_append nApp (pv 3) (pa_cons (pv 6) pa_nil)))) pss_nil)
      (pss_one (ps_if (pt_cmpR nEq (pv 2) (pv 6) (nomark _)) (pss_one (ps_expr (pe_bm PySem.F.plainAttrs_list PySem.F.slot_list_append PySem.F.type_list_append nApp (pv 3) (pa_cons (pv 7) pa_nil)))) pss_nil))))))))
      (pss_one (ps_ret (pe_callB cr_sorted (by rfl) m_sorted (by decide +kernel) (pa_cons (pv 3) pa_nil)))))), ?_⟩
    refine ⟨Nat.zero_le _, fun o no => ?_⟩
    refine ⟨_, rfl, m, rfl, by omega, by omega, ?_⟩
    refine for_rangeN (n := m) (fun a σ H1 => ∃ y4 y5 y6 y7 f, σ = [some (vI m), some (vI L), some (vI x), some (.ref o), y4, y5, y6, y7] ∧ H1 = upd H o (.lst (vsI f)) ∧ f = (List.range a).foldl (lnArm L x) [] ∧ f.length ≤ 6 * a)
      ⟨none, none, none, none, [], rfl, rfl, rfl, Nat.zero_le _⟩ (fun a σ H1 ha z => ?_) (fun σ H1 z => ?_)
    · obtain ⟨y4, y5, y6, y7, f, rfl, rfl, ef, hf⟩ := z
      refine ⟨_, rfl, L, rfl, by omega, by omega, ?_⟩
      refine for_rangeN (n := L) (fun b σ H1 => ∃ y5 y6 y7 f1, σ = [some (vI m), some (vI L), some (vI x), some (.ref o), some (vI a), y5, y6, y7] ∧ H1 = upd H o (.lst (vsI f1)) ∧ f1 = (List.range b).foldl (lnStep L x a) f ∧ f1.length ≤ 6 * a + 2 * b)
        ⟨y5, y6, y7, f, rfl, rfl, rfl, by omega⟩ (fun b σ H1 hb z => ?_) (fun σ H1 z => ?_)
      · obtain ⟨y5, y6, y7, f1, rfl, rfl, ef1, hf1⟩ := z
        have est : (List.range (b + 1)).foldl (lnStep L x a) f = lnStep L x a f1 b := by
          rw [List.range_succ, List.foldl_append, ← ef1]
          rfl
        have hl2 := lnStep_len L x a b f1
        generalize hN : lnStep L x a f1 b = f2 at *
        unfold lnStep at hN
        simp only at hN
        refine ⟨_, rfl, _, rfl, a, L, rfl, rfl, by omega, 1, _, rfl, rfl, _, rfl, _, b, rfl, rfl, ?_⟩
        have fin : ∀ f', f' = f2 → ∃ y5 y6 y7 f1, [some (vI m), some (vI L), some (vI x), some (V.ref o), some (vI a), some (vI b), some (vI (1 + a * L + b)), some (vI (if b = 0 then 0 else 1 + a * L + b - 1))] = [some (vI m), some (vI L), some (vI x), some (.ref o), some (vI a), y5, y6, y7] ∧ upd H o (.lst (vsI f')) = upd H o (.lst (vsI f1)) ∧ f1 = (List.range (b + 1)).foldl (lnStep L x a) f ∧ f1.length ≤ 6 * a + 2 * (b + 1) := fun f' e =>
          ⟨_, _, _, f', rfl, rfl, by rw [est, e], by rw [e]; omega⟩
        have hinn : ∀ i, i = (if b = 0 then 0 else 1 + a * L + b - 1) → True := fun _ _ => trivial
        by_cases hb0 : b = 0
        · rw [if_pos hb0] at hN fin
          refine ⟨_, rfl, b, 0, rfl, rfl, _, rfl, iteP hb0 ?_⟩
          refine ⟨_, rfl, _, rfl, x, 0, rfl, rfl, _, rfl, ite2 (fun e => ?_) (fun e => ?_)⟩
          · have e1 := of_decide_eq_true e
            rw [if_pos e1] at hN
            refine ⟨_, rfl, .inl ⟨rfl, _, SqL.of upd_same⟩, _, rfl, o, f1, _, rfl, rfl, upd_same, by omega, ?_⟩
            rw [upd_upd]
            refine ⟨_, rfl, _, rfl, x, _, rfl, rfl, _, rfl, ite2 (fun e => ?_) (fun e => ?_)⟩
            · rw [if_pos (of_decide_eq_true e)] at hN
              refine ⟨_, rfl, .inl ⟨rfl, _, SqL.of upd_same⟩, _, rfl, o, _, 0, rfl, rfl, upd_same, by rw [List.length_append]; show f1.length + 1 < 1000; omega, ?_⟩
              rw [upd_upd]
              exact fin _ hN
            · rw [if_neg (fun z => e (decide_eq_true z))] at hN
              exact fin _ hN
          · rw [if_neg (fun z => e (decide_eq_true z))] at hN
            refine ⟨_, rfl, _, rfl, x, _, rfl, rfl, _, rfl, ite2 (fun e => ?_) (fun e => ?_)⟩
            · rw [if_pos (of_decide_eq_true e)] at hN
              refine ⟨_, rfl, .inl ⟨rfl, _, SqL.of upd_same⟩, _, rfl, o, _, 0, rfl, rfl, upd_same, by omega, ?_⟩
              rw [upd_upd]
              exact fin _ hN
            · rw [if_neg (fun z => e (decide_eq_true z))] at hN
              exact fin _ hN
        · rw [if_neg hb0] at hN fin
          refine ⟨_, rfl, b, 0, rfl, rfl, _, rfl, iteD hb0 ?_⟩
          refine ⟨_, rfl, _, 1, rfl, rfl, by omega, ?_⟩
          refine ⟨_, rfl, _, rfl, x, _, rfl, rfl, _, rfl, ite2 (fun e => ?_) (fun e => ?_)⟩
          · rw [if_pos (of_decide_eq_true e)] at hN
            refine ⟨_, rfl, .inl ⟨rfl, _, SqL.of upd_same⟩, _, rfl, o, f1, _, rfl, rfl, upd_same, by omega, ?_⟩
            rw [upd_upd]
            refine ⟨_, rfl, _, rfl, x, _, rfl, rfl, _, rfl, ite2 (fun e => ?_) (fun e => ?_)⟩
            · rw [if_pos (of_decide_eq_true e)] at hN
              refine ⟨_, rfl, .inl ⟨rfl, _, SqL.of upd_same⟩, _, rfl, o, _, _, rfl, rfl, upd_same, by rw [List.length_append]; show f1.length + 1 < 1000; omega, ?_⟩
              rw [upd_upd]
              exact fin _ hN
            · rw [if_neg (fun z => e (decide_eq_true z))] at hN
              exact fin _ hN
          · rw [if_neg (fun z => e (decide_eq_true z))] at hN
            refine ⟨_, rfl, _, rfl, x, _, rfl, rfl, _, rfl, ite2 (fun e => ?_) (fun e => ?_)⟩
            · rw [if_pos (of_decide_eq_true e)] at hN
              refine ⟨_, rfl, .inl ⟨rfl, _, SqL.of upd_same⟩, _, rfl, o, _, _, rfl, rfl, upd_same, by omega, ?_⟩
              rw [upd_upd]
              exact fin _ hN
            · rw [if_neg (fun z => e (decide_eq_true z))] at hN
              exact fin _ hN
      · obtain ⟨y5, y6, y7, f1, rfl, rfl, ef1, hf1⟩ := z
        refine ⟨_, y5, y6, y7, f1, rfl, rfl, ?_, by omega⟩
        rw [List.range_succ, List.foldl_append, ← ef]
        exact ef1
    · obtain ⟨y4, y5, y6, y7, f, rfl, rfl, ef, hf⟩ := z
      have ef2 : f = lnear m L x := ef
      refine ⟨_, rfl, o, f.map fun (n : Nat) => (n : Int), rfl, by rw [List.map_map]; exact SqL.of upd_same, by rw [List.length_map]; omega, fun ns' p pm _ np => ?_⟩
      obtain ⟨l, hl, rfl⟩ := perm_nat pm
      have g1 : Gr H (upd H o (.lst (vsI f))) := Gr.new no
      refine kq _ p l (g1.trans (Gr.new np)) (g1.non p np) (hl.trans ?_) (by rw [upd_same, List.map_map]; rfl)
      rw [ef2]
      exact lnear_perm hI x hx
/-! ### _law_hangs -/
abbrev N__law_hangs : List Str := ["_law_arms", "_law_length", "_law_some", "_law_seen", "_law_walk_here", "_law_more", "_law_cell", "_law_one"]
theorem sc__law_hangs : FnScope N__law_hangs ["_law_arms", "_law_length", "_law_some"] (defScope (topS 36)) := ⟨rfl, rfl, rfl, by decide +kernel, rfl, by decide +kernel, by decide +kernel⟩
def sp__law_hangs : Sp := fun vs H Q _ => ∃ A L s S, vs = [vI A, vI L, .ref s] ∧ Isl A L ∧ H s = some (.lst (vsI S)) ∧ S ≠ [] ∧ S.Nodup ∧ (∀ x ∈ S, x < A * L + 1) ∧ ∀ b H', (b = true ↔ Conn A L S) → Gr H H' → Q (.bl b) H'
theorem ok__law_hangs {f : Addr} {fd : FuncData} (F : Fun K "_law_hangs" "_law_hangs" (topS 36) f fd) (m_len : mg "len" = none) (c__law_near : Cal P w K mg base 1 "_law_near" ["_law_arms", "_law_length", "_law_cell"] sp__law_near) : FnOk P w K mg base CX0 2 f fd ["_law_arms", "_law_length", "_law_some"] sp__law_hangs := by
  have nd := sc__law_hangs.nd
  refine F.ok sc__law_hangs (fun vs H Q E h => ?_) (fun cdv A outer s H vs Q E hr h => ?_)
  · obtain ⟨_, _, _, _, rfl, _⟩ := h; rfl
  · obtain ⟨m, L, so, S, rfl, hI, hs, hne, hnd, hS, kq⟩ := h
    obtain ⟨h, rs, rfl⟩ : ∃ h rs, S = h :: rs := by
      cases S with
      | nil => exact absurd rfl hne
      | cons a r => exact ⟨a, r, rfl⟩
    generalize hS0 : h :: rs = S at *
    have hh : h ∈ S := by rw [← hS0]; exact List.mem_cons_self
    have hcut : cutV (vsI S) none (some 1) = vsI [h] := by
      rw [cutN_ok (c := S) (d := S.take 1) (lo := none) (hi := some 1) (fun i z => by cases z) (fun i z => by cases z; decide) rfl, ← hS0]
      rfl
    refine ⟨_, (pss_cons (ps_asg (pe_tup (pa_cons (pe_slice sl_list (pv 2) po_none (po_some pe_int)) (pa_cons (pe_slice sl_list (pv 2) po_none (po_some pe_int)) pa_nil))) (pg_tup rfl (pgs_cons (pg_name (i := 3) nd rfl (Or.inr rfl)) (pgs_cons (pg_name (i := 4) nd rfl (Or.inl rfl)) pgs_nil))))
      (pss_cons (ps_while PassesOwn.never (pt_cmpR (nNeNil hr.units) (pv 4) (pe_lst pa_nil) (nomark _)) (pss_cons (ps_set (i := 5) nd rfl (Or.inr rfl) (pe_lst pa_nil))
      (pss_cons (ps_for PassesOwn.never rfl (pi_list (pv 4)) (pg_name (i := 6) nd rfl (Or.inl rfl)) (pss_one (ps_set (i := 5) nd rfl (Or.inr rfl) (pe_op op_cat (pv 5) (pe_lc (own := [("_law_one", 7)]) rfl nd (pi_list (pcall c__law_near hr (by decide) (by rfl) (pa_cons (pv 0) (pa_cons (pv 1) (pa_cons (pv 6) pa_nil))))) (blkOk_by (own := [("_law_one", 7)]) (N := N__law_hangs) (sc := defScope (topS 36)) (by decide +kernel)) (fun _ _ _ _ _ => (pg_name (i := 7) nd rfl (Or.inl rfl))) (fun _ _ _ _ _ => pts_one (PW.pt (pw_and (pt_cmpR (nInk K) (pv 7) (pv 2) (by rfl)) (pw_and (pt_cmpR (nNotInk K) (pv 7) (pv 3) (by rfl)) (pw_and1 (pt_cmpR (nNotInk K) (pv 7) (pv 5) (by rfl))))))) (fun _ _ _ _ _ => (pv 7)))))))
      (pss_one (ps_asg (pe_tup (pa_cons (pe_op op_cat (pv 3) (pv 5)) (pa_cons (pv 5) pa_nil))) (pg_tup rfl (pgs_cons (pg_name (i := 3) nd rfl (Or.inr rfl)) (pgs_cons (pg_name (i := 4) nd rfl (Or.inl rfl)) pgs_nil))))))))
      (pss_one (ps_ret (pe_and (pe_cmpR (nNeNil hr.units) (pv 2) (pe_lst pa_nil) (nomark _)) (pe_one (pe_cmpR nEq (pe_callB nLen (by rfl) m_len (by decide +kernel) (pa_cons (pv 3) pa_nil)) (pe_callB nLen (by rfl) m_len (by decide +kernel) (pa_cons (pv 2) pa_nil)) (nomark _)))))))), ?_⟩
    refine ⟨_, rfl, 1, rfl, so, vsI S, rfl, SqL.of hs, fun a na => ?_⟩
    rw [hcut]
    have g1 : Gr H (upd H a (.lst (vsI [h]))) := Gr.new na
    refine ⟨_, rfl, 1, rfl, so, vsI S, rfl, SqL.of (g1.lst hs), fun b nb => ?_⟩
    rw [hcut]
    have g2 : Gr (upd H a (.lst (vsI [h]))) (upd (upd H a (.lst (vsI [h]))) b (.lst (vsI [h]))) := Gr.new nb
    refine ⟨two_le, fun t nt => ?_⟩
    have g3 := (g1.trans g2).trans (Gr.new (x := .tup [.ref a, .ref b]) nt)
    refine ⟨t, _, rfl, SqT.of upd_same, rfl, _, _, rfl, _, [], rfl, rfl, ?_⟩
    refine ⟨fun n σ H1 => ∃ a b seen rows y5 y6, σ = [some (vI m), some (vI L), some (.ref so), some (.ref a), some (.ref b), y5, y6, none] ∧ Gr H H1 ∧ H1 a = some (.lst (vsI seen)) ∧ H1 b = some (.lst (vsI rows)) ∧ BInv (inS m L S) h seen rows ∧ n = meas 13 seen rows,
      ⟨_, a, b, [h], [h], none, none, rfl, g3, (g2.trans (Gr.new nt)).lst upd_same, (Gr.new nt).lst upd_same, BInv.start _ h, rfl⟩, fun n σ H1 hW => ?_⟩
    obtain ⟨a, b, seen, rows, y5, y6, rfl, g, ea, eb, bi, rfl⟩ := hW
    have sch : Sch S seen [] := ⟨by rw [List.append_nil]; exact bi.nd, fun x hx => reach_in hI hS (bi.reach x (by rw [List.append_nil] at hx; exact hx)) hh⟩
    have hl13 : seen.length ≤ 13 := by have := sch.len hI hS; rw [List.append_nil] at this; exact this
    refine ⟨_, rfl, Nat.zero_le _, fun q nq => ?_⟩
    have gq : Gr H1 (upd H1 q (.lst [])) := Gr.new nq
    refine ⟨b, q, rows, rfl, rfl, gq.lst eb, upd_same, _, rfl, ite2 (fun e => ?_) (fun e => ?_)⟩
    · have hrows : rows ≠ [] := of_decide_eq_true e
      refine ⟨fun σ H2 => ∃ a b seen' rows' y5 y6, σ = [some (vI m), some (vI L), some (.ref so), some (.ref a), some (.ref b), y5, y6, none] ∧ Gr H H2 ∧ H2 a = some (.lst (vsI seen')) ∧ H2 b = some (.lst (vsI rows')) ∧ BInv (inS m L S) h seen' rows' ∧ meas 13 seen' rows' < meas 13 seen rows,
        fun σ' H' ⟨a', b', s', r2, z5, z6, z⟩ => ⟨_, z.2.2.2.2.2, a', b', s', r2, z5, z6, z.1, z.2.1, z.2.2.1, z.2.2.2.1, z.2.2.2.2.1, rfl⟩, ?_⟩
      refine ⟨Nat.zero_le _, fun o2 ho2 => ?_⟩
      have g4 := gq.trans (Gr.new (x := .lst []) ho2)
      refine ⟨_, rfl, b, rfl, ⟨_, SqL.of (g4.lst eb)⟩, ?_⟩
      refine for_list (K := K) (a := b) (xs := vsI rows) (fun i σ H2 => ∃ o y6 mm, σ = [some (vI m), some (vI L), some (.ref so), some (.ref a), some (.ref b), some (.ref o), y6, none] ∧ Gr H1 H2 ∧ H2 o = some (.lst (vsI mm)) ∧ Lay (inS m L S) seen (rows.take i) mm ∧ ∀ z ∈ mm, z ∈ S)
        ⟨o2, y6, [], rfl, g4, upd_same, Lay.start bi.nd, fun z hz => nomatch hz⟩ (fun i σ H2 _ z => ?_) (fun i x σ H2 hx z => ?_) (fun σ H2 z => ?_)
      · obtain ⟨_, _, _, _, g5, _⟩ := z
        exact SqL.of (g5.lst eb)
      · obtain ⟨o, z6, mm, rfl, g5, eo, lay, hmS⟩ := z
        obtain ⟨hi, rfl⟩ := at_vsI hx
        have hxs : rows.getD i 0 ∈ S := reach_in hI hS (bi.reach _ (bi.sub _ (getD_mem hi))) hh
        have etk := take_snoc hi
        generalize hX : rows.getD i 0 = X at *
        refine ⟨_, rfl, _, rfl, _, rfl, _, rfl, m, L, X, rfl, hI, hS _ hxs, fun H3 p ns g6 np pm ep => ?_⟩
        have g7 := g5.trans g6
        have hns : ns.length ≤ 13 := by
          rw [pm.length_eq]
          have := nodup_len _ (List.range (m * L + 1)) (near_nodup hI X (hS _ hxs)) fun y hy => List.mem_range.mpr (near_lt hI X (hS _ hxs) y hy)
          rw [List.length_range] at this
          exact Nat.le_trans this (near_small hI)
        refine ⟨p, rfl, ⟨_, SqL.of ep⟩, fun D hD => ?_⟩
        refine lcN_list (c := ns) (fun y => decide (y ∈ S) && (decide (y ∉ seen) && decide (y ∉ mm))) (fun y => y) hD ep (by omega) (fun j H4 Y N hj g8 hY hN => ?_) (fun H4 g8 e8 => ?_)
        · have g9 := g7.trans g8
          generalize ns.getD j 0 = y at *
          refine ⟨rfl, _, rfl, _, rfl, y, so, S, rfl, rfl, .inl (SqL.of ((g.trans g9).lst hs)), _, rfl, ite2 (fun e1 => ?_) (fun e1 => ?_)⟩
          · refine ⟨_, rfl, _, rfl, y, a, seen, rfl, rfl, .inl (SqL.of (g9.lst ea)), _, rfl, ite2 (fun e2 => ?_) (fun e2 => ?_)⟩
            · refine ⟨_, rfl, _, rfl, y, o, mm, rfl, rfl, .inl (SqL.of ((g6.trans g8).lst eo)), _, rfl, ite2 (fun e3 => ?_) (fun e3 => ?_)⟩
              · exact ⟨_, rfl, hY (by rw [e1, e2, e3]; rfl) H4 (Gr.refl _)⟩
              · exact hN (by rw [e1, e2, Bool.eq_false_iff.mpr e3]; rfl) H4 (Gr.refl _)
            · exact iteF (hN (by rw [e1, Bool.eq_false_iff.mpr e2]; rfl) H4 (Gr.refl _))
          · exact iteF (hN (by rw [Bool.eq_false_iff.mpr e1]; rfl) H4 (Gr.refl _))
        · rw [map_id_nat] at e8
          generalize hnew : (ns.filter fun y => decide (y ∈ S) && (decide (y ∉ seen) && decide (y ∉ mm))) = new at *
          have hmem : ∀ y, y ∈ new ↔ (y ∈ near m L X ∧ y ∈ S) ∧ (y ∉ seen ∧ y ∉ mm) := fun y => by
            rw [← hnew, List.mem_filter, pm.mem_iff]
            simp only [Bool.and_eq_true, decide_eq_true_eq]
            exact and_assoc.symm
          have lay2 : Lay (inS m L S) seen (rows.take i ++ [X]) (mm ++ new) := by
            refine lay.add ?_ (fun z hz => ((hmem z).mp hz).2) (fun y hy => ?_) (fun z hz => mem_inS.mpr ((hmem z).mp hz).1)
            · rw [← hnew]
              exact List.Nodup.sublist List.filter_sublist (pm.nodup_iff.mpr (near_nodup hI X (hS _ hxs)))
            · by_cases c1 : y ∈ seen
              · exact .inl c1
              · by_cases c2 : y ∈ mm
                · exact .inr (.inl c2)
                · exact .inr (.inr ((hmem y).mpr ⟨mem_inS.mp hy, c1, c2⟩))
          have hmS2 : ∀ z ∈ mm ++ new, z ∈ S := fun z hz => (List.mem_append.mp hz).elim (hmS z) fun q => ((hmem z).mp q).1.2
          have sch2 : Sch S seen (mm ++ new) := ⟨lay2.nd, fun z hz => (List.mem_append.mp hz).elim (fun q => sch.sub z (by rw [List.append_nil]; exact q)) (hmS2 z)⟩
          have hl := sch2.len hI hS
          rw [List.length_append, List.length_append] at hl
          refine ⟨o, D, vsI mm, vsI new, rfl, rfl, (g6.trans g8).lst eo, e8, by rw [len_vsI, len_vsI]; exact Nat.le_of_lt (small1000 (by omega)), fun o3 no3 => ?_⟩
          refine ⟨o3, _, mm ++ new, rfl, (g7.trans g8).trans (Gr.new no3), ?_, by rw [etk]; exact lay2, hmS2⟩
          rw [upd_same]
          show some (HO.lst (mm.map vI ++ new.map vI)) = _
          rw [← List.map_append]
      · obtain ⟨o, z6, mm, rfl, g5, eo, lay, hmS⟩ := z
        rw [len_vsI, List.take_length] at lay
        have sch2 : Sch S seen mm := ⟨lay.nd, fun z hz => (List.mem_append.mp hz).elim (fun q => sch.sub z (by rw [List.append_nil]; exact q)) (hmS z)⟩
        have hl := sch2.len hI hS
        have hl2 := hl
        rw [List.length_append] at hl2
        refine ⟨_, rfl, _, rfl, a, o, vsI seen, vsI mm, rfl, rfl, g5.lst ea, eo, by rw [len_vsI, len_vsI]; exact Nat.le_of_lt (small1000 (by omega)), fun p np => ?_⟩
        refine ⟨_, rfl, two_le, fun t nt => ?_⟩
        have g6 : Gr H2 (upd H2 p (.lst (vsI seen ++ vsI mm))) := Gr.new np
        have g7 : Gr _ (upd (upd H2 p (.lst (vsI seen ++ vsI mm))) t (.tup [.ref p, .ref o])) := Gr.new nt
        refine ⟨t, _, rfl, SqT.of upd_same, rfl, _, _, rfl, _, [], rfl, rfl, ?_⟩
        refine ⟨p, o, seen ++ mm, mm, _, z6, rfl, ((g.trans g5).trans g6).trans g7, ?_, (g6.trans g7).lst eo, bi.turnL lay, meas_turnL hrows hl⟩
        rw [g7.lst upd_same]
        show some (HO.lst (seen.map vI ++ mm.map vI)) = _
        rw [← List.map_append]
    · have hrows : rows = [] := Classical.byContradiction fun z => e (decide_eq_true z)
      subst hrows
      have g2 := g.trans gq
      refine ⟨_, rfl, Nat.zero_le _, fun q2 nq2 => ?_⟩
      have g3 := gq.trans (Gr.new (x := .lst []) nq2)
      refine ⟨so, q2, S, rfl, rfl, (g.trans g3).lst hs, upd_same, _, rfl, iteP hne ?_⟩
      refine ⟨_, rfl, a, seen, rfl, .inl (SqL.of (g3.lst ea)), _, rfl, so, S, rfl, .inl (SqL.of ((g.trans g3).lst hs)), _, _, rfl, rfl, ?_⟩
      refine kq _ _ ?_ (g.trans g3)
      rw [decide_eq_true_eq]
      exact hang_end hI hS hh hnd bi
end
end Sl
set_option Elab.async false
set_option linter.all false
set_option maxRecDepth 100000
set_option maxHeartbeats 4000000
namespace Sl
open PySem PySem.Spec PyProof.Rows L2 Star DX
/-! ### a store elsewhere -/
theorem tup_upd {H : Hp} {p d : Addr} {xs : List V} {x y : HO} (h : H p = some (.tup xs)) (hd : H d = some x) (hx : ∀ ys, x ≠ .tup ys) : (upd H d y) p = some (.tup xs) := by
  rw [upd_ne]
  · exact h
  · intro e
    rw [e, hd] at h
    exact hx xs (Option.some.inj h)
theorem ch_upd {H : Hp} {A : Nat} {p d : Addr} {c : List Nat} {x y : HO} (h : ChAt H A p c) (hd : H d = some x) (hx : ∀ ys, x ≠ .tup ys) : ChAt (upd H d y) A p c := by
  obtain ⟨q, h1, h2⟩ := h
  exact ⟨q, tup_upd h1 hd hx, tup_upd h2 hd hx⟩
theorem tkl_upd {H : Hp} {d : Addr} {xs : List Tk} {x y : HO} (h : TkL H xs) (hd : H d = some x) (hx : ∀ ys, x ≠ .tup ys) : TkL (upd H d y) xs := fun t ht => tup_upd (h t ht) hd hx
theorem ckl_upd {H : Hp} {A : Nat} {d : Addr} {xs : List Ck} {x y : HO} (h : CkL H A xs) (hd : H d = some x) (hx : ∀ ys, x ≠ .tup ys) : CkL (upd H d y) A xs := fun t ht => ch_upd (h t ht) hd hx
theorem keys_upd {H : Hp} {A : Nat} {d : Addr} {kvs : List Ent} {x y : HO} (h : KeysAt H A kvs) (hd : H d = some x) (hx : ∀ ys, x ≠ .tup ys) : KeysAt (upd H d y) A kvs := fun t ht => ch_upd (h t ht) hd hx
theorem Gr.keys {H H' : Hp} {A : Nat} {kvs : List Ent} (g : Gr H H') (h : KeysAt H A kvs) : KeysAt H' A kvs := fun t ht => g.ch (h t ht)
theorem Gr.ext {H H' : Hp} {d : Addr} {phi : Heap → Prop} (g : Gr H H') (h : H d = some (.ext phi)) : H' d = some (.ext phi) := g.keep d _ h fun _ z => nomatch z
section
variable {P : Program} {w : World} {K : PySem.W.Frag} {mg : Str → Option Value} {base : Heap}
/-! ### _law_takings -/
abbrev N__law_takings : List Str := ["_law_chart", "_law_arms", "_law_cells", "_law_length", "_law_found", "_law_land", "_law_cell", "_law_other", "_law_rest", "_law_one"]
theorem sc__law_takings : FnScope N__law_takings ["_law_chart"] (defScope (topS 38)) := ⟨rfl, rfl, rfl, by decide +kernel, rfl, by decide +kernel, by decide +kernel⟩
def sp__law_takings : Sp := fun vs H Q _ => ∃ A L k p c, vs = [.ref p] ∧ Ch H A L p c ∧ Valid A L k c ∧ 2 ≤ k ∧ k ≤ L + 1 ∧ ∀ H' r xs, Gr H H' → H r = none → H' r = some (.lst (refs xs)) → TkL H' xs → xs.map (·.1) = takes A L k c → Q (.ref r) H'
theorem rest_filter (c : List Nat) (x : Nat) : ((List.range c.length).filter fun y => decide (c.getD y 0 = c.getD x 0) && decide (y ≠ x)) = Star.rest c x := by
  unfold Star.rest cellsOf
  rw [List.filter_filter]
  exact List.filter_congr fun y _ => Bool.and_comm _ _
theorem ok__law_takings {f : Addr} {fd : FuncData} (F : Fun K "_law_takings" "_law_takings" (topS 38) f fd) (m_range : mg "range" = none) (m_len : mg "len" = none) (m_max : mg "max" = none) (c__law_near : Cal P w K mg base 1 "_law_near" ["_law_arms", "_law_length", "_law_cell"] sp__law_near)
    (c__law_hangs : Cal P w K mg base 2 "_law_hangs" ["_law_arms", "_law_length", "_law_some"] sp__law_hangs) : FnOk P w K mg base CX0 3 f fd ["_law_chart"] sp__law_takings := by
  have nd := sc__law_takings.nd
  refine F.ok sc__law_takings (fun vs H Q E h => ?_) (fun cdv A outer s H vs Q E hr h => ?_)
  · obtain ⟨_, _, _, _, _, rfl, _⟩ := h; rfl
  · obtain ⟨m, L, k, p, c, rfl, hC, hV, hk2, hkL, kq⟩ := h
    have hI := hC.isl
    obtain ⟨b1, b2, b3, b4⟩ := Isl.le4 hI
    have hk4 := Isl.k4 hI hkL
    have hl := hV.len
    have h13 : c.length ≤ 13 := by rw [hl]; exact near_small hI
    obtain ⟨q, h1, h2⟩ := hC.at_
    refine ⟨_, (pss_cons (ps_asg (pv 0) (pg_tup rfl (pgs_cons (pg_name (i := 1) nd rfl (Or.inl rfl)) (pgs_cons (pg_name (i := 2) nd rfl (Or.inr rfl)) pgs_nil))))
      (pss_cons (ps_par (i := 3) (j := 4) rfl nd rfl rfl (by decide) rfl rfl (pa_cons (pe_op nDiv (pe_op nSub (pe_callB nLen (by rfl) m_len (by decide +kernel) (pa_cons (pv 2) pa_nil)) pe_int) (pv 1)) (pa_cons (pe_lst pa_nil) pa_nil)) (by rfl))
      (pss_cons (ps_for PassesOwn.never rfl (pi_range1 (by rfl) m_range (pa_cons (pe_op nAdd (pe_callB (nMaxT rfl) (by rfl) m_max (by decide +kernel) (pa_cons (pv 2) pa_nil)) pe_int) pa_nil)) (pg_name (i := 5) nd rfl (Or.inr rfl)) (pss_one (ps_for PassesOwn.never rfl (pi_range1 (by rfl) m_range (pa_cons (pe_callB nLen (by rfl) m_len (by decide +kernel) (pa_cons (pv 2) pa_nil)) pa_nil)) (pg_name (i := 6) nd rfl (Or.inr rfl)) (pss_cons (ps_set (i := 7) nd rfl (Or.inr rfl) (pe_ix nIxT (pv 2) (pv 6) (fun _ _ => rfl)))
      (pss_one (ps_if (PW.pt (pw_and (pt_cmpR nNe (pv 7) (pv 5) (nomark _)) (pw_and1 (pt_cmpR (nNeNil hr.units) (pe_lc (own := [("_law_one", 9)]) rfl nd (pi_list (pcall c__law_near hr (by decide) (by rfl) (pa_cons (pv 1) (pa_cons (pv 3) (pa_cons (pv 6) pa_nil))))) (blkOk_by (own := [("_law_one", 9)]) (N := N__law_takings) (sc := defScope (topS 38)) (by decide +kernel)) (fun _ _ _ _ _ => (pg_name (i := 9) nd rfl (Or.inl rfl))) (fun _ _ _ _ _ => pts_one (pt_cmpR nEq (pe_ix (nIxTk K) (pv 2) (pv 9) (fun _ _ => rfl)) (pv 5) (nomark _))) (fun _ _ _ _ _ => (pv 9))) (pe_lst pa_nil) (nomark _))))) (pss_cons (ps_setLc (i := 8) (own := [("_law_one", 9)]) rfl nd rfl rfl (sw_true rfl rfl rfl (by decide +kernel)) (pi_range1 (by rfl) m_range (pa_cons (pe_callB nLen (by rfl) m_len (by decide +kernel) (pa_cons (pv 2) pa_nil)) pa_nil)) (blkOk_by (own := [("_law_one", 9)]) (N := N__law_takings) (sc := defScope (topS 38)) (by decide +kernel)) (fun _ _ _ _ _ => (pg_name (i := 9) nd rfl (Or.inl rfl))) (fun _ _ _ _ _ => pts_one (PW.pt (pw_and (pt_cmpR nEq (pe_ix (nIxTk K) (pv 2) (pv 9) (fun _ _ => rfl)) (pv 7) (nomark _)) (pw_and1 (pt_cmpR nNe (pv 9) (pv 6) (nomark _)))))) (fun _ _ _ _ _ => (pv 9)))
      (pss_one (ps_if (PW.pt (pw_and (pt_cmpR (nNeNil hr.units) (pv 8) (pe_lst pa_nil) (nomark _)) (pw_and1 (pt_val (pcall c__law_hangs hr (by decide) (by rfl) (pa_cons (pv 1) (pa_cons (pv 3) (pa_cons (pv 8) pa_nil)))))))) (pss_one (ps_expr (pe_bm PySem.F.plainAttrs_list PySem.F.slot_list_append PySem.F.type_list_append mt_append (pv 4) (pa_cons (pe_tup (pa_cons (pv 5) (pa_cons (pv 6) pa_nil))) pa_nil)))) pss_nil))) pss_nil))))))
      (pss_one (ps_ret (pv 4)))))), ?_⟩
    refine ⟨_, rfl, p, _, rfl, SqT.of h1, rfl, _, _, rfl, _, [], rfl, rfl, ?_⟩
    refine ⟨_, rfl, q, c, rfl, .inr (SqT.of h2), c.length, 1, rfl, rfl, by omega, _, rfl, _, m, rfl, rfl, by omega, by omega, Nat.zero_le _, fun o no => ⟨_, _, rfl, ?_⟩⟩
    rw [len_div hI hl]
    have g0 : Gr H (upd H o (.lst [])) := Gr.new no
    refine ⟨_, rfl, q, c, k - 1, rfl, SqT.of (g0.tup h2), fun x hx => by have := hV.lt x hx; omega, Valid.top hV (by omega), k - 1, 1, rfl, rfl, ?_⟩
    rw [show k - 1 + 1 = k by omega]
    refine ⟨k, rfl, by omega, by omega, ?_⟩
    refine for_rangeN (n := k) (fun i σ H1 => ∃ xs y5 y6 y7 y8, σ = [some (.ref p), some (vI m), some (.ref q), some (vI L), some (.ref o), y5, y6, y7, y8, none] ∧ Gr H H1 ∧ H1 o = some (.lst (refs xs)) ∧ TkL H1 xs ∧ xs.map (·.1) = tksTo m L c i)
      ⟨[], none, none, none, none, rfl, g0, upd_same, fun x hx => (nomatch hx), rfl⟩ (fun i σ H1 hi z => ?_) (fun σ H1 z => ?_)
    · obtain ⟨xs, y5, y6, y7, y8, rfl, g1, eo, tk, ex⟩ := z
      refine ⟨_, rfl, q, c, rfl, .inr (SqT.of (g1.tup h2)), c.length, rfl, by omega, by omega, ?_⟩
      refine for_rangeN (n := c.length) (fun j σ H2 => ∃ ys y6 y7 y8, σ = [some (.ref p), some (vI m), some (.ref q), some (vI L), some (.ref o), some (vI i), y6, y7, y8, none] ∧ Gr H H2 ∧ H2 o = some (.lst (refs ys)) ∧ TkL H2 ys ∧ ys.map (·.1) = tksTo m L c i ++ tkTo m L c i j)
        ⟨xs, y6, y7, y8, rfl, g1, eo, tk, by rw [ex]; show _ = _ ++ []; rw [List.append_nil]⟩ (fun j σ H2 hj z => ?_) (fun σ H2 z => ?_)
      · obtain ⟨ys, y6, y7, y8, rfl, g2, eo2, tk2, ey⟩ := z
        have hjl : j < m * L + 1 := by rw [← hl]; exact hj
        have hlen : ys.length ≤ 65 := by
          have e1 := congrArg List.length ey
          rw [List.length_map, List.length_append] at e1
          have e2 := tksTo_len m L c i
          have e3 := tkTo_len m L c i j
          have : i * c.length ≤ 4 * 13 := Nat.mul_le_mul (by omega) h13
          omega
        refine ⟨_, rfl, _, rfl, q, c, j, rfl, rfl, SqT.of (g2.tup h2), hj, ?_⟩
        -- the way on when nothing is taken
        have skip : ∀ (H3 : Hp) (z7 z8 : Option V), Gr H2 H3 → ¬ Take m L c i j → ∃ ys y6 y7 y8, [some (V.ref p), some (vI m), some (.ref q), some (vI L), some (.ref o), some (vI i), some (vI j), z7, z8, none] = [some (.ref p), some (vI m), some (.ref q), some (vI L), some (.ref o), some (vI i), y6, y7, y8, none] ∧ Gr H H3 ∧ H3 o = some (.lst (refs ys)) ∧ TkL H3 ys ∧ ys.map (·.1) = tksTo m L c i ++ tkTo m L c i (j + 1) := fun H3 z7 z8 g3 nt =>
          ⟨ys, _, _, _, rfl, g2.trans g3, g3.lst eo2, g3.tkl tk2, by rw [tkTo_no nt]; exact ey⟩
        refine ⟨_, rfl, _, rfl, c.getD j 0, i, rfl, rfl, _, rfl, ite2 (fun e1 => ?_) (fun e1 => ?_)⟩
        · have c1 := of_decide_eq_true e1
          refine ⟨_, rfl, _, rfl, _, rfl, m, L, j, rfl, hI, hjl, fun H3 r ns g3 nr pm er => ?_⟩
          have hns : ns.length ≤ 13 := by
            rw [pm.length_eq]
            have := nodup_len _ (List.range (m * L + 1)) (near_nodup hI j hjl) fun y hy => List.mem_range.mpr (near_lt hI j hjl y hy)
            rw [List.length_range] at this
            exact Nat.le_trans this (near_small hI)
          refine ⟨r, rfl, ⟨_, SqL.of er⟩, fun D hD => ?_⟩
          refine lcN_list (c := ns) (fun y => decide (c.getD y 0 = i)) (fun y => y) hD er (by omega) (fun u H4 Y N hu g4 hY hN => ?_) (fun H4 g4 e4 => ?_)
          · have hyl := near_lt hI j hjl _ (pm.mem_iff.mp (getD_mem hu))
            generalize ns.getD u 0 = y at *
            refine ⟨rfl, _, rfl, _, rfl, q, c, y, rfl, rfl, SqT.of ((g2.trans (g3.trans g4)).tup h2), by rw [hl]; exact hyl, _, rfl, _, i, rfl, rfl, _, rfl, ite2 (fun e => ⟨_, rfl, hY e H4 (Gr.refl _)⟩) (fun e => hN (Bool.eq_false_iff.mpr e) H4 (Gr.refl _))⟩
          · rw [map_id_nat] at e4
            refine ⟨Nat.zero_le _, fun t nt => ?_⟩
            have g5 := g4.trans (Gr.new (x := .lst []) nt)
            have hnb : (ns.filter fun y => decide (c.getD y 0 = i)) ≠ [] ↔ ∃ y ∈ near m L j, c.getD y 0 = i := by
              constructor
              · intro z
                obtain ⟨y, hy⟩ := List.exists_mem_of_ne_nil _ z
                obtain ⟨y1, y2⟩ := List.mem_filter.mp hy
                exact ⟨y, pm.mem_iff.mp y1, of_decide_eq_true y2⟩
              · intro ⟨y, y1, y2⟩ z
                have : y ∈ ns.filter (fun y => decide (c.getD y 0 = i)) := List.mem_filter.mpr ⟨pm.mem_iff.mpr y1, decide_eq_true y2⟩
                rw [z] at this
                nomatch this
            refine ⟨D, t, _, rfl, rfl, (Gr.new nt).lst e4, upd_same, _, rfl, ite2 (fun e2 => ?_) (fun e2 => ?_)⟩
            · have c2 := hnb.mp (of_decide_eq_true e2)
              have g6 := g3.trans g5
              refine ⟨_, rfl, q, c, rfl, .inr (SqT.of ((g2.trans g6).tup h2)), c.length, rfl, by omega, by omega, fun D2 hD2 => ?_⟩
              refine lcN_rng (n := c.length) (fun y => decide (c.getD y 0 = c.getD j 0) && decide (y ≠ j)) (fun y => y) hD2 (by omega) (fun y H5 Y N hy g7 hY hN => ?_) (fun H5 g7 e7 => ?_)
              · refine ⟨rfl, _, rfl, _, rfl, q, c, y, rfl, rfl, SqT.of ((g2.trans (g6.trans g7)).tup h2), hy, _, rfl, _, _, rfl, rfl, _, rfl, ite2 (fun e1 => ?_) (fun e1 => ?_)⟩
                · refine ⟨_, rfl, _, rfl, y, j, rfl, rfl, _, rfl, ite2 (fun e2 => ?_) (fun e2 => ?_)⟩
                  · exact ⟨_, rfl, hY (by rw [e1, e2]; rfl) H5 (Gr.refl _)⟩
                  · exact hN (by rw [e1, Bool.eq_false_iff.mpr e2]; rfl) H5 (Gr.refl _)
                · exact iteF (hN (by rw [Bool.eq_false_iff.mpr e1]; rfl) H5 (Gr.refl _))
              · rw [map_id_nat, rest_filter] at e7
                have g8 := g6.trans g7
                refine ⟨_, rfl, Nat.zero_le _, fun t2 nt2 => ?_⟩
                have g9 := g8.trans (Gr.new (x := .lst []) nt2)
                refine ⟨D2, t2, Star.rest c j, rfl, rfl, (Gr.new nt2).lst e7, upd_same, _, rfl, ite2 (fun e3 => ?_) (fun e3 => ?_)⟩
                · have c3 := of_decide_eq_true e3
                  refine ⟨_, rfl, _, rfl, _, rfl, m, L, D2, Star.rest c j, rfl, hI, (Gr.new nt2).lst e7, c3, rest_nodup c j, fun z hz => by rw [← hl]; exact (mem_rest.mp hz).1.1, fun b H6 hb g10 => ⟨b, rfl, ?_⟩⟩
                  have g11 := g9.trans g10
                  cases b with
                  | true =>
                    have tk3 : Take m L c i j := ⟨c1, c2, hb.mp rfl⟩
                    refine iteT ⟨_, rfl, .inl ⟨rfl, _, SqL.of (g11.lst eo2)⟩, _, rfl, _, rfl, two_le, fun t3 nt3 => ?_⟩
                    have g12 := g11.trans (Gr.new (x := .tup [vI i, vI j]) nt3)
                    have eo3 := g12.lst eo2
                    have not_ : o ≠ t3 := ne_of_none (g11.lst eo2) nt3
                    refine ⟨o, _, _, rfl, rfl, eo3, lenI hlen (by omega), ys ++ [((i, j), t3)], _, _, _, rfl, (g2.trans g12).set no, by rw [upd_same, ← refs_snoc], ?_, ?_⟩
                    · intro x hx
                      rcases List.mem_append.mp hx with hx | hx
                      · exact tup_upd (g12.tkl tk2 x hx) eo3 fun _ z => nomatch z
                      · rw [List.mem_singleton.mp hx]
                        exact tup_upd (p := t3) upd_same eo3 fun _ z => nomatch z
                    · rw [List.map_append, ey, tkTo_yes tk3, List.append_assoc]
                      rfl
                  | false => exact iteF (skip H6 _ _ g11 fun z => Bool.false_ne_true (hb.mpr z.2.2))
                · exact iteF (skip _ _ _ g9 fun z => e3 (decide_eq_true z.2.2.1))
            · exact skip _ _ _ (g3.trans g5) fun z => e2 (decide_eq_true (hnb.mpr z.2.1))
        · exact iteF (skip H2 _ _ (Gr.refl _) fun z => e1 (decide_eq_true z.1))
      · obtain ⟨ys, y6, y7, y8, rfl, g2, eo2, tk2, ey⟩ := z
        exact ⟨ys, _, y6, y7, y8, rfl, g2, eo2, tk2, by rw [tksTo_succ, ← tkTo_all]; exact ey⟩
    · obtain ⟨xs, y5, y6, y7, y8, rfl, g1, eo, tk, ex⟩ := z
      exact ⟨_, rfl, kq H1 o xs g1 no eo tk ex⟩
/-! ### _law_behind -/
abbrev N__law_behind : List Str := ["_law_chart", "_law_taking", "_law_land", "_law_cell"]
theorem sc__law_behind : FnScope N__law_behind ["_law_chart", "_law_taking"] (defScope (topS 39)) := ⟨rfl, rfl, rfl, by decide +kernel, rfl, by decide +kernel, by decide +kernel⟩
def sp__law_behind : Sp := fun vs H Q _ => ∃ A L p c t l x, vs = [.ref p, .ref t] ∧ Ch H A L p c ∧ TkAt H (l, x) t ∧ x < c.length ∧ ∀ H' r, Gr H H' → H r = none → ChAt H' A r (c.set x l) → Q (.ref r) H'
theorem noneOk : ∀ i : Int, (none : Option Int) = some i → 0 ≤ i := fun i z => nomatch z
theorem natOk (n : Nat) : ∀ i : Int, some (n : Int) = some i → 0 ≤ i := fun i z => by cases z; omega
theorem set_cut {c : List Nat} {x l : Nat} (h : x < c.length) : c.take x ++ [l] ++ c.drop (x + 1) = c.set x l := by
  rw [List.append_assoc, List.set_eq_take_append_cons_drop, if_pos h]
  rfl
theorem ok__law_behind {f : Addr} {fd : FuncData} (F : Fun K "_law_behind" "_law_behind" (topS 39) f fd) : FnOk P w K mg base CX0 1 f fd ["_law_chart", "_law_taking"] sp__law_behind := by
  have nd := sc__law_behind.nd
  refine F.ok sc__law_behind (fun vs H Q E h => ?_) (fun cdv A outer s H vs Q E hr h => ?_)
  · obtain ⟨_, _, _, _, _, _, _, rfl, _⟩ := h; rfl
  · obtain ⟨m, L, p, c, t, l, x, rfl, hC, ht, hx, kq⟩ := h
    have h13 : c.length ≤ 13 := by rw [hC.len]; exact near_small hC.isl
    refine ⟨_, (pss_cons (ps_asg (pv 1) (pg_tup rfl (pgs_cons (pg_name (i := 2) nd rfl (Or.inl rfl)) (pgs_cons (pg_name (i := 3) nd rfl (Or.inl rfl)) pgs_nil))))
      (pss_one (ps_ret (pe_tup (pa_cons (pe_ix chIx0 (pv 0) pe_int (fun _ _ => rfl)) (pa_cons (pe_op nCat (pe_op nCat (pe_slice nSlT (pe_ix chIx1 (pv 0) pe_int (fun _ _ => rfl)) po_none (po_some (pv 3))) (pe_tup (pa_cons (pv 2) pa_nil))) (pe_slice nSlT (pe_ix chIx1 (pv 0) pe_int (fun _ _ => rfl)) (po_some (pe_op nAdd (pv 3) pe_int)) po_none)) pa_nil)))))), ?_⟩
    refine ⟨_, rfl, t, _, rfl, SqT.of ht, rfl, _, _, rfl, _, [], rfl, rfl, ?_⟩
    refine ⟨_, rfl, m, p, c, rfl, rfl, hC.at_, ?_⟩
    refine ⟨_, rfl, m, p, c, rfl, rfl, hC.at_, fun q h1 h2 => ⟨_, rfl, (x : Int), rfl, q, c, c.take x, rfl, h2, noneOk, natOk x, ?_, fun H1 a g1 ea => ?_⟩⟩
    · show some (c.take (x : Int).toNat) = _
      rw [Int.toNat_natCast]
    refine ⟨_, rfl, one_le, fun b nb => ?_⟩
    have g2 : Gr H1 (upd H1 b (.tup (vsI [l]))) := Gr.new nb
    refine ⟨a, b, c.take x, [l], rfl, rfl, g2.tup ea, upd_same, by rw [List.length_take]; show min x c.length + 1 < 1000; omega, fun H2 d g3 ed => ?_⟩
    have g4 := (g1.trans g2).trans g3
    refine ⟨_, rfl, m, p, c, rfl, rfl, g4.ch hC.at_, fun q2 h3 h4 => ⟨_, rfl, x, 1, rfl, rfl, ((x + 1 : Nat) : Int), rfl, q2, c, c.drop (x + 1), rfl, h4, natOk (x + 1), noneOk, ?_, fun H3 e g5 ee => ?_⟩⟩
    · show some (c.drop ((x + 1 : Nat) : Int).toNat) = _
      rw [Int.toNat_natCast]
    refine ⟨d, e, _, _, rfl, rfl, g5.tup ed, ee, by rw [List.length_append, List.length_take, List.length_drop]; show min x c.length + 1 + (c.length - (x + 1)) < 1000; omega, fun H4 r g6 er => ?_⟩
    rw [set_cut hx] at er
    refine ⟨two_le, fun u nu => ?_⟩
    have g7 : Gr H4 (upd H4 u (.tup [vI m, .ref r])) := Gr.new nu
    have g8 := (g4.trans g5).trans g6
    exact kq _ u (g8.trans g7) (g8.non u nu) ⟨r, upd_same, g7.tup er⟩
end
end Sl
set_option Elab.async false
set_option linter.all false
set_option maxRecDepth 100000
set_option maxHeartbeats 4000000
namespace Sl
open PySem PySem.Spec PyProof.Rows L2 Star DX
/-- what holds of the charts found so far -/
structure Fnd (A L k : Nat) (c : List Nat) (seen m : List (List Nat)) : Prop where
  nd : (seen ++ m).Nodup
  rc : ∀ d ∈ seen ++ m, Reach (nxC A L k) c d
theorem Fnd.few {A L k : Nat} {c : List Nat} {seen m : List (List Nat)} (h : Fnd A L k c seen m) (hI : Isl A L) (hk : k ≤ 4) (V : Valid A L k c) : (seen ++ m).length ≤ 262144 :=
  charts_few hI hk c _ h.nd fun d hd => ⟨V.reach hI (h.rc d hd), tips_same hI V (h.rc d hd)⟩
theorem few_line {n : Nat} (h : n ≤ 262144) : n < sizeLine := by rw [sizeLine_eq]; omega
theorem take_snocG {α : Type} {l : List α} {i : Nat} {x : α} (h : l[i]? = some x) : l.take (i + 1) = l.take i ++ [x] := by
  rw [List.take_add_one, h]
  rfl
section
variable {P : Program} {w : World} {K : PySem.W.Frag} {mg : Str → Option Value} {base : Heap}
/-! ### _law_from -/
abbrev N__law_from : List Str := ["_law_chart", "_law_found", "_law_walk_here", "_law_more", "_law_here", "_law_taking", "_law_there"]
theorem sc__law_from : FnScope N__law_from ["_law_chart"] (defScope (topS 40)) := ⟨rfl, rfl, rfl, by decide +kernel, rfl, by decide +kernel, by decide +kernel⟩
def sp__law_from (P : Program) (w : World) : Sp := fun vs H Q _ => ∃ A L k p c, vs = [.ref p] ∧ Ch H A L p c ∧ Valid A L k c ∧ 2 ≤ k ∧ k ≤ L + 1 ∧ ∀ H' d kvs, Gr H H' → H' d = some (DC P w A d kvs) → KeysAt H' A kvs → (∀ e, e ∈ kvs.map (·.1) ↔ Reach (nxC A L k) c e) → kvs.length ≤ 262144 → Q (.ref d) H'
theorem ok__law_from {f : Addr} {fd : FuncData} (F : Fun K "_law_from" "_law_from" (topS 40) f fd) (c__law_takings : Cal P w K mg base 3 "_law_takings" ["_law_chart"] sp__law_takings)
    (c__law_behind : Cal P w K mg base 1 "_law_behind" ["_law_chart", "_law_taking"] sp__law_behind) : FnOk P w K mg base CX0 4 f fd ["_law_chart"] (sp__law_from P w) := by
  have nd := sc__law_from.nd
  refine F.ok sc__law_from (fun vs H Q E h => ?_) (fun cdv A outer s H vs Q E hr h => ?_)
  · obtain ⟨_, _, _, _, _, rfl, _⟩ := h; rfl
  · obtain ⟨m, L, k, p, c, rfl, hC, hV, hk2, hkL, kq⟩ := h
    have hI := hC.isl
    have hk4 := Isl.k4 hI hkL
    refine ⟨_, (pss_cons (ps_par (i := 1) (j := 2) rfl nd rfl rfl (by decide) rfl rfl (pa_cons (pe_dcOne hr.units (pv 0) pe_int) (pa_cons (pe_lst (pa_cons (pv 0) pa_nil)) pa_nil)) (by rfl))
      (pss_cons (ps_while PassesOwn.never (pt_cmpR (cNeNil hr.units) (pv 2) (pe_lst pa_nil) (nomark _)) (pss_cons (ps_set (i := 3) nd rfl (Or.inl rfl) (pe_lst pa_nil))
      (pss_cons (ps_for PassesOwn.never rfl (pi_list (pv 2)) (pg_name (i := 4) nd rfl (Or.inl rfl)) (pss_one (ps_for PassesOwn.never rfl (pi_list (pcall c__law_takings hr (by decide) (by rfl) (pa_cons (pv 4) pa_nil))) (pg_name (i := 5) nd rfl (Or.inl rfl)) (pss_cons (ps_set (i := 6) nd rfl (Or.inl rfl) (pcall c__law_behind hr (by decide) (by rfl) (pa_cons (pv 4) (pa_cons (pv 5) pa_nil))))
      (pss_one (ps_if (pt_cmpR (op_dcNotIn hr.units) (pv 6) (pv 1) (by rfl)) (pss_cons (ps_asg (pe_op op_add (pe_dcGet hr.units (pv 1) (pv 4) (fun _ _ => rfl)) pe_int) (pg_sub (pv 1) (pv 6) (set_dc hr.units)))
      (pss_one (ps_expr (pe_bm PySem.F.plainAttrs_list PySem.F.slot_list_append PySem.F.type_list_append mt_append (pv 3) (pa_cons (pv 6) pa_nil))))) pss_nil))))))
      (pss_one (ps_set (i := 2) nd rfl (Or.inl rfl) (pv 3))))))
      (pss_one (ps_ret (pv 1))))), ?_⟩
    refine fun d nd0 => ⟨_, rfl, p, m, c, 0, rfl, rfl, (Gr.new nd0).ch hC.at_, upd_same, _, rfl, one_le, fun r nr => ⟨_, _, rfl, ?_⟩⟩
    rw [upd_upd] at *
    have g1 : Gr H (upd H d (DC P w m d [(c, p, 0)])) := Gr.new nd0
    have g2 : Gr (upd H d (DC P w m d [(c, p, 0)])) (upd (upd H d (DC P w m d [(c, p, 0)])) r (.lst [.ref p])) := Gr.new nr
    have hp2 := (g1.trans g2).ch hC.at_
    refine ⟨fun n σ H1 => ∃ r kvs rs seen rows y3 y4 y5 y6, σ = [some (.ref p), some (.ref d), some (.ref r), y3, y4, y5, y6] ∧ Gr H H1 ∧ H1 d = some (DC P w m d kvs) ∧ KeysAt H1 m kvs ∧ kvs.map (·.1) = seen ∧ H1 r = some (.lst (crefs rs)) ∧ CkL H1 m rs ∧ rs.map (·.1) = rows ∧ BInv (nxC m L k) c seen rows ∧ n = meas 262144 seen rows,
      ⟨_, r, [(c, p, 0)], [(c, p)], [c], [c], none, none, none, none, rfl, g1.trans g2, g2.ext upd_same, fun x hx => ?_, rfl, upd_same, fun x hx => ?_, rfl, BInv.start _ c, rfl⟩, fun n σ H1 hW => ?_⟩
    · rw [List.mem_singleton.mp hx]; exact hp2
    · rw [List.mem_singleton.mp hx]; exact hp2
    obtain ⟨r, kvs, rs, seen, rows, y3, y4, y5, y6, rfl, g, ed, ka, ek, er, ck, ers, bi, rfl⟩ := hW
    have fnd : Fnd m L k c seen [] := ⟨by rw [List.append_nil]; exact bi.nd, fun x hx => bi.reach x (by rw [List.append_nil] at hx; exact hx)⟩
    refine ⟨_, rfl, Nat.zero_le _, fun q nq => ?_⟩
    have gq : Gr H1 (upd H1 q (.lst [])) := Gr.new nq
    have hrr : rs ≠ [] ↔ rows ≠ [] := by
      rw [← ers]
      cases rs with
      | nil => simp
      | cons a l => simp
    refine ⟨r, q, m, rs, rfl, rfl, gq.lst er, gq.ckl ck, upd_same, _, rfl, ite2 (fun e => ?_) (fun e => ?_)⟩
    · have hrows : rows ≠ [] := hrr.mp (of_decide_eq_true e)
      refine ⟨fun σ H2 => ∃ r kvs rs seen' rows' y3 y4 y5 y6, σ = [some (.ref p), some (.ref d), some (.ref r), y3, y4, y5, y6] ∧ Gr H H2 ∧ H2 d = some (DC P w m d kvs) ∧ KeysAt H2 m kvs ∧ kvs.map (·.1) = seen' ∧ H2 r = some (.lst (crefs rs)) ∧ CkL H2 m rs ∧ rs.map (·.1) = rows' ∧ BInv (nxC m L k) c seen' rows' ∧ meas 262144 seen' rows' < meas 262144 seen rows,
        fun σ' H' ⟨r', kvs', rs', s', w', z3, z4, z5, z6, z⟩ => ⟨_, z.2.2.2.2.2.2.2.2.2, r', kvs', rs', s', w', z3, z4, z5, z6, z.1, z.2.1, z.2.2.1, z.2.2.2.1, z.2.2.2.2.1, z.2.2.2.2.2.1, z.2.2.2.2.2.2.1, z.2.2.2.2.2.2.2.1, z.2.2.2.2.2.2.2.2.1, rfl⟩, ?_⟩
      refine ⟨Nat.zero_le _, fun o2 ho2 => ?_⟩
      have g4 := gq.trans (Gr.new (x := .lst []) ho2)
      have n2H : H o2 = none := (g.trans gq).non o2 ho2
      have nro2 : r ≠ o2 := ne_of_none (gq.lst er) ho2
      refine ⟨_, rfl, r, rfl, ⟨_, SqL.of (g4.lst er)⟩, ?_⟩
      refine for_list (K := K) (a := r) (xs := crefs rs) (fun i σ H2 => ∃ kvs ms mm y4 y5 y6, σ = [some (.ref p), some (.ref d), some (.ref r), some (.ref o2), y4, y5, y6] ∧ Gr H H2 ∧ H2 d = some (DC P w m d kvs) ∧ KeysAt H2 m kvs ∧ kvs.map (·.1) = seen ++ mm ∧ H2 r = some (.lst (crefs rs)) ∧ CkL H2 m rs ∧ H2 o2 = some (.lst (crefs ms)) ∧ CkL H2 m ms ∧ ms.map (·.1) = mm ∧ Fnd m L k c seen mm ∧ mm = (rows.take i).foldl (fun m1 x => addN seen m1 (nxC m L k x)) [])
        ⟨kvs, [], [], y4, y5, y6, rfl, g.trans g4, g4.ext ed, g4.keys ka, by rw [List.append_nil]; exact ek, g4.lst er, g4.ckl ck, upd_same, fun x hx => (nomatch hx), rfl, fnd, rfl⟩ (fun i σ H2 _ z => ?_) (fun i x σ H2 hx z => ?_) (fun σ H2 z => ?_)
      · obtain ⟨_, _, _, _, _, _, _, _, _, _, _, z, _⟩ := z
        exact SqL.of z
      · obtain ⟨kvs, ms, mm, z4, z5, z6, rfl, g5, ed, ka, ek, er, ck, eo, cm, em, fn, emm⟩ := z
        obtain ⟨hc0, et, mt, rfl⟩ := crefs_at hx
        obtain ⟨here, ph⟩ := hc0
        have erow : rows[i]? = some here := by rw [← ers, List.getElem?_map, et]; rfl
        have hre : here ∈ rows := List.mem_of_getElem? erow
        have hrc := bi.reach here (bi.sub here hre)
        have hVh := hV.reach hI hrc
        have hch : ChAt H2 m ph here := ck _ mt
        refine ⟨_, rfl, m, L, k, ph, here, rfl, ⟨hI, hVh.len, hch⟩, hVh, hk2, hkL, fun H3 r2 xs g6 nr2 er2 tk ex => ?_⟩
        refine ⟨r2, rfl, ⟨_, SqL.of er2⟩, ?_⟩
        have nod : o2 ≠ d := fun z => by
          rw [z, ed] at eo
          cases eo
        have nord : r ≠ d := fun z => by
          rw [z, ed] at er
          cases er
        have nro : o2 ≠ r2 := ne_of_none eo nr2
        have nrd : d ≠ r2 := ne_of_none ed nr2
        refine for_list (K := K) (a := r2) (xs := refs xs) (fun j σ H4 => ∃ kvs ms mj y5 y6, σ = [some (.ref p), some (.ref d), some (.ref r), some (.ref o2), some (.ref ph), y5, y6] ∧ Gr H H4 ∧ H4 d = some (DC P w m d kvs) ∧ KeysAt H4 m kvs ∧ kvs.map (·.1) = seen ++ mj ∧ H4 r = some (.lst (crefs rs)) ∧ CkL H4 m rs ∧ H4 o2 = some (.lst (crefs ms)) ∧ CkL H4 m ms ∧ ms.map (·.1) = mj ∧ Fnd m L k c seen mj ∧ mj = addN seen mm (((xs.map (·.1)).take j).map (Star.behind here)) ∧ H4 r2 = some (.lst (refs xs)) ∧ TkL H4 xs ∧ ChAt H4 m ph here)
          ⟨kvs, ms, mm, z5, z6, rfl, g5.trans g6, g6.ext ed, g6.keys ka, ek, g6.lst er, g6.ckl ck, g6.lst eo, g6.ckl cm, em, fn, rfl, er2, tk, g6.ch hch⟩ (fun j σ H4 _ z => ?_) (fun j x σ H4 hx z => ?_) (fun σ H4 z => ?_)
        · obtain ⟨_, _, _, _, _, _, _, _, _, _, _, _, _, _, _, _, _, z, _⟩ := z
          exact SqL.of z
        · obtain ⟨kvs, ms, mj, z5, z6, rfl, g7, ed, ka, ek, er, ck, eo, cm, em, fn, emj, er2, tk, hch⟩ := z
          obtain ⟨t0, et, mt, rfl⟩ := refs_at hx
          obtain ⟨⟨l, x⟩, pt⟩ := t0
          have ht : TkAt H4 (l, x) pt := tk _ mt
          have mtk : (l, x) ∈ takes m L k here := by rw [← ex]; exact List.mem_map.mpr ⟨_, mt, rfl⟩
          obtain ⟨tl, tx, tT⟩ := mem_takes.mp mtk
          have ej1 : ((xs.map (·.1)).take (j + 1)).map (Star.behind here) = ((xs.map (·.1)).take j).map (Star.behind here) ++ [here.set x l] := by
            rw [take_snocG (x := (l, x)) (by rw [List.getElem?_map, et]; rfl), List.map_append]
            rfl
          refine ⟨_, rfl, _, rfl, m, L, ph, here, pt, l, x, rfl, ⟨hI, hVh.len, hch⟩, ht, tx, fun H5 p5 g8 np5 hc5 => ?_⟩
          generalize hth : here.set x l = there at *
          have hthr : Reach (nxC m L k) c there := .step hrc (mem_nxC.mpr ⟨l, x, tl, tx, tT, hth.symm⟩)
          have ed5 := g8.ext ed
          have eo5 := g8.lst eo
          refine ⟨_, rfl, _, rfl, p5, d, m, there, kvs, rfl, rfl, hc5, ed5, g8.keys ka, _, rfl, ite2 (fun e => ?_) (fun e => ?_)⟩
          · have hnew : there ∉ seen ++ mj := by rw [← ek]; exact of_decide_eq_true e
            have ea : addN seen mm (((xs.map (·.1)).take (j + 1)).map (Star.behind here)) = mj ++ [there] := by
              rw [ej1, addN_snoc, ← emj, if_neg (fun z => hnew (List.mem_append.mpr z))]
            have fn2 : Fnd m L k c seen (mj ++ [there]) := by
              refine ⟨?_, fun z hz => ?_⟩
              · rw [← List.append_assoc]
                refine List.nodup_append.mpr ⟨fn.nd, List.nodup_cons.mpr ⟨(fun z => nomatch z), List.nodup_nil⟩, fun a ha b hb e => ?_⟩
                rw [List.mem_singleton.mp hb] at e
                rw [e] at ha
                exact hnew ha
              · rw [← List.append_assoc] at hz
                rcases List.mem_append.mp hz with hz | hz
                · exact fn.rc z hz
                · rw [List.mem_singleton.mp hz]; exact hthr
            have hfew := fn2.few hI hk4 hV
            have hlk : kvs.length = (seen ++ mj).length := by rw [← ek, List.length_map]
            have hlm : ms.length = mj.length := by rw [← em, List.length_map]
            rw [← List.append_assoc, List.length_append, List.length_singleton] at hfew
            have hherek : here ∈ kvs.map (·.1) := by rw [ek]; exact List.mem_append_left _ (bi.sub here hre)
            refine ⟨_, rfl, _, rfl, ph, d, m, here, kvs, rfl, rfl, g8.ch hch, ed5, g8.keys ka, hherek, fun p' z hz => ?_⟩
            refine ⟨z, 1, rfl, rfl, _, rfl, _, rfl, d, p5, m, there, kvs, z + 1, rfl, rfl, rfl, hc5, ed5, g8.keys ka, by rw [ek]; exact hnew, few_line (by omega), ?_⟩
            have ext_ : ∀ ys, DC P w m d kvs ≠ .tup ys := fun ys z => by cases z
            have eo6 : (upd H5 d (DC P w m d (kvs ++ [(there, p5, z + 1)]))) o2 = some (.lst (crefs ms)) := by rw [upd_ne nod]; exact eo5
            have er6 : (upd H5 d (DC P w m d (kvs ++ [(there, p5, z + 1)]))) r2 = some (.lst (refs xs)) := by rw [upd_ne (Ne.symm nrd)]; exact g8.lst er2
            have lst_ : ∀ ys, HO.lst (crefs ms) ≠ .tup ys := fun ys z => by cases z
            have gg : Gr H (upd H5 d (DC P w m d (kvs ++ [(there, p5, z + 1)]))) := (g7.trans g8).set nd0
            refine ⟨_, rfl, .inl ⟨rfl, _, SqL.of eo6⟩, _, rfl, o2, crefs ms, .ref p5, rfl, rfl, eo6, by rw [crefs_len, hlm]; rw [List.length_append] at hfew; exact few_line (by omega), ?_⟩
            have cc : ∀ {q : Addr} {e : List Nat}, ChAt H5 m q e → ChAt (upd (upd H5 d (DC P w m d (kvs ++ [(there, p5, z + 1)]))) o2 (.lst (crefs ms ++ [.ref p5]))) m q e := fun h => ch_upd (ch_upd h ed5 ext_) eo6 lst_
            refine ⟨kvs ++ [(there, p5, z + 1)], ms ++ [(there, p5)], mj ++ [there], _, _, rfl, gg.set n2H, ?_, fun y hy => ?_, by rw [List.map_append, ek, List.append_assoc]; rfl, ?_, fun y hy => cc (g8.ckl ck y hy), by rw [upd_same, ← crefs_snoc], fun y hy => ?_, by rw [List.map_append, em]; rfl, fn2, ea.symm, ?_, fun y hy => tup_upd (tup_upd (g8.tkl tk y hy) ed5 ext_) eo6 lst_, cc (g8.ch hch)⟩
            · rw [upd_ne (Ne.symm nod), upd_same]
              rfl
            · rcases List.mem_append.mp hy with hy | hy
              · exact cc (g8.keys ka y hy)
              · rw [List.mem_singleton.mp hy]; exact cc hc5
            · rw [upd_ne nro2, upd_ne nord]; exact g8.lst er
            · rcases List.mem_append.mp hy with hy | hy
              · exact cc (g8.ckl cm y hy)
              · rw [List.mem_singleton.mp hy]; exact cc hc5
            · rw [upd_ne (Ne.symm nro)]; exact er6
          · have hold : there ∈ seen ++ mj := by rw [← ek]; exact Classical.byContradiction fun z => e (decide_eq_true z)
            have ea : addN seen mm (((xs.map (·.1)).take (j + 1)).map (Star.behind here)) = mj := by
              rw [ej1, addN_snoc, ← emj, if_pos (List.mem_append.mp hold)]
            exact ⟨kvs, ms, mj, _, _, rfl, g7.trans g8, ed5, g8.keys ka, ek, g8.lst er, g8.ckl ck, eo5, g8.ckl cm, em, fn, ea.symm, g8.lst er2, g8.tkl tk, g8.ch hch⟩
        · obtain ⟨kvs, ms, mj, z5, z6, rfl, g7, ed, ka, ek, er, ck, eo, cm, em, fn, emj, er2, tk, hch⟩ := z
          rw [refs_len, ← List.length_map (f := fun x : Tk => x.1) (as := xs), List.take_length, ex] at emj
          refine ⟨kvs, ms, mj, _, z5, z6, rfl, g7, ed, ka, ek, er, ck, eo, cm, em, fn, ?_⟩
          rw [take_snocG erow, List.foldl_append, ← emm]
          exact emj
      · obtain ⟨kvs, ms, mm, z4, z5, z6, rfl, g5, ed, ka, ek, er, ck, eo, cm, em, fn, emm⟩ := z
        have elen : (crefs rs).length = rows.length := by rw [crefs_len, ← ers, List.length_map]
        rw [elen, List.take_length] at emm
        have emm2 : mm = newOnes (nxC m L k) seen rows := emm
        refine ⟨_, rfl, o2, kvs, ms, seen ++ mm, mm, _, z4, z5, z6, rfl, g5, ed, ka, ek, eo, cm, em, by rw [emm2]; exact bi.turn, ?_⟩
        rw [emm2]
        refine meas_turn (s0 := c) hrows ?_
        rw [← emm2]
        exact fn.few hI hk4 hV
    · have hrows : rows = [] := Classical.byContradiction fun z => e (decide_eq_true (hrr.mpr z))
      subst hrows
      refine ⟨_, rfl, kq _ d kvs (g.trans gq) (gq.ext ed) (gq.keys ka) (fun e => by rw [ek]; exact bi.end e) ?_⟩
      have := fnd.few hI hk4 hV
      rw [List.append_nil, ← ek, List.length_map] at this
      exact this
end
end Sl
set_option Elab.async false
set_option linter.all false
set_option maxRecDepth 100000
set_option maxHeartbeats 4000000
namespace Sl
open PySem PySem.Spec PyProof.Rows L2 Star DX
/-! ### the law's row -/
def rw4 (a : Addr) (i s b : Int) : List V := [.ref a, .int i, .int s, .int b]
structure Rw (K : PySem.W.Frag) (H : Hp) (r a : Addr) (ns : List Int) (i : Nat) (s b : Int) : Prop where
  row : H r = some (.lst (rw4 a i s b))
  scr : SqL K H a (ns.map V.int)
  few : ns.length < 1000
theorem sql_row {K : PySem.W.Frag} {H : Hp} {r a b : Addr} {ns : List Int} {l : List V} {y : HO} (h : SqL K H a (ns.map V.int)) (hr : H r = some (.lst (.ref b :: l))) : SqL K (upd H r y) a (ns.map V.int) := by
  rcases h with (h | ⟨o, h⟩) | h
  · refine .inl (.inl ?_)
    rw [upd_ne]
    · exact h
    · intro e
      rw [e, hr] at h
      cases ns with
      | nil => cases h
      | cons n ns => cases h
  · refine .inl (.inr ⟨o, ?_⟩)
    rw [upd_ne]
    · exact h
    · intro e
      rw [e, hr] at h
      cases h
  · exact .inr h
theorem Rw.upd {K : PySem.W.Frag} {H : Hp} {r a : Addr} {ns : List Int} {i : Nat} {s b : Int} (h : Rw K H r a ns i s b) (i' : Nat) (s' b' : Int) : Rw K (L2.upd H r (.lst (rw4 a i' s' b'))) r a ns i' s' b' := ⟨upd_same, sql_row h.scr h.row, h.few⟩
theorem Rw.gr {K : PySem.W.Frag} {H H' : Hp} {r a : Addr} {ns : List Int} {i : Nat} {s b : Int} (h : Rw K H r a ns i s b) (g : Gr H H') : Rw K H' r a ns i s b := ⟨g.lst h.row, g.seqL h.scr, h.few⟩
/-- the row changed, all else grew -/
theorem Gr.row {H H1 : Hp} {r : Addr} {x : HO} {l : List V} (g : Gr (upd H r x) H1) : Gr (upd H r (.lst l)) (upd H1 r (.lst l)) := by
  refine ⟨fun b y h q => ?_, fun P h => ?_, fun b h => ?_⟩
  · by_cases e : b = r
    · rw [e, upd_same] at h ⊢
      exact h
    · rw [upd_ne e] at h ⊢
      exact g.keep b y (by rw [upd_ne e]; exact h) q
  · obtain ⟨ps, h1, h2⟩ := h
    have e : P ≠ r := fun e => by
      rw [e, upd_same] at h1
      cases h1
    rw [upd_ne e] at h1
    obtain ⟨qs, h3, h4⟩ := g.tab P ⟨ps, by rw [upd_ne e]; exact h1, h2⟩
    exact ⟨qs, by rw [upd_ne e]; exact h3, h4⟩
  · by_cases e : b = r
    · rw [e, upd_same] at h
      cases h
    · rw [upd_ne e] at h ⊢
      have := g.non b h
      rw [upd_ne e] at this
      exact this
theorem fmod_nat (x : Int) {n : Nat} (h : 0 < n) : ∃ d, d < n ∧ V.int (x.fmod (n : Int)) = vI d := by
  have h1 := Int.fmod_nonneg_of_pos x (show (0 : Int) < n by omega)
  have h2 := Int.fmod_lt_of_pos x (show (0 : Int) < n by omega)
  exact ⟨(x.fmod n).toNat, by omega, natV (by omega)⟩
section
variable {P : Program} {w : World} {K : PySem.W.Frag} {mg : Str → Option Value} {base : Heap}
/-! ### _law_taken, _law_pick -/
abbrev N__law_taken : List Str := ["_law_row", "_law_many", "_law_found", "_law_cell"]
theorem sc__law_taken : FnScope N__law_taken ["_law_row", "_law_many"] (defScope (topS 32)) := ⟨rfl, rfl, rfl, by decide +kernel, rfl, by decide +kernel, by decide +kernel⟩
def sp__law_taken (K : PySem.W.Frag) : Sp := fun vs H Q _ => ∃ r a ns i s b n, vs = [.ref r, vI n] ∧ 0 < n ∧ n < 100 ∧ Rw K H r a ns i s b ∧ ∀ d i' s' b', d < n → Q (vI d) (upd H r (.lst (rw4 a ((i' : Nat) : Int) s' b')))
theorem ok__law_taken {f : Addr} {fd : FuncData} (F : Fun K "_law_taken" "_law_taken" (topS 32) f fd) (m_int : mg "int" = none) (m_len : mg "len" = none) : FnOk P w K mg base CX0 1 f fd ["_law_row", "_law_many"] (sp__law_taken K) := by
  have nd := sc__law_taken.nd
  refine F.ok sc__law_taken (fun vs H Q E h => ?_) (fun cdv A outer s H vs Q E hr h => ?_)
  · obtain ⟨_, _, _, _, _, _, _, rfl, _⟩ := h; rfl
  · obtain ⟨r, a, ns, i, s0, b, n, rfl, h0, h1, R, kq⟩ := h
    have hR := R.row
    refine ⟨_, (pss_cons (ps_if (pt_cmpR op_gt (pe_ix ix_list (pv 0) pe_int (fun _ _ => rfl)) pe_int (nomark _)) (pss_cons (ps_set (i := 2) nd rfl (Or.inl rfl) (pe_op op_modN (pe_callTy call_int1 (by rfl) m_int (by decide +kernel) (pa_cons (pe_ix ix_list (pv 0) pe_int (fun _ _ => rfl)) pa_nil)) (pv 1)))
      (pss_cons (ps_asg (pe_op op_fdivN (pe_ix ix_list (pv 0) pe_int (fun _ _ => rfl)) (pv 1)) (pg_sub (pv 0) pe_int set_list))
      (pss_one (ps_ret (pv 2))))) pss_nil)
      (pss_cons (ps_asg (pe_op op_add (pe_ix ix_list (pv 0) pe_int (fun _ _ => rfl)) pe_int) (pg_sub (pv 0) pe_int set_list))
      (pss_cons (ps_if (pt_cmpR op_gt (pe_ix ix_list (pv 0) pe_int (fun _ _ => rfl)) (pe_callB call_len_seq (by rfl) m_len (by decide +kernel) (pa_cons (pe_ix ix_list (pv 0) pe_int (fun _ _ => rfl)) pa_nil)) (nomark _)) (pss_cons (ps_asg (pe_op op_modN (pe_callTy call_int1 (by rfl) m_int (by decide +kernel) (pa_cons (pe_op op_add (pe_op op_mul (pe_ix ix_list (pv 0) pe_int (fun _ _ => rfl)) pe_int) pe_int) pa_nil)) pe_int) (pg_sub (pv 0) pe_int set_list))
      (pss_one (ps_ret (pe_op op_modN (pe_callTy call_int1 (by rfl) m_int (by decide +kernel) (pa_cons (pe_op op_fdivN (pe_ix ix_list (pv 0) pe_int (fun _ _ => rfl)) pe_int) pa_nil)) (pv 1))))) pss_nil)
      (pss_cons (ps_set (i := 3) nd rfl (Or.inl rfl) (pe_ix ix_list (pe_ix ix_list (pv 0) pe_int (fun _ _ => rfl)) (pe_op op_sub (pe_ix ix_list (pv 0) pe_int (fun _ _ => rfl)) pe_int) (fun _ _ => rfl)))
      (pss_cons (ps_asg (pe_op op_modN (pe_callTy call_int1 (by rfl) m_int (by decide +kernel) (pa_cons (pe_op op_add (pe_op op_add (pe_op op_mul (pe_ix ix_list (pv 0) pe_int (fun _ _ => rfl)) pe_int) (pv 3)) pe_int) pa_nil)) pe_int) (pg_sub (pv 0) pe_int set_list))
      (pss_cons (ps_if (pt_cmpR op_ge (pv 3) (pe_op op_pow pe_int pe_int) (nomark _)) (pss_one (ps_asg (pe_op op_fdivN (pv 3) (pv 1)) (pg_sub (pv 0) pe_int set_list))) pss_nil)
      (pss_one (ps_ret (pe_op op_modN (pe_callTy call_int1 (by rfl) m_int (by decide +kernel) (pa_cons (pv 3) pa_nil)) (pv 1)))))))))), ?_⟩
    refine ⟨_, rfl, r, _, 3, _, rfl, rfl, SqL.of hR, rfl, b, 0, rfl, rfl, _, rfl, ite2 (fun e => ?_) (fun e => ?_)⟩
    · obtain ⟨d, hd, ed⟩ := fmod_nat b h0
      refine ⟨_, rfl, r, _, 3, _, rfl, rfl, SqL.of hR, rfl, .inl ⟨b, rfl, _, rfl, b, n, rfl, rfl, by omega, ?_⟩⟩
      refine ⟨_, rfl, r, _, 3, _, rfl, rfl, SqL.of hR, rfl, _, rfl, b, n, rfl, rfl, ⟨by omega, by omega⟩, ?_⟩
      refine ⟨_, rfl, r, _, 3, 3, rfl, rfl, hR, rfl, ?_⟩
      refine ⟨_, rfl, ?_⟩
      show Q (V.int (b.fmod (n : Int))) (upd H r (.lst (rw4 a i s0 (b.fdiv n))))
      rw [ed]
      exact kq d i s0 (b.fdiv n) hd
    · refine ⟨_, rfl, r, _, 1, _, rfl, rfl, SqL.of hR, rfl, i, 1, rfl, rfl, _, rfl, r, _, 1, 1, rfl, rfl, hR, rfl, ?_⟩
      show _
      have e1 : ((i : Int) + 1) = ((i + 1 : Nat) : Int) := by omega
      have R1 := R.upd (i + 1) s0 b
      have eH : upd H r (.lst ((rw4 a i s0 b).set 1 (V.int ((i : Int) + 1)))) = upd H r (.lst (rw4 a ((i + 1 : Nat) : Int) s0 b)) := by rw [e1]; rfl
      dsimp only
      rw [eH]
      generalize hH1 : upd H r (.lst (rw4 a ((i + 1 : Nat) : Int) s0 b)) = H1 at *
      have hR1 := R1.row
      refine ⟨_, rfl, r, _, 1, _, rfl, rfl, SqL.of hR1, rfl, _, rfl, r, _, 0, _, rfl, rfl, SqL.of hR1, rfl, a, _, rfl, .inl R1.scr, _, _, rfl, rfl, _, rfl, ite2 (fun e => ?_) (fun e => ?_)⟩
      · refine ⟨_, rfl, r, _, 2, _, rfl, rfl, SqL.of hR1, rfl, s0, 48271, rfl, rfl, .inr ⟨by decide, by decide⟩, _, 11, rfl, rfl, .inl ⟨_, rfl, _, 2147483647, rfl, rfl, (by show (2147483647 : Int) ≠ 0; decide), ?_⟩⟩
        refine ⟨_, rfl, r, _, 2, 2, rfl, rfl, hR1, rfl, ?_⟩
        dsimp only
        generalize (s0 * 48271 + 11).fmod 2147483647 = s1
        have R2 := R1.upd (i + 1) s1 b
        have eH2 : upd H1 r (.lst ((rw4 a ((i + 1 : Nat) : Int) s0 b).set 2 (V.int s1))) = upd H1 r (.lst (rw4 a ((i + 1 : Nat) : Int) s1 b)) := rfl
        rw [eH2]
        have hR2 := R2.row
        refine ⟨_, rfl, r, _, 2, _, rfl, rfl, SqL.of hR2, rfl, s1, 7, rfl, rfl, ⟨by decide, by decide⟩, .inl ⟨_, rfl, _, rfl, _, n, rfl, rfl, by omega, ?_⟩⟩
        obtain ⟨d, hd, ed⟩ := fmod_nat (s1.fdiv 7) h0
        show Q (V.int ((s1.fdiv 7).fmod (n : Int))) _
        rw [ed, ← hH1, upd_upd]
        exact kq d (i + 1) s1 b hd
      · have hlt : i < ns.length := by
          have e2 : ¬ ((((ns.map V.int).length : Nat) : Int) < ((i + 1 : Nat) : Int)) := fun z => e (decide_eq_true z)
          rw [List.length_map] at e2
          omega
        refine ⟨_, rfl, r, _, 0, _, rfl, rfl, SqL.of hR1, rfl, _, rfl, r, _, 1, _, rfl, rfl, SqL.of hR1, rfl, _, 1, rfl, rfl, a, _, _, .int (ns[i]'hlt), rfl, rfl, R1.scr, ?_, ?_⟩
        · rw [show (((i + 1 : Nat) : Int) - 1) = (i : Int) by omega]
          exact atI_nat (by rw [List.getElem?_map, List.getElem?_eq_getElem hlt]; rfl)
        · generalize ns[i]'hlt = cell
          refine ⟨_, rfl, r, _, 2, _, rfl, rfl, SqL.of hR1, rfl, s0, 48271, rfl, rfl, .inr ⟨by decide, by decide⟩, _, rfl, _, cell, rfl, rfl, _, 11, rfl, rfl, .inl ⟨_, rfl, _, 2147483647, rfl, rfl, (by show (2147483647 : Int) ≠ 0; decide), ?_⟩⟩
          refine ⟨_, rfl, r, _, 2, 2, rfl, rfl, hR1, rfl, ?_⟩
          dsimp only
          generalize (s0 * 48271 + cell + 11).fmod 2147483647 = s1
          have R2 := R1.upd (i + 1) s1 b
          have eH2 : upd H1 r (.lst ((rw4 a ((i + 1 : Nat) : Int) s0 b).set 2 (V.int s1))) = upd H1 r (.lst (rw4 a ((i + 1 : Nat) : Int) s1 b)) := rfl
          rw [eH2]
          have hR2 := R2.row
          obtain ⟨d, hd, ed⟩ := fmod_nat cell h0
          refine ⟨_, rfl, 10, 18, rfl, rfl, ⟨by decide, by decide, by decide⟩, cell, _, rfl, rfl, _, rfl, ite2 (fun e => ?_) (fun e => ?_)⟩
          · refine ⟨_, rfl, _, rfl, cell, n, rfl, rfl, ⟨by omega, by omega⟩, _, rfl, r, _, 3, 3, rfl, rfl, hR2, rfl, ?_⟩
            refine ⟨_, rfl, .inl ⟨cell, rfl, _, rfl, cell, n, rfl, rfl, by omega, ?_⟩⟩
            show Q (V.int (cell.fmod (n : Int))) (upd (upd H1 r (.lst (rw4 a ((i + 1 : Nat) : Int) s1 b))) r (.lst (rw4 a ((i + 1 : Nat) : Int) s1 (cell.fdiv n))))
            rw [ed, ← hH1, upd_upd, upd_upd]
            exact kq d (i + 1) s1 _ hd
          · refine ⟨_, rfl, .inl ⟨cell, rfl, _, rfl, cell, n, rfl, rfl, by omega, ?_⟩⟩
            show Q (V.int (cell.fmod (n : Int))) (upd H1 r (.lst (rw4 a ((i + 1 : Nat) : Int) s1 b)))
            rw [ed, ← hH1, upd_upd]
            exact kq d (i + 1) s1 b hd
abbrev N__law_pick : List Str := ["_law_row", "_law_things"]
theorem sc__law_pick : FnScope N__law_pick ["_law_row", "_law_things"] (defScope (topS 33)) := ⟨rfl, rfl, rfl, by decide +kernel, rfl, by decide +kernel, by decide +kernel⟩
def sp__law_pick (K : PySem.W.Frag) : Sp := fun vs H Q _ => ∃ (r a : Addr) (ns : List Int) (i : Nat) (s b : Int) (q : Addr) (xs : List V), vs = [.ref r, .ref q] ∧ H q = some (.lst xs) ∧ q ≠ r ∧ 0 < xs.length ∧ xs.length < 100 ∧ Rw K H r a ns i s b ∧ ∀ (d : Nat) (v : V) (i' : Nat) (s' b' : Int), xs[d]? = some v → Q v (upd H r (.lst (rw4 a (i' : Int) s' b')))
theorem ok__law_pick {f : Addr} {fd : FuncData} (F : Fun K "_law_pick" "_law_pick" (topS 33) f fd) (m_len : mg "len" = none) (c__law_taken : Cal P w K mg base 1 "_law_taken" ["_law_row", "_law_many"] (sp__law_taken K)) : FnOk P w K mg base CX0 2 f fd ["_law_row", "_law_things"] (sp__law_pick K) := by
  have nd := sc__law_pick.nd
  refine F.ok sc__law_pick (fun vs H Q E h => ?_) (fun cdv A outer s H vs Q E hr h => ?_)
  · obtain ⟨_, _, _, _, _, _, _, _, rfl, _⟩ := h; rfl
  · obtain ⟨r, a, ns, i, s0, b, q, xs, rfl, hq, hne, h0, h1, R, kq⟩ := h
    refine ⟨_, (pss_one (ps_ret (pe_ix ix_list (pv 1) (pcall c__law_taken hr (by decide) (by rfl) (pa_cons (pv 0) (pa_cons (pe_callB call_len_seq (by rfl) m_len (by decide +kernel) (pa_cons (pv 1) pa_nil)) pa_nil))) (fun _ _ => rfl)))), ?_⟩
    refine ⟨_, rfl, _, rfl, _, rfl, q, xs, rfl, .inl (SqL.of hq), r, a, ns, i, s0, b, xs.length, rfl, h0, h1, R, fun d i' s' b' hd => ?_⟩
    refine ⟨q, xs, d, xs[d], rfl, rfl, SqL.of (by rw [upd_ne hne]; exact hq), atI_nat (List.getElem?_eq_getElem hd), kq d _ i' s' b' (List.getElem?_eq_getElem hd)⟩
/-! ### _law_island -/
abbrev N__law_island : List Str := ["_law_row", "_law_most", "_law_length"]
theorem sc__law_island : FnScope N__law_island ["_law_row", "_law_most"] (defScope (topS 42)) := ⟨rfl, rfl, rfl, by decide +kernel, rfl, by decide +kernel, by decide +kernel⟩
def sp__law_island (K : PySem.W.Frag) : Sp := fun vs H Q _ => ∃ r a ns i s b, vs = [.ref r, vI 3] ∧ Rw K H r a ns i s b ∧ ∀ H' p A L k i' s' b', Isl A L → 2 ≤ k → k ≤ L + 1 → Gr (upd H r (.lst (rw4 a ((i' : Nat) : Int) s' b'))) H' → H' p = some (.tup [vI A, vI L, vI k]) → Q (.ref p) H'
theorem ok__law_island {f : Addr} {fd : FuncData} (F : Fun K "_law_island" "_law_island" (topS 42) f fd) (c__law_taken : Cal P w K mg base 1 "_law_taken" ["_law_row", "_law_many"] (sp__law_taken K)) : FnOk P w K mg base CX0 2 f fd ["_law_row", "_law_most"] (sp__law_island K) := by
  have nd := sc__law_island.nd
  refine F.ok sc__law_island (fun vs H Q E h => ?_) (fun cdv A outer s H vs Q E hr h => ?_)
  · obtain ⟨_, _, _, _, _, _, rfl, _⟩ := h; rfl
  · obtain ⟨r, a, ns, i, s0, b, rfl, R, kq⟩ := h
    refine ⟨_, (pss_cons (ps_set (i := 2) nd rfl (Or.inl rfl) (pe_op nAdd pe_int (pcall c__law_taken hr (by decide) (by rfl) (pa_cons (pv 0) (pa_cons (pv 1) pa_nil)))))
      (pss_one (ps_ret (pe_tup (pa_cons (pe_op nAdd pe_int (pcall c__law_taken hr (by decide) (by rfl) (pa_cons (pv 0) (pa_cons pe_int pa_nil)))) (pa_cons (pv 2) (pa_cons (pe_op nAdd pe_int (pcall c__law_taken hr (by decide) (by rfl) (pa_cons (pv 0) (pa_cons (pv 2) pa_nil)))) pa_nil))))))), ?_⟩
    refine ⟨_, rfl, _, rfl, r, a, ns, i, s0, b, 3, rfl, by decide, by decide, R, fun d1 i1 s1 b1 hd1 => ?_⟩
    have R1 := R.upd i1 s1 b1
    refine ⟨1, d1, rfl, rfl, ?_⟩
    refine ⟨_, rfl, r, a, ns, i1, s1, b1, 2, rfl, by decide, by decide, R1, fun d2 i2 s2 b2 hd2 => ⟨3, d2, rfl, rfl, ?_⟩⟩
    rw [upd_upd]
    have R2 := R.upd i2 s2 b2
    refine ⟨_, rfl, _, rfl, _, rfl, r, a, ns, i2, s2, b2, 1 + d1, rfl, by omega, by omega, R2, fun d3 i3 s3 b3 hd3 => ⟨2, d3, rfl, rfl, ?_⟩⟩
    rw [upd_upd]
    refine ⟨by show 3 ≤ sizeLine; decide, fun p np => ?_⟩
    exact kq _ p (3 + d2) (1 + d1) (2 + d3) i3 s3 b3 ⟨by omega, by omega⟩ (by omega) (by omega) (Gr.new np) upd_same
end
end Sl
set_option Elab.async false
set_option linter.all false
set_option maxRecDepth 100000
namespace Sl
open PySem PySem.Spec PyProof.Rows L2 Star DX
/-! pairs of naturals by value -/
def tkD (t : Nat × Nat) : PyData := .tuple [.int (t.1 : Int), .int (t.2 : Int)]
theorem dp_tk {K : PySem.W.Frag} {H : Hp} {t : Nat × Nat} {p : Addr} (h : TkAt H t p) : Dp K H (.ref p) (tkD t) := .tup (SqT.of h) (.cons (.int _) (.cons (.int _) .nil))
theorem shaped_tk (t : Nat × Nat) : SeqAt.shaped (tkD t) = true := rfl
theorem eqv_tk (s t : Nat × Nat) : PyData.eqv (tkD s) (tkD t) = decide (s = t) := by
  show ((((s.1 : Nat) : Int) == ((t.1 : Nat) : Int)) && ((((s.2 : Nat) : Int) == ((t.2 : Nat) : Int)) && true)) = _
  rw [Bool.eq_iff_iff, Bool.and_true, Bool.and_eq_true, beq_iff_eq, beq_iff_eq, decide_eq_true_eq]
  constructor
  · intro ⟨h1, h2⟩
    exact Prod.ext (by omega) (by omega)
  · intro h
    rw [h]
    exact ⟨rfl, rfl⟩
def tksD (xs : List Tk) : List PyData := xs.map fun x => tkD x.1
theorem dp_tks {K : PySem.W.Frag} {H : Hp} : ∀ xs : List Tk, TkL H xs → DpAll K H (refs xs) (tksD xs)
  | [], _ => .nil
  | x :: xs, h => .cons (dp_tk (h x List.mem_cons_self)) (dp_tks xs fun y hy => h y (List.mem_cons_of_mem _ hy))
theorem lay_tks : ∀ xs : List Tk, PyData.canLayAll0 (tksD xs) = true
  | [] => rfl
  | x :: xs => by
    show ((true && (true && true)) && PyData.canLayAll0 (tksD xs)) = true
    rw [lay_tks xs]
    rfl
theorem dep_tks : ∀ xs : List Tk, PyData.depthAll (tksD xs) ≤ 1
  | [] => Nat.zero_le _
  | x :: xs => by
    show max (max 0 (max 0 0) + 1) (PyData.depthAll (tksD xs)) ≤ 1
    exact Nat.max_le.mpr ⟨by decide, dep_tks xs⟩
theorem any_tks (t : Nat × Nat) : ∀ xs : List Tk, ((tksD xs).any fun z => PyData.eqv z (tkD t)) = decide (t ∈ xs.map (·.1))
  | [] => rfl
  | x :: xs => by
    show (PyData.eqv (tkD x.1) (tkD t) || (tksD xs).any fun z => PyData.eqv z (tkD t)) = _
    rw [any_tks t xs, eqv_tk, Bool.eq_iff_iff, Bool.or_eq_true, decide_eq_true_eq, decide_eq_true_eq, decide_eq_true_eq, List.map_cons, List.mem_cons]
    exact ⟨fun h => h.imp Eq.symm id, fun h => h.imp Eq.symm id⟩
theorem _root_.L2.Room.units65 {k : Nat} {A : Around} (r : Room k A) : A.units + 65 < cLine := by have := r.un; omega
section
variable {X : Cx}
theorem nNePair (hu : X.A.units + 64 < cLine) : OpR X (compareOp .NotEq) (fun x y H Q => ∃ p q s t, x = .ref p ∧ y = .ref q ∧ TkAt H s p ∧ TkAt H t q ∧ Q (.bl (decide (s ≠ t))) H) := fun pins s0 σ H x y v u Q I rx ry ⟨p, q, s, t, e1, e2, h1, h2, k⟩ => by
  subst e1 e2
  refine op_neD hu pins s0 σ H _ _ v u Q I rx ry ⟨tkD s, tkD t, dp_tk h1, dp_tk h2, shaped_tk s, shaped_tk t, ?_⟩
  rw [eqv_tk, ← decide_not]
  exact k
theorem nInPairs (hu : X.A.units + 65 < cLine) : OpR X (compareOp .In) (fun x y H Q => ∃ p q t xs, x = .ref p ∧ y = .ref q ∧ TkAt H t p ∧ H q = some (.lst (refs xs)) ∧ TkL H xs ∧ Q (.bl (decide (t ∈ xs.map (·.1)))) H) := fun pins s0 σ H x y v u Q I rx ry ⟨p, q, t, xs, e1, e2, h1, h2, h3, k⟩ => by
  subst e1 e2
  refine op_inD hu pins s0 σ H _ _ v u Q I rx ry ⟨tkD t, tksD xs, dp_tk h1, .lst (SqL.of h2) (dp_tks xs h3), shaped_tk t, shaped_list (lay_tks xs) (by have := dep_tks xs; omega), ?_⟩
  rw [any_tks]
  exact k
end
section
variable {K : PySem.W.Frag} {g : TG} {tt : TT} {te : TE} {vs : List Nat} {σ : L2.St} {H1 : Hp} {D : Addr} {Qd : Hp → Prop}
theorem flt_step (p : Nat × Nat → Bool) {xs : List Tk} {i : Nat} {t : Tk} (h : xs[i]? = some t) : (xs.take (i + 1)).filter (fun x => p x.1) = (xs.take i).filter (fun x => p x.1) ++ (if p t.1 = true then [t] else []) := by
  rw [List.take_add_one, h, List.filter_append]
  congr 1
  show List.filter (fun x : Tk => p x.1) [t] = _
  rw [List.filter_cons]
  rfl
theorem lcT_list {a : Addr} {xs : List Tk} (p : Nat × Nat → Bool) (hD : H1 D = none) (ha : H1 a = some (.lst (refs xs))) (hc : xs.length < 1000)
    (hs : ∀ t H (Y : V → Hp → Prop) (N : Hp → Prop), t ∈ xs → Gr H1 H → (p t.1 = true → ∀ H4, Gr H H4 → Y (.ref t.2) H4) → (p t.1 = false → ∀ H3, Gr H H3 → N H3) →
      g (.ref t.2) (wipe σ vs) H fun σ2 H2 => wipe σ2 vs = wipe σ vs ∧ tt σ2 H2 fun b H3 => if b = true then te σ2 H3 Y else N H3)
    (hd : ∀ H, Gr H1 H → H D = some (.lst (refs (xs.filter fun x => p x.1))) → Qd H) :
    ∃ W : Nat → Nat → Hp → Prop, (∃ m, W 0 m (upd H1 D (.lst []))) ∧ ∀ i m H, W i m H →
      ((Itl K a).stop i H ∧ Qd H) ∨ ((Itl K a).go i H ∧ ∃ Nx : Hp → Prop, (∀ H', Nx H' → ∃ m', m' < m ∧ W (i + 1) m' H') ∧ ∀ x H', (Itl K a).yld i H x H' → g x (wipe σ vs) H' fun σ2 H2 => wipe σ2 vs = wipe σ vs ∧ tt σ2 H2 fun b H3 =>
        if b = true then te σ2 H3 fun y H4 => ∃ acc, H4 D = some (.lst acc) ∧ acc.length < sizeLine ∧ Nx (upd H4 D (.lst (acc ++ [y]))) else Nx H3) := by
  refine lc_list (K := K) (a := a) (xs := refs xs) (fun i H => Gr H1 H ∧ H D = some (.lst (refs ((xs.take i).filter fun x => p x.1)))) ⟨Gr.new hD, upd_same⟩ (fun i H _ z => SqL.of (z.1.lst ha)) (fun i x H hx z => ?_) (fun H z => ?_)
  · obtain ⟨t, et, mt, rfl⟩ := refs_at hx
    obtain ⟨gr, e⟩ := z
    refine hs t H _ _ mt gr (fun hp H4 g4 => ⟨_, g4.lst e, lenI (n := 999) ?_ (by omega), (gr.trans g4).set hD, ?_⟩) (fun hp H3 g3 => ⟨gr.trans g3, ?_⟩)
    · have := List.length_filter_le (fun x : Tk => p x.1) (xs.take i)
      rw [List.length_take] at this
      omega
    · rw [upd_same, flt_step p et, if_pos hp, ← refs_snoc]
    · rw [g3.lst e, flt_step p et, if_neg (by rw [hp]; exact Bool.false_ne_true), List.append_nil]
  · rw [refs_len, List.take_length] at z
    exact hd H z.1 z.2
end
theorem upd_self {H : Hp} {r : Addr} {x : HO} (h : H r = some x) : upd H r x = H := by
  funext b
  by_cases e : b = r
  · rw [e, upd_same, h]
  · rw [upd_ne e]
end Sl
set_option Elab.async false
set_option linter.all false
set_option maxRecDepth 100000
set_option maxHeartbeats 8000000
namespace Sl
open PySem PySem.Spec PyProof.Rows L2 Star DX
/-! ### _law_map -/
def gridTo (L a : Nat) : List (Nat × Nat) := (List.range a).flatMap fun a => (List.range L).map fun s => (a, s)
theorem gridTo_succ (L a : Nat) : gridTo L (a + 1) = gridTo L a ++ (List.range L).map fun s => (a, s) := by
  unfold gridTo
  rw [List.range_succ, List.flatMap_append]
  simp
theorem gridTo_len (L : Nat) : ∀ a, (gridTo L a).length = a * L
  | 0 => by rw [Nat.zero_mul]; rfl
  | a + 1 => by rw [gridTo_succ, List.length_append, gridTo_len L a, List.length_map, List.length_range, Nat.add_mul, Nat.one_mul]
theorem mem_grid {L A : Nat} {t : Nat × Nat} : t ∈ gridTo L A ↔ t.1 < A ∧ t.2 < L := by
  unfold gridTo
  rw [List.mem_flatMap]
  constructor
  · intro ⟨a, ha, h⟩
    obtain ⟨s, hs, e⟩ := List.mem_map.mp h
    rw [← e]
    exact ⟨List.mem_range.mp ha, List.mem_range.mp hs⟩
  · intro ⟨h1, h2⟩
    exact ⟨t.1, List.mem_range.mpr h1, List.mem_map.mpr ⟨t.2, List.mem_range.mpr h2, rfl⟩⟩
theorem grid_nodup {A L : Nat} (h : Isl A L) : (gridTo L A).Nodup := by
  refine h.all (p := fun A L => (gridTo L A).Nodup) ?_ ?_ ?_ ?_ ?_ ?_ <;> decide
/-- cuts so far q, and what is left l -/
structure Cut (A L n : Nat) (l q : List (Nat × Nat)) : Prop where
  nd : q.Nodup
  inn : ∀ c ∈ q, c.1 < A ∧ c.2 < L
  len : q.length = n
  left : ∀ c ∈ l, (c.1 < A ∧ c.2 < L) ∧ c ∉ q
  cov : ∀ a s, a < A → s < L → (a, s) ∈ l ∨ (a, s) ∈ q
theorem Cut.pos {A L n : Nat} {l q : List (Nat × Nat)} (h : Cut A L n l q) (hI : Isl A L) (hn : n < A * L) : l ≠ [] := by
  intro e
  have := nodup_len (gridTo L A) q (grid_nodup hI) fun t ht => by
    obtain ⟨h1, h2⟩ := mem_grid.mp ht
    rcases h.cov t.1 t.2 h1 h2 with z | z
    · rw [e] at z; nomatch z
    · exact z
  rw [gridTo_len, h.len] at this
  omega
theorem Cut.add {A L n : Nat} {l q : List (Nat × Nat)} (h : Cut A L n l q) {t : Nat × Nat} (ht : t ∈ l) : Cut A L (n + 1) (l.filter fun x => decide (x ≠ t)) (q ++ [t]) := by
  obtain ⟨h1, h2⟩ := h.left t ht
  refine ⟨?_, fun c hc => ?_, by rw [List.length_append, h.len]; rfl, fun c hc => ?_, fun a s ha hs => ?_⟩
  · refine List.nodup_append.mpr ⟨h.nd, List.nodup_cons.mpr ⟨(fun z => nomatch z), List.nodup_nil⟩, fun a ha b hb e => ?_⟩
    rw [List.mem_singleton.mp hb] at e
    rw [e] at ha
    exact h2 ha
  · rcases List.mem_append.mp hc with hc | hc
    · exact h.inn c hc
    · rw [List.mem_singleton.mp hc]; exact h1
  · obtain ⟨m1, m2⟩ := List.mem_filter.mp hc
    obtain ⟨g1, g2⟩ := h.left c m1
    refine ⟨g1, fun z => ?_⟩
    rcases List.mem_append.mp z with z | z
    · exact g2 z
    · exact (of_decide_eq_true m2) (List.mem_singleton.mp z)
  · by_cases e : (a, s) = t
    · exact .inr (List.mem_append_right _ (by rw [e]; exact List.mem_cons_self))
    · exact (h.cov a s ha hs).imp (fun z => List.mem_filter.mpr ⟨z, decide_eq_true e⟩) (List.mem_append_left _)
/-- the order so far o, and the names left l -/
structure Ord (k n : Nat) (l o : List Nat) : Prop where
  nd : o.Nodup
  lt : ∀ x ∈ o, x < k
  len : o.length = n
  left : ∀ x ∈ l, x < k ∧ x ∉ o
  cov : ∀ x, x < k → x ∈ l ∨ x ∈ o
theorem Ord.pos {k n : Nat} {l o : List Nat} (h : Ord k n l o) (hn : n < k) : l ≠ [] := by
  intro e
  have := nodup_len (List.range k) o List.nodup_range fun t ht => by
    rcases h.cov t (List.mem_range.mp ht) with z | z
    · rw [e] at z; nomatch z
    · exact z
  rw [List.length_range, h.len] at this
  omega
theorem Ord.add {k n : Nat} {l o : List Nat} (h : Ord k n l o) {t : Nat} (ht : t ∈ l) : Ord k (n + 1) (l.filter fun x => decide (x ≠ t)) (o ++ [t]) := by
  obtain ⟨h1, h2⟩ := h.left t ht
  refine ⟨?_, fun c hc => ?_, by rw [List.length_append, h.len]; rfl, fun c hc => ?_, fun x hx => ?_⟩
  · refine List.nodup_append.mpr ⟨h.nd, List.nodup_cons.mpr ⟨(fun z => nomatch z), List.nodup_nil⟩, fun a ha b hb e => ?_⟩
    rw [List.mem_singleton.mp hb] at e
    rw [e] at ha
    exact h2 ha
  · rcases List.mem_append.mp hc with hc | hc
    · exact h.lt c hc
    · rw [List.mem_singleton.mp hc]; exact h1
  · obtain ⟨m1, m2⟩ := List.mem_filter.mp hc
    obtain ⟨g1, g2⟩ := h.left c m1
    refine ⟨g1, fun z => ?_⟩
    rcases List.mem_append.mp z with z | z
    · exact g2 z
    · exact (of_decide_eq_true m2) (List.mem_singleton.mp z)
  · by_cases e : x = t
    · exact .inr (List.mem_append_right _ (by rw [e]; exact List.mem_cons_self))
    · exact (h.cov x hx).imp (fun z => List.mem_filter.mpr ⟨z, decide_eq_true e⟩) (List.mem_append_left _)
theorem mid_len (L : Nat) (p : Nat → Nat → Bool) (a : Nat) : ∀ s, (mid L p a s).1.length = (pre L p a).1.length + s
  | 0 => rfl
  | s + 1 => by
    rw [mid_succ]
    unfold Star.stepI
    split <;> (rw [List.length_append, mid_len L p a s]; rfl)
theorem pre_len (L : Nat) (p : Nat → Nat → Bool) : ∀ a, (pre L p a).1.length = a * L + 1
  | 0 => by rw [pre_zero, Nat.zero_mul]; rfl
  | a + 1 => by rw [pre_succ]; show (mid L p a L).1.length = _; rw [mid_len, pre_len L p a, Nat.add_mul]; omega
theorem nd_of (q : Bool) : q = true ∨ q = false := by cases q <;> simp
section
variable {P : Program} {w : World} {K : PySem.W.Frag} {mg : Str → Option Value} {base : Heap}
abbrev N__law_map : List Str := ["_law_row", "_law_arms", "_law_length", "_law_lands", "_law_left", "_law_cuts", "_law_arm", "_law_step", "_law_turn", "_law_one", "_law_names", "_law_order", "_law_cells", "_law_used", "_law_land", "_law_pair", "_law_k"]
theorem sc__law_map : FnScope N__law_map ["_law_row", "_law_arms", "_law_length", "_law_lands"] (defScope (topS 37)) := ⟨rfl, rfl, rfl, by decide +kernel, rfl, by decide +kernel, by decide +kernel⟩
def sp__law_map (K : PySem.W.Frag) : Sp := fun vs H Q _ => ∃ (r a : Addr) (ns : List Int) (i : Nat) (s b : Int) (A L k : Nat), vs = [.ref r, vI A, vI L, vI k] ∧ Isl A L ∧ 2 ≤ k ∧ k ≤ L + 1 ∧ Rw K H r a ns i s b ∧ ∀ (H' : Hp) (i' : Nat) (s' b' : Int) (p : Addr) (c : List Nat), Gr (upd H r (.lst (rw4 a (i' : Int) s' b'))) H' → MapOk A L k c → ChAt H' A p c → Q (.ref p) H'
theorem ok__law_map {f : Addr} {fd : FuncData} (F : Fun K "_law_map" "_law_map" (topS 37) f fd) (m_range : mg "range" = none) (m_list : mg "list" = none) (m_tuple : mg "tuple" = none) (c__law_pick : Cal P w K mg base 2 "_law_pick" ["_law_row", "_law_things"] (sp__law_pick K)) : FnOk P w K mg base CX0 3 f fd ["_law_row", "_law_arms", "_law_length", "_law_lands"] (sp__law_map K) := by
  have nd := sc__law_map.nd
  refine F.ok sc__law_map (fun vs H Q E h => ?_) (fun cdv A outer s H vs Q E hr h => ?_)
  · obtain ⟨_, _, _, _, _, _, _, _, _, rfl, _⟩ := h; rfl
  · obtain ⟨r, a, ns, i0, s0, b0, m, L, k, rfl, hI, hk2, hkL, R, kq⟩ := h
    obtain ⟨b1, b2, b3, b4⟩ := Isl.le4 hI
    have hk4 := Isl.k4 hI hkL
    have hAL : m * L ≤ 12 := by have := near_small hI; omega
    have hLA : L ≤ m * L := Nat.le_mul_of_pos_left L (by omega)
    refine ⟨_, (pss_cons (ps_par (i := 4) (j := 5) rfl nd rfl rfl (by decide) rfl rfl (pa_cons (pe_lst pa_nil) (pa_cons (pe_lst pa_nil) pa_nil)) (by rfl))
      (pss_cons (ps_for PassesOwn.never rfl (pi_range1 (by rfl) m_range (pa_cons (pv 1) pa_nil)) (pg_name (i := 6) nd rfl (Or.inr rfl)) (pss_one (ps_set (i := 4) nd rfl (Or.inl rfl) (pe_op op_cat (pv 4) (pe_lc (own := [("_law_step", 7)]) rfl nd (pi_range1 (by rfl) m_range (pa_cons (pv 2) pa_nil)) (blkOk_by (own := [("_law_step", 7)]) (N := N__law_map) (sc := defScope (topS 37)) (by decide +kernel)) (fun _ _ _ _ _ => (pg_name (i := 7) nd rfl (Or.inl rfl))) (fun _ _ _ _ _ => pts_nil) (fun _ _ _ _ _ => (pe_tup (pa_cons (pv 6) (pa_cons (pv 7) pa_nil)))))))))
      (pss_cons (ps_for PassesOwn.never rfl (pi_range1 (by rfl) m_range (pa_cons (pe_op nSub (pv 3) pe_int) pa_nil)) (pg_name (i := 8) nd rfl (Or.inl rfl)) (pss_cons (ps_set (i := 9) nd rfl (Or.inr rfl) (pcall c__law_pick hr (by decide) (by rfl) (pa_cons (pv 0) (pa_cons (pv 4) pa_nil))))
      (pss_one (ps_par (i := 5) (j := 4) rfl nd rfl rfl (by decide) rfl rfl (pa_cons (pe_op op_cat (pv 5) (pe_lst (pa_cons (pv 9) pa_nil))) (pa_cons (pe_lc (own := [("_law_pair", 15)]) rfl nd (pi_list (pv 4)) (blkOk_by (own := [("_law_pair", 15)]) (N := N__law_map) (sc := defScope (topS 37)) (by decide +kernel)) (fun _ _ _ _ _ => (pg_name (i := 15) nd rfl (Or.inl rfl))) (fun _ _ _ _ _ => pts_one (pt_cmpR (nNePair hr.units) (pv 15) (pv 9) (nomark _))) (fun _ _ _ _ _ => (pv 15))) pa_nil)) (by rfl)))))
      (pss_cons (ps_par (i := 10) (j := 11) rfl nd rfl rfl (by decide) rfl rfl (pa_cons (pe_listRg rfl (by rfl) m_list (prg_1 (by rfl) m_range (pv 3))) (pa_cons (pe_lst pa_nil) pa_nil)) (by rfl))
      (pss_cons (ps_for PassesOwn.never rfl (pi_range1 (by rfl) m_range (pa_cons (pv 3) pa_nil)) (pg_name (i := 8) nd rfl (Or.inl rfl)) (pss_cons (ps_set (i := 9) nd rfl (Or.inr rfl) (pcall c__law_pick hr (by decide) (by rfl) (pa_cons (pv 0) (pa_cons (pv 10) pa_nil))))
      (pss_one (ps_par (i := 11) (j := 10) rfl nd rfl rfl (by decide) rfl rfl (pa_cons (pe_op op_cat (pv 11) (pe_lst (pa_cons (pv 9) pa_nil))) (pa_cons (pe_lc (own := [("_law_k", 16)]) rfl nd (pi_list (pv 10)) (blkOk_by (own := [("_law_k", 16)]) (N := N__law_map) (sc := defScope (topS 37)) (by decide +kernel)) (fun _ _ _ _ _ => (pg_name (i := 16) nd rfl (Or.inl rfl))) (fun _ _ _ _ _ => pts_one (pt_cmpR nNe (pv 16) (pv 9) (nomark _))) (fun _ _ _ _ _ => (pv 16))) pa_nil)) (by rfl)))))
      (pss_cons (ps_par (i := 12) (j := 13) rfl nd rfl rfl (by decide) rfl rfl (pa_cons (pe_lst (pa_cons (pe_ix nIxL (pv 11) pe_int (fun _ _ => rfl)) pa_nil)) (pa_cons pe_int pa_nil)) (by rfl))
      (pss_cons (ps_for PassesOwn.never rfl (pi_range1 (by rfl) m_range (pa_cons (pv 1) pa_nil)) (pg_name (i := 6) nd rfl (Or.inr rfl)) (pss_cons (ps_set (i := 14) nd rfl (Or.inl rfl) (pe_ix nIxL (pv 11) pe_int (fun _ _ => rfl)))
      (pss_one (ps_for PassesOwn.never rfl (pi_range1 (by rfl) m_range (pa_cons (pv 2) pa_nil)) (pg_name (i := 7) nd rfl (Or.inl rfl)) (pss_cons (ps_if (pt_cmpR (nInPairs hr.units65) (pe_tup (pa_cons (pv 6) (pa_cons (pv 7) pa_nil))) (pv 5) (by rfl)) (pss_one (ps_par (i := 14) (j := 13) rfl nd rfl rfl (by decide) rfl rfl (pa_cons (pe_ix nIxL (pv 11) (pv 13) (fun _ _ => rfl)) (pa_cons (pe_op nAdd (pv 13) pe_int) pa_nil)) (by rfl))) pss_nil)
      (pss_one (ps_expr (pe_bm PySem.F.plainAttrs_list PySem.F.slot_list_append PySem.F.type_list_append nApp (pv 12) (pa_cons (pv 14) pa_nil)))))))))
      (pss_one (ps_ret (pe_tup (pa_cons (pv 1) (pa_cons (pe_callTy call_tuple_of (by rfl) m_tuple (by decide +kernel) (pa_cons (pv 12) pa_nil)) pa_nil)))))))))))), ?_⟩
    refine ⟨Nat.zero_le _, fun o4 no4 => ⟨Nat.zero_le _, fun o5 no5 => ⟨_, _, rfl, ?_⟩⟩⟩
    have g1 : Gr H (upd H o4 (.lst [])) := Gr.new no4
    have g2 := g1.trans (Gr.new (x := .lst []) no5)
    have n5r : o5 ≠ r := Ne.symm (ne_of_none (g1.lst R.row) no5)
    have n4r : o4 ≠ r := Ne.symm (ne_of_none R.row no4)
    -- left
    refine ⟨_, rfl, m, rfl, by omega, by omega, ?_⟩
    refine for_rangeN (n := m) (fun u σ H1 => ∃ o4 xs y6, σ = [some (.ref r), some (vI m), some (vI L), some (vI k), some (.ref o4), some (.ref o5), y6, none, none, none, none, none, none, none, none, none, none] ∧ Gr H H1 ∧ H1 o5 = some (.lst []) ∧ o4 ≠ r ∧ H1 o4 = some (.lst (refs xs)) ∧ TkL H1 xs ∧ xs.map (·.1) = gridTo L u)
      ⟨o4, [], none, rfl, g2, upd_same, n4r, (Gr.new no5).lst upd_same, fun x hx => (nomatch hx), rfl⟩ (fun u σ H1 hu z => ?_) (fun σ H1 z => ?_)
    · obtain ⟨o4, xs, y6, rfl, g3, e5, n4, e4, tk, ex⟩ := z
      refine ⟨_, rfl, _, rfl, L, rfl, by omega, by omega, fun D hD => ?_⟩
      refine lc_rangeN (n := L) (fun j H2 => Gr H1 H2 ∧ ∃ ys, H2 D = some (.lst (refs ys)) ∧ TkL H2 ys ∧ ys.map (·.1) = (List.range j).map fun s => (u, s)) ⟨Gr.new hD, [], upd_same, fun x hx => (nomatch hx), rfl⟩ (fun j H2 hj z => ?_) (fun H2 z => ?_)
      · obtain ⟨g4, ys, eD, tky, ey⟩ := z
        refine ⟨rfl, _, rfl, _, rfl, two_le, fun t nt => ?_⟩
        have g5 : Gr H2 (upd H2 t (.tup [vI u, vI j])) := Gr.new nt
        have nD : D ≠ t := ne_of_none eD nt
        have hle : ys.length ≤ 3 := by
          have e1 := congrArg List.length ey
          rw [List.length_map, List.length_map, List.length_range] at e1
          omega
        refine ⟨_, g5.lst eD, lenI hle (by omega), (g4.trans g5).set hD, ys ++ [((u, j), t)], by rw [upd_same, ← refs_snoc], fun x hx => ?_, by rw [List.map_append, ey, List.range_succ, List.map_append]; rfl⟩
        rcases List.mem_append.mp hx with hx | hx
        · exact tup_upd (g5.tkl tky x hx) (g5.lst eD) fun _ z => nomatch z
        · rw [List.mem_singleton.mp hx]
          exact tup_upd (p := t) upd_same (g5.lst eD) fun _ z => nomatch z
      · obtain ⟨g4, ys, eD, tky, ey⟩ := z
        have e2 : (xs ++ ys).map (·.1) = gridTo L (u + 1) := by rw [List.map_append, ex, ey, gridTo_succ]
        have hln : (xs ++ ys).length ≤ 12 := by
          have e1 := congrArg List.length e2
          rw [List.length_map, gridTo_len] at e1
          have : (u + 1) * L ≤ m * L := Nat.mul_le_mul_right L (by omega)
          omega
        refine ⟨o4, D, refs xs, refs ys, rfl, rfl, g4.lst e4, eD, by rw [refs_len, refs_len, ← List.length_append]; exact Nat.le_of_lt (small1000 (by omega)), fun p np => ?_⟩
        have g5 : Gr H2 (upd H2 p (.lst (refs xs ++ refs ys))) := Gr.new np
        have g6 := (g3.trans g4).trans g5
        refine ⟨p, xs ++ ys, _, rfl, g6, (g4.trans g5).lst e5, Ne.symm (ne_of_none ((g3.trans g4).lst R.row) np), by rw [upd_same, refs_app], fun x hx => ?_, e2⟩
        rcases List.mem_append.mp hx with hx | hx
        · exact (g4.trans g5).tkl tk x hx
        · exact g5.tkl tky x hx
    obtain ⟨o4, xs, y6, rfl, g3, e5, n4, e4, tk, ex⟩ := z
    -- the cuts
    have cut0 : Cut m L 0 (xs.map (·.1)) [] := ⟨List.nodup_nil, fun c hc => (nomatch hc), rfl, fun c hc => ⟨by rw [ex] at hc; exact mem_grid.mp hc, fun z => nomatch z⟩, fun a s ha hs => .inl (by rw [ex]; exact mem_grid.mpr ⟨ha, hs⟩)⟩
    have hx12 : xs.length ≤ 12 := by
      have e1 := congrArg List.length ex
      rw [List.length_map, gridTo_len] at e1
      omega
    have g3' : Gr (upd H r (.lst (rw4 a i0 s0 b0))) H1 := by rw [upd_self R.row]; exact g3
    clear g1 g2 n5r n4r no4
    refine ⟨_, rfl, k, 1, rfl, rfl, by omega, ((k - 1 : Nat) : Int), rfl, by omega, by omega, ?_⟩
    refine for_rangeN (n := k - 1) (fun u σ H1 => ∃ o4 o5 xs ys y8 y9 i s b, σ = [some (.ref r), some (vI m), some (vI L), some (vI k), some (.ref o4), some (.ref o5), y6, none, y8, y9, none, none, none, none, none, none, none] ∧ Gr (upd H r (.lst (rw4 a ((i : Nat) : Int) s b))) H1 ∧ o4 ≠ r ∧ H1 o4 = some (.lst (refs xs)) ∧ TkL H1 xs ∧ o5 ≠ r ∧ H1 o5 = some (.lst (refs ys)) ∧ TkL H1 ys ∧ Cut m L u (xs.map (·.1)) (ys.map (·.1)) ∧ xs.length ≤ 12)
      ⟨o4, o5, xs, [], none, none, i0, s0, b0, rfl, g3', n4, e4, tk, ?_, e5, fun x hx => (nomatch hx), cut0, hx12⟩ (fun u σ H1 hu z => ?_) (fun σ H1 z => ?_)
    · exact fun e => by
        rw [e, g3.lst R.row] at e5
        cases e5
    · obtain ⟨o4, o5, xs, ys, y8, y9, i, s1, b, rfl, g4, n4, e4, tk, n5, e5, tky, cu, hx12⟩ := z
      have R1 : Rw K H1 r a ns i s1 b := (R.upd i s1 b).gr g4
      have hpos : xs ≠ [] := fun z => cu.pos hI (by omega) (by rw [z]; rfl)
      refine ⟨_, rfl, _, rfl, r, a, ns, i, s1, b, o4, refs xs, rfl, e4, n4, by rw [refs_len]; exact List.length_pos_iff.mpr hpos, by rw [refs_len]; omega, R1, fun d v i' s' b' hv => ?_⟩
      obtain ⟨t, et, mt, rfl⟩ := refs_at hv
      have g5 := g4.row (l := rw4 a (i' : Int) s' b')
      have notL : ∀ ys, HO.lst (rw4 a (i : Int) s1 b) ≠ .tup ys := fun _ z => nomatch z
      have tk2 : TkL (upd H1 r (.lst (rw4 a (i' : Int) s' b'))) xs := tkl_upd tk R1.row notL
      have tky2 : TkL (upd H1 r (.lst (rw4 a (i' : Int) s' b'))) ys := tkl_upd tky R1.row notL
      have e42 : (upd H1 r (.lst (rw4 a (i' : Int) s' b'))) o4 = some (.lst (refs xs)) := by rw [upd_ne n4]; exact e4
      have e52 : (upd H1 r (.lst (rw4 a (i' : Int) s' b'))) o5 = some (.lst (refs ys)) := by rw [upd_ne n5]; exact e5
      have R2 : Rw K (upd H1 r (.lst (rw4 a (i' : Int) s' b'))) r a ns i' s' b' := R1.upd i' s' b'
      generalize hH2 : upd H1 r (.lst (rw4 a (i' : Int) s' b')) = H2 at *
      refine ⟨_, rfl, _, rfl, one_le, fun q nq => ?_⟩
      have g6 : Gr H2 (upd H2 q (.lst [.ref t.2])) := Gr.new nq
      have hy3 : ys.length ≤ 3 := by
        have := cu.len
        rw [List.length_map] at this
        omega
      refine ⟨o5, q, refs ys, refs [t], rfl, rfl, g6.lst e52, upd_same, by rw [refs_len, refs_len]; exact Nat.le_of_lt (small1000 (by show ys.length + 1 ≤ 1000; omega)), fun p np => ?_⟩
      rw [refs_app]
      have g7 := g6.trans (Gr.new (x := .lst (refs (ys ++ [t]))) np)
      have npr : p ≠ r := Ne.symm (ne_of_none (g6.lst R2.row) np)
      refine ⟨_, rfl, o4, rfl, ⟨_, SqL.of (g7.lst e42)⟩, fun D hD => ?_⟩
      have nDr : D ≠ r := Ne.symm (ne_of_none (g7.lst R2.row) hD)
      refine lcT_list (xs := xs) (fun x => decide (x ≠ t.1)) hD (g7.lst e42) (by omega) (fun t2 H3 Y N mt2 g8 hY hN => ?_) (fun H3 g8 e8 => ?_)
      · exact ⟨rfl, _, rfl, _, rfl, t2.2, t.2, t2.1, t.1, rfl, rfl, (g7.trans g8).tkl tk2 t2 mt2, (g7.trans g8).tkl tk2 t mt, _, rfl, ite2 (fun e => ⟨_, rfl, hY e H3 (Gr.refl _)⟩) (fun e => hN (Bool.eq_false_iff.mpr e) H3 (Gr.refl _))⟩
      · have g9 := g7.trans g8
        refine ⟨_, _, rfl, D, p, xs.filter (fun x => decide (x.1 ≠ t.1)), ys ++ [t], _, _, i', s', b', rfl, g5.trans g9, nDr, e8, fun x hx => g9.tkl tk2 x (List.mem_filter.mp hx).1, npr, g8.lst upd_same, fun x hx => ?_, ?_, ?_⟩
        · rcases List.mem_append.mp hx with hx | hx
          · exact g9.tkl tky2 x hx
          · rw [List.mem_singleton.mp hx]; exact g9.tkl tk2 t mt
        · rw [List.map_append, filter_map_fst (p := fun x => decide (x ≠ t.1))]
          exact cu.add (List.mem_map.mpr ⟨t, mt, rfl⟩)
        · exact Nat.le_trans (List.length_filter_le _ _) hx12
    obtain ⟨o4, o5, xs, ys, y8, y9, i, s1, b, rfl, g4, n4, e4, tk, n5, e5, tky, cu, hx12⟩ := z
    -- the order
    have R1 : Rw K H1 r a ns i s1 b := (R.upd i s1 b).gr g4
    refine ⟨_, rfl, k, rfl, RgOk.of_le (by omega) (by omega) (by omega) (by omega), fun o10 no10 => ⟨Nat.zero_le _, fun o11 no11 => ⟨_, _, rfl, ?_⟩⟩⟩
    rw [rgV_nat] at no11 ⊢
    have g5 : Gr H1 (upd H1 o10 (.lst (vsI (List.range k)))) := Gr.new no10
    have g6 := g5.trans (Gr.new (x := .lst []) no11)
    have ord0 : Ord k 0 (List.range k) [] := ⟨List.nodup_nil, fun c hc => (nomatch hc), rfl, fun c hc => ⟨List.mem_range.mp hc, fun z => nomatch z⟩, fun x hx => .inl (List.mem_range.mpr hx)⟩
    refine ⟨_, rfl, k, rfl, by omega, by omega, ?_⟩
    refine for_rangeN (n := k) (fun u σ H1 => ∃ o10 o11 l o y8 y9 i s b, σ = [some (.ref r), some (vI m), some (vI L), some (vI k), some (.ref o4), some (.ref o5), y6, none, y8, y9, some (.ref o10), some (.ref o11), none, none, none, none, none] ∧ Gr (upd H r (.lst (rw4 a ((i : Nat) : Int) s b))) H1 ∧ H1 o5 = some (.lst (refs ys)) ∧ TkL H1 ys ∧ o10 ≠ r ∧ H1 o10 = some (.lst (vsI l)) ∧ o11 ≠ r ∧ H1 o11 = some (.lst (vsI o)) ∧ Ord k u l o ∧ l.length ≤ 4)
      ⟨o10, o11, List.range k, [], y8, y9, i, s1, b, rfl, g4.trans g6, g6.lst e5, g6.tkl tky, Ne.symm (ne_of_none R1.row no10), (Gr.new no11).lst upd_same, Ne.symm (ne_of_none (g5.lst R1.row) no11), upd_same, ord0, by rw [List.length_range]; omega⟩ (fun u σ H1 hu z => ?_) (fun σ H1 z => ?_)
    · obtain ⟨o10, o11, l, o, y8, y9, i, s1, b, rfl, g4, e5, tky, n10, e10, n11, e11, od, hl4⟩ := z
      have R1 : Rw K H1 r a ns i s1 b := (R.upd i s1 b).gr g4
      have hpos : l ≠ [] := od.pos (by omega)
      refine ⟨_, rfl, _, rfl, r, a, ns, i, s1, b, o10, vsI l, rfl, e10, n10, by rw [len_vsI]; exact List.length_pos_iff.mpr hpos, by rw [len_vsI]; omega, R1, fun d v i' s' b' hv => ?_⟩
      obtain ⟨hd, rfl⟩ := at_vsI hv
      have mt := getD_mem hd
      generalize l.getD d 0 = t at *
      have g5 := g4.row (l := rw4 a (i' : Int) s' b')
      have notL : ∀ ys, HO.lst (rw4 a (i : Int) s1 b) ≠ .tup ys := fun _ z => nomatch z
      have tky2 : TkL (upd H1 r (.lst (rw4 a (i' : Int) s' b'))) ys := tkl_upd tky R1.row notL
      have e102 : (upd H1 r (.lst (rw4 a (i' : Int) s' b'))) o10 = some (.lst (vsI l)) := by rw [upd_ne n10]; exact e10
      have e112 : (upd H1 r (.lst (rw4 a (i' : Int) s' b'))) o11 = some (.lst (vsI o)) := by rw [upd_ne n11]; exact e11
      have e52 : (upd H1 r (.lst (rw4 a (i' : Int) s' b'))) o5 = some (.lst (refs ys)) := by rw [upd_ne n5]; exact e5
      have R2 : Rw K (upd H1 r (.lst (rw4 a (i' : Int) s' b'))) r a ns i' s' b' := R1.upd i' s' b'
      generalize hH2 : upd H1 r (.lst (rw4 a (i' : Int) s' b')) = H2 at *
      refine ⟨_, rfl, _, rfl, one_le, fun q nq => ?_⟩
      have g6 : Gr H2 (upd H2 q (.lst [vI t])) := Gr.new nq
      have ho := od.len
      refine ⟨o11, q, vsI o, vsI [t], rfl, rfl, g6.lst e112, upd_same, by rw [len_vsI, len_vsI]; exact Nat.le_of_lt (small1000 (by show o.length + 1 ≤ 1000; omega)), fun p np => ?_⟩
      have ecat : vsI o ++ vsI [t] = vsI (o ++ [t]) := vsI_snoc o t
      rw [ecat]
      have g7 := g6.trans (Gr.new (x := .lst (vsI (o ++ [t]))) np)
      have npr : p ≠ r := Ne.symm (ne_of_none (g6.lst R2.row) np)
      refine ⟨_, rfl, o10, rfl, ⟨_, SqL.of (g7.lst e102)⟩, fun D hD => ?_⟩
      have nDr : D ≠ r := Ne.symm (ne_of_none (g7.lst R2.row) hD)
      refine lcN_list (c := l) (fun x => decide (x ≠ t)) (fun x => x) hD (g7.lst e102) (by omega) (fun j H3 Y N hj g8 hY hN => ?_) (fun H3 g8 e8 => ?_)
      · exact ⟨rfl, _, rfl, _, rfl, _, t, rfl, rfl, _, rfl, ite2 (fun e => ⟨_, rfl, hY e H3 (Gr.refl _)⟩) (fun e => hN (Bool.eq_false_iff.mpr e) H3 (Gr.refl _))⟩
      · rw [map_id_nat] at e8
        have g9 := g7.trans g8
        exact ⟨_, _, rfl, D, p, l.filter (fun x => decide (x ≠ t)), o ++ [t], _, _, i', s', b', rfl, g5.trans g9, g9.lst e52, g9.tkl tky2, nDr, e8, npr, g8.lst upd_same, od.add mt, Nat.le_trans (List.length_filter_le _ _) hl4⟩
    obtain ⟨o10, o11, l, o, y8, y9, i, s1, b, rfl, g4, e5, tky, n10, e10, n11, e11, od, hl4⟩ := z
    -- the cells
    have perm : Perm k o := ⟨od.len, od.nd, od.lt⟩
    have hlen : (ys.map (·.1)).length + 1 = k := by rw [cu.len]; omega
    have can := can_cuts hI hk2 hkL (ys.map (·.1)) cu.nd cu.inn hlen
    have mok := map_ok hI hk2 hkL cu.nd cu.inn hlen perm
    generalize hq : cutP (ys.map (·.1)) = pp at *
    have hpp : ∀ a s, pp a s = decide ((a, s) ∈ ys.map (·.1)) := fun a s => by rw [← hq]; rfl
    have ho0 : 0 < o.length := by rw [od.len]; omega
    refine ⟨_, rfl, o11, o, 0, rfl, rfl, SqL.of e11, ho0, one_le, fun o12 no12 => ⟨_, _, rfl, ?_⟩⟩
    have g5 : Gr H1 (upd H1 o12 (.lst (vsI [nm o 0]))) := Gr.new no12
    have n12H := g4.non o12 no12
    have n12_11 : o11 ≠ o12 := ne_of_none e11 no12
    have n12_5 : o5 ≠ o12 := ne_of_none e5 no12
    refine ⟨_, rfl, m, rfl, by omega, by omega, ?_⟩
    refine for_rangeN (n := m) (fun u σ H2 => ∃ y6 y7 y14, σ = [some (.ref r), some (vI m), some (vI L), some (vI k), some (.ref o4), some (.ref o5), y6, y7, y8, y9, some (.ref o10), some (.ref o11), some (.ref o12), some (vI (pre L pp u).2), y14, none, none] ∧ Gr (upd H r (.lst (rw4 a ((i : Nat) : Int) s1 b))) H2 ∧ H2 o5 = some (.lst (refs ys)) ∧ TkL H2 ys ∧ H2 o11 = some (.lst (vsI o)) ∧ H2 o12 = some (.lst (vsI ((pre L pp u).1.map (nm o)))))
      ⟨y6, none, none, rfl, g4.trans g5, g5.lst e5, g5.tkl tky, g5.lst e11, upd_same⟩ (fun u σ H2 hu z => ?_) (fun σ H2 z => ?_)
    · obtain ⟨y6, y7, y14, rfl, g6, e5, tky, e11, e12⟩ := z
      refine ⟨_, rfl, o11, o, 0, rfl, rfl, SqL.of e11, ho0, ?_⟩
      refine ⟨_, rfl, L, rfl, by omega, by omega, ?_⟩
      refine for_rangeN (n := L) (fun v σ H3 => ∃ y7, σ = [some (.ref r), some (vI m), some (vI L), some (vI k), some (.ref o4), some (.ref o5), some (vI u), y7, y8, y9, some (.ref o10), some (.ref o11), some (.ref o12), some (vI (mid L pp u v).2.2), some (vI (nm o (mid L pp u v).2.1)), none, none] ∧ Gr (upd H r (.lst (rw4 a ((i : Nat) : Int) s1 b))) H3 ∧ H3 o5 = some (.lst (refs ys)) ∧ TkL H3 ys ∧ H3 o11 = some (.lst (vsI o)) ∧ H3 o12 = some (.lst (vsI ((mid L pp u v).1.map (nm o)))))
        ⟨y7, rfl, g6, e5, tky, e11, e12⟩ (fun v σ H3 hv z => ?_) (fun σ H3 z => ?_)
      · obtain ⟨y7, rfl, g7, e5, tky, e11, e12⟩ := z
        refine ⟨_, rfl, _, rfl, two_le, fun t nt => ?_⟩
        have g8 : Gr H3 (upd H3 t (.tup [vI u, vI v])) := Gr.new nt
        have hlen13 : ((mid L pp u v).1.map (nm o)).length < 1000 := by
          rw [List.length_map, mid_len, pre_len]
          have : u * L ≤ m * L := Nat.mul_le_mul_right L (by omega)
          omega
        have g9 := g7.trans g8
        refine ⟨_, rfl, t, o5, (u, v), ys, rfl, rfl, upd_same, g8.lst e5, g8.tkl tky, _, rfl, ite2 (fun e => ?_) (fun e => ?_)⟩
        · have hp : pp u v = true := by rw [hpp]; exact e
          have hus : (mid L pp u v).2.2 < o.length := by
            rw [od.len, ← can.used]
            exact used_lt hu hv hp
          have est : mid L pp u (v + 1) = ((mid L pp u v).1 ++ [(mid L pp u v).2.2], (mid L pp u v).2.2, (mid L pp u v).2.2 + 1) := by
            rw [mid_succ]
            unfold Star.stepI
            rw [if_pos hp]
          refine ⟨_, rfl, _, rfl, o11, o, _, rfl, rfl, SqL.of (g8.lst e11), hus, _, rfl, _, 1, rfl, rfl, _, _, rfl, ?_⟩
          refine ⟨_, rfl, .inl ⟨rfl, _, SqL.of (g8.lst e12)⟩, _, rfl, o12, _, nm o (mid L pp u v).2.2, rfl, rfl, g8.lst e12, hlen13, ?_⟩
          rw [est]
          refine ⟨_, rfl, g9.set n12H, ?_, tkl_upd (g8.tkl tky) (g8.lst e12) (fun _ z => nomatch z), ?_, ?_⟩
          · rw [upd_ne n12_5]; exact g8.lst e5
          · rw [upd_ne n12_11]; exact g8.lst e11
          · rw [upd_same, List.map_append]; rfl
        · have hp : pp u v = false := by rw [hpp]; exact Bool.eq_false_iff.mpr e
          have est : mid L pp u (v + 1) = ((mid L pp u v).1 ++ [(mid L pp u v).2.1], (mid L pp u v).2.1, (mid L pp u v).2.2) := by
            rw [mid_succ]
            unfold Star.stepI
            rw [if_neg (by rw [hp]; exact Bool.false_ne_true)]
          refine ⟨_, rfl, .inl ⟨rfl, _, SqL.of (g8.lst e12)⟩, _, rfl, o12, _, nm o (mid L pp u v).2.1, rfl, rfl, g8.lst e12, hlen13, ?_⟩
          rw [est]
          refine ⟨_, rfl, g9.set n12H, ?_, tkl_upd (g8.tkl tky) (g8.lst e12) (fun _ z => nomatch z), ?_, ?_⟩
          · rw [upd_ne n12_5]; exact g8.lst e5
          · rw [upd_ne n12_11]; exact g8.lst e11
          · rw [upd_same, List.map_append]; rfl
      · obtain ⟨y7, rfl, g7, e5, tky, e11, e12⟩ := z
        rw [show (mid L pp u L).2.2 = (pre L pp (u + 1)).2 by rw [pre_succ]]
        exact ⟨_, y7, _, rfl, g7, e5, tky, e11, by rw [pre_succ]; exact e12⟩
    · obtain ⟨y6, y7, y14, rfl, g6, e5, tky, e11, e12⟩ := z
      refine ⟨_, rfl, _, rfl, o12, _, rfl, .inl ⟨SqL.of e12, fun q nq => ⟨two_le, fun p np => ?_⟩⟩⟩
      have g7 : Gr H2 (upd H2 q (.tup (vsI ((pre L pp m).1.map (nm o))))) := Gr.new nq
      have g8 : Gr _ (upd (upd H2 q (.tup (vsI ((pre L pp m).1.map (nm o))))) p (.tup [vI m, .ref q])) := Gr.new np
      exact kq _ i s1 b p _ ((g6.trans g7).trans g8) mok ⟨q, upd_same, g8.tup upd_same⟩
end
end Sl
set_option Elab.async false
set_option linter.all false
set_option maxRecDepth 100000
set_option maxHeartbeats 8000000
namespace Sl
open PySem PySem.Spec PyProof.Rows L2 Star DX
/-! ### _law_alike -/
theorem nEqNil {X : Cx} (hu : X.A.units + 64 < cLine) : OpR X (compareOp .Eq) (fun x y H Q => ∃ p q l, x = .ref p ∧ y = .ref q ∧ H p = some (.lst (vsI l)) ∧ H q = some (.lst []) ∧ Q (.bl (decide (l = []))) H) := fun pins s σ H x y v u Q I rx ry ⟨p, q, l, e1, e2, h1, h2, k⟩ => by
  subst e1 e2
  refine op_eqD hu pins s σ H _ _ v u Q I rx ry ⟨.list (intsD l), .list (intsD []), .lst (SqL.of h1) (dp_ints l), .lst (SqL.of h2) (dp_ints []), shaped_ints l, shaped_ints [], ?_⟩
  have e : (PyData.eqv (.list (intsD l)) (.list (intsD []))) = decide (l = []) := by
    cases l with
    | nil => rfl
    | cons a r => rfl
  rw [e]
  exact k
theorem kitTL_tuple {K : PySem.W.Frag} : PySem.W.kitAny K (.type "tuple") [.type "tuple", .type "list"] = some true := kitAny_cons (kit_ty (r := true) (by decide +kernel)) (fun z => nomatch z) (fun _ => rfl)
theorem kitTL_int {K : PySem.W.Frag} : PySem.W.kitAny K (.type "int") [.type "tuple", .type "list"] = some false := kitAny_cons (kit_ty (r := false) (by decide +kernel)) (fun _ => kitAny_cons (kit_ty (r := false) (by decide +kernel)) (fun _ => kitAny_nil) (fun z => nomatch z)) (fun z => nomatch z)
theorem kitTL_bool {K : PySem.W.Frag} : PySem.W.kitAny K (.type "bool") [.type "tuple", .type "list"] = some false := kitAny_cons (kit_ty (r := false) (by decide +kernel)) (fun _ => kitAny_cons (kit_ty (r := false) (by decide +kernel)) (fun _ => kitAny_nil) (fun z => nomatch z)) (fun z => nomatch z)
section
variable {P : Program} {w : World} {K : PySem.W.Frag} {mg : Str → Option Value} {base : Heap}
abbrev N__law_alike : List Str := ["_law_found", "_law_due", "_law_k"]
theorem sc__law_alike : FnScope N__law_alike ["_law_found", "_law_due"] (defScope (topS 34)) := ⟨rfl, rfl, rfl, by decide +kernel, rfl, by decide +kernel, by decide +kernel⟩
/-- items that spI compares -/
def Items (spI : Sp) (H : Hp) (x y : V) : Prop := ∃ (p q : Addr) (xs ys : List V), x = .ref p ∧ y = .ref q ∧ H p = some (.tup xs) ∧ H q = some (.tup ys) ∧ xs.length = ys.length ∧ ys.length < 1000 ∧
  ∀ (i : Nat) (x y : V) (H' : Hp) (Q' : VK), xs[i]? = some x → ys[i]? = some y → Gr H H' → (∀ H'', Gr H' H'' → Q' (.bl true) H'') → spI [x, y] H' Q' fun _ _ _ => False
def spAl (spI : Sp) : Sp := fun vs H Q _ => ∃ x y : V, vs = [x, y] ∧ ((∃ i : Int, x = .int i ∧ y = .int i) ∨ (∃ b : Bool, x = .bl b ∧ y = .bl b) ∨ Items spI H x y) ∧ ∀ H', Gr H H' → Q (.bl true) H'
theorem ok__law_alike {spI : Sp} {k : Nat} {f : Addr} {fd : FuncData} (F : Fun K "_law_alike" "_law_alike" (topS 34) f fd) (m_isinstance : mg "isinstance" = none) (m_tuple : mg "tuple" = none) (m_list : mg "list" = none) (m_len : mg "len" = none) (m_range : mg "range" = none) (m_str : mg "str" = none) (m_int : mg "int" = none) (m_bool : mg "bool" = none)
    (c__law_alike : Cal P w K mg base k "_law_alike" ["_law_found", "_law_due"] spI) : FnOk P w K mg base CX0 (k + 1) f fd ["_law_found", "_law_due"] (spAl spI) := by
  have nd := sc__law_alike.nd
  refine F.ok sc__law_alike (fun vs H Q E h => ?_) (fun cdv A outer s H vs Q E hr h => ?_)
  · obtain ⟨_, _, rfl, _⟩ := h; rfl
  · obtain ⟨x, y, rfl, hxy, kq⟩ := h
    refine ⟨_, (pss_cons (ps_if (pt_val (pe_callB call_isiT (by rfl) m_isinstance (by decide +kernel) (pa_cons (pv 1) (pa_cons (pe_tup (pa_cons (pe_bltn (v := .ty "tuple") (by rfl) m_tuple (by decide +kernel) rfl) (pa_cons (pe_bltn (v := .ty "list") (by rfl) m_list (by decide +kernel) rfl) pa_nil))) pa_nil)))) (pss_cons (ps_if (PW.pt (pw_or (pt_not (pt_val (pe_callB call_isiT (by rfl) m_isinstance (by decide +kernel) (pa_cons (pv 0) (pa_cons (pe_tup (pa_cons (pe_bltn (v := .ty "tuple") (by rfl) m_tuple (by decide +kernel) rfl) (pa_cons (pe_bltn (v := .ty "list") (by rfl) m_list (by decide +kernel) rfl) pa_nil))) pa_nil))))) (pw_or1 (pt_cmpR op_ne (pe_callB call_isi (by rfl) m_isinstance (by decide +kernel) (pa_cons (pv 0) (pa_cons (pe_bltn (v := .ty "list") (by rfl) m_list (by decide +kernel) rfl) pa_nil))) (pe_callB call_isi (by rfl) m_isinstance (by decide +kernel) (pa_cons (pv 1) (pa_cons (pe_bltn (v := .ty "list") (by rfl) m_list (by decide +kernel) rfl) pa_nil))) (nomark _))))) (pss_one (ps_ret pe_bl)) pss_nil)
      (pss_cons (ps_if (pt_cmpR nNe (pe_callB call_len_seq (by rfl) m_len (by decide +kernel) (pa_cons (pv 0) pa_nil)) (pe_callB call_len_seq (by rfl) m_len (by decide +kernel) (pa_cons (pv 1) pa_nil)) (nomark _)) (pss_one (ps_ret pe_bl)) pss_nil)
      (pss_one (ps_ret (pe_cmpR (nEqNil hr.units) (pe_lc (own := [("_law_k", 2)]) rfl nd (pi_range1 (by rfl) m_range (pa_cons (pe_callB call_len_seq (by rfl) m_len (by decide +kernel) (pa_cons (pv 1) pa_nil)) pa_nil)) (blkOk_by (own := [("_law_k", 2)]) (N := N__law_alike) (sc := defScope (topS 34)) (by decide +kernel)) (fun _ _ _ _ _ => (pg_name (i := 2) nd rfl (Or.inl rfl))) (fun _ _ _ _ _ => pts_one (pt_not (pt_val (pcall c__law_alike hr (Nat.le_refl _) (by rfl) (pa_cons (pe_ix (ix_tupk K) (pv 0) (pv 2) (fun _ _ => rfl)) (pa_cons (pe_ix (ix_tupk K) (pv 1) (pv 2) (fun _ _ => rfl)) pa_nil)))))) (fun _ _ _ _ _ => (pv 2))) (pe_lst pa_nil) (nomark _)))))) pss_nil)
      (pss_cons (ps_if (PW.pt (pw_or (pt_cmp (pc_isN (pv 1))) (pw_or1 (pt_val (pe_callB call_isi (by rfl) m_isinstance (by decide +kernel) (pa_cons (pv 1) (pa_cons (pe_bltn (v := .ty "str") (by rfl) m_str (by decide +kernel) rfl) pa_nil))))))) (pss_one ps_never) pss_nil)
      (pss_one (ps_ret (pe_and (pe_callB call_isi (by rfl) m_isinstance (by decide +kernel) (pa_cons (pv 0) (pa_cons (pe_bltn (v := .ty "int") (by rfl) m_int (by decide +kernel) rfl) pa_nil))) (pe_and (pe_cmpR op_eq (pe_callB call_isi (by rfl) m_isinstance (by decide +kernel) (pa_cons (pv 0) (pa_cons (pe_bltn (v := .ty "bool") (by rfl) m_bool (by decide +kernel) rfl) pa_nil))) (pe_callB call_isi (by rfl) m_isinstance (by decide +kernel) (pa_cons (pv 1) (pa_cons (pe_bltn (v := .ty "bool") (by rfl) m_bool (by decide +kernel) rfl) pa_nil))) (nomark _)) (pe_one (pe_cmpR op_eq (pv 0) (pv 1) (nomark _))))))))), ?_⟩
    rcases hxy with ⟨i, rfl, rfl⟩ | ⟨b, rfl, rfl⟩ | ⟨p, q, xs, ys, rfl, rfl, hp, hq, hl, hl2, hI⟩
    · refine ⟨_, rfl, two_le, fun t nt => ⟨_, t, _, _, _, false, rfl, upd_same, .cons (.ty _) (.cons (.ty _) .nil), .base (.int i), kitTL_int, false, rfl, iteF ?_⟩⟩
      refine ⟨_, rfl, _, rfl, iteD (fun z => nomatch z) ?_⟩
      refine ⟨_, rfl, _, _, _, _, false, rfl, .ty _, .base (.int i), kit_ty (by decide +kernel), false, rfl, iteF ?_⟩
      refine ⟨_, rfl, _, _, _, _, true, rfl, .ty _, .base (.int i), kit_ty (by decide +kernel), true, rfl, iteT ?_⟩
      refine ⟨_, rfl, _, _, _, _, false, rfl, .ty _, .base (.int i), kit_ty (by decide +kernel), _, rfl, _, _, _, _, false, rfl, .ty _, .base (.int i), kit_ty (by decide +kernel), rfl, _, rfl, iteP rfl ?_⟩
      refine ⟨_, rfl, _, rfl, rfl, ?_⟩
      rw [decide_eq_true rfl]
      exact kq _ (Gr.new nt)
    · refine ⟨_, rfl, two_le, fun t nt => ⟨_, t, _, _, _, false, rfl, upd_same, .cons (.ty _) (.cons (.ty _) .nil), .base (.bl b), kitTL_bool, false, rfl, iteF ?_⟩⟩
      refine ⟨_, rfl, _, rfl, iteD (fun z => nomatch z) ?_⟩
      refine ⟨_, rfl, _, _, _, _, false, rfl, .ty _, .base (.bl b), kit_ty (by decide +kernel), false, rfl, iteF ?_⟩
      refine ⟨_, rfl, _, _, _, _, true, rfl, .ty _, .base (.bl b), kit_ty (by decide +kernel), true, rfl, iteT ?_⟩
      refine ⟨_, rfl, _, _, _, _, true, rfl, .ty _, .base (.bl b), kit_ty (by decide +kernel), _, rfl, _, _, _, _, true, rfl, .ty _, .base (.bl b), kit_ty (by decide +kernel), rfl, _, rfl, iteP rfl ?_⟩
      refine ⟨_, rfl, _, rfl, rfl, ?_⟩
      rw [decide_eq_true rfl]
      exact kq _ (Gr.new nt)
    · refine ⟨_, rfl, two_le, fun t nt => ⟨_, t, _, _, _, true, rfl, upd_same, .cons (.ty _) (.cons (.ty _) .nil), .base (.tup ((Gr.new nt).tup hq)), kitTL_tuple, true, rfl, iteT ?_⟩⟩
      have g1 : Gr H (upd H t (.tup [.ty "tuple", .ty "list"])) := Gr.new nt
      refine ⟨_, rfl, two_le, fun t2 nt2 => ⟨_, t2, _, _, _, true, rfl, upd_same, .cons (.ty _) (.cons (.ty _) .nil), .base (.tup ((g1.trans (Gr.new nt2)).tup hp)), kitTL_tuple, true, rfl, iteF ?_⟩⟩
      have g2 := g1.trans (Gr.new (x := .tup [.ty "tuple", .ty "list"]) nt2)
      refine ⟨_, rfl, _, _, _, _, false, rfl, .ty _, .base (.tup (g2.tup hp)), kit_ty (by decide +kernel), _, rfl, _, _, _, _, false, rfl, .ty _, .base (.tup (g2.tup hq)), kit_ty (by decide +kernel), rfl, _, rfl, iteF ?_⟩
      refine ⟨_, rfl, p, xs, rfl, .inr (SqT.of (g2.tup hp)), _, rfl, q, ys, rfl, .inr (SqT.of (g2.tup hq)), xs.length, ys.length, rfl, rfl, _, rfl, iteD (fun z => z hl) ?_⟩
      refine ⟨_, rfl, q, ys, rfl, .inr (SqT.of (g2.tup hq)), ((ys.length : Nat) : Int), rfl, by omega, by omega, fun D hD => ?_⟩
      refine lcN_rng (n := ys.length) (fun _ => false) (fun x => x) hD hl2 (fun i H1 Y N hi g3 hY hN => ?_) (fun H1 g3 e3 => ?_)
      · have g4 := g2.trans g3
        have ex : xs[i]? = some (xs[i]'(by omega)) := List.getElem?_eq_getElem (by omega)
        have ey : ys[i]? = some ys[i] := List.getElem?_eq_getElem hi
        refine ⟨rfl, _, rfl, _, rfl, p, xs, _, _, rfl, rfl, SqT.of (g4.tup hp), atI_nat ex, _, rfl, _, rfl, q, ys, _, _, rfl, rfl, SqT.of (g4.tup hq), atI_nat ey, ?_⟩
        exact hI i _ _ H1 _ ex ey g4 fun H2 g5 => ⟨true, rfl, iteF (hN rfl H2 g5)⟩
      · refine ⟨Nat.zero_le _, fun u nu => ?_⟩
        have e4 : (((List.range ys.length).filter fun _ => false).map fun x => x) = [] := by
          rw [List.filter_eq_nil_iff.mpr fun _ _ => Bool.false_ne_true]
          rfl
        rw [e4] at e3
        have g5 : Gr H1 (upd H1 u (.lst [])) := Gr.new nu
        refine ⟨D, u, [], rfl, rfl, g5.lst e3, upd_same, ?_⟩
        exact kq _ ((g2.trans g3).trans g5)
theorem dead {f : Addr} {fd : FuncData} (ps : List Str) : FnOk P w K mg base CX0 0 f fd ps (fun _ _ _ _ => False) := ⟨fun _ _ _ _ h => h.elim, fun _ _ _ _ _ _ _ _ _ _ _ _ _ h => h.elim⟩
def spA1 : Sp := spAl fun _ _ _ _ => False
def spA2 : Sp := spAl spA1
def spA3 : Sp := spAl spA2
/-- equal tuples of naturals -/
theorem items_nat {s : Sp} {H : Hp} {p q : Addr} {l : List Nat} (h1 : H p = some (.tup (vsI l))) (h2 : H q = some (.tup (vsI l))) (hl : l.length < 1000) : Items (spAl s) H (.ref p) (.ref q) :=
  ⟨p, q, _, _, rfl, rfl, h1, h2, rfl, by rw [len_vsI]; exact hl, fun i x y H' Q' ex ey g k => by
    obtain ⟨hi, rfl⟩ := at_vsI ex
    obtain ⟨_, rfl⟩ := at_vsI ey
    exact ⟨_, _, rfl, .inl ⟨_, rfl, rfl⟩, k⟩⟩
theorem pair_items {H : Hp} {p q : Addr} {t : Nat × Nat} (h1 : TkAt H t p) (h2 : TkAt H t q) : Items (spAl s) H (.ref p) (.ref q) :=
  items_nat (l := [t.1, t.2]) h1 h2 (by show 2 < 1000; decide)
/-- equal tuples of pairs -/
theorem items_tks {H : Hp} {p q : Addr} {xs ys : List Tk} (h1 : H p = some (.tup (refs xs))) (h2 : H q = some (.tup (refs ys))) (t1 : TkL H xs) (t2 : TkL H ys) (e : xs.map (·.1) = ys.map (·.1)) (hl : ys.length < 1000) : Items spA2 H (.ref p) (.ref q) := by
  have el : xs.length = ys.length := by
    have := congrArg List.length e
    rw [List.length_map, List.length_map] at this
    exact this
  refine ⟨p, q, _, _, rfl, rfl, h1, h2, by rw [refs_len, refs_len]; exact el, by rw [refs_len]; exact hl, fun i x y H' Q' ex ey g k => ?_⟩
  obtain ⟨s, es, ms, rfl⟩ := refs_at ex
  obtain ⟨t, et, mt, rfl⟩ := refs_at ey
  have est : s.1 = t.1 := by
    have h3 : (xs.map (·.1))[i]? = some s.1 := by rw [List.getElem?_map, es]; rfl
    have h4 : (ys.map (·.1))[i]? = some t.1 := by rw [List.getElem?_map, et]; rfl
    rw [e, h4] at h3
    exact (Option.some.inj h3).symm
  refine ⟨_, _, rfl, .inr (.inr (pair_items (t := t.1) ?_ (g.tup (t2 t mt)))), k⟩
  have := g.tup (t1 s ms)
  rw [est] at this
  exact this
end
end Sl
set_option Elab.async false
set_option linter.all false
set_option maxRecDepth 100000
namespace Sl
open PySem PySem.Spec PyProof.Rows L2 Star DX
/-! sets of small naturals -/
def castL (c : List Nat) : List Int := c.map fun (n : Nat) => (n : Int)
theorem mem_castL {c : List Nat} {x : Nat} : ((x : Int) ∈ castL c) ↔ x ∈ c := by
  unfold castL
  rw [List.mem_map]
  constructor
  · intro ⟨y, hy, e⟩
    have : y = x := by omega
    rw [← this]; exact hy
  · intro h
    exact ⟨x, h, rfl⟩
theorem castL_V (c : List Nat) : (castL c).map V.int = vsI c := by
  unfold castL
  rw [List.map_map]
  rfl
theorem of_castL {ks : List Int} {c : List Nat} (h : ∀ k, k ∈ ks → k ∈ castL c) : ks = castL (ks.map Int.toNat) := by
  unfold castL
  rw [List.map_map]
  conv => lhs; rw [← List.map_id ks]
  refine List.map_congr_left fun k hk => ?_
  obtain ⟨n, _, e⟩ := List.mem_map.mp (h k hk)
  show k = ((k.toNat : Nat) : Int)
  rw [← e]
  rfl
def SetN (w : World) (a : Addr) (c : List Nat) (n : Nat) : HO := SetO w a (fun j => decide (j ∈ castL c)) n
section
variable {X : Cx} (K : PySem.W.Frag) (w : World)
theorem nSetS (hc : X.calm = true) (hK : X.K = K := by rfl) (hw : X.w = w := by rfl) : CallR X (.type "set") (fun vs H Q => ∃ (p : Addr) (c : List Nat), vs = [.ref p] ∧ (SqL K H p (vsI c) ∨ (SqT K H p (vsI c) ∧ c.length ≤ 1000)) ∧ (∀ x ∈ c, x < 10) ∧
    ∀ (a : Addr) (ks : List Nat), H a = none → ks.Nodup → (∀ x, x ∈ ks ↔ x ∈ c) → Q (.ref a) (upd H a (SetN w a c ks.length))) := by
  subst hK hw
  intro pins s σ H vs us Q I r ⟨p, c, e, hq, hs, q⟩
  refine SX2.cr_setS hc pins s σ H vs us Q I r ⟨p, castL c, e, by rw [castL_V]; unfold castL; rw [List.length_map]; exact hq, fun z hz => ?_, fun a n ha hn ⟨ks, k1, k2, k3⟩ => ?_⟩
  · obtain ⟨x, hx, rfl⟩ := List.mem_map.mp hz
    have := hs x hx
    omega
  · have e2 := of_castL fun k hk => (k3 k).mp hk
    have hl : (ks.map Int.toNat).length = n := by rw [List.length_map]; exact k2
    have := q a (ks.map Int.toNat) ha ?_ fun x => ?_
    · rw [hl] at this
      exact this
    · rw [e2] at k1
      generalize ks.map Int.toNat = l at *
      clear e2 hl
      induction l with
      | nil => exact List.nodup_nil
      | cons a l ih =>
        unfold castL at k1
        rw [List.map_cons, List.nodup_cons] at k1
        exact List.nodup_cons.mpr ⟨fun z => k1.1 (mem_castL.mpr z), ih k1.2⟩
    · rw [← mem_castL (c := c), ← k3 (x : Int)]
      conv => rhs; rw [e2]
      exact mem_castL.symm
theorem nSortSet (hc : X.calm = true) (hw : X.w = w := by rfl) : CallR X (.builtin "sorted") (fun vs H Q => ∃ (a : Addr) (c : List Nat) (n : Nat), vs = [.ref a] ∧ H a = some (SetN w a c n) ∧ n < 64 ∧ ∀ (ns : List Nat) (p : Addr), ns.Pairwise (· < ·) → (∀ x, x ∈ ns ↔ x ∈ c) → H p = none → Q (.ref p) (upd H p (.lst (vsI ns)))) := by
  subst hw
  intro pins s σ H vs us Q I r ⟨a, c, n, e, ha, hn, q⟩
  refine cr_sortedSet hc pins s σ H vs us Q I r ⟨a, _, n, e, ha, hn, fun ns p k1 k2 k3 np => ?_⟩
  have e2 := of_castL (c := c) fun k hk => of_decide_eq_true ((k2 k).mp hk)
  have := q (ns.map Int.toNat) p ?_ (fun x => ?_) np
  · rw [e2, castL_V]
    exact this
  · rw [e2] at k1
    unfold castL at k1
    rw [List.pairwise_map] at k1
    exact k1.imp fun h => by omega
  · have h1 := k2 (x : Int)
    rw [decide_eq_true_eq, mem_castL] at h1
    rw [← h1]
    conv => rhs; rw [e2]
    exact mem_castL.symm
theorem nEqSet (hu : X.A.units < cLine) (hw : X.w = w := by rfl) : OpR X (compareOp .Eq) (fun x y H Q => ∃ a b c d n m, x = .ref a ∧ y = .ref b ∧ H a = some (SetN w a c n) ∧ H b = some (SetN w b d m) ∧ ∀ r : Bool, (r = true ↔ n = m ∧ ∀ x ∈ c, x ∈ d) → Q (.bl r) H) := by
  subst hw
  intro pins s σ H x y v u Q I rx ry ⟨a, b, c, d, n, m, e1, e2, h1, h2, q⟩
  refine SX2.op_eqSet hu pins s σ H x y v u Q I rx ry ⟨a, b, _, _, n, m, e1, e2, h1, h2, fun r hr => q r (hr.trans (and_congr_right fun _ => ?_))⟩
  constructor
  · intro h x hx
    have := h (x : Int) (decide_eq_true (mem_castL.mpr hx))
    exact mem_castL.mp (of_decide_eq_true this)
  · intro h k hk
    have hk2 := of_decide_eq_true hk
    obtain ⟨x, hx, rfl⟩ := List.mem_map.mp hk2
    exact decide_eq_true (mem_castL.mpr (h x hx))
end
/-- the bare arm by sets -/
theorem bare_set {L : Nat} {c : List Nat} {a : Nat} {ks : List Nat} (hL : 0 < L) (nd : ks.Nodup) (hm : ∀ x, x ∈ ks ↔ x ∈ armC L c a) : (ks.length = 1 ∧ ∀ x ∈ armC L c a, x ∈ [c.getD 0 0]) ↔ bareB L c a = true := by
  rw [armC_bare]
  constructor
  · intro ⟨_, h⟩ i hi
    exact List.mem_singleton.mp (h _ (getD_mem (by rw [armC_len]; exact hi)))
  · intro h
    have h2 : ∀ x ∈ armC L c a, x = c.getD 0 0 := fun x hx => by
      obtain ⟨i, hi, e⟩ := mem_getD hx
      rw [armC_len] at hi
      rw [← e]
      exact h i hi
    refine ⟨?_, fun x hx => List.mem_singleton.mpr (h2 x hx)⟩
    have hin : c.getD 0 0 ∈ ks := by
      rw [hm, ← h 0 hL]
      exact getD_mem (by rw [armC_len]; exact hL)
    have l1 := nodup_len ks [c.getD 0 0] nd fun x hx => List.mem_singleton.mpr (h2 x ((hm x).mp hx))
    have l2 := List.length_pos_of_mem hin
    rw [List.length_singleton] at l1
    omega
/-- two rising lists with the same members -/
theorem rise_eq : ∀ {l m : List Nat}, l.Pairwise (· < ·) → m.Pairwise (· < ·) → (∀ x, x ∈ l ↔ x ∈ m) → l = m
  | [], [], _, _, _ => rfl
  | [], b :: m, _, _, h => nomatch (h b).mpr List.mem_cons_self
  | a :: l, [], _, _, h => nomatch (h a).mp List.mem_cons_self
  | a :: l, b :: m, h1, h2, h => by
    rw [List.pairwise_cons] at h1 h2
    have e : a = b := by
      rcases List.mem_cons.mp ((h a).mp List.mem_cons_self) with e | e
      · exact e
      · rcases List.mem_cons.mp ((h b).mpr List.mem_cons_self) with e2 | e2
        · exact e2.symm
        · have := h1.1 b e2
          have := h2.1 a e
          omega
    subst e
    congr 1
    refine rise_eq h1.2 h2.2 fun x => ?_
    constructor
    · intro hx
      rcases List.mem_cons.mp ((h x).mp (List.mem_cons_of_mem _ hx)) with e | e
      · have := h1.1 x hx
        omega
      · exact e
    · intro hx
      rcases List.mem_cons.mp ((h x).mpr (List.mem_cons_of_mem _ hx)) with e | e
      · have := h2.1 x hx
        omega
      · exact e
theorem range_rise (k : Nat) : (List.range k).Pairwise (· < ·) := List.pairwise_lt_range
theorem rise_nodup {l : List Nat} (h : l.Pairwise (· < ·)) : l.Nodup := h.imp fun h => by omega
end Sl
set_option Elab.async false
set_option linter.all false
set_option maxRecDepth 100000
namespace Sl
open PySem PySem.Spec PyProof.Rows L2 Star DX
theorem cut_law {A L : Nat} {c : List Nat} {a : Nat} (h : c.length = A * L + 1) (ha : a < A) (hL : 0 < L) : cutV (vsI c) (some ((1 + a * L : Nat) : Int)) (some ((1 + a * L + L : Nat) : Int)) = vsI (armC L c a) ∧
    ¬ (HT.sIx (vsI c).length 0 (some ((1 + a * L : Nat) : Int)) = 0 ∧ HT.sIx (vsI c).length (vsI c).length (some ((1 + a * L + L : Nat) : Int)) = (vsI c).length) := by
  have := cut_vsI h ha hL
  rw [show 1 + (a + 1) * L = 1 + a * L + L by rw [Nat.add_mul]; omega] at this
  exact this
theorem Gr.unlock {H H' : Hp} {d : Addr} {phi : Heap → Prop} {od : Obj} (hd : H d = some (.ext phi)) (g : Gr (upd H d (.frz od (.ext phi))) H') : Gr H (upd H' d (.ext phi)) := by
  refine ⟨fun b x h q => ?_, fun P h => ?_, fun b h => ?_⟩
  · by_cases e : b = d
    · rw [e, upd_same]; rw [e, hd] at h; exact h
    · rw [upd_ne e]; exact g.keep b x (by rw [upd_ne e]; exact h) q
  · obtain ⟨ps, h1, h2⟩ := h
    have e : P ≠ d := fun e => by rw [e, hd] at h1; cases h1
    obtain ⟨qs, h3, h4⟩ := g.tab P ⟨ps, by rw [upd_ne e]; exact h1, h2⟩
    exact ⟨qs, by rw [upd_ne e]; exact h3, h4⟩
  · by_cases e : b = d
    · rw [e, upd_same] at h; cases h
    · rw [upd_ne e] at h
      have := g.non b h
      rw [upd_ne e] at this
      exact this
section
variable {P : Program} {w : World} {g : TG} {tt : TT} {te : TE} {vs : List Nat} {σ : L2.St} {H1 : Hp} {D : Addr} {Qd : Hp → Prop}
/-- a comprehension over the charts found -/
theorem lcC {d : Addr} {od : Obj} {A : Nat} {kvs : List Ent} (f : List Nat → Nat) (hD : H1 D = none) (hd0 : H1 d = some (.frz od (DC P w A d kvs))) (hc : kvs.length ≤ 262144)
    (hs : ∀ e H (Y : V → Hp → Prop) (N : Hp → Prop), e ∈ kvs → Gr H1 H → (∀ H4, Gr H H4 → Y (vI (f e.1)) H4) →
      g (.ref e.2.1) (wipe σ vs) H fun σ2 H2 => wipe σ2 vs = wipe σ vs ∧ tt σ2 H2 fun b H3 => if b = true then te σ2 H3 Y else N H3)
    (hd : ∀ H, Gr H1 H → H D = some (.lst (vsI (kvs.map fun e => f e.1))) → Qd H) :
    ∃ W : Nat → Nat → Hp → Prop, (∃ m, W 0 m (upd H1 D (.lst []))) ∧ ∀ i m H, W i m H →
      ((Itc P w d od A kvs).stop i H ∧ Qd H) ∨ ((Itc P w d od A kvs).go i H ∧ ∃ Nx : Hp → Prop, (∀ H', Nx H' → ∃ m', m' < m ∧ W (i + 1) m' H') ∧ ∀ x H', (Itc P w d od A kvs).yld i H x H' → g x (wipe σ vs) H' fun σ2 H2 => wipe σ2 vs = wipe σ vs ∧ tt σ2 H2 fun b H3 =>
        if b = true then te σ2 H3 fun y H4 => ∃ acc, H4 D = some (.lst acc) ∧ acc.length < sizeLine ∧ Nx (upd H4 D (.lst (acc ++ [y]))) else Nx H3) := by
  refine ⟨fun i m H => m = kvs.length - i ∧ i ≤ kvs.length ∧ Gr H1 H ∧ H D = some (.lst (vsI ((kvs.take i).map fun e => f e.1))), ⟨kvs.length, by simp, Nat.zero_le _, Gr.new hD, upd_same⟩, ?_⟩
  rintro i m H ⟨rfl, hi, gr, e⟩
  have hdH : H d = some (.frz od (DC P w A d kvs)) := gr.keep d _ hd0 fun _ z => nomatch z
  by_cases hlt : i < kvs.length
  · refine .inr ⟨⟨hdH, hlt⟩, fun H' => Gr H1 H' ∧ H' D = some (.lst (vsI ((kvs.take (i + 1)).map fun e => f e.1))), fun H' p' => ⟨kvs.length - (i + 1), by omega, rfl, hlt, p'.1, p'.2⟩, fun x H' y => ?_⟩
    obtain ⟨rfl, c, p, z, ek, rfl⟩ := y
    refine hs (c, p, z) _ _ _ (List.mem_of_getElem? ek) gr fun H4 g4 => ⟨_, g4.lst e, ?_, (gr.trans g4).set hD, ?_⟩
    · rw [len_vsI, List.length_map, List.length_take]
      exact few_line (by omega)
    · rw [upd_same, vsI_snoc, take_snocG ek, List.map_append]
      rfl
  · have e2 : i = kvs.length := by omega
    subst e2
    rw [List.take_length] at e
    exact .inl ⟨⟨hdH, Nat.le_refl _⟩, hd H gr e⟩
/-- a loop over the charts found that only looks -/
theorem forC {g : TG} {tb : TS} {D : Ends} {σ : L2.St} {d : Addr} {od : Obj} {A : Nat} {kvs : List Ent} (Pv : L2.St → Hp → Prop) (h0 : Pv σ H1) (hl : ∀ σ H, Pv σ H → H d = some (.frz od (DC P w A d kvs)))
    (hs : ∀ e σ H, e ∈ kvs → Pv σ H → g (.ref e.2.1) σ H fun σ2 H2 => tb { D with nx := Pv, ct := Pv, bk := D.nx } σ2 H2) (hd : ∀ σ H, Pv σ H → D.nx σ H) :
    ∃ W : Nat → Nat → L2.St → Hp → Prop, (∃ m, W 0 m σ H1) ∧ ∀ i m σ H, W i m σ H →
      ((Itc P w d od A kvs).stop i H ∧ D.nx σ H) ∨ ((Itc P w d od A kvs).go i H ∧ ∃ N : L2.St → Hp → Prop, (∀ σ' H', N σ' H' → ∃ m', m' < m ∧ W (i + 1) m' σ' H') ∧ ∀ x H', (Itc P w d od A kvs).yld i H x H' → g x σ H' fun σ2 H2 => tb { D with nx := N, ct := N, bk := D.nx } σ2 H2) := by
  refine ⟨fun i m σ H => m = kvs.length - i ∧ i ≤ kvs.length ∧ Pv σ H, ⟨kvs.length, by simp, Nat.zero_le _, h0⟩, ?_⟩
  rintro i m σ H ⟨rfl, hi, p⟩
  have hdH := hl σ H p
  by_cases hlt : i < kvs.length
  · refine .inr ⟨⟨hdH, hlt⟩, Pv, fun σ' H' p' => ⟨kvs.length - (i + 1), by omega, rfl, hlt, p'⟩, fun x H' y => ?_⟩
    obtain ⟨rfl, c, p2, z, ek, rfl⟩ := y
    exact hs (c, p2, z) σ _ (List.mem_of_getElem? ek) p
  · exact .inl ⟨⟨hdH, by omega⟩, hd σ H p⟩
end
/-- lists of naturals at addresses -/
abbrev Lk : Type := List Nat × Addr
def lrefs (xs : List Lk) : List V := xs.map fun x => V.ref x.2
def LkL (H : Hp) (xs : List Lk) : Prop := ∀ x ∈ xs, H x.2 = some (.lst (vsI x.1))
theorem lrefs_snoc (xs : List Lk) (x : Lk) : lrefs xs ++ [V.ref x.2] = lrefs (xs ++ [x]) := by
  unfold lrefs
  rw [List.map_append]
  rfl
theorem lrefs_len (xs : List Lk) : (lrefs xs).length = xs.length := List.length_map _
theorem lrefs_at {xs : List Lk} {i : Nat} {x : V} (h : (lrefs xs)[i]? = some x) : ∃ t, xs[i]? = some t ∧ t ∈ xs ∧ x = .ref t.2 := by
  unfold lrefs at h
  rw [List.getElem?_map] at h
  cases e : xs[i]? with
  | none => rw [e] at h; cases h
  | some t =>
    rw [e] at h
    exact ⟨t, rfl, List.mem_of_getElem? e, (Option.some.inj h).symm⟩
/-- the lands on an arm, counted either way -/
theorem lands_count {A L : Nat} {c : List Nat} {a : Nat} {ks : List Nat} (nd : ks.Nodup) (hm : ∀ x, x ∈ ks ↔ x ∈ armC L c a) : (ks.filter fun x => decide (x ≠ c.getD 0 0)).length = landsN A L c a := by
  unfold landsN
  obtain ⟨h1, h2⟩ := dst_spec ((armC L c a).filter fun x => decide (x ≠ c.getD 0 0))
  have n1 : (ks.filter fun x => decide (x ≠ c.getD 0 0)).Nodup := List.Nodup.sublist List.filter_sublist nd
  have me : ∀ x, x ∈ (ks.filter fun x => decide (x ≠ c.getD 0 0)) ↔ x ∈ dst ((armC L c a).filter fun x => decide (x ≠ c.getD 0 0)) := fun x => by
    rw [h2, List.mem_filter, List.mem_filter, hm]
  exact Nat.le_antisymm (nodup_len _ _ n1 fun x hx => (me x).mp hx) (nodup_len _ _ h1 fun x hx => (me x).mpr hx)
end Sl
set_option Elab.async false
set_option linter.all false
set_option maxRecDepth 100000
set_option maxHeartbeats 16000000
namespace Sl
open PySem PySem.Spec PyProof.Rows L2 Star DX
theorem tabs_upd {T : List Addr} {H : Hp} {r : Addr} {x y : HO} (h : Tabs T H) (hr : H r = some x) (hx : ∀ ps, x ≠ .tbl ps) : Tabs T (upd H r y) := fun P hP => by
  obtain ⟨ps, h1, h2⟩ := h P hP
  refine ⟨ps, ?_, h2⟩
  rw [upd_ne]
  · exact h1
  · intro e
    rw [e, hr] at h1
    exact hx ps (Option.some.inj h1)
theorem four_le {x y z u : V} : [x, y, z, u].length ≤ sizeLine := by show 4 ≤ sizeLine; decide
section
variable {P : Program} {w : World} {K : PySem.W.Frag} {mg : Str → Option Value} {base : Heap}
abbrev N_law : List Str := ["_law_script", "_law_row", "_law_arms", "_law_length", "_law_lands", "_law_chart", "_law_cells", "_law_one", "_law_bare", "_law_some", "_law_every", "_law_hubs", "_law_own", "_law_arm", "_law_k"]
theorem sc_law : FnScope N_law ["_law_script"] (defScope (topS 43)) := ⟨rfl, rfl, rfl, by decide +kernel, rfl, by decide +kernel, by decide +kernel⟩
def in_law : Scope := relab (match (defBody (topS 43)).drop 8 with
  | .If (.UnaryOp _ (.Call _ [_, .Call _ [.ListComp _ _ sc _] _ _] _ _) _) _ _ _ :: _ => sc
  | _ => defScope (topS 43)) (defScope (topS 43))
def sp_law (K : PySem.W.Frag) (T : List Addr) : Sp := fun vs H Q _ => ∃ (a : Addr) (ns : List Int), vs = [.ref a] ∧ SqL K H a (ns.map V.int) ∧ ns.length ≤ 63 ∧ Tabs T H ∧ ∀ H', Q (.bl true) H'
theorem ok_law {T : List Addr} {f : Addr} {fd : FuncData} (F : Fun K "law" "law" (topS 43) f fd) (m_range : mg "range" = none) (m_len : mg "len" = none) (m_tuple : mg "tuple" = none) (m_set : mg "set" = none) (m_sorted : mg "sorted" = none)
    (c__law_island : Cal P w K mg base 2 "_law_island" ["_law_row", "_law_most"] (sp__law_island K)) (c__law_map : Cal P w K mg base 3 "_law_map" ["_law_row", "_law_arms", "_law_length", "_law_lands"] (sp__law_map K)) (c__law_alike : Cal P w K mg base 3 "_law_alike" ["_law_found", "_law_due"] spA3)
    (c__law_takings : Cal P w K mg base 3 "_law_takings" ["_law_chart"] sp__law_takings) (c__law_from : Cal P w K mg base 4 "_law_from" ["_law_chart"] (sp__law_from P w)) (c_hub_takings : Cal P w K mg base 7 "hub_takings" ["chart"] (sp_hub_takings T)) (c_is_frozen : Cal P w K mg base 7 "is_frozen" ["chart"] (sp_freezes T)) (c_bare_arms : Cal P w K mg base 7 "bare_arms" ["chart"] (sp_bare_of T))
    (c_lands_on : Cal P w K mg base 7 "lands_on" ["chart"] (sp_lands_on T)) (c_ever_hub : Cal P w K mg base 7 "ever_hub" ["chart"] (sp_ever_hub T)) (c_own_lands : Cal P w K mg base 7 "own_lands" ["chart"] (sp_own_lands T)) (c_other_lands : Cal P w K mg base 7 "other_lands" ["chart"] (sp_other_lands T)) : FnOk P w K mg base CX0 8 f fd ["_law_script"] (sp_law K T) := by
  have nd := sc_law.nd
  refine F.ok sc_law (fun vs H Q E h => ?_) (fun cdv A outer s H vs Q E hr h => ?_)
  · obtain ⟨_, _, rfl, _⟩ := h; rfl
  · obtain ⟨a, ns, rfl, hS, hlen, hT, kq⟩ := h
    refine ⟨_, (pss_cons (ps_set (i := 1) nd rfl (Or.inl rfl) (pe_lst (pa_cons (pv 0) (pa_cons pe_int (pa_cons pe_int (pa_cons pe_int pa_nil))))))
      (pss_cons (ps_asg (pcall c__law_island hr (by decide) (by rfl) (pa_cons (pv 1) (pa_cons pe_int pa_nil))) (pg_tup rfl (pgs_cons (pg_name (i := 2) nd rfl (Or.inl rfl)) (pgs_cons (pg_name (i := 3) nd rfl (Or.inr rfl)) (pgs_cons (pg_name (i := 4) nd rfl (Or.inl rfl)) pgs_nil)))))
      (pss_cons (ps_set (i := 5) nd rfl (Or.inl rfl) (pcall c__law_map hr (by decide) (by rfl) (pa_cons (pv 1) (pa_cons (pv 2) (pa_cons (pv 3) (pa_cons (pv 4) pa_nil))))))
      (pss_cons (ps_set (i := 6) nd rfl (Or.inr rfl) (pe_ix chIx1 (pv 5) pe_int (fun _ _ => rfl)))
      (pss_cons (ps_if (pt_not (pt_val (pcall c__law_alike hr (by decide) (by rfl) (pa_cons (pcall c_hub_takings hr (by decide) (by rfl) (pa_cons (pv 5) pa_nil)) (pa_cons (pe_callTy call_tuple_of (by rfl) m_tuple (by decide +kernel) (pa_cons (pe_lc (own := [("_law_one", 7)]) rfl nd (pi_list (pcall c__law_takings hr (by decide) (by rfl) (pa_cons (pv 5) pa_nil))) (blkOk_by (own := [("_law_one", 7)]) (N := N_law) (sc := defScope (topS 43)) (by decide +kernel)) (fun _ _ _ _ _ => (pg_name (i := 7) nd rfl (Or.inl rfl))) (fun _ _ _ _ _ => pts_one (pt_cmpR nEq (pe_ix (ix_tupk K) (pv 7) pe_int (fun _ _ => rfl)) pe_int (nomark _))) (fun _ _ _ _ _ => (pv 7))) pa_nil)) pa_nil))))) (pss_one (ps_ret pe_bl)) pss_nil)
      (pss_cons (ps_setLc (i := 8) (own := [("_law_arm", 13)]) rfl nd rfl rfl (sw_true rfl rfl rfl (by decide +kernel)) (pi_range1 (by rfl) m_range (pa_cons (pv 2) pa_nil)) (blkOk_by (own := [("_law_arm", 13)]) (N := N_law) (sc := defScope (topS 43)) (by decide +kernel)) (fun _ _ _ _ _ => (pg_name (i := 13) nd rfl (Or.inl rfl))) (fun _ _ _ _ _ => pts_one (pt_cmpR (nEqSet w hr.units0) (pe_callTy (nSetS K w rfl) (by rfl) m_set (by decide +kernel) (pa_cons (pe_slice (sl_tupAk K) (pv 6) (po_some (pe_op nAdd pe_int (pe_op nMul (pv 13) (pv 3)))) (po_some (pe_op nAdd (pe_op nAdd pe_int (pe_op nMul (pv 13) (pv 3))) (pv 3)))) pa_nil)) (pe_callTy (nSetS K w rfl) (by rfl) m_set (by decide +kernel) (pa_cons (pe_lst (pa_cons (pe_ix (nIxTk K) (pv 6) pe_int (fun _ _ => rfl)) pa_nil)) pa_nil)) (nomark _))) (fun _ _ _ _ _ => (pv 13)))
      (pss_cons (ps_if (PW.pt (pw_or (pt_not (pt_val (pcall c__law_alike hr (by decide) (by rfl) (pa_cons (pcall c_is_frozen hr (by decide) (by rfl) (pa_cons (pv 5) pa_nil)) (pa_cons (pe_cmpR nGe (pe_callB nLen (by rfl) m_len (by decide +kernel) (pa_cons (pv 8) pa_nil)) pe_int (nomark _)) pa_nil))))) (pw_or1 (pt_not (pt_val (pcall c__law_alike hr (by decide) (by rfl) (pa_cons (pcall c_bare_arms hr (by decide) (by rfl) (pa_cons (pv 5) pa_nil)) (pa_cons (pe_callB nLen (by rfl) m_len (by decide +kernel) (pa_cons (pv 8) pa_nil)) pa_nil)))))))) (pss_one (ps_ret pe_bl)) pss_nil)
      (pss_cons (ps_setLc (i := 9) (own := [("_law_arm", 13)]) rfl nd rfl rfl (sw_true rfl rfl rfl (by decide +kernel)) (pi_range1 (by rfl) m_range (pa_cons (pv 2) pa_nil)) (blkOk_by (own := [("_law_arm", 13)]) (N := N_law) (sc := defScope (topS 43)) (by decide +kernel)) (fun _ _ _ _ _ => (pg_name (i := 13) nd rfl (Or.inl rfl))) (fun _ _ _ _ _ => pts_nil) (fun _ _ _ _ _ => (pe_callB (nSortSet w rfl) (by rfl) m_sorted (by decide +kernel) (pa_cons (pe_callTy (nSetS K w rfl) (by rfl) m_set (by decide +kernel) (pa_cons (pe_slice (sl_tupAk K) (pv 6) (po_some (pe_op nAdd pe_int (pe_op nMul (pv 13) (pv 3)))) (po_some (pe_op nAdd (pe_op nAdd pe_int (pe_op nMul (pv 13) (pv 3))) (pv 3)))) pa_nil)) pa_nil))))
      (pss_cons (ps_if (pt_not (pt_val (pcall c__law_alike hr (by decide) (by rfl) (pa_cons (pcall c_lands_on hr (by decide) (by rfl) (pa_cons (pv 5) pa_nil)) (pa_cons (pe_callTy call_tuple_of (by rfl) m_tuple (by decide +kernel) (pa_cons (pe_lc (own := [("_law_one", 7)]) rfl nd (pi_list (pv 9)) (blkOk_by (own := [("_law_one", 7)]) (N := N_law) (sc := defScope (topS 43)) (by decide +kernel)) (fun _ _ _ _ _ => (pg_name (i := 7) nd rfl (Or.inl rfl))) (fun _ _ _ _ _ => pts_nil) (fun _ _ _ _ _ => (pe_callB (nLenk K) (by rfl) m_len (by decide +kernel) (pa_cons (pe_lc (own := [("_law_k", 14)]) rfl nd (pi_listk K (pv 7)) (blkOk_by (own := [("_law_k", 14)]) (N := N_law) (sc := in_law) (by decide +kernel)) (fun _ _ _ _ _ => (pg_name (i := 14) nd rfl (Or.inl rfl))) (fun _ _ _ _ _ => pts_one (pt_cmpR nNe (pv 14) (pe_ix (nIxTk K) (pv 6) pe_int (fun _ _ => rfl)) (nomark _))) (fun _ _ _ _ _ => (pv 14))) pa_nil)))) pa_nil)) pa_nil))))) (pss_one (ps_ret pe_bl)) pss_nil)
      (pss_cons (ps_set (i := 10) nd rfl (Or.inl rfl) (pcall c__law_from hr (by decide) (by rfl) (pa_cons (pv 5) pa_nil)))
      (pss_cons (ps_set (i := 11) nd rfl (Or.inl rfl) (pe_callB (nSortSet w rfl) (by rfl) m_sorted (by decide +kernel) (pa_cons (pe_callTy (nSetS K w rfl) (by rfl) m_set (by decide +kernel) (pa_cons (pe_lock (pe_lc (own := [("_law_one", 7)]) rfl nd (pi_dc (pv 10)) (blkOk_by (own := [("_law_one", 7)]) (N := N_law) (sc := defScope (topS 43)) (by decide +kernel)) (fun _ _ _ _ _ => (pg_name (i := 7) nd rfl (Or.inl rfl))) (fun _ _ _ _ _ => pts_nil) (fun _ _ _ _ _ => (pe_ix (nIxTk K) (pe_ix (ix_tupk K) (pv 7) pe_int (fun _ _ => rfl)) pe_int (fun _ _ => rfl))))) pa_nil)) pa_nil)))
      (pss_cons (ps_if (PW.pt (pw_or (pt_not (pt_val (pcall c__law_alike hr (by decide) (by rfl) (pa_cons (pcall c_ever_hub hr (by decide) (by rfl) (pa_cons (pv 5) pa_nil)) (pa_cons (pe_callTy call_tuple_of (by rfl) m_tuple (by decide +kernel) (pa_cons (pv 11) pa_nil)) pa_nil))))) (pw_or1 (PW.pt (pw_and (pt_cmpR nGe (pe_callB nLen (by rfl) m_len (by decide +kernel) (pa_cons (pv 8) pa_nil)) pe_int (nomark _)) (pw_and1 (pt_cmpR nNe (pe_callB nLen (by rfl) m_len (by decide +kernel) (pa_cons (pv 11) pa_nil)) pe_int (nomark _)))))))) (pss_one (ps_ret pe_bl)) pss_nil)
      (pss_cons (ps_if (pt_cmpR nGe (pe_callB nLen (by rfl) m_len (by decide +kernel) (pa_cons (pv 8) pa_nil)) pe_int (nomark _)) (pss_one (ps_ret (pe_cmpR (op_eqD hr.units) (pe_tup (pa_cons (pcall c_own_lands hr (by decide) (by rfl) (pa_cons (pv 5) pa_nil)) (pa_cons (pcall c_other_lands hr (by decide) (by rfl) (pa_cons (pv 5) pa_nil)) pa_nil))) (pe_tup (pa_cons pe_non (pa_cons pe_non pa_nil))) (nomark _)))) pss_nil)
      (pss_cons (ps_set (i := 12) nd rfl (Or.inr rfl) (pe_callTy call_tuple_of (by rfl) m_tuple (by decide +kernel) (pa_cons (pe_lc (own := [("_law_arm", 13)]) rfl nd (pi_range1 (by rfl) m_range (pa_cons (pv 2) pa_nil)) (blkOk_by (own := [("_law_arm", 13)]) (N := N_law) (sc := defScope (topS 43)) (by decide +kernel)) (fun _ _ _ _ _ => (pg_name (i := 13) nd rfl (Or.inl rfl))) (fun _ _ _ _ _ => pts_nil) (fun _ _ _ _ _ => (pe_ix (nIxTk K) (pv 6) (pe_op nAdd (pe_op nMul (pv 13) (pv 3)) (pv 3)) (fun _ _ => rfl)))) pa_nil)))
      (pss_cons (ps_if (PW.pt (pw_or (pt_not (pt_val (pcall c__law_alike hr (by decide) (by rfl) (pa_cons (pcall c_own_lands hr (by decide) (by rfl) (pa_cons (pv 5) pa_nil)) (pa_cons (pv 12) pa_nil))))) (pw_or1 (pt_not (pt_val (pcall c__law_alike hr (by decide) (by rfl) (pa_cons (pcall c_other_lands hr (by decide) (by rfl) (pa_cons (pv 5) pa_nil)) (pa_cons (pe_callTy call_tuple_of (by rfl) m_tuple (by decide +kernel) (pa_cons (pe_lc (own := [("_law_k", 14)]) rfl nd (pi_range1 (by rfl) m_range (pa_cons (pv 4) pa_nil)) (blkOk_by (own := [("_law_k", 14)]) (N := N_law) (sc := defScope (topS 43)) (by decide +kernel)) (fun _ _ _ _ _ => (pg_name (i := 14) nd rfl (Or.inl rfl))) (fun _ _ _ _ _ => pts_one (pt_cmpR (nNotInk K) (pv 14) (pv 12) (by rfl))) (fun _ _ _ _ _ => (pv 14))) pa_nil)) pa_nil)))))))) (pss_one (ps_ret pe_bl)) pss_nil)
      (pss_cons (ps_lock (ps_for PassesOwn.never rfl (pi_dc (pv 10)) (pg_name (i := 7) nd rfl (Or.inr rfl)) (pss_one (ps_if (PW.pt (pw_and (pt_cmpR (op_neD hr.units) (pe_callTy call_tuple_of (by rfl) m_tuple (by decide +kernel) (pa_cons (pe_lc (own := [("_law_arm", 13)]) rfl nd (pi_range1 (by rfl) m_range (pa_cons (pv 2) pa_nil)) (blkOk_by (own := [("_law_arm", 13)]) (N := N_law) (sc := defScope (topS 43)) (by decide +kernel)) (fun _ _ _ _ _ => (pg_name (i := 13) nd rfl (Or.inl rfl))) (fun _ _ _ _ _ => pts_nil) (fun _ _ _ _ _ => (pe_ix (nIxTk K) (pe_ix (ix_tupk K) (pv 7) pe_int (fun _ _ => rfl)) (pe_op nAdd (pe_op nMul (pv 13) (pv 3)) (pv 3)) (fun _ _ => rfl)))) pa_nil)) (pv 12) (nomark _)) (pw_and1 (pt_cmpR (nNeNil hr.units) (pv 8) (pe_lst pa_nil) (nomark _))))) (pss_one (ps_ret pe_bl)) pss_nil))))
      (pss_one (ps_ret pe_bl)))))))))))))))))), ?_⟩
    -- the row
    refine ⟨_, rfl, four_le, fun r nr => ?_⟩
    have gr : Gr H (upd H r (.lst (rw4 a ((0 : Nat) : Int) 13903 0))) := Gr.new nr
    have R0 : Rw K (upd H r (.lst (rw4 a ((0 : Nat) : Int) 13903 0))) r a ns 0 13903 0 := ⟨upd_same, gr.seqL hS, by omega⟩
    have T1 : Tabs T (upd H r (.lst (rw4 a ((0 : Nat) : Int) 13903 0))) := gr.tabs hT
    have eH : upd H r (.lst [V.ref a, V.int 0, V.int 13903, V.int 0]) = upd H r (.lst (rw4 a ((0 : Nat) : Int) 13903 0)) := rfl
    rw [eH]
    generalize upd H r (.lst (rw4 a ((0 : Nat) : Int) 13903 0)) = H1 at *
    -- the island
    refine ⟨_, rfl, r, a, ns, 0, 13903, 0, rfl, R0, fun H2 pi A0 L k i1 s1 b1 hI hk2 hkL g2 e2 => ?_⟩
    have R2 : Rw K H2 r a ns i1 s1 b1 := (R0.upd i1 s1 b1).gr g2
    have T2 : Tabs T H2 := g2.tabs (tabs_upd T1 R0.row fun _ z => nomatch z)
    refine ⟨pi, _, rfl, SqT.of e2, rfl, _, _, rfl, _, _, rfl, _, [], rfl, rfl, ?_⟩
    -- the map
    refine ⟨_, rfl, _, rfl, _, rfl, _, rfl, r, a, ns, i1, s1, b1, A0, L, k, rfl, hI, hk2, hkL, R2, fun H3 i2 s2 b2 p c g3 mok hch => ?_⟩
    have T3 : Tabs T H3 := g3.tabs (tabs_upd T2 R2.row fun _ z => nomatch z)
    have hV : Vc T H3 A0 L k p c := ⟨⟨hI, mok.valid.len, hch⟩, mok.valid, hk2, hkL, T3⟩
    clear R0 T1 g2 e2 R2 T2 g3 T3 hch
    obtain ⟨b1', b2', b3', b4'⟩ := Isl.le4 hI
    have hk4 := Isl.k4 hI hkL
    have hl := mok.valid.len
    have h13 : c.length ≤ 13 := hV.sm
    have hlt : ∀ x ∈ c, x < 10 := fun x hx => by have := mok.valid.lt x hx; omega
    refine ⟨_, rfl, A0, p, c, rfl, rfl, hV.ch.at_, fun q hp hq => ?_⟩
    have hqg : ∀ H', Gr H3 H' → H' q = some (.tup (vsI c)) := fun H' g => g.tup hq
    have arm_lt10 : ∀ a, a < A0 → ∀ x ∈ armC L c a, x < 10 := fun a ha x hx => by
      obtain ⟨s, hs, rfl⟩ := List.mem_map.mp hx
      have := getD_lt mok.valid.lt (show a * L + 1 + s < c.length by rw [hl]; exact arm_lt ha (List.mem_range.mp hs))
      omega
    -- hub_takings
    refine ⟨_, rfl, A0, L, k, p, c, rfl, hV, fun H4 r4 xs g4 e4 tk4 ex4 => ?_⟩
    refine ⟨_, rfl, A0, L, k, p, c, rfl, (hV.gr g4).ch, hV.v, hk2, hkL, fun H5 r5 ys g5 nr5 e5 tk5 ey5 => ?_⟩
    have hys : ys.length ≤ 52 := by
      have h1 := tksTo_len A0 L c k
      have e1 : takes A0 L k c = tksTo A0 L c k := rfl
      rw [← e1, ← ey5, List.length_map] at h1
      have : k * c.length ≤ 4 * 13 := Nat.mul_le_mul hk4 h13
      omega
    refine ⟨r5, rfl, ⟨_, SqL.of e5⟩, fun D hD => ?_⟩
    refine lcT_list hubT hD e5 (by omega) (fun t H6 Y N mt g6 hY hN => ?_) (fun H6 g6 e6 => ?_)
    · have htk := g6.tkl tk5 t mt
      exact ⟨rfl, _, rfl, t.2, _, 1, _, rfl, rfl, SqT.of htk, rfl, t.1.2, 0, rfl, rfl, _, rfl, ite2 (fun e => ⟨_, rfl, hY e H6 (Gr.refl _)⟩) (fun e => hN (Bool.eq_false_iff.mpr e) H6 (Gr.refl _))⟩
    refine ⟨D, _, rfl, .inl ⟨SqL.of e6, fun l nl => ?_⟩⟩
    have g7 : Gr H6 (upd H6 l (.tup (refs (ys.filter fun x => hubT x.1)))) := Gr.new nl
    have g47 := (g5.trans g6).trans g7
    refine ⟨_, _, rfl, .inr (.inr (items_tks (ys := ys.filter fun x => hubT x.1) (g47.tup e4) upd_same (g47.tkl tk4) (g7.tkl fun x hx => g6.tkl tk5 x (List.mem_filter.mp hx).1) (by rw [ex4, filter_map_fst, ey5]) (by have := List.length_filter_le (fun x : Tk => hubT x.1) ys; omega))), fun H8 g8 => ⟨true, rfl, iteF ?_⟩⟩
    have G8 := (g4.trans g47).trans g8
    clear g4 e4 tk4 ex4 g5 nr5 e5 tk5 ey5 hys hD g6 e6 nl g7 g47 g8
    -- bare
    have hV8 := hV.gr G8
    refine ⟨_, rfl, A0, rfl, by omega, by omega, fun D2 hD2 => ?_⟩
    refine lcN_rng (n := A0) (bareB L c) (fun a => a) hD2 (by omega) (fun u H9 Y N hu g9 hY hN => ?_) (fun H9 g9 e9 => ?_)
    · have hq9 := hqg H9 (G8.trans g9)
      obtain ⟨z1, z2⟩ := cut_law hl hu b3'
      refine ⟨rfl, _, rfl, _, rfl, _, rfl, u, L, rfl, rfl, by omega, 1, _, rfl, rfl, _, rfl, ?_⟩
      refine ⟨_, rfl, _, rfl, u, L, rfl, rfl, by omega, 1, _, rfl, rfl, _, rfl, _, L, rfl, rfl, _, rfl, ?_⟩
      refine ⟨q, vsI c, rfl, SqT.of hq9, fun z => absurd z z2, fun _ sl nsl => ?_⟩
      rw [z1]
      have g10 : Gr H9 (upd H9 sl (.tup (vsI (armC L c u)))) := Gr.new nsl
      refine ⟨sl, armC L c u, rfl, .inr ⟨SqT.of upd_same, by rw [armC_len]; omega⟩, arm_lt10 u hu, fun s1 ks ns1 kn km => ?_⟩
      have g11 := g10.trans (Gr.new (x := SetN w s1 (armC L c u) ks.length) ns1)
      refine ⟨_, rfl, q, c, 0, rfl, rfl, SqT.of (g11.tup hq9), by omega, one_le, fun o no => ?_⟩
      have g12 := g11.trans (Gr.new (x := .lst [vI (c.getD 0 0)]) no)
      have es1 : (upd (upd (upd H9 sl (.tup (vsI (armC L c u)))) s1 (SetN w s1 (armC L c u) ks.length)) o (.lst [vI (c.getD 0 0)])) s1 = some (SetN w s1 (armC L c u) ks.length) := (Gr.new no).ext upd_same
      refine ⟨o, [c.getD 0 0], rfl, .inl (SqL.of upd_same), fun x hx => by rw [List.mem_singleton.mp hx]; exact hlt _ (getD_mem (by omega)), fun s2 ks2 ns2 kn2 km2 => ?_⟩
      have l2 : ks2.length = 1 := by
        have q1 := nodup_len ks2 [c.getD 0 0] kn2 fun x hx => (km2 x).mp hx
        have q2 := List.length_pos_of_mem ((km2 (c.getD 0 0)).mpr List.mem_cons_self)
        rw [List.length_singleton] at q1
        omega
      have g13 := g12.trans (Gr.new (x := SetN w s2 [c.getD 0 0] ks2.length) ns2)
      refine ⟨s1, s2, _, _, _, _, rfl, rfl, (Gr.new ns2).ext es1, upd_same, fun b hb => ⟨b, rfl, ?_⟩⟩
      rw [l2] at hb
      have hb2 := hb.trans (bare_set b3' kn km)
      exact ite2 (fun e => ⟨_, rfl, hY (hb2.mp e) _ g13⟩) (fun e => hN (Bool.eq_false_iff.mpr fun z => e (hb2.mpr z)) _ g13)
    rw [map_id_nat] at e9
    have e9' : H9 D2 = some (.lst (vsI (bares A0 L c))) := e9
    have G9 := G8.trans g9
    have hb4 : (bares A0 L c).length ≤ 4 := by
      have := List.length_filter_le (bareB L c) (List.range A0)
      rw [List.length_range] at this
      exact Nat.le_trans this b1'
    clear g9 e9 hD2 hV8
    -- is_frozen, bare_arms
    have hV9 := hV.gr G9
    refine ⟨_, rfl, A0, L, k, p, c, rfl, hV9, fun H10 g10 => ?_⟩
    refine ⟨_, rfl, D2, _, rfl, .inl (SqL.of (g10.lst e9')), _, 2, rfl, rfl, ?_⟩
    refine ⟨_, _, rfl, .inr (.inl ⟨_, rfl, rfl⟩), fun H11 g11 => ⟨true, rfl, iteF ?_⟩⟩
    have g12 := g10.trans g11
    refine ⟨_, rfl, A0, L, k, p, c, rfl, hV9.gr g12, fun H12 g13 => ?_⟩
    refine ⟨_, rfl, D2, _, rfl, .inl (SqL.of ((g12.trans g13).lst e9')), ?_⟩
    refine ⟨_, _, rfl, .inl ⟨_, rfl, rfl⟩, fun H13 g14 => ⟨true, rfl, iteF ?_⟩⟩
    have g15 := (g12.trans g13).trans g14
    have G13 := G9.trans g15
    have e13 := g15.lst e9'
    clear hV9 g10 g11 g12 g13 g14 g15 e9' G9
    -- some
    refine ⟨_, rfl, A0, rfl, by omega, by omega, fun D3 hD3 => ?_⟩
    refine lc_rangeN (n := A0) (fun u H14 => Gr H13 H14 ∧ ∃ ls : List Lk, H14 D3 = some (.lst (lrefs ls)) ∧ LkL H14 ls ∧ (∀ x ∈ ls, x.2 ≠ D3) ∧ ls.length = u ∧ ∀ (j : Nat) (t : Lk), ls[j]? = some t → t.1.Nodup ∧ ∀ x, x ∈ t.1 ↔ x ∈ armC L c j) ⟨Gr.new hD3, [], upd_same, fun x hx => (nomatch hx), fun x hx => (nomatch hx), rfl, fun j t z => by simp at z⟩ (fun u H14 hu z => ?_) (fun H14 z => ?_)
    · obtain ⟨g14, ls, eD, lk, nD, ell, hls⟩ := z
      have hq14 := hqg H14 (G13.trans g14)
      obtain ⟨z1, z2⟩ := cut_law hl hu b3'
      refine ⟨rfl, _, rfl, _, rfl, _, rfl, u, L, rfl, rfl, by omega, 1, _, rfl, rfl, _, rfl, ?_⟩
      refine ⟨_, rfl, _, rfl, u, L, rfl, rfl, by omega, 1, _, rfl, rfl, _, rfl, _, L, rfl, rfl, _, rfl, ?_⟩
      refine ⟨q, vsI c, rfl, SqT.of hq14, fun z => absurd z z2, fun _ sl nsl => ?_⟩
      rw [z1]
      have g15 : Gr H14 (upd H14 sl (.tup (vsI (armC L c u)))) := Gr.new nsl
      refine ⟨sl, armC L c u, rfl, .inr ⟨SqT.of upd_same, by rw [armC_len]; omega⟩, arm_lt10 u hu, fun s1 ks ns1 kn km => ?_⟩
      have g16 := g15.trans (Gr.new (x := SetN w s1 (armC L c u) ks.length) ns1)
      have hks : ks.length < 64 := by
        have := nodup_len ks (List.range 10) kn fun x hx => List.mem_range.mpr (arm_lt10 u hu x ((km x).mp hx))
        rw [List.length_range] at this
        omega
      refine ⟨s1, _, _, rfl, upd_same, hks, fun l po rl ml np => ?_⟩
      have g17 := g16.trans (Gr.new (x := .lst (vsI l)) np)
      have npD : po ≠ D3 := Ne.symm (ne_of_none (g16.lst eD) np)
      refine ⟨_, g17.lst eD, by rw [lrefs_len, ell]; exact small1000 (by omega), (g14.trans g17).set hD3, ls ++ [(l, po)], by rw [upd_same, ← lrefs_snoc], fun x hx => ?_, fun x hx => ?_, by rw [List.length_append, ell]; rfl, fun j t hj => ?_⟩
      · rcases List.mem_append.mp hx with hx | hx
        · rw [upd_ne (nD x hx)]; exact g17.lst (lk x hx)
        · rw [List.mem_singleton.mp hx]
          show upd _ D3 _ po = _
          rw [upd_ne npD, upd_same]
      · rcases List.mem_append.mp hx with hx | hx
        · exact nD x hx
        · rw [List.mem_singleton.mp hx]; exact npD
      · by_cases hju : j < ls.length
        · rw [List.getElem?_append_left hju] at hj
          exact hls j t hj
        · have hj2 : j = u := by
            have := (List.getElem?_eq_some_iff.mp hj).1
            rw [List.length_append, List.length_singleton] at this
            omega
          rw [List.getElem?_append_right (by omega), hj2, ell, Nat.sub_self] at hj
          cases hj
          rw [hj2]
          exact ⟨rise_nodup rl, ml⟩
    obtain ⟨g14, ls, eD3, lk, _, ell, hls⟩ := z
    have G14 := G13.trans g14
    have e14 := g14.lst e13
    clear G13 e13 g14 hD3
    -- lands_on
    have hV14 := hV.gr G14
    refine ⟨_, rfl, A0, L, k, p, c, rfl, hV14, fun H15 r15 g15 e15 => ?_⟩
    refine ⟨_, rfl, D3, rfl, ⟨_, SqL.of (g15.lst eD3)⟩, fun D4 hD4 => ?_⟩
    refine lc_list (K := K) (a := D3) (xs := lrefs ls) (fun j H16 => Gr H15 H16 ∧ H16 D4 = some (.lst (vsI ((List.range j).map (landsN A0 L c))))) ⟨Gr.new hD4, upd_same⟩ (fun j H16 _ z => SqL.of (z.1.lst (g15.lst eD3))) (fun j x H16 hx z => ?_) (fun H16 z => ?_)
    · obtain ⟨t, et, mt, rfl⟩ := lrefs_at hx
      obtain ⟨g16, e16⟩ := z
      obtain ⟨tn, tm⟩ := hls j t et
      have hj : j < ls.length := (List.getElem?_eq_some_iff.mp et).1
      have htl : t.1.length ≤ 13 := by
        have := nodup_len t.1 (armC L c j) tn fun x hx => (tm x).mp hx
        rw [armC_len] at this
        omega
      have etl := (g15.trans g16).lst (lk t mt)
      refine ⟨rfl, _, rfl, t.2, rfl, ⟨_, SqL.of etl⟩, fun D5 hD5 => ?_⟩
      refine lcN_list (c := t.1) (fun x => decide (x ≠ c.getD 0 0)) (fun x => x) hD5 etl (by omega) (fun v H17 Y N hv g17 hY hN => ?_) (fun H17 g17 e17 => ?_)
      · exact ⟨rfl, _, rfl, _, rfl, q, c, 0, rfl, rfl, SqT.of (hqg H17 ((G14.trans g15).trans (g16.trans g17))), by omega, _, _, rfl, rfl, _, rfl, ite2 (fun e => ⟨_, rfl, hY e H17 (Gr.refl _)⟩) (fun e => hN (Bool.eq_false_iff.mpr e) H17 (Gr.refl _))⟩
      · rw [map_id_nat] at e17
        refine ⟨D5, _, rfl, .inl (SqL.of e17), _, g17.lst e16, sm (by rw [List.length_map, List.length_range]; omega), (g16.trans g17).set hD4, ?_⟩
        rw [upd_same, lands_count (A := A0) tn tm, vsI_snoc, List.range_succ, List.map_append]
        rfl
    obtain ⟨g16, e16⟩ := z
    rw [lrefs_len, ell] at e16
    refine ⟨D4, _, rfl, .inl ⟨SqL.of e16, fun l16 nl16 => ?_⟩⟩
    have g17 := g16.trans (Gr.new (x := .tup (vsI ((List.range A0).map (landsN A0 L c)))) nl16)
    refine ⟨_, _, rfl, .inr (.inr (items_nat (g17.tup e15) upd_same (by rw [List.length_map, List.length_range]; omega))), fun H18 g18 => ⟨true, rfl, iteF ?_⟩⟩
    have g19 := (g15.trans g17).trans g18
    have G18 := G14.trans g19
    have e18 := g19.lst e14
    clear hV14 g15 e15 hD4 g16 e16 nl16 g17 g18 g19 G14 e14 eD3 lk hls ell
    -- from
    have hV18 := hV.gr G18
    refine ⟨_, rfl, A0, L, k, p, c, rfl, hV18.ch, hV.v, hk2, hkL, fun H19 d kvs g19 ed ka rc few => ?_⟩
    have G19 := G18.trans g19
    have e19 := g19.lst e18
    clear hV18 g19 e18 G18
    -- hubs
    have rcV : ∀ x ∈ kvs, Valid A0 L k x.1 := fun x hx => mok.valid.reach hI ((rc x.1).mp (List.mem_map.mpr ⟨x, hx, rfl⟩))
    have notT : ∀ ys, DC P w A0 d kvs ≠ .tup ys := fun _ z => nomatch z
    refine ⟨d, _, ed, True.intro, fun od => ?_⟩
    have kaL : KeysAt (upd H19 d (.frz od (DC P w A0 d kvs))) A0 kvs := keys_upd ka ed notT
    refine ⟨_, rfl, d, od, A0, kvs, rfl, upd_same, fun D5 hD5 => ?_⟩
    refine lcC (fun x => x.getD 0 0) hD5 upd_same few (fun x H20 Y N hx g20 hY => ?_) (fun H20 g20 e20 => ?_)
    · obtain ⟨qx, x1, x2⟩ := g20.ch (kaL x hx)
      exact ⟨rfl, _, rfl, x.2.1, _, 1, _, rfl, rfl, SqT.of x1, rfl, qx, x.1, 0, rfl, rfl, SqT.of x2, by rw [(rcV x hx).len]; omega, hY H20 (Gr.refl _)⟩
    have dl20 : H20 d = some (.frz od (DC P w A0 d kvs)) := g20.keep d _ upd_same fun _ z => nomatch z
    refine ⟨dl20, ?_⟩
    have gU : Gr H19 (upd H20 d (DC P w A0 d kvs)) := Gr.unlock ed g20
    have nD5d : D5 ≠ d := fun z => by rw [z, dl20] at e20; cases e20
    have eU : (upd H20 d (DC P w A0 d kvs)) D5 = some (.lst (vsI (kvs.map fun e => e.1.getD 0 0))) := by rw [upd_ne nD5d]; exact e20
    have dU : (upd H20 d (DC P w A0 d kvs)) d = some (DC P w A0 d kvs) := upd_same
    generalize upd H20 d (DC P w A0 d kvs) = H21 at *
    have hub10 : ∀ x ∈ kvs.map (fun e => e.1.getD 0 0), x < k := fun x hx => by
      obtain ⟨y, hy, rfl⟩ := List.mem_map.mp hx
      exact getD_lt (rcV y hy).lt (by rw [(rcV y hy).len]; omega)
    refine ⟨D5, _, rfl, .inl (SqL.of eU), fun x hx => by have := hub10 x hx; omega, fun s5 ks ns5 kn km => ?_⟩
    have g22 : Gr H21 (upd H21 s5 (SetN w s5 (kvs.map fun e => e.1.getD 0 0) ks.length)) := Gr.new ns5
    have hks : ks.length < 64 := by
      have := nodup_len ks (List.range k) kn fun x hx => List.mem_range.mpr (hub10 x ((km x).mp hx))
      rw [List.length_range] at this
      omega
    refine ⟨s5, _, _, rfl, upd_same, hks, fun hs ph rh mh np => ?_⟩
    have g23 := g22.trans (Gr.new (x := .lst (vsI hs)) np)
    have G23 := (G19.trans gU).trans g23
    have e23 := (gU.trans g23).lst e19
    have d23 := g23.ext dU
    have ka23 := (gU.trans g23).keys ka
    have hs23 : (upd (upd H21 s5 (SetN w s5 (kvs.map fun e => e.1.getD 0 0) ks.length)) ph (.lst (vsI hs))) ph = some (.lst (vsI hs)) := upd_same
    generalize upd (upd H21 s5 (SetN w s5 (kvs.map fun e => e.1.getD 0 0) ks.length)) ph (.lst (vsI hs)) = H23 at *
    have hmem : ∀ x, x ∈ hs ↔ ∃ e, Star.Reach (nxC A0 L k) c e ∧ e.getD 0 0 = x := fun x => by
      rw [mh, List.mem_map]
      constructor
      · intro ⟨y, hy, z⟩
        exact ⟨y.1, (rc y.1).mp (List.mem_map.mpr ⟨y, hy, rfl⟩), z⟩
      · intro ⟨e, he, z⟩
        obtain ⟨y, hy, rfl⟩ := List.mem_map.mp ((rc e).mpr he)
        exact ⟨y, hy, z⟩
    have ehs : hs = if 1 < (bares A0 L c).length then [c.getD 0 0] else List.range k := by
      by_cases hf : 1 < (bares A0 L c).length
      · rw [if_pos hf]
        refine rise_eq rh (List.pairwise_singleton _ _) fun x => ?_
        rw [hmem, List.mem_singleton]
        exact ⟨fun ⟨e, he, z⟩ => z.symm.trans (mok.frozen hf he), fun z => ⟨c, .refl c, z.symm⟩⟩
      · rw [if_neg hf]
        refine rise_eq rh (range_rise k) fun x => ?_
        rw [hmem, List.mem_range]
        exact ⟨fun ⟨e, he, z⟩ => by
          have V := mok.valid.reach hI he
          rw [← z]
          exact getD_lt V.lt (by rw [V.len]; omega), fun z => mok.all (by omega) x z⟩
    have hhs : hs.length < 1000 := by
      rw [ehs]
      split
      · exact one_lt
      · rw [List.length_range]; omega
    clear g22 g23 gU eU dU hub10 hks kn km ns5 np kaL g20 e20 dl20 nD5d hD5 ka ed G19 e19
    -- ever_hub
    have hV23 := hV.gr G23
    refine ⟨_, rfl, A0, L, k, p, c, rfl, hV23, fun H24 r24 g24 e24 => ?_⟩
    rw [← ehs] at e24
    refine ⟨_, rfl, ph, _, rfl, .inl ⟨SqL.of (g24.lst hs23), fun l nl => ?_⟩⟩
    have g25 : Gr H24 (upd H24 l (.tup (vsI hs))) := Gr.new nl
    refine ⟨_, _, rfl, .inr (.inr (items_nat (g25.tup e24) upd_same hhs)), fun H26 g26 => ⟨true, rfl, iteF ?_⟩⟩
    have g27 := (g24.trans g25).trans g26
    have G26 := G23.trans g27
    have e26 := g27.lst e23
    have d26 := g27.ext d23
    have ka26 := g27.keys ka23
    have hs26 := g27.lst hs23
    clear g24 e24 nl g25 g26 g27 G23 e23 d23 ka23 hs23 hV23
    have hV26 := hV.gr G26
    by_cases hf : 2 ≤ (bares A0 L c).length
    · -- frozen
      have e1 : hs = [c.getD 0 0] := by rw [ehs, if_pos (show 1 < (bares A0 L c).length from hf)]
      refine ⟨_, rfl, D2, _, rfl, .inl (SqL.of e26), _, 2, rfl, rfl, _, rfl, iteP hf ?_⟩
      refine ⟨_, rfl, ph, hs, rfl, .inl (SqL.of hs26), _, 1, rfl, rfl, _, rfl, iteD (fun z => z (by rw [e1]; rfl)) ?_⟩
      refine ⟨_, rfl, D2, _, rfl, .inl (SqL.of e26), _, 2, rfl, rfl, _, rfl, iteP hf ?_⟩
      refine ⟨_, rfl, A0, L, k, p, c, rfl, hV26, fun _ H27 g27 => ?_, fun z => absurd hf z⟩
      refine ⟨_, rfl, A0, L, k, p, c, rfl, hV26.gr g27, fun _ H28 g28 => ?_, fun z => absurd hf z⟩
      refine ⟨two_le, fun t1 nt1 => ⟨two_le, fun t2 nt2 => ?_⟩⟩
      exact ⟨.tuple [.none, .none], .tuple [.none, .none], .tup (SqT.of ((Gr.new nt2).tup upd_same)) (.cons .non (.cons .non .nil)), .tup (SqT.of upd_same) (.cons .non (.cons .non .nil)), rfl, rfl, kq _⟩
    · refine ⟨_, rfl, D2, _, rfl, .inl (SqL.of e26), _, 2, rfl, rfl, _, rfl, iteD hf (iteF ?_)⟩
      refine ⟨_, rfl, D2, _, rfl, .inl (SqL.of e26), _, 2, rfl, rfl, _, rfl, iteD hf ?_⟩
      -- own
      refine ⟨_, rfl, A0, rfl, by omega, by omega, fun D6 hD6 => ?_⟩
      have tip_lt : ∀ u, u < A0 → u * L + L < A0 * L + 1 := fun u hu => by
        have : (u + 1) * L ≤ A0 * L := Nat.mul_le_mul_right L hu
        rw [Nat.add_mul] at this
        omega
      refine lcN_rng (n := A0) (fun _ => true) (fun u => c.getD (u * L + L) 0) hD6 (by omega) (fun u H27 Y N hu g27 hY hN => ?_) (fun H27 g27 e27 => ?_)
      · exact ⟨rfl, _, rfl, _, rfl, _, rfl, u, L, rfl, rfl, by omega, _, rfl, _, L, rfl, rfl, q, c, u * L + L, rfl, rfl, SqT.of (hqg H27 (G26.trans g27)), by rw [hl]; exact tip_lt u hu, hY rfl H27 (Gr.refl _)⟩
      rw [List.filter_eq_self.mpr fun _ _ => rfl] at e27
      refine ⟨D6, _, rfl, .inl ⟨SqL.of e27, fun own nown => ?_⟩⟩
      have g28 : Gr H27 (upd H27 own (.tup (vsI (tipsOf A0 L c)))) := Gr.new nown
      have eo : (upd H27 own (.tup (vsI (tipsOf A0 L c)))) own = some (.tup (vsI (tipsOf A0 L c))) := upd_same
      have g29 := g27.trans g28
      have tipsl : (tipsOf A0 L c).length = A0 := by unfold tipsOf; rw [List.length_map, List.length_range]
      show _
      have hV28 := hV26.gr g29
      refine ⟨_, rfl, A0, L, k, p, c, rfl, hV28, fun z => absurd z hf, fun _ H29 r29 g30 e29 => ?_⟩
      refine ⟨_, rfl, _, _, rfl, .inr (.inr (items_nat e29 (g30.tup eo) (by rw [tipsl]; omega))), fun H30 g31 => ⟨true, rfl, iteF ?_⟩⟩
      have g32 := g30.trans g31
      have eo2 := g32.tup eo
      refine ⟨_, rfl, A0, L, k, p, c, rfl, hV28.gr g32, fun z => absurd z hf, fun _ H31 r31 g33 e31 => ?_⟩
      refine ⟨_, rfl, k, rfl, by omega, by omega, fun D7 hD7 => ?_⟩
      refine lcN_rng (n := k) (fun j => decide (j ∉ tipsOf A0 L c)) (fun j => j) hD7 (by omega) (fun j H32 Y N hj g34 hY hN => ?_) (fun H32 g34 e32 => ?_)
      · exact ⟨rfl, _, rfl, _, rfl, j, own, tipsOf A0 L c, rfl, rfl, .inr (SqT.of ((g33.trans g34).tup eo2)), _, rfl, ite2 (fun e => ⟨_, rfl, hY e H32 (Gr.refl _)⟩) (fun e => hN (Bool.eq_false_iff.mpr e) H32 (Gr.refl _))⟩
      rw [map_id_nat] at e32
      refine ⟨D7, _, rfl, .inl ⟨SqL.of e32, fun l7 nl7 => ?_⟩⟩
      have g35 := g34.trans (Gr.new (x := .tup (vsI (otherOf A0 L k c))) nl7)
      have hol : (otherOf A0 L k c).length < 1000 := by
        have := filter_len (p := fun j => decide (j ∉ tipsOf A0 L c)) (i := k)
        unfold otherOf
        omega
      refine ⟨_, _, rfl, .inr (.inr (items_nat (g35.tup e31) upd_same hol)), fun H33 g36 => ⟨true, rfl, iteF ?_⟩⟩
      have gA := ((g29.trans g32).trans (g33.trans g35)).trans g36
      have G33 := G26.trans gA
      have eo3 := ((g33.trans g35).trans g36).tup eo2
      have d33 := gA.ext d26
      have ka33 := gA.keys ka26
      clear hV26 hV28 e26 d26 ka26 hs26 g27 e27 nown g28 eo g29 g30 e29 g31 g32 eo2 g33 e31 g34 e32 nl7 g35 g36 gA G26 hD6 hD7
      -- the loop
      refine ⟨d, _, d33, True.intro, fun od2 => ?_⟩
      have kaL := keys_upd (y := .frz od2 (DC P w A0 d kvs)) ka33 d33 notT
      have eoL : (upd H33 d (.frz od2 (DC P w A0 d kvs))) own = some (.tup (vsI (tipsOf A0 L c))) := tup_upd eo3 d33 notT
      refine ⟨_, rfl, d, od2, A0, kvs, rfl, upd_same, ?_⟩
      refine forC (fun σ H34 => (∃ y7, σ = [some (V.ref a), some (.ref r), some (vI A0), some (vI L), some (vI k), some (.ref p), some (.ref q), y7, some (.ref D2), some (.ref D3), some (.ref d), some (.ref ph), some (.ref own), none, none]) ∧ Gr (upd H33 d (.frz od2 (DC P w A0 d kvs))) H34) ⟨⟨none, rfl⟩, Gr.refl _⟩ (fun σ H34 z => z.2.keep d _ upd_same fun _ z => nomatch z) (fun x σ H34 hx z => ?_) (fun σ H34 z => ?_)
      · obtain ⟨⟨y7, rfl⟩, g34⟩ := z
        have eqt : (List.range A0).map (fun u => x.1.getD (u * L + L) 0) = tipsOf A0 L c := by
          unfold tipsOf
          refine List.map_congr_left fun u hu => ?_
          exact tips_same hI mok.valid ((rc x.1).mp (List.mem_map.mpr ⟨x, hx, rfl⟩)) u (List.mem_range.mp hu)
        refine ⟨_, rfl, A0, rfl, by omega, by omega, fun D8 hD8 => ?_⟩
        refine lcN_rng (n := A0) (fun _ => true) (fun u => x.1.getD (u * L + L) 0) hD8 (by omega) (fun u H35 Y N hu g35 hY hN => ?_) (fun H35 g35 e35 => ?_)
        · obtain ⟨qx, x1, x2⟩ := (g34.trans g35).ch (kaL x hx)
          exact ⟨rfl, _, rfl, x.2.1, _, 1, _, rfl, rfl, SqT.of x1, rfl, _, rfl, _, rfl, u, L, rfl, rfl, by omega, _, rfl, _, L, rfl, rfl, qx, x.1, u * L + L, rfl, rfl, SqT.of x2, by rw [(rcV x hx).len]; exact tip_lt u hu, hY rfl H35 (Gr.refl _)⟩
        rw [List.filter_eq_self.mpr fun _ _ => rfl, eqt] at e35
        refine ⟨D8, _, rfl, .inl ⟨SqL.of e35, fun l8 nl8 => ?_⟩⟩
        have g36 : Gr H35 (upd H35 l8 (.tup (vsI (tipsOf A0 L c)))) := Gr.new nl8
        have g37 := (g34.trans g35).trans g36
        have lay : PyData.canLay0 (.tuple (intsD (tipsOf A0 L c))) = true := lay_ints _
        have shp : SeqAt.shaped (.tuple (intsD (tipsOf A0 L c))) = true := by
          unfold SeqAt.shaped
          rw [Bool.and_eq_true, decide_eq_true_eq]
          refine ⟨lay, ?_⟩
          show PyData.depthAll (intsD (tipsOf A0 L c)) + 1 ≤ 64
          rw [dep_ints]
          omega
        refine ⟨_, rfl, .tuple (intsD (tipsOf A0 L c)), .tuple (intsD (tipsOf A0 L c)), .tup (SqT.of upd_same) (dp_ints _), .tup (SqT.of (g37.tup eoL)) (dp_ints _), shp, shp, _, rfl, ?_⟩
        rw [SeqAt.eqv_refl _ lay]
        exact iteF (iteF ⟨⟨_, rfl⟩, g37⟩)
      · exact ⟨z.2.keep d _ upd_same (fun _ z => nomatch z), kq _⟩
end
end Sl
set_option Elab.async false
set_option linter.all false
set_option maxRecDepth 100000
set_option maxHeartbeats 16000000
namespace Sl
open PySem PySem.Spec PyProof.Rows L2 Star DX
/-- the end where named defs hold generator expressions: their tables are empty -/
theorem walk_ofOwns {l : PySem.W.OpenLaw} {n k : Nat} {q : Program} {loose : List Str} {XP : (Str → Option Value) → Heap → Prop} {YP : World → Heap → Prop} {d : DefRec} {K : Params → PySem.W.Frag} {CX : World → CXT} {x : Str} {names : List Str}
    (hn : l.most = some n) (hn2 : n ≤ sizeLine) (hdf : d.params.defaults = []) (hr : Room k callerA) (hrec : ∀ m ∈ names, ((recsOf q).any fun e => e.name == m) = true) (hY : ∀ (w : World) (h : Heap), YP w h → (K w.params).In h)
    (F : ∀ (w : World) (mg : Str → Option Value) (fa : Addr) (h : Heap), YP w h → (K w.params).In h → h.Ns mainGlobals mg → mg d.name = some (.ref fa) → (∀ m ∈ names, ∀ f, mg m = some (.ref f) → LamX.OwnTab (K w.params) f h) → LamX.LawAtS l w (K w.params) (CX w) k n x mg fa h)
    (hCX : ∀ (w : World) (H : Hp) (s : Shared) (e : Value) (s' : Shared), CX w [] H s (fun _ _ _ => False) e s' → False) :
    PySem.W.WalkO q loose XP YP l.row.toRowW d [] (fun f vs => PySem.call f vs) := by
  refine Att.attach_callB hn hdf fun w s₀ s₁ mg mb fa o pm cd doc a vs ns G Y ho hd hcd hmg hobj hints hlen hbits hg => ?_
  have KX := hY w _ Y
  have own : ∀ m ∈ names, ∀ f, mg m = some (.ref f) → LamX.OwnTab (K w.params) f s₁.heap := fun m hm f hf c P o1 fd1 e dd vs1 sl k1 k2 k3 k4 k5 => by
    obtain ⟨dL, hm, hn1⟩ := List.any_eq_true.mp (hrec m hm)
    have hn2 : dL.name = m := beq_iff_eq.mp hn1
    obtain ⟨a', o', fd', c', P', h1, h2, h3, h4, h5, h6⟩ := G.T.tab dL hm
    rw [hn2, hf] at h1
    cases h1
    have g1 := KX _ _ k1
    rw [g1] at h2
    cases h2
    rw [k2] at h3
    cases h3
    rw [k3] at h4
    cases h4
    obtain ⟨⟨oc, vc, e1, _, e3, e4⟩, hP⟩ := h6
    have g2 := KX _ _ k4
    rw [g2] at e1
    cases e1
    cases e3
    rw [k5] at e4
    cases e4
    exact hP
  obtain ⟨fd, cs, sp, hT, nT, C, hb, hsp, hF⟩ := F w mg fa _ Y KX G.T.g hmg own
  exact LamX.law_callTs KX G.T.g G.T.b G.T.builtins G.T.nolimit hg hT nT C G.T.bmain hobj hints (Nat.le_trans hlen hn2) hr hF hb (fun H hH hS => hsp H a ns hlen hbits hH hS) fun H e s' => hCX w H s₁ e s'
def calOf {P : Program} {w : World} {K : PySem.W.Frag} {mg : Str → Option Value} {base : Heap} {x qual : Str} {st : Stmt} {f : Addr} {fd : FuncData} {k : Nat} {ps : List Str} {sp : Sp} (F : Fun K x qual st f fd) (gl : mg x = some (.ref f)) (b : Binds K fd ps []) (ok : FnOk P w K mg base CX0 k f fd ps sp) : Cal P w K mg base k x ps sp := ⟨f, fd, ok, gl, F.kp, b⟩
theorem mem3 {α : Type} (a b c : α) : a ∈ [a, b, c] ∧ b ∈ [a, b, c] ∧ c ∈ [a, b, c] := ⟨List.mem_cons_self, List.mem_cons_of_mem _ List.mem_cons_self, List.mem_cons_of_mem _ (List.mem_cons_of_mem _ List.mem_cons_self)⟩
theorem law_at {l : PySem.W.OpenLaw} {w : World} {K : PySem.W.Frag} {h : Heap} {mg : Str → Option Value} {fa : Addr} (X : K.In h) (G : h.Ns mainGlobals mg) (hfa : mg "law" = some (.ref fa)) (own : ∀ m ∈ (["are_cells", "is_made", "bare_of"] : List Str), ∀ f, mg m = some (.ref f) → LamX.OwnTab K f h)
    {f7 f8 f9 f11 f10 f15 f16 f12 f13 f14 f18 f19 f21 f22 f23 f24 f26 f27 f28 f29 f30 f25 f35 f36 f38 f39 f40 f32 f33 f42 f37 f34 f43 : Addr}
    {od7 an7 : Option Addr} {sl7 : Array (Option Value)} {oc7 kV7 dc7 pm7 cd7 ct7 : Value}
    {od8 an8 : Option Addr} {sl8 : Array (Option Value)} {oc8 kV8 dc8 pm8 cd8 ct8 : Value}
    {od9 an9 : Option Addr} {sl9 : Array (Option Value)} {oc9 kV9 dc9 pm9 cd9 ct9 : Value}
    {od11 an11 : Option Addr} {sl11 : Array (Option Value)} {oc11 kV11 dc11 pm11 cd11 ct11 : Value}
    {od10 an10 : Option Addr} {sl10 : Array (Option Value)} {oc10 kV10 dc10 pm10 cd10 ct10 : Value}
    {od15 an15 : Option Addr} {sl15 : Array (Option Value)} {oc15 kV15 dc15 pm15 cd15 ct15 : Value}
    {od16 an16 : Option Addr} {sl16 : Array (Option Value)} {oc16 kV16 dc16 pm16 cd16 ct16 : Value}
    {cc1 pt1 : Addr} {ce1 : Value} {cdd1 : Option Addr} {cv1 : Array Value} {cs1 : Array (Option Value)}
    {od12 an12 : Option Addr} {sl12 : Array (Option Value)} {oc12 kV12 dc12 pm12 ct12 : Value}
    {od13 an13 : Option Addr} {sl13 : Array (Option Value)} {oc13 kV13 dc13 pm13 cd13 ct13 : Value}
    {od14 an14 : Option Addr} {sl14 : Array (Option Value)} {oc14 kV14 dc14 pm14 cd14 ct14 : Value}
    {cc2 pt2 : Addr} {ce2 : Value} {cdd2 : Option Addr} {cv2 : Array Value} {cs2 : Array (Option Value)}
    {od18 an18 : Option Addr} {sl18 : Array (Option Value)} {oc18 kV18 dc18 pm18 ct18 : Value}
    {od19 an19 : Option Addr} {sl19 : Array (Option Value)} {oc19 kV19 dc19 pm19 cd19 ct19 : Value}
    {od21 an21 : Option Addr} {sl21 : Array (Option Value)} {oc21 kV21 dc21 pm21 cd21 ct21 : Value}
    {cc3 pt3 : Addr} {ce3 : Value} {cdd3 : Option Addr} {cv3 : Array Value} {cs3 : Array (Option Value)}
    {od22 an22 : Option Addr} {sl22 : Array (Option Value)} {oc22 kV22 dc22 pm22 ct22 : Value}
    {od23 an23 : Option Addr} {sl23 : Array (Option Value)} {oc23 kV23 dc23 pm23 cd23 ct23 : Value}
    {od24 an24 : Option Addr} {sl24 : Array (Option Value)} {oc24 kV24 dc24 pm24 cd24 ct24 : Value}
    {od26 an26 : Option Addr} {sl26 : Array (Option Value)} {oc26 kV26 dc26 pm26 cd26 ct26 : Value}
    {od27 an27 : Option Addr} {sl27 : Array (Option Value)} {oc27 kV27 dc27 pm27 cd27 ct27 : Value}
    {od28 an28 : Option Addr} {sl28 : Array (Option Value)} {oc28 kV28 dc28 pm28 cd28 ct28 : Value}
    {od29 an29 : Option Addr} {sl29 : Array (Option Value)} {oc29 kV29 dc29 pm29 cd29 ct29 : Value}
    {od30 an30 : Option Addr} {sl30 : Array (Option Value)} {oc30 kV30 dc30 pm30 cd30 ct30 : Value}
    {od25 an25 : Option Addr} {sl25 : Array (Option Value)} {oc25 kV25 dc25 pm25 cd25 ct25 : Value}
    {od35 an35 : Option Addr} {sl35 : Array (Option Value)} {oc35 kV35 dc35 pm35 cd35 ct35 : Value}
    {od36 an36 : Option Addr} {sl36 : Array (Option Value)} {oc36 kV36 dc36 pm36 cd36 ct36 : Value}
    {od38 an38 : Option Addr} {sl38 : Array (Option Value)} {oc38 kV38 dc38 pm38 cd38 ct38 : Value}
    {od39 an39 : Option Addr} {sl39 : Array (Option Value)} {oc39 kV39 dc39 pm39 cd39 ct39 : Value}
    {od40 an40 : Option Addr} {sl40 : Array (Option Value)} {oc40 kV40 dc40 pm40 cd40 ct40 : Value}
    {od32 an32 : Option Addr} {sl32 : Array (Option Value)} {oc32 kV32 dc32 pm32 cd32 ct32 : Value}
    {od33 an33 : Option Addr} {sl33 : Array (Option Value)} {oc33 kV33 dc33 pm33 cd33 ct33 : Value}
    {od42 an42 : Option Addr} {sl42 : Array (Option Value)} {oc42 kV42 dc42 pm42 cd42 ct42 : Value}
    {od37 an37 : Option Addr} {sl37 : Array (Option Value)} {oc37 kV37 dc37 pm37 cd37 ct37 : Value}
    {od34 an34 : Option Addr} {sl34 : Array (Option Value)} {oc34 kV34 dc34 pm34 cd34 ct34 : Value}
    {od43 an43 : Option Addr} {sl43 : Array (Option Value)} {oc43 kV43 dc43 pm43 cd43 ct43 : Value}
    {t_MOST_LENGTH : Tok}
    {t_LEAST_ARMS : Tok}
    {t_MOST_ARMS : Tok}
    (a7 : PySem.W.nsIn K mainGlobals "is_in" = some (some (.ref f7))) (l7 : K.lookup f7 = some ⟨oc7, od7, .func (PySem.W.fnOf "is_in" "is_in" (defArgs (topS 7)) (defBody (topS 7)) (defScope (topS 7)) .none kV7 dc7 pm7 an7 cd7 ct7), sl7⟩) (c7 : PySem.W.codeIn K cd7 "is_in" = true) (k7 : PySem.W.keepIn K (.ref f7) = true)
    (a8 : PySem.W.nsIn K mainGlobals "near" = some (some (.ref f8))) (l8 : K.lookup f8 = some ⟨oc8, od8, .func (PySem.W.fnOf "near" "near" (defArgs (topS 8)) (defBody (topS 8)) (defScope (topS 8)) .none kV8 dc8 pm8 an8 cd8 ct8), sl8⟩) (c8 : PySem.W.codeIn K cd8 "near" = true) (k8 : PySem.W.keepIn K (.ref f8) = true)
    (a9 : PySem.W.nsIn K mainGlobals "length_of" = some (some (.ref f9))) (l9 : K.lookup f9 = some ⟨oc9, od9, .func (PySem.W.fnOf "length_of" "length_of" (defArgs (topS 9)) (defBody (topS 9)) (defScope (topS 9)) .none kV9 dc9 pm9 an9 cd9 ct9), sl9⟩) (c9 : PySem.W.codeIn K cd9 "length_of" = true) (k9 : PySem.W.keepIn K (.ref f9) = true)
    (a11 : PySem.W.nsIn K mainGlobals "held" = some (some (.ref f11))) (l11 : K.lookup f11 = some ⟨oc11, od11, .func (PySem.W.fnOf "held" "held" (defArgs (topS 11)) (defBody (topS 11)) (defScope (topS 11)) .none kV11 dc11 pm11 an11 cd11 ct11), sl11⟩) (c11 : PySem.W.codeIn K cd11 "held" = true) (k11 : PySem.W.keepIn K (.ref f11) = true)
    (a10 : PySem.W.nsIn K mainGlobals "hangs" = some (some (.ref f10))) (l10 : K.lookup f10 = some ⟨oc10, od10, .func (PySem.W.fnOf "hangs" "hangs" (defArgs (topS 10)) (defBody (topS 10)) (defScope (topS 10)) .none kV10 dc10 pm10 an10 cd10 ct10), sl10⟩) (c10 : PySem.W.codeIn K cd10 "hangs" = true) (k10 : PySem.W.keepIn K (.ref f10) = true)
    (a15 : PySem.W.nsIn K mainGlobals "lands_of" = some (some (.ref f15))) (l15 : K.lookup f15 = some ⟨oc15, od15, .func (PySem.W.fnOf "lands_of" "lands_of" (defArgs (topS 15)) (defBody (topS 15)) (defScope (topS 15)) .none kV15 dc15 pm15 an15 cd15 ct15), sl15⟩) (c15 : PySem.W.codeIn K cd15 "lands_of" = true) (k15 : PySem.W.keepIn K (.ref f15) = true)
    (a16 : PySem.W.nsIn K mainGlobals "outward" = some (some (.ref f16))) (l16 : K.lookup f16 = some ⟨oc16, od16, .func (PySem.W.fnOf "outward" "outward" (defArgs (topS 16)) (defBody (topS 16)) (defScope (topS 16)) .none kV16 dc16 pm16 an16 cd16 ct16), sl16⟩) (c16 : PySem.W.codeIn K cd16 "outward" = true) (k16 : PySem.W.keepIn K (.ref f16) = true)
    (a12 : PySem.W.nsIn K mainGlobals "are_cells" = some (some (.ref f12))) (l12 : K.lookup f12 = some ⟨oc12, od12, .func (PySem.W.fnOf "are_cells" "are_cells" (defArgs (topS 12)) (defBody (topS 12)) (defScope (topS 12)) .none kV12 dc12 pm12 an12 (.ref cc1) ct12), sl12⟩) (c12 : PySem.W.codeIn K (.ref cc1) "are_cells" = true) (k12 : PySem.W.keepIn K (.ref f12) = true)
    (x1 : K.lookup cc1 = some ⟨ce1, cdd1, .fields cv1, cs1⟩) (y1 : cv1[11]? = some (.ref pt1)) (n1 : K.lookup pt1 = none) (h1 : PySem.W.codeHdIn K cc1 pt1 = true)
    (a13 : PySem.W.nsIn K mainGlobals "is_map" = some (some (.ref f13))) (l13 : K.lookup f13 = some ⟨oc13, od13, .func (PySem.W.fnOf "is_map" "is_map" (defArgs (topS 13)) (defBody (topS 13)) (defScope (topS 13)) .none kV13 dc13 pm13 an13 cd13 ct13), sl13⟩) (c13 : PySem.W.codeIn K cd13 "is_map" = true) (k13 : PySem.W.keepIn K (.ref f13) = true)
    (a14 : PySem.W.nsIn K mainGlobals "need_map" = some (some (.ref f14))) (l14 : K.lookup f14 = some ⟨oc14, od14, .func (PySem.W.fnOf "need_map" "need_map" (defArgs (topS 14)) (defBody (topS 14)) (defScope (topS 14)) .none kV14 dc14 pm14 an14 cd14 ct14), sl14⟩) (c14 : PySem.W.codeIn K cd14 "need_map" = true) (k14 : PySem.W.keepIn K (.ref f14) = true)
    (a18 : PySem.W.nsIn K mainGlobals "is_made" = some (some (.ref f18))) (l18 : K.lookup f18 = some ⟨oc18, od18, .func (PySem.W.fnOf "is_made" "is_made" (defArgs (topS 18)) (defBody (topS 18)) (defScope (topS 18)) .none kV18 dc18 pm18 an18 (.ref cc2) ct18), sl18⟩) (c18 : PySem.W.codeIn K (.ref cc2) "is_made" = true) (k18 : PySem.W.keepIn K (.ref f18) = true)
    (x2 : K.lookup cc2 = some ⟨ce2, cdd2, .fields cv2, cs2⟩) (y2 : cv2[11]? = some (.ref pt2)) (n2 : K.lookup pt2 = none) (h2 : PySem.W.codeHdIn K cc2 pt2 = true)
    (a19 : PySem.W.nsIn K mainGlobals "all_takings" = some (some (.ref f19))) (l19 : K.lookup f19 = some ⟨oc19, od19, .func (PySem.W.fnOf "all_takings" "all_takings" (defArgs (topS 19)) (defBody (topS 19)) (defScope (topS 19)) .none kV19 dc19 pm19 an19 cd19 ct19), sl19⟩) (c19 : PySem.W.codeIn K cd19 "all_takings" = true) (k19 : PySem.W.keepIn K (.ref f19) = true)
    (a21 : PySem.W.nsIn K mainGlobals "hub_takings" = some (some (.ref f21))) (l21 : K.lookup f21 = some ⟨oc21, od21, .func (PySem.W.fnOf "hub_takings" "hub_takings" (defArgs (topS 21)) (defBody (topS 21)) (defScope (topS 21)) .none kV21 dc21 pm21 an21 cd21 ct21), sl21⟩) (c21 : PySem.W.codeIn K cd21 "hub_takings" = true) (k21 : PySem.W.keepIn K (.ref f21) = true)
    (a22 : PySem.W.nsIn K mainGlobals "bare_of" = some (some (.ref f22))) (l22 : K.lookup f22 = some ⟨oc22, od22, .func (PySem.W.fnOf "bare_of" "bare_of" (defArgs (topS 22)) (defBody (topS 22)) (defScope (topS 22)) .none kV22 dc22 pm22 an22 (.ref cc3) ct22), sl22⟩) (c22 : PySem.W.codeIn K (.ref cc3) "bare_of" = true) (k22 : PySem.W.keepIn K (.ref f22) = true)
    (x3 : K.lookup cc3 = some ⟨ce3, cdd3, .fields cv3, cs3⟩) (y3 : cv3[11]? = some (.ref pt3)) (n3 : K.lookup pt3 = none) (h3 : PySem.W.codeHdIn K cc3 pt3 = true)
    (a23 : PySem.W.nsIn K mainGlobals "freezes" = some (some (.ref f23))) (l23 : K.lookup f23 = some ⟨oc23, od23, .func (PySem.W.fnOf "freezes" "freezes" (defArgs (topS 23)) (defBody (topS 23)) (defScope (topS 23)) .none kV23 dc23 pm23 an23 cd23 ct23), sl23⟩) (c23 : PySem.W.codeIn K cd23 "freezes" = true) (k23 : PySem.W.keepIn K (.ref f23) = true)
    (a24 : PySem.W.nsIn K mainGlobals "bare_arms" = some (some (.ref f24))) (l24 : K.lookup f24 = some ⟨oc24, od24, .func (PySem.W.fnOf "bare_arms" "bare_arms" (defArgs (topS 24)) (defBody (topS 24)) (defScope (topS 24)) .none kV24 dc24 pm24 an24 cd24 ct24), sl24⟩) (c24 : PySem.W.codeIn K cd24 "bare_arms" = true) (k24 : PySem.W.keepIn K (.ref f24) = true)
    (a26 : PySem.W.nsIn K mainGlobals "is_frozen" = some (some (.ref f26))) (l26 : K.lookup f26 = some ⟨oc26, od26, .func (PySem.W.fnOf "is_frozen" "is_frozen" (defArgs (topS 26)) (defBody (topS 26)) (defScope (topS 26)) .none kV26 dc26 pm26 an26 cd26 ct26), sl26⟩) (c26 : PySem.W.codeIn K cd26 "is_frozen" = true) (k26 : PySem.W.keepIn K (.ref f26) = true)
    (a27 : PySem.W.nsIn K mainGlobals "tips" = some (some (.ref f27))) (l27 : K.lookup f27 = some ⟨oc27, od27, .func (PySem.W.fnOf "tips" "tips" (defArgs (topS 27)) (defBody (topS 27)) (defScope (topS 27)) .none kV27 dc27 pm27 an27 cd27 ct27), sl27⟩) (c27 : PySem.W.codeIn K cd27 "tips" = true) (k27 : PySem.W.keepIn K (.ref f27) = true)
    (a28 : PySem.W.nsIn K mainGlobals "own_lands" = some (some (.ref f28))) (l28 : K.lookup f28 = some ⟨oc28, od28, .func (PySem.W.fnOf "own_lands" "own_lands" (defArgs (topS 28)) (defBody (topS 28)) (defScope (topS 28)) .none kV28 dc28 pm28 an28 cd28 ct28), sl28⟩) (c28 : PySem.W.codeIn K cd28 "own_lands" = true) (k28 : PySem.W.keepIn K (.ref f28) = true)
    (a29 : PySem.W.nsIn K mainGlobals "other_lands" = some (some (.ref f29))) (l29 : K.lookup f29 = some ⟨oc29, od29, .func (PySem.W.fnOf "other_lands" "other_lands" (defArgs (topS 29)) (defBody (topS 29)) (defScope (topS 29)) .none kV29 dc29 pm29 an29 cd29 ct29), sl29⟩) (c29 : PySem.W.codeIn K cd29 "other_lands" = true) (k29 : PySem.W.keepIn K (.ref f29) = true)
    (a30 : PySem.W.nsIn K mainGlobals "ever_hub" = some (some (.ref f30))) (l30 : K.lookup f30 = some ⟨oc30, od30, .func (PySem.W.fnOf "ever_hub" "ever_hub" (defArgs (topS 30)) (defBody (topS 30)) (defScope (topS 30)) .none kV30 dc30 pm30 an30 cd30 ct30), sl30⟩) (c30 : PySem.W.codeIn K cd30 "ever_hub" = true) (k30 : PySem.W.keepIn K (.ref f30) = true)
    (a25 : PySem.W.nsIn K mainGlobals "lands_on" = some (some (.ref f25))) (l25 : K.lookup f25 = some ⟨oc25, od25, .func (PySem.W.fnOf "lands_on" "lands_on" (defArgs (topS 25)) (defBody (topS 25)) (defScope (topS 25)) .none kV25 dc25 pm25 an25 cd25 ct25), sl25⟩) (c25 : PySem.W.codeIn K cd25 "lands_on" = true) (k25 : PySem.W.keepIn K (.ref f25) = true)
    (a35 : PySem.W.nsIn K mainGlobals "_law_near" = some (some (.ref f35))) (l35 : K.lookup f35 = some ⟨oc35, od35, .func (PySem.W.fnOf "_law_near" "_law_near" (defArgs (topS 35)) (defBody (topS 35)) (defScope (topS 35)) .none kV35 dc35 pm35 an35 cd35 ct35), sl35⟩) (c35 : PySem.W.codeIn K cd35 "_law_near" = true) (k35 : PySem.W.keepIn K (.ref f35) = true)
    (a36 : PySem.W.nsIn K mainGlobals "_law_hangs" = some (some (.ref f36))) (l36 : K.lookup f36 = some ⟨oc36, od36, .func (PySem.W.fnOf "_law_hangs" "_law_hangs" (defArgs (topS 36)) (defBody (topS 36)) (defScope (topS 36)) .none kV36 dc36 pm36 an36 cd36 ct36), sl36⟩) (c36 : PySem.W.codeIn K cd36 "_law_hangs" = true) (k36 : PySem.W.keepIn K (.ref f36) = true)
    (a38 : PySem.W.nsIn K mainGlobals "_law_takings" = some (some (.ref f38))) (l38 : K.lookup f38 = some ⟨oc38, od38, .func (PySem.W.fnOf "_law_takings" "_law_takings" (defArgs (topS 38)) (defBody (topS 38)) (defScope (topS 38)) .none kV38 dc38 pm38 an38 cd38 ct38), sl38⟩) (c38 : PySem.W.codeIn K cd38 "_law_takings" = true) (k38 : PySem.W.keepIn K (.ref f38) = true)
    (a39 : PySem.W.nsIn K mainGlobals "_law_behind" = some (some (.ref f39))) (l39 : K.lookup f39 = some ⟨oc39, od39, .func (PySem.W.fnOf "_law_behind" "_law_behind" (defArgs (topS 39)) (defBody (topS 39)) (defScope (topS 39)) .none kV39 dc39 pm39 an39 cd39 ct39), sl39⟩) (c39 : PySem.W.codeIn K cd39 "_law_behind" = true) (k39 : PySem.W.keepIn K (.ref f39) = true)
    (a40 : PySem.W.nsIn K mainGlobals "_law_from" = some (some (.ref f40))) (l40 : K.lookup f40 = some ⟨oc40, od40, .func (PySem.W.fnOf "_law_from" "_law_from" (defArgs (topS 40)) (defBody (topS 40)) (defScope (topS 40)) .none kV40 dc40 pm40 an40 cd40 ct40), sl40⟩) (c40 : PySem.W.codeIn K cd40 "_law_from" = true) (k40 : PySem.W.keepIn K (.ref f40) = true)
    (a32 : PySem.W.nsIn K mainGlobals "_law_taken" = some (some (.ref f32))) (l32 : K.lookup f32 = some ⟨oc32, od32, .func (PySem.W.fnOf "_law_taken" "_law_taken" (defArgs (topS 32)) (defBody (topS 32)) (defScope (topS 32)) .none kV32 dc32 pm32 an32 cd32 ct32), sl32⟩) (c32 : PySem.W.codeIn K cd32 "_law_taken" = true) (k32 : PySem.W.keepIn K (.ref f32) = true)
    (a33 : PySem.W.nsIn K mainGlobals "_law_pick" = some (some (.ref f33))) (l33 : K.lookup f33 = some ⟨oc33, od33, .func (PySem.W.fnOf "_law_pick" "_law_pick" (defArgs (topS 33)) (defBody (topS 33)) (defScope (topS 33)) .none kV33 dc33 pm33 an33 cd33 ct33), sl33⟩) (c33 : PySem.W.codeIn K cd33 "_law_pick" = true) (k33 : PySem.W.keepIn K (.ref f33) = true)
    (a42 : PySem.W.nsIn K mainGlobals "_law_island" = some (some (.ref f42))) (l42 : K.lookup f42 = some ⟨oc42, od42, .func (PySem.W.fnOf "_law_island" "_law_island" (defArgs (topS 42)) (defBody (topS 42)) (defScope (topS 42)) .none kV42 dc42 pm42 an42 cd42 ct42), sl42⟩) (c42 : PySem.W.codeIn K cd42 "_law_island" = true) (k42 : PySem.W.keepIn K (.ref f42) = true)
    (a37 : PySem.W.nsIn K mainGlobals "_law_map" = some (some (.ref f37))) (l37 : K.lookup f37 = some ⟨oc37, od37, .func (PySem.W.fnOf "_law_map" "_law_map" (defArgs (topS 37)) (defBody (topS 37)) (defScope (topS 37)) .none kV37 dc37 pm37 an37 cd37 ct37), sl37⟩) (c37 : PySem.W.codeIn K cd37 "_law_map" = true) (k37 : PySem.W.keepIn K (.ref f37) = true)
    (a34 : PySem.W.nsIn K mainGlobals "_law_alike" = some (some (.ref f34))) (l34 : K.lookup f34 = some ⟨oc34, od34, .func (PySem.W.fnOf "_law_alike" "_law_alike" (defArgs (topS 34)) (defBody (topS 34)) (defScope (topS 34)) .none kV34 dc34 pm34 an34 cd34 ct34), sl34⟩) (c34 : PySem.W.codeIn K cd34 "_law_alike" = true) (k34 : PySem.W.keepIn K (.ref f34) = true)
    (a43 : PySem.W.nsIn K mainGlobals "law" = some (some (.ref f43))) (l43 : K.lookup f43 = some ⟨oc43, od43, .func (PySem.W.fnOf "law" "law" (defArgs (topS 43)) (defBody (topS 43)) (defScope (topS 43)) .none kV43 dc43 pm43 an43 cd43 ct43), sl43⟩) (c43 : PySem.W.codeIn K cd43 "law" = true) (k43 : PySem.W.keepIn K (.ref f43) = true)
    (z_isinstance : PySem.W.nsIn K mainGlobals "isinstance" = some none)
    (z_int : PySem.W.nsIn K mainGlobals "int" = some none)
    (z_bool : PySem.W.nsIn K mainGlobals "bool" = some none)
    (z_range : PySem.W.nsIn K mainGlobals "range" = some none)
    (z_len : PySem.W.nsIn K mainGlobals "len" = some none)
    (z_enumerate : PySem.W.nsIn K mainGlobals "enumerate" = some none)
    (z_max : PySem.W.nsIn K mainGlobals "max" = some none)
    (z_list : PySem.W.nsIn K mainGlobals "list" = some none)
    (z_tuple : PySem.W.nsIn K mainGlobals "tuple" = some none)
    (z_all : PySem.W.nsIn K mainGlobals "all" = some none)
    (z_any : PySem.W.nsIn K mainGlobals "any" = some none)
    (z_sorted : PySem.W.nsIn K mainGlobals "sorted" = some none)
    (z_str : PySem.W.nsIn K mainGlobals "str" = some none)
    (z_set : PySem.W.nsIn K mainGlobals "set" = some none)
    (z_MOST_LENGTH : PySem.W.nsIn K mainGlobals "MOST_LENGTH" = some (some (.int 4 t_MOST_LENGTH)))
    (z_LEAST_ARMS : PySem.W.nsIn K mainGlobals "LEAST_ARMS" = some (some (.int 3 t_LEAST_ARMS)))
    (z_MOST_ARMS : PySem.W.nsIn K mainGlobals "MOST_ARMS" = some (some (.int 4 t_MOST_ARMS))) : LamX.LawAtS l w K CX0 8 63 "_law_script" mg fa h := by
  have e := hfa.symm.trans (PySem.W.mg_of X G a43)
  cases e
  have F7 := fun_mk (st := topS 7) l7 c7 k7
  have b7 := F7.binds (ps := ["value", "least", "most"]) fun _ _ _ _ _ _ us hl => match us, hl with | [_, _, _], _ => rfl
  have g7 := PySem.W.mg_of X G a7
  have F8 := fun_mk (st := topS 8) l8 c8 k8
  have b8 := F8.binds (ps := ["arms", "length", "cell"]) fun _ _ _ _ _ _ us hl => match us, hl with | [_, _, _], _ => rfl
  have g8 := PySem.W.mg_of X G a8
  have F9 := fun_mk (st := topS 9) l9 c9 k9
  have b9 := F9.binds (ps := ["chart"]) fun _ _ _ _ _ _ us hl => match us, hl with | [_], _ => rfl
  have g9 := PySem.W.mg_of X G a9
  have F11 := fun_mk (st := topS 11) l11 c11 k11
  have b11 := F11.binds (ps := ["cells", "land"]) fun _ _ _ _ _ _ us hl => match us, hl with | [_, _], _ => rfl
  have g11 := PySem.W.mg_of X G a11
  have F10 := fun_mk (st := topS 10) l10 c10 k10
  have b10 := F10.binds (ps := ["arms", "cells", "some"]) fun _ _ _ _ _ _ us hl => match us, hl with | [_, _, _], _ => rfl
  have g10 := PySem.W.mg_of X G a10
  have F15 := fun_mk (st := topS 15) l15 c15 k15
  have b15 := F15.binds (ps := ["chart"]) fun _ _ _ _ _ _ us hl => match us, hl with | [_], _ => rfl
  have g15 := PySem.W.mg_of X G a15
  have F16 := fun_mk (st := topS 16) l16 c16 k16
  have b16 := F16.binds (ps := ["chart", "arm"]) fun _ _ _ _ _ _ us hl => match us, hl with | [_, _], _ => rfl
  have g16 := PySem.W.mg_of X G a16
  have F12 : FunC K "are_cells" "are_cells" (topS 12) f12 _ cc1 := ⟨⟨_, _, _, _, _, _, _, _, rfl, l12, c12⟩, k12⟩
  have b12 := F12.toFun.binds (ps := ["arms", "cells"]) fun _ _ _ _ _ _ us hl => match us, hl with | [_, _], _ => rfl
  have g12 := PySem.W.mg_of X G a12
  have F13 := fun_mk (st := topS 13) l13 c13 k13
  have b13 := F13.binds (ps := ["value"]) fun _ _ _ _ _ _ us hl => match us, hl with | [_], _ => rfl
  have g13 := PySem.W.mg_of X G a13
  have F14 := fun_mk (st := topS 14) l14 c14 k14
  have b14 := F14.binds (ps := ["chart"]) fun _ _ _ _ _ _ us hl => match us, hl with | [_], _ => rfl
  have g14 := PySem.W.mg_of X G a14
  have F18 : FunC K "is_made" "is_made" (topS 18) f18 _ cc2 := ⟨⟨_, _, _, _, _, _, _, _, rfl, l18, c18⟩, k18⟩
  have b18 := F18.toFun.binds (ps := ["chart", "taking"]) fun _ _ _ _ _ _ us hl => match us, hl with | [_, _], _ => rfl
  have g18 := PySem.W.mg_of X G a18
  have F19 := fun_mk (st := topS 19) l19 c19 k19
  have b19 := F19.binds (ps := ["chart"]) fun _ _ _ _ _ _ us hl => match us, hl with | [_], _ => rfl
  have g19 := PySem.W.mg_of X G a19
  have F21 := fun_mk (st := topS 21) l21 c21 k21
  have b21 := F21.binds (ps := ["chart"]) fun _ _ _ _ _ _ us hl => match us, hl with | [_], _ => rfl
  have g21 := PySem.W.mg_of X G a21
  have F22 : FunC K "bare_of" "bare_of" (topS 22) f22 _ cc3 := ⟨⟨_, _, _, _, _, _, _, _, rfl, l22, c22⟩, k22⟩
  have b22 := F22.toFun.binds (ps := ["chart"]) fun _ _ _ _ _ _ us hl => match us, hl with | [_], _ => rfl
  have g22 := PySem.W.mg_of X G a22
  have F23 := fun_mk (st := topS 23) l23 c23 k23
  have b23 := F23.binds (ps := ["chart"]) fun _ _ _ _ _ _ us hl => match us, hl with | [_], _ => rfl
  have g23 := PySem.W.mg_of X G a23
  have F24 := fun_mk (st := topS 24) l24 c24 k24
  have b24 := F24.binds (ps := ["chart"]) fun _ _ _ _ _ _ us hl => match us, hl with | [_], _ => rfl
  have g24 := PySem.W.mg_of X G a24
  have F26 := fun_mk (st := topS 26) l26 c26 k26
  have b26 := F26.binds (ps := ["chart"]) fun _ _ _ _ _ _ us hl => match us, hl with | [_], _ => rfl
  have g26 := PySem.W.mg_of X G a26
  have F27 := fun_mk (st := topS 27) l27 c27 k27
  have b27 := F27.binds (ps := ["chart"]) fun _ _ _ _ _ _ us hl => match us, hl with | [_], _ => rfl
  have g27 := PySem.W.mg_of X G a27
  have F28 := fun_mk (st := topS 28) l28 c28 k28
  have b28 := F28.binds (ps := ["chart"]) fun _ _ _ _ _ _ us hl => match us, hl with | [_], _ => rfl
  have g28 := PySem.W.mg_of X G a28
  have F29 := fun_mk (st := topS 29) l29 c29 k29
  have b29 := F29.binds (ps := ["chart"]) fun _ _ _ _ _ _ us hl => match us, hl with | [_], _ => rfl
  have g29 := PySem.W.mg_of X G a29
  have F30 := fun_mk (st := topS 30) l30 c30 k30
  have b30 := F30.binds (ps := ["chart"]) fun _ _ _ _ _ _ us hl => match us, hl with | [_], _ => rfl
  have g30 := PySem.W.mg_of X G a30
  have F25 := fun_mk (st := topS 25) l25 c25 k25
  have b25 := F25.binds (ps := ["chart"]) fun _ _ _ _ _ _ us hl => match us, hl with | [_], _ => rfl
  have g25 := PySem.W.mg_of X G a25
  have F35 := fun_mk (st := topS 35) l35 c35 k35
  have b35 := F35.binds (ps := ["_law_arms", "_law_length", "_law_cell"]) fun _ _ _ _ _ _ us hl => match us, hl with | [_, _, _], _ => rfl
  have g35 := PySem.W.mg_of X G a35
  have F36 := fun_mk (st := topS 36) l36 c36 k36
  have b36 := F36.binds (ps := ["_law_arms", "_law_length", "_law_some"]) fun _ _ _ _ _ _ us hl => match us, hl with | [_, _, _], _ => rfl
  have g36 := PySem.W.mg_of X G a36
  have F38 := fun_mk (st := topS 38) l38 c38 k38
  have b38 := F38.binds (ps := ["_law_chart"]) fun _ _ _ _ _ _ us hl => match us, hl with | [_], _ => rfl
  have g38 := PySem.W.mg_of X G a38
  have F39 := fun_mk (st := topS 39) l39 c39 k39
  have b39 := F39.binds (ps := ["_law_chart", "_law_taking"]) fun _ _ _ _ _ _ us hl => match us, hl with | [_, _], _ => rfl
  have g39 := PySem.W.mg_of X G a39
  have F40 := fun_mk (st := topS 40) l40 c40 k40
  have b40 := F40.binds (ps := ["_law_chart"]) fun _ _ _ _ _ _ us hl => match us, hl with | [_], _ => rfl
  have g40 := PySem.W.mg_of X G a40
  have F32 := fun_mk (st := topS 32) l32 c32 k32
  have b32 := F32.binds (ps := ["_law_row", "_law_many"]) fun _ _ _ _ _ _ us hl => match us, hl with | [_, _], _ => rfl
  have g32 := PySem.W.mg_of X G a32
  have F33 := fun_mk (st := topS 33) l33 c33 k33
  have b33 := F33.binds (ps := ["_law_row", "_law_things"]) fun _ _ _ _ _ _ us hl => match us, hl with | [_, _], _ => rfl
  have g33 := PySem.W.mg_of X G a33
  have F42 := fun_mk (st := topS 42) l42 c42 k42
  have b42 := F42.binds (ps := ["_law_row", "_law_most"]) fun _ _ _ _ _ _ us hl => match us, hl with | [_, _], _ => rfl
  have g42 := PySem.W.mg_of X G a42
  have F37 := fun_mk (st := topS 37) l37 c37 k37
  have b37 := F37.binds (ps := ["_law_row", "_law_arms", "_law_length", "_law_lands"]) fun _ _ _ _ _ _ us hl => match us, hl with | [_, _, _, _], _ => rfl
  have g37 := PySem.W.mg_of X G a37
  have F34 := fun_mk (st := topS 34) l34 c34 k34
  have b34 := F34.binds (ps := ["_law_found", "_law_due"]) fun _ _ _ _ _ _ us hl => match us, hl with | [_, _], _ => rfl
  have g34 := PySem.W.mg_of X G a34
  have F43 := fun_mk (st := topS 43) l43 c43 k43
  have b43 := F43.binds (ps := ["_law_script"]) fun _ _ _ _ _ _ us hl => match us, hl with | [_], _ => rfl
  have g43 := PySem.W.mg_of X G a43
  have m_isinstance := PySem.W.mg_none_of X G z_isinstance
  have m_int := PySem.W.mg_none_of X G z_int
  have m_bool := PySem.W.mg_none_of X G z_bool
  have m_range := PySem.W.mg_none_of X G z_range
  have m_len := PySem.W.mg_none_of X G z_len
  have m_enumerate := PySem.W.mg_none_of X G z_enumerate
  have m_max := PySem.W.mg_none_of X G z_max
  have m_list := PySem.W.mg_none_of X G z_list
  have m_tuple := PySem.W.mg_none_of X G z_tuple
  have m_all := PySem.W.mg_none_of X G z_all
  have m_any := PySem.W.mg_none_of X G z_any
  have m_sorted := PySem.W.mg_none_of X G z_sorted
  have m_str := PySem.W.mg_none_of X G z_str
  have m_set := PySem.W.mg_none_of X G z_set
  have m_MOST_LENGTH := PySem.W.mg_of X G z_MOST_LENGTH
  have m_LEAST_ARMS := PySem.W.mg_of X G z_LEAST_ARMS
  have m_MOST_ARMS := PySem.W.mg_of X G z_MOST_ARMS
  have tab1 : h.get? pt1 = some { cls := .none, data := .fields #[] } := own "are_cells" (by simp) f12 g12 cc1 pt1 _ _ _ _ _ _ l12 rfl rfl x1 y1
  have tab2 : h.get? pt2 = some { cls := .none, data := .fields #[] } := own "is_made" (by simp) f18 g18 cc2 pt2 _ _ _ _ _ _ l18 rfl rfl x2 y2
  have tab3 : h.get? pt3 = some { cls := .none, data := .fields #[] } := own "bare_of" (by simp) f22 g22 cc3 pt3 _ _ _ _ _ _ l22 rfl rfl x3 y3
  generalize hTT : [pt1, pt2, pt3] = T
  have hT1 : pt1 ∈ T := by rw [← hTT]; exact (mem3 pt1 pt2 pt3).1
  have hT2 : pt2 ∈ T := by rw [← hTT]; exact (mem3 pt1 pt2 pt3).2.1
  have hT3 : pt3 ∈ T := by rw [← hTT]; exact (mem3 pt1 pt2 pt3).2.2
  have all3 : ∀ {R : Addr × Addr → Prop}, R (cc1, pt1) → R (cc2, pt2) → R (cc3, pt3) → ∀ p ∈ [(cc1, pt1), (cc2, pt2), (cc3, pt3)], R p := fun r1 r2 r3 p hp => by
    rcases List.mem_cons.mp hp with e | hp
    · rw [e]; exact r1
    · rcases List.mem_cons.mp hp with e | hp
      · rw [e]; exact r2
      · rw [List.mem_singleton.mp hp]; exact r3
  refine ⟨PySem.W.fnOf "law" "law" (defArgs (topS 43)) (defBody (topS 43)) (defScope (topS 43)) .none kV43 dc43 pm43 an43 cd43 ct43, [(cc1, pt1), (cc2, pt2), (cc3, pt3)], sp_law K T, all3 tab1 tab2 tab3, all3 n1 n2 n3, all3 (PySem.W.codeHd_of_K X h1) (PySem.W.codeHd_of_K X h2) (PySem.W.codeHd_of_K X h3), fun s v => .of_eq rfl, fun H a ns hl _ hT hS => ?_, fun base _ _ TB => ?_⟩
  · refine ⟨a, ns, rfl, hS, hl, ?_, fun _ => rfl⟩
    rw [← hTT]
    have tg : ∀ {p : Addr × Addr}, p ∈ [(cc1, pt1), (cc2, pt2), (cc3, pt3)] → GxR.TabG H p.2 := fun hp => ⟨#[], hT _ hp, True.intro⟩
    intro P hP
    rcases List.mem_cons.mp hP with e | hP
    · rw [e]; exact tg (mem3 (cc1, pt1) (cc2, pt2) (cc3, pt3)).1
    · rcases List.mem_cons.mp hP with e | hP
      · rw [e]; exact tg (mem3 (cc1, pt1) (cc2, pt2) (cc3, pt3)).2.1
      · rw [List.mem_singleton.mp hP]; exact tg (mem3 (cc1, pt1) (cc2, pt2) (cc3, pt3)).2.2
  · have tb : ∀ {p : Addr × Addr}, p ∈ [(cc1, pt1), (cc2, pt2), (cc3, pt3)] → GxR.TabB base mg p.1 p.2 := fun hp => ⟨(TB _ hp).code, (TB _ hp).bm, (TB _ hp).gP⟩
    have tb1 : GxR.TabB base mg cc1 pt1 := tb (mem3 (cc1, pt1) (cc2, pt2) (cc3, pt3)).1
    have tb2 : GxR.TabB base mg cc2 pt2 := tb (mem3 (cc1, pt1) (cc2, pt2) (cc3, pt3)).2.1
    have tb3 : GxR.TabB base mg cc3 pt3 := tb (mem3 (cc1, pt1) (cc2, pt2) (cc3, pt3)).2.2
    let c_is_in : Cal l.prog w K mg base 1 "is_in" ["value", "least", "most"] sp_is_in := calOf F7 g7 b7 (ok_is_in F7 m_isinstance m_int m_bool)
    let c_near : Cal l.prog w K mg base 1 "near" ["arms", "length", "cell"] sp_near := calOf F8 g8 b8 (ok_near F8 m_range)
    let c_length_of : Cal l.prog w K mg base 1 "length_of" ["chart"] sp_length_of := calOf F9 g9 b9 (ok_length_of F9 m_len)
    let c_held : Cal l.prog w K mg base 1 "held" ["cells", "land"] sp_held := calOf F11 g11 b11 (ok_held F11 m_enumerate)
    let c_hangs : Cal l.prog w K mg base 2 "hangs" ["arms", "cells", "some"] sp_hangs := calOf F10 g10 b10 (ok_hangs F10 c_near m_len)
    let c_lands_of : Cal l.prog w K mg base 1 "lands_of" ["chart"] (sp_lands_of T) := calOf F15 g15 b15 (ok_lands_of (T := T) F15 m_max)
    let c_outward : Cal l.prog w K mg base 2 "outward" ["chart", "arm"] sp_outward := calOf F16 g16 b16 (ok_outward F16 c_length_of m_list)
    let c_are_cells : Cal l.prog w K mg base 4 "are_cells" ["arms", "cells"] (sp_are_cells T) := calOf F12.toFun g12 b12 (ok_are_cells (T := T) F12 tb1 hT1 m_len m_all m_max m_range m_MOST_LENGTH c_is_in c_held c_hangs)
    let c_is_map : Cal l.prog w K mg base 5 "is_map" ["value"] (sp_is_map T) := calOf F13 g13 b13 (ok_is_map (T := T) F13 m_isinstance m_tuple m_len m_LEAST_ARMS m_MOST_ARMS c_is_in c_are_cells)
    let c_need_map : Cal l.prog w K mg base 6 "need_map" ["chart"] (sp_need_map T) := calOf F14 g14 b14 (ok_need_map (T := T) F14 c_is_map)
    let c_is_made : Cal l.prog w K mg base 3 "is_made" ["chart", "taking"] (sp_is_made T) := calOf F18.toFun g18 b18 (ok_is_made (T := T) F18 tb2 hT2 m_any c_near c_length_of c_held c_hangs)
    let c_all_takings : Cal l.prog w K mg base 4 "all_takings" ["chart"] (sp_all_takings T) := calOf F19 g19 b19 (ok_all_takings (T := T) F19 m_range m_len c_lands_of c_is_made)
    let c_hub_takings : Cal l.prog w K mg base 7 "hub_takings" ["chart"] (sp_hub_takings T) := calOf F21 g21 b21 (ok_hub_takings (T := T) F21 m_tuple c_need_map c_all_takings)
    let c_bare_of : Cal l.prog w K mg base 3 "bare_of" ["chart"] (sp_bare_of T) := calOf F22.toFun g22 b22 (ok_bare_of (T := T) F22 tb3 hT3 m_len m_range m_all c_outward)
    let c_freezes : Cal l.prog w K mg base 4 "freezes" ["chart"] (sp_freezes T) := calOf F23 g23 b23 (ok_freezes (T := T) F23 c_bare_of)
    let c_bare_arms : Cal l.prog w K mg base 7 "bare_arms" ["chart"] (sp_bare_of T) := calOf F24 g24 b24 (ok_bare_arms (T := T) F24 c_need_map c_bare_of)
    let c_is_frozen : Cal l.prog w K mg base 7 "is_frozen" ["chart"] (sp_freezes T) := calOf F26 g26 b26 (ok_is_frozen (T := T) F26 c_need_map c_freezes)
    let c_tips : Cal l.prog w K mg base 3 "tips" ["chart"] sp_tips := calOf F27 g27 b27 (ok_tips F27 m_tuple m_range c_outward)
    let c_own_lands : Cal l.prog w K mg base 7 "own_lands" ["chart"] (sp_own_lands T) := calOf F28 g28 b28 (ok_own_lands (T := T) F28 c_need_map c_freezes c_tips)
    let c_other_lands : Cal l.prog w K mg base 7 "other_lands" ["chart"] (sp_other_lands T) := calOf F29 g29 b29 (ok_other_lands (T := T) F29 m_tuple m_range c_need_map c_freezes c_tips c_lands_of)
    let c_ever_hub : Cal l.prog w K mg base 7 "ever_hub" ["chart"] (sp_ever_hub T) := calOf F30 g30 b30 (ok_ever_hub (T := T) F30 m_tuple m_range c_need_map c_freezes c_lands_of)
    let c_lands_on : Cal l.prog w K mg base 7 "lands_on" ["chart"] (sp_lands_on T) := calOf F25 g25 b25 (ok_lands_on (T := T) F25 m_tuple m_range m_len c_need_map c_outward)
    let c__law_near : Cal l.prog w K mg base 1 "_law_near" ["_law_arms", "_law_length", "_law_cell"] sp__law_near := calOf F35 g35 b35 (ok__law_near F35 m_range m_sorted)
    let c__law_hangs : Cal l.prog w K mg base 2 "_law_hangs" ["_law_arms", "_law_length", "_law_some"] sp__law_hangs := calOf F36 g36 b36 (ok__law_hangs F36 m_len c__law_near)
    let c__law_takings : Cal l.prog w K mg base 3 "_law_takings" ["_law_chart"] sp__law_takings := calOf F38 g38 b38 (ok__law_takings F38 m_range m_len m_max c__law_near c__law_hangs)
    let c__law_behind : Cal l.prog w K mg base 1 "_law_behind" ["_law_chart", "_law_taking"] sp__law_behind := calOf F39 g39 b39 (ok__law_behind F39 )
    let c__law_from : Cal l.prog w K mg base 4 "_law_from" ["_law_chart"] (sp__law_from l.prog w) := calOf F40 g40 b40 (ok__law_from F40 c__law_takings c__law_behind)
    let c__law_taken : Cal l.prog w K mg base 1 "_law_taken" ["_law_row", "_law_many"] (sp__law_taken K) := calOf F32 g32 b32 (ok__law_taken F32 m_int m_len)
    let c__law_pick : Cal l.prog w K mg base 2 "_law_pick" ["_law_row", "_law_things"] (sp__law_pick K) := calOf F33 g33 b33 (ok__law_pick F33 m_len c__law_taken)
    let c__law_island : Cal l.prog w K mg base 2 "_law_island" ["_law_row", "_law_most"] (sp__law_island K) := calOf F42 g42 b42 (ok__law_island F42 c__law_taken)
    let c__law_map : Cal l.prog w K mg base 3 "_law_map" ["_law_row", "_law_arms", "_law_length", "_law_lands"] (sp__law_map K) := calOf F37 g37 b37 (ok__law_map F37 m_range m_list m_tuple c__law_pick)
    let c_al0 : Cal l.prog w K mg base 0 "_law_alike" ["_law_found", "_law_due"] (fun _ _ _ _ => False) := calOf F34 g34 b34 (dead _)
    let c_al1 : Cal l.prog w K mg base 1 "_law_alike" ["_law_found", "_law_due"] spA1 := calOf F34 g34 b34 (ok__law_alike F34 m_isinstance m_tuple m_list m_len m_range m_str m_int m_bool c_al0)
    let c_al2 : Cal l.prog w K mg base 2 "_law_alike" ["_law_found", "_law_due"] spA2 := calOf F34 g34 b34 (ok__law_alike F34 m_isinstance m_tuple m_list m_len m_range m_str m_int m_bool c_al1)
    let c_al3 : Cal l.prog w K mg base 3 "_law_alike" ["_law_found", "_law_due"] spA3 := calOf F34 g34 b34 (ok__law_alike F34 m_isinstance m_tuple m_list m_len m_range m_str m_int m_bool c_al2)
    exact ok_law F43 m_range m_len m_tuple m_set m_sorted c__law_island c__law_map c_al3 c__law_takings c__law_from c_hub_takings c_is_frozen c_bare_arms c_lands_on c_ever_hub c_own_lands c_other_lands
end Sl
set_option Elab.async false
set_option linter.all false
set_option maxRecDepth 100000
open PySem PySem.W PyProof.Rows
set_option maxHeartbeats 0 in
theorem PySem.Challenge.cw_starlands_k03_whole_hubs_holds : PySem.Challenge.rw_starlands_k03_whole_hubs.Holds := by
  w_on; o_law; k_head; (case hw => w_witness2)
  k_fill
  refine Sl.walk_ofOwns (l := PySem.Challenge.rw_starlands_k03_whole_hubs) (n := 63) (k := 8) (x := "_law_script") (CX := fun _ => L2.CX0) (names := ["are_cells", "is_made", "bare_of"]) rfl (by decide) rfl ⟨rfl, by decide, by decide⟩ (by decide +kernel) (fun w h Y => PySem.W.kIn_of Y) ?F (fun _ _ _ _ _ h => h)
  case F =>
    intro w mg fa h Y KX G hmg own
    refine' Sl.law_at KX G hmg own ?a7 ?l7 ?c7 ?k7 ?a8 ?l8 ?c8 ?k8 ?a9 ?l9 ?c9 ?k9 ?a11 ?l11 ?c11 ?k11 ?a10 ?l10 ?c10 ?k10 ?a15 ?l15 ?c15 ?k15 ?a16 ?l16 ?c16 ?k16 ?a12 ?l12 ?c12 ?k12 ?x1 ?y1 ?n1 ?h1 ?a13 ?l13 ?c13 ?k13 ?a14 ?l14 ?c14 ?k14 ?a18 ?l18 ?c18 ?k18 ?x2 ?y2 ?n2 ?h2 ?a19 ?l19 ?c19 ?k19 ?a21 ?l21 ?c21 ?k21 ?a22 ?l22 ?c22 ?k22 ?x3 ?y3 ?n3 ?h3 ?a23 ?l23 ?c23 ?k23 ?a24 ?l24 ?c24 ?k24 ?a26 ?l26 ?c26 ?k26 ?a27 ?l27 ?c27 ?k27 ?a28 ?l28 ?c28 ?k28 ?a29 ?l29 ?c29 ?k29 ?a30 ?l30 ?c30 ?k30 ?a25 ?l25 ?c25 ?k25 ?a35 ?l35 ?c35 ?k35 ?a36 ?l36 ?c36 ?k36 ?a38 ?l38 ?c38 ?k38 ?a39 ?l39 ?c39 ?k39 ?a40 ?l40 ?c40 ?k40 ?a32 ?l32 ?c32 ?k32 ?a33 ?l33 ?c33 ?k33 ?a42 ?l42 ?c42 ?k42 ?a37 ?l37 ?c37 ?k37 ?a34 ?l34 ?c34 ?k34 ?a43 ?l43 ?c43 ?k43 ?z_isinstance ?z_int ?z_bool ?z_range ?z_len ?z_enumerate ?z_max ?z_list ?z_tuple ?z_all ?z_any ?z_sorted ?z_str ?z_set ?z_MOST_LENGTH ?z_LEAST_ARMS ?z_MOST_ARMS
    (case a7 => k_is); (case l7 => k_is); (case c7 => k_is); (case k7 => k_is); (case a8 => k_is); (case l8 => k_is); (case c8 => k_is); (case k8 => k_is); (case a9 => k_is); (case l9 => k_is); (case c9 => k_is); (case k9 => k_is); (case a11 => k_is); (case l11 => k_is); (case c11 => k_is); (case k11 => k_is); (case a10 => k_is); (case l10 => k_is); (case c10 => k_is); (case k10 => k_is); (case a15 => k_is); (case l15 => k_is); (case c15 => k_is); (case k15 => k_is); (case a16 => k_is); (case l16 => k_is); (case c16 => k_is); (case k16 => k_is); (case a12 => k_is); (case l12 => k_is); (case c12 => k_is); (case k12 => k_is); (case x1 => k_is); (case y1 => rfl); (case n1 => rfl); (case h1 => first | k_is | rfl); (case a13 => k_is); (case l13 => k_is); (case c13 => k_is); (case k13 => k_is); (case a14 => k_is); (case l14 => k_is); (case c14 => k_is); (case k14 => k_is); (case a18 => k_is); (case l18 => k_is); (case c18 => k_is); (case k18 => k_is); (case x2 => k_is); (case y2 => rfl); (case n2 => rfl); (case h2 => first | k_is | rfl); (case a19 => k_is); (case l19 => k_is); (case c19 => k_is); (case k19 => k_is); (case a21 => k_is); (case l21 => k_is); (case c21 => k_is); (case k21 => k_is); (case a22 => k_is); (case l22 => k_is); (case c22 => k_is); (case k22 => k_is); (case x3 => k_is); (case y3 => rfl); (case n3 => rfl); (case h3 => first | k_is | rfl); (case a23 => k_is); (case l23 => k_is); (case c23 => k_is); (case k23 => k_is); (case a24 => k_is); (case l24 => k_is); (case c24 => k_is); (case k24 => k_is); (case a26 => k_is); (case l26 => k_is); (case c26 => k_is); (case k26 => k_is); (case a27 => k_is); (case l27 => k_is); (case c27 => k_is); (case k27 => k_is); (case a28 => k_is); (case l28 => k_is); (case c28 => k_is); (case k28 => k_is); (case a29 => k_is); (case l29 => k_is); (case c29 => k_is); (case k29 => k_is); (case a30 => k_is); (case l30 => k_is); (case c30 => k_is); (case k30 => k_is); (case a25 => k_is); (case l25 => k_is); (case c25 => k_is); (case k25 => k_is); (case a35 => k_is); (case l35 => k_is); (case c35 => k_is); (case k35 => k_is); (case a36 => k_is); (case l36 => k_is); (case c36 => k_is); (case k36 => k_is); (case a38 => k_is); (case l38 => k_is); (case c38 => k_is); (case k38 => k_is); (case a39 => k_is); (case l39 => k_is); (case c39 => k_is); (case k39 => k_is); (case a40 => k_is); (case l40 => k_is); (case c40 => k_is); (case k40 => k_is); (case a32 => k_is); (case l32 => k_is); (case c32 => k_is); (case k32 => k_is); (case a33 => k_is); (case l33 => k_is); (case c33 => k_is); (case k33 => k_is); (case a42 => k_is); (case l42 => k_is); (case c42 => k_is); (case k42 => k_is); (case a37 => k_is); (case l37 => k_is); (case c37 => k_is); (case k37 => k_is); (case a34 => k_is); (case l34 => k_is); (case c34 => k_is); (case k34 => k_is); (case a43 => k_is); (case l43 => k_is); (case c43 => k_is); (case k43 => k_is); (case z_isinstance => k_is); (case z_int => k_is); (case z_bool => k_is); (case z_range => k_is); (case z_len => k_is); (case z_enumerate => k_is); (case z_max => k_is); (case z_list => k_is); (case z_tuple => k_is); (case z_all => k_is); (case z_any => k_is); (case z_sorted => k_is); (case z_str => k_is); (case z_set => k_is); (case z_MOST_LENGTH => k_is); (case z_LEAST_ARMS => k_is); (case z_MOST_ARMS => k_is)
