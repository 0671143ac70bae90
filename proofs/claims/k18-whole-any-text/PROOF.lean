import PyProof.Rows.All
import Wide.All
import OpenK.AllK
import Wide.FinOn
import HandS.ForMost
import PySem.Challenge.RW_beadhall_k18_whole_any_text
import HandS.Exc
import HandS.TryOnly
import HandS.ExcOwn
import HandS.WordsExc
import HandS.Walk
import HandS.Wide
import HandS.IsInst
import HandS.ExcInit
import HandS.ExcField
import KE.GoesEnumKw
import HandS.Codes
set_option Elab.async false
set_option linter.all false
set_option maxRecDepth 100000
set_option maxHeartbeats 1000000
/-! The mathematics: what a text of rows tells, and that what is written is read back. No program in sight. -/
namespace BH
open PySem TL

abbrev Bag := List (Str × Int)
def FIG : List Nat := tl ("0123456789" : Str)
def LET : List Nat := tl ("abcdefghijklmnopqrstuvwxyz" : Str)
theorem FIG_eq : FIG = [48, 49, 50, 51, 52, 53, 54, 55, 56, 57] := by decide +kernel
theorem LET_eq : LET = [97, 98, 99, 100, 101, 102, 103, 104, 105, 106, 107, 108, 109, 110, 111, 112, 113, 114, 115, 116, 117, 118, 119, 120, 121, 122] := by decide +kernel
theorem mem_FIG {c : Nat} : c ∈ FIG ↔ 48 ≤ c ∧ c ≤ 57 := by
  rw [FIG_eq]
  simp only [List.mem_cons, List.mem_nil_iff, or_false]
  omega
theorem mem_LET {c : Nat} : c ∈ LET ↔ 97 ≤ c ∧ c ≤ 122 := by
  rw [LET_eq]
  simp only [List.mem_cons, List.mem_nil_iff, or_false]
  omega

/-! ### words -/
def countS (w : Str) : Option Int :=
  if 1 ≤ w.length ∧ w.length ≤ 10 ∧ (∀ c ∈ tl w, c ∈ FIG) ∧ ¬ ((tl w).head? = some 48 ∧ 1 < w.length) ∧ NumText.digitsVal (tl w) ≤ 1000000000 then some ((NumText.digitsVal (tl w) : Nat) : Int) else none
def goodName (w : Str) : Bool := decide (1 ≤ w.length ∧ w.length ≤ 8 ∧ ∀ c ∈ tl w, c ∈ LET)
theorem countS_range {w : Str} {c : Int} (h : countS w = some c) : 0 ≤ c ∧ c ≤ 1000000000 := by
  unfold countS at h
  split at h
  · rename_i q
    cases h
    obtain ⟨_, _, _, _, q5⟩ := q
    omega
  · cases h
theorem goodName_of {w : Str} (h : goodName w = true) : 1 ≤ w.length ∧ w.length ≤ 8 ∧ ∀ c ∈ tl w, c ∈ LET := of_decide_eq_true h

def wd (words : List Str) (i : Nat) : Str := words.getD i Str.empty
theorem wd_of {words : List Str} {i : Nat} {w : Str} (h : words[i]? = some w) : wd words i = w := by
  unfold wd
  rw [List.getD_eq_getElem?_getD, h]
  rfl
theorem wd_lt {words : List Str} {i : Nat} (h : i < words.length) : words[i]? = some (wd words i) := by
  unfold wd
  rw [List.getD_eq_getElem?_getD, List.getElem?_eq_getElem h]
  rfl
/-- the first place of x -/
def idx (x : Str) : List Str → Nat
  | [] => 0
  | y :: r => if y = x then 0 else idx x r + 1
theorem idx_at {x : Str} : ∀ {l : List Str}, x ∈ l → l[idx x l]? = some x
  | [], h => by simp at h
  | y :: r, h => by
    unfold idx
    by_cases e : y = x
    · rw [if_pos e, e]
      rfl
    · rw [if_neg e]
      have h' : x ∈ r := by
        rcases List.mem_cons.mp h with q | q
        · exact absurd q.symm e
        · exact q
      exact idx_at h'
theorem idx_lt {x : Str} {l : List Str} (h : x ∈ l) : idx x l < l.length := by
  have q := idx_at h
  exact (List.getElem?_eq_some_iff.mp q).1
theorem idx_first {x : Str} : ∀ {l : List Str} {j : Nat} {z : Str}, j < idx x l → l[j]? = some z → z ≠ x
  | [], j, z, _, h => by simp at h
  | y :: r, j, z, hj, h => by
    unfold idx at hj
    by_cases e : y = x
    · rw [if_pos e] at hj
      omega
    · rw [if_neg e] at hj
      cases j with
      | zero =>
        have q : y = z := Option.some.inj h
        rw [← q]
        exact e
      | succ j => exact idx_first (l := r) (j := j) (by omega) h
theorem idx_append {x : Str} : ∀ {l r : List Str}, ¬ x ∈ l → idx x (l ++ x :: r) = l.length
  | [], r, _ => by
    show (if x = x then 0 else _) = 0
    rw [if_pos rfl]
  | y :: l, r, h => by
    have e : ¬ y = x := fun q => h (by rw [q]; exact List.mem_cons_self ..)
    have h' : ¬ x ∈ l := fun q => h (List.mem_cons_of_mem _ q)
    show (if y = x then 0 else idx x (l ++ x :: r) + 1) = l.length + 1
    rw [if_neg e, idx_append h']

/-! ### bags by names -/
def valB (B : Bag) (n : Str) : Int := match B.find? (fun p => decide (p.1 = n)) with
  | some p => p.2
  | none => 0
def keysB (B : Bag) : List Str := B.map (·.1)
def vec (bowls : List Str) (B : Bag) : List Int := bowls.map (valB B)
structure BagOk (bowls : List Str) (B : Bag) : Prop where
  sub : ∀ n ∈ keysB B, n ∈ bowls
  nd : (keysB B).Nodup
  val : ∀ p ∈ B, 1 ≤ p.2 ∧ p.2 ≤ 1000000000
theorem valB_none {B : Bag} {n : Str} (h : ¬ n ∈ keysB B) : valB B n = 0 := by
  unfold valB
  have e : B.find? (fun p => decide (p.1 = n)) = none := List.find?_eq_none.mpr fun p hp q => h (List.mem_map.mpr ⟨p, hp, of_decide_eq_true q⟩)
  rw [e]
theorem valB_mem : ∀ {B : Bag} {p : Str × Int}, (keysB B).Nodup → p ∈ B → valB B p.1 = p.2
  | [], p, _, h => by simp at h
  | q :: B, p, hn, h => by
    unfold valB
    have hn' : (q.1 :: keysB B).Nodup := hn
    obtain ⟨h1, h2⟩ := List.nodup_cons.mp hn'
    rcases List.mem_cons.mp h with e | e
    · rw [e, List.find?_cons_of_pos (by simp)]
    · have hne : ¬ q.1 = p.1 := fun z => h1 (by rw [z]; exact List.mem_map.mpr ⟨p, e, rfl⟩)
      rw [List.find?_cons_of_neg (by simpa using hne)]
      exact valB_mem h2 e
theorem valB_cons {B : Bag} {p : Str × Int} {n : Str} : valB (p :: B) n = if p.1 = n then p.2 else valB B n := by
  unfold valB
  by_cases e : p.1 = n
  · rw [if_pos e, List.find?_cons_of_pos (by simpa using e)]
  · rw [if_neg e, List.find?_cons_of_neg (by simpa using e)]
theorem valB_range {bowls : List Str} {B : Bag} (h : BagOk bowls B) (n : Str) : 0 ≤ valB B n ∧ valB B n ≤ 1000000000 := by
  by_cases e : n ∈ keysB B
  · obtain ⟨p, hp, rfl⟩ := List.mem_map.mp e
    rw [valB_mem h.nd hp]
    have q := h.val p hp
    omega
  · rw [valB_none e]
    omega
theorem valB_pos {bowls : List Str} {B : Bag} (h : BagOk bowls B) (n : Str) : 0 < valB B n ↔ n ∈ keysB B := by
  constructor
  · intro q
    by_cases e : n ∈ keysB B
    · exact e
    · rw [valB_none e] at q
      omega
  · intro e
    obtain ⟨p, hp, rfl⟩ := List.mem_map.mp e
    rw [valB_mem h.nd hp]
    have q := h.val p hp
    omega
theorem valB_snoc {B : Bag} {n m : Str} {c : Int} (h : ¬ n ∈ keysB B) : valB (B ++ [(n, c)]) m = if m = n then c else valB B m := by
  induction B with
  | nil =>
    show valB [(n, c)] m = _
    rw [valB_cons]
    by_cases e : m = n
    · rw [if_pos e, if_pos e.symm]
    · rw [if_neg e, if_neg (fun z => e z.symm)]
  | cons p B ih =>
    have h1 : ¬ n = p.1 := fun z => h (by rw [z]; exact List.mem_cons_self ..)
    have h2 : ¬ n ∈ keysB B := fun z => h (List.mem_cons_of_mem _ z)
    show valB (p :: (B ++ [(n, c)])) m = _
    rw [valB_cons, valB_cons, ih h2]
    by_cases e : p.1 = m
    · have e2 : ¬ m = n := fun z => h1 (by rw [← z, ← e])
      rw [if_pos e, if_neg e2, if_pos e]
    · rw [if_neg e, if_neg e]
theorem keysB_snoc {B : Bag} {n : Str} {c : Int} : keysB (B ++ [(n, c)]) = keysB B ++ [n] := by
  unfold keysB
  rw [List.map_append]
  rfl
theorem vec_len (bowls : List Str) (B : Bag) : (vec bowls B).length = bowls.length := List.length_map _
theorem vec_append (xs ys : List Str) (B : Bag) : vec (xs ++ ys) B = vec xs B ++ vec ys B := List.map_append
theorem vec_zero {ys : List Str} {B : Bag} (h : ∀ n ∈ ys, ¬ n ∈ keysB B) : vec ys B = List.replicate ys.length 0 := by
  induction ys with
  | nil => rfl
  | cons y ys ih =>
    show valB B y :: vec ys B = List.replicate (ys.length + 1) 0
    rw [valB_none (h y (List.mem_cons_self ..)), ih (fun n hn => h n (List.mem_cons_of_mem _ hn))]
    rfl
/-- a new piece at the place of its bowl -/
theorem vec_set {bowls : List Str} {B : Bag} {n : Str} {c : Int} (hb : bowls.Nodup) (hn : n ∈ bowls) (h : ¬ n ∈ keysB B) : vec bowls (B ++ [(n, c)]) = (vec bowls B).set (idx n bowls) c := by
  induction bowls with
  | nil => simp at hn
  | cons y r ih =>
    obtain ⟨h1, h2⟩ := List.nodup_cons.mp hb
    unfold idx
    by_cases e : y = n
    · rw [if_pos e]
      show valB (B ++ [(n, c)]) y :: vec r (B ++ [(n, c)]) = c :: vec r B
      rw [valB_snoc h, if_pos e]
      have q : ∀ m ∈ r, valB (B ++ [(n, c)]) m = valB B m := fun m hm => by
        rw [valB_snoc h, if_neg fun z => h1 (by rw [e, ← z]; exact hm)]
      have q2 : vec r (B ++ [(n, c)]) = vec r B := List.map_congr_left q
      rw [q2]
    · rw [if_neg e]
      have hn' : n ∈ r := by
        rcases List.mem_cons.mp hn with z | z
        · exact absurd z.symm e
        · exact z
      show valB (B ++ [(n, c)]) y :: vec r (B ++ [(n, c)]) = valB B y :: (vec r B).set (idx n r) c
      rw [valB_snoc h, if_neg e, ih h2 hn']
theorem vec_get {bowls : List Str} {B : Bag} {n : Str} (hn : n ∈ bowls) : (vec bowls B)[idx n bowls]? = some (valB B n) := by
  unfold vec
  rw [List.getElem?_map, idx_at hn]
  rfl
theorem BagOk.nil (bowls : List Str) : BagOk bowls [] := ⟨fun n h => by simp [keysB] at h, by simp [keysB], fun p h => by simp at h⟩
theorem BagOk.snoc {bowls : List Str} {B : Bag} {n : Str} {c : Int} (h : BagOk bowls B) (hn : n ∈ bowls) (hk : ¬ n ∈ keysB B) (h1 : 1 ≤ c) (h2 : c ≤ 1000000000) : BagOk bowls (B ++ [(n, c)]) := by
  refine ⟨fun m hm => ?_, ?_, fun p hp => ?_⟩
  · rw [keysB_snoc] at hm
    rcases List.mem_append.mp hm with q | q
    · exact h.sub m q
    · rw [List.mem_singleton.mp q]
      exact hn
  · rw [keysB_snoc]
    exact L2.nd_snoc h.nd hk
  · rcases List.mem_append.mp hp with q | q
    · exact h.val p q
    · rw [List.mem_singleton.mp q]
      exact ⟨h1, h2⟩
theorem BagOk.more {bowls more : List Str} {B : Bag} (h : BagOk bowls B) : BagOk (bowls ++ more) B := ⟨fun n hn => List.mem_append_left _ (h.sub n hn), h.nd, h.val⟩
/-- a bag told by fewer bowls, widened -/
theorem vec_widen {bowls more : List Str} {B : Bag} (h : BagOk bowls B) (hn : (bowls ++ more).Nodup) : vec (bowls ++ more) B = vec bowls B ++ List.replicate more.length 0 := by
  rw [vec_append]
  rw [vec_zero fun n hm hk => (List.nodup_append.mp hn).2.2 n (h.sub n hk) n hm rfl]

/-! ### a part -/
/-- the first i pieces of a part -/
def runB (words bowls : List Str) : Nat → Option Bag
  | 0 => some []
  | i + 1 => match runB words bowls i with
    | none => none
    | some B => match countS (wd words (3 * i)) with
      | none => none
      | some c => if 1 ≤ c ∧ wd words (3 * i + 1) ∈ bowls ∧ ¬ wd words (3 * i + 1) ∈ keysB B ∧ (i = 0 ∨ wd words (3 * i - 1) = ("+" : Str)) then some (B ++ [(wd words (3 * i + 1), c)]) else none
def bagOf (words bowls : List Str) : Option Bag :=
  if words = [("-" : Str)] then some [] else if words.length % 3 = 2 then runB words bowls ((words.length + 1) / 3) else none
theorem runB_ok {words bowls : List Str} : ∀ {i : Nat} {B : Bag}, runB words bowls i = some B → BagOk bowls B
  | 0, B, h => by
    cases h
    exact BagOk.nil _
  | i + 1, B, h => by
    unfold runB at h
    cases e : runB words bowls i with
    | none => rw [e] at h; cases h
    | some A =>
      rw [e] at h
      cases ec : countS (wd words (3 * i)) with
      | none => rw [ec] at h; cases h
      | some c =>
        rw [ec] at h
        dsimp only at h
        split at h
        · rename_i q
          cases h
          exact (runB_ok e).snoc q.2.1 q.2.2.1 q.1 (countS_range ec).2
        · cases h
theorem bagOf_ok {words bowls : List Str} {B : Bag} (h : bagOf words bowls = some B) : BagOk bowls B := by
  unfold bagOf at h
  split at h
  · cases h
    exact BagOk.nil _
  · split at h
    · exact runB_ok h
    · cases h
theorem runB_dead {words bowls : List Str} {i : Nat} (h : runB words bowls i = none) : ∀ {j : Nat}, i ≤ j → runB words bowls j = none := by
  intro j hj
  induction j with
  | zero =>
    have e : i = 0 := by omega
    rw [e] at h
    exact h
  | succ j ih =>
    by_cases e : i = j + 1
    · rw [← e]
      exact h
    · unfold runB
      rw [ih (by omega)]
theorem bagOf_dead {words bowls : List Str} {i : Nat} (hm : words ≠ [("-" : Str)]) (h : runB words bowls i = none) (hi : 3 * i ≤ words.length + 1) : bagOf words bowls = none := by
  unfold bagOf
  rw [if_neg hm]
  split
  · exact runB_dead h (by omega)
  · rfl
theorem bagOf_len {words bowls : List Str} (hm : words ≠ [("-" : Str)]) (h : words.length % 3 ≠ 2) : bagOf words bowls = none := by
  unfold bagOf
  rw [if_neg hm, if_neg h]
theorem bagOf_run {words bowls : List Str} {i : Nat} (hm : words ≠ [("-" : Str)]) (hl : words.length = 3 * i + 2) : bagOf words bowls = runB words bowls (i + 1) := by
  unfold bagOf
  rw [if_neg hm, if_pos (by omega), show (words.length + 1) / 3 = i + 1 by omega]
theorem runB_none_count {words bowls : List Str} {i : Nat} {B : Bag} (h : runB words bowls i = some B) (hc : countS (wd words (3 * i)) = none ∨ ∃ c, countS (wd words (3 * i)) = some c ∧ c < 1) : runB words bowls (i + 1) = none := by
  unfold runB
  rw [h]
  rcases hc with e | ⟨c, e, hlt⟩
  · rw [e]
  · rw [e]
    exact if_neg fun q => by omega
theorem runB_none_of {words bowls : List Str} {i : Nat} {B : Bag} (h : runB words bowls i = some B) (hc : ¬ wd words (3 * i + 1) ∈ bowls ∨ wd words (3 * i + 1) ∈ keysB B ∨ (i ≠ 0 ∧ wd words (3 * i - 1) ≠ ("+" : Str))) : runB words bowls (i + 1) = none := by
  unfold runB
  rw [h]
  cases e : countS (wd words (3 * i)) with
  | none => rfl
  | some c =>
    refine if_neg fun q => ?_
    obtain ⟨_, q2, q3, q4⟩ := q
    rcases hc with z | z | ⟨z1, z2⟩
    · exact z q2
    · exact q3 z
    · rcases q4 with y | y
      · exact z1 y
      · exact z2 y
theorem runB_succ {words bowls : List Str} {i : Nat} {B : Bag} {c : Int} (h : runB words bowls i = some B) (ec : countS (wd words (3 * i)) = some c) (h1 : 1 ≤ c) (hb : wd words (3 * i + 1) ∈ bowls) (hk : ¬ wd words (3 * i + 1) ∈ keysB B)
    (hp : i = 0 ∨ wd words (3 * i - 1) = ("+" : Str)) : runB words bowls (i + 1) = some (B ++ [(wd words (3 * i + 1), c)]) := by
  unfold runB
  rw [h, ec]
  exact if_pos ⟨h1, hb, hk, hp⟩

/-! ### rows -/
structure S where
  bowls : List Str
  first : List Int
  doors : List Str
  takes : List Bag
  gives : List Bag
def S0 : S := ⟨[], [], [], [], []⟩
def partA (words : List Str) : List Str := (words.take (idx (">" : Str) words)).drop 2
def partB (words : List Str) : List Str := words.drop (idx (">" : Str) words + 1)
def stepBowl (s : S) (words : List Str) : Option S :=
  if words.length = 3 ∧ s.bowls.length < 6 ∧ goodName (wd words 1) = true ∧ ¬ wd words 1 ∈ s.bowls then
    match countS (wd words 2) with
    | some c => some ⟨s.bowls ++ [wd words 1], s.first ++ [c], s.doors, s.takes, s.gives⟩
    | none => none
  else none
def stepDoor (s : S) (words : List Str) : Option S :=
  if (">" : Str) ∈ words ∧ s.doors.length < 8 ∧ goodName (wd words 1) = true ∧ ¬ wd words 1 ∈ s.doors then
    match bagOf (partA words) s.bowls, bagOf (partB words) s.bowls with
    | some T, some G => some ⟨s.bowls, s.first, s.doors ++ [wd words 1], s.takes ++ [T], s.gives ++ [G]⟩
    | _, _ => none
  else none
def wordsOf (row : Str) : List Str := Txt.split row (" " : Str)
def stepRow (s : S) (row : Str) : Option S :=
  if row = Str.empty ∨ (tl row).head? = some 35 then some s
  else if wd (wordsOf row) 0 = ("bowl" : Str) then stepBowl s (wordsOf row)
  else if wd (wordsOf row) 0 = ("door" : Str) then stepDoor s (wordsOf row)
  else none
structure WF (s : S) : Prop where
  b6 : s.bowls.length ≤ 6
  bnd : s.bowls.Nodup
  bgood : ∀ n ∈ s.bowls, goodName n = true
  fl : s.first.length = s.bowls.length
  fr : ∀ c ∈ s.first, 0 ≤ c ∧ c ≤ 1000000000
  d8 : s.doors.length ≤ 8
  dnd : s.doors.Nodup
  dgood : ∀ n ∈ s.doors, goodName n = true
  tlen : s.takes.length = s.doors.length
  glen : s.gives.length = s.doors.length
  tok : ∀ B ∈ s.takes, BagOk s.bowls B
  gok : ∀ B ∈ s.gives, BagOk s.bowls B
theorem WF0 : WF S0 := ⟨Nat.zero_le _, List.nodup_nil, fun n h => by simp [S0] at h, rfl, fun n h => by simp [S0] at h, Nat.zero_le _, List.nodup_nil, fun n h => by simp [S0] at h, rfl, rfl, fun n h => by simp [S0] at h, fun n h => by simp [S0] at h⟩
theorem mem_snoc {α : Type} {P : α → Prop} {l : List α} {x : α} (h : ∀ y ∈ l, P y) (hx : P x) : ∀ y ∈ l ++ [x], P y := fun y hy => by
  rcases List.mem_append.mp hy with q | q
  · exact h y q
  · rw [List.mem_singleton.mp q]
    exact hx
theorem WF_bowl {s s' : S} {words : List Str} (W : WF s) (h : stepBowl s words = some s') : WF s' := by
  unfold stepBowl at h
  split at h
  · rename_i q
    obtain ⟨_, q2, q3, q4⟩ := q
    split at h
    · rename_i c ec
      cases h
      refine ⟨?_, L2.nd_snoc W.bnd q4, mem_snoc W.bgood q3, ?_, mem_snoc W.fr (countS_range ec), W.d8, W.dnd, W.dgood, W.tlen, W.glen, fun B hB => (W.tok B hB).more, fun B hB => (W.gok B hB).more⟩
      · show (s.bowls ++ [_]).length ≤ 6
        rw [List.length_append, List.length_singleton]
        omega
      · show (s.first ++ [_]).length = (s.bowls ++ [_]).length
        rw [List.length_append, List.length_append, W.fl]
        rfl
    · cases h
  · cases h
theorem WF_door {s s' : S} {words : List Str} (W : WF s) (h : stepDoor s words = some s') : WF s' := by
  unfold stepDoor at h
  split at h
  · rename_i q
    obtain ⟨_, q2, q3, q4⟩ := q
    split at h
    · rename_i T G eT eG
      cases h
      refine ⟨W.b6, W.bnd, W.bgood, W.fl, W.fr, ?_, L2.nd_snoc W.dnd q4, mem_snoc W.dgood q3, ?_, ?_, mem_snoc W.tok (bagOf_ok eT), mem_snoc W.gok (bagOf_ok eG)⟩
      · show (s.doors ++ [_]).length ≤ 8
        rw [List.length_append, List.length_singleton]
        omega
      · show (s.takes ++ [_]).length = (s.doors ++ [_]).length
        rw [List.length_append, List.length_append, W.tlen]
        rfl
      · show (s.gives ++ [_]).length = (s.doors ++ [_]).length
        rw [List.length_append, List.length_append, W.glen]
        rfl
    · cases h
  · cases h
theorem WF_row {s s' : S} {row : Str} (W : WF s) (h : stepRow s row = some s') : WF s' := by
  unfold stepRow at h
  split at h
  · cases h
    exact W
  · split at h
    · exact WF_bowl W h
    · split at h
      · exact WF_door W h
      · cases h
/-- the state behind rows, if each can be taken -/
def runR : S → List Str → Option S
  | s, [] => some s
  | s, r :: rs => match stepRow s r with
    | some s' => runR s' rs
    | none => none
theorem runR_append : ∀ {xs ys : List Str} {s : S}, runR s (xs ++ ys) = match runR s xs with | some s' => runR s' ys | none => none
  | [], ys, s => rfl
  | x :: xs, ys, s => by
    show (match stepRow s x with | some s' => runR s' (xs ++ ys) | none => none) = match (match stepRow s x with | some s' => runR s' xs | none => none) with | some s' => runR s' ys | none => none
    cases stepRow s x with
    | none => rfl
    | some s' => exact runR_append
theorem runR_snoc {xs : List Str} {x : Str} {s s' : S} (h : runR s xs = some s') : runR s (xs ++ [x]) = stepRow s' x := by
  rw [runR_append, h]
  show (match stepRow s' x with | some s' => runR s' [] | none => none) = _
  cases stepRow s' x <;> rfl
theorem WF_run : ∀ {rows : List Str} {s s' : S}, WF s → runR s rows = some s' → WF s'
  | [], s, s', W, h => by
    cases h
    exact W
  | r :: rs, s, s', W, h => by
    unfold runR at h
    cases e : stepRow s r with
    | none => rw [e] at h; cases h
    | some s1 =>
      rw [e] at h
      exact WF_run (WF_row W e) h
/-- what is due of rows: the state, or the row's number -/
def dueFrom : Nat → S → List Str → Except Nat S
  | _, s, [] => if s.bowls = [] then .error 0 else .ok s
  | k, s, r :: rs => match stepRow s r with
    | some s' => dueFrom (k + 1) s' rs
    | none => .error k
def due (rows : List Str) : Except Nat S := dueFrom 1 S0 rows
theorem dueFrom_run : ∀ {xs ys : List Str} {k : Nat} {s s' : S}, runR s xs = some s' → dueFrom k s (xs ++ ys) = dueFrom (k + xs.length) s' ys
  | [], ys, k, s, s', h => by
    cases h
    rfl
  | x :: xs, ys, k, s, s', h => by
    unfold runR at h
    cases e : stepRow s x with
    | none => rw [e] at h; cases h
    | some s1 =>
      rw [e] at h
      show (match stepRow s x with | some s' => dueFrom (k + 1) s' (xs ++ ys) | none => .error k) = _
      rw [e]
      show dueFrom (k + 1) s1 (xs ++ ys) = _
      rw [dueFrom_run h, List.length_cons]
      congr 1
      omega
theorem due_bad {rows : List Str} {i : Nat} {s : S} {r : Str} (h : runR S0 (rows.take i) = some s) (hr : rows[i]? = some r) (hs : stepRow s r = none) : due rows = .error (i + 1) := by
  obtain ⟨hi, e⟩ := List.getElem?_eq_some_iff.mp hr
  have er : rows = rows.take i ++ (r :: rows.drop (i + 1)) := by
    rw [← e, ← List.drop_eq_getElem_cons hi, List.take_append_drop]
  unfold due
  rw [er, dueFrom_run h, List.length_take, Nat.min_eq_left (by omega)]
  show (match stepRow s r with | some s' => dueFrom _ s' _ | none => .error (1 + i)) = _
  rw [hs]
  exact congrArg Except.error (Nat.add_comm 1 i)
theorem due_zero {rows : List Str} {s : S} (h : runR S0 rows = some s) (hb : s.bowls = []) : due rows = .error 0 := by
  have e := dueFrom_run (ys := []) (k := 1) h
  rw [List.append_nil] at e
  unfold due
  rw [e]
  exact if_pos hb
theorem due_ok {rows : List Str} {s : S} (h : runR S0 rows = some s) (hb : s.bowls ≠ []) : due rows = .ok s := by
  have e := dueFrom_run (ys := []) (k := 1) h
  rw [List.append_nil] at e
  unfold due
  rw [e]
  exact if_neg hb
theorem due_wf : ∀ {rows : List Str} {k : Nat} {s s' : S}, WF s → dueFrom k s rows = .ok s' → WF s' ∧ s'.bowls ≠ []
  | [], k, s, s', W, h => by
    unfold dueFrom at h
    split at h
    · cases h
    · rename_i q
      cases h
      exact ⟨W, q⟩
  | r :: rs, k, s, s', W, h => by
    unfold dueFrom at h
    cases e : stepRow s r with
    | none => rw [e] at h; cases h
    | some s1 =>
      rw [e] at h
      exact due_wf (WF_row W e) h
end BH

set_option Elab.async false
set_option linter.all false
set_option maxRecDepth 100000
set_option maxHeartbeats 1000000
/-! Texts: split and joined; a net written as rows is read back. -/
namespace BH
open PySem TL
/-! ### split -/
theorem spl_facts (Z : List Nat) : ∀ (l : List Nat) (k : Nat) (acc : List Nat), spl Z k acc l ≠ [] ∧ (spl Z k acc l).length ≤ l.length + 1 ∧ ∀ p ∈ spl Z k acc l, p.length ≤ acc.length + l.length
  | [], k, acc => by
    rw [spl_nil]
    refine ⟨by simp, by simp, fun p hp => ?_⟩
    rw [List.mem_singleton.mp hp]
    exact Nat.le_add_right _ _
  | c :: r, 0, acc => by
    cases h : pre Z (c :: r) with
    | true =>
      rw [spl_hit h]
      obtain ⟨q1, q2, q3⟩ := spl_facts Z r (Z.length - 1) []
      refine ⟨by simp, ?_, fun p hp => ?_⟩
      · rw [List.length_cons, List.length_cons]
        omega
      · rw [List.length_cons]
        rcases List.mem_cons.mp hp with e | e
        · rw [e]
          omega
        · have := q3 p e
          rw [List.length_nil] at this
          omega
    | false =>
      rw [spl_miss h]
      obtain ⟨q1, q2, q3⟩ := spl_facts Z r 0 (acc ++ [c])
      refine ⟨q1, ?_, fun p hp => ?_⟩
      · rw [List.length_cons]
        omega
      · have := q3 p hp
        rw [List.length_append, List.length_singleton] at this
        rw [List.length_cons]
        omega
  | c :: r, k + 1, acc => by
    obtain ⟨q1, q2, q3⟩ := spl_facts Z r k acc
    show spl Z k acc r ≠ [] ∧ (spl Z k acc r).length ≤ (c :: r).length + 1 ∧ ∀ p ∈ spl Z k acc r, p.length ≤ acc.length + (c :: r).length
    rw [List.length_cons]
    refine ⟨q1, by omega, fun p hp => ?_⟩
    have := q3 p hp
    omega
theorem split_facts (x y : Str) (hy : tl y ≠ []) (hk : y.cps.all (· < 256) = true) : Txt.split x y ≠ [] ∧ (Txt.split x y).length ≤ x.length + 1 ∧ ∀ w ∈ Txt.split x y, w.length ≤ x.length := by
  have e := split_spl x y hy (kind_ok hk)
  obtain ⟨q1, q2, q3⟩ := spl_facts (tl y) (tl x) 0 []
  rw [← e] at q1 q2 q3
  refine ⟨fun z => q1 (by rw [z]; rfl), ?_, fun w hw => ?_⟩
  · rw [List.length_map] at q2
    rw [len_tl]
    exact q2
  · have := q3 (tl w) (List.mem_map.mpr ⟨w, hw, rfl⟩)
    rw [len_tl, len_tl]
    rw [List.length_nil] at this
    omega
theorem tl_sp : tl (" " : Str) = [32] := by decide +kernel
theorem tl_nl : tl ("\n" : Str) = [10] := by decide +kernel
theorem sp256 : (" " : Str).cps.all (· < 256) = true := by decide +kernel
theorem nl256 : ("\n" : Str).cps.all (· < 256) = true := by decide +kernel
theorem words_facts (row : Str) : wordsOf row ≠ [] ∧ (wordsOf row).length ≤ row.length + 1 ∧ ∀ w ∈ wordsOf row, w.length ≤ row.length := split_facts row _ (by rw [tl_sp]; simp) sp256
theorem rows_back {rows : List Str} (h : rows ≠ []) (hr : ∀ r ∈ rows, 10 ∉ tl r) : Txt.split (Txt.join ("\n" : Str) rows) ("\n" : Str) = rows := split_join (S := []) tl_nl nl256 h hr
theorem rows_empty : Txt.split (Txt.join ("\n" : Str) []) ("\n" : Str) = [Str.empty] := by decide +kernel
theorem due_empty : due [] = .error 0 := rfl
theorem due_one : due [Str.empty] = .error 0 := by
  show (match stepRow S0 Str.empty with | some s' => dueFrom 2 s' [] | none => .error 1) = _
  rw [show stepRow S0 Str.empty = some S0 from if_pos (Or.inl rfl)]
  rfl
/-! ### joined lists -/
theorem joinL_cons {Z p : List Nat} {l : List (List Nat)} (h : l ≠ []) : joinL Z (p :: l) = p ++ (Z ++ joinL Z l) := by
  cases l with
  | nil => exact absurd rfl h
  | cons q r => rfl
theorem joinL_append {Z : List Nat} : ∀ {l m : List (List Nat)}, l ≠ [] → m ≠ [] → joinL Z (l ++ m) = joinL Z l ++ (Z ++ joinL Z m)
  | [], m, h, _ => absurd rfl h
  | [p], m, _, h => joinL_cons h
  | p :: q :: r, m, _, h => by
    show joinL Z (p :: ((q :: r) ++ m)) = joinL Z (p :: q :: r) ++ _
    rw [joinL_cons (by simp), joinL_append (by simp) h, joinL_cons (l := q :: r) (by simp)]
    simp only [List.append_assoc]
theorem mem_joinL {Z : List Nat} {x : Nat} : ∀ {l : List (List Nat)}, x ∈ joinL Z l → x ∈ Z ∨ ∃ p ∈ l, x ∈ p
  | [], h => by simp [joinL] at h
  | [p], h => .inr ⟨p, List.mem_singleton.mpr rfl, h⟩
  | p :: q :: r, h => by
    rw [joinL_cons (by simp)] at h
    rcases List.mem_append.mp h with e | e
    · exact .inr ⟨p, List.mem_cons_self .., e⟩
    · rcases List.mem_append.mp e with e | e
      · exact .inl e
      · rcases mem_joinL e with z | ⟨y, hy, z⟩
        · exact .inl z
        · exact .inr ⟨y, List.mem_cons_of_mem _ hy, z⟩
theorem joinL_len {Z : List Nat} {m : Nat} : ∀ {l : List (List Nat)}, (∀ p ∈ l, p.length ≤ m) → (joinL Z l).length ≤ l.length * (m + Z.length)
  | [], _ => Nat.zero_le _
  | [p], h => by
    have := h p (List.mem_singleton.mpr rfl)
    show p.length ≤ 1 * _
    omega
  | p :: q :: r, h => by
    have h1 := h p (List.mem_cons_self ..)
    have h2 := joinL_len (Z := Z) (l := q :: r) fun y hy => h y (List.mem_cons_of_mem _ hy)
    rw [joinL_cons (by simp), List.length_append, List.length_append, List.length_cons (a := p), Nat.succ_mul]
    omega
/-! ### what a net is written as -/
def numS (c : Int) : Str := Str.ofString (toString c)
def pieceS (p : Str × Int) : Str := numS p.2 ++ (" " : Str) ++ p.1
def partS (B : Bag) : Str := if B = [] then ("-" : Str) else Txt.join (" + " : Str) (B.map pieceS)
def nz (bowls : List Str) (t : List Int) : Bag := (bowls.zip t).filter fun p => decide (0 < p.2)
def bowlRow (p : Str × Int) : Str := ("bowl " : Str) ++ p.1 ++ (" " : Str) ++ numS p.2
def doorRow (n : Str) (T G : Bag) : Str := ("door " : Str) ++ n ++ (" " : Str) ++ partS T ++ (" > " : Str) ++ partS G
def partW : Bag → List Str
  | [] => []
  | [p] => [numS p.2, p.1]
  | p :: q :: r => numS p.2 :: p.1 :: ("+" : Str) :: partW (q :: r)
def partWords (B : Bag) : List Str := if B = [] then [("-" : Str)] else partW B
def doorWords (n : Str) (T G : Bag) : List Str := ("door" : Str) :: n :: (partWords T ++ ((">" : Str) :: partWords G))
theorem partW_ne {p : Str × Int} {r : Bag} : partW (p :: r) ≠ [] := by cases r <;> simp [partW]
theorem partWords_ne (B : Bag) : partWords B ≠ [] := by
  unfold partWords
  split
  · simp
  · cases B with
    | nil => rename_i h; exact absurd rfl h
    | cons p r => exact partW_ne
theorem tl_plus : tl (" + " : Str) = [32, 43, 32] := by decide +kernel
theorem tl_pl : tl ("+" : Str) = [43] := by decide +kernel
theorem tl_mi : tl ("-" : Str) = [45] := by decide +kernel
theorem tl_gt : tl (">" : Str) = [62] := by decide +kernel
theorem tl_gts : tl (" > " : Str) = [32, 62, 32] := by decide +kernel
theorem tl_door : tl ("door" : Str) = [100, 111, 111, 114] := by decide +kernel
theorem tl_doors : tl ("door " : Str) = [100, 111, 111, 114, 32] := by decide +kernel
theorem tl_bowl : tl ("bowl" : Str) = [98, 111, 119, 108] := by decide +kernel
theorem tl_bowls : tl ("bowl " : Str) = [98, 111, 119, 108, 32] := by decide +kernel
theorem tl_piece (p : Str × Int) : tl (pieceS p) = tl (numS p.2) ++ ([32] ++ tl p.1) := by
  unfold pieceS
  rw [tl_append, tl_append, tl_sp, List.append_assoc]
theorem join_pieces : ∀ {B : Bag}, B ≠ [] → joinL [32, 43, 32] ((B.map pieceS).map tl) = joinL [32] ((partW B).map tl)
  | [], h => absurd rfl h
  | [p], _ => tl_piece p
  | p :: q :: r, _ => by
    have ih := join_pieces (B := q :: r) (by simp)
    show joinL [32, 43, 32] (tl (pieceS p) :: ((q :: r).map pieceS).map tl) = joinL [32] (tl (numS p.2) :: tl p.1 :: tl ("+" : Str) :: (partW (q :: r)).map tl)
    have hne : (partW (q :: r)).map tl ≠ [] := fun e => partW_ne (List.map_eq_nil_iff.mp e)
    rw [joinL_cons (by simp), ih, tl_piece, joinL_cons (by simp), joinL_cons (by simp), joinL_cons hne, tl_pl]
    simp only [List.append_assoc]
    rfl
theorem tl_partS (B : Bag) : tl (partS B) = joinL [32] ((partWords B).map tl) := by
  unfold partS partWords
  by_cases h : B = []
  · rw [if_pos h, if_pos h]
    rfl
  · rw [if_neg h, if_neg h, join_eq, tl_join, tl_plus, join_pieces h]
theorem tl_doorRow (n : Str) (T G : Bag) : tl (doorRow n T G) = joinL [32] ((doorWords n T G).map tl) := by
  unfold doorRow doorWords
  have hG : (partWords G).map tl ≠ [] := fun e => partWords_ne G (List.map_eq_nil_iff.mp e)
  have hT : (partWords T).map tl ≠ [] := fun e => partWords_ne T (List.map_eq_nil_iff.mp e)
  rw [List.map_cons, List.map_cons, List.map_append, List.map_cons, joinL_cons (by simp), joinL_cons (by simp [hT]), joinL_append hT (by simp), joinL_cons hG, tl_append, tl_append, tl_append, tl_append, tl_append, tl_partS, tl_partS, tl_doors, tl_sp, tl_gts, tl_door, tl_gt]
  simp only [List.append_assoc, List.cons_append, List.nil_append]
theorem tl_bowlRow (p : Str × Int) : tl (bowlRow p) = joinL [32] (([("bowl" : Str), p.1, numS p.2]).map tl) := by
  unfold bowlRow
  show _ = tl ("bowl" : Str) ++ ([32] ++ (tl p.1 ++ ([32] ++ tl (numS p.2))))
  rw [tl_append, tl_append, tl_append, tl_bowls, tl_sp, tl_bowl]
  simp only [List.append_assoc, List.cons_append, List.nil_append]
theorem split_of {row : Str} {words : List Str} (hne : words ≠ []) (h : tl row = joinL [32] (words.map tl)) (hw : ∀ w ∈ words, 32 ∉ tl w) : wordsOf row = words := by
  have e : row = Txt.join (" " : Str) words := ext_tl (by rw [h, join_eq, tl_join, tl_sp])
  unfold wordsOf
  rw [e]
  exact split_join (S := []) tl_sp sp256 hne hw
/-! ### numbers as words -/
theorem numS_nat (n : Nat) : tl (numS (n : Int)) = numL n := tl_num n
theorem numL_head : ∀ n : Nat, 1 ≤ n → (numL n).head? ≠ some 48 := by
  intro n
  induction n using Nat.strongRecOn with
  | _ n ih =>
    intro h1
    by_cases h : n < 10
    · rw [numL_lt h]
      intro e
      have e' : 48 + n = 48 := Option.some.inj e
      omega
    · rw [numL_step (by omega)]
      have q := ih (n / 10) (by omega) (by omega)
      cases hl : numL (n / 10) with
      | nil => exact absurd hl (numL_ne _)
      | cons a r =>
        rw [hl] at q
        exact q
theorem countS_num {c : Int} (h0 : 0 ≤ c) (h1 : c ≤ 1000000000) : countS (numS c) = some c := by
  obtain ⟨n, rfl⟩ := Int.eq_ofNat_of_zero_le h0
  have hn : n ≤ 1000000000 := by omega
  have hl : (numS (n : Int)).length = (numL n).length := by rw [len_tl, numS_nat]
  have h10 : (numL n).length ≤ 10 := numL_len (by decide) (by omega)
  have hne : 1 ≤ (numL n).length := by
    cases e : numL n with
    | nil => exact absurd e (numL_ne n)
    | cons a r => simp
  unfold countS
  rw [numS_nat, hl, numL_val]
  refine if_pos ⟨hne, h10, fun c hc => mem_FIG.mpr (numL_digits n c hc), fun q => ?_, hn⟩
  by_cases hz : n < 10
  · rw [numL_lt hz] at q
    exact absurd q.2 (by simp)
  · exact numL_head n (by omega) q.1
theorem numS_len {c : Int} (h0 : 0 ≤ c) (h1 : c ≤ 1000000000) : (numS c).length ≤ 10 := by
  obtain ⟨n, rfl⟩ := Int.eq_ofNat_of_zero_le h0
  rw [len_tl, numS_nat]
  exact numL_len (by decide) (by omega)
theorem numS_free {c : Int} (h0 : 0 ≤ c) {x : Nat} (hx : x < 48 ∨ 57 < x) : x ∉ tl (numS c) := by
  obtain ⟨n, rfl⟩ := Int.eq_ofNat_of_zero_le h0
  rw [numS_nat]
  exact numL_free hx
theorem name_free {n : Str} (h : goodName n = true) {x : Nat} (hx : x < 97 ∨ 122 < x) : x ∉ tl n := fun q => by
  have := mem_LET.mp ((goodName_of h).2.2 x q)
  omega
/-! ### words of a part -/
/-- what holds of each word of a written part -/
theorem partW_mem {P : Str → Prop} (hp : P ("+" : Str)) : ∀ {B : Bag}, (∀ p ∈ B, P (numS p.2) ∧ P p.1) → ∀ w ∈ partW B, P w
  | [], _, w, hw => by simp [partW] at hw
  | [p], h, w, hw => by
    have q := h p (List.mem_singleton.mpr rfl)
    have hw' : w = numS p.2 ∨ w = p.1 := by simpa [partW] using hw
    rcases hw' with e | e
    · rw [e]; exact q.1
    · rw [e]; exact q.2
  | p :: q :: r, h, w, hw => by
    have z := h p (List.mem_cons_self ..)
    have hw : w ∈ numS p.2 :: p.1 :: ("+" : Str) :: partW (q :: r) := hw
    rcases List.mem_cons.mp hw with e | e
    · rw [e]; exact z.1
    · rcases List.mem_cons.mp e with e | e
      · rw [e]; exact z.2
      · rcases List.mem_cons.mp e with e | e
        · rw [e]; exact hp
        · exact partW_mem hp (fun y hy => h y (List.mem_cons_of_mem _ hy)) w e
theorem partWords_mem {P : Str → Prop} (hp : P ("+" : Str)) (hm : P ("-" : Str)) {B : Bag} (h : ∀ p ∈ B, P (numS p.2) ∧ P p.1) : ∀ w ∈ partWords B, P w := fun w hw => by
  unfold partWords at hw
  split at hw
  · rw [List.mem_singleton.mp hw]
    exact hm
  · exact partW_mem hp h w hw
theorem partW_len : ∀ {B : Bag}, (partW B).length = 3 * B.length - 1
  | [] => rfl
  | [p] => rfl
  | p :: q :: r => by
    have ih := partW_len (B := q :: r)
    show (partW (q :: r)).length + 1 + 1 + 1 = 3 * (r.length + 1 + 1) - 1
    rw [ih, List.length_cons]
    omega
theorem partWords_len (B : Bag) : (partWords B).length ≤ 3 * B.length + 1 := by
  unfold partWords
  split
  · simp
  · rw [partW_len]
    omega
theorem partW_get : ∀ {B : Bag} {i : Nat} {p : Str × Int}, B[i]? = some p → (partW B)[3 * i]? = some (numS p.2) ∧ (partW B)[3 * i + 1]? = some p.1 ∧ (i ≠ 0 → (partW B)[3 * i - 1]? = some ("+" : Str))
  | [], i, p, h => by simp at h
  | [q], 0, p, h => by
    have e : q = p := Option.some.inj h
    subst e
    exact ⟨rfl, rfl, fun z => absurd rfl z⟩
  | [q], i + 1, p, h => by simp at h
  | q :: q2 :: r, 0, p, h => by
    have e : q = p := Option.some.inj h
    subst e
    exact ⟨rfl, rfl, fun z => absurd rfl z⟩
  | q :: q2 :: r, i + 1, p, h => by
    have ih := partW_get (B := q2 :: r) (i := i) (p := p) h
    have e0 : 3 * (i + 1) = 3 * i + 1 + 1 + 1 := by omega
    have e1 : 3 * (i + 1) + 1 = 3 * i + 1 + 1 + 1 + 1 := by omega
    have e2 : 3 * (i + 1) - 1 = 3 * i + 1 + 1 := by omega
    rw [e0]
    refine ⟨ih.1, ih.2.1, fun _ => ?_⟩
    rw [← e0, e2]
    show ((("+" : Str) :: partW (q2 :: r)))[3 * i]? = _
    cases i with
    | zero => rfl
    | succ i =>
      have z := ih.2.2 (by omega)
      have e3 : 3 * (i + 1) = (3 * (i + 1) - 1) + 1 := by omega
      rw [e3]
      exact z
theorem keysB_take {B : Bag} {i : Nat} {p : Str × Int} (hn : (keysB B).Nodup) (h : B[i]? = some p) : ¬ p.1 ∈ keysB (B.take i) := by
  intro hm
  obtain ⟨hi, e⟩ := List.getElem?_eq_some_iff.mp h
  have eB : B = B.take i ++ (p :: B.drop (i + 1)) := by
    rw [← e, ← List.drop_eq_getElem_cons hi, List.take_append_drop]
  unfold keysB at hn
  rw [eB, List.map_append] at hn
  exact (List.nodup_append.mp hn).2.2 p.1 hm p.1 (List.mem_cons_self ..) rfl
theorem runB_part {bowls : List Str} {B : Bag} (h : BagOk bowls B) : ∀ {i : Nat}, i ≤ B.length → runB (partW B) bowls i = some (B.take i)
  | 0, _ => rfl
  | i + 1, hi => by
    have hlt : i < B.length := hi
    have ih := runB_part h (i := i) (Nat.le_of_lt hlt)
    obtain ⟨p, hp⟩ : ∃ p, B[i]? = some p := ⟨B[i], List.getElem?_eq_getElem hlt⟩
    have hm : p ∈ B := List.mem_of_getElem? hp
    obtain ⟨g1, g2, g3⟩ := partW_get hp
    have v := h.val p hm
    have et : B.take (i + 1) = B.take i ++ [p] := by rw [List.take_add_one, hp]; rfl
    have q := runB_succ (words := partW B) (bowls := bowls) (i := i) (B := B.take i) (c := p.2) ih (by rw [wd_of g1]; exact countS_num (by omega) v.2) v.1 (by rw [wd_of g2]; exact h.sub _ (List.mem_map.mpr ⟨p, hm, rfl⟩)) (by rw [wd_of g2]; exact keysB_take h.nd hp)
      (by
        by_cases hz : i = 0
        · exact .inl hz
        · exact .inr (wd_of (g3 hz)))
    rw [q, wd_of g2, et]
theorem bagOf_part {bowls : List Str} {B : Bag} (h : BagOk bowls B) : bagOf (partWords B) bowls = some B := by
  unfold partWords
  by_cases hz : B = []
  · rw [if_pos hz, hz]
    unfold bagOf
    exact if_pos rfl
  · rw [if_neg hz]
    have hl : 1 ≤ B.length := by
      cases B with
      | nil => exact absurd rfl hz
      | cons p r => simp
    have hw := partW_len (B := B)
    have hm : partW B ≠ [("-" : Str)] := fun e => by
      rw [e] at hw
      simp at hw
      omega
    rw [bagOf_run (i := B.length - 1) hm (by omega), show B.length - 1 + 1 = B.length by omega, runB_part h (Nat.le_refl _), List.take_length]
/-! ### bags that are written -/
theorem zip_self {α β : Type} (f : α → β) : ∀ l : List α, l.zip (l.map f) = l.map fun n => (n, f n)
  | [] => rfl
  | a :: l => by
    show (a, f a) :: l.zip (l.map f) = _
    rw [zip_self f l]
    rfl
theorem nz_vec_mem {bowls : List Str} {B : Bag} {p : Str × Int} : p ∈ nz bowls (vec bowls B) ↔ p.1 ∈ bowls ∧ p.2 = valB B p.1 ∧ 0 < p.2 := by
  unfold nz vec
  rw [zip_self, List.mem_filter, List.mem_map]
  constructor
  · rintro ⟨⟨n, hn, rfl⟩, h2⟩
    exact ⟨hn, rfl, of_decide_eq_true h2⟩
  · rintro ⟨h1, h2, h3⟩
    refine ⟨⟨p.1, h1, ?_⟩, decide_eq_true h3⟩
    rw [← h2]
theorem nz_keys {bowls : List Str} (t : List Int) (hn : bowls.Nodup) : (keysB (nz bowls t)).Nodup := by
  unfold nz keysB
  refine List.Sublist.nodup (List.Sublist.map _ List.filter_sublist) ?_
  rw [show (List.map (fun (x : Str × Int) => x.fst) (bowls.zip t)) = bowls.take (min bowls.length t.length) by
    clear hn
    induction bowls generalizing t with
    | nil => simp
    | cons b r ih =>
      cases t with
      | nil => simp
      | cons z t =>
        rw [List.zip_cons_cons, List.map_cons, ih, List.length_cons, List.length_cons, Nat.add_min_add_right, List.take_succ_cons]]
  exact List.Sublist.nodup (List.take_sublist _ _) hn
theorem nz_ok {bowls : List Str} {B : Bag} (hn : bowls.Nodup) (h : BagOk bowls B) : BagOk bowls (nz bowls (vec bowls B)) := by
  refine ⟨fun n hm => ?_, nz_keys _ hn, fun p hp => ?_⟩
  · obtain ⟨p, hp, rfl⟩ := List.mem_map.mp hm
    exact (nz_vec_mem.mp hp).1
  · obtain ⟨_, h2, h3⟩ := nz_vec_mem.mp hp
    have r := valB_range h p.1
    omega
theorem nz_vec {bowls : List Str} {B : Bag} (hn : bowls.Nodup) (h : BagOk bowls B) : vec bowls (nz bowls (vec bowls B)) = vec bowls B := by
  refine List.map_congr_left fun n hm => ?_
  have r := valB_range h n
  by_cases hp : 0 < valB B n
  · exact valB_mem (p := (n, valB B n)) (nz_keys _ hn) (nz_vec_mem.mpr ⟨hm, rfl, hp⟩)
  · rw [valB_none fun q => ?_]
    · omega
    · obtain ⟨p, hp2, e⟩ := List.mem_map.mp q
      obtain ⟨_, h2, h3⟩ := nz_vec_mem.mp hp2
      rw [e] at h2
      omega
theorem nz_len (bowls : List Str) (t : List Int) : (nz bowls t).length ≤ bowls.length := by
  unfold nz
  refine Nat.le_trans (List.length_filter_le _ _) ?_
  rw [List.length_zip]
  exact Nat.min_le_left _ _
/-! ### read back -/
theorem bowl_ne_door : ¬ ("door" : Str) = ("bowl" : Str) := by decide +kernel
theorem gt_ne_door : ¬ (">" : Str) = ("door" : Str) := by decide +kernel
theorem row_not {row : Str} {c : Nat} {r : List Nat} (h : tl row = c :: r) (hc : c ≠ 35) : ¬ (row = Str.empty ∨ (tl row).head? = some 35) := by
  rintro (e | e)
  · rw [e] at h
    cases h
  · rw [h] at e
    exact hc (Option.some.inj e)
theorem bowlRow_words {n : Str} {c : Int} (hn : goodName n = true) (h0 : 0 ≤ c) : wordsOf (bowlRow (n, c)) = [("bowl" : Str), n, numS c] := by
  refine split_of (by simp) (tl_bowlRow (n, c)) fun w hw => ?_
  have hw' : w = ("bowl" : Str) ∨ w = n ∨ w = numS c := by simpa using hw
  rcases hw' with e | e | e
  · rw [e, tl_bowl]; decide
  · rw [e]; exact name_free hn (by omega)
  · rw [e]; exact numS_free h0 (by omega)
theorem step_bowlRow {s : S} {n : Str} {c : Int} (hn : goodName n = true) (h0 : 0 ≤ c) (h1 : c ≤ 1000000000) (hb : s.bowls.length < 6) (hm : ¬ n ∈ s.bowls) :
    stepRow s (bowlRow (n, c)) = some ⟨s.bowls ++ [n], s.first ++ [c], s.doors, s.takes, s.gives⟩ := by
  have e : tl (bowlRow (n, c)) = 98 :: ([111, 119, 108] ++ ([32] ++ (tl n ++ ([32] ++ tl (numS c))))) := by
    rw [tl_bowlRow]
    show tl ("bowl" : Str) ++ _ = _
    rw [tl_bowl]
    rfl
  unfold stepRow
  rw [if_neg (row_not e (by decide)), bowlRow_words hn h0]
  show (if wd [("bowl" : Str), n, numS c] 0 = ("bowl" : Str) then stepBowl s [("bowl" : Str), n, numS c] else _) = _
  rw [if_pos (show wd [("bowl" : Str), n, numS c] 0 = ("bowl" : Str) from rfl)]
  unfold stepBowl
  rw [if_pos ⟨rfl, hb, hn, hm⟩]
  show (match countS (numS c) with | some c => some (⟨s.bowls ++ [n], s.first ++ [c], s.doors, s.takes, s.gives⟩ : S) | none => none) = _
  rw [countS_num h0 h1]
theorem run_bowls : ∀ {b2 : List Str} {f2 : List Int} {s : S}, f2.length = b2.length → (s.bowls ++ b2).Nodup → (s.bowls ++ b2).length ≤ 6 → (∀ n ∈ b2, goodName n = true) → (∀ c ∈ f2, 0 ≤ c ∧ c ≤ 1000000000) →
    runR s ((b2.zip f2).map bowlRow) = some ⟨s.bowls ++ b2, s.first ++ f2, s.doors, s.takes, s.gives⟩
  | [], [], s, _, _, _, _, _ => by
    show some s = _
    rw [List.append_nil, List.append_nil]
  | [], _ :: _, s, h, _, _, _, _ => by simp at h
  | _ :: _, [], s, h, _, _, _, _ => by simp at h
  | n :: b2, c :: f2, s, h, hnd, hl, hg, hr => by
    have hc := hr c (List.mem_cons_self ..)
    have hm : ¬ n ∈ s.bowls := fun q => (List.nodup_append.mp hnd).2.2 n q n (List.mem_cons_self ..) rfl
    have hl' : s.bowls.length < 6 := by
      rw [List.length_append, List.length_cons] at hl
      omega
    show (match stepRow s (bowlRow (n, c)) with | some s' => runR s' ((b2.zip f2).map bowlRow) | none => none) = _
    rw [step_bowlRow (hg n (List.mem_cons_self ..)) hc.1 hc.2 hl' hm]
    have ih := run_bowls (b2 := b2) (f2 := f2) (s := ⟨s.bowls ++ [n], s.first ++ [c], s.doors, s.takes, s.gives⟩) (by simpa using h) (by simpa [List.append_assoc] using hnd) (by simpa [List.append_assoc] using hl) (fun m q => hg m (List.mem_cons_of_mem _ q)) (fun m q => hr m (List.mem_cons_of_mem _ q))
    refine Eq.trans ih ?_
    simp only [List.append_assoc, List.cons_append, List.nil_append]
/-- each word of a written part: no blank, no line's end, short, no ">" -/
def Fine (w : Str) : Prop := (∀ x ∈ tl w, x ≠ 32 ∧ x ≠ 10 ∧ x ≠ 62) ∧ w.length ≤ 10
theorem fine_part {bowls : List Str} {B : Bag} (hg : ∀ n ∈ bowls, goodName n = true) (h : BagOk bowls B) : ∀ w ∈ partWords B, Fine w := by
  refine partWords_mem (P := Fine) ⟨?_, ?_⟩ ⟨?_, ?_⟩ fun p hp => ?_
  · rw [tl_pl]; decide
  · decide +kernel
  · rw [tl_mi]; decide
  · decide +kernel
  · have v := h.val p hp
    have g := hg p.1 (h.sub _ (List.mem_map.mpr ⟨p, hp, rfl⟩))
    refine ⟨⟨fun x hx => ⟨?_, ?_, ?_⟩, numS_len (by omega) v.2⟩, ⟨fun x hx => ⟨?_, ?_, ?_⟩, by have := goodName_of g; omega⟩⟩
    · rintro rfl; exact numS_free (by omega) (by omega) hx
    · rintro rfl; exact numS_free (by omega) (by omega) hx
    · rintro rfl; exact numS_free (by omega) (by omega) hx
    · rintro rfl; exact name_free g (by omega) hx
    · rintro rfl; exact name_free g (by omega) hx
    · rintro rfl; exact name_free g (by omega) hx
theorem fine_gt {w : Str} (h : Fine w) : w ≠ (">" : Str) := fun e => by
  rw [e, Fine, tl_gt] at h
  exact (h.1 62 (by simp)).2.2 rfl
section
variable {bowls : List Str} {T G : Bag} {n : Str}
theorem doorRow_words (hg : ∀ n ∈ bowls, goodName n = true) (hT : BagOk bowls T) (hG : BagOk bowls G) (hn : goodName n = true) : wordsOf (doorRow n T G) = doorWords n T G := by
  refine split_of (by simp [doorWords]) (tl_doorRow n T G) fun w hw => ?_
  unfold doorWords at hw
  rcases List.mem_cons.mp hw with e | e
  · rw [e, tl_door]; decide
  · rcases List.mem_cons.mp e with e | e
    · rw [e]; exact name_free hn (by omega)
    · rcases List.mem_append.mp e with e | e
      · exact fun q => ((fine_part hg hT w e).1 32 q).1 rfl
      · rcases List.mem_cons.mp e with e | e
        · rw [e, tl_gt]; decide
        · exact fun q => ((fine_part hg hG w e).1 32 q).1 rfl
theorem doorWords_idx (hg : ∀ n ∈ bowls, goodName n = true) (hT : BagOk bowls T) (hn : goodName n = true) : idx (">" : Str) (doorWords n T G) = 2 + (partWords T).length := by
  have e : doorWords n T G = (("door" : Str) :: n :: partWords T) ++ ((">" : Str) :: partWords G) := rfl
  rw [e, idx_append]
  · rw [List.length_cons, List.length_cons]
    omega
  · intro hm
    rcases List.mem_cons.mp hm with e | e
    · exact gt_ne_door e
    · rcases List.mem_cons.mp e with e | e
      · refine name_free hn (x := 62) (by omega) ?_
        rw [← e, tl_gt]
        simp
      · exact fine_gt (fine_part hg hT _ e) rfl
theorem doorWords_A (hg : ∀ n ∈ bowls, goodName n = true) (hT : BagOk bowls T) (hn : goodName n = true) : partA (doorWords n T G) = partWords T := by
  unfold partA
  rw [doorWords_idx hg hT hn]
  show (List.take (2 + (partWords T).length) (("door" : Str) :: n :: (partWords T ++ ((">" : Str) :: partWords G)))).drop 2 = _
  rw [show 2 + (partWords T).length = (partWords T).length + 1 + 1 by omega, List.take_succ_cons, List.take_succ_cons]
  show List.take (partWords T).length (partWords T ++ _) = _
  rw [List.take_left']
  rfl
theorem doorWords_B (hg : ∀ n ∈ bowls, goodName n = true) (hT : BagOk bowls T) (hn : goodName n = true) : partB (doorWords n T G) = partWords G := by
  unfold partB
  rw [doorWords_idx hg hT hn]
  show List.drop (2 + (partWords T).length + 1) (("door" : Str) :: n :: (partWords T ++ ((">" : Str) :: partWords G))) = _
  rw [show 2 + (partWords T).length + 1 = ((partWords T).length + 1) + 1 + 1 by omega, List.drop_succ_cons, List.drop_succ_cons, show partWords T ++ ((">" : Str) :: partWords G) = (partWords T ++ [(">" : Str)]) ++ partWords G by simp]
  rw [List.drop_left']
  simp
theorem step_doorRow {s : S} (hg : ∀ n ∈ s.bowls, goodName n = true) (hT : BagOk s.bowls T) (hG : BagOk s.bowls G) (hn : goodName n = true) (hd : s.doors.length < 8) (hm : ¬ n ∈ s.doors) :
    stepRow s (doorRow n T G) = some ⟨s.bowls, s.first, s.doors ++ [n], s.takes ++ [T], s.gives ++ [G]⟩ := by
  have e : ∃ r, tl (doorRow n T G) = 100 :: r := by
    rw [tl_doorRow]
    unfold doorWords
    rw [List.map_cons, joinL_cons (by simp), tl_door]
    exact ⟨_, rfl⟩
  obtain ⟨r, e⟩ := e
  unfold stepRow
  rw [if_neg (row_not e (by decide)), doorRow_words hg hT hG hn]
  have w0 : wd (doorWords n T G) 0 = ("door" : Str) := rfl
  have w1 : wd (doorWords n T G) 1 = n := rfl
  rw [w0, if_neg bowl_ne_door, if_pos rfl]
  unfold stepDoor
  rw [w1, if_pos ⟨by simp [doorWords], hd, hn, hm⟩, doorWords_A hg hT hn, doorWords_B hg hT hn, bagOf_part hT, bagOf_part hG]
end
def doorRows (bowls : List Str) : List Str → List (List Int) → List (List Int) → List Str
  | n :: d, t :: T, g :: G => doorRow n (nz bowls t) (nz bowls g) :: doorRows bowls d T G
  | _, _, _ => []
theorem run_doors : ∀ {d2 : List Str} {T2 G2 : List Bag} {s : S}, s.bowls.Nodup → (∀ n ∈ s.bowls, goodName n = true) → T2.length = d2.length → G2.length = d2.length → (s.doors ++ d2).Nodup → (s.doors ++ d2).length ≤ 8 → (∀ n ∈ d2, goodName n = true) →
    (∀ B ∈ T2, BagOk s.bowls B) → (∀ B ∈ G2, BagOk s.bowls B) →
    runR s (doorRows s.bowls d2 (T2.map (vec s.bowls)) (G2.map (vec s.bowls))) = some ⟨s.bowls, s.first, s.doors ++ d2, s.takes ++ T2.map (fun B => nz s.bowls (vec s.bowls B)), s.gives ++ G2.map (fun B => nz s.bowls (vec s.bowls B))⟩
  | [], [], [], s, _, _, _, _, _, _, _, _, _ => by
    show some s = _
    simp
  | [], _ :: _, _, s, _, _, h, _, _, _, _, _, _ => by simp at h
  | [], _, _ :: _, s, _, _, _, h, _, _, _, _, _ => by simp at h
  | _ :: _, [], _, s, _, _, h, _, _, _, _, _, _ => by simp at h
  | _ :: _, _, [], s, _, _, _, h, _, _, _, _, _ => by simp at h
  | n :: d2, t :: T2, g :: G2, s, hbn, hg, h1, h2, hnd, hl, hgd, hT, hG => by
    have hm : ¬ n ∈ s.doors := fun q => (List.nodup_append.mp hnd).2.2 n q n (List.mem_cons_self ..) rfl
    have hl' : s.doors.length < 8 := by
      rw [List.length_append, List.length_cons] at hl
      omega
    show (match stepRow s (doorRow n (nz s.bowls (vec s.bowls t)) (nz s.bowls (vec s.bowls g))) with | some s' => runR s' (doorRows s.bowls d2 (T2.map (vec s.bowls)) (G2.map (vec s.bowls))) | none => none) = _
    rw [step_doorRow hg (nz_ok hbn (hT t (List.mem_cons_self ..))) (nz_ok hbn (hG g (List.mem_cons_self ..))) (hgd n (List.mem_cons_self ..)) hl' hm]
    have ih := run_doors (d2 := d2) (T2 := T2) (G2 := G2) (s := ⟨s.bowls, s.first, s.doors ++ [n], s.takes ++ [nz s.bowls (vec s.bowls t)], s.gives ++ [nz s.bowls (vec s.bowls g)]⟩) hbn hg (by simpa using h1) (by simpa using h2)
      (by simpa [List.append_assoc] using hnd) (by simpa [List.append_assoc] using hl) (fun m q => hgd m (List.mem_cons_of_mem _ q)) (fun m q => hT m (List.mem_cons_of_mem _ q)) (fun m q => hG m (List.mem_cons_of_mem _ q))
    refine Eq.trans ih ?_
    simp only [List.append_assoc, List.cons_append, List.nil_append, List.map_cons]
def netRows (bowls : List Str) (first : List Int) (doors : List Str) (T G : List (List Int)) : List Str := (bowls.zip first).map bowlRow ++ doorRows bowls doors T G
def rowsOf (s : S) : List Str := netRows s.bowls s.first s.doors (s.takes.map (vec s.bowls)) (s.gives.map (vec s.bowls))
theorem map_nz {bowls : List Str} (hn : bowls.Nodup) {T : List Bag} (h : ∀ B ∈ T, BagOk bowls B) : (T.map (fun B => nz bowls (vec bowls B))).map (vec bowls) = T.map (vec bowls) := by
  rw [List.map_map]
  exact List.map_congr_left fun B hB => nz_vec hn (h B hB)
/-- READ BACK -/
theorem due_back {s : S} (W : WF s) (hb : s.bowls ≠ []) : ∃ s', due (rowsOf s) = .ok s' ∧ s'.bowls = s.bowls ∧ s'.first = s.first ∧ s'.doors = s.doors ∧ s'.takes.map (vec s'.bowls) = s.takes.map (vec s.bowls) ∧ s'.gives.map (vec s'.bowls) = s.gives.map (vec s.bowls) := by
  have r1 : runR S0 ((s.bowls.zip s.first).map bowlRow) = some ⟨s.bowls, s.first, [], [], []⟩ := run_bowls (s := S0) W.fl W.bnd W.b6 W.bgood W.fr
  have r2 := run_doors (d2 := s.doors) (T2 := s.takes) (G2 := s.gives) (s := ⟨s.bowls, s.first, [], [], []⟩) W.bnd W.bgood W.tlen W.glen W.dnd W.d8 W.dgood W.tok W.gok
  have r : runR S0 (rowsOf s) = some ⟨s.bowls, s.first, s.doors, s.takes.map (fun B => nz s.bowls (vec s.bowls B)), s.gives.map (fun B => nz s.bowls (vec s.bowls B))⟩ := by
    unfold rowsOf netRows
    rw [runR_append, r1]
    exact r2
  exact ⟨_, due_ok r hb, rfl, rfl, rfl, map_nz W.bnd W.tok, map_nz W.bnd W.gok⟩
/-! ### sizes -/
theorem partS_len {bowls : List Str} {B : Bag} (h6 : B.length ≤ 6) (hg : ∀ n ∈ bowls, goodName n = true) (h : BagOk bowls B) : (partS B).length ≤ 300 := by
  rw [len_tl, tl_partS]
  have q := joinL_len (Z := [32]) (m := 10) (l := (partWords B).map tl) fun p hp => by
    obtain ⟨w, hw, rfl⟩ := List.mem_map.mp hp
    rw [← len_tl]
    exact (fine_part hg h w hw).2
  rw [List.length_map] at q
  have := partWords_len B
  have e : (10 + ([32] : List Nat).length) = 11 := rfl
  rw [e] at q
  omega
theorem bowlRow_fine {n : Str} {c : Int} (hn : goodName n = true) (h0 : 0 ≤ c) (h1 : c ≤ 1000000000) : 10 ∉ tl (bowlRow (n, c)) ∧ (bowlRow (n, c)).length ≤ 1000 := by
  have hl := numS_len h0 h1
  have hg := goodName_of hn
  constructor
  · intro hm
    rw [tl_bowlRow] at hm
    rcases mem_joinL hm with z | ⟨p, hp, z⟩
    · simp at z
    · obtain ⟨w, hw, rfl⟩ := List.mem_map.mp hp
      have hw' : w = ("bowl" : Str) ∨ w = n ∨ w = numS c := by simpa using hw
      rcases hw' with e | e | e
      · rw [e, tl_bowl] at z; simp at z
      · rw [e] at z; exact name_free hn (by omega) z
      · rw [e] at z; exact numS_free h0 (by omega) z
  · unfold bowlRow
    rw [Str.length_append, Str.length_append, Str.length_append, show ("bowl " : Str).length = 5 by decide +kernel, show (" " : Str).length = 1 by decide +kernel]
    show 5 + n.length + 1 + (numS c).length ≤ 1000
    omega
theorem doorRow_fine {bowls : List Str} {n : Str} {T G : Bag} (hg : ∀ n ∈ bowls, goodName n = true) (hT : BagOk bowls T) (hG : BagOk bowls G) (h6 : T.length ≤ 6) (h6' : G.length ≤ 6) (hn : goodName n = true) : 10 ∉ tl (doorRow n T G) ∧ (doorRow n T G).length ≤ 1000 := by
  have l1 := partS_len h6 hg hT
  have l2 := partS_len h6' hg hG
  have hl := goodName_of hn
  constructor
  · intro hm
    rw [tl_doorRow] at hm
    rcases mem_joinL hm with z | ⟨p, hp, z⟩
    · simp at z
    · obtain ⟨w, hw, rfl⟩ := List.mem_map.mp hp
      unfold doorWords at hw
      rcases List.mem_cons.mp hw with e | e
      · rw [e, tl_door] at z; simp at z
      · rcases List.mem_cons.mp e with e | e
        · rw [e] at z; exact name_free hn (by omega) z
        · rcases List.mem_append.mp e with e | e
          · exact ((fine_part hg hT w e).1 10 z).2.1 rfl
          · rcases List.mem_cons.mp e with e | e
            · rw [e, tl_gt] at z; simp at z
            · exact ((fine_part hg hG w e).1 10 z).2.1 rfl
  · unfold doorRow
    rw [Str.length_append, Str.length_append, Str.length_append, Str.length_append, Str.length_append, show ("door " : Str).length = 5 by decide +kernel, show (" " : Str).length = 1 by decide +kernel, show (" > " : Str).length = 3 by decide +kernel]
    omega
theorem doorRows_mem {bowls : List Str} : ∀ {d : List Str} {T G : List Bag} {r : Str}, r ∈ doorRows bowls d (T.map (vec bowls)) (G.map (vec bowls)) → ∃ n t g, n ∈ d ∧ t ∈ T ∧ g ∈ G ∧ r = doorRow n (nz bowls (vec bowls t)) (nz bowls (vec bowls g))
  | [], _, _, r, h => by simp [doorRows] at h
  | _ :: _, [], _, r, h => by simp [doorRows] at h
  | _ :: _, _ :: _, [], r, h => by simp [doorRows] at h
  | n :: d, t :: T, g :: G, r, h => by
    have h : r ∈ doorRow n (nz bowls (vec bowls t)) (nz bowls (vec bowls g)) :: doorRows bowls d (T.map (vec bowls)) (G.map (vec bowls)) := h
    rcases List.mem_cons.mp h with e | e
    · exact ⟨n, t, g, List.mem_cons_self .., List.mem_cons_self .., List.mem_cons_self .., e⟩
    · obtain ⟨m, t', g', h1, h2, h3, h4⟩ := doorRows_mem e
      exact ⟨m, t', g', List.mem_cons_of_mem _ h1, List.mem_cons_of_mem _ h2, List.mem_cons_of_mem _ h3, h4⟩
theorem doorRows_len (bowls : List Str) : ∀ (d : List Str) (T G : List (List Int)), (doorRows bowls d T G).length ≤ d.length
  | [], _, _ => by simp [doorRows]
  | _ :: _, [], _ => by simp [doorRows]
  | _ :: _, _ :: _, [] => by simp [doorRows]
  | n :: d, t :: T, g :: G => by
    show (doorRows bowls d T G).length + 1 ≤ d.length + 1
    have := doorRows_len bowls d T G
    omega
theorem rowsOf_fine {s : S} (W : WF s) : (rowsOf s).length ≤ 14 ∧ ∀ r ∈ rowsOf s, 10 ∉ tl r ∧ r.length ≤ 1000 := by
  constructor
  · unfold rowsOf netRows
    have h1 := doorRows_len s.bowls s.doors (s.takes.map (vec s.bowls)) (s.gives.map (vec s.bowls))
    have h2 := W.b6
    have h3 := W.d8
    rw [List.length_append, List.length_map, List.length_zip, W.fl]
    omega
  · intro r hr
    unfold rowsOf netRows at hr
    rcases List.mem_append.mp hr with e | e
    · obtain ⟨⟨n, c⟩, hp, rfl⟩ := List.mem_map.mp e
      have hm := List.of_mem_zip hp
      have hc := W.fr c hm.2
      exact bowlRow_fine (W.bgood n hm.1) hc.1 hc.2
    · obtain ⟨n, t, g, h1, h2, h3, rfl⟩ := doorRows_mem e
      have h6 := W.b6
      exact doorRow_fine W.bgood (nz_ok W.bnd (W.tok t h2)) (nz_ok W.bnd (W.gok g h3)) (Nat.le_trans (nz_len _ _) h6) (Nat.le_trans (nz_len _ _) h6) (W.dgood n h1)
end BH

set_option Elab.async false
set_option linter.all false
set_option maxRecDepth 100000
set_option maxHeartbeats 4000000
/-! What all walks share: the text by places, rules for lists of texts, helpers. -/
namespace BH
open PySem TL L2
def topS (i : Nat) : Stmt := PySem.Challenge.pw_beadhall_k18_whole_any_text.main.body.getD i (.Pass ⟨0, 0, 0, 0⟩)
/-- a def of the text, its name in the module, how arguments bind -/
structure Lk (K : PySem.W.Frag) (mg : Str → Option Value) (x : Str) (st : Stmt) (f : Addr) (fd : FuncData) (ps : List Str) : Prop where
  fn : Fun K x x st f fd
  g : mg x = some (.ref f)
  b : Binds K fd ps []
/-- built-in names and constants of the module -/
structure Txt (K : PySem.W.Frag) (mg : Str → Option Value) : Prop where
  len : mg "len" = none
  range : mg "range" = none
  enum : mg "enumerate" = none
  int : mg "int" = none
  str : mg "str" = none
  list : mg "list" = none
  bool : mg "bool" = none
  isi : mg "isinstance" = none
  zip : mg "zip" = none
  min : mg "min" = none
  mb : ∃ t, mg "MOST_BOWLS" = some (.int 6 t)
  md : ∃ t, mg "MOST_DOORS" = some (.int 8 t)
  ms : ∃ t, mg "MOST_SIGNS" = some (.int 8 t)
  mc : ∃ t, mg "MOST_COUNT" = some (.int 1000000000 t)
  mf : ∃ t, mg "MOST_FIGURES" = some (.int 10 t)
  lt : ∃ t, mg "LETTERS" = some (.str ("abcdefghijklmnopqrstuvwxyz" : Str) t)
  fg : ∃ t, mg "FIGURES" = some (.str ("0123456789" : Str) t)
/-! ### lists of texts -/
theorem vstr_inj {x y : Str} (h : V.str x = V.str y) : x = y := V.str.inj h
theorem map_str_inj {xs ys : List Str} (h : xs.map V.str = ys.map V.str) : xs = ys := by
  induction xs generalizing ys with
  | nil =>
    cases ys with
    | nil => rfl
    | cons y ys => cases h
  | cons x xs ih =>
    cases ys with
    | nil => cases h
    | cons y ys =>
      injection h with h1 h2
      rw [vstr_inj h1, ih h2]
theorem map_int_inj {xs ys : List Int} (h : xs.map V.int = ys.map V.int) : xs = ys := by
  induction xs generalizing ys with
  | nil =>
    cases ys with
    | nil => rfl
    | cons y ys => cases h
  | cons x xs ih =>
    cases ys with
    | nil => cases h
    | cons y ys =>
      injection h with h1 h2
      rw [V.int.inj h1, ih h2]
theorem strs_get {xs : List Str} {i : Nat} {y : V} (h : (xs.map V.str)[i]? = some y) : ∃ z, xs[i]? = some z ∧ y = V.str z := by
  rw [List.getElem?_map] at h
  cases e : xs[i]? with
  | none =>
    rw [e] at h
    cases h
  | some z =>
    rw [e] at h
    exact ⟨z, rfl, (Option.some.inj h).symm⟩
theorem ints_get {xs : List Int} {i : Nat} {y : V} (h : (xs.map V.int)[i]? = some y) : ∃ z, xs[i]? = some z ∧ y = V.int z := by
  rw [List.getElem?_map] at h
  cases e : xs[i]? with
  | none =>
    rw [e] at h
    cases h
  | some z =>
    rw [e] at h
    exact ⟨z, rfl, (Option.some.inj h).symm⟩
theorem refs_get {xs : List Addr} {i : Nat} {y : V} (h : (xs.map V.ref)[i]? = some y) : ∃ z, xs[i]? = some z ∧ y = V.ref z := by
  rw [List.getElem?_map] at h
  cases e : xs[i]? with
  | none =>
    rw [e] at h
    cases h
  | some z =>
    rw [e] at h
    exact ⟨z, rfl, (Option.some.inj h).symm⟩
theorem str_at {xs : List Str} {i : Nat} {z : Str} (h : xs[i]? = some z) : (xs.map V.str)[i]? = some (V.str z) := by
  rw [List.getElem?_map, h]
  rfl
theorem int_at {xs : List Int} {i : Nat} {z : Int} (h : xs[i]? = some z) : (xs.map V.int)[i]? = some (V.int z) := by
  rw [List.getElem?_map, h]
  rfl
theorem ref_at {xs : List Addr} {i : Nat} {z : Addr} (h : xs[i]? = some z) : (xs.map V.ref)[i]? = some (V.ref z) := by
  rw [List.getElem?_map, h]
  rfl
theorem flat_strs (xs : List Str) : (xs.map V.str).all flatV = true := by
  rw [List.all_eq_true]
  intro v hv
  obtain ⟨z, _, rfl⟩ := List.mem_map.mp hv
  rfl
theorem inV_strs (x : Str) (xs : List Str) : inV (.str x) (xs.map V.str) = decide (x ∈ xs) := by
  unfold inV
  induction xs with
  | nil => simp
  | cons y ys ih =>
    rw [List.map_cons, List.any_cons, ih]
    show ((y == x) || decide (x ∈ ys)) = _
    by_cases e : y = x
    · simp [e]
    · have e' : ¬ x = y := fun z => e z.symm
      simp [e, e']
section
variable {X : Cx}
/-- x in xs, of texts -/
def rInS (K : PySem.W.Frag) : R2 := fun x y H Q => ∃ (z : Str) (p : Addr) (xs : List Str), x = .str z ∧ y = .ref p ∧ SqL K H p (xs.map V.str) ∧ Q (.bl (decide (z ∈ xs))) H
theorem op_inS : OpR X (compareOp .In) (rInS X.K) := by
  intro ps s σ H x y v u Q I rx ry h
  obtain ⟨z, p, xs, rfl, rfl, hq, q⟩ := h
  refine op_in_seq ps s σ H (.str z) (.ref p) v u Q I rx ry ⟨p, _, rfl, .inl hq, rfl, flat_strs xs, ?_⟩
  show Q (.bl (inV (.str z) (xs.map V.str))) H
  rw [inV_strs]
  exact q
def rNotInS (K : PySem.W.Frag) : R2 := fun x y H Q => ∃ (z : Str) (p : Addr) (xs : List Str), x = .str z ∧ y = .ref p ∧ SqL K H p (xs.map V.str) ∧ Q (.bl (!decide (z ∈ xs))) H
theorem op_notInS : OpR X (compareOp .NotIn) (rNotInS X.K) := by
  intro ps s σ H x y v u Q I rx ry h
  obtain ⟨z, p, xs, rfl, rfl, hq, q⟩ := h
  refine op_notIn_seq ps s σ H (.str z) (.ref p) v u Q I rx ry ⟨p, _, rfl, .inl hq, rfl, flat_strs xs, ?_⟩
  show Q (.bl (!inV (.str z) (xs.map V.str))) H
  rw [inV_strs]
  exact q
theorem all_range {n : Nat} {e : Nat → Bool} : (List.range n).all e = true ↔ ∀ j, j < n → e j = true := by
  rw [List.all_eq_true]
  constructor
  · intro h j hj
    exact h j (List.mem_range.mpr hj)
  · intro h j hj
    exact h j (List.mem_range.mp hj)
/-- xs == ys, lists of texts -/
def rEqS (K : PySem.W.Frag) : R2 := fun x y H Q => ∃ (p q : Addr) (xs ys : List Str), x = .ref p ∧ y = .ref q ∧ SqL K H p (xs.map V.str) ∧ SqL K H q (ys.map V.str) ∧ Q (.bl (decide (xs = ys))) H
theorem op_eqS (hu : X.A.units + 64 < cLine) : OpR X (compareOp .Eq) (rEqS X.K) := by
  intro ps s σ H x y v u Q I rx ry h
  obtain ⟨p, q, xs, ys, rfl, rfl, h1, h2, k⟩ := h
  cases rx
  cases ry
  obtain ⟨its, r1, p1, z1⟩ := I.list h1
  obtain ⟨jts, r2, p2, z2⟩ := I.list h2
  have l1 := r1.length
  have l2 := r2.length
  rw [List.length_map] at l1 l2
  have hu' : X.A.units < cLine := by omega
  by_cases hl : xs.length = ys.length
  · refine SeqAt.eq_listAt (e := fun j => decide (xs[j]? = ys[j]?)) p1.isList p2.isList (by simp; omega) hu' (fun j g1 g2 => ?_) ⟨.bl _, H, I, rfl, ?_⟩
    · have j1 : j < xs.length := by simp at g1; omega
      have j2 : j < ys.length := by omega
      obtain ⟨u1, e1, q1⟩ := r1.get (str_at (List.getElem?_eq_getElem j1))
      obtain ⟨u2, e2, q2⟩ := r2.get (str_at (List.getElem?_eq_getElem j2))
      have b1 : its.toArray[j] = u1 := by
        rw [List.getElem_toArray]
        exact (List.getElem?_eq_some_iff.mp e1).2
      have b2 : jts.toArray[j] = u2 := by
        rw [List.getElem_toArray]
        exact (List.getElem?_eq_some_iff.mp e2).2
      rw [b1, b2]
      have e := eqAt_V (A := X.A.in1) (s := s) q1 q2 rfl rfl
      have e3 : eqV (.str xs[j]) (.str ys[j]) = decide (xs[j]? = ys[j]?) := by
        rw [List.getElem?_eq_getElem j1, List.getElem?_eq_getElem j2]
        show (xs[j] == ys[j]) = _
        by_cases z : xs[j] = ys[j]
        · simp [z]
        · simp [z]
      rw [e3] at e
      exact e
    · have e : (List.range its.toArray.size).all (fun j => decide (xs[j]? = ys[j]?)) = decide (xs = ys) := by
        by_cases z : xs = ys
        · subst z
          rw [decide_eq_true rfl, all_range]
          intro j _
          exact decide_eq_true rfl
        · rw [decide_eq_false z]
          cases q : (List.range its.toArray.size).all (fun j => decide (xs[j]? = ys[j]?)) with
          | false => rfl
          | true =>
            rw [all_range] at q
            refine absurd (List.ext_getElem? fun j => ?_) z
            by_cases hj : j < its.toArray.size
            · exact of_decide_eq_true (q j hj)
            · have hj' : xs.length ≤ j := by simp at hj; omega
              rw [List.getElem?_eq_none hj', List.getElem?_eq_none (by omega)]
      show Q (.bl ((List.range its.toArray.size).all (fun j => decide (xs[j]? = ys[j]?)))) H
      rw [e]
      exact k
  · have e : decide (xs = ys) = false := decide_eq_false fun z => hl (by rw [z])
    rw [e] at k
    exact SeqAt.eq_list_lengthsAt p1.isList p2.isList (by simp; omega) hu' ⟨.bl _, H, I, rfl, k⟩
/-- xs.index(x), of texts, x is there -/
def rIndexS (K : PySem.W.Frag) : V → List V → Hp → VK → Prop := fun x xs H Q => ∃ (a : Addr) (ys : List Str) (z : Str), x = V.ref a ∧ xs = [V.str z] ∧ SqL K H a (ys.map V.str) ∧ z ∈ ys ∧ Q (.int ((idx z ys : Nat) : Int)) H
theorem mt_indexS : MtR X "list.index" (rIndexS X.K) := by
  intro pins s σ H x xs u us Q I rx rs h
  obtain ⟨a, ys, z, rfl, rfl, hq, hz, q⟩ := h
  refine mt_index pins s σ H _ _ u us Q I rx rs ⟨a, _, .str z, idx z ys, .str z, rfl, rfl, hq, rfl, flat_strs ys, str_at (idx_at hz), ?_, fun m z' hm hz' => ?_, q⟩
  · show (z == z) = true
    simp
  · obtain ⟨y, hy, rfl⟩ := strs_get hz'
    show (y == z) = false
    have := idx_first hm hy
    simpa using this
/-- a for over a text, sign by sign -/
theorem for_str {z : Str} {g : TG} {tb : TS} {D : Ends} {σ : St} {H : Hp} (Pv : Nat → St → Hp → Prop) (h0 : Pv 0 σ H)
    (hs : ∀ i c σ H, (tl z)[i]? = some c → Pv i σ H → g (.str ⟨#[c]⟩) σ H fun σ2 H2 => tb { D with nx := Pv (i + 1), ct := Pv (i + 1), bk := D.nx } σ2 H2) (hd : ∀ σ H, Pv (tl z).length σ H → D.nx σ H) :
    ∃ W : Nat → Nat → St → Hp → Prop, (∃ m, W 0 m σ H) ∧ ∀ i m σ H, W i m σ H → ((Its z).stop i H ∧ D.nx σ H) ∨ ((Its z).go i H ∧ ∃ N : St → Hp → Prop, (∀ σ' H', N σ' H' → ∃ m', m' < m ∧ W (i + 1) m' σ' H') ∧ ∀ x H', (Its z).yld i H x H' → g x σ H' fun σ2 H2 => tb { D with nx := N, ct := N, bk := D.nx } σ2 H2) := by
  have el : (tl z).length = z.cps.size := by simp [tl]
  refine for_it walk_str Pv h0 (fun _ _ _ _ _ => trivial) (fun i x σ H H' hi hp hy => ?_) (by rw [← el]; exact hd)
  obtain ⟨rfl, c, hc, rfl⟩ := hy
  exact hs i c σ H' (by simpa [tl] using hc) hp
end
/-- list(xs), the written part told by its letter (within a comprehension) -/
def rListOf (K : PySem.W.Frag) : List V → Hp → VK → Prop := fun xs H Q => ∃ p ys, xs = [V.ref p] ∧ (SqL K H p ys ∨ SqT K H p ys) ∧ ∀ l, H l = none → Q (.ref l) (upd H l (.lst ys))
theorem call_list_K {X : Cx} {K : PySem.W.Frag} (h : X.K = K) : CallR X (.type "list") (rListOf K) := by
  subst h
  exact call_list_of
theorem ix_list_K {X : Cx} {K : PySem.W.Frag} (h : X.K = K) : IxR X (rIxL K) := by
  subst h
  exact ix_list
theorem pi_list_K {X : Cx} {K : PySem.W.Frag} {tg l : Expr} {tl : TE} (h : X.K = K) (hl : PE X l tl) : PI X tg l (iList K tl) := by
  subst h
  exact pi_list hl
theorem same_upd {H : Hp} {p : Addr} {o : HO} (h : H p = none) : Same H (upd H p o) := fun b x e => by
  rw [upd_ne (ne_of_none e h)]
  exact e
theorem take_more {α : Type} {l : List α} {i : Nat} {x : α} (h : l[i]? = some x) : l.take (i + 1) = l.take i ++ [x] := by
  rw [List.take_add_one, h]
  rfl
theorem small_of {n : Nat} (h : n ≤ 16777216) : n ≤ sizeLine := by
  rw [sizeLine_eq]
  exact h
end BH

set_option Elab.async false
set_option linter.all false
set_option maxRecDepth 100000
set_option maxHeartbeats 4000000
/-! What stands in the heap: five lists of an object, its bags in cells of their own. -/
namespace BH
open PySem TL L2
/-! ### fields: bowls, doors, takes, gives, first -/
theorem f_bd : ¬ (("bowls" : Str) = "doors") := by decide +kernel
theorem f_bt : ¬ (("bowls" : Str) = "takes") := by decide +kernel
theorem f_bg : ¬ (("bowls" : Str) = "gives") := by decide +kernel
theorem f_bf : ¬ (("bowls" : Str) = "first") := by decide +kernel
theorem f_dt : ¬ (("doors" : Str) = "takes") := by decide +kernel
theorem f_dg : ¬ (("doors" : Str) = "gives") := by decide +kernel
theorem f_df : ¬ (("doors" : Str) = "first") := by decide +kernel
theorem f_tg : ¬ (("takes" : Str) = "gives") := by decide +kernel
theorem f_tf : ¬ (("takes" : Str) = "first") := by decide +kernel
theorem f_gf : ¬ (("gives" : Str) = "first") := by decide +kernel
def nf1 (lb : Addr) : List (Str × V) := putF "bowls" (.ref lb) []
def nf2 (lb ld : Addr) : List (Str × V) := putF "doors" (.ref ld) (nf1 lb)
def nf3 (lb ld lt : Addr) : List (Str × V) := putF "takes" (.ref lt) (nf2 lb ld)
def nf4 (lb ld lt lg : Addr) : List (Str × V) := putF "gives" (.ref lg) (nf3 lb ld lt)
def netF (lb ld lt lg lf : Addr) : List (Str × V) := putF "first" (.ref lf) (nf4 lb ld lt lg)
section
variable (lb ld lt lg lf : Addr)
theorem netF_b : (netF lb ld lt lg lf).lookup ("bowls" : Str) = some (.ref lb) := by
  unfold netF nf4 nf3 nf2 nf1
  rw [lookup_putF, if_neg f_bf, lookup_putF, if_neg f_bg, lookup_putF, if_neg f_bt, lookup_putF, if_neg f_bd, lookup_putF, if_pos rfl]
theorem netF_d : (netF lb ld lt lg lf).lookup ("doors" : Str) = some (.ref ld) := by
  unfold netF nf4 nf3 nf2 nf1
  rw [lookup_putF, if_neg f_df, lookup_putF, if_neg f_dg, lookup_putF, if_neg f_dt, lookup_putF, if_pos rfl]
theorem netF_t : (netF lb ld lt lg lf).lookup ("takes" : Str) = some (.ref lt) := by
  unfold netF nf4 nf3 nf2 nf1
  rw [lookup_putF, if_neg f_tf, lookup_putF, if_neg f_tg, lookup_putF, if_pos rfl]
theorem netF_g : (netF lb ld lt lg lf).lookup ("gives" : Str) = some (.ref lg) := by
  unfold netF nf4 nf3 nf2 nf1
  rw [lookup_putF, if_neg f_gf, lookup_putF, if_pos rfl]
theorem netF_f : (netF lb ld lt lg lf).lookup ("first" : Str) = some (.ref lf) := by
  unfold netF nf4 nf3 nf2 nf1
  rw [lookup_putF, if_pos rfl]
end
theorem putF_len (f : Str) (v : V) : ∀ l : List (Str × V), (putF f v l).length ≤ l.length + 1
  | [] => Nat.le_refl _
  | (g, u) :: r => by
    show (if g = f then (g, v) :: r else (g, u) :: putF f v r).length ≤ r.length + 1 + 1
    by_cases h : g = f
    · rw [if_pos h]
      show r.length + 1 ≤ _
      omega
    · rw [if_neg h]
      show (putF f v r).length + 1 ≤ _
      have := putF_len f v r
      omega
/-- what the walks ask of a class with these fields -/
structure CTxt (K : PySem.W.Frag) (C : Addr) : Prop where
  cl : Cls K C
  nb : NoAttr K C "bowls"
  nd : NoAttr K C "doors"
  nt : NoAttr K C "takes"
  ng : NoAttr K C "gives"
  nf : NoAttr K C "first"
/-! ### cells -/
def CellsAt {α : Type} (cell : α → HO) (H : Hp) (ts : List Addr) (T : List α) : Prop := ts.length = T.length ∧ ∀ (i : Nat) (t : Addr) (x : α), ts[i]? = some t → T[i]? = some x → H t = some (cell x)
def cellI (t : List Int) : HO := .lst (t.map V.int)
def kvs (B : Bag) : List (Key × V) := B.map fun p => ((Sum.inr p.1 : Key), V.int p.2)
def cellD (B : Bag) : HO := .dK (kvs B)
section
variable {α : Type} {cell : α → HO} {H H' : Hp} {ts : List Addr} {T : List α}
theorem CellsAt.nil : CellsAt cell H [] [] := ⟨rfl, fun i t x h => by simp at h⟩
theorem CellsAt.mono (h : CellsAt cell H ts T) (k : ∀ t ∈ ts, ∀ o, H t = some o → H' t = some o) : CellsAt cell H' ts T := ⟨h.1, fun i t x h1 h2 => k t (List.mem_of_getElem? h1) _ (h.2 i t x h1 h2)⟩
theorem CellsAt.same (h : CellsAt cell H ts T) (k : Same H H') : CellsAt cell H' ts T := h.mono fun t _ o e => k t o e
theorem CellsAt.some_of (h : CellsAt cell H ts T) {t : Addr} (ht : t ∈ ts) : ∃ x, H t = some (cell x) := by
  obtain ⟨i, hi⟩ := List.mem_iff_getElem?.mp ht
  have hlt : i < T.length := by
    rw [← h.1]
    exact (List.getElem?_eq_some_iff.mp hi).1
  exact ⟨T[i], h.2 i t _ hi (List.getElem?_eq_getElem hlt)⟩
theorem CellsAt.snoc {t : Addr} {x : α} (h : CellsAt cell H ts T) (ht : H t = some (cell x)) : CellsAt cell H (ts ++ [t]) (T ++ [x]) := by
  refine ⟨by rw [List.length_append, List.length_append, h.1]; rfl, fun i u y h1 h2 => ?_⟩
  by_cases hi : i < ts.length
  · rw [List.getElem?_append_left hi] at h1
    rw [List.getElem?_append_left (by rw [← h.1]; exact hi)] at h2
    exact h.2 i u y h1 h2
  · have e : i = ts.length := by
      have := (List.getElem?_eq_some_iff.mp h1).1
      rw [List.length_append, List.length_singleton] at this
      omega
    subst e
    rw [List.getElem?_append_right (Nat.le_refl _), Nat.sub_self] at h1
    rw [h.1, List.getElem?_append_right (Nat.le_refl _), Nat.sub_self] at h2
    have e1 : t = u := Option.some.inj h1
    have e2 : x = y := Option.some.inj h2
    rw [← e1, ← e2]
    exact ht
end
/-! ### five lists and their bags -/
structure At5 {α : Type} (cell : α → HO) (H0 H : Hp) (p : Addr) (o : HO) (a0 a1 a2 a3 a4 : Addr) (ts gs : List Addr) (bowls doors : List Str) (T G : List α) (first : List Int) : Prop where
  same : Same H0 H
  fresh : ∀ b ∈ p :: a0 :: a1 :: a2 :: a3 :: a4 :: (ts ++ gs), H0 b = none
  nd : (p :: a0 :: a1 :: a2 :: a3 :: a4 :: (ts ++ gs)).Nodup
  hp : H p = some o
  h0 : H a0 = some (.lst (bowls.map V.str))
  h1 : H a1 = some (.lst (doors.map V.str))
  h2 : H a2 = some (.lst (ts.map V.ref))
  h3 : H a3 = some (.lst (gs.map V.ref))
  h4 : H a4 = some (.lst (first.map V.int))
  ct : CellsAt cell H ts T
  cg : CellsAt cell H gs G
section
variable {α : Type} {cell : α → HO} {H0 H H1 : Hp} {p a0 a1 a2 a3 a4 : Addr} {o : HO} {ts gs : List Addr} {bowls doors : List Str} {T G : List α} {first : List Int}
theorem At5.some_of (A : At5 cell H0 H p o a0 a1 a2 a3 a4 ts gs bowls doors T G first) {b : Addr} (hb : b ∈ p :: a0 :: a1 :: a2 :: a3 :: a4 :: (ts ++ gs)) : ∃ u, H b = some u := by
  simp only [List.mem_cons, List.mem_append] at hb
  rcases hb with e | e | e | e | e | e | e | e
  · rw [e]; exact ⟨_, A.hp⟩
  · rw [e]; exact ⟨_, A.h0⟩
  · rw [e]; exact ⟨_, A.h1⟩
  · rw [e]; exact ⟨_, A.h2⟩
  · rw [e]; exact ⟨_, A.h3⟩
  · rw [e]; exact ⟨_, A.h4⟩
  · obtain ⟨x, hx⟩ := A.ct.some_of e; exact ⟨_, hx⟩
  · obtain ⟨x, hx⟩ := A.cg.some_of e; exact ⟨_, hx⟩
theorem At5.notin (A : At5 cell H0 H p o a0 a1 a2 a3 a4 ts gs bowls doors T G first) {b : Addr} (hb : H b = none) : b ∉ p :: a0 :: a1 :: a2 :: a3 :: a4 :: (ts ++ gs) := fun m => by
  obtain ⟨u, hu⟩ := A.some_of m
  rw [hb] at hu
  cases hu
theorem At5.more (A : At5 cell H0 H p o a0 a1 a2 a3 a4 ts gs bowls doors T G first) (s : Same H H1) : At5 cell H0 H1 p o a0 a1 a2 a3 a4 ts gs bowls doors T G first :=
  ⟨A.same.trans s, A.fresh, A.nd, s _ _ A.hp, s _ _ A.h0, s _ _ A.h1, s _ _ A.h2, s _ _ A.h3, s _ _ A.h4, A.ct.same s, A.cg.same s⟩
/-- the distinctness, told by name -/
structure Dis (p a0 a1 a2 a3 a4 : Addr) (ts gs : List Addr) : Prop where
  p0 : p ≠ a0
  p1 : p ≠ a1
  p2 : p ≠ a2
  p3 : p ≠ a3
  p4 : p ≠ a4
  d01 : a0 ≠ a1
  d02 : a0 ≠ a2
  d03 : a0 ≠ a3
  d04 : a0 ≠ a4
  d12 : a1 ≠ a2
  d13 : a1 ≠ a3
  d14 : a1 ≠ a4
  d23 : a2 ≠ a3
  d24 : a2 ≠ a4
  d34 : a3 ≠ a4
  c : ∀ b ∈ ts ++ gs, b ≠ p ∧ b ≠ a0 ∧ b ≠ a1 ∧ b ≠ a2 ∧ b ≠ a3 ∧ b ≠ a4
theorem dis_of (h : (p :: a0 :: a1 :: a2 :: a3 :: a4 :: (ts ++ gs)).Nodup) : Dis p a0 a1 a2 a3 a4 ts gs := by
  rw [List.nodup_cons, List.nodup_cons, List.nodup_cons, List.nodup_cons, List.nodup_cons, List.nodup_cons] at h
  obtain ⟨k1, k2, k3, k4, k5, k6, _⟩ := h
  simp only [List.mem_cons, not_or] at k1 k2 k3 k4 k5 k6
  refine ⟨k1.1, k1.2.1, k1.2.2.1, k1.2.2.2.1, k1.2.2.2.2.1, k2.1, k2.2.1, k2.2.2.1, k2.2.2.2.1, k3.1, k3.2.1, k3.2.2.1, k4.1, k4.2.1, k5.1, fun b hb => ⟨?_, ?_, ?_, ?_, ?_, ?_⟩⟩
  · rintro rfl; exact k1.2.2.2.2.2 hb
  · rintro rfl; exact k2.2.2.2.2 hb
  · rintro rfl; exact k3.2.2.2 hb
  · rintro rfl; exact k4.2.2 hb
  · rintro rfl; exact k5.2 hb
  · rintro rfl; exact k6 hb
theorem same_put {b : Addr} {u : HO} (s : Same H0 H) (hb : H0 b = none) : Same H0 (upd H b u) := fun c x e => by
  rw [upd_ne (ne_of_none e hb)]
  exact s c x e
/-- a bowl more -/
theorem At5.bowl (A : At5 cell H0 H p o a0 a1 a2 a3 a4 ts gs bowls doors T G first) (n : Str) (c : Int) :
    At5 cell H0 (upd (upd H a0 (.lst (bowls.map V.str ++ [V.str n]))) a4 (.lst (first.map V.int ++ [V.int c]))) p o a0 a1 a2 a3 a4 ts gs (bowls ++ [n]) doors T G (first ++ [c]) := by
  have D := dis_of A.nd
  refine ⟨same_put (same_put A.same (A.fresh a0 (by simp))) (A.fresh a4 (by simp)), A.fresh, A.nd, ?_, ?_, ?_, ?_, ?_, ?_, ?_, ?_⟩
  · rw [upd_ne D.p4, upd_ne D.p0]; exact A.hp
  · rw [upd_ne D.d04, upd_same, List.map_append]; rfl
  · rw [upd_ne D.d14, upd_ne D.d01.symm]; exact A.h1
  · rw [upd_ne D.d24, upd_ne D.d02.symm]; exact A.h2
  · rw [upd_ne D.d34, upd_ne D.d03.symm]; exact A.h3
  · rw [upd_same, List.map_append]; rfl
  · refine A.ct.mono fun t ht x e => ?_
    have q := D.c t (List.mem_append_left _ ht)
    rw [upd_ne q.2.2.2.2.2, upd_ne q.2.1]; exact e
  · refine A.cg.mono fun t ht x e => ?_
    have q := D.c t (List.mem_append_right _ ht)
    rw [upd_ne q.2.2.2.2.2, upd_ne q.2.1]; exact e
/-- a door more, its bags at t and g -/
theorem At5.door (A : At5 cell H0 H p o a0 a1 a2 a3 a4 ts gs bowls doors T G first) (n : Str) {t g : Addr} {x y : α} (ht : H t = some (cell x)) (hg : H g = some (cell y)) (ft : H0 t = none) (fg : H0 g = none) (htg : t ≠ g)
    (nt : t ∉ p :: a0 :: a1 :: a2 :: a3 :: a4 :: (ts ++ gs)) (ng : g ∉ p :: a0 :: a1 :: a2 :: a3 :: a4 :: (ts ++ gs)) :
    At5 cell H0 (upd (upd (upd H a1 (.lst (doors.map V.str ++ [V.str n]))) a2 (.lst (ts.map V.ref ++ [V.ref t]))) a3 (.lst (gs.map V.ref ++ [V.ref g]))) p o a0 a1 a2 a3 a4 (ts ++ [t]) (gs ++ [g]) bowls (doors ++ [n]) (T ++ [x]) (G ++ [y]) first := by
  have D := dis_of A.nd
  have old : ∀ {b : Addr} {u : HO}, b ≠ a1 → b ≠ a2 → b ≠ a3 → H b = some u → upd (upd (upd H a1 (.lst (doors.map V.str ++ [V.str n]))) a2 (.lst (ts.map V.ref ++ [V.ref t]))) a3 (.lst (gs.map V.ref ++ [V.ref g])) b = some u := fun {b u} e1 e2 e3 e => by
    rw [upd_ne e3, upd_ne e2, upd_ne e1]
    exact e
  have ot : ∀ b ∈ ts ++ gs, ∀ u, H b = some u → upd (upd (upd H a1 (.lst (doors.map V.str ++ [V.str n]))) a2 (.lst (ts.map V.ref ++ [V.ref t]))) a3 (.lst (gs.map V.ref ++ [V.ref g])) b = some u := fun b hb u e => by
    have q := D.c b hb
    exact old q.2.2.1 q.2.2.2.1 q.2.2.2.2.1 e
  simp only [List.mem_cons, not_or] at nt ng
  have mem : ∀ b, b ∈ p :: a0 :: a1 :: a2 :: a3 :: a4 :: ((ts ++ [t]) ++ (gs ++ [g])) → b = t ∨ b = g ∨ b ∈ p :: a0 :: a1 :: a2 :: a3 :: a4 :: (ts ++ gs) := fun b hb => by
    simp only [List.mem_cons, List.mem_append, List.not_mem_nil, or_false] at hb ⊢
    rcases hb with e | e | e | e | e | e | (e | e) | (e | e)
    · exact .inr (.inr (.inl e))
    · exact .inr (.inr (.inr (.inl e)))
    · exact .inr (.inr (.inr (.inr (.inl e))))
    · exact .inr (.inr (.inr (.inr (.inr (.inl e)))))
    · exact .inr (.inr (.inr (.inr (.inr (.inr (.inl e))))))
    · exact .inr (.inr (.inr (.inr (.inr (.inr (.inr (.inl e)))))))
    · exact .inr (.inr (.inr (.inr (.inr (.inr (.inr (.inr (.inl e))))))))
    · exact .inl e
    · exact .inr (.inr (.inr (.inr (.inr (.inr (.inr (.inr (.inr e))))))))
    · exact .inr (.inl e)
  refine ⟨same_put (same_put (same_put A.same (A.fresh a1 (by simp))) (A.fresh a2 (by simp))) (A.fresh a3 (by simp)), fun b hb => ?_, ?_, ?_, ?_, ?_, ?_, ?_, ?_, ?_, ?_⟩
  · rcases mem b hb with e | e | e
    · rw [e]; exact ft
    · rw [e]; exact fg
    · exact A.fresh b e
  · have pm : (p :: a0 :: a1 :: a2 :: a3 :: a4 :: ((ts ++ [t]) ++ (gs ++ [g]))).Perm (t :: g :: (p :: a0 :: a1 :: a2 :: a3 :: a4 :: (ts ++ gs))) := by
      have e1 : p :: a0 :: a1 :: a2 :: a3 :: a4 :: ((ts ++ [t]) ++ (gs ++ [g])) = (p :: a0 :: a1 :: a2 :: a3 :: a4 :: ts) ++ t :: (gs ++ [g]) := by simp
      have e2 : g :: (p :: a0 :: a1 :: a2 :: a3 :: a4 :: (ts ++ gs)) = g :: ((p :: a0 :: a1 :: a2 :: a3 :: a4 :: ts) ++ gs) := by simp
      rw [e1, e2]
      refine List.perm_middle.trans (List.Perm.cons _ ?_)
      rw [← List.append_assoc]
      exact List.perm_append_singleton g _
    rw [pm.nodup_iff, List.nodup_cons, List.nodup_cons]
    refine ⟨?_, ?_, A.nd⟩
    · intro m
      rcases List.mem_cons.mp m with e | e
      · exact htg e
      · simp only [List.mem_cons] at e
        rcases e with e | e | e | e | e | e | e
        · exact nt.1 e
        · exact nt.2.1 e
        · exact nt.2.2.1 e
        · exact nt.2.2.2.1 e
        · exact nt.2.2.2.2.1 e
        · exact nt.2.2.2.2.2.1 e
        · exact nt.2.2.2.2.2.2 e
    · intro e
      simp only [List.mem_cons] at e
      rcases e with e | e | e | e | e | e | e
      · exact ng.1 e
      · exact ng.2.1 e
      · exact ng.2.2.1 e
      · exact ng.2.2.2.1 e
      · exact ng.2.2.2.2.1 e
      · exact ng.2.2.2.2.2.1 e
      · exact ng.2.2.2.2.2.2 e
  · exact old D.p1 D.p2 D.p3 A.hp
  · exact old D.d01 D.d02 D.d03 A.h0
  · rw [upd_ne D.d13, upd_ne D.d12, upd_same, List.map_append]; rfl
  · rw [upd_ne D.d23, upd_same, List.map_append]; rfl
  · rw [upd_same, List.map_append]; rfl
  · exact old D.d14.symm D.d24.symm D.d34.symm A.h4
  · refine (A.ct.mono fun b hb u e => ot b (List.mem_append_left _ hb) u e).snoc ?_
    exact old nt.2.2.1 nt.2.2.2.1 nt.2.2.2.2.1 ht
  · refine (A.cg.mono fun b hb u e => ot b (List.mem_append_right _ hb) u e).snoc ?_
    exact old ng.2.2.1 ng.2.2.2.1 ng.2.2.2.2.1 hg
end
/-! ### the draft, the law's parts, a net -/
/-- a bag that was told when only the first m bowls were there -/
def Rel (bowls : List Str) (B : Bag) (t : List Int) : Prop := ∃ m, m ≤ bowls.length ∧ t = vec (bowls.take m) B ∧ BagOk (bowls.take m) B
def RelAll (bowls : List Str) (Bs : List Bag) (T : List (List Int)) : Prop := Bs.length = T.length ∧ ∀ (i : Nat) B t, Bs[i]? = some B → T[i]? = some t → Rel bowls B t
theorem Rel.more {bowls : List Str} {B : Bag} {t : List Int} {n : Str} (h : Rel bowls B t) : Rel (bowls ++ [n]) B t := by
  obtain ⟨m, hm, e, ok⟩ := h
  refine ⟨m, by rw [List.length_append]; omega, ?_, ?_⟩
  · rw [List.take_append_of_le_length hm]
    exact e
  · rw [List.take_append_of_le_length hm]
    exact ok
theorem RelAll.nil (bowls : List Str) : RelAll bowls [] [] := ⟨rfl, fun i B t h => by simp at h⟩
theorem RelAll.more {bowls : List Str} {Bs : List Bag} {T : List (List Int)} {n : Str} (h : RelAll bowls Bs T) : RelAll (bowls ++ [n]) Bs T := ⟨h.1, fun i B t h1 h2 => (h.2 i B t h1 h2).more⟩
theorem RelAll.snoc {bowls : List Str} {Bs : List Bag} {T : List (List Int)} {B : Bag} (h : RelAll bowls Bs T) (ok : BagOk bowls B) : RelAll bowls (Bs ++ [B]) (T ++ [vec bowls B]) := by
  refine ⟨by rw [List.length_append, List.length_append, h.1]; rfl, fun i A t h1 h2 => ?_⟩
  by_cases hi : i < Bs.length
  · rw [List.getElem?_append_left hi] at h1
    rw [List.getElem?_append_left (by rw [← h.1]; exact hi)] at h2
    exact h.2 i A t h1 h2
  · have e : i = Bs.length := by
      have := (List.getElem?_eq_some_iff.mp h1).1
      rw [List.length_append, List.length_singleton] at this
      omega
    subst e
    rw [List.getElem?_append_right (Nat.le_refl _), Nat.sub_self] at h1
    rw [h.1, List.getElem?_append_right (Nat.le_refl _), Nat.sub_self] at h2
    have e1 : B = A := Option.some.inj h1
    have e2 : vec bowls B = t := Option.some.inj h2
    rw [← e1, ← e2]
    exact ⟨bowls.length, Nat.le_refl _, by rw [List.take_length], by rw [List.take_length]; exact ok⟩
theorem Rel.len {bowls : List Str} {B : Bag} {t : List Int} (h : Rel bowls B t) : t.length ≤ bowls.length := by
  obtain ⟨m, hm, e, ok⟩ := h
  rw [e, vec_len, List.length_take]
  omega
theorem Rel.wide {bowls : List Str} {B : Bag} {t : List Int} (h : Rel bowls B t) (hn : bowls.Nodup) : t ++ List.replicate (bowls.length - t.length) 0 = vec bowls B := by
  obtain ⟨m, hm, e, ok⟩ := h
  have q := vec_widen (bowls := bowls.take m) (more := bowls.drop m) ok (by rw [List.take_append_drop]; exact hn)
  rw [List.take_append_drop] at q
  rw [q, e, vec_len, List.length_take, List.length_drop, Nat.min_eq_left hm]
def DraftAt (C : Addr) (H0 H : Hp) (p : Addr) (s : S) : Prop := ∃ (dx lb ld lt lg lf : Addr) (ts gs : List Addr) (T G : List (List Int)), At5 cellI H0 H p (.ins C dx (netF lb ld lt lg lf)) lb ld lt lg lf ts gs s.bowls s.doors T G s.first ∧ RelAll s.bowls s.takes T ∧ RelAll s.bowls s.gives G
def PartsAt (H0 H : Hp) (p : Addr) (s : S) : Prop := ∃ (a0 a1 a2 a3 a4 : Addr) (ts gs : List Addr), At5 cellD H0 H p (.lst [.ref a0, .ref a1, .ref a2, .ref a3, .ref a4]) a0 a1 a2 a3 a4 ts gs s.bowls s.doors s.takes s.gives s.first
/-- a net, to be read -/
def NetAt (C : Addr) (H : Hp) (p : Addr) (bowls doors : List Str) (T G : List (List Int)) (first : List Int) : Prop := ∃ (dx lb ld lt lg lf : Addr) (ts gs : List Addr), H p = some (.ins C dx (netF lb ld lt lg lf)) ∧
  H lb = some (.lst (bowls.map V.str)) ∧ H ld = some (.lst (doors.map V.str)) ∧ H lt = some (.lst (ts.map V.ref)) ∧ H lg = some (.lst (gs.map V.ref)) ∧ H lf = some (.lst (first.map V.int)) ∧ CellsAt cellI H ts T ∧ CellsAt cellI H gs G
theorem NetAt.same {C : Addr} {H H' : Hp} {p : Addr} {bowls doors : List Str} {T G : List (List Int)} {first : List Int} (h : NetAt C H p bowls doors T G first) (s : Same H H') : NetAt C H' p bowls doors T G first := by
  obtain ⟨dx, lb, ld, lt, lg, lf, ts, gs, h1, h2, h3, h4, h5, h6, h7, h8⟩ := h
  exact ⟨dx, lb, ld, lt, lg, lf, ts, gs, s _ _ h1, s _ _ h2, s _ _ h3, s _ _ h4, s _ _ h5, s _ _ h6, h7.same s, h8.same s⟩
/-- the law's due values, to be read -/
def DueAt (H : Hp) (p : Addr) (bowls doors : List Str) (T G : List (List Int)) (first : List Int) : Prop := ∃ (lb ld lt lg lf : Addr) (ts gs : List Addr), H p = some (.lst [.ref lb, .ref ld, .ref lt, .ref lg, .ref lf]) ∧
  H lb = some (.lst (bowls.map V.str)) ∧ H ld = some (.lst (doors.map V.str)) ∧ H lt = some (.lst (ts.map V.ref)) ∧ H lg = some (.lst (gs.map V.ref)) ∧ H lf = some (.lst (first.map V.int)) ∧ CellsAt cellI H ts T ∧ CellsAt cellI H gs G
theorem DueAt.same {H H' : Hp} {p : Addr} {bowls doors : List Str} {T G : List (List Int)} {first : List Int} (h : DueAt H p bowls doors T G first) (s : Same H H') : DueAt H' p bowls doors T G first := by
  obtain ⟨lb, ld, lt, lg, lf, ts, gs, h1, h2, h3, h4, h5, h6, h7, h8⟩ := h
  exact ⟨lb, ld, lt, lg, lf, ts, gs, s _ _ h1, s _ _ h2, s _ _ h3, s _ _ h4, s _ _ h5, s _ _ h6, h7.same s, h8.same s⟩
end BH

set_option Elab.async false
set_option linter.all false
set_option maxRecDepth 100000
set_option maxHeartbeats 4000000
namespace BH
open PySem TL L2 PyProof.Rows
section
variable {P : Program} {w : World} {K : PySem.W.Frag} {mg : Str → Option Value} {base : Heap}
/-! ### names and counts -/
def spGood : Sp := fun vs H Q _ => ∃ z : Str, vs = [.str z] ∧ z.length ≤ sizeLine ∧ Q (.bl (goodName z)) H
abbrev s_good_name : Stmt := topS 10
abbrev N_good_name : List Str := ["name", "sign"]
theorem sc_good_name : FnScope ["name", "sign"] ["name"] (defScope s_good_name) := ⟨rfl, rfl, rfl, by decide +kernel, rfl, by decide +kernel, by decide +kernel⟩
theorem take_mem {z : Str} {i c : Nat} {L : List Nat} (h : ∀ c ∈ (tl z).take i, c ∈ L) (hc : (tl z)[i]? = some c) (hl : c ∈ L) : ∀ c ∈ (tl z).take (i + 1), c ∈ L := by
  rw [take_more hc]
  exact mem_snoc h hl
theorem ok_good_name {f : Addr} {fd : FuncData} (T : Txt K mg) (L_good_name : Lk K mg "good_name" s_good_name f fd ["name"]) : FnOk P w K mg base CX0 1 f fd ["name"] spGood := by
  obtain ⟨_, cMS⟩ := T.ms
  obtain ⟨_, cLT⟩ := T.lt
  refine L_good_name.fn.ok sc_good_name (fun vs H Q E h => ?_) (fun cdv A outer s H vs Q E hr h => ?_)
  · obtain ⟨z, rfl, _⟩ := h
    rfl
  · obtain ⟨z, rfl, hz, k⟩ := h
    refine ⟨_, (pss_cons (ps_if (PW.pt (pw_or (pt_cmpR op_lt (pe_callB call_len_str (by rfl) T.len PySem.boot_len (pa_cons (pv 0) pa_nil)) pe_int (nomark _)) (pw_or1 (pt_cmpR op_gt (pe_callB call_len_str (by rfl) T.len PySem.boot_len (pa_cons (pv 0) pa_nil)) (pe_glob (v := .int 8) rfl cMS ⟨_, rfl⟩) (nomark _))))) (pss_one (ps_ret pe_bl)) pss_nil)
      (pss_cons (ps_for PassesOwn.never rfl (pi_str (pv 0)) (pg_name (i := 1) sc_good_name.nd rfl (Or.inl rfl))
      (pss_one (ps_if (pt_cmpR op_notIn_sign (pv 1) (pe_glob (v := .str ("abcdefghijklmnopqrstuvwxyz" : Str)) rfl cLT ⟨_, rfl⟩) rfl) (pss_one (ps_ret pe_bl)) pss_nil)))
      (pss_one (ps_ret pe_bl)))), ?_⟩
    have bad : ¬ (1 ≤ z.length ∧ z.length ≤ 8 ∧ ∀ c ∈ tl z, c ∈ LET) → Q (.bl false) H := fun q => by
      rw [show goodName z = false from decide_eq_false q] at k
      exact k
    refine ⟨_, rfl, _, rfl, hz, _, _, rfl, rfl, _, rfl, ?_⟩
    refine ite2 (fun h1 => ?_) (fun h1 => ?_)
    · refine iteT ?_
      have h1 := of_decide_eq_true h1
      exact bad fun q => by omega
    · have h1 : ¬ ((z.length : Int) < 1) := fun q => h1 (decide_eq_true q)
      refine ⟨_, rfl, _, rfl, hz, _, _, rfl, rfl, _, rfl, ?_⟩
      refine ite2 (fun h2 => ?_) (fun h2 => ?_)
      · have h2 := of_decide_eq_true h2
        exact bad fun q => by omega
      · have h2 : ¬ ((8 : Int) < (z.length : Int)) := fun q => h2 (decide_eq_true q)
        refine ⟨_, rfl, z, rfl, for_str (fun i σ H' => H' = H ∧ (∃ v, σ = [some (.str z), v]) ∧ ∀ c ∈ (tl z).take i, c ∈ LET) ⟨rfl, ⟨none, rfl⟩, by simp⟩ ?_ ?_⟩
        · rintro i c σ H' hc ⟨rfl, ⟨v, rfl⟩, hp⟩
          refine ⟨_, rfl, c, _, rfl, rfl, _, rfl, ?_⟩
          by_cases hm : c ∈ LET
          · rw [decide_eq_true (show c ∈ (("abcdefghijklmnopqrstuvwxyz" : Str)).cps.toList from hm)]
            refine iteF ?_
            exact ⟨rfl, ⟨_, rfl⟩, take_mem hp hc hm⟩
          · rw [decide_eq_false (show ¬ c ∈ (("abcdefghijklmnopqrstuvwxyz" : Str)).cps.toList from hm)]
            refine iteT ?_
            exact bad fun q => hm (q.2.2 c (List.mem_of_getElem? hc))
        · rintro σ H' ⟨rfl, ⟨v, rfl⟩, hp⟩
          rw [List.take_length] at hp
          rw [show goodName z = true from decide_eq_true ⟨by omega, by omega, hp⟩] at k
          exact k

/-! ### counts -/
def optV : Option Int → V
  | some c => .int c
  | none => .non
def spCount : Sp := fun vs H Q _ => ∃ z : Str, vs = [.str z] ∧ z.length ≤ sizeLine ∧ Q (optV (countS z)) H
theorem zero_eq : ("0" : Str) = ⟨#[48]⟩ := by decide +kernel
theorem sign_zero {c : Nat} : (V.str ⟨#[c]⟩ = V.str ("0" : Str)) ↔ c = 48 := by
  rw [zero_eq]
  constructor
  · intro h
    have h1 := congrArg Str.cps (V.str.inj h)
    have h2 : #[c] = #[48] := h1
    simpa using h2
  · rintro rfl
    rfl
theorem countS_no {z : Str} (h : ¬ (1 ≤ z.length ∧ z.length ≤ 10 ∧ (∀ c ∈ tl z, c ∈ FIG) ∧ ¬ ((tl z).head? = some 48 ∧ 1 < z.length) ∧ NumText.digitsVal (tl z) ≤ 1000000000)) : countS z = none := if_neg h
theorem countS_yes {z : Str} (h : 1 ≤ z.length ∧ z.length ≤ 10 ∧ (∀ c ∈ tl z, c ∈ FIG) ∧ ¬ ((tl z).head? = some 48 ∧ 1 < z.length) ∧ NumText.digitsVal (tl z) ≤ 1000000000) : countS z = some ((NumText.digitsVal (tl z) : Nat) : Int) := if_pos h
theorem int_text {z : Str} (h1 : 1 ≤ z.length) (h2 : z.length ≤ 10) (h3 : ∀ c ∈ tl z, c ∈ FIG) : PySem.intText? z = some ((NumText.digitsVal (tl z) : Nat) : Int) := by
  refine PySem.intText_digits (fun c hc => mem_FIG.mp (h3 c hc)) (fun e => ?_) (by omega)
  rw [len_tl] at h1
  have e' : tl z = [] := e
  rw [e'] at h1
  simp at h1
theorem head_of {z : Str} (h1 : 1 ≤ z.length) : ∃ c r, tl z = c :: r := by
  rw [len_tl] at h1
  cases e : tl z with
  | nil =>
    rw [e] at h1
    simp at h1
  | cons c r => exact ⟨c, r, rfl⟩
theorem at0 {z : Str} {c : Nat} {r : List Nat} (e : tl z = c :: r) : atI z.cps.toList 0 = some c := by
  have e' : z.cps.toList = c :: r := e
  rw [e']
  exact atI_nat (j := 0) rfl
abbrev s_count_of : Stmt := topS 19
abbrev N_count_of : List Str := ["word", "sign", "many"]
theorem sc_count_of : FnScope ["word", "sign", "many"] ["word"] (defScope s_count_of) := ⟨rfl, rfl, rfl, by decide +kernel, rfl, by decide +kernel, by decide +kernel⟩
theorem ok_count_of {f : Addr} {fd : FuncData} (T : Txt K mg) (L_count_of : Lk K mg "count_of" s_count_of f fd ["word"]) : FnOk P w K mg base CX0 1 f fd ["word"] spCount := by
  obtain ⟨_, cMF⟩ := T.mf
  obtain ⟨_, cFG⟩ := T.fg
  obtain ⟨_, cMC⟩ := T.mc
  refine L_count_of.fn.ok sc_count_of (fun vs H Q E h => ?_) (fun cdv A outer s H vs Q E hr h => ?_)
  · obtain ⟨z, rfl, _⟩ := h
    rfl
  · obtain ⟨z, rfl, hz, k⟩ := h
    refine ⟨_, (pss_cons (ps_if (PW.pt (pw_or (pt_cmpR op_lt (pe_callB call_len_str (by rfl) T.len PySem.boot_len (pa_cons (pv 0) pa_nil)) pe_int (nomark _)) (pw_or1 (pt_cmpR op_gt (pe_callB call_len_str (by rfl) T.len PySem.boot_len (pa_cons (pv 0) pa_nil)) (pe_glob (v := .int 10) rfl cMF ⟨_, rfl⟩) (nomark _))))) (pss_one (ps_ret pe_non)) pss_nil)
      (pss_cons (ps_for PassesOwn.never rfl (pi_str (pv 0)) (pg_name (i := 1) sc_count_of.nd rfl (Or.inl rfl))
      (pss_one (ps_if (pt_cmpR op_notIn_sign (pv 1) (pe_glob (v := .str ("0123456789" : Str)) rfl cFG ⟨_, rfl⟩) rfl) (pss_one (ps_ret pe_non)) pss_nil)))
      (pss_cons (ps_if (PW.pt (pw_and (pt_cmpR op_eq (pe_ix ix_str (pv 0) pe_int (fun _ _ => rfl)) pe_str (nomark _)) (pw_and1 (pt_cmpR op_gt (pe_callB call_len_str (by rfl) T.len PySem.boot_len (pa_cons (pv 0) pa_nil)) pe_int (nomark _))))) (pss_one (ps_ret pe_non)) pss_nil)
      (pss_cons (ps_set (i := 2) sc_count_of.nd rfl (Or.inl rfl) (pe_callTy (T := "int") call_int_str (by rfl) T.int (by decide +kernel) (pa_cons (pv 0) pa_nil)))
      (pss_cons (ps_if (pt_cmpR op_gt (pv 2) (pe_glob (v := .int 1000000000) rfl cMC ⟨_, rfl⟩) (nomark _)) (pss_one (ps_ret pe_non)) pss_nil)
      (pss_one (ps_ret (pv 2)))))))), ?_⟩
    have bad : ¬ (1 ≤ z.length ∧ z.length ≤ 10 ∧ (∀ c ∈ tl z, c ∈ FIG) ∧ ¬ ((tl z).head? = some 48 ∧ 1 < z.length) ∧ NumText.digitsVal (tl z) ≤ 1000000000) → Q .non H := fun q => by
      rw [countS_no q] at k
      exact k
    refine ⟨_, rfl, _, rfl, hz, _, _, rfl, rfl, _, rfl, ?_⟩
    refine ite2 (fun h1 => ?_) (fun h1 => ?_)
    · refine iteT ?_
      have h1 := of_decide_eq_true h1
      exact bad fun q => by omega
    · have h1 : ¬ ((z.length : Int) < 1) := fun q => h1 (decide_eq_true q)
      refine ⟨_, rfl, _, rfl, hz, _, _, rfl, rfl, _, rfl, ?_⟩
      refine ite2 (fun h2 => ?_) (fun h2 => ?_)
      · have h2 := of_decide_eq_true h2
        exact bad fun q => by omega
      · have h2 : ¬ ((10 : Int) < (z.length : Int)) := fun q => h2 (decide_eq_true q)
        refine ⟨_, rfl, z, rfl, for_str (fun i σ H' => H' = H ∧ (∃ v, σ = [some (.str z), v, none]) ∧ ∀ c ∈ (tl z).take i, c ∈ FIG) ⟨rfl, ⟨none, rfl⟩, by simp⟩ ?_ ?_⟩
        · rintro i c σ H' hc ⟨rfl, ⟨v, rfl⟩, hp⟩
          refine ⟨_, rfl, c, _, rfl, rfl, _, rfl, ?_⟩
          by_cases hm : c ∈ FIG
          · rw [decide_eq_true (show c ∈ (("0123456789" : Str)).cps.toList from hm)]
            refine iteF ?_
            exact ⟨rfl, ⟨_, rfl⟩, take_mem hp hc hm⟩
          · rw [decide_eq_false (show ¬ c ∈ (("0123456789" : Str)).cps.toList from hm)]
            refine iteT ?_
            exact bad fun q => hm (q.2.2.1 c (List.mem_of_getElem? hc))
        · rintro σ H' ⟨rfl, ⟨v, rfl⟩, hp⟩
          rw [List.take_length] at hp
          obtain ⟨c, r, e⟩ := head_of (z := z) (by omega)
          refine ⟨_, rfl, _, _, _, rfl, rfl, hz, at0 e, rfl, _, rfl, ?_⟩
          refine ite2 (fun h3 => ⟨_, rfl, _, rfl, hz, _, _, rfl, rfl, _, rfl, ite2 (fun h4 => ?bad) (fun h4 => ?g1)⟩) (fun h3 => iteF ?g2)
          case bad =>
            have h3 := sign_zero.mp (of_decide_eq_true h3)
            have h4 := of_decide_eq_true h4
            exact bad fun q => q.2.2.2.1 ⟨by rw [e, h3]; rfl, by omega⟩
          all_goals
            have hh : ¬ ((tl z).head? = some 48 ∧ 1 < z.length) := fun q => by
              first
                | (exact h4 (decide_eq_true (by omega)))
                | (rw [e] at q; exact h3 (decide_eq_true (sign_zero.mpr (Option.some.inj q.1))))
            refine ⟨_, rfl, _, _, rfl, int_text (by omega) (by omega) hp, by omega, ?_⟩
            refine ⟨_, rfl, _, _, rfl, rfl, _, rfl, ?_⟩
            refine ite2 (fun h5 => ?_) (fun h5 => ?_)
            · have h5 := of_decide_eq_true h5
              exact bad fun q => by omega
            · have h5 : ¬ ((1000000000 : Int) < ((NumText.digitsVal (tl z) : Nat) : Int)) := fun q => h5 (decide_eq_true q)
              refine ⟨_, rfl, ?_⟩
              rw [countS_yes ⟨by omega, by omega, hp, hh, by omega⟩] at k
              exact k
end
end BH

set_option Elab.async false
set_option linter.all false
set_option maxRecDepth 100000
set_option maxHeartbeats 4000000
namespace BH
open PySem TL L2 PyProof.Rows
section
variable {P : Program} {w : World} {K : PySem.W.Frag} {mg : Str → Option Value} {base : Heap}
/-! ### the law's counts and names -/
def lawCount (z : Str) : Int := (countS z).getD (-1)
def spLCount : Sp := fun vs H Q _ => ∃ z : Str, vs = [.str z] ∧ z.length ≤ sizeLine ∧ Q (.int (lawCount z)) H
theorem str_zero {z : Str} {c : Nat} {r : List Nat} (e : tl z = c :: r) (hc : c = 48) : (V.str z = V.str ("0" : Str)) ↔ z.length = 1 := by
  have e0 : tl ("0" : Str) = [48] := by decide +kernel
  constructor
  · intro h
    rw [len_tl, V.str.inj h, e0]
    rfl
  · intro h
    rw [len_tl, e] at h
    have hr : r = [] := by
      cases r with
      | nil => rfl
      | cons a b => simp at h
    refine congrArg V.str (ext_tl ?_)
    rw [e, hr, hc, e0]
abbrev s_l_count_of : Stmt := topS 40
abbrev N_l_count_of : List Str := ["word", "sign"]
theorem sc_l_count_of : FnScope ["word", "sign"] ["word"] (defScope s_l_count_of) := ⟨rfl, rfl, rfl, by decide +kernel, rfl, by decide +kernel, by decide +kernel⟩
theorem ok_l_count_of {f : Addr} {fd : FuncData} (T : Txt K mg) (L_l_count_of : Lk K mg "_law_count_of" s_l_count_of f fd ["word"]) : FnOk P w K mg base CX0 1 f fd ["word"] spLCount := by
  refine L_l_count_of.fn.ok sc_l_count_of (fun vs H Q E h => ?_) (fun cdv A outer s H vs Q E hr h => ?_)
  · obtain ⟨z, rfl, _⟩ := h
    rfl
  · obtain ⟨z, rfl, hz, k⟩ := h
    refine ⟨_, (pss_cons (ps_if (PW.pt (pw_or (pt_cmpR op_lt (pe_callB call_len_str (by rfl) T.len PySem.boot_len (pa_cons (pv 0) pa_nil)) pe_int (nomark _)) (pw_or1 (pt_cmpR op_gt (pe_callB call_len_str (by rfl) T.len PySem.boot_len (pa_cons (pv 0) pa_nil)) pe_int (nomark _))))) (pss_one (ps_ret (pe_un un_neg pe_int))) pss_nil)
      (pss_cons (ps_for PassesOwn.never rfl (pi_str (pv 0)) (pg_name (i := 1) sc_l_count_of.nd rfl (Or.inl rfl))
      (pss_one (ps_if (pt_cmpR op_notIn_sign (pv 1) pe_str rfl) (pss_one (ps_ret (pe_un un_neg pe_int))) pss_nil)))
      (pss_cons (ps_if (PW.pt (pw_or (PW.pt (pw_and (pt_cmpR op_eq (pe_ix ix_str (pv 0) pe_int (fun _ _ => rfl)) pe_str (nomark _)) (pw_and1 (pt_cmpR op_ne (pv 0) pe_str (nomark _))))) (pw_or1 (pt_cmpR op_gt (pe_callTy (T := "int") call_int_str (by rfl) T.int (by decide +kernel) (pa_cons (pv 0) pa_nil)) pe_int (nomark _))))) (pss_one (ps_ret (pe_un un_neg pe_int))) pss_nil)
      (pss_one (ps_ret (pe_callTy (T := "int") call_int_str (by rfl) T.int (by decide +kernel) (pa_cons (pv 0) pa_nil))))))), ?_⟩
    have bad : ¬ (1 ≤ z.length ∧ z.length ≤ 10 ∧ (∀ c ∈ tl z, c ∈ FIG) ∧ ¬ ((tl z).head? = some 48 ∧ 1 < z.length) ∧ NumText.digitsVal (tl z) ≤ 1000000000) → Q (.int (-1)) H := fun q => by
      unfold lawCount at k
      rw [countS_no q] at k
      exact k
    refine ⟨_, rfl, _, rfl, hz, _, _, rfl, rfl, _, rfl, ?_⟩
    refine ite2 (fun h1 => ?_) (fun h1 => ?_)
    · refine iteT ?_
      have h1 := of_decide_eq_true h1
      exact ⟨_, rfl, bad fun q => by omega⟩
    · have h1 : ¬ ((z.length : Int) < 1) := fun q => h1 (decide_eq_true q)
      refine ⟨_, rfl, _, rfl, hz, _, _, rfl, rfl, _, rfl, ?_⟩
      refine ite2 (fun h2 => ?_) (fun h2 => ?_)
      · have h2 := of_decide_eq_true h2
        exact ⟨_, rfl, bad fun q => by omega⟩
      · have h2 : ¬ ((10 : Int) < (z.length : Int)) := fun q => h2 (decide_eq_true q)
        refine ⟨_, rfl, z, rfl, for_str (fun i σ H' => H' = H ∧ (∃ v, σ = [some (.str z), v]) ∧ ∀ c ∈ (tl z).take i, c ∈ FIG) ⟨rfl, ⟨none, rfl⟩, by simp⟩ ?_ ?_⟩
        · rintro i c σ H' hc ⟨rfl, ⟨v, rfl⟩, hp⟩
          refine ⟨_, rfl, c, _, rfl, rfl, _, rfl, ?_⟩
          by_cases hm : c ∈ FIG
          · rw [decide_eq_true (show c ∈ (("0123456789" : Str)).cps.toList from hm)]
            refine iteF ?_
            exact ⟨rfl, ⟨_, rfl⟩, take_mem hp hc hm⟩
          · rw [decide_eq_false (show ¬ c ∈ (("0123456789" : Str)).cps.toList from hm)]
            refine iteT ?_
            exact ⟨_, rfl, bad fun q => hm (q.2.2.1 c (List.mem_of_getElem? hc))⟩
        · rintro σ H' ⟨rfl, ⟨v, rfl⟩, hp⟩
          rw [List.take_length] at hp
          obtain ⟨c, r, e⟩ := head_of (z := z) (by omega)
          refine ⟨_, rfl, _, _, _, rfl, rfl, hz, at0 e, rfl, _, rfl, ?_⟩
          refine ite2 (fun h3 => ⟨_, rfl, rfl, _, rfl, ?n1⟩) (fun h3 => iteF ?g2)
          case n1 =>
            have h3' := sign_zero.mp (of_decide_eq_true h3)
            by_cases h4 : z.length = 1
            · rw [decide_eq_true ((str_zero e h3').mpr h4)]
              refine iteF ?_
              refine ⟨_, rfl, _, _, rfl, int_text (by omega) (by omega) hp, by omega, ?_⟩
              refine ⟨_, _, rfl, rfl, _, rfl, ?_⟩
              refine ite2 (fun h5 => ?_) (fun h5 => ?_)
              · have h5 := of_decide_eq_true h5
                exact ⟨_, rfl, bad fun q => by omega⟩
              · have h5 : ¬ ((1000000000 : Int) < ((NumText.digitsVal (tl z) : Nat) : Int)) := fun q => h5 (decide_eq_true q)
                refine ⟨_, rfl, _, _, rfl, int_text (by omega) (by omega) hp, by omega, ?_⟩
                unfold lawCount at k
                rw [countS_yes ⟨by omega, by omega, hp, fun q => by omega, by omega⟩] at k
                exact k
            · rw [decide_eq_false fun q => h4 ((str_zero e h3').mp q)]
              refine iteT ?_
              refine iteT ?_
              exact ⟨_, rfl, bad fun q => q.2.2.2.1 ⟨by rw [e, h3']; rfl, by omega⟩⟩
          case g2 =>
            have h3 : ¬ c = 48 := fun q => h3 (decide_eq_true (sign_zero.mpr q))
            refine ⟨_, rfl, _, _, rfl, int_text (by omega) (by omega) hp, by omega, ?_⟩
            refine ⟨_, _, rfl, rfl, _, rfl, ?_⟩
            refine ite2 (fun h5 => ?_) (fun h5 => ?_)
            · have h5 := of_decide_eq_true h5
              exact ⟨_, rfl, bad fun q => by omega⟩
            · have h5 : ¬ ((1000000000 : Int) < ((NumText.digitsVal (tl z) : Nat) : Int)) := fun q => h5 (decide_eq_true q)
              refine ⟨_, rfl, _, _, rfl, int_text (by omega) (by omega) hp, by omega, ?_⟩
              unfold lawCount at k
              rw [countS_yes ⟨by omega, by omega, hp, fun q => by rw [e] at q; exact h3 (Option.some.inj q.1), by omega⟩] at k
              exact k
/-- the signs of z that are none of L, as texts -/
def wrongs (l : List Nat) : List Str := (l.filter fun c => !decide (c ∈ LET)).map fun c => (⟨#[c]⟩ : Str)
theorem wrongs_nil {l : List Nat} : wrongs l = [] ↔ ∀ c ∈ l, c ∈ LET := by
  unfold wrongs
  rw [List.map_eq_nil_iff, List.filter_eq_nil_iff]
  constructor
  · intro h c hc
    have := h c hc
    simpa using this
  · intro h c hc
    have := h c hc
    simpa using this
theorem wrongs_snoc {l : List Nat} {c : Nat} : wrongs (l ++ [c]) = if c ∈ LET then wrongs l else wrongs l ++ [⟨#[c]⟩] := by
  unfold wrongs
  rw [List.filter_append, List.map_append]
  by_cases h : c ∈ LET
  · rw [if_pos h]
    simp [h]
  · rw [if_neg h]
    simp [h]
theorem wrongs_len (l : List Nat) : (wrongs l).length ≤ l.length := by
  unfold wrongs
  rw [List.length_map]
  exact List.length_filter_le _ _
def spLNamed : Sp := fun vs H Q _ => ∃ z : Str, vs = [.str z] ∧ z.length < sizeLine ∧ ∀ H', Same H H' → Q (.bl (goodName z)) H'
abbrev s_l_named : Stmt := topS 41
abbrev N_l_named : List Str := ["word", "wrong", "sign"]
theorem sc_l_named : FnScope ["word", "wrong", "sign"] ["word"] (defScope s_l_named) := ⟨rfl, rfl, rfl, by decide +kernel, rfl, by decide +kernel, by decide +kernel⟩
theorem ok_l_named {f : Addr} {fd : FuncData} (T : Txt K mg) (L_l_named : Lk K mg "_law_named" s_l_named f fd ["word"]) : FnOk P w K mg base CX0 1 f fd ["word"] spLNamed := by
  refine L_l_named.fn.ok sc_l_named (fun vs H Q E h => ?_) (fun cdv A outer s H vs Q E hr h => ?_)
  · obtain ⟨z, rfl, _⟩ := h
    rfl
  · obtain ⟨z, rfl, hz, k⟩ := h
    refine ⟨_, (pss_cons (ps_setLc (i := 1) (own := [(("sign" : Str), 2)]) (g := gName 2) rfl sc_l_named.nd rfl rfl (sw_true rfl rfl rfl (by decide +kernel)) (pi_str (pv 0)) (blkOk_by (N := N_l_named) (sc := defScope s_l_named) (by decide +kernel)) (fun _ _ _ _ _ => pg_name (i := 2) sc_l_named.nd rfl (Or.inl rfl)) (fun _ _ _ _ _ => pts_one (pt_cmpR op_notIn_sign (pv 2) pe_str rfl)) (fun _ _ _ _ _ => (pv 2)))
      (pss_one (ps_ret (pe_and (pe_cmpR (op_eqS hr.units) (pv 1) (pe_lst pa_nil) (nomark _)) (pe_and (pe_cmpR op_le pe_int (pe_callB call_len_str (by rfl) T.len PySem.boot_len (pa_cons (pv 0) pa_nil)) (nomark _)) (pe_one (pe_cmpR op_le (pe_callB call_len_str (by rfl) T.len PySem.boot_len (pa_cons (pv 0) pa_nil)) pe_int (nomark _)))))))), ?_⟩
    refine ⟨_, rfl, z, rfl, fun D hD => ?_⟩
    have el : (tl z).length = z.cps.size := by simp [tl]
    refine lc_it walk_str (fun i H' => H' = upd H D (.lst ((wrongs ((tl z).take i)).map V.str))) rfl (fun _ _ _ _ => trivial) ?_ ?_
    · rintro i x H1 H2 hi rfl ⟨rfl, c, hc, rfl⟩
      have hc' : (tl z)[i]? = some c := by simpa [tl] using hc
      refine ⟨rfl, _, rfl, c, _, rfl, rfl, _, rfl, ?_⟩
      by_cases hm : c ∈ LET
      · rw [decide_eq_true (show c ∈ (("abcdefghijklmnopqrstuvwxyz" : Str)).cps.toList from hm)]
        refine iteF ?_
        rw [take_more hc', wrongs_snoc, if_pos hm]
      · rw [decide_eq_false (show ¬ c ∈ (("abcdefghijklmnopqrstuvwxyz" : Str)).cps.toList from hm)]
        refine iteT ?_
        refine ⟨_, rfl, _, upd_same, ?_, ?_⟩
        · rw [List.length_map]
          have h1 := wrongs_len ((tl z).take i)
          rw [List.length_take] at h1
          rw [len_tl] at hz
          omega
        · rw [take_more hc', wrongs_snoc, if_neg hm, upd_upd, List.map_append]
          rfl
    · rintro H1 rfl
      rw [← el, List.take_length]
      -- wrong == []
      refine ⟨_, rfl, Nat.zero_le _, fun p np => ?_⟩
      have npD : D ≠ p := ne_of_none upd_same np
      have sm : Same H (upd (upd H D (.lst ((wrongs (tl z)).map V.str))) p (.lst [])) := (same_upd hD).trans (same_upd np)
      refine ⟨D, p, wrongs (tl z), [], rfl, rfl, SqL.of (by rw [upd_ne npD, upd_same]), SqL.of upd_same, _, rfl, ?_⟩
      have hz' : z.length ≤ sizeLine := by omega
      refine ite2 (fun h1 => ?_) (fun h1 => ?_)
      · have h1 := wrongs_nil.mp (of_decide_eq_true h1)
        refine ⟨_, rfl, _, rfl, hz', _, _, rfl, rfl, _, rfl, ?_⟩
        refine ite2 (fun h2 => ?_) (fun h2 => ?_)
        · have h2 := of_decide_eq_true h2
          refine ⟨_, rfl, _, rfl, hz', _, _, rfl, rfl, ?_⟩
          have q := k _ sm
          have e : goodName z = decide ((z.length : Int) ≤ 8) := by
            unfold goodName
            by_cases h3 : z.length ≤ 8
            · rw [decide_eq_true (show (z.length : Int) ≤ 8 by omega)]
              exact decide_eq_true ⟨by omega, h3, h1⟩
            · rw [decide_eq_false (show ¬ (z.length : Int) ≤ 8 by omega)]
              exact decide_eq_false fun q => h3 q.2.1
          rw [e] at q
          exact q
        · have h2 : ¬ ((1 : Int) ≤ (z.length : Int)) := fun q => h2 (decide_eq_true q)
          have q := k _ sm
          rw [show goodName z = false from decide_eq_false fun q => by omega] at q
          exact q
      · have h1 : ¬ (∀ c ∈ tl z, c ∈ LET) := fun q => h1 (decide_eq_true (wrongs_nil.mpr q))
        have q := k _ sm
        rw [show goodName z = false from decide_eq_false fun q => h1 q.2.2] at q
        exact q
end
end BH

set_option Elab.async false
set_option linter.all false
set_option maxRecDepth 100000
set_option maxHeartbeats 4000000
namespace BH
open PySem TL L2 PyProof.Rows
section
variable {P : Program} {w : World} {K : PySem.W.Frag} {mg : Str → Option Value} {base : Heap}
/-! ### Net and Draft are made -/
def spLBag (K : PySem.W.Frag) : Sp := fun vs H Q _ => ∃ (a : Addr) (xs : List Int) (n : Int), vs = [.ref a, .int n] ∧ SqL K H a (xs.map V.int) ∧ (xs.length : Int) = n ∧ (∀ c ∈ xs, 0 ≤ c ∧ c ≤ 1000000000) ∧ Q .non H
abbrev s_look_at_bag : Stmt := topS 12
abbrev N_look_at_bag : List Str := ["beads", "width", "count"]
theorem sc_look_at_bag : FnScope ["beads", "width", "count"] ["beads", "width"] (defScope s_look_at_bag) := ⟨rfl, rfl, rfl, by decide +kernel, rfl, by decide +kernel, by decide +kernel⟩
theorem ok_look_at_bag {f : Addr} {fd : FuncData} (T : Txt K mg) (L_look_at_bag : Lk K mg "look_at_bag" s_look_at_bag f fd ["beads", "width"]) : FnOk P w K mg base CX0 1 f fd ["beads", "width"] (spLBag K) := by
  obtain ⟨_, cMC⟩ := T.mc
  refine L_look_at_bag.fn.ok sc_look_at_bag (fun vs H Q E h => ?_) (fun cdv A outer s H vs Q E hr h => ?_)
  · obtain ⟨a, xs, n, rfl, _⟩ := h
    rfl
  · obtain ⟨a, xs, n, rfl, hS, hl, hx, k⟩ := h
    refine ⟨_, (pss_cons (ps_if (pt_cmpR op_ne (pe_callB call_len_seq (by rfl) T.len PySem.boot_len (pa_cons (pv 0) pa_nil)) (pv 1) (nomark _)) (pss_one ps_never) pss_nil)
      (pss_one (ps_for PassesOwn.never rfl (pi_list (pv 0)) (pg_name (i := 2) sc_look_at_bag.nd rfl (Or.inl rfl))
      (pss_one (ps_if (PW.pt (pw_or (pt_cmpR op_lt (pv 2) pe_int (nomark _)) (pw_or1 (pt_cmpR op_gt (pv 2) (pe_glob (v := .int 1000000000) rfl cMC ⟨_, rfl⟩) (nomark _))))) (pss_one ps_never) pss_nil))))), ?_⟩
    refine ⟨_, rfl, a, _, rfl, .inl hS, _, rfl, rfl, _, rfl, ?_⟩
    refine iteNS (by rw [List.length_map, hl]) ?_
    refine ⟨_, rfl, a, rfl, ⟨_, hS⟩, for_list (K := K) (a := a) (xs := xs.map V.int) (fun i σ H' => H' = H ∧ ∃ v, σ = [some (.ref a), some (.int n), v]) ⟨rfl, none, rfl⟩ (fun i σ H' _ ⟨e, _⟩ => by rw [e]; exact hS) ?_ ?_⟩
    · rintro i y σ H' hi ⟨rfl, v, rfl⟩
      obtain ⟨z, hz, rfl⟩ := ints_get hi
      have hc := hx z (List.mem_of_getElem? hz)
      refine ⟨_, rfl, _, _, rfl, rfl, _, rfl, ?_⟩
      rw [decide_eq_false (show ¬ z < 0 by omega)]
      refine iteF ?_
      refine ⟨_, rfl, _, _, rfl, rfl, _, rfl, ?_⟩
      rw [decide_eq_false (show ¬ (1000000000 : Int) < z by omega)]
      refine iteF ?_
      exact ⟨rfl, _, rfl⟩
    · rintro σ H' ⟨rfl, v, rfl⟩
      exact k
def spLBags (K : PySem.W.Frag) : Sp := fun vs H Q _ => ∃ (a : Addr) (ts : List Addr) (T : List (List Int)) (n m : Int), vs = [.ref a, .int n, .int m] ∧ SqL K H a (ts.map V.ref) ∧ CellsAt cellI H ts T ∧ (T.length : Int) = n ∧ (∀ t ∈ T, (t.length : Int) = m ∧ ∀ c ∈ t, 0 ≤ c ∧ c ≤ 1000000000) ∧ Q .non H
abbrev s_look_at_bags : Stmt := topS 13
abbrev N_look_at_bags : List Str := ["bags", "many", "width", "beads"]
theorem sc_look_at_bags : FnScope ["bags", "many", "width", "beads"] ["bags", "many", "width"] (defScope s_look_at_bags) := ⟨rfl, rfl, rfl, by decide +kernel, rfl, by decide +kernel, by decide +kernel⟩
theorem ok_look_at_bags {f f1 : Addr} {fd fd1 : FuncData} (T : Txt K mg) (L_look_at_bag : Lk K mg "look_at_bag" s_look_at_bag f1 fd1 ["beads", "width"]) (L_look_at_bags : Lk K mg "look_at_bags" s_look_at_bags f fd ["bags", "many", "width"]) :
    FnOk P w K mg base CX0 2 f fd ["bags", "many", "width"] (spLBags K) := by
  have G_look_at_bag : FnOk P w K mg base CX0 1 f1 fd1 ["beads", "width"] (spLBag K) := ok_look_at_bag T L_look_at_bag
  refine L_look_at_bags.fn.ok sc_look_at_bags (fun vs H Q E h => ?_) (fun cdv A outer s H vs Q E hr h => ?_)
  · obtain ⟨a, ts, T, n, m, rfl, _⟩ := h
    rfl
  · obtain ⟨a, ts, T', n, m, rfl, hS, hc, hl, hx, k⟩ := h
    refine ⟨_, (pss_cons (ps_if (pt_cmpR op_ne (pe_callB call_len_seq (by rfl) T.len PySem.boot_len (pa_cons (pv 0) pa_nil)) (pv 1) (nomark _)) (pss_one ps_never) pss_nil)
      (pss_one (ps_for PassesOwn.never rfl (pi_list (pv 0)) (pg_name (i := 3) sc_look_at_bags.nd rfl (Or.inl rfl))
      (pss_one (ps_expr (pe_call G_look_at_bag (hr.mono (by decide)) (by rfl) L_look_at_bag.g L_look_at_bag.fn.kp L_look_at_bag.b .nil pass0 (pa_cons (pv 3) (pa_cons (pv 2) pa_nil)))))))), ?_⟩
    refine ⟨_, rfl, a, _, rfl, .inl hS, _, rfl, rfl, _, rfl, ?_⟩
    refine iteNS (by rw [List.length_map, hc.1, hl]) ?_
    refine ⟨_, rfl, a, rfl, ⟨_, hS⟩, for_list (K := K) (a := a) (xs := ts.map V.ref) (fun i σ H' => H' = H ∧ ∃ v, σ = [some (.ref a), some (.int n), some (.int m), v]) ⟨rfl, none, rfl⟩ (fun i σ H' _ ⟨e, _⟩ => by rw [e]; exact hS) ?_ ?_⟩
    · rintro i y σ H' hi ⟨rfl, v, rfl⟩
      obtain ⟨t, ht, rfl⟩ := refs_get hi
      have hlt : i < T'.length := by
        rw [← hc.1]
        exact (List.getElem?_eq_some_iff.mp ht).1
      have hg := List.getElem?_eq_getElem hlt
      have hm := hx _ (List.mem_of_getElem? hg)
      exact ⟨_, rfl, _, rfl, t, T'[i], m, rfl, SqL.of (hc.2 i t _ ht hg), hm.1, hm.2, rfl, _, rfl⟩
    · rintro σ H' ⟨rfl, v, rfl⟩
      exact k
def spLNames (K : PySem.W.Frag) : Sp := fun vs H Q _ => ∃ (a : Addr) (xs : List Str) (lo hi : Int), vs = [.ref a, .int lo, .int hi] ∧ SqL K H a (xs.map V.str) ∧ lo ≤ (xs.length : Int) ∧ (xs.length : Int) ≤ hi ∧ xs.length ≤ 1000 ∧ (∀ n ∈ xs, goodName n = true) ∧ xs.Nodup ∧ ∀ H', Same H H' → Q .non H'
abbrev s_look_at_names : Stmt := topS 11
abbrev N_look_at_names : List Str := ["names", "fewest", "most", "seen", "name"]
theorem sc_look_at_names : FnScope ["names", "fewest", "most", "seen", "name"] ["names", "fewest", "most"] (defScope s_look_at_names) := ⟨rfl, rfl, rfl, by decide +kernel, rfl, by decide +kernel, by decide +kernel⟩
theorem ok_look_at_names {f f1 : Addr} {fd fd1 : FuncData} (T : Txt K mg) (L_good_name : Lk K mg "good_name" s_good_name f1 fd1 ["name"]) (L_look_at_names : Lk K mg "look_at_names" s_look_at_names f fd ["names", "fewest", "most"]) :
    FnOk P w K mg base CX0 2 f fd ["names", "fewest", "most"] (spLNames K) := by
  have G_good_name : FnOk P w K mg base CX0 1 f1 fd1 ["name"] spGood := ok_good_name T L_good_name
  refine L_look_at_names.fn.ok sc_look_at_names (fun vs H Q E h => ?_) (fun cdv A outer s H vs Q E hr h => ?_)
  · obtain ⟨a, xs, lo, hi, rfl, _⟩ := h
    rfl
  · obtain ⟨a, xs, lo, hi, rfl, hS, h1, h2, hlen, hg, hn, k⟩ := h
    refine ⟨_, (pss_cons (ps_if (PW.pt (pw_or (pt_cmpR op_lt (pe_callB call_len_seq (by rfl) T.len PySem.boot_len (pa_cons (pv 0) pa_nil)) (pv 1) (nomark _)) (pw_or1 (pt_cmpR op_gt (pe_callB call_len_seq (by rfl) T.len PySem.boot_len (pa_cons (pv 0) pa_nil)) (pv 2) (nomark _))))) (pss_one ps_never) pss_nil)
      (pss_cons (ps_set (i := 3) sc_look_at_names.nd rfl (Or.inl rfl) (pe_lst pa_nil))
      (pss_one (ps_for PassesOwn.never rfl (pi_list (pv 0)) (pg_name (i := 4) sc_look_at_names.nd rfl (Or.inl rfl))
      (pss_cons (ps_if (pt_not (pt_val (pe_call G_good_name (hr.mono (by decide)) (by rfl) L_good_name.g L_good_name.fn.kp L_good_name.b .nil pass0 (pa_cons (pv 4) pa_nil)))) (pss_one ps_never) pss_nil)
      (pss_cons (ps_if (pt_cmpR op_inS (pv 4) (pv 3) (by rfl)) (pss_one ps_never) pss_nil)
      (pss_one (ps_expr (pe_bm PySem.F.plainAttrs_list PySem.F.slot_list_append PySem.F.type_list_append mt_append (pv 3) (pa_cons (pv 4) pa_nil)))))))))), ?_⟩
    refine ⟨_, rfl, a, _, rfl, .inl hS, _, rfl, _, _, rfl, rfl, _, rfl, ?_⟩
    rw [List.length_map, decide_eq_false (show ¬ (xs.length : Int) < lo by omega)]
    refine iteF ?_
    refine ⟨_, rfl, a, _, rfl, .inl hS, _, rfl, _, _, rfl, rfl, _, rfl, ?_⟩
    rw [List.length_map, decide_eq_false (show ¬ hi < (xs.length : Int) by omega)]
    refine iteF ?_
    refine ⟨Nat.zero_le _, fun p np => ?_⟩
    have nap : SqL K H a (xs.map V.str) := hS
    refine ⟨_, rfl, a, rfl, ⟨_, (same_upd np).seq hS⟩, for_list (K := K) (a := a) (xs := xs.map V.str) (fun i σ H' => H' = upd H p (.lst ((xs.take i).map V.str)) ∧ ∃ v, σ = [some (.ref a), some (.int lo), some (.int hi), some (.ref p), v])
      ⟨rfl, none, rfl⟩ (fun i σ H' _ ⟨e, _⟩ => by rw [e]; exact (same_upd np).seq hS) ?_ ?_⟩
    · rintro i y σ H' hi ⟨rfl, v, rfl⟩
      obtain ⟨z, hz, rfl⟩ := strs_get hi
      have hm := List.mem_of_getElem? hz
      have gz := hg z hm
      have lz := goodName_of gz
      refine ⟨_, rfl, z, rfl, small_of (by omega), _, rfl, ?_⟩
      rw [gz]
      refine iteF ?_
      have hnot : ¬ z ∈ xs.take i := fun q => by
        have e := (List.getElem?_eq_some_iff.mp hz)
        have eB : xs = xs.take i ++ (z :: xs.drop (i + 1)) := by
          rw [← e.2, ← List.drop_eq_getElem_cons e.1, List.take_append_drop]
        rw [eB] at hn
        exact (List.nodup_append.mp hn).2.2 z q z (List.mem_cons_self ..) rfl
      refine ⟨_, rfl, _, rfl, z, p, xs.take i, rfl, rfl, SqL.of upd_same, _, rfl, ?_⟩
      rw [decide_eq_false hnot]
      refine iteF ?_
      refine ⟨_, rfl, .inl ⟨rfl, _, SqL.of upd_same⟩, _, rfl, p, _, _, rfl, rfl, upd_same, ?_, ?_⟩
      · rw [List.length_map, List.length_take]
        exact small1000 (by omega)
      · refine ⟨?_, _, rfl⟩
        rw [upd_upd, take_more hz, List.map_append]
        rfl
    · rintro σ H' ⟨rfl, v, rfl⟩
      exact k _ (same_upd np)
end
end BH

set_option Elab.async false
set_option linter.all false
set_option maxRecDepth 100000
set_option maxHeartbeats 4000000
namespace BH
open PySem TL L2 PyProof.Rows
/-- p's object while its fields are stored: what stood stands, and the cells made so far -/
structure Mid (H Hk : Hp) (p : Addr) (o : HO) (cs : List (Addr × HO)) : Prop where
  hp : Hk p = some o
  keep : ∀ b u, H b = some u → b ≠ p → Hk b = some u
  cells : ∀ c ∈ cs, c.1 ≠ p ∧ Hk c.1 = some c.2
section
variable {H Hk Hk' : Hp} {p l : Addr} {o o' u : HO} {cs : List (Addr × HO)}
theorem Mid.start (h : H p = some o) : Mid H H p o [] := ⟨h, fun _ _ e _ => e, fun c hc => by simp at hc⟩
theorem Mid.same (M : Mid H Hk p o cs) (s : Same Hk Hk') : Mid H Hk' p o cs := ⟨s _ _ M.hp, fun b u e hb => s _ _ (M.keep b u e hb), fun c hc => ⟨(M.cells c hc).1, s _ _ (M.cells c hc).2⟩⟩
theorem Mid.new (M : Mid H Hk p o cs) (hl : Hk l = none) : Mid H (upd Hk l u) p o ((l, u) :: cs) := by
  have q := M.same (same_upd (o := u) hl)
  refine ⟨q.hp, q.keep, fun c hc => ?_⟩
  rcases List.mem_cons.mp hc with e | e
  · rw [e]
    exact ⟨(ne_of_none M.hp hl).symm, upd_same⟩
  · exact q.cells c e
theorem Mid.fld (M : Mid H Hk p o cs) : Mid H (upd Hk p o') p o' cs := ⟨upd_same, fun b u e hb => by rw [upd_ne hb]; exact M.keep b u e hb, fun c hc => ⟨(M.cells c hc).1, by rw [upd_ne (M.cells c hc).1]; exact (M.cells c hc).2⟩⟩
theorem Mid.at (M : Mid H Hk p o cs) {c : Addr × HO} (hc : c ∈ cs) : Hk c.1 = some c.2 := (M.cells c hc).2
end
theorem nf1_len (a : Addr) : (nf1 a).length ≤ 1 := putF_len _ _ []
theorem nf2_len (a b : Addr) : (nf2 a b).length ≤ 2 := Nat.le_trans (putF_len _ _ _) (Nat.succ_le_succ (nf1_len a))
theorem nf3_len (a b c : Addr) : (nf3 a b c).length ≤ 3 := Nat.le_trans (putF_len _ _ _) (Nat.succ_le_succ (nf2_len a b))
theorem nf4_len (a b c d : Addr) : (nf4 a b c d).length ≤ 4 := Nat.le_trans (putF_len _ _ _) (Nat.succ_le_succ (nf3_len a b c))
/-- values that a Net takes -/
structure NetOk (bowls doors : List Str) (T G : List (List Int)) (first : List Int) : Prop where
  b1 : 1 ≤ bowls.length
  b6 : bowls.length ≤ 6
  bg : ∀ n ∈ bowls, goodName n = true
  bn : bowls.Nodup
  d8 : doors.length ≤ 8
  dg : ∀ n ∈ doors, goodName n = true
  dn : doors.Nodup
  tl : T.length = doors.length
  gl : G.length = doors.length
  tr : ∀ t ∈ T, t.length = bowls.length ∧ ∀ c ∈ t, 0 ≤ c ∧ c ≤ 1000000000
  gr : ∀ t ∈ G, t.length = bowls.length ∧ ∀ c ∈ t, 0 ≤ c ∧ c ≤ 1000000000
  fl : first.length = bowls.length
  fr : ∀ c ∈ first, 0 ≤ c ∧ c ≤ 1000000000
section
variable {P : Program} {w : World} {K : PySem.W.Frag} {mg : Str → Option Value} {base : Heap}
def spDraft (C : Addr) : Sp := fun vs H Q _ => ∃ (p dx : Addr), vs = [.ref p] ∧ H p = some (.ins C dx []) ∧
  ∀ (lb ld lt lg lf : Addr) (H' : Hp), (p :: lb :: ld :: lt :: lg :: lf :: ([] : List Addr)).Nodup → (∀ l ∈ [lb, ld, lt, lg, lf], H l = none ∧ H' l = some (.lst [])) → H' p = some (.ins C dx (netF lb ld lt lg lf)) → (∀ b u, H b = some u → b ≠ p → H' b = some u) → Q .non H'
abbrev s_Draft : Stmt := inClass (topS 18) 0
abbrev N_Draft : List Str := ["self"]
theorem sc_Draft : FnScope ["self"] ["self"] (defScope s_Draft) := ⟨rfl, rfl, rfl, by decide +kernel, rfl, by decide +kernel, by decide +kernel⟩
theorem ok_Draft {f C : Addr} {fd : FuncData} (F : Fun K "__init__" "Draft.__init__" s_Draft f fd) (T : CTxt K C) : FnOk P w K mg base CX0 1 f fd ["self"] (spDraft C) := by
  refine F.ok sc_Draft (fun vs H Q E h => ?_) (fun cdv A outer s H vs Q E hr h => ?_)
  · obtain ⟨p, dx, rfl, _⟩ := h
    rfl
  · obtain ⟨p, dx, rfl, hp, k⟩ := h
    refine ⟨_, (pss_cons (ps_fld (pv 0) (pe_lst pa_nil) rfl)
      (pss_cons (ps_fld (pv 0) (pe_lst pa_nil) rfl)
      (pss_cons (ps_fld (pv 0) (pe_lst pa_nil) rfl)
      (pss_cons (ps_fld (pv 0) (pe_lst pa_nil) rfl)
      (pss_one (ps_fld (pv 0) (pe_lst pa_nil) rfl)))))), ?_⟩
    refine ⟨Nat.zero_le _, fun lb n1 => ?_⟩
    have M1 := (Mid.start hp).new (u := .lst []) n1
    refine ⟨_, rfl, p, C, dx, [], rfl, M1.hp, T.cl, T.nb, (by show 0 < 1000; decide), ?_⟩
    have M1 := M1.fld (o' := .ins C dx (nf1 lb))
    refine ⟨Nat.zero_le _, fun ld n2 => ?_⟩
    have M2 := M1.new (u := .lst []) n2
    refine ⟨_, rfl, p, C, dx, nf1 lb, rfl, M2.hp, T.cl, T.nd, Nat.lt_of_le_of_lt (nf1_len _) (by decide), ?_⟩
    have M2 := M2.fld (o' := .ins C dx (nf2 lb ld))
    refine ⟨Nat.zero_le _, fun lt n3 => ?_⟩
    have M3 := M2.new (u := .lst []) n3
    refine ⟨_, rfl, p, C, dx, nf2 lb ld, rfl, M3.hp, T.cl, T.nt, Nat.lt_of_le_of_lt (nf2_len _ _) (by decide), ?_⟩
    have M3 := M3.fld (o' := .ins C dx (nf3 lb ld lt))
    refine ⟨Nat.zero_le _, fun lg n4 => ?_⟩
    have M4 := M3.new (u := .lst []) n4
    refine ⟨_, rfl, p, C, dx, nf3 lb ld lt, rfl, M4.hp, T.cl, T.ng, Nat.lt_of_le_of_lt (nf3_len _ _ _) (by decide), ?_⟩
    have M4 := M4.fld (o' := .ins C dx (nf4 lb ld lt lg))
    refine ⟨Nat.zero_le _, fun lf n5 => ?_⟩
    have M5 := M4.new (u := .lst []) n5
    refine ⟨_, rfl, p, C, dx, nf4 lb ld lt lg, rfl, M5.hp, T.cl, T.nf, Nat.lt_of_le_of_lt (nf4_len _ _ _ _) (by decide), ?_⟩
    have M5' := M5.fld (o' := .ins C dx (netF lb ld lt lg lf))
    have old : ∀ {Hk : Hp} {cs : List (Addr × HO)} {o : HO} {l : Addr}, Mid H Hk p o cs → Hk l = none → H l = none := fun {Hk cs o l} M e => by
      cases q : H l with
      | none => rfl
      | some u =>
        by_cases hl : l = p
        · rw [hl, M.hp] at e
          cases e
        · rw [M.keep l u q hl] at e
          cases e
    have c2 : ld ≠ lb := (ne_of_none (M1.at (c := (lb, .lst [])) (by simp)) n2).symm
    have c3b : lt ≠ lb := (ne_of_none (M2.at (c := (lb, .lst [])) (by simp)) n3).symm
    have c3d : lt ≠ ld := (ne_of_none (M2.at (c := (ld, .lst [])) (by simp)) n3).symm
    have c4b : lg ≠ lb := (ne_of_none (M3.at (c := (lb, .lst [])) (by simp)) n4).symm
    have c4d : lg ≠ ld := (ne_of_none (M3.at (c := (ld, .lst [])) (by simp)) n4).symm
    have c4t : lg ≠ lt := (ne_of_none (M3.at (c := (lt, .lst [])) (by simp)) n4).symm
    have c5b : lf ≠ lb := (ne_of_none (M4.at (c := (lb, .lst [])) (by simp)) n5).symm
    have c5d : lf ≠ ld := (ne_of_none (M4.at (c := (ld, .lst [])) (by simp)) n5).symm
    have c5t : lf ≠ lt := (ne_of_none (M4.at (c := (lt, .lst [])) (by simp)) n5).symm
    have c5g : lf ≠ lg := (ne_of_none (M4.at (c := (lg, .lst [])) (by simp)) n5).symm
    have np : ∀ l ∈ [lb, ld, lt, lg, lf], p ≠ l := fun l hl => by
      have hl' : l = lb ∨ l = ld ∨ l = lt ∨ l = lg ∨ l = lf := by simpa using hl
      rcases hl' with e | e | e | e | e <;> subst e
      · exact ((M5'.cells (_, .lst []) (by simp)).1).symm
      · exact ((M5'.cells (_, .lst []) (by simp)).1).symm
      · exact ((M5'.cells (_, .lst []) (by simp)).1).symm
      · exact ((M5'.cells (_, .lst []) (by simp)).1).symm
      · exact ((M5'.cells (_, .lst []) (by simp)).1).symm
    refine k lb ld lt lg lf _ ?_ (fun l hl => ?_) M5'.hp M5'.keep
    · simp only [List.nodup_cons, List.mem_cons, List.not_mem_nil, or_false, not_or, List.nodup_nil, and_true, not_false_eq_true]
      exact ⟨⟨np lb (by simp), np ld (by simp), np lt (by simp), np lg (by simp), np lf (by simp)⟩, ⟨c2.symm, c3b.symm, c4b.symm, c5b.symm⟩, ⟨c3d.symm, c4d.symm, c5d.symm⟩, ⟨c4t.symm, c5t.symm⟩, c5g.symm⟩
    · have hl' : l = lb ∨ l = ld ∨ l = lt ∨ l = lg ∨ l = lf := by simpa using hl
      rcases hl' with e | e | e | e | e <;> subst e
      · exact ⟨n1, M5'.at (c := (_, .lst [])) (by simp)⟩
      · exact ⟨old M1 n2, M5'.at (c := (_, .lst [])) (by simp)⟩
      · exact ⟨old M2 n3, M5'.at (c := (_, .lst [])) (by simp)⟩
      · exact ⟨old M3 n4, M5'.at (c := (_, .lst [])) (by simp)⟩
      · exact ⟨old M4 n5, M5'.at (c := (_, .lst [])) (by simp)⟩
def spNet (C : Addr) : Sp := fun vs H Q _ => ∃ (p dx ab ad at_ ag af : Addr) (ts gs : List Addr) (bowls doors : List Str) (T G : List (List Int)) (first : List Int), vs = [.ref p, .ref ab, .ref ad, .ref at_, .ref ag, .ref af] ∧ H p = some (.ins C dx []) ∧
  H ab = some (.lst (bowls.map V.str)) ∧ H ad = some (.lst (doors.map V.str)) ∧ H at_ = some (.lst (ts.map V.ref)) ∧ H ag = some (.lst (gs.map V.ref)) ∧ H af = some (.lst (first.map V.int)) ∧ CellsAt cellI H ts T ∧ CellsAt cellI H gs G ∧
  NetOk bowls doors T G first ∧ ∀ H', NetAt C H' p bowls doors T G first → (∀ b u, H b = some u → b ≠ p → H' b = some u) → Q .non H'
/-- the copied bags: us, none of them p -/
structure Bags (Hk : Hp) (p : Addr) (us : List Addr) (T : List (List Int)) : Prop where
  c : CellsAt cellI Hk us T
  np : ∀ u ∈ us, u ≠ p
theorem Bags.new {Hk : Hp} {p l : Addr} {us : List Addr} {T : List (List Int)} {o : HO} (B : Bags Hk p us T) (hl : Hk l = none) : Bags (upd Hk l o) p us T := ⟨B.c.same (same_upd hl), B.np⟩
theorem Bags.fld {Hk : Hp} {p : Addr} {us : List Addr} {T : List (List Int)} {o : HO} (B : Bags Hk p us T) : Bags (upd Hk p o) p us T := ⟨B.c.mono fun t ht u e => by rw [upd_ne (B.np t ht)]; exact e, B.np⟩
theorem Mid.add {H Hk : Hp} {p l : Addr} {o u : HO} {cs : List (Addr × HO)} (M : Mid H Hk p o cs) (h : Hk l = some u) (hl : l ≠ p) : Mid H Hk p o ((l, u) :: cs) := ⟨M.hp, M.keep, fun c hc => by
  rcases List.mem_cons.mp hc with e | e
  · rw [e]
    exact ⟨hl, h⟩
  · exact M.cells c e⟩
theorem tyes {σ : L2.St} {H : Hp} {Q : Bool → Hp → Prop} (h : Q true H) : tYes σ H Q := h
/-- [list(beads) for beads in bags] -/
theorem copy_lc {σ : L2.St} {H : Hp} {Q : VK} {i j : Nat} {a : Addr} {ts : List Addr} {T : List (List Int)} (hi : σ[i]? = some (some (.ref a))) (hj : j < σ.length) (hS : H a = some (.lst (ts.map V.ref))) (ct : CellsAt cellI H ts T) (hl : ts.length ≤ 1000)
    (k : ∀ (D : Addr) (us : List Addr) (H' : Hp), Same H H' → H D = none → H' D = some (.lst (us.map V.ref)) → CellsAt cellI H' us T → (∀ u ∈ us, H u = none) → Q (.ref D) H') :
    tLc (iList K (tVar i)) (gName j) tYes (tCB (rListOf K) (tCons (tVar j) tNil)) [j] σ H Q := by
  refine ⟨.ref a, hi, a, rfl, ⟨_, SqL.of hS⟩, fun D hD => ?_⟩
  refine lc_list (xs := ts.map V.ref) (fun n H' => ∃ us, Same H H' ∧ H' D = some (.lst (us.map V.ref)) ∧ CellsAt cellI H' us (T.take n) ∧ us.length ≤ n ∧ ∀ u ∈ us, H u = none ∧ u ≠ D) ⟨[], same_upd hD, upd_same, CellsAt.nil, Nat.le_refl _, fun u h => by simp at h⟩ (fun n H' _ ⟨_, s, _⟩ => SqL.of (s _ _ hS)) ?_ ?_
  · rintro n x H' hx ⟨us, s, eD, cu, hn, fu⟩
    obtain ⟨t, ht, rfl⟩ := refs_get hx
    have hlt : n < T.length := by
      rw [← ct.1]
      exact (List.getElem?_eq_some_iff.mp ht).1
    have hg := List.getElem?_eq_getElem hlt
    have hct := s _ _ (ct.2 n t _ ht hg)
    refine ⟨by simp [wipe, List.set_set], tyes ?_⟩
    refine iteT ?_
    refine ⟨.ref t, by rw [List.getElem?_set_self (by simpa [wipe] using hj)], t, _, rfl, .inl (SqL.of hct), fun l nl => ?_⟩
    have nDl : D ≠ l := ne_of_none eD nl
    have e1 : upd H' l (.lst (T[n].map V.int)) D = some (.lst (us.map V.ref)) := by rw [upd_ne nDl]; exact eD
    refine ⟨us.map V.ref, e1, ?_, us ++ [l], ?_, ?_, ?_, ?_, ?_⟩
    · rw [List.length_map]
      have := (List.getElem?_eq_some_iff.mp ht).1
      exact small1000 (by omega)
    · exact same_put (s.trans (same_upd nl)) hD
    · rw [upd_same, List.map_append]
      rfl
    · rw [take_more hg]
      refine (cu.mono fun u hu o e => ?_).snoc ?_
      · rw [upd_ne (fu u hu).2, upd_ne (ne_of_none e nl)]
        exact e
      · rw [upd_ne (Ne.symm nDl), upd_same]
        rfl
    · rw [List.length_append, List.length_singleton]
      omega
    · refine mem_snoc fu ⟨s.free nl, Ne.symm nDl⟩
  · rintro H' ⟨us, s, eD, cu, _, fu⟩
    rw [List.length_map, ct.1, List.take_length] at cu
    exact k D us H' s hD eD cu fun u hu => (fu u hu).1
abbrev s_Net : Stmt := inClass (topS 14) 0
abbrev N_Net : List Str := ["self", "bowls", "doors", "takes", "gives", "first", "beads"]
theorem sc_Net : FnScope ["self", "bowls", "doors", "takes", "gives", "first", "beads"] ["self", "bowls", "doors", "takes", "gives", "first"] (defScope s_Net) := ⟨rfl, rfl, rfl, by decide +kernel, rfl, by decide +kernel, by decide +kernel⟩
theorem ok_Net {f C f1 f2 f3 f4 : Addr} {fd fd1 fd2 fd3 fd4 : FuncData} (F : Fun K "__init__" "Net.__init__" s_Net f fd) (T : Txt K mg) (TC : CTxt K C) (L_good_name : Lk K mg "good_name" s_good_name f1 fd1 ["name"])
    (L_look_at_names : Lk K mg "look_at_names" s_look_at_names f2 fd2 ["names", "fewest", "most"]) (L_look_at_bag : Lk K mg "look_at_bag" s_look_at_bag f3 fd3 ["beads", "width"]) (L_look_at_bags : Lk K mg "look_at_bags" s_look_at_bags f4 fd4 ["bags", "many", "width"]) :
    FnOk P w K mg base CX0 3 f fd ["self", "bowls", "doors", "takes", "gives", "first"] (spNet C) := by
  have G_look_at_names : FnOk P w K mg base CX0 2 f2 fd2 ["names", "fewest", "most"] (spLNames K) := ok_look_at_names T L_good_name L_look_at_names
  have G_look_at_bag : FnOk P w K mg base CX0 1 f3 fd3 ["beads", "width"] (spLBag K) := ok_look_at_bag T L_look_at_bag
  have G_look_at_bags : FnOk P w K mg base CX0 2 f4 fd4 ["bags", "many", "width"] (spLBags K) := ok_look_at_bags T L_look_at_bag L_look_at_bags
  obtain ⟨_, cMB⟩ := T.mb
  obtain ⟨_, cMD⟩ := T.md
  refine F.ok sc_Net (fun vs H Q E h => ?_) (fun cdv A outer s H vs Q E hr h => ?_)
  · obtain ⟨p, dx, ab, ad, at_, ag, af, ts, gs, bowls, doors, T, G, first, rfl, _⟩ := h
    rfl
  · obtain ⟨p, dx, ab, ad, at_, ag, af, ts, gs, bowls, doors, T', G, first, rfl, hp, hb, hd, ht, hg, hf, ct, cg, ok, k⟩ := h
    refine ⟨_, (pss_cons (ps_expr (pe_call G_look_at_names (hr.mono (by decide)) (by rfl) L_look_at_names.g L_look_at_names.fn.kp L_look_at_names.b .nil pass0 (pa_cons (pv 1) (pa_cons pe_int (pa_cons (pe_glob (v := .int 6) rfl cMB ⟨_, rfl⟩) pa_nil)))))
      (pss_cons (ps_expr (pe_call G_look_at_names (hr.mono (by decide)) (by rfl) L_look_at_names.g L_look_at_names.fn.kp L_look_at_names.b .nil pass0 (pa_cons (pv 2) (pa_cons pe_int (pa_cons (pe_glob (v := .int 8) rfl cMD ⟨_, rfl⟩) pa_nil)))))
      (pss_cons (ps_expr (pe_call G_look_at_bags (hr.mono (by decide)) (by rfl) L_look_at_bags.g L_look_at_bags.fn.kp L_look_at_bags.b .nil pass0 (pa_cons (pv 3) (pa_cons (pe_callB call_len_seq (by rfl) T.len PySem.boot_len (pa_cons (pv 2) pa_nil)) (pa_cons (pe_callB call_len_seq (by rfl) T.len PySem.boot_len (pa_cons (pv 1) pa_nil)) pa_nil)))))
      (pss_cons (ps_expr (pe_call G_look_at_bags (hr.mono (by decide)) (by rfl) L_look_at_bags.g L_look_at_bags.fn.kp L_look_at_bags.b .nil pass0 (pa_cons (pv 4) (pa_cons (pe_callB call_len_seq (by rfl) T.len PySem.boot_len (pa_cons (pv 2) pa_nil)) (pa_cons (pe_callB call_len_seq (by rfl) T.len PySem.boot_len (pa_cons (pv 1) pa_nil)) pa_nil)))))
      (pss_cons (ps_expr (pe_call G_look_at_bag (hr.mono (by decide)) (by rfl) L_look_at_bag.g L_look_at_bag.fn.kp L_look_at_bag.b .nil pass0 (pa_cons (pv 5) (pa_cons (pe_callB call_len_seq (by rfl) T.len PySem.boot_len (pa_cons (pv 1) pa_nil)) pa_nil))))
      (pss_cons (ps_fld (pv 0) (pe_callTy (T := "list") (call_list_K (K := K) rfl) (by rfl) T.list (by decide +kernel) (pa_cons (pv 1) pa_nil)) rfl)
      (pss_cons (ps_fld (pv 0) (pe_callTy (T := "list") (call_list_K (K := K) rfl) (by rfl) T.list (by decide +kernel) (pa_cons (pv 2) pa_nil)) rfl)
      (pss_cons (ps_fld (pv 0) (pe_lc (own := [(("beads" : Str), 6)]) (g := gName 6) rfl sc_Net.nd (pi_list (pv 3)) (blkOk_by (N := N_Net) (sc := defScope s_Net) (by decide +kernel)) (fun _ _ _ _ _ => pg_name (i := 6) sc_Net.nd rfl (Or.inl rfl)) (fun _ _ _ _ _ => pts_nil) (fun _ _ _ _ _ => (pe_callTy (T := "list") (call_list_K (K := K) rfl) (by rfl) T.list (by decide +kernel) (pa_cons (pv 6) pa_nil)))) rfl)
      (pss_cons (ps_fld (pv 0) (pe_lc (own := [(("beads" : Str), 6)]) (g := gName 6) rfl sc_Net.nd (pi_list (pv 4)) (blkOk_by (N := N_Net) (sc := defScope s_Net) (by decide +kernel)) (fun _ _ _ _ _ => pg_name (i := 6) sc_Net.nd rfl (Or.inl rfl)) (fun _ _ _ _ _ => pts_nil) (fun _ _ _ _ _ => (pe_callTy (T := "list") (call_list_K (K := K) rfl) (by rfl) T.list (by decide +kernel) (pa_cons (pv 6) pa_nil)))) rfl)
      (pss_one (ps_fld (pv 0) (pe_callTy (T := "list") (call_list_K (K := K) rfl) (by rfl) T.list (by decide +kernel) (pa_cons (pv 5) pa_nil)) rfl))))))))))), ?_⟩
    -- the looks
    have b1 := ok.b1
    have b6 := ok.b6
    have d8 := ok.d8
    refine ⟨_, rfl, ab, bowls, 1, 6, rfl, SqL.of hb, by omega, by omega, by omega, ok.bg, ok.bn, fun H1 s1 => ?_⟩
    refine ⟨_, rfl, ad, doors, 0, 8, rfl, SqL.of (s1 _ _ hd), by omega, by omega, by omega, ok.dg, ok.dn, fun H2 s2 => ?_⟩
    have s2 := s1.trans s2
    refine ⟨_, rfl, _, rfl, ad, _, rfl, .inl (SqL.of (s2 _ _ hd)), _, rfl, ab, _, rfl, .inl (SqL.of (s2 _ _ hb)), at_, ts, T', _, _, rfl, SqL.of (s2 _ _ ht), ct.same s2, by rw [List.length_map, ok.tl], fun t h => ?_, ?_⟩
    · rw [List.length_map]
      exact ⟨by rw [(ok.tr t h).1], (ok.tr t h).2⟩
    refine ⟨_, rfl, _, rfl, ad, _, rfl, .inl (SqL.of (s2 _ _ hd)), _, rfl, ab, _, rfl, .inl (SqL.of (s2 _ _ hb)), ag, gs, G, _, _, rfl, SqL.of (s2 _ _ hg), cg.same s2, by rw [List.length_map, ok.gl], fun t h => ?_, ?_⟩
    · rw [List.length_map]
      exact ⟨by rw [(ok.gr t h).1], (ok.gr t h).2⟩
    refine ⟨_, rfl, _, rfl, ab, _, rfl, .inl (SqL.of (s2 _ _ hb)), af, first, _, rfl, SqL.of (s2 _ _ hf), by rw [List.length_map, ok.fl], ok.fr, ?_⟩
    -- self.bowls = list(bowls)
    have nbp : ab ≠ p := ne_of hb hp (by intro z; cases z)
    have ndp : ad ≠ p := ne_of hd hp (by intro z; cases z)
    have ntp : at_ ≠ p := ne_of ht hp (by intro z; cases z)
    have ngp : ag ≠ p := ne_of hg hp (by intro z; cases z)
    have nfp : af ≠ p := ne_of hf hp (by intro z; cases z)
    have M0 : Mid H H2 p (.ins C dx []) [] := (Mid.start hp).same s2
    refine ⟨_, rfl, ab, _, rfl, .inl (SqL.of (M0.keep _ _ hb nbp)), fun lb n1 => ?_⟩
    have M1 := M0.new (u := .lst (bowls.map V.str)) n1
    refine ⟨_, rfl, p, C, dx, [], rfl, M1.hp, TC.cl, TC.nb, (by show 0 < 1000; decide), ?_⟩
    have M1 := M1.fld (o' := .ins C dx (nf1 lb))
    refine ⟨_, rfl, ad, _, rfl, .inl (SqL.of (M1.keep _ _ hd ndp)), fun ld n2 => ?_⟩
    have M2 := M1.new (u := .lst (doors.map V.str)) n2
    refine ⟨_, rfl, p, C, dx, nf1 lb, rfl, M2.hp, TC.cl, TC.nd, Nat.lt_of_le_of_lt (nf1_len _) (by decide), ?_⟩
    have M2 := M2.fld (o' := .ins C dx (nf2 lb ld))
    -- self.takes = [list(beads) for beads in takes]
    dsimp only [tSeq, sFld]
    refine copy_lc (i := 3) (j := 6) (a := at_) rfl (by show 6 < 7; decide) (M2.keep _ _ ht ntp) (ct.mono fun t hm o e => ?_) (by rw [ct.1, ok.tl]; omega) fun lt us H3 s3 nlt hlt cu fu => ?_
    · obtain ⟨x, hx⟩ := ct.some_of hm
      exact M2.keep _ _ e (ne_of hx hp (by intro z; cases z))
    have M3 := (M2.same s3).add (l := lt) hlt (ne_of_none M2.hp nlt).symm
    have B3 : Bags H3 p us T' := ⟨cu, fun u hu => (ne_of_none M2.hp (fu u hu)).symm⟩
    refine ⟨_, rfl, p, C, dx, nf2 lb ld, rfl, M3.hp, TC.cl, TC.nt, Nat.lt_of_le_of_lt (nf2_len _ _) (by decide), ?_⟩
    have M3 := M3.fld (o' := .ins C dx (nf3 lb ld lt))
    have B3 := B3.fld (o := .ins C dx (nf3 lb ld lt))
    refine copy_lc (i := 4) (j := 6) (a := ag) rfl (by show 6 < 7; decide) (M3.keep _ _ hg ngp) (cg.mono fun t hm o e => ?_) (by rw [cg.1, ok.gl]; omega) fun lg vs H4 s4 nlg hlg cv fv => ?_
    · obtain ⟨x, hx⟩ := cg.some_of hm
      exact M3.keep _ _ e (ne_of hx hp (by intro z; cases z))
    have M4 := (M3.same s4).add (l := lg) hlg (ne_of_none M3.hp nlg).symm
    have B4 : Bags H4 p vs G := ⟨cv, fun u hu => (ne_of_none M3.hp (fv u hu)).symm⟩
    have B3 : Bags H4 p us T' := ⟨B3.c.same s4, B3.np⟩
    refine ⟨_, rfl, p, C, dx, nf3 lb ld lt, rfl, M4.hp, TC.cl, TC.ng, Nat.lt_of_le_of_lt (nf3_len _ _ _) (by decide), ?_⟩
    have M4 := M4.fld (o' := .ins C dx (nf4 lb ld lt lg))
    have B3 := B3.fld (o := .ins C dx (nf4 lb ld lt lg))
    have B4 := B4.fld (o := .ins C dx (nf4 lb ld lt lg))
    -- self.first = list(first)
    refine ⟨_, rfl, af, _, rfl, .inl (SqL.of (M4.keep _ _ hf nfp)), fun lf n5 => ?_⟩
    have M5 := M4.new (u := .lst (first.map V.int)) n5
    have B3 := B3.new (o := .lst (first.map V.int)) n5
    have B4 := B4.new (o := .lst (first.map V.int)) n5
    refine ⟨_, rfl, p, C, dx, nf4 lb ld lt lg, rfl, M5.hp, TC.cl, TC.nf, Nat.lt_of_le_of_lt (nf4_len _ _ _ _) (by decide), ?_⟩
    have M5 := M5.fld (o' := .ins C dx (netF lb ld lt lg lf))
    have B3 := B3.fld (o := .ins C dx (netF lb ld lt lg lf))
    have B4 := B4.fld (o := .ins C dx (netF lb ld lt lg lf))
    exact k _ ⟨dx, lb, ld, lt, lg, lf, us, vs, M5.hp, M5.at (c := (lb, .lst (bowls.map V.str))) (by simp), M5.at (c := (ld, .lst (doors.map V.str))) (by simp), M5.at (c := (lt, .lst (us.map V.ref))) (by simp), M5.at (c := (lg, .lst (vs.map V.ref))) (by simp), M5.at (c := (lf, .lst (first.map V.int))) (by simp), B3.c, B4.c⟩ M5.keep
end
end BH

set_option Elab.async false
set_option linter.all false
set_option maxRecDepth 100000
set_option maxHeartbeats 4000000
namespace BH
open PySem TL L2 PyProof.Rows
theorem rg3 {L : Nat} (h : L ≤ 1000000) : RgC 0 (L : Int) 3 ((L + 2) / 3) := by
  have e : Builtin.Range.rangeSize 0 (L : Int) 3 = (((L + 2) / 3 : Nat) : Int) := by
    unfold Builtin.Range.rangeSize
    rw [if_pos (by decide)]
    split <;> omega
  refine ⟨by decide, by decide, ?_, e⟩
  have r : ∀ z : Int, -1000000 ≤ z → z ≤ 2000000 → Builtin.Range.rangeFitsLong z = true := fun z h1 h2 => by
    unfold Builtin.Range.rangeFitsLong
    simp only [Bool.and_eq_true, decide_eq_true_eq]
    omega
  unfold Builtin.Range.small
  rw [e, r 0 (by omega) (by omega), r 3 (by omega) (by omega), r (L : Int) (by omega) (by omega), r (((L + 2) / 3 : Nat) : Int) (by omega) (by omega), if_pos (by decide), r ((L : Int) + (3 - 1)) (by omega) (by omega)]
  simp
theorem iteND {c A B : Prop} [Decidable c] (h1 : ¬ c → A) (h2 : c → B) : if (!decide c) = true then A else B := by
  by_cases h : c
  · rw [decide_eq_true h]
    exact iteF (h2 h)
  · rw [decide_eq_false h]
    exact iteT (h1 h)
theorem vec_nil (bowls : List Str) : vec bowls [] = List.replicate bowls.length 0 := vec_zero fun n _ h => by simp [keysB] at h
theorem ixN_lt {n j : Nat} (h : j < n) : ixN n (j : Int) = some j := by
  unfold ixN
  rw [if_pos (Int.natCast_nonneg _), if_pos (by omega), Int.toNat_natCast]
section
variable {P : Program} {w : World} {K : PySem.W.Frag} {mg : Str → Option Value} {base : Heap}
/-! ### parts and rows -/
def spPart (K : PySem.W.Frag) : Sp := fun vs H Q _ => ∃ (aw ab : Addr) (words bowls : List Str), vs = [.ref aw, .ref ab] ∧ SqL K H aw (words.map V.str) ∧ SqL K H ab (bowls.map V.str) ∧ words.length ≤ 100000 ∧ (∀ z ∈ words, z.length < sizeLine) ∧ bowls.length ≤ 6 ∧ bowls.Nodup ∧
  (bagOf words bowls = none → ∀ H', Same H H' → Q .non H') ∧ (∀ B, bagOf words bowls = some B → ∀ H' p, Same H H' → H p = none → H' p = some (cellI (vec bowls B)) → Q (.ref p) H')
abbrev s_part_of : Stmt := topS 20
abbrev N_part_of : List Str := ["words", "bowls", "bag", "k", "many", "at", "name"]
theorem sc_part_of : FnScope ["words", "bowls", "bag", "k", "many", "at", "name"] ["words", "bowls"] (defScope s_part_of) := ⟨rfl, rfl, rfl, by decide +kernel, rfl, by decide +kernel, by decide +kernel⟩
theorem ok_part_of {f f1 : Addr} {fd fd1 : FuncData} (T : Txt K mg) (L_count_of : Lk K mg "count_of" s_count_of f1 fd1 ["word"]) (L_part_of : Lk K mg "part_of" s_part_of f fd ["words", "bowls"]) : FnOk P w K mg base CX0 2 f fd ["words", "bowls"] (spPart K) := by
  have G_count_of : FnOk P w K mg base CX0 1 f1 fd1 ["word"] spCount := ok_count_of T L_count_of
  refine L_part_of.fn.ok sc_part_of (fun vs H Q E h => ?_) (fun cdv A outer s H vs Q E hr h => ?_)
  · obtain ⟨aw, ab, words, bowls, rfl, _⟩ := h
    rfl
  · obtain ⟨aw, ab, words, bowls, rfl, hw, hb, hlen, hz, h6, hnd, kN, kS⟩ := h
    refine ⟨_, (pss_cons (ps_setLc (i := 2) (own := [(("name" : Str), 6)]) (g := gName 6) rfl sc_part_of.nd rfl rfl (sw_true rfl rfl rfl (by decide +kernel)) (pi_list (pv 1)) (blkOk_by (N := N_part_of) (sc := defScope s_part_of) (by decide +kernel)) (fun _ _ _ _ _ => pg_name (i := 6) sc_part_of.nd rfl (Or.inl rfl)) (fun _ _ _ _ _ => pts_nil) (fun _ _ _ _ _ => pe_int))
      (pss_cons (ps_if (pt_cmpR (op_eqS hr.units) (pv 0) (pe_lst (pa_cons pe_str pa_nil)) (nomark _)) (pss_one (ps_ret (pv 2))) pss_nil)
      (pss_cons (ps_if (pt_cmpR op_ne (pe_op op_mod (pe_callB call_len_seq (by rfl) T.len PySem.boot_len (pa_cons (pv 0) pa_nil)) pe_int) pe_int (nomark _)) (pss_one (ps_ret pe_non)) pss_nil)
      (pss_cons (ps_for PassesOwn.never rfl (pi_range3 (by rfl) T.range (pa_cons pe_int (pa_cons (pe_callB call_len_seq (by rfl) T.len PySem.boot_len (pa_cons (pv 0) pa_nil)) (pa_cons pe_int pa_nil)))) (pg_name (i := 3) sc_part_of.nd rfl (Or.inl rfl))
      (pss_cons (ps_set (i := 4) sc_part_of.nd rfl (Or.inl rfl) (pe_call G_count_of (hr.mono (by decide)) (by rfl) L_count_of.g L_count_of.fn.kp L_count_of.b .nil pass0 (pa_cons (pe_ix ix_list (pv 0) (pv 3) (fun _ _ => rfl)) pa_nil)))
      (pss_cons (ps_if (PW.pt (pw_or (pt_cmp (pc_isN (pv 4))) (pw_or (pt_cmpR op_eq (pv 4) pe_int (nomark _)) (pw_or1 (pt_cmpR op_notInS (pe_ix ix_list (pv 0) (pe_op op_add (pv 3) pe_int) (fun _ _ => rfl)) (pv 1) (by rfl)))))) (pss_one (ps_ret pe_non)) pss_nil)
      (pss_cons (ps_if (PW.pt (pw_and (pt_cmpR op_gt (pv 3) pe_int (nomark _)) (pw_and1 (pt_cmpR op_ne (pe_ix ix_list (pv 0) (pe_op op_sub (pv 3) pe_int) (fun _ _ => rfl)) pe_str (nomark _))))) (pss_one (ps_ret pe_non)) pss_nil)
      (pss_cons (ps_set (i := 5) sc_part_of.nd rfl (Or.inl rfl) (pe_bm PySem.F.plainAttrs_list PySem.F.slot_list_index PySem.F.type_list_index mt_indexS (pv 1) (pa_cons (pe_ix ix_list (pv 0) (pe_op op_add (pv 3) pe_int) (fun _ _ => rfl)) pa_nil)))
      (pss_cons (ps_if (pt_cmpR op_gt (pe_ix ix_list (pv 2) (pv 5) (fun _ _ => rfl)) pe_int (nomark _)) (pss_one (ps_ret pe_non)) pss_nil)
      (pss_one (ps_asg (pv 4) (pg_sub (pv 2) (pv 5) set_list)))))))))
      (pss_one (ps_ret (pv 2))))))), ?_⟩
    -- bag = [0 for name in bowls]
    refine ⟨.ref ab, rfl, ab, rfl, ⟨_, hb⟩, fun D hD => ?_⟩
    refine lc_list (xs := bowls.map V.str) (fun i H' => H' = upd H D (.lst ((vec (bowls.take i) []).map V.int))) rfl (fun i H' _ e => by rw [e]; exact (same_upd hD).seq hb) ?_ ?_
    · rintro i x H' hx rfl
      obtain ⟨z, hz', rfl⟩ := strs_get hx
      refine ⟨rfl, tyes ?_⟩
      refine iteT ?_
      refine ⟨_, upd_same, ?_, ?_⟩
      · rw [List.length_map, vec_len, List.length_take]
        exact small1000 (by omega)
      · rw [upd_upd, take_more hz', vec_append, List.map_append]
        rfl
    · rintro H' rfl
      rw [List.length_map, List.take_length]
      have s1 : Same H (upd H D (.lst ((vec bowls []).map V.int))) := same_upd hD
      -- if words == ["-"]
      refine ⟨_, rfl, by show 1 ≤ sizeLine; exact small_of (by omega), fun p1 np1 => ?_⟩
      have s2 := s1.trans (same_upd (o := .lst [V.str ("-" : Str)]) np1)
      have e2 : upd (upd H D (.lst ((vec bowls []).map V.int))) p1 (.lst [V.str ("-" : Str)]) D = some (cellI (vec bowls [])) := by
        rw [upd_ne (ne_of_none upd_same np1), upd_same]
        rfl
      refine ⟨aw, p1, words, [("-" : Str)], rfl, rfl, s2.seq hw, SqL.of upd_same, _, rfl, ?_⟩
      refine ite2 (fun h1 => ?_) (fun h1 => ?_)
      · have h1 := of_decide_eq_true h1
        refine ⟨_, rfl, ?_⟩
        refine kS [] ?_ _ D s2 hD e2
        unfold bagOf
        exact if_pos h1
      · have hm : words ≠ [("-" : Str)] := fun q => h1 (decide_eq_true q)
        -- if len(words) % 3 != 2
        refine ⟨_, rfl, aw, _, rfl, .inl (s2.seq hw), _, _, rfl, rfl, (by show (0 : Int) < 3; decide), rfl, _, rfl, ?_⟩
        rw [List.length_map]
        by_cases h2 : words.length % 3 = 2
        case neg =>
          rw [decide_eq_false (show ¬ V.int ((words.length : Int) % 3) = V.int 2 from fun q => h2 (by have := V.int.inj q; omega))]
          refine iteT ?_
          exact kN (bagOf_len hm h2) _ s2
        rw [decide_eq_true (show V.int ((words.length : Int) % 3) = V.int 2 from congrArg V.int (by omega))]
        refine iteF ?_
        refine ⟨_, rfl, aw, _, rfl, .inl (s2.seq hw), 0, (words.length : Int), 3, (words.length + 2) / 3, by rw [List.length_map], rg3 (by omega), for_rangeC (lo := 0) (c := 3) (n := (words.length + 2) / 3)
          (fun i σ H' => ∃ B v3 v4 v5, σ = [some (.ref aw), some (.ref ab), some (.ref D), v3, v4, v5, none] ∧ runB words bowls i = some B ∧ Same H H' ∧ H' D = some (cellI (vec bowls B)))
          ⟨[], none, none, none, rfl, rfl, s2, e2⟩ ?_ ?_⟩
        · rintro i σ H' hi ⟨B, v3, v4, v5, rfl, hB, s3, eD⟩
          have lt0 : 3 * i < words.length := by omega
          have lt1 : 3 * i + 1 < words.length := by omega
          have g0 := wd_lt lt0
          have g1 := wd_lt lt1
          have z0 := hz _ (List.mem_of_getElem? g0)
          have dead : runB words bowls (i + 1) = none → bagOf words bowls = none := fun q => bagOf_dead hm q (by omega)
          -- many = count_of(words[k])
          refine ⟨_, rfl, _, rfl, aw, _, _, _, rfl, rfl, s3.seq hw, at_of (by omega) (str_at g0), wd words (3 * i), rfl, by omega, ?_⟩
          cases ec : countS (wd words (3 * i)) with
          | none =>
            refine ⟨_, rfl, _, rfl, ?_⟩
            refine iteT (iteT ?_)
            exact kN (dead (runB_none_count hB (.inl ec))) _ s3
          | some c =>
            have rc := countS_range ec
            refine ⟨_, rfl, _, rfl, ?_⟩
            refine iteF ?_
            refine ⟨_, rfl, rfl, _, rfl, ?_⟩
            refine ite2 (fun h3 => ?_) (fun h3 => ?_)
            · have h3 := V.int.inj (of_decide_eq_true h3)
              refine iteT ?_
              exact kN (dead (runB_none_count hB (.inr ⟨c, ec, by omega⟩))) _ s3
            · have h3 : ¬ c = 0 := fun q => h3 (decide_eq_true (congrArg V.int q))
              refine ⟨_, rfl, _, rfl, _, _, rfl, rfl, aw, _, _, _, rfl, rfl, s3.seq hw, at_of (j := 3 * i + 1) (by omega) (str_at g1), _, rfl, _, ab, bowls, rfl, rfl, s3.seq hb, _, rfl, ?_⟩
              by_cases h4 : wd words (3 * i + 1) ∈ bowls
              case neg =>
                rw [decide_eq_false h4]
                refine iteT ?_
                exact kN (dead (runB_none_of hB (.inl h4))) _ s3
              rw [decide_eq_true h4]
              refine iteF ?_
              -- if k > 0 and words[k - 1] != "+"
              refine ⟨_, rfl, _, _, rfl, rfl, _, rfl, ?_⟩
              refine ite2 (fun h5 => ⟨_, rfl, _, rfl, _, _, rfl, rfl, aw, _, _, _, rfl, rfl, s3.seq hw, at_of (j := 3 * i - 1) (by have := of_decide_eq_true h5; omega) (str_at (wd_lt (by omega))), rfl, _, rfl, iteND (fun h6 => ?bad) (fun h6 => ?g1)⟩) (fun h5 => iteF ?g2)
              case bad =>
                have h5 := of_decide_eq_true h5
                exact kN (dead (runB_none_of hB (.inr (.inr ⟨by omega, fun q => h6 (congrArg V.str q)⟩)))) _ s3
              all_goals
                have hp : i = 0 ∨ wd words (3 * i - 1) = ("+" : Str) := by
                  first
                    | exact .inr (V.str.inj h6)
                    | exact .inl (by
                        by_cases hz : i = 0
                        · exact hz
                        · exact absurd (decide_eq_true (by omega)) h5)
                -- at = bowls.index(words[k + 1])
                refine ⟨_, rfl, .inl ⟨rfl, _, s3.seq hb⟩, _, rfl, _, rfl, _, _, rfl, rfl, aw, _, _, _, rfl, rfl, s3.seq hw, at_of (j := 3 * i + 1) (by omega) (str_at g1), ab, bowls, _, rfl, rfl, s3.seq hb, h4, ?_⟩
                -- if bag[at] > 0
                refine ⟨_, rfl, _, rfl, D, _, _, _, rfl, rfl, SqL.of eD, at_of rfl (int_at (vec_get h4)), _, _, rfl, rfl, _, rfl, ?_⟩
                refine ite2 (fun h7 => ?_) (fun h7 => ?_)
                · have h7 := of_decide_eq_true h7
                  exact kN (dead (runB_none_of hB (.inr (.inl ((valB_pos (runB_ok hB) _).mp h7))))) _ s3
                · have h7 : ¬ wd words (3 * i + 1) ∈ keysB B := fun q => h7 (decide_eq_true ((valB_pos (runB_ok hB) _).mpr q))
                  refine ⟨_, rfl, _, rfl, _, rfl, D, _, _, _, rfl, rfl, eD, ixN_lt (by rw [List.length_map, vec_len]; exact idx_lt h4), ?_⟩
                  refine ⟨_, _, _, _, rfl, runB_succ hB ec (by omega) h4 h7 hp, same_put s3 hD, ?_⟩
                  rw [upd_same]
                  show some (HO.lst _) = some (HO.lst _)
                  rw [vec_set hnd h4 h7, List.map_set]
                  rfl
        · rintro σ H' ⟨B, v3, v4, v5, rfl, hB, s3, eD⟩
          refine ⟨_, rfl, ?_⟩
          refine kS B ?_ _ D s3 hD eD
          rw [bagOf_run (i := (words.length + 2) / 3 - 1) hm (by omega), show (words.length + 2) / 3 - 1 + 1 = (words.length + 2) / 3 by omega]
          exact hB
end
end BH

set_option Elab.async false
set_option linter.all false
set_option maxRecDepth 100000
set_option maxHeartbeats 4000000
namespace BH
open PySem TL L2 PyProof.Rows
theorem cut_ab (xs : List V) (a b : Nat) : cutV xs (some (a : Int)) (some (b : Int)) = (xs.take b).drop a := by
  unfold cutV
  rw [HT.sIx_nat, HT.sIx_nat, List.drop_take]
  by_cases h : a ≤ xs.length
  · rw [Nat.min_eq_left h]
    by_cases h2 : b ≤ xs.length
    · rw [Nat.min_eq_left h2]
    · rw [Nat.min_eq_right (show xs.length ≤ b by omega), List.take_of_length_le (by rw [List.length_drop]; omega), List.take_of_length_le (by rw [List.length_drop]; omega)]
  · rw [Nat.min_eq_right (show xs.length ≤ a by omega), List.drop_eq_nil_of_le (Nat.le_refl _), List.drop_eq_nil_of_le (by omega)]
    simp
theorem cut_a (xs : List V) (a : Nat) : cutV xs (some (a : Int)) none = xs.drop a := by
  unfold cutV
  rw [HT.sIx_nat, HT.sIx_none]
  by_cases h : a ≤ xs.length
  · rw [Nat.min_eq_left h, List.take_of_length_le (by rw [List.length_drop]; omega)]
  · rw [Nat.min_eq_right (by omega), List.drop_eq_nil_of_le (Nat.le_refl _), List.drop_eq_nil_of_le (by omega)]
    simp
theorem map_cut_ab {α : Type} (f : α → V) (xs : List α) (a b : Nat) : cutV (xs.map f) (some (a : Int)) (some (b : Int)) = ((xs.take b).drop a).map f := by rw [cut_ab, List.map_drop, List.map_take]
theorem map_cut_a {α : Type} (f : α → V) (xs : List α) (a : Nat) : cutV (xs.map f) (some (a : Int)) none = (xs.drop a).map f := by rw [cut_a, List.map_drop]
theorem wd_out {words : List Str} {i : Nat} (h : words.length ≤ i) : wd words i = Str.empty := by
  unfold wd
  rw [List.getD_eq_getElem?_getD, List.getElem?_eq_none h]
  rfl
theorem good_empty : goodName Str.empty = false := by decide +kernel
theorem stepBowl_none {s : S} {words : List Str} (h : ¬ (words.length = 3 ∧ s.bowls.length < 6 ∧ goodName (wd words 1) = true ∧ ¬ wd words 1 ∈ s.bowls) ∨ countS (wd words 2) = none) : stepBowl s words = none := by
  unfold stepBowl
  split
  · rename_i q
    rcases h with h | h
    · exact absurd q h
    · rw [h]
  · rfl
theorem stepBowl_some {s : S} {words : List Str} {c : Int} (h : words.length = 3 ∧ s.bowls.length < 6 ∧ goodName (wd words 1) = true ∧ ¬ wd words 1 ∈ s.bowls) (hc : countS (wd words 2) = some c) : stepBowl s words = some ⟨s.bowls ++ [wd words 1], s.first ++ [c], s.doors, s.takes, s.gives⟩ := by
  unfold stepBowl
  rw [if_pos h, hc]
theorem stepDoor_none {s : S} {words : List Str} (h : ¬ ((">" : Str) ∈ words ∧ s.doors.length < 8 ∧ goodName (wd words 1) = true ∧ ¬ wd words 1 ∈ s.doors) ∨ bagOf (partA words) s.bowls = none ∨ bagOf (partB words) s.bowls = none) : stepDoor s words = none := by
  unfold stepDoor
  split
  · rename_i q
    rcases h with h | h | h
    · exact absurd q h
    · rw [h]
    · rw [h]
      split
      · rename_i e
        cases e
      · rfl
  · rfl
theorem stepDoor_some {s : S} {words : List Str} {A B : Bag} (h : (">" : Str) ∈ words ∧ s.doors.length < 8 ∧ goodName (wd words 1) = true ∧ ¬ wd words 1 ∈ s.doors) (hA : bagOf (partA words) s.bowls = some A) (hB : bagOf (partB words) s.bowls = some B) :
    stepDoor s words = some ⟨s.bowls, s.first, s.doors ++ [wd words 1], s.takes ++ [A], s.gives ++ [B]⟩ := by
  unfold stepDoor
  rw [if_pos h, hA, hB]
theorem partA_mem {words : List Str} {z : Str} (h : z ∈ partA words) : z ∈ words := List.mem_of_mem_take (List.mem_of_mem_drop h)
theorem partB_mem {words : List Str} {z : Str} (h : z ∈ partB words) : z ∈ words := List.mem_of_mem_drop h
theorem partA_len (words : List Str) : (partA words).length ≤ words.length := by
  unfold partA
  rw [List.length_drop, List.length_take]
  omega
theorem partB_len (words : List Str) : (partB words).length ≤ words.length := by
  unfold partB
  rw [List.length_drop]
  omega
section
variable {P : Program} {w : World} {K : PySem.W.Frag} {mg : Str → Option Value} {base : Heap}
def spBowl (K : PySem.W.Frag) (C : Addr) : Sp := fun vs H Q _ => ∃ (H0 : Hp) (p aw : Addr) (words : List Str) (s : S), vs = [.ref p, .ref aw] ∧ DraftAt C H0 H p s ∧ WF s ∧ SqL K H aw (words.map V.str) ∧ words.length ≤ 100000 ∧ (∀ z ∈ words, z.length < sizeLine) ∧
  (stepBowl s words = none → ∀ H', Same H0 H' → Q (.bl false) H') ∧ (∀ s', stepBowl s words = some s' → ∀ H', DraftAt C H0 H' p s' → Q (.bl true) H')
abbrev s_bowl_taken : Stmt := topS 21
abbrev N_bowl_taken : List Str := ["draft", "words", "many"]
theorem sc_bowl_taken : FnScope ["draft", "words", "many"] ["draft", "words"] (defScope s_bowl_taken) := ⟨rfl, rfl, rfl, by decide +kernel, rfl, by decide +kernel, by decide +kernel⟩
theorem ok_bowl_taken {f f1 f2 C : Addr} {fd fd1 fd2 : FuncData} (T : Txt K mg) (TC : CTxt K C) (L_count_of : Lk K mg "count_of" s_count_of f1 fd1 ["word"]) (L_good_name : Lk K mg "good_name" s_good_name f2 fd2 ["name"]) (L_bowl_taken : Lk K mg "bowl_taken" s_bowl_taken f fd ["draft", "words"]) :
    FnOk P w K mg base CX0 2 f fd ["draft", "words"] (spBowl K C) := by
  have G_count_of : FnOk P w K mg base CX0 1 f1 fd1 ["word"] spCount := ok_count_of T L_count_of
  have G_good_name : FnOk P w K mg base CX0 1 f2 fd2 ["name"] spGood := ok_good_name T L_good_name
  obtain ⟨_, cMB⟩ := T.mb
  refine L_bowl_taken.fn.ok sc_bowl_taken (fun vs H Q E h => ?_) (fun cdv A outer s H vs Q E hr h => ?_)
  · obtain ⟨H0, p, aw, words, s, rfl, _⟩ := h
    rfl
  · obtain ⟨H0, p, aw, words, st, rfl, ⟨dx, lb, ld, lt, lg, lf, ts, gs, TT, GG, A5, rT, rG⟩, W, hw, hlen, hz, kN, kS⟩ := h
    refine ⟨_, (pss_cons (ps_if (PW.pt (pw_or (pt_cmpR op_ne (pe_callB call_len_seq (by rfl) T.len PySem.boot_len (pa_cons (pv 1) pa_nil)) pe_int (nomark _)) (pw_or1 (pt_cmpR op_eq (pe_callB call_len_seq (by rfl) T.len PySem.boot_len (pa_cons (pe_fld (pv 0) rfl) pa_nil)) (pe_glob (v := .int 6) rfl cMB ⟨_, rfl⟩) (nomark _))))) (pss_one (ps_ret pe_bl)) pss_nil)
      (pss_cons (ps_set (i := 2) sc_bowl_taken.nd rfl (Or.inl rfl) (pe_call G_count_of (hr.mono (by decide)) (by rfl) L_count_of.g L_count_of.fn.kp L_count_of.b .nil pass0 (pa_cons (pe_ix ix_list (pv 1) pe_int (fun _ _ => rfl)) pa_nil)))
      (pss_cons (ps_if (PW.pt (pw_or (pt_cmp (pc_isN (pv 2))) (pw_or (pt_not (pt_val (pe_call G_good_name (hr.mono (by decide)) (by rfl) L_good_name.g L_good_name.fn.kp L_good_name.b .nil pass0 (pa_cons (pe_ix ix_list (pv 1) pe_int (fun _ _ => rfl)) pa_nil)))) (pw_or1 (pt_cmpR op_inS (pe_ix ix_list (pv 1) pe_int (fun _ _ => rfl)) (pe_fld (pv 0) rfl) (by rfl)))))) (pss_one (ps_ret pe_bl)) pss_nil)
      (pss_cons (ps_expr (pe_bm PySem.F.plainAttrs_list PySem.F.slot_list_append PySem.F.type_list_append mt_append (pe_fld (pv 0) rfl) (pa_cons (pe_ix ix_list (pv 1) pe_int (fun _ _ => rfl)) pa_nil)))
      (pss_cons (ps_expr (pe_bm PySem.F.plainAttrs_list PySem.F.slot_list_append PySem.F.type_list_append mt_append (pe_fld (pv 0) rfl) (pa_cons (pv 2) pa_nil)))
      (pss_one (ps_ret pe_bl))))))), ?_⟩
    have b6 := W.b6
    refine ⟨_, rfl, aw, _, rfl, .inl hw, rfl, _, rfl, ?_⟩
    refine iteND (fun h1 => ?_) (fun h1 => ?_)
    · refine iteT ?_
      exact kN (stepBowl_none (.inl fun q => h1 (by rw [List.length_map, q.1]; rfl))) _ A5.same
    have h1 : words.length = 3 := by
      have := V.int.inj h1
      rw [List.length_map] at this
      omega
    refine ⟨_, rfl, p, C, dx, _, _, rfl, A5.hp, TC.cl, TC.nb, netF_b .., lb, _, rfl, .inl (SqL.of A5.h0), rfl, _, rfl, ?_⟩
    refine ite2 (fun h2 => ?_) (fun h2 => ?_)
    · have h2 := V.int.inj (of_decide_eq_true h2)
      rw [List.length_map] at h2
      exact kN (stepBowl_none (.inl fun q => by omega)) _ A5.same
    have h2 : st.bowls.length < 6 := by
      have : ¬ (st.bowls.length : Int) = 6 := fun q => h2 (decide_eq_true (by rw [List.length_map]; exact congrArg V.int q))
      omega
    have g1 := wd_lt (words := words) (i := 1) (by omega)
    have g2 := wd_lt (words := words) (i := 2) (by omega)
    have z1 := hz _ (List.mem_of_getElem? g1)
    have z2 := hz _ (List.mem_of_getElem? g2)
    refine ⟨_, rfl, aw, _, _, _, rfl, rfl, hw, at_of (j := 2) rfl (str_at g2), wd words 2, rfl, by omega, ?_⟩
    cases ec : countS (wd words 2) with
    | none =>
      refine ⟨_, rfl, _, rfl, ?_⟩
      refine iteT (iteT ?_)
      exact kN (stepBowl_none (.inr ec)) _ A5.same
    | some c =>
      refine ⟨_, rfl, _, rfl, ?_⟩
      refine iteF ?_
      refine ⟨_, rfl, aw, _, _, _, rfl, rfl, hw, at_of (j := 1) rfl (str_at g1), wd words 1, rfl, by omega, _, rfl, ?_⟩
      cases eg : goodName (wd words 1) with
      | false =>
        refine iteT (iteT ?_)
        exact kN (stepBowl_none (.inl fun q => by rw [eg] at q; exact Bool.noConfusion q.2.2.1)) _ A5.same
      | true =>
        refine iteF ?_
        refine ⟨_, rfl, aw, _, _, _, rfl, rfl, hw, at_of (j := 1) rfl (str_at g1), _, rfl, p, C, dx, _, _, rfl, A5.hp, TC.cl, TC.nb, netF_b .., _, lb, st.bowls, rfl, rfl, SqL.of A5.h0, _, rfl, ?_⟩
        by_cases hm : wd words 1 ∈ st.bowls
        case pos =>
          rw [decide_eq_true hm]
          refine iteT ?_
          exact kN (stepBowl_none (.inl fun q => q.2.2.2 hm)) _ A5.same
        rw [decide_eq_false hm]
        refine iteF ?_
        have D := dis_of A5.nd
        refine ⟨_, rfl, p, C, dx, _, _, rfl, A5.hp, TC.cl, TC.nb, netF_b .., .inl ⟨rfl, _, SqL.of A5.h0⟩, _, rfl, aw, _, _, _, rfl, rfl, hw, at_of (j := 1) rfl (str_at g1), lb, _, _, rfl, rfl, A5.h0, by rw [List.length_map]; exact small1000 (by omega), ?_⟩
        have hp1 : upd H lb (.lst (st.bowls.map V.str ++ [V.str (wd words 1)])) p = some (.ins C dx (netF lb ld lt lg lf)) := by rw [upd_ne D.p0]; exact A5.hp
        have hf1 : upd H lb (.lst (st.bowls.map V.str ++ [V.str (wd words 1)])) lf = some (.lst (st.first.map V.int)) := by rw [upd_ne D.d04.symm]; exact A5.h4
        refine ⟨_, rfl, p, C, dx, _, _, rfl, hp1, TC.cl, TC.nf, netF_f .., .inl ⟨rfl, _, SqL.of hf1⟩, _, rfl, lf, _, _, rfl, rfl, hf1, by rw [List.length_map, W.fl]; exact small1000 (by omega), ?_⟩
        refine kS _ (stepBowl_some ⟨h1, h2, eg, hm⟩ ec) _ ⟨dx, lb, ld, lt, lg, lf, ts, gs, TT, GG, A5.bowl (wd words 1) c, rT.more, rG.more⟩
def spDoor (K : PySem.W.Frag) (C : Addr) : Sp := fun vs H Q _ => ∃ (H0 : Hp) (p aw : Addr) (words : List Str) (s : S), vs = [.ref p, .ref aw] ∧ DraftAt C H0 H p s ∧ WF s ∧ SqL K H aw (words.map V.str) ∧ words.length ≤ 100000 ∧ (∀ z ∈ words, z.length < sizeLine) ∧
  (stepDoor s words = none → ∀ H', Same H0 H' → Q (.bl false) H') ∧ (∀ s', stepDoor s words = some s' → ∀ H', DraftAt C H0 H' p s' → Q (.bl true) H')
abbrev s_door_taken : Stmt := topS 22
abbrev N_door_taken : List Str := ["draft", "words", "at", "taken", "given"]
theorem sc_door_taken : FnScope ["draft", "words", "at", "taken", "given"] ["draft", "words"] (defScope s_door_taken) := ⟨rfl, rfl, rfl, by decide +kernel, rfl, by decide +kernel, by decide +kernel⟩
theorem ok_door_taken {f f1 f2 f3 C : Addr} {fd fd1 fd2 fd3 : FuncData} (T : Txt K mg) (TC : CTxt K C) (L_count_of : Lk K mg "count_of" s_count_of f1 fd1 ["word"]) (L_good_name : Lk K mg "good_name" s_good_name f2 fd2 ["name"]) (L_part_of : Lk K mg "part_of" s_part_of f3 fd3 ["words", "bowls"])
    (L_door_taken : Lk K mg "door_taken" s_door_taken f fd ["draft", "words"]) : FnOk P w K mg base CX0 3 f fd ["draft", "words"] (spDoor K C) := by
  have G_part_of : FnOk P w K mg base CX0 2 f3 fd3 ["words", "bowls"] (spPart K) := ok_part_of T L_count_of L_part_of
  have G_good_name : FnOk P w K mg base CX0 1 f2 fd2 ["name"] spGood := ok_good_name T L_good_name
  obtain ⟨_, cMD⟩ := T.md
  refine L_door_taken.fn.ok sc_door_taken (fun vs H Q E h => ?_) (fun cdv A outer s H vs Q E hr h => ?_)
  · obtain ⟨H0, p, aw, words, s, rfl, _⟩ := h
    rfl
  · obtain ⟨H0, p, aw, words, st, rfl, ⟨dx, lb, ld, lt, lg, lf, ts, gs, TT, GG, A5, rT, rG⟩, W, hw, hlen, hz, kN, kS⟩ := h
    refine ⟨_, (pss_cons (ps_if (PW.pt (pw_or (pt_cmpR op_lt (pe_callB call_len_seq (by rfl) T.len PySem.boot_len (pa_cons (pv 1) pa_nil)) pe_int (nomark _)) (pw_or1 (pt_cmpR op_eq (pe_callB call_len_seq (by rfl) T.len PySem.boot_len (pa_cons (pe_fld (pv 0) rfl) pa_nil)) (pe_glob (v := .int 8) rfl cMD ⟨_, rfl⟩) (nomark _))))) (pss_one (ps_ret pe_bl)) pss_nil)
      (pss_cons (ps_if (PW.pt (pw_or (pt_not (pt_val (pe_call G_good_name (hr.mono (by decide)) (by rfl) L_good_name.g L_good_name.fn.kp L_good_name.b .nil pass0 (pa_cons (pe_ix ix_list (pv 1) pe_int (fun _ _ => rfl)) pa_nil)))) (pw_or (pt_cmpR op_inS (pe_ix ix_list (pv 1) pe_int (fun _ _ => rfl)) (pe_fld (pv 0) rfl) (by rfl)) (pw_or1 (pt_cmpR op_notInS pe_str (pv 1) (by rfl)))))) (pss_one (ps_ret pe_bl)) pss_nil)
      (pss_cons (ps_set (i := 2) sc_door_taken.nd rfl (Or.inl rfl) (pe_bm PySem.F.plainAttrs_list PySem.F.slot_list_index PySem.F.type_list_index mt_indexS (pv 1) (pa_cons pe_str pa_nil)))
      (pss_cons (ps_set (i := 3) sc_door_taken.nd rfl (Or.inl rfl) (pe_call G_part_of (hr.mono (by decide)) (by rfl) L_part_of.g L_part_of.fn.kp L_part_of.b .nil pass0 (pa_cons (pe_slice sl_list (pv 1) (po_some pe_int) (po_some (pv 2))) (pa_cons (pe_fld (pv 0) rfl) pa_nil))))
      (pss_cons (ps_set (i := 4) sc_door_taken.nd rfl (Or.inl rfl) (pe_call G_part_of (hr.mono (by decide)) (by rfl) L_part_of.g L_part_of.fn.kp L_part_of.b .nil pass0 (pa_cons (pe_slice sl_list (pv 1) (po_some (pe_op op_add (pv 2) pe_int)) po_none) (pa_cons (pe_fld (pv 0) rfl) pa_nil))))
      (pss_cons (ps_if (PW.pt (pw_or (pt_cmp (pc_isN (pv 3))) (pw_or1 (pt_cmp (pc_isN (pv 4)))))) (pss_one (ps_ret pe_bl)) pss_nil)
      (pss_cons (ps_expr (pe_bm PySem.F.plainAttrs_list PySem.F.slot_list_append PySem.F.type_list_append mt_append (pe_fld (pv 0) rfl) (pa_cons (pe_ix ix_list (pv 1) pe_int (fun _ _ => rfl)) pa_nil)))
      (pss_cons (ps_expr (pe_bm PySem.F.plainAttrs_list PySem.F.slot_list_append PySem.F.type_list_append mt_append (pe_fld (pv 0) rfl) (pa_cons (pv 3) pa_nil)))
      (pss_cons (ps_expr (pe_bm PySem.F.plainAttrs_list PySem.F.slot_list_append PySem.F.type_list_append mt_append (pe_fld (pv 0) rfl) (pa_cons (pv 4) pa_nil)))
      (pss_one (ps_ret pe_bl))))))))))), ?_⟩
    have b6 := W.b6
    have d8 := W.d8
    -- len(words) < 2 or len(draft.doors) == MOST_DOORS
    refine ⟨_, rfl, aw, _, rfl, .inl hw, _, _, rfl, rfl, _, rfl, ?_⟩
    rw [List.length_map]
    refine ite2 (fun h1 => ?_) (fun h1 => ?_)
    · have h1 := of_decide_eq_true h1
      refine iteT ?_
      exact kN (stepDoor_none (.inl fun q => by
        rw [wd_out (by omega), good_empty] at q
        exact Bool.noConfusion q.2.2.1)) _ A5.same
    have h1 : ¬ ((words.length : Int) < 2) := fun q => h1 (decide_eq_true q)
    refine ⟨_, rfl, p, C, dx, _, _, rfl, A5.hp, TC.cl, TC.nd, netF_d .., ld, _, rfl, .inl (SqL.of A5.h1), rfl, _, rfl, ?_⟩
    refine ite2 (fun h2 => ?_) (fun h2 => ?_)
    · have h2 := V.int.inj (of_decide_eq_true h2)
      rw [List.length_map] at h2
      exact kN (stepDoor_none (.inl fun q => by omega)) _ A5.same
    have h2 : st.doors.length < 8 := by
      have : ¬ (st.doors.length : Int) = 8 := fun q => h2 (decide_eq_true (by rw [List.length_map]; exact congrArg V.int q))
      omega
    have g1 := wd_lt (words := words) (i := 1) (by omega)
    have z1 := hz _ (List.mem_of_getElem? g1)
    -- not good_name(words[1]) or words[1] in draft.doors or ">" not in words
    refine ⟨_, rfl, aw, _, _, _, rfl, rfl, hw, at_of (j := 1) rfl (str_at g1), wd words 1, rfl, by omega, _, rfl, ?_⟩
    cases eg : goodName (wd words 1) with
    | false =>
      refine iteT (iteT ?_)
      exact kN (stepDoor_none (.inl fun q => by rw [eg] at q; exact Bool.noConfusion q.2.2.1)) _ A5.same
    | true =>
      refine iteF ?_
      refine ⟨_, rfl, aw, _, _, _, rfl, rfl, hw, at_of (j := 1) rfl (str_at g1), _, rfl, p, C, dx, _, _, rfl, A5.hp, TC.cl, TC.nd, netF_d .., _, ld, st.doors, rfl, rfl, SqL.of A5.h1, _, rfl, ?_⟩
      by_cases hm : wd words 1 ∈ st.doors
      case pos =>
        rw [decide_eq_true hm]
        refine iteT (iteT ?_)
        exact kN (stepDoor_none (.inl fun q => q.2.2.2 hm)) _ A5.same
      rw [decide_eq_false hm]
      refine iteF ?_
      refine ⟨_, rfl, _, aw, words, rfl, rfl, hw, _, rfl, ?_⟩
      by_cases hgt : (">" : Str) ∈ words
      case neg =>
        rw [decide_eq_false hgt]
        refine iteT ?_
        exact kN (stepDoor_none (.inl fun q => hgt q.1)) _ A5.same
      rw [decide_eq_true hgt]
      refine iteF ?_
      -- at = words.index(">")
      refine ⟨_, rfl, .inl ⟨rfl, _, hw⟩, aw, words, _, rfl, rfl, hw, hgt, ?_⟩
      -- taken = part_of(words[2:at], draft.bowls)
      refine ⟨_, rfl, _, rfl, _, rfl, _, rfl, aw, _, rfl, hw, fun p1 np1 => ?_⟩
      have s1 := same_upd (o := .lst (cutV (words.map V.str) (some 2) (some ((idx (">" : Str) words : Nat) : Int)))) np1
      have A1 := A5.more s1
      have e1 : upd H p1 (.lst (cutV (words.map V.str) (some 2) (some ((idx (">" : Str) words : Nat) : Int)))) p1 = some (.lst ((partA words).map V.str)) := by
        rw [upd_same, show (some (2 : Int)) = some ((2 : Nat) : Int) from rfl, map_cut_ab]
        rfl
      generalize upd H p1 (.lst (cutV (words.map V.str) (some 2) (some ((idx (">" : Str) words : Nat) : Int)))) = Ha at s1 A1 e1 ⊢
      -- what comes behind the second call, whatever the first gave
      refine ⟨_, rfl, p, C, dx, _, _, rfl, A1.hp, TC.cl, TC.nb, netF_b .., p1, lb, partA words, st.bowls, rfl, SqL.of e1, SqL.of A1.h0, by have := partA_len words; omega, fun z h => hz z (partA_mem h), b6, W.bnd, fun hN Hb s2 => ?_, fun BA hA Hb t s2 ft ht => ?_⟩
      · have A2 := A1.more s2
        have s12 := s1.trans s2
        refine ⟨_, rfl, _, rfl, _, _, rfl, rfl, _, rfl, aw, _, rfl, s12.seq hw, fun p2 np2 => ?_⟩
        have s3 := same_upd (o := .lst (cutV (words.map V.str) (some (((idx (">" : Str) words : Nat) : Int) + 1)) none)) np2
        have A3 := A2.more s3
        have e3 : upd Hb p2 (.lst (cutV (words.map V.str) (some (((idx (">" : Str) words : Nat) : Int) + 1)) none)) p2 = some (.lst ((partB words).map V.str)) := by
          rw [upd_same, show ((idx (">" : Str) words : Nat) : Int) + 1 = ((idx (">" : Str) words + 1 : Nat) : Int) from rfl, map_cut_a]
          rfl
        generalize upd Hb p2 (.lst (cutV (words.map V.str) (some (((idx (">" : Str) words : Nat) : Int) + 1)) none)) = Hc at s3 A3 e3 ⊢
        refine ⟨_, rfl, p, C, dx, _, _, rfl, A3.hp, TC.cl, TC.nb, netF_b .., p2, lb, partB words, st.bowls, rfl, SqL.of e3, SqL.of A3.h0, by have := partB_len words; omega, fun z h => hz z (partB_mem h), b6, W.bnd, fun hN2 Hd s4 => ?_, fun BB hB Hd g s4 fg hg => ?_⟩
        · refine ⟨_, rfl, _, rfl, ?_⟩
          refine iteT (iteT ?_)
          exact kN (stepDoor_none (.inr (.inl hN))) _ (A3.more s4).same
        · refine ⟨_, rfl, _, rfl, ?_⟩
          refine iteT (iteT ?_)
          exact kN (stepDoor_none (.inr (.inl hN))) _ (A3.more s4).same
      · have A2 := A1.more s2
        have s12 := s1.trans s2
        refine ⟨_, rfl, _, rfl, _, _, rfl, rfl, _, rfl, aw, _, rfl, s12.seq hw, fun p2 np2 => ?_⟩
        have s3 := same_upd (o := .lst (cutV (words.map V.str) (some (((idx (">" : Str) words : Nat) : Int) + 1)) none)) np2
        have A3 := A2.more s3
        have e3 : upd Hb p2 (.lst (cutV (words.map V.str) (some (((idx (">" : Str) words : Nat) : Int) + 1)) none)) p2 = some (.lst ((partB words).map V.str)) := by
          rw [upd_same, show ((idx (">" : Str) words : Nat) : Int) + 1 = ((idx (">" : Str) words + 1 : Nat) : Int) from rfl, map_cut_a]
          rfl
        generalize upd Hb p2 (.lst (cutV (words.map V.str) (some (((idx (">" : Str) words : Nat) : Int) + 1)) none)) = Hc at s3 A3 e3 ⊢
        refine ⟨_, rfl, p, C, dx, _, _, rfl, A3.hp, TC.cl, TC.nb, netF_b .., p2, lb, partB words, st.bowls, rfl, SqL.of e3, SqL.of A3.h0, by have := partB_len words; omega, fun z h => hz z (partB_mem h), b6, W.bnd, fun hN2 Hd s4 => ?_, fun BB hB Hd g s4 fg hg => ?_⟩
        · refine ⟨_, rfl, _, rfl, ?_⟩
          refine iteF ?_
          refine ⟨_, rfl, _, rfl, ?_⟩
          refine iteT ?_
          exact kN (stepDoor_none (.inr (.inr hN2))) _ (A3.more s4).same
        · refine ⟨_, rfl, _, rfl, ?_⟩
          refine iteF ?_
          refine ⟨_, rfl, _, rfl, ?_⟩
          refine iteF ?_
          have A4 := A3.more s4
          have D := dis_of A4.nd
          have s14 := (s12.trans s3).trans s4
          have ht4 := s4 _ _ (s3 _ _ ht)
          have ft1 : H t = none := s1.free ft
          have fg1 : H g = none := s12.free (s3.free fg)
          have ftg : t ≠ g := ne_of_none (s3 _ _ ht) fg
          -- draft.doors.append(words[1]); draft.takes.append(taken); draft.gives.append(given)
          refine ⟨_, rfl, p, C, dx, _, _, rfl, A4.hp, TC.cl, TC.nd, netF_d .., .inl ⟨rfl, _, SqL.of A4.h1⟩, _, rfl, aw, _, _, _, rfl, rfl, s14.seq hw, at_of (j := 1) rfl (str_at g1), ld, _, _, rfl, rfl, A4.h1, by rw [List.length_map]; exact small1000 (by omega), ?_⟩
          have tl8 := W.tlen
          have gl8 := W.glen
          have tt8 : ts.length ≤ 8 := by rw [A4.ct.1, ← rT.1]; omega
          have gg8 : gs.length ≤ 8 := by rw [A4.cg.1, ← rG.1]; omega
          have hp1 : upd Hd ld (.lst (st.doors.map V.str ++ [V.str (wd words 1)])) p = some (.ins C dx (netF lb ld lt lg lf)) := by rw [upd_ne D.p1]; exact A4.hp
          have ht1 : upd Hd ld (.lst (st.doors.map V.str ++ [V.str (wd words 1)])) lt = some (.lst (ts.map V.ref)) := by rw [upd_ne D.d12.symm]; exact A4.h2
          refine ⟨_, rfl, p, C, dx, _, _, rfl, hp1, TC.cl, TC.nt, netF_t .., .inl ⟨rfl, _, SqL.of ht1⟩, _, rfl, lt, _, _, rfl, rfl, ht1, by rw [List.length_map]; exact small1000 (by omega), ?_⟩
          have hp2 : upd (upd Hd ld (.lst (st.doors.map V.str ++ [V.str (wd words 1)]))) lt (.lst (ts.map V.ref ++ [V.ref t])) p = some (.ins C dx (netF lb ld lt lg lf)) := by rw [upd_ne D.p2]; exact hp1
          have hg2 : upd (upd Hd ld (.lst (st.doors.map V.str ++ [V.str (wd words 1)]))) lt (.lst (ts.map V.ref ++ [V.ref t])) lg = some (.lst (gs.map V.ref)) := by rw [upd_ne D.d23.symm, upd_ne D.d13.symm]; exact A4.h3
          refine ⟨_, rfl, p, C, dx, _, _, rfl, hp2, TC.cl, TC.ng, netF_g .., .inl ⟨rfl, _, SqL.of hg2⟩, _, rfl, lg, _, _, rfl, rfl, hg2, by rw [List.length_map]; exact small1000 (by omega), ?_⟩
          refine kS _ (stepDoor_some ⟨hgt, h2, eg, hm⟩ hA hB) _ ⟨dx, lb, ld, lt, lg, lf, ts ++ [t], gs ++ [g], TT ++ [vec st.bowls BA], GG ++ [vec st.bowls BB], ?_, rT.snoc (bagOf_ok hA), rG.snoc (bagOf_ok hB)⟩
          exact A4.door (wd words 1) ht4 hg (A5.same.free ft1) (A5.same.free fg1) ftg (A5.notin ft1) (A5.notin fg1)
/-! ### a row -/
def spRow (K : PySem.W.Frag) (C : Addr) : Sp := fun vs H Q _ => ∃ (H0 : Hp) (p : Addr) (row : Str) (s : S), vs = [.ref p, .str row] ∧ DraftAt C H0 H p s ∧ WF s ∧ row.length ≤ 90000 ∧
  (stepRow s row = none → ∀ H', Same H0 H' → Q (.bl false) H') ∧ (∀ s', stepRow s row = some s' → ∀ H', DraftAt C H0 H' p s' → Q (.bl true) H')
theorem empty_eq : ("" : Str) = Str.empty := by decide +kernel
theorem hash_eq : ("#" : Str) = ⟨#[35]⟩ := by decide +kernel
theorem sign_hash {c : Nat} : (V.str ⟨#[c]⟩ = V.str ("#" : Str)) ↔ c = 35 := by
  rw [hash_eq]
  constructor
  · intro h
    have h1 := congrArg Str.cps (V.str.inj h)
    have h2 : #[c] = #[35] := h1
    simpa using h2
  · rintro rfl
    rfl
theorem head_ne {row : Str} (h : row ≠ Str.empty) : ∃ c r, tl row = c :: r := by
  cases e : tl row with
  | nil => exact absurd (ext_tl (e.trans (show ([] : List Nat) = tl Str.empty from rfl))) h
  | cons c r => exact ⟨c, r, rfl⟩
theorem DraftAt.same0 {C : Addr} {H0 H : Hp} {p : Addr} {s : S} (h : DraftAt C H0 H p s) : Same H0 H := by
  obtain ⟨_, _, _, _, _, _, _, _, _, _, A, _⟩ := h
  exact A.same
theorem DraftAt.more {C : Addr} {H0 H H1 : Hp} {p : Addr} {s : S} (h : DraftAt C H0 H p s) (k : Same H H1) : DraftAt C H0 H1 p s := by
  obtain ⟨a, b, c, d, e, f, g, i, j, l, A, r1, r2⟩ := h
  exact ⟨a, b, c, d, e, f, g, i, j, l, A.more k, r1, r2⟩
abbrev s_row_taken : Stmt := topS 23
abbrev N_row_taken : List Str := ["draft", "row", "words"]
theorem sc_row_taken : FnScope ["draft", "row", "words"] ["draft", "row"] (defScope s_row_taken) := ⟨rfl, rfl, rfl, by decide +kernel, rfl, by decide +kernel, by decide +kernel⟩
theorem ok_row_taken {f f1 f2 f3 f4 f5 C : Addr} {fd fd1 fd2 fd3 fd4 fd5 : FuncData} (T : Txt K mg) (TC : CTxt K C) (L_count_of : Lk K mg "count_of" s_count_of f1 fd1 ["word"]) (L_good_name : Lk K mg "good_name" s_good_name f2 fd2 ["name"]) (L_part_of : Lk K mg "part_of" s_part_of f3 fd3 ["words", "bowls"])
    (L_bowl_taken : Lk K mg "bowl_taken" s_bowl_taken f4 fd4 ["draft", "words"]) (L_door_taken : Lk K mg "door_taken" s_door_taken f5 fd5 ["draft", "words"]) (L_row_taken : Lk K mg "row_taken" s_row_taken f fd ["draft", "row"]) :
    FnOk P w K mg base CX0 4 f fd ["draft", "row"] (spRow K C) := by
  have G_bowl_taken : FnOk P w K mg base CX0 2 f4 fd4 ["draft", "words"] (spBowl K C) := ok_bowl_taken T TC L_count_of L_good_name L_bowl_taken
  have G_door_taken : FnOk P w K mg base CX0 3 f5 fd5 ["draft", "words"] (spDoor K C) := ok_door_taken T TC L_count_of L_good_name L_part_of L_door_taken
  refine L_row_taken.fn.ok sc_row_taken (fun vs H Q E h => ?_) (fun cdv A outer s H vs Q E hr h => ?_)
  · obtain ⟨H0, p, row, s, rfl, _⟩ := h
    rfl
  · obtain ⟨H0, p, row, st, rfl, hD, W, hl, kN, kS⟩ := h
    refine ⟨_, (pss_cons (ps_if (PW.pt (pw_or (pt_cmpR op_eq (pv 1) pe_str (nomark _)) (pw_or1 (pt_cmpR op_eq (pe_ix ix_str (pv 1) pe_int (fun _ _ => rfl)) pe_str (nomark _))))) (pss_one (ps_ret pe_bl)) pss_nil)
      (pss_cons (ps_set (i := 2) sc_row_taken.nd rfl (Or.inl rfl) (pe_split (pv 1) pe_str))
      (pss_cons (ps_if (pt_cmpR op_eq (pe_ix ix_list (pv 2) pe_int (fun _ _ => rfl)) pe_str (nomark _)) (pss_one (ps_ret (pe_call G_bowl_taken (hr.mono (by decide)) (by rfl) L_bowl_taken.g L_bowl_taken.fn.kp L_bowl_taken.b .nil pass0 (pa_cons (pv 0) (pa_cons (pv 2) pa_nil))))) pss_nil)
      (pss_cons (ps_if (pt_cmpR op_eq (pe_ix ix_list (pv 2) pe_int (fun _ _ => rfl)) pe_str (nomark _)) (pss_one (ps_ret (pe_call G_door_taken (hr.mono (by decide)) (by rfl) L_door_taken.g L_door_taken.fn.kp L_door_taken.b .nil pass0 (pa_cons (pv 0) (pa_cons (pv 2) pa_nil))))) pss_nil)
      (pss_one (ps_ret pe_bl)))))), ?_⟩
    have hsz : row.length + 2 ≤ sizeLine := small_of (by omega)
    refine ⟨_, rfl, rfl, _, rfl, ?_⟩
    by_cases h1 : row = Str.empty
    case pos =>
      rw [decide_eq_true (show V.str row = V.str ("" : Str) by rw [h1, empty_eq])]
      refine iteT (iteT ?_)
      exact kS st (by unfold stepRow; exact if_pos (.inl h1)) _ hD
    rw [decide_eq_false (show ¬ V.str row = V.str ("" : Str) from fun q => h1 ((vstr_inj q).trans empty_eq))]
    refine iteF ?_
    obtain ⟨c, r, e⟩ := head_ne h1
    refine ⟨_, rfl, _, _, _, rfl, rfl, by omega, at0 e, rfl, _, rfl, ?_⟩
    by_cases h2 : c = 35
    case pos =>
      rw [decide_eq_true (sign_hash.mpr h2)]
      refine iteT ?_
      exact kS st (by unfold stepRow; exact if_pos (.inr (by rw [e, h2]; rfl))) _ hD
    rw [decide_eq_false fun q => h2 (sign_hash.mp q)]
    refine iteF ?_
    have hno : ¬ (row = Str.empty ∨ (tl row).head? = some 35) := by
      rintro (q | q)
      · exact h1 q
      · rw [e] at q
        exact h2 (Option.some.inj q)
    -- words = row.split(" ")
    refine ⟨_, rfl, ⟨_, rfl⟩, row, _, rfl, rfl, by decide +kernel, hsz, fun pw npw => ?_⟩
    have sw : Same H (upd H pw (.lst ((wordsOf row).map V.str))) := same_upd npw
    have hw : upd H pw (.lst ((wordsOf row).map V.str)) pw = some (.lst ((wordsOf row).map V.str)) := upd_same
    obtain ⟨w1, w2, w3⟩ := words_facts row
    have l0 : 0 < (wordsOf row).length := List.length_pos_iff.mpr w1
    have g0 := wd_lt l0
    have hD1 := hD.more sw
    have wz : ∀ z ∈ wordsOf row, z.length < sizeLine := fun z hz => by have := w3 z hz; omega
    refine ⟨_, rfl, pw, _, _, _, rfl, rfl, SqL.of hw, at_of (j := 0) rfl (str_at g0), rfl, _, rfl, ?_⟩
    by_cases h3 : wd (wordsOf row) 0 = ("bowl" : Str)
    · rw [decide_eq_true (congrArg V.str h3)]
      refine iteT ?_
      have es : stepRow st row = stepBowl st (wordsOf row) := by unfold stepRow; rw [if_neg hno, if_pos h3]
      rw [es] at kN kS
      exact ⟨_, rfl, _, rfl, H0, p, pw, wordsOf row, st, rfl, hD1, W, SqL.of hw, by omega, wz, kN, kS⟩
    · rw [decide_eq_false fun q => h3 (vstr_inj q)]
      refine iteF ?_
      refine ⟨_, rfl, pw, _, _, _, rfl, rfl, SqL.of hw, at_of (j := 0) rfl (str_at g0), rfl, _, rfl, ?_⟩
      by_cases h4 : wd (wordsOf row) 0 = ("door" : Str)
      · rw [decide_eq_true (congrArg V.str h4)]
        refine iteT ?_
        have es : stepRow st row = stepDoor st (wordsOf row) := by unfold stepRow; rw [if_neg hno, if_neg h3, if_pos h4]
        rw [es] at kN kS
        exact ⟨_, rfl, _, rfl, H0, p, pw, wordsOf row, st, rfl, hD1, W, SqL.of hw, by omega, wz, kN, kS⟩
      · rw [decide_eq_false fun q => h4 (vstr_inj q)]
        refine iteF ?_
        have es : stepRow st row = none := by unfold stepRow; rw [if_neg hno, if_neg h3, if_neg h4]
        exact kN es _ (hD1.same0)
/-! ### widened -/
def spWid (K : PySem.W.Frag) : Sp := fun vs H Q _ => ∃ (a : Addr) (xs : List Int) (n : Nat), vs = [.ref a, .int (n : Int)] ∧ H a = some (cellI xs) ∧ xs.length ≤ n ∧ n ≤ 1000 ∧ ∀ p H', Same H H' → H p = none → H' p = some (cellI (xs ++ List.replicate (n - xs.length) 0)) → Q (.ref p) H'
theorem rep_flat (k : Nat) (v : V) : (List.replicate k [v]).flatten = List.replicate k v := by
  induction k with
  | zero => rfl
  | succ k ih =>
    rw [List.replicate_succ, List.flatten_cons, ih]
    rfl
abbrev s_widened : Stmt := topS 24
abbrev N_widened : List Str := ["bag", "width"]
theorem sc_widened : FnScope ["bag", "width"] ["bag", "width"] (defScope s_widened) := ⟨rfl, rfl, rfl, by decide +kernel, rfl, by decide +kernel, by decide +kernel⟩
theorem ok_widened {f : Addr} {fd : FuncData} (T : Txt K mg) (L_widened : Lk K mg "widened" s_widened f fd ["bag", "width"]) : FnOk P w K mg base CX0 1 f fd ["bag", "width"] (spWid K) := by
  refine L_widened.fn.ok sc_widened (fun vs H Q E h => ?_) (fun cdv A outer s H vs Q E hr h => ?_)
  · obtain ⟨a, xs, n, rfl, _⟩ := h
    rfl
  · obtain ⟨a, xs, n, rfl, ha, hl, hn, k⟩ := h
    refine ⟨_, (pss_one (ps_ret (pe_op op_cat (pv 0) (pe_op op_rep (pe_lst (pa_cons pe_int pa_nil)) (pe_op op_sub (pv 1) (pe_callB call_len_seq (by rfl) T.len PySem.boot_len (pa_cons (pv 0) pa_nil))))))), ?_⟩
    have ha' : H a = some (.lst (xs.map V.int)) := ha
    refine ⟨_, rfl, small_of (by show 1 ≤ _; omega), fun p1 n1 => ?_⟩
    have s1 := same_upd (o := .lst [V.int 0]) n1
    refine ⟨_, rfl, _, rfl, a, _, rfl, .inl (SqL.of (s1 _ _ ha')), _, _, rfl, rfl, ?_⟩
    rw [List.length_map]
    refine ⟨p1, _, [V.int 0], rfl, rfl, upd_same, by omega, by omega, small_of (by show 1 * _ ≤ _; omega), fun p2 n2 => ?_⟩
    rw [rep_flat, show ((n : Int) - (xs.length : Int)).toNat = n - xs.length by omega]
    have s2 := s1.trans (same_upd (o := .lst (List.replicate (n - xs.length) (V.int 0))) n2)
    refine ⟨a, p2, _, _, rfl, rfl, s2 _ _ ha', upd_same, small_of (by rw [List.length_map, List.length_replicate]; omega), fun p3 n3 => ?_⟩
    refine k p3 _ (s2.trans (same_upd n3)) (s2.free n3) ?_
    rw [upd_same]
    unfold cellI
    rw [List.map_append, List.map_replicate]
end
end BH

set_option Elab.async false
set_option linter.all false
set_option maxRecDepth 100000
set_option maxHeartbeats 4000000
/-! A loop over enumerate(xs, start=1). -/
namespace BH
open PySem TL L2 PyProof.Rows
section
variable {M : Model} {A : Around} {E : Value → Shared → Prop}
/-- a type is called with keywords: the arguments first, then the call -/
theorem type_kw {s : Shared} {at_ : Pos} {ty : String} {front : List Value} {es : List (Bool × Sem Value)} {ks : List (Option Str × Sem Value)} {Q : Value → Shared → Prop} (noStar : es.any (·.1) = false) (named : ks.any (·.1.isNone) = false)
    (k : wpAny M A (evalArgs (.type ty) true es ks) (fun got s' => wpAny M A (call (.type ty) (front ++ got.pos) got.kw) Q E s') E s) : wpAny M A (callWith at_ (.type ty) front es ks) Q E s := by
  unfold callWith
  apply wpAny_bind
  apply wpAny_holding
  refine wpAny_mono k (fun got s1 kg => ?_) fun _ _ z => z
  apply wpAny_bind
  apply wpAny_standAt
  rw [noStar, named]
  apply wpAny_bind
  apply wpAny_pure
  apply wpAny_bind
  refine wpAny_mono kg (fun v s2 kv => ?_) fun _ _ z => z
  apply wpAny_bind
  apply wpAny_holding
  apply wpAny_point
  exact wpAny_pure kv
/-- the same, over the text of the call -/
theorem type_kw_text {s : Shared} {env : Env} {at_ : Pos} {ty : String} {a : Expr} {as : List Expr} {kws : List Keyword} {Q : Value → Shared → Prop} (first : backTo at_ (starEach (a :: as) env) = (false, eval a env) :: backTo at_ (starEach as env)) (noStar : (backTo at_ (starEach (a :: as) env)).any (·.1) = false)
    (some_ : (backToKw at_ (keywordEach kws env)).all (·.1.isSome) = true) (named : (backToKw at_ (keywordEach kws env)).any (·.1.isNone) = false)
    (k : wpAny M A (spliced (backTo at_ (starEach (a :: as) env))) (fun vs s1 => wpAny M A (evalAll ((backToKw at_ (keywordEach kws env)).map (·.2))) (fun ws s2 => wpAny M A (call (.type ty) vs (((backToKw at_ (keywordEach kws env)).filterMap (·.1)).zip ws)) Q E s2) E s1) E s) :
    wpAny M A (callWith at_ (.type ty) [] (backTo at_ (starEach (a :: as) env)) (backToKw at_ (keywordEach kws env))) Q E s := by
  refine type_kw noStar named ?_
  rw [first] at k ⊢
  exact evalArgs_kwB some_ k
end
/-- a list is neither the enumerate nor the iterator in it -/
theorem list_no_iter {h : Heap} {a b l : Addr} {xs : Array Value} {i : Nat} (hl : h.IsList a xs) (hi : h.IsListIter b l i) : a ≠ b := fun z => by
  obtain ⟨o1, g1, c1, _⟩ := hl
  obtain ⟨o2, g2, c2, _⟩ := hi
  have same : o1 = o2 := Option.some.inj (g1.symm.trans (by rw [z]; exact g2))
  rw [same] at c1
  have bad := c1.symm.trans c2
  injection bad with bad
  exact absurd bad (by decide)
theorem list_no_enum {h : Heap} {a b l : Addr} {xs : Array Value} {i : Int} {old : Value} (hl : h.IsList a xs) (he : IsEnum h b l i old) : a ≠ b := fun z => by
  obtain ⟨o1, g1, c1, _⟩ := hl
  have g2 : h.get? b = _ := he
  rw [z, g2] at g1
  have same := Option.some.inj g1
  rw [← same] at c1
  injection c1 with bad
  exact absurd bad (by decide)
/-- what stands between the turns: the enumerate at b at its number, its iterator at l -/
def NumAt (b l a : Addr) (i : Nat) (h : Heap) : Prop := (∃ old, IsEnum h b l (1 + (i : Nat)) old) ∧ h.IsListIter l a i ∧ b ≠ l
/-- enumerate(xs, start=1), xs at a -/
def ItN (K : PySem.W.Frag) (a : Addr) (xs : List V) : It where
  go i H := SqL K H a xs ∧ i < xs.length
  yld i H v H' := ∃ T x, v = .ref T ∧ H T = none ∧ H' = upd H T (.tup [.int (1 + (i : Nat)), x]) ∧ xs[i]? = some x
  stop i H := SqL K H a xs ∧ i = xs.length
theorem two_of {b c d : Addr} (h : b ∈ [c, d]) : b = c ∨ b = d := by
  rcases List.mem_cons.mp h with z | z
  · exact .inl z
  · exact .inr (List.mem_singleton.mp z)
theorem turn_num {P : Program} {w : World} {K : PySem.W.Frag} {elts : List Expr} {kk : Nat} {tpos : Pos} (a b l : Addr) (xs : List V) : Turn P w K (.Tuple elts kk tpos) (ItN K a xs) [b, l] b (NumAt b l a) where
  mem := List.mem_cons_self ..
  obj := by
    rintro i h ⟨⟨old, en⟩, ⟨o, g, _, dat⟩, _⟩ c hc
    rcases two_of hc with z | z <;> subst z
    · exact ⟨_, en, fun v q => nomatch q⟩
    · refine ⟨o, g, fun v q => ?_⟩
      rw [dat] at q
      cases q
  keep := by
    rintro i h h' ⟨⟨old, en⟩, li, ne⟩ keeps
    have inB : b ∈ [b, l] := List.mem_cons_self ..
    have inL : l ∈ [b, l] := List.mem_cons_of_mem _ (List.mem_singleton.mpr rfl)
    exact ⟨⟨old, keeps b inB _ en⟩, li.at fun o g => keeps l inL o g, ne⟩
  item := by
    rintro X rfl rfl rfl hc i pins s σ H E I free ⟨⟨old, en⟩, li, ne⟩ ⟨hq, lt⟩
    obtain ⟨its, vals, pl, _⟩ := I.list hq
    have len := vals.length
    have nal := list_no_iter pl.isList li
    have nab := list_no_enum pl.isList en
    have sizeB : b < s.heap.objs.size := Heap.lt_size en
    have sizeL : l < s.heap.objs.size := by
      obtain ⟨_, g, _⟩ := li
      exact Heap.lt_size g
    obtain ⟨v, hv⟩ : ∃ v, xs[i]? = some v := ⟨_, List.getElem?_eq_getElem lt⟩
    obtain ⟨u, hu, ru⟩ := vals.get hv
    have here : i < its.toArray.size := by
      rw [List.size_toArray]
      omega
    have apart : b ∉ [l, a] := fun m => (two_of m).elim ne (Ne.symm nab)
    refine wpAny_pyNext_enum_itemC (i := i) (Draws.list (prog := X.prog) (w := X.w) (A := X.A.in1) (I.ok.hd hc) l a nal its.toArray) en ⟨li, pl.isList⟩ here ne apart fun x h1 tk at_i out st1 made grown old1 => ?_
    have ux : u = x := by
      have at_i' : its[i]? = some x := by simpa using at_i
      exact Option.some.inj (hu.symm.trans at_i')
    subst ux
    refine ⟨_, rfl, wpAny_letOwnedTupleGo_enum (s := { s with heap := h1, toks := tk + 1 }) out fun h2 en2 but => ?_⟩
    have pair : h2.get? s.heap.objs.size = some { cls := .type "tuple", data := .seq #[.int (1 + (i : Nat)) tk, u] } := (but.2 _ (Nat.ne_of_gt sizeB)).trans made
    have okPair : ObjOk X.prog X.w (upd H s.heap.objs.size (.tup [.int (1 + (i : Nat)), v])) h2 s.heap.objs.size (.tup [.int (1 + (i : Nat)), v]) :=
      ⟨small_of (by show 2 ≤ 16777216; decide), [.int (1 + (i : Nat)) tk, u], .cons ⟨_, rfl⟩ (.cons ru .nil), ⟨_, pair, rfl, _, rfl⟩⟩
    have stays : ∀ c o, c ∉ [b, l] → s.heap.get? c = some o → h2.get? c = some o := fun c o out g => by
      have nb : c ≠ b := fun z => out (by rw [z]; exact List.mem_cons_self ..)
      have nl : c ≠ l := fun z => out (by rw [z]; exact List.mem_cons_of_mem _ (List.mem_singleton.mpr rfl))
      exact (but.2 c nb).trans (old1 c o nb nl g)
    have I2 := I.turnedNew (t' := tk + 1) (ch := [b, l]) stays free (Nat.le_refl _) okPair
    refine ⟨.ref s.heap.objs.size, _, I2, rfl, ⟨_, v, rfl, I.hok.fresh (Nat.le_refl _), rfl, hv⟩, ⟨⟨u, ?_⟩, st1.1.at fun o g => (but.2 l (Ne.symm ne)).trans g, ne⟩, fun c hc => ?_⟩
    · rw [show (1 : Int) + ((i + 1 : Nat) : Int) = 1 + (i : Int) + 1 by omega]
      exact en2
    · have lt2 : c < s.heap.objs.size := by
        rcases two_of hc with z | z
        · exact z ▸ sizeB
        · exact z ▸ sizeL
      exact (upd_ne (Nat.ne_of_lt lt2)).trans (free c hc).1
  done := by
    rintro X rfl rfl rfl hc i pins s σ H E I free ⟨⟨old, en⟩, li, ne⟩ ⟨hq, last⟩
    obtain ⟨its, vals, pl, _⟩ := I.list hq
    have len := vals.length
    have size : its.toArray.size = i := by
      rw [List.size_toArray]
      omega
    obtain ⟨q0, q1, _, q3, q4, q5⟩ := free l (List.mem_cons_of_mem _ (List.mem_singleton.mpr rfl))
    refine wpAny_pyNext_enum_endD (Draws.list (prog := X.prog) (w := X.w) (A := X.A.in1) (I.ok.hd hc) l a (list_no_iter pl.isList li) its.toArray) en (by rw [size]; exact ⟨li, pl.isList⟩) fun h1 but => ⟨rfl, ?_⟩
    exact I.turned (t' := s.toks) (fun c o nc g => but c o nc g) q0 q1 q3 q4 q5
  self := by
    rintro A i s Q E ⟨⟨_, en⟩, _⟩ k
    exact wpAny_pyIter_enum en k
def iNum (K : PySem.W.Frag) (ta : TA) : TI := fun σ H R => ta σ H fun vs H1 => ∃ (a : Addr) (xs : List V), vs = [.ref a] ∧ SqL K H1 a xs ∧ R (ItN K a xs) H1
theorem walk_enum1 {K : PySem.W.Frag} {a : Addr} {xs : List V} : Walk (ItN K a xs) xs.length (fun H => SqL K H a xs) (YPair (fun i => some (.int (1 + (i : Nat)))) (fun i => xs[i]?)) :=
  ⟨fun i _ lt q => ⟨q, lt⟩, fun _ q => ⟨q, rfl⟩, fun i H v H' _ q ⟨T, x, y1, y2, y3, y4⟩ => ⟨T, .int (1 + (i : Nat)), x, y1, y2, y3, rfl, y4⟩⟩
theorem pi_enum1 {X : Cx} {e : Expr} {ta : TA} {p kp pos tpos cpos : Pos} {cj : Nat} {elts : List Expr} {kk : Nat} (hg : Gl X "enumerate") (hm : X.mg "enumerate" = none) (ha : PA X [e] ta) (one : starEach [e] X.env = (false, eval e X.env) :: starEach [] X.env := by rfl)
    (back : backTo pos (starEach [e] X.env) = (false, eval e X.env) :: backTo pos (starEach [] X.env) := by rfl) (noStar : (backTo pos (starEach [e] X.env)).any (·.1) = false := by rfl) :
    PI X (.Tuple elts kk tpos) (.Call (.Name "enumerate" p) [e] [⟨some "start", .Constant (.int 1) cj cpos, kp⟩] pos) (iNum X.K ta) := by
  constructor
  intro pins s σ H R I h
  refine wpAny_Call_Name_kw (ld_blt I hg hm boot_enumerate ?_)
  refine type_kw_text back noStar rfl rfl (thn (ha.run pos pins s σ H _ I h) ?_)
  rintro us s1 ⟨vs, H1, I1, rel, a, xs, rfl, hq, k⟩
  obtain _ | ⟨ra, rel⟩ := rel
  cases rel
  cases ra
  -- start=1
  have one1 := (pk_cons (nm := some "start") (kpos := kp) (pe_int (X := X) (i := 1) (j := cj) (pos := cpos)) pk_nil).run pos pins s1 σ H1 (fun ws H2 => ws = [V.int 1] ∧ H2 = H1) I1 ⟨rfl, rfl⟩
  refine thn one1 ?_
  rintro ks s2 ⟨ws, H2, I2, rel2, rfl, rfl⟩
  obtain _ | ⟨rn, rel2⟩ := rel2
  cases rel2
  obtain ⟨t, rfl⟩ := rn
  obtain ⟨its, vals, pl, _⟩ := I2.list hq
  refine enum_begins_start (k := 1) (t := t) (begins_list a its.toArray) pl.isList (by decide) (by decide) fun h1 en li grown keeps => wpAny_pyIter_enum en ?_
  have I3 := I2.kept (t' := s2.toks) keeps
  refine ⟨s2.heap.objs.size + 1, [s2.heap.objs.size + 1, s2.heap.objs.size], _, _, H2, rfl, I3, turn_num a (s2.heap.objs.size + 1) s2.heap.objs.size xs, ⟨⟨.none, en⟩, ⟨_, li, rfl, rfl⟩, Nat.succ_ne_self _⟩, fun c hc => ?_, k⟩
  have low : s2.heap.objs.size ≤ c := by
    rcases two_of hc with z | z
    · rw [z]
      omega
    · rw [z]
      exact Nat.le_refl _
  exact I2.fpOk low (I2.hok.fresh low)
end BH

set_option Elab.async false
set_option linter.all false
set_option maxRecDepth 100000
set_option maxHeartbeats 4000000
namespace BH
open PySem TL L2 PyProof.Rows
abbrev s_BadText : Stmt := inClass (topS 3) 0
abbrev N_BadText : List Str := ["self", "words", "row"]
theorem sc_BadText : FnScope ["self", "words", "row"] ["self", "words", "row"] (defScope s_BadText) := ⟨rfl, rfl, rfl, by decide +kernel, rfl, by decide +kernel, by decide +kernel⟩
/-- what the top has written of BadText -/
structure BTxt (K : PySem.W.Frag) (mg : Str → Option Value) (C fI : Addr) (fd : FuncData) : Prop where
  ox : OexC K C
  iC : PySem.W.findIn K (.ref C) "__init__" = some (some (.ref fI))
  tI : PySem.W.typeIn K (.ref fI) = some (.type "function")
  nw : PySem.W.findIn K (.ref C) "words" = some none
  nr : PySem.W.findIn K (.ref C) "row" = some none
  gC : mg "BadText" = some (.ref C)
  fn : Fun K "__init__" "BadText.__init__" s_BadText fI fd
  b : Binds K fd ["self", "words", "row"] []
  te : PySem.W.exmOne K (.ref C) (.ref C) = some true
  xf : XfC K C
theorem At5.rebase {α : Type} {cell : α → HO} {H0 H : Hp} {p a0 a1 a2 a3 a4 q : Addr} {o u : HO} {ts gs : List Addr} {bowls doors : List Str} {T G : List α} {first : List Int} (A : At5 cell H0 H p o a0 a1 a2 a3 a4 ts gs bowls doors T G first) (hq : H q = none) :
    At5 cell (upd H0 q u) (upd H q u) p o a0 a1 a2 a3 a4 ts gs bowls doors T G first := by
  have s := same_upd (o := u) hq
  have nq := A.notin hq
  refine ⟨fun b x e => ?_, fun b hb => ?_, A.nd, s _ _ A.hp, s _ _ A.h0, s _ _ A.h1, s _ _ A.h2, s _ _ A.h3, s _ _ A.h4, A.ct.same s, A.cg.same s⟩
  · by_cases hb : b = q
    · rw [hb, upd_same] at e ⊢
      exact e
    · rw [upd_ne hb] at e ⊢
      exact A.same b x e
  · rw [upd_ne (fun z => nq (by rw [← z]; exact hb))]
    exact A.fresh b hb
section
variable {P : Program} {w : World} {K : PySem.W.Frag} {mg : Str → Option Value} {base : Heap}
/-! ### the error -/
def spBad (C : Addr) : Sp := fun vs H Q _ => ∃ (a : Addr) (z r : V), vs = [.ref a, z, r] ∧ H a = some (exo a C none) ∧
  ∀ d H', H d = none → d ≠ a → H' a = some (exo a C (some d)) → H' d = some (exd d [(("row" : Str), r), (("words" : Str), z)]) → (∀ b u, H b = some u → b ≠ a → H' b = some u) → Q .non H'
theorem ok_BadText {C fI : Addr} {fd : FuncData} (B : BTxt K mg C fI fd) : FnOk P w K mg base CX0 1 fI fd ["self", "words", "row"] (spBad C) := by
  refine B.fn.ok sc_BadText (fun vs H Q E h => ?_) (fun cdv A outer s H vs Q E hr h => ?_)
  · obtain ⟨a, z, r, rfl, _⟩ := h
    rfl
  · obtain ⟨a, z, r, rfl, ha, k⟩ := h
    refine ⟨_, (pss_cons (ps_ost (pv 0) (pv 1) rfl)
      (pss_one (ps_ost (pv 0) (pv 2) rfl))), ?_⟩
    refine ⟨_, rfl, _, rfl, a, C, rfl, B.ox, B.nw, .inl ⟨ha, fun d nd ne => ?_⟩⟩
    refine ⟨_, rfl, _, rfl, a, C, rfl, B.ox, B.nr, .inr ⟨d, [(("words" : Str), z)], upd_same, by rw [upd_ne ne, upd_same], by show 1 ≤ 900; decide, ?_⟩⟩
    refine k d _ nd ne ?_ upd_same fun b u e hb => ?_
    · rw [upd_ne (Ne.symm ne), upd_same]
    · rw [upd_ne (ne_of_none e nd), upd_ne hb, upd_ne (ne_of_none e nd)]
      exact e
/-! ### [widened(bag, width) for bag in bags] -/
theorem wide_lc {σ : L2.St} {H : Hp} {Q : VK} {tl : TE} {a : Addr} {ts : List Addr} {T : List (List Int)} {n : Nat} {E : XK} (htl : ∀ R : VK, R (.ref a) H → tl σ H R) (h2 : (σ.set 7 none)[2]? = some (some (.int (n : Int)))) (hj : 7 < σ.length) (hS : H a = some (.lst (ts.map V.ref))) (ct : CellsAt cellI H ts T)
    (hT : ∀ t ∈ T, t.length ≤ n) (hn : n ≤ 1000) (hl : ts.length ≤ 1000)
    (k : ∀ (D : Addr) (us : List Addr) (H' : Hp), Same H H' → H D = none → H' D = some (.lst (us.map V.ref)) → CellsAt cellI H' us (T.map fun t => t ++ List.replicate (n - t.length) 0) → Q (.ref D) H') :
    tLc (iList K tl) (gName 7) tYes (tCall (spWid K) [] E (tCons (tVar 7) (tCons (tVar 2) tNil))) [7] σ H Q := by
  refine htl _ ⟨a, rfl, ⟨_, SqL.of hS⟩, fun D hD => ?_⟩
  refine lc_list (xs := ts.map V.ref) (fun m H' => ∃ us, Same H H' ∧ H' D = some (.lst (us.map V.ref)) ∧ CellsAt cellI H' us ((T.take m).map fun t => t ++ List.replicate (n - t.length) 0) ∧ us.length ≤ m ∧ ∀ u ∈ us, H u = none ∧ u ≠ D) ⟨[], same_upd hD, upd_same, CellsAt.nil, Nat.le_refl _, fun u h => by simp at h⟩ (fun m H' _ ⟨_, s, _⟩ => SqL.of (s _ _ hS)) ?_ ?_
  · rintro m x H' hx ⟨us, s, eD, cu, hm, fu⟩
    obtain ⟨t, ht, rfl⟩ := refs_get hx
    have hlt : m < T.length := by
      rw [← ct.1]
      exact (List.getElem?_eq_some_iff.mp ht).1
    have hg := List.getElem?_eq_getElem hlt
    have hct := s _ _ (ct.2 m t _ ht hg)
    have tlen := hT _ (List.mem_of_getElem? hg)
    refine ⟨by simp [wipe, List.set_set], tyes ?_⟩
    refine iteT ?_
    refine ⟨.ref t, by rw [List.getElem?_set_self (by simpa [wipe] using hj)], .int (n : Int), ?_, t, T[m], n, rfl, hct, tlen, hn, fun l H2 s2 nl el => ?_⟩
    · rw [List.getElem?_set_ne (by decide)]
      exact h2
    have nDl : D ≠ l := ne_of_none eD nl
    refine ⟨us.map V.ref, s2 _ _ eD, ?_, us ++ [l], ?_, ?_, ?_, ?_, ?_⟩
    · rw [List.length_map]
      have := (List.getElem?_eq_some_iff.mp ht).1
      exact small1000 (by omega)
    · exact same_put (s.trans s2) hD
    · rw [upd_same, List.map_append]
      rfl
    · rw [take_more hg, List.map_append]
      refine (cu.mono fun u hu o e => ?_).snoc ?_
      · rw [upd_ne (fu u hu).2]
        exact s2 _ _ e
      · rw [upd_ne (Ne.symm nDl)]
        exact el
    · rw [List.length_append, List.length_singleton]
      omega
    · refine mem_snoc fu ⟨s.free nl, Ne.symm nDl⟩
  · rintro H' ⟨us, s, eD, cu, _, fu⟩
    rw [List.length_map, ct.1, List.take_length] at cu
    exact k D us H' s hD eD cu
theorem wide_all {bowls : List Str} {Bs : List Bag} {T : List (List Int)} (h : RelAll bowls Bs T) (hn : bowls.Nodup) : T.map (fun t => t ++ List.replicate (bowls.length - t.length) 0) = Bs.map (vec bowls) := by
  refine List.ext_getElem? fun i => ?_
  rw [List.getElem?_map, List.getElem?_map]
  by_cases hi : i < T.length
  · have hb : i < Bs.length := by rw [h.1]; exact hi
    rw [List.getElem?_eq_getElem hi, List.getElem?_eq_getElem hb]
    exact congrArg some ((h.2 i _ _ (List.getElem?_eq_getElem hb) (List.getElem?_eq_getElem hi)).wide hn)
  · rw [List.getElem?_eq_none (by omega), List.getElem?_eq_none (by rw [h.1]; omega)]
    rfl
theorem RelAll.lens {bowls : List Str} {Bs : List Bag} {T : List (List Int)} (h : RelAll bowls Bs T) : ∀ t ∈ T, t.length ≤ bowls.length := fun t ht => by
  obtain ⟨i, hi⟩ := List.mem_iff_getElem?.mp ht
  have hb : i < Bs.length := by rw [h.1]; exact (List.getElem?_eq_some_iff.mp hi).1
  exact (h.2 i _ t (List.getElem?_eq_getElem hb) hi).len
theorem netOk_of {s : S} (W : WF s) (hb : s.bowls ≠ []) : NetOk s.bowls s.doors (s.takes.map (vec s.bowls)) (s.gives.map (vec s.bowls)) s.first := by
  have row : ∀ {Bs : List Bag}, (∀ B ∈ Bs, BagOk s.bowls B) → ∀ t ∈ Bs.map (vec s.bowls), t.length = s.bowls.length ∧ ∀ c ∈ t, 0 ≤ c ∧ c ≤ 1000000000 := fun {Bs} h t ht => by
    obtain ⟨B, hB, rfl⟩ := List.mem_map.mp ht
    refine ⟨vec_len _ _, fun c hc => ?_⟩
    obtain ⟨n, _, rfl⟩ := List.mem_map.mp hc
    exact valB_range (h B hB) n
  exact ⟨List.length_pos_iff.mpr hb, W.b6, W.bgood, W.bnd, W.d8, W.dgood, W.dnd, by rw [List.length_map, W.tlen], by rw [List.length_map, W.glen], row W.tok, row W.gok, W.fl, W.fr⟩
/-! ### read_net -/
def spRead (CN CB : Addr) : Sp := fun vs H Q E => ∃ (text : Str), vs = [.str text] ∧ text.length ≤ 80000 ∧
  (∀ k : Nat, due (Txt.split text ("\n" : Str)) = .error k → ∀ H' d fs, Same H H' → H' d = some (.xd fs) → fs.lookup ("row" : Str) = some (.int (k : Int)) → E (.ref CB) (some d) H') ∧
  (∀ s, due (Txt.split text ("\n" : Str)) = .ok s → ∀ H' p, Same H H' → NetAt CN H' p s.bowls s.doors (s.takes.map (vec s.bowls)) (s.gives.map (vec s.bowls)) s.first → Q (.ref p) H')
abbrev s_read_net : Stmt := topS 25
abbrev N_read_net : List Str := ["text", "draft", "width", "takes", "gives", "at", "row", "bag"]
theorem sc_read_net : FnScope ["text", "draft", "width", "takes", "gives", "at", "row", "bag"] ["text"] (defScope s_read_net) := ⟨rfl, rfl, rfl, by decide +kernel, rfl, by decide +kernel, by decide +kernel⟩
theorem start_draft {C : Addr} {H H1 : Hp} {x dx lb ld lt lg lf : Addr} (nx : H x = none) (ndx : H dx = none) (nd : (x :: lb :: ld :: lt :: lg :: lf :: ([] : List Addr)).Nodup)
    (hl : ∀ l ∈ [lb, ld, lt, lg, lf], (upd (upd H dx (.own x)) x (.ins C dx [])) l = none ∧ H1 l = some (.lst [])) (hp : H1 x = some (.ins C dx (netF lb ld lt lg lf))) (keep : ∀ b u, (upd (upd H dx (.own x)) x (.ins C dx [])) b = some u → b ≠ x → H1 b = some u) :
    DraftAt C H H1 x S0 := by
  refine ⟨dx, lb, ld, lt, lg, lf, [], [], [], [], ⟨Same.made nx ndx keep, fun b hb => ?_, nd, hp, (hl lb (by simp)).2, (hl ld (by simp)).2, (hl lt (by simp)).2, (hl lg (by simp)).2, (hl lf (by simp)).2, CellsAt.nil, CellsAt.nil⟩, RelAll.nil _, RelAll.nil _⟩
  rcases List.mem_cons.mp hb with e | e
  · rw [e]
    exact nx
  · have q := (hl b (by simpa using e)).1
    cases e2 : H b with
    | none => rfl
    | some u =>
      rw [upd_ne (ne_of_none e2 nx), upd_ne (ne_of_none e2 ndx), e2] at q
      cases q
theorem ok_read_net {f CN CD CB fN fD fI f1 f2 f3 f4 f5 f6 f7 g1 g2 g3 : Addr} {fd fdN fdD fdI fd1 fd2 fd3 fd4 fd5 fd6 fd7 gd1 gd2 gd3 : FuncData} (T : Txt K mg) (TN : CTxt K CN) (TD : CTxt K CD) (BT : BTxt K mg CB fI fdI)
    (L_count_of : Lk K mg "count_of" s_count_of f1 fd1 ["word"]) (L_good_name : Lk K mg "good_name" s_good_name f2 fd2 ["name"]) (L_part_of : Lk K mg "part_of" s_part_of f3 fd3 ["words", "bowls"])
    (L_bowl_taken : Lk K mg "bowl_taken" s_bowl_taken f4 fd4 ["draft", "words"]) (L_door_taken : Lk K mg "door_taken" s_door_taken f5 fd5 ["draft", "words"]) (L_row_taken : Lk K mg "row_taken" s_row_taken f6 fd6 ["draft", "row"]) (L_widened : Lk K mg "widened" s_widened f7 fd7 ["bag", "width"])
    (L_look_at_names : Lk K mg "look_at_names" s_look_at_names g1 gd1 ["names", "fewest", "most"]) (L_look_at_bag : Lk K mg "look_at_bag" s_look_at_bag g2 gd2 ["beads", "width"]) (L_look_at_bags : Lk K mg "look_at_bags" s_look_at_bags g3 gd3 ["bags", "many", "width"])
    (FN : Fun K "__init__" "Net.__init__" s_Net fN fdN) (M_Net : Mk K CN fN) (b_Net : Binds K fdN ["self", "bowls", "doors", "takes", "gives", "first"] []) (g_Net : mg "Net" = some (.ref CN))
    (FD : Fun K "__init__" "Draft.__init__" s_Draft fD fdD) (M_Draft : Mk K CD fD) (b_Draft : Binds K fdD ["self"] []) (g_Draft : mg "Draft" = some (.ref CD))
    (L_read_net : Lk K mg "read_net" s_read_net f fd ["text"]) : FnOk P w K mg base (L2.CX P w) 6 f fd ["text"] (spRead CN CB) := by
  have G_row_taken : FnOk P w K mg base CX0 4 f6 fd6 ["draft", "row"] (spRow K CD) := ok_row_taken T TD L_count_of L_good_name L_part_of L_bowl_taken L_door_taken L_row_taken
  have G_widened : FnOk P w K mg base CX0 1 f7 fd7 ["bag", "width"] (spWid K) := ok_widened T L_widened
  have G_Net : FnOk P w K mg base CX0 3 fN fdN ["self", "bowls", "doors", "takes", "gives", "first"] (spNet CN) := ok_Net FN T TN L_good_name L_look_at_names L_look_at_bag L_look_at_bags
  have G_Draft : FnOk P w K mg base CX0 1 fD fdD ["self"] (spDraft CD) := ok_Draft FD TD
  have G_BadText : FnOk P w K mg base CX0 1 fI fdI ["self", "words", "row"] (spBad CB) := ok_BadText BT
  refine L_read_net.fn.okX sc_read_net (fun vs H Q E h => ?_) (fun cdv A outer s H vs Q E hr h => ?_)
  · obtain ⟨text, rfl, _⟩ := h
    rfl
  · obtain ⟨text, rfl, hlen, kE, kQ⟩ := h
    refine ⟨_, (pss_cons (ps_set (i := 1) sc_read_net.nd rfl (Or.inl rfl) (pe_make0 M_Draft G_Draft (hr.mono (by decide)) (by rfl) g_Draft b_Draft .nil pass0))
      (pss_cons (ps_for (passes_of rfl) rfl (pi_enum1 (by rfl) T.enum (pa_cons (pe_split (pv 0) pe_str) pa_nil)) (pg_tup rfl (pgs_cons (pg_name (i := 5) sc_read_net.nd rfl (Or.inl rfl)) (pgs_cons (pg_name (i := 6) sc_read_net.nd rfl (Or.inl rfl)) pgs_nil)))
      (pss_one (ps_if (pt_not (pt_val (pe_call G_row_taken (hr.mono (by decide)) (by rfl) L_row_taken.g L_row_taken.fn.kp L_row_taken.b .nil pass0 (pa_cons (pv 1) (pa_cons (pv 6) pa_nil))))) (pss_one (ps_raise rfl (takes_of rfl rfl rfl rfl) (pmk_oex BT.ox BT.iC BT.tI G_BadText (hr.mono (by decide)) BT.b .nil pass0 (by rfl) BT.gC (pa_cons pe_str (pa_cons (pv 5) pa_nil))))) pss_nil)))
      (pss_cons (ps_set (i := 2) sc_read_net.nd rfl (Or.inr rfl) (pe_callB call_len_seq (by rfl) T.len PySem.boot_len (pa_cons (pe_fld (pv 1) rfl) pa_nil)))
      (pss_cons (ps_if (pt_cmpR op_eq (pv 2) pe_int (nomark _)) (pss_one (ps_raise rfl (takes_of rfl rfl rfl rfl) (pmk_oex BT.ox BT.iC BT.tI G_BadText (hr.mono (by decide)) BT.b .nil pass0 (by rfl) BT.gC (pa_cons pe_str (pa_cons pe_int pa_nil))))) pss_nil)
      (pss_cons (ps_setLc (i := 3) (own := [(("bag" : Str), 7)]) (g := gName 7) rfl sc_read_net.nd rfl rfl (sw_true rfl rfl rfl (by decide +kernel)) (pi_list (pe_fld (pv 1) rfl)) (blkOk_by (N := N_read_net) (sc := defScope s_read_net) (by decide +kernel)) (fun _ _ _ _ _ => pg_name (i := 7) sc_read_net.nd rfl (Or.inl rfl)) (fun _ _ _ _ _ => pts_nil) (fun _ _ _ _ _ => (pe_call G_widened (hr.mono (by decide)) (by rfl) L_widened.g L_widened.fn.kp L_widened.b .nil pass0 (pa_cons (pv 7) (pa_cons (pv 2) pa_nil)))))
      (pss_cons (ps_setLc (i := 4) (own := [(("bag" : Str), 7)]) (g := gName 7) rfl sc_read_net.nd rfl rfl (sw_true rfl rfl rfl (by decide +kernel)) (pi_list (pe_fld (pv 1) rfl)) (blkOk_by (N := N_read_net) (sc := defScope s_read_net) (by decide +kernel)) (fun _ _ _ _ _ => pg_name (i := 7) sc_read_net.nd rfl (Or.inl rfl)) (fun _ _ _ _ _ => pts_nil) (fun _ _ _ _ _ => (pe_call G_widened (hr.mono (by decide)) (by rfl) L_widened.g L_widened.fn.kp L_widened.b .nil pass0 (pa_cons (pv 7) (pa_cons (pv 2) pa_nil)))))
      (pss_one (ps_ret (pe_make M_Net G_Net (hr.mono (by decide)) (by rfl) g_Net b_Net .nil pass0 (pa_cons (pe_fld (pv 1) rfl) (pa_cons (pe_fld (pv 1) rfl) (pa_cons (pv 3) (pa_cons (pv 4) (pa_cons (pe_fld (pv 1) rfl) pa_nil)))))))))))))), ?_⟩
    have bad : ∀ (k : Nat) (H1 : Hp) (a : Addr) (z : V), due (Txt.split text ("\n" : Str)) = .error k → Same H H1 → H1 a = none → spBad CB [.ref a, z, .int (k : Int)] (upd H1 a (exo a CB none))
        (fun v H2 => v = .non ∧ ∃ (d : Addr) (fs : List (Str × V)), H2 a = some (exo a CB (some d)) ∧ H2 d = some (exd d fs) ∧ H1 d = none ∧ E (.ref CB) (some d) (upd (del H2 a) d (.xd fs))) (fun _ _ _ => False) := fun k H1 a z hk s1 na => by
      refine ⟨a, z, _, rfl, upd_same, fun d H2 nd ne ea ed keep => ⟨rfl, d, _, ea, ed, ?_, ?_⟩⟩
      · rw [upd_ne ne] at nd
        exact nd
      · have nd1 : H1 d = none := by
          rw [upd_ne ne] at nd
          exact nd
        refine kE k hk _ d _ (fun b u e => ?_) upd_same (by simp [List.lookup])
        have e1 := s1 _ _ e
        have nba := ne_of_none e1 na
        rw [upd_ne (ne_of_none e1 nd1), del_ne nba]
        exact keep b u (by rw [upd_ne nba]; exact e1) nba
    -- draft = Draft()
    intro x dx nx ndx nex
    refine ⟨x, dx, rfl, upd_same, fun lb ld lt lg lf H1 nd hl hp keep => ⟨rfl, ?_⟩⟩
    have hD1 := start_draft nx ndx nd hl hp keep
    -- the rows
    obtain ⟨r1, r2, r3⟩ := split_facts text ("\n" : Str) (by rw [tl_nl]; simp) nl256
    refine ⟨_, rfl, ⟨_, rfl⟩, text, _, rfl, rfl, by decide +kernel, small_of (by omega), fun pr npr => ⟨pr, _, rfl, SqL.of upd_same, ?_⟩⟩
    generalize hrows : Txt.split text ("\n" : Str) = rows at *
    have nprH : H pr = none := hD1.same0.free npr
    have s0 : Same H (upd H pr (.lst (rows.map V.str))) := same_upd nprH
    have hD2 : DraftAt CD (upd H pr (.lst (rows.map V.str))) (upd H1 pr (.lst (rows.map V.str))) x S0 := by
      obtain ⟨a, b, c, d, e, f, g, i, j, l, A5, q1, q2⟩ := hD1
      exact ⟨a, b, c, d, e, f, g, i, j, l, A5.rebase npr, q1, q2⟩
    generalize hH0 : upd H pr (.lst (rows.map V.str)) = HB at s0 hD2
    have hpr : HB pr = some (.lst (rows.map V.str)) := by rw [← hH0]; exact upd_same
    have el : (rows.map V.str).length = rows.length := List.length_map _
    refine for_it walk_enum1 (fun i σ H' => ∃ s v5 v6, σ = [some (.str text), some (.ref x), none, none, none, v5, v6, none] ∧ runR S0 (rows.take i) = some s ∧ DraftAt CD HB H' x s) ⟨S0, none, none, rfl, rfl, hD2⟩ (fun i σ H' _ ⟨_, _, _, _, _, q⟩ => SqL.of (q.same0 _ _ hpr)) ?_ ?_
    · rintro i v σ H3 H4 hi ⟨s, v5, v6, rfl, hR, hD⟩ ⟨Tp, x1, y1, rfl, nT, rfl, e1, e2⟩
      obtain rfl : V.int (1 + (i : Nat)) = x1 := Option.some.inj e1
      obtain ⟨row, hrow, rfl⟩ := strs_get e2
      have hD' := hD.more (same_upd (o := .tup [V.int (1 + (i : Nat)), V.str row]) nT)
      have rl := r3 row (List.mem_of_getElem? hrow)
      refine ⟨Tp, [V.int (1 + (i : Nat)), V.str row], rfl, .inl (.inl upd_same), rfl, _, _, rfl, _, _, rfl, rfl, ?_⟩
      refine ⟨_, rfl, _, rfl, HB, x, row, s, rfl, hD', WF_run WF0 hR, by omega, fun hN H5 s5 => ⟨_, rfl, ?_⟩, fun s' hs H5 hD5 => ⟨_, rfl, ?_⟩⟩
      · refine iteT ?_
        refine ⟨_, rfl, by show 2 ≤ 1000; decide, fun a na => ?_⟩
        have q := bad (i + 1) H5 a (.str ("a row that can not be taken" : Str)) (due_bad hR hrow hN) (s0.trans s5) na
        rw [show ((i + 1 : Nat) : Int) = 1 + (i : Int) by omega] at q
        exact q
      · refine iteF ?_
        exact ⟨s', _, _, rfl, by rw [take_more hrow, runR_snoc hR]; exact hs, hD5⟩
    · rintro σ H3 ⟨s, v5, v6, rfl, hR, hD⟩
      rw [el, List.take_length] at hR
      have W := WF_run WF0 hR
      obtain ⟨dy, b0, b1, b2, b3, b4, ts, gs, TT, GG, A5, rT, rG⟩ := hD
      have b6 := W.b6
      -- width = len(draft.bowls)
      refine ⟨_, rfl, x, CD, dy, _, _, rfl, A5.hp, TD.cl, TD.nb, netF_b .., b0, _, rfl, .inl (SqL.of A5.h0), ?_⟩
      refine ⟨_, rfl, rfl, _, rfl, ?_⟩
      rw [List.length_map]
      refine ite2 (fun h1 => ?_) (fun h1 => ?_)
      · have h1 := V.int.inj (of_decide_eq_true h1)
        have hb : s.bowls = [] := List.length_eq_zero_iff.mp (by omega)
        refine ⟨by show 2 ≤ 1000; decide, fun a na => ?_⟩
        exact bad 0 H3 a (.str ("no row tells a bowl" : Str)) (due_zero hR hb) (s0.trans A5.same) na
      have hb : s.bowls ≠ [] := fun q => h1 (decide_eq_true (by rw [q]; rfl))
      have d8 := W.d8
      have tl8 := W.tlen
      have gl8 := W.glen
      have tt8 : ts.length ≤ 8 := by rw [A5.ct.1, ← rT.1]; omega
      have gg8 : gs.length ≤ 8 := by rw [A5.cg.1, ← rG.1]; omega
      -- takes, gives
      dsimp only [tSeq, tAsg, tNext]
      refine wide_lc (a := b2) (n := s.bowls.length) (fun R hR => ⟨_, rfl, x, CD, dy, _, _, rfl, A5.hp, TD.cl, TD.nt, netF_t .., hR⟩) rfl (by show 7 < 8; decide) A5.h2 A5.ct rT.lens (by omega) (by omega) fun D1 us H4 s4 nD1 hD1' cu => ?_
      have A6 := A5.more s4
      dsimp only [gName, tSeq, tAsg]
      refine wide_lc (a := b3) (n := s.bowls.length) (fun R hR => ⟨_, rfl, x, CD, dy, _, _, rfl, A6.hp, TD.cl, TD.ng, netF_g .., hR⟩) rfl (by show 7 < 8; decide) A6.h3 A6.cg rG.lens (by omega) (by omega) fun D2 vs H5 s5 nD2 hD2' cv => ?_
      have A7 := A6.more s5
      rw [wide_all rT W.bnd] at cu
      rw [wide_all rG W.bnd] at cv
      -- return Net(..)
      refine ⟨_, rfl, x, CD, dy, _, _, rfl, A7.hp, TD.cl, TD.nb, netF_b .., _, rfl, x, CD, dy, _, _, rfl, A7.hp, TD.cl, TD.nd, netF_d .., _, rfl, _, rfl, _, rfl, x, CD, dy, _, _, rfl, A7.hp, TD.cl, TD.nf, netF_f .., fun y dz ny ndz nez => ?_⟩
      have s6 : Same H5 (upd (upd H5 dz (.own y)) y (.ins CN dz [])) := (same_upd ndz).trans (same_upd (by rw [upd_ne (Ne.symm nez)]; exact ny))
      refine ⟨y, dz, b0, b1, D1, D2, b4, us, vs, s.bowls, s.doors, _, _, s.first, rfl, upd_same, s6 _ _ A7.h0, s6 _ _ A7.h1, s6 _ _ (s5 _ _ hD1'), s6 _ _ hD2', s6 _ _ A7.h4, (cu.same s5).same s6, cv.same s6, netOk_of W hb, fun H6 hN kp => ⟨rfl, ?_⟩⟩
      refine kQ s (due_ok hR hb) H6 y (fun b u e => ?_) hN
      have e5 := A7.same _ _ (s0 _ _ e)
      exact kp b u (s6 _ _ e5) (ne_of_none e5 ny)
end
end BH

set_option Elab.async false
set_option linter.all false
set_option maxRecDepth 100000
set_option maxHeartbeats 4000000
namespace BH
open PySem TL L2 PyProof.Rows
theorem small_log {c : Int} (h0 : 0 ≤ c) (h1 : c ≤ 1000000000) : c.natAbs.log2 < 1920 :=
  Nat.lt_of_lt_of_le (PySem.Flt.log2_lt_of (k := 64) (by decide) (by omega)) (by decide)
theorem sum_le {m : Nat} : ∀ {ys : List Str}, (∀ y ∈ ys, y.length ≤ m) → (ys.map (·.length)).sum ≤ ys.length * m
  | [], _ => Nat.zero_le _
  | y :: ys, h => by
    have h1 := h y (List.mem_cons_self ..)
    have h2 := sum_le (ys := ys) fun z hz => h z (List.mem_cons_of_mem _ hz)
    rw [List.map_cons, List.sum_cons, List.length_cons, Nat.succ_mul]
    omega
theorem nz_mem {bowls : List Str} {t : List Int} {p : Str × Int} (h : p ∈ nz bowls t) : p.1 ∈ bowls ∧ p.2 ∈ t := List.of_mem_zip (List.mem_filter.mp h).1
theorem piece_len {bowls : List Str} {t : List Int} (hg : ∀ n ∈ bowls, goodName n = true) (ht : ∀ c ∈ t, 0 ≤ c ∧ c ≤ 1000000000) {p : Str × Int} (h : p ∈ nz bowls t) : (pieceS p).length ≤ 19 := by
  obtain ⟨h1, h2⟩ := nz_mem h
  have l1 := goodName_of (hg _ h1)
  have hc := ht _ h2
  have l2 := numS_len hc.1 hc.2
  unfold pieceS
  rw [Str.length_append, Str.length_append, show (" " : Str).length = 1 by decide +kernel]
  omega
/-- the first i places alone -/
def nzi (bowls : List Str) (t : List Int) (i : Nat) : Bag := ((bowls.zip t).take i).filter fun p => decide (0 < p.2)
theorem nzi_all {bowls : List Str} {t : List Int} (h : t.length = bowls.length) : nzi bowls t bowls.length = nz bowls t := by
  unfold nzi nz
  rw [List.take_of_length_le (by rw [List.length_zip]; omega)]
theorem nzi_succ {bowls : List Str} {t : List Int} {i : Nat} {n : Str} {c : Int} (h1 : bowls[i]? = some n) (h2 : t[i]? = some c) : nzi bowls t (i + 1) = if 0 < c then nzi bowls t i ++ [(n, c)] else nzi bowls t i := by
  have e : (bowls.zip t)[i]? = some (n, c) := by
    rw [List.getElem?_zip_eq_some]
    exact ⟨h1, h2⟩
  unfold nzi
  rw [take_more e, List.filter_append]
  by_cases h : 0 < c
  · rw [if_pos h]
    simp [h]
  · rw [if_neg h]
    simp [h]
theorem nzi_len (bowls : List Str) (t : List Int) (i : Nat) : (nzi bowls t i).length ≤ bowls.length := by
  unfold nzi
  refine Nat.le_trans (List.length_filter_le _ _) ?_
  rw [List.length_take, List.length_zip]
  omega
theorem doorRows_get {bowls : List Str} : ∀ {d : List Str} {T G : List (List Int)} {i : Nat} {n : Str} {t g : List Int}, d[i]? = some n → T[i]? = some t → G[i]? = some g → (doorRows bowls d T G)[i]? = some (doorRow n (nz bowls t) (nz bowls g))
  | [], _, _, _, _, _, _, h, _, _ => by simp at h
  | _ :: _, [], _, _, _, _, _, _, h, _ => by simp at h
  | _ :: _, _ :: _, [], _, _, _, _, _, _, h => by simp at h
  | a :: d, b :: T, c :: G, 0, n, t, g, h1, h2, h3 => by
    have e1 : a = n := Option.some.inj h1
    have e2 : b = t := Option.some.inj h2
    have e3 : c = g := Option.some.inj h3
    subst e1 e2 e3
    rfl
  | a :: d, b :: T, c :: G, i + 1, n, t, g, h1, h2, h3 => doorRows_get (d := d) (T := T) (G := G) (i := i) h1 h2 h3
theorem doorRows_all {bowls : List Str} : ∀ {d : List Str} {T G : List (List Int)}, T.length = d.length → G.length = d.length → (doorRows bowls d T G).length = d.length
  | [], _, _, _, _ => by simp [doorRows]
  | _ :: _, [], _, h, _ => by simp at h
  | _ :: _, _ :: _, [], _, h => by simp at h
  | n :: d, t :: T, g :: G, h1, h2 => by
    show (doorRows bowls d T G).length + 1 = d.length + 1
    rw [doorRows_all (by simpa using h1) (by simpa using h2)]
section
variable {P : Program} {w : World} {K : PySem.W.Frag} {mg : Str → Option Value} {base : Heap}
/-! ### a net is written -/
def spPT (K : PySem.W.Frag) : Sp := fun vs H Q _ => ∃ (a b : Addr) (t : List Int) (bowls : List Str), vs = [.ref a, .ref b] ∧ H a = some (cellI t) ∧ SqL K H b (bowls.map V.str) ∧ t.length = bowls.length ∧ bowls.length ≤ 6 ∧ (∀ c ∈ t, 0 ≤ c ∧ c ≤ 1000000000) ∧ (∀ n ∈ bowls, goodName n = true) ∧
  ∀ H', Same H H' → Q (.str (partS (nz bowls t))) H'
abbrev s_part_text : Stmt := topS 26
abbrev N_part_text : List Str := ["bag", "bowls", "pieces", "many", "name"]
theorem sc_part_text : FnScope ["bag", "bowls", "pieces", "many", "name"] ["bag", "bowls"] (defScope s_part_text) := ⟨rfl, rfl, rfl, by decide +kernel, rfl, by decide +kernel, by decide +kernel⟩
theorem ok_part_text {f : Addr} {fd : FuncData} (T : Txt K mg) (L_part_text : Lk K mg "part_text" s_part_text f fd ["bag", "bowls"]) : FnOk P w K mg base CX0 1 f fd ["bag", "bowls"] (spPT K) := by
  refine L_part_text.fn.ok sc_part_text (fun vs H Q E h => ?_) (fun cdv A outer s H vs Q E hr h => ?_)
  · obtain ⟨a, b, t, bowls, rfl, _⟩ := h
    rfl
  · obtain ⟨a, b, t, bowls, rfl, ha, hb, hl, h6, ht, hg, k⟩ := h
    refine ⟨_, (pss_cons (ps_set (i := 2) sc_part_text.nd rfl (Or.inl rfl) (pe_lst pa_nil))
      (pss_cons (ps_for PassesOwn.never rfl (pi_zip (by rfl) T.zip (pa_cons (pv 0) (pa_cons (pv 1) pa_nil))) (pg_tup rfl (pgs_cons (pg_name (i := 3) sc_part_text.nd rfl (Or.inl rfl)) (pgs_cons (pg_name (i := 4) sc_part_text.nd rfl (Or.inl rfl)) pgs_nil)))
      (pss_one (ps_if (pt_cmpR op_gt (pv 3) pe_int (nomark _)) (pss_one (ps_expr (pe_bm PySem.F.plainAttrs_list PySem.F.slot_list_append PySem.F.type_list_append mt_append (pv 2) (pa_cons (pe_op op_add_str (pe_op op_add_str (pe_callTy (T := "str") call_str_int (by rfl) T.str (by decide +kernel) (pa_cons (pv 3) pa_nil)) pe_str) (pv 4)) pa_nil)))) pss_nil)))
      (pss_cons (ps_if (pt_not (pt_truth (pv 2) (by intro _; rfl))) (pss_one (ps_ret pe_str)) pss_nil)
      (pss_one (ps_ret (pe_join pe_str (pv 2))))))), ?_⟩
    have ha' : H a = some (.lst (t.map V.int)) := ha
    refine ⟨Nat.zero_le _, fun p np => ?_⟩
    have s1 : Same H (upd H p (.lst [])) := same_upd np
    refine ⟨_, rfl, _, rfl, a, b, t.map V.int, bowls.map V.str, rfl, SqL.of (s1 _ _ ha'), s1.seq hb, ?_⟩
    refine for_it (walk_zip (n := bowls.length) (by rw [List.length_map, List.length_map, hl, Nat.min_self])) (fun i σ H' => ∃ v3 v4, σ = [some (.ref a), some (.ref b), some (.ref p), v3, v4] ∧ Same H H' ∧ H' p = some (.lst (((nzi bowls t i).map pieceS).map V.str))) ⟨none, none, rfl, s1, upd_same⟩ (fun i σ H' _ ⟨_, _, _, s2, _⟩ => ⟨SqL.of (s2 _ _ ha'), s2.seq hb⟩) ?_ ?_
    · rintro i v σ H3 H4 hi ⟨v3, v4, rfl, s2, hp⟩ ⟨Tp, x, y, rfl, nT, rfl, e1, e2⟩
      obtain ⟨c, hc, rfl⟩ := ints_get e1
      obtain ⟨n, hn, rfl⟩ := strs_get e2
      have rc := ht c (List.mem_of_getElem? hc)
      have gn := goodName_of (hg n (List.mem_of_getElem? hn))
      have npT : p ≠ Tp := ne_of_none hp nT
      have s3 : Same H (upd H3 Tp (.tup [V.int c, V.str n])) := s2.trans (same_upd nT)
      have hp3 : upd H3 Tp (.tup [V.int c, V.str n]) p = some (.lst (((nzi bowls t i).map pieceS).map V.str)) := by rw [upd_ne npT]; exact hp
      refine ⟨Tp, [V.int c, V.str n], rfl, .inl (.inl upd_same), rfl, _, _, rfl, _, _, rfl, rfl, ?_⟩
      refine ⟨_, rfl, _, _, rfl, rfl, _, rfl, ?_⟩
      refine ite2 (fun h1 => ?_) (fun h1 => ?_)
      · have h1 : 0 < c := of_decide_eq_true h1
        have l2 := numS_len rc.1 rc.2
        refine ⟨_, rfl, .inl ⟨rfl, _, SqL.of hp3⟩, _, rfl, _, rfl, small_log rc.1 rc.2, _, _, rfl, rfl, small_of (by show (numS c).length + 1 ≤ _; omega), _, rfl, _, _, rfl, rfl, small_of (by rw [Str.length_append]; show (numS c).length + 1 + _ ≤ _; omega), p, _, _, rfl, rfl, hp3, by rw [List.length_map, List.length_map]; have := nzi_len bowls t i; exact small1000 (by omega), ?_⟩
        refine ⟨_, _, rfl, same_put s3 np, ?_⟩
        rw [upd_same, nzi_succ hn hc, if_pos h1, List.map_append, List.map_append]
        rfl
      · have h1 : ¬ 0 < c := fun q => h1 (decide_eq_true q)
        refine ⟨_, _, rfl, s3, ?_⟩
        rw [nzi_succ hn hc, if_neg h1]
        exact hp3
    · rintro σ H3 ⟨v3, v4, rfl, s2, hp⟩
      rw [nzi_all hl] at hp
      have pl : ∀ y ∈ (nz bowls t).map pieceS, y.length ≤ 19 := fun y hy => by
        obtain ⟨q, hq, rfl⟩ := List.mem_map.mp hy
        exact piece_len hg ht hq
      have nl := nz_len bowls t
      have e := k H3 s2
      unfold partS at e
      refine ⟨_, rfl, _, .inl ⟨_, SqL.of hp, rfl⟩, ?_⟩
      by_cases hz : nz bowls t = []
      · rw [if_pos hz] at e
        rw [hz]
        refine iteT ?_
        exact e
      · rw [if_neg hz] at e
        have hne : (((nz bowls t).map pieceS).map V.str).isEmpty = false := by
          cases hq : nz bowls t with
          | nil => exact absurd hq hz
          | cons q r => rfl
        rw [hne]
        refine iteF ?_
        refine ⟨⟨_, rfl⟩, _, rfl, _, p, (nz bowls t).map pieceS, rfl, rfl, .inl (SqL.of hp), ?_, e⟩
        have q := sum_le pl
        have e3 : (" + " : Str).length = 3 := by decide +kernel
        rw [e3]
        rw [List.length_map] at q ⊢
        omega
def spNText (CN : Addr) : Sp := fun vs H Q _ => ∃ (p : Addr) (s : S), vs = [.ref p] ∧ NetAt CN H p s.bowls s.doors (s.takes.map (vec s.bowls)) (s.gives.map (vec s.bowls)) s.first ∧ WF s ∧ ∀ H', Same H H' → Q (.str (Txt.join ("\n" : Str) (rowsOf s))) H'
abbrev s_net_text : Stmt := topS 27
abbrev N_net_text : List Str := ["net", "rows", "name", "many", "k", "taken", "given"]
theorem sc_net_text : FnScope ["net", "rows", "name", "many", "k", "taken", "given"] ["net"] (defScope s_net_text) := ⟨rfl, rfl, rfl, by decide +kernel, rfl, by decide +kernel, by decide +kernel⟩
theorem ok_net_text {f f1 CN : Addr} {fd fd1 : FuncData} (T : Txt K mg) (TN : CTxt K CN) (L_part_text : Lk K mg "part_text" s_part_text f1 fd1 ["bag", "bowls"]) (L_net_text : Lk K mg "net_text" s_net_text f fd ["net"]) : FnOk P w K mg base CX0 2 f fd ["net"] (spNText CN) := by
  have G_part_text : FnOk P w K mg base CX0 1 f1 fd1 ["bag", "bowls"] (spPT K) := ok_part_text T L_part_text
  refine L_net_text.fn.ok sc_net_text (fun vs H Q E h => ?_) (fun cdv A outer s H vs Q E hr h => ?_)
  · obtain ⟨p, s, rfl, _⟩ := h
    rfl
  · obtain ⟨p, st, rfl, hN, W, k⟩ := h
    refine ⟨_, (pss_cons (ps_set (i := 1) sc_net_text.nd rfl (Or.inl rfl) (pe_lst pa_nil))
      (pss_cons (ps_for PassesOwn.never rfl (pi_zip (by rfl) T.zip (pa_cons (pe_fld (pv 0) rfl) (pa_cons (pe_fld (pv 0) rfl) pa_nil))) (pg_tup rfl (pgs_cons (pg_name (i := 2) sc_net_text.nd rfl (Or.inl rfl)) (pgs_cons (pg_name (i := 3) sc_net_text.nd rfl (Or.inl rfl)) pgs_nil)))
      (pss_one (ps_expr (pe_bm PySem.F.plainAttrs_list PySem.F.slot_list_append PySem.F.type_list_append mt_append (pv 1) (pa_cons (pe_op op_add_str (pe_op op_add_str (pe_op op_add_str pe_str (pv 2)) pe_str) (pe_callTy (T := "str") call_str_int (by rfl) T.str (by decide +kernel) (pa_cons (pv 3) pa_nil))) pa_nil)))))
      (pss_cons (ps_for PassesOwn.never rfl (pi_enum (by rfl) T.enum (pa_cons (pe_fld (pv 0) rfl) pa_nil)) (pg_tup rfl (pgs_cons (pg_name (i := 4) sc_net_text.nd rfl (Or.inl rfl)) (pgs_cons (pg_name (i := 2) sc_net_text.nd rfl (Or.inl rfl)) pgs_nil)))
      (pss_cons (ps_set (i := 5) sc_net_text.nd rfl (Or.inl rfl) (pe_call G_part_text (hr.mono (by decide)) (by rfl) L_part_text.g L_part_text.fn.kp L_part_text.b .nil pass0 (pa_cons (pe_ix ix_list (pe_fld (pv 0) rfl) (pv 4) (fun _ _ => rfl)) (pa_cons (pe_fld (pv 0) rfl) pa_nil))))
      (pss_cons (ps_set (i := 6) sc_net_text.nd rfl (Or.inl rfl) (pe_call G_part_text (hr.mono (by decide)) (by rfl) L_part_text.g L_part_text.fn.kp L_part_text.b .nil pass0 (pa_cons (pe_ix ix_list (pe_fld (pv 0) rfl) (pv 4) (fun _ _ => rfl)) (pa_cons (pe_fld (pv 0) rfl) pa_nil))))
      (pss_one (ps_expr (pe_bm PySem.F.plainAttrs_list PySem.F.slot_list_append PySem.F.type_list_append mt_append (pv 1) (pa_cons (pe_op op_add_str (pe_op op_add_str (pe_op op_add_str (pe_op op_add_str (pe_op op_add_str pe_str (pv 2)) pe_str) (pv 5)) pe_str) (pv 6)) pa_nil)))))))
      (pss_one (ps_ret (pe_join pe_str (pv 1))))))), ?_⟩
    have b6 := W.b6
    have d8 := W.d8
    have ok := netOk_of (s := st) W
    refine ⟨Nat.zero_le _, fun pr npr => ?_⟩
    have s1 : Same H (upd H pr (.lst [])) := same_upd npr
    obtain ⟨dx, lb, ld, lt, lg, lf, ts, gs, hp, hb, hd, ht, hg, hf, ct, cg⟩ := hN
    -- the bowls' rows
    refine ⟨_, rfl, p, CN, dx, _, _, rfl, s1 _ _ hp, TN.cl, TN.nb, netF_b .., _, rfl, p, CN, dx, _, _, rfl, s1 _ _ hp, TN.cl, TN.nf, netF_f .., lb, lf, st.bowls.map V.str, st.first.map V.int, rfl, SqL.of (s1 _ _ hb), SqL.of (s1 _ _ hf), ?_⟩
    refine for_it (walk_zip (n := st.bowls.length) (by rw [List.length_map, List.length_map, W.fl, Nat.min_self])) (fun i σ H' => ∃ v2 v3, σ = [some (.ref p), some (.ref pr), v2, v3, none, none, none] ∧ Same H H' ∧ H' pr = some (.lst ((((st.bowls.zip st.first).take i).map bowlRow).map V.str))) ⟨none, none, rfl, s1, upd_same⟩ (fun i σ H' _ ⟨_, _, _, s2, _⟩ => ⟨SqL.of (s2 _ _ hb), SqL.of (s2 _ _ hf)⟩) ?_ ?_
    · rintro i v σ H3 H4 hi ⟨v2, v3, rfl, s2, hr3⟩ ⟨Tp, x, y, rfl, nT, rfl, e1, e2⟩
      obtain ⟨n, hn, rfl⟩ := strs_get e1
      obtain ⟨c, hc, rfl⟩ := ints_get e2
      have rc := W.fr c (List.mem_of_getElem? hc)
      have gn := goodName_of (W.bgood n (List.mem_of_getElem? hn))
      have l2 := numS_len rc.1 rc.2
      have npT : pr ≠ Tp := ne_of_none hr3 nT
      have s3 : Same H (upd H3 Tp (.tup [V.str n, V.int c])) := s2.trans (same_upd nT)
      have hp3 : upd H3 Tp (.tup [V.str n, V.int c]) pr = some (.lst ((((st.bowls.zip st.first).take i).map bowlRow).map V.str)) := by rw [upd_ne npT]; exact hr3
      have ez : (st.bowls.zip st.first)[i]? = some (n, c) := by
        rw [List.getElem?_zip_eq_some]
        exact ⟨hn, hc⟩
      have e5 : ("bowl " : Str).length = 5 := by decide +kernel
      have e1' : (" " : Str).length = 1 := by decide +kernel
      refine ⟨Tp, [V.str n, V.int c], rfl, .inl (.inl upd_same), rfl, _, _, rfl, _, _, rfl, rfl, ?_⟩
      refine ⟨_, rfl, .inl ⟨rfl, _, SqL.of hp3⟩, _, rfl, _, _, rfl, rfl, small_of (by omega), _, _, rfl, rfl, small_of (by rw [Str.length_append]; omega), _, rfl, _, rfl, small_log rc.1 rc.2, _, _, rfl, rfl, small_of (by rw [Str.length_append, Str.length_append]; show _ + (numS c).length ≤ _; omega), pr, _, _, rfl, rfl, hp3, by rw [List.length_map, List.length_map, List.length_take]; exact small1000 (by omega), ?_⟩
      refine ⟨_, _, rfl, same_put s3 npr, ?_⟩
      rw [upd_same, take_more ez, List.map_append, List.map_append]
      rfl
    · rintro σ H3 ⟨v2, v3, rfl, s2, hr3⟩
      rw [List.take_of_length_le (by rw [List.length_zip, W.fl]; omega)] at hr3
      have lenD : (doorRows st.bowls st.doors (st.takes.map (vec st.bowls)) (st.gives.map (vec st.bowls))).length = st.doors.length := doorRows_all (by rw [List.length_map, W.tlen]) (by rw [List.length_map, W.glen])
      -- the doors' rows
      refine ⟨_, rfl, p, CN, dx, _, _, rfl, s2 _ _ hp, TN.cl, TN.nd, netF_d .., ld, st.doors.map V.str, rfl, SqL.of (s2 _ _ hd), ?_⟩
      refine for_it walk_enum (fun i σ H' => ∃ v2 v3 v4 v5 v6, σ = [some (.ref p), some (.ref pr), v2, v3, v4, v5, v6] ∧ Same H H' ∧ H' pr = some (.lst ((((st.bowls.zip st.first).map bowlRow) ++ (doorRows st.bowls st.doors (st.takes.map (vec st.bowls)) (st.gives.map (vec st.bowls))).take i).map V.str))) ⟨_, _, _, _, _, rfl, s2, by rw [List.take_zero, List.append_nil]; exact hr3⟩ (fun i σ H' _ ⟨_, _, _, _, _, _, s3, _⟩ => SqL.of (s3 _ _ hd)) ?_ ?_
      · rintro i v σ H4 H5 hi ⟨v2, v3, v4, v5, v6, rfl, s3, hr4⟩ ⟨Tp, x, y, rfl, nT, rfl, e1, e2⟩
        obtain rfl : V.int (i : Nat) = x := Option.some.inj e1
        obtain ⟨n, hn, rfl⟩ := strs_get e2
        have hi' : i < st.doors.length := by rw [List.length_map] at hi; exact hi
        have gn := goodName_of (W.dgood n (List.mem_of_getElem? hn))
        have npT : pr ≠ Tp := ne_of_none hr4 nT
        have s4 : Same H (upd H4 Tp (.tup [V.int (i : Nat), V.str n])) := s3.trans (same_upd nT)
        have hp4 := s4 _ _ hp
        have hr5 : upd H4 Tp (.tup [V.int (i : Nat), V.str n]) pr = some (.lst ((((st.bowls.zip st.first).map bowlRow) ++ (doorRows st.bowls st.doors (st.takes.map (vec st.bowls)) (st.gives.map (vec st.bowls))).take i).map V.str)) := by rw [upd_ne npT]; exact hr4
        have itT : i < st.takes.length := by rw [W.tlen]; exact hi'
        have itG : i < st.gives.length := by rw [W.glen]; exact hi'
        have gT : (st.takes.map (vec st.bowls))[i]? = some (vec st.bowls st.takes[i]) := by rw [List.getElem?_map, List.getElem?_eq_getElem itT]; rfl
        have gG : (st.gives.map (vec st.bowls))[i]? = some (vec st.bowls st.gives[i]) := by rw [List.getElem?_map, List.getElem?_eq_getElem itG]; rfl
        have okT := W.tok _ (List.mem_of_getElem? (List.getElem?_eq_getElem itT))
        have okG := W.gok _ (List.mem_of_getElem? (List.getElem?_eq_getElem itG))
        have rgT : ∀ c ∈ vec st.bowls st.takes[i], 0 ≤ c ∧ c ≤ 1000000000 := fun c hc => by
          obtain ⟨m, _, rfl⟩ := List.mem_map.mp hc
          exact valB_range okT m
        have rgG : ∀ c ∈ vec st.bowls st.gives[i], 0 ≤ c ∧ c ≤ 1000000000 := fun c hc => by
          obtain ⟨m, _, rfl⟩ := List.mem_map.mp hc
          exact valB_range okG m
        have itt : i < ts.length := by rw [ct.1, List.length_map]; exact itT
        have itg : i < gs.length := by rw [cg.1, List.length_map]; exact itG
        have gt := List.getElem?_eq_getElem itt
        have gg := List.getElem?_eq_getElem itg
        have ht4 := s4 _ _ (ct.2 i _ _ gt gT)
        refine ⟨Tp, [V.int (i : Nat), V.str n], rfl, .inl (.inl upd_same), rfl, _, _, rfl, _, _, rfl, rfl, ?_⟩
        refine ⟨_, rfl, p, CN, dx, _, _, rfl, hp4, TN.cl, TN.nt, netF_t .., _, rfl, lt, _, _, _, rfl, rfl, SqL.of (s4 _ _ ht), at_of rfl (ref_at gt), _, rfl, p, CN, dx, _, _, rfl, hp4, TN.cl, TN.nb, netF_b .., ts[i], lb, vec st.bowls st.takes[i], st.bowls, rfl, ht4, SqL.of (s4 _ _ hb), vec_len _ _, b6, rgT, W.bgood, fun H6 s6 => ?_⟩
        have s6' := s4.trans s6
        refine ⟨_, rfl, p, CN, dx, _, _, rfl, s6' _ _ hp, TN.cl, TN.ng, netF_g .., _, rfl, lg, _, _, _, rfl, rfl, SqL.of (s6' _ _ hg), at_of rfl (ref_at gg), _, rfl, p, CN, dx, _, _, rfl, s6' _ _ hp, TN.cl, TN.nb, netF_b .., gs[i], lb, vec st.bowls st.gives[i], st.bowls, rfl, s6' _ _ (cg.2 i _ _ gg gG), SqL.of (s6' _ _ hb), vec_len _ _, b6, rgG, W.bgood, fun H7 s7 => ?_⟩
        have s7' := s6'.trans s7
        have hr7 := s7 _ _ (s6 _ _ hr5)
        have nT6 := nz_len st.bowls (vec st.bowls st.takes[i])
        have nG6 := nz_len st.bowls (vec st.bowls st.gives[i])
        have lT := partS_len (B := nz st.bowls (vec st.bowls st.takes[i])) (by omega) W.bgood (nz_ok W.bnd okT)
        have lG := partS_len (B := nz st.bowls (vec st.bowls st.gives[i])) (by omega) W.bgood (nz_ok W.bnd okG)
        have e5 : ("door " : Str).length = 5 := by decide +kernel
        have e1' : (" " : Str).length = 1 := by decide +kernel
        have e3 : (" > " : Str).length = 3 := by decide +kernel
        refine ⟨_, rfl, .inl ⟨rfl, _, SqL.of hr7⟩, _, rfl, _, _, rfl, rfl, small_of (by omega), _, _, rfl, rfl, small_of (by rw [Str.length_append]; omega), _, rfl, _, _, rfl, rfl, small_of (by rw [Str.length_append, Str.length_append]; omega), _, _, rfl, rfl, small_of (by rw [Str.length_append, Str.length_append, Str.length_append]; omega), _, rfl, _, _, rfl, rfl, small_of (by rw [Str.length_append, Str.length_append, Str.length_append, Str.length_append]; omega), pr, _, _, rfl, rfl, hr7, ?_, ?_⟩
        · rw [List.length_map, List.length_append, List.length_map, List.length_take, List.length_zip, lenD]
          exact small1000 (by omega)
        · refine ⟨_, _, _, _, _, rfl, same_put s7' npr, ?_⟩
          rw [upd_same, take_more (doorRows_get hn gT gG), ← List.append_assoc, List.map_append (l₂ := [_])]
          rfl
      · rintro σ H4 ⟨v2, v3, v4, v5, v6, rfl, s3, hr4⟩
        rw [List.length_map, List.take_of_length_le (by rw [lenD]; omega)] at hr4
        have fine := rowsOf_fine W
        refine ⟨⟨_, rfl⟩, _, rfl, _, pr, rowsOf st, rfl, rfl, .inl (SqL.of hr4), ?_, k H4 s3⟩
        have q := sum_le (m := 1000) (ys := rowsOf st) fun y hy => (fine.2 y hy).2
        have e1' : ("\n" : Str).length = 1 := by decide +kernel
        rw [e1']
        have := fine.1
        omega
end
end BH

set_option Elab.async false
set_option linter.all false
set_option maxRecDepth 100000
set_option maxHeartbeats 4000000
namespace BH
open PySem TL L2 PyProof.Rows
/-- what the top has written of Net, for isinstance -/
abbrev NIs := C8.InsC
section
variable {P : Program} {w : World} {K : PySem.W.Frag} {mg : Str → Option Value} {base : Heap}
/-! ### the law compares -/
def spWhole : Sp := fun vs H Q _ => ∃ n : Int, vs = [.int n] ∧ Q (.bl true) H
abbrev s_l_whole : Stmt := topS 30
abbrev N_l_whole : List Str := ["found"]
theorem sc_l_whole : FnScope ["found"] ["found"] (defScope s_l_whole) := ⟨rfl, rfl, rfl, by decide +kernel, rfl, by decide +kernel, by decide +kernel⟩
theorem ok_l_whole {f : Addr} {fd : FuncData} (T : Txt K mg) (L_l_whole : Lk K mg "_law_whole" s_l_whole f fd ["found"]) : FnOk P w K mg base CX0 1 f fd ["found"] spWhole := by
  refine L_l_whole.fn.ok sc_l_whole (fun vs H Q E h => ?_) (fun cdv A outer s H vs Q E hr h => ?_)
  · obtain ⟨n, rfl, _⟩ := h
    rfl
  · obtain ⟨n, rfl, k⟩ := h
    refine ⟨_, (pss_one (ps_ret (pe_and (pe_callB call_isi (by rfl) T.isi (by decide +kernel) (pa_cons (pv 0) (pa_cons (pe_bltn (v := .ty "int") (by rfl) T.int (by decide +kernel) rfl) pa_nil))) (pe_one (pe_not (pe_callB call_isi (by rfl) T.isi (by decide +kernel) (pa_cons (pv 0) (pa_cons (pe_bltn (v := .ty "bool") (by rfl) T.bool (by decide +kernel) rfl) pa_nil)))))))), ?_⟩
    refine ⟨_, rfl, _, _, _, _, true, rfl, .ty "int", .base (.int n), kit_ty (by decide +kernel), true, rfl, ?_⟩
    refine iteT ?_
    exact ⟨_, rfl, _, _, _, _, false, rfl, .ty "bool", .base (.int n), kit_ty (by decide +kernel), false, rfl, k⟩
def spTexts : Sp := fun vs H Q _ => ∃ (a b : Addr) (xs : List Str), vs = [.ref a, .ref b] ∧ H a = some (.lst (xs.map V.str)) ∧ H b = some (.lst (xs.map V.str)) ∧ xs.length ≤ 100000 ∧ Q (.bl true) H
abbrev s_l_texts : Stmt := topS 31
abbrev N_l_texts : List Str := ["found", "due", "k"]
theorem sc_l_texts : FnScope ["found", "due", "k"] ["found", "due"] (defScope s_l_texts) := ⟨rfl, rfl, rfl, by decide +kernel, rfl, by decide +kernel, by decide +kernel⟩
theorem ok_l_texts {f : Addr} {fd : FuncData} (T : Txt K mg) (L_l_texts : Lk K mg "_law_texts" s_l_texts f fd ["found", "due"]) : FnOk P w K mg base CX0 1 f fd ["found", "due"] spTexts := by
  refine L_l_texts.fn.ok sc_l_texts (fun vs H Q E h => ?_) (fun cdv A outer s H vs Q E hr h => ?_)
  · obtain ⟨a, b, xs, rfl, _⟩ := h
    rfl
  · obtain ⟨a, b, xs, rfl, ha, hb, hl, k⟩ := h
    refine ⟨_, (pss_cons (ps_if (PW.pt (pw_or (pt_not (pt_val (pe_callB call_isi (by rfl) T.isi (by decide +kernel) (pa_cons (pv 0) (pa_cons (pe_bltn (v := .ty "list") (by rfl) T.list (by decide +kernel) rfl) pa_nil))))) (pw_or1 (pt_cmpR op_ne (pe_callB call_len_seq (by rfl) T.len PySem.boot_len (pa_cons (pv 0) pa_nil)) (pe_callB call_len_seq (by rfl) T.len PySem.boot_len (pa_cons (pv 1) pa_nil)) (nomark _))))) (pss_one (ps_ret pe_bl)) pss_nil)
      (pss_cons (ps_for PassesOwn.never rfl (pi_range1 (by rfl) T.range (pa_cons (pe_callB call_len_seq (by rfl) T.len PySem.boot_len (pa_cons (pv 1) pa_nil)) pa_nil)) (pg_name (i := 2) sc_l_texts.nd rfl (Or.inl rfl))
      (pss_one (ps_if (PW.pt (pw_or (pt_not (pt_val (pe_callB call_isi (by rfl) T.isi (by decide +kernel) (pa_cons (pe_ix ix_list (pv 0) (pv 2) (fun _ _ => rfl)) (pa_cons (pe_bltn (v := .ty "str") (by rfl) T.str (by decide +kernel) rfl) pa_nil))))) (pw_or1 (pt_cmpR op_ne (pe_ix ix_list (pv 0) (pv 2) (fun _ _ => rfl)) (pe_ix ix_list (pv 1) (pv 2) (fun _ _ => rfl)) (nomark _))))) (pss_one (ps_ret pe_bl)) pss_nil)))
      (pss_one (ps_ret pe_bl)))), ?_⟩
    refine ⟨_, rfl, _, _, _, _, true, rfl, .ty "list", .base (.lst ha), kit_ty (by decide +kernel), _, rfl, ?_⟩
    refine iteF ?_
    refine ⟨_, rfl, a, _, rfl, .inl (SqL.of ha), _, rfl, b, _, rfl, .inl (SqL.of hb), rfl, _, rfl, ?_⟩
    refine iteNS rfl ?_
    refine ⟨_, rfl, b, _, rfl, .inl (SqL.of hb), _, rfl, by rw [List.length_map]; omega, by rw [List.length_map]; omega, ?_⟩
    rw [List.length_map, Int.toNat_natCast]
    refine for_range (lo := 0) (n := xs.length) (fun i σ H' => H' = H ∧ ∃ v, σ = [some (.ref a), some (.ref b), v]) ⟨rfl, none, rfl⟩ ?_ ?_
    · rintro i σ H' hi ⟨rfl, v, rfl⟩
      have g := str_at (List.getElem?_eq_getElem hi)
      refine ⟨_, rfl, _, rfl, a, _, _, _, rfl, rfl, SqL.of ha, at_of (by omega) g, _, _, _, _, true, rfl, .ty "str", .base (.str _), kit_ty (by decide +kernel), _, rfl, ?_⟩
      refine iteF ?_
      refine ⟨_, rfl, _, rfl, a, _, _, _, rfl, rfl, SqL.of ha, at_of (by omega) g, _, rfl, _, rfl, b, _, _, _, rfl, rfl, SqL.of hb, at_of (by omega) g, rfl, _, rfl, ?_⟩
      refine iteNS rfl ?_
      exact ⟨rfl, _, rfl⟩
    · rintro σ H' ⟨rfl, v, rfl⟩
      exact k
def spNumbers : Sp := fun vs H Q _ => ∃ (a b : Addr) (xs : List Int), vs = [.ref a, .ref b] ∧ H a = some (cellI xs) ∧ H b = some (cellI xs) ∧ xs.length ≤ 100000 ∧ Q (.bl true) H
abbrev s_l_numbers : Stmt := topS 32
abbrev N_l_numbers : List Str := ["found", "due", "k"]
theorem sc_l_numbers : FnScope ["found", "due", "k"] ["found", "due"] (defScope s_l_numbers) := ⟨rfl, rfl, rfl, by decide +kernel, rfl, by decide +kernel, by decide +kernel⟩
theorem ok_l_numbers {f f1 : Addr} {fd fd1 : FuncData} (T : Txt K mg) (L_l_whole : Lk K mg "_law_whole" s_l_whole f1 fd1 ["found"]) (L_l_numbers : Lk K mg "_law_numbers" s_l_numbers f fd ["found", "due"]) : FnOk P w K mg base CX0 2 f fd ["found", "due"] spNumbers := by
  have G_l_whole : FnOk P w K mg base CX0 1 f1 fd1 ["found"] spWhole := ok_l_whole T L_l_whole
  refine L_l_numbers.fn.ok sc_l_numbers (fun vs H Q E h => ?_) (fun cdv A outer s H vs Q E hr h => ?_)
  · obtain ⟨a, b, xs, rfl, _⟩ := h
    rfl
  · obtain ⟨a, b, xs, rfl, ha, hb, hl, k⟩ := h
    have ha : H a = some (.lst (xs.map V.int)) := ha
    have hb : H b = some (.lst (xs.map V.int)) := hb
    refine ⟨_, (pss_cons (ps_if (PW.pt (pw_or (pt_not (pt_val (pe_callB call_isi (by rfl) T.isi (by decide +kernel) (pa_cons (pv 0) (pa_cons (pe_bltn (v := .ty "list") (by rfl) T.list (by decide +kernel) rfl) pa_nil))))) (pw_or1 (pt_cmpR op_ne (pe_callB call_len_seq (by rfl) T.len PySem.boot_len (pa_cons (pv 0) pa_nil)) (pe_callB call_len_seq (by rfl) T.len PySem.boot_len (pa_cons (pv 1) pa_nil)) (nomark _))))) (pss_one (ps_ret pe_bl)) pss_nil)
      (pss_cons (ps_for PassesOwn.never rfl (pi_range1 (by rfl) T.range (pa_cons (pe_callB call_len_seq (by rfl) T.len PySem.boot_len (pa_cons (pv 1) pa_nil)) pa_nil)) (pg_name (i := 2) sc_l_numbers.nd rfl (Or.inl rfl))
      (pss_one (ps_if (PW.pt (pw_or (pt_not (pt_val (pe_call G_l_whole (hr.mono (by decide)) (by rfl) L_l_whole.g L_l_whole.fn.kp L_l_whole.b .nil pass0 (pa_cons (pe_ix ix_list (pv 0) (pv 2) (fun _ _ => rfl)) pa_nil)))) (pw_or1 (pt_cmpR op_ne (pe_ix ix_list (pv 0) (pv 2) (fun _ _ => rfl)) (pe_ix ix_list (pv 1) (pv 2) (fun _ _ => rfl)) (nomark _))))) (pss_one (ps_ret pe_bl)) pss_nil)))
      (pss_one (ps_ret pe_bl)))), ?_⟩
    refine ⟨_, rfl, _, _, _, _, true, rfl, .ty "list", .base (.lst ha), kit_ty (by decide +kernel), _, rfl, ?_⟩
    refine iteF ?_
    refine ⟨_, rfl, a, _, rfl, .inl (SqL.of ha), _, rfl, b, _, rfl, .inl (SqL.of hb), rfl, _, rfl, ?_⟩
    refine iteNS rfl ?_
    refine ⟨_, rfl, b, _, rfl, .inl (SqL.of hb), _, rfl, by rw [List.length_map]; omega, by rw [List.length_map]; omega, ?_⟩
    rw [List.length_map, Int.toNat_natCast]
    refine for_range (lo := 0) (n := xs.length) (fun i σ H' => H' = H ∧ ∃ v, σ = [some (.ref a), some (.ref b), v]) ⟨rfl, none, rfl⟩ ?_ ?_
    · rintro i σ H' hi ⟨rfl, v, rfl⟩
      have g := int_at (List.getElem?_eq_getElem hi)
      refine ⟨_, rfl, _, rfl, a, _, _, _, rfl, rfl, SqL.of ha, at_of (by omega) g, _, rfl, _, rfl, ?_⟩
      refine iteF ?_
      refine ⟨_, rfl, _, rfl, a, _, _, _, rfl, rfl, SqL.of ha, at_of (by omega) g, _, rfl, _, rfl, b, _, _, _, rfl, rfl, SqL.of hb, at_of (by omega) g, rfl, _, rfl, ?_⟩
      refine iteNS rfl ?_
      exact ⟨rfl, _, rfl⟩
    · rintro σ H' ⟨rfl, v, rfl⟩
      exact k
def spRows : Sp := fun vs H Q _ => ∃ (a b : Addr) (ts us : List Addr) (T : List (List Int)), vs = [.ref a, .ref b] ∧ H a = some (.lst (ts.map V.ref)) ∧ H b = some (.lst (us.map V.ref)) ∧ CellsAt cellI H ts T ∧ CellsAt cellI H us T ∧ T.length ≤ 1000 ∧ (∀ t ∈ T, t.length ≤ 1000) ∧ Q (.bl true) H
abbrev s_l_rows : Stmt := topS 33
abbrev N_l_rows : List Str := ["found", "due", "k"]
theorem sc_l_rows : FnScope ["found", "due", "k"] ["found", "due"] (defScope s_l_rows) := ⟨rfl, rfl, rfl, by decide +kernel, rfl, by decide +kernel, by decide +kernel⟩
theorem ok_l_rows {f f1 f2 : Addr} {fd fd1 fd2 : FuncData} (T : Txt K mg) (L_l_whole : Lk K mg "_law_whole" s_l_whole f1 fd1 ["found"]) (L_l_numbers : Lk K mg "_law_numbers" s_l_numbers f2 fd2 ["found", "due"]) (L_l_rows : Lk K mg "_law_rows" s_l_rows f fd ["found", "due"]) :
    FnOk P w K mg base CX0 3 f fd ["found", "due"] spRows := by
  have G_l_numbers : FnOk P w K mg base CX0 2 f2 fd2 ["found", "due"] spNumbers := ok_l_numbers T L_l_whole L_l_numbers
  refine L_l_rows.fn.ok sc_l_rows (fun vs H Q E h => ?_) (fun cdv A outer s H vs Q E hr h => ?_)
  · obtain ⟨a, b, ts, us, T, rfl, _⟩ := h
    rfl
  · obtain ⟨a, b, ts, us, T', rfl, ha, hb, ct, cu, hl, ht, k⟩ := h
    refine ⟨_, (pss_cons (ps_if (PW.pt (pw_or (pt_not (pt_val (pe_callB call_isi (by rfl) T.isi (by decide +kernel) (pa_cons (pv 0) (pa_cons (pe_bltn (v := .ty "list") (by rfl) T.list (by decide +kernel) rfl) pa_nil))))) (pw_or1 (pt_cmpR op_ne (pe_callB call_len_seq (by rfl) T.len PySem.boot_len (pa_cons (pv 0) pa_nil)) (pe_callB call_len_seq (by rfl) T.len PySem.boot_len (pa_cons (pv 1) pa_nil)) (nomark _))))) (pss_one (ps_ret pe_bl)) pss_nil)
      (pss_cons (ps_for PassesOwn.never rfl (pi_range1 (by rfl) T.range (pa_cons (pe_callB call_len_seq (by rfl) T.len PySem.boot_len (pa_cons (pv 1) pa_nil)) pa_nil)) (pg_name (i := 2) sc_l_rows.nd rfl (Or.inl rfl))
      (pss_one (ps_if (pt_not (pt_val (pe_call G_l_numbers (hr.mono (by decide)) (by rfl) L_l_numbers.g L_l_numbers.fn.kp L_l_numbers.b .nil pass0 (pa_cons (pe_ix ix_list (pv 0) (pv 2) (fun _ _ => rfl)) (pa_cons (pe_ix ix_list (pv 1) (pv 2) (fun _ _ => rfl)) pa_nil))))) (pss_one (ps_ret pe_bl)) pss_nil)))
      (pss_one (ps_ret pe_bl)))), ?_⟩
    have l1 := ct.1
    have l2 := cu.1
    refine ⟨_, rfl, _, _, _, _, true, rfl, .ty "list", .base (.lst ha), kit_ty (by decide +kernel), _, rfl, ?_⟩
    refine iteF ?_
    refine ⟨_, rfl, a, _, rfl, .inl (SqL.of ha), _, rfl, b, _, rfl, .inl (SqL.of hb), rfl, _, rfl, ?_⟩
    refine iteNS (by rw [List.length_map, List.length_map, l1, l2]) ?_
    refine ⟨_, rfl, b, _, rfl, .inl (SqL.of hb), _, rfl, by rw [List.length_map]; omega, by rw [List.length_map]; omega, ?_⟩
    rw [List.length_map, Int.toNat_natCast]
    refine for_range (lo := 0) (n := us.length) (fun i σ H' => H' = H ∧ ∃ v, σ = [some (.ref a), some (.ref b), v]) ⟨rfl, none, rfl⟩ ?_ ?_
    · rintro i σ H' hi ⟨rfl, v, rfl⟩
      have i1 : i < ts.length := by omega
      have i3 : i < T'.length := by omega
      have g1 := List.getElem?_eq_getElem i1
      have g2 := List.getElem?_eq_getElem hi
      have g3 := List.getElem?_eq_getElem i3
      have hm := ht _ (List.mem_of_getElem? g3)
      refine ⟨_, rfl, _, rfl, a, _, _, _, rfl, rfl, SqL.of ha, at_of (by omega) (ref_at g1), _, rfl, _, rfl, b, _, _, _, rfl, rfl, SqL.of hb, at_of (by omega) (ref_at g2), ts[i], us[i], T'[i], rfl, ct.2 i _ _ g1 g3, cu.2 i _ _ g2 g3, by omega, _, rfl, ?_⟩
      refine iteF ?_
      exact ⟨rfl, _, rfl⟩
    · rintro σ H' ⟨rfl, v, rfl⟩
      exact k
def spAsDue (CN : Addr) : Sp := fun vs H Q _ => ∃ (p q : Addr) (bowls doors : List Str) (T G : List (List Int)) (first : List Int), vs = [.ref p, .ref q] ∧ NetAt CN H p bowls doors T G first ∧ DueAt H q bowls doors T G first ∧ NetOk bowls doors T G first ∧ Q (.bl true) H
abbrev s_l_as_due : Stmt := topS 34
abbrev N_l_as_due : List Str := ["net", "parts"]
theorem sc_l_as_due : FnScope ["net", "parts"] ["net", "parts"] (defScope s_l_as_due) := ⟨rfl, rfl, rfl, by decide +kernel, rfl, by decide +kernel, by decide +kernel⟩
theorem ok_l_as_due {f f1 f2 f3 f4 c_Net : Addr} {fd fd1 fd2 fd3 fd4 : FuncData} (T : Txt K mg) (TN : CTxt K c_Net) (IS : NIs K c_Net) (g_Net : mg "Net" = some (.ref c_Net)) (L_l_whole : Lk K mg "_law_whole" s_l_whole f1 fd1 ["found"]) (L_l_numbers : Lk K mg "_law_numbers" s_l_numbers f2 fd2 ["found", "due"])
    (L_l_rows : Lk K mg "_law_rows" s_l_rows f3 fd3 ["found", "due"]) (L_l_texts : Lk K mg "_law_texts" s_l_texts f4 fd4 ["found", "due"]) (L_l_as_due : Lk K mg "_law_as_due" s_l_as_due f fd ["net", "parts"]) : FnOk P w K mg base CX0 4 f fd ["net", "parts"] (spAsDue c_Net) := by
  have G_l_numbers : FnOk P w K mg base CX0 2 f2 fd2 ["found", "due"] spNumbers := ok_l_numbers T L_l_whole L_l_numbers
  have G_l_rows : FnOk P w K mg base CX0 3 f3 fd3 ["found", "due"] spRows := ok_l_rows T L_l_whole L_l_numbers L_l_rows
  have G_l_texts : FnOk P w K mg base CX0 1 f4 fd4 ["found", "due"] spTexts := ok_l_texts T L_l_texts
  refine L_l_as_due.fn.ok sc_l_as_due (fun vs H Q E h => ?_) (fun cdv A outer s H vs Q E hr h => ?_)
  · obtain ⟨p, q, bowls, doors, T, G, first, rfl, _⟩ := h
    rfl
  · obtain ⟨p, q, bowls, doors, T', G, first, rfl, ⟨dx, lb, ld, lt, lg, lf, ts, gs, hp, hb, hd, ht, hg, hf, ct, cg⟩, ⟨mb, md, mt, mgv, mf, us, vs, hq, kb, kd, kt, kg, kf, cu, cv⟩, ok, k⟩ := h
    refine ⟨_, (pss_cons (ps_if (pt_not (pt_val (pe_callB call_isi (by rfl) T.isi (by decide +kernel) (pa_cons (pv 0) (pa_cons (pe_glob (v := .ref c_Net) rfl g_Net rfl) pa_nil))))) (pss_one (ps_ret pe_bl)) pss_nil)
      (pss_cons (ps_if (PW.pt (pw_or (pt_not (pt_val (pe_call G_l_texts (hr.mono (by decide)) (by rfl) L_l_texts.g L_l_texts.fn.kp L_l_texts.b .nil pass0 (pa_cons (pe_fld (pv 0) rfl) (pa_cons (pe_ix ix_list (pv 1) pe_int (fun _ _ => rfl)) pa_nil))))) (pw_or1 (pt_not (pt_val (pe_call G_l_texts (hr.mono (by decide)) (by rfl) L_l_texts.g L_l_texts.fn.kp L_l_texts.b .nil pass0 (pa_cons (pe_fld (pv 0) rfl) (pa_cons (pe_ix ix_list (pv 1) pe_int (fun _ _ => rfl)) pa_nil)))))))) (pss_one (ps_ret pe_bl)) pss_nil)
      (pss_cons (ps_if (PW.pt (pw_or (pt_not (pt_val (pe_call G_l_rows (hr.mono (by decide)) (by rfl) L_l_rows.g L_l_rows.fn.kp L_l_rows.b .nil pass0 (pa_cons (pe_fld (pv 0) rfl) (pa_cons (pe_ix ix_list (pv 1) pe_int (fun _ _ => rfl)) pa_nil))))) (pw_or1 (pt_not (pt_val (pe_call G_l_rows (hr.mono (by decide)) (by rfl) L_l_rows.g L_l_rows.fn.kp L_l_rows.b .nil pass0 (pa_cons (pe_fld (pv 0) rfl) (pa_cons (pe_ix ix_list (pv 1) pe_int (fun _ _ => rfl)) pa_nil)))))))) (pss_one (ps_ret pe_bl)) pss_nil)
      (pss_one (ps_ret (pe_call G_l_numbers (hr.mono (by decide)) (by rfl) L_l_numbers.g L_l_numbers.fn.kp L_l_numbers.b .nil pass0 (pa_cons (pe_fld (pv 0) rfl) (pa_cons (pe_ix ix_list (pv 1) pe_int (fun _ _ => rfl)) pa_nil)))))))), ?_⟩
    have b6 := ok.b6
    have d8 := ok.d8
    have tl8 := ok.tl
    have gl8 := ok.gl
    refine ⟨_, rfl, _, _, _, _, true, rfl, .own c_Net, .base (.ins hp IS.cl IS.ha IS.hn IS.htk IS.hm), IS.me, _, rfl, ?_⟩
    refine iteF ?_
    refine ⟨_, rfl, p, c_Net, dx, _, _, rfl, hp, TN.cl, TN.nb, netF_b .., _, rfl, q, _, _, _, rfl, rfl, SqL.of hq, at_of (j := 0) rfl rfl, lb, mb, bowls, rfl, hb, kb, by omega, _, rfl, ?_⟩
    refine iteF ?_
    refine ⟨_, rfl, p, c_Net, dx, _, _, rfl, hp, TN.cl, TN.nd, netF_d .., _, rfl, q, _, _, _, rfl, rfl, SqL.of hq, at_of (j := 1) rfl rfl, ld, md, doors, rfl, hd, kd, by omega, _, rfl, ?_⟩
    refine iteF ?_
    refine ⟨_, rfl, p, c_Net, dx, _, _, rfl, hp, TN.cl, TN.nt, netF_t .., _, rfl, q, _, _, _, rfl, rfl, SqL.of hq, at_of (j := 2) rfl rfl, lt, mt, ts, us, T', rfl, ht, kt, ct, cu, by omega, fun t h => by have := (ok.tr t h).1; omega, _, rfl, ?_⟩
    refine iteF ?_
    refine ⟨_, rfl, p, c_Net, dx, _, _, rfl, hp, TN.cl, TN.ng, netF_g .., _, rfl, q, _, _, _, rfl, rfl, SqL.of hq, at_of (j := 3) rfl rfl, lg, mgv, gs, vs, G, rfl, hg, kg, cg, cv, by omega, fun t h => by have := (ok.gr t h).1; omega, _, rfl, ?_⟩
    refine iteF ?_
    exact ⟨_, rfl, p, c_Net, dx, _, _, rfl, hp, TN.cl, TN.nf, netF_f .., _, rfl, q, _, _, _, rfl, rfl, SqL.of hq, at_of (j := 4) rfl rfl, lf, mf, first, rfl, hf, kf, by have := ok.fl; omega, k⟩
end
end BH

set_option Elab.async false
set_option linter.all false
set_option maxRecDepth 100000
set_option maxHeartbeats 4000000
namespace BH
open PySem TL L2 PyProof.Rows
theorem cdv {i j : Int} (h : 0 < j) (h2 : j < 18446744073709551616) : CDivW i j := wide_div (b := 64) h (by omega) (by decide) (by decide)
theorem cml {i j : Int} (h1 : -18446744073709551616 < i) (h2 : i < 18446744073709551616) (h3 : -18446744073709551616 < j) (h4 : j < 18446744073709551616) : CMulW i j := wide_mul (a := 64) (b := 64) (by omega) (by omega) (by decide) (by decide) (by decide)
theorem pick {xs : List V} {i : Int} (h0 : 0 ≤ i) (h1 : i < (xs.length : Int)) : ∃ v, atI xs i = some v ∧ v ∈ xs := by
  have hl : i.toNat < xs.length := by omega
  exact ⟨xs[i.toNat], at_of (j := i.toNat) (by omega) (List.getElem?_eq_getElem hl), List.getElem_mem hl⟩
section
variable {P : Program} {w : World} {K : PySem.W.Frag} {mg : Str → Option Value} {base : Heap}
/-! ### the law's rows -/
def spMix : Sp := fun vs H Q _ => ∃ cell k : Int, vs = [.int cell, .int k] ∧ 0 ≤ cell ∧ cell < 4611686018427387904 ∧ 0 ≤ k ∧ k ≤ 7 ∧ ∀ m, 0 ≤ m → m < 998244353 → Q (.int m) H
abbrev s_l_mixed : Stmt := topS 29
abbrev N_l_mixed : List Str := ["cell", "k", "number"]
theorem sc_l_mixed : FnScope ["cell", "k", "number"] ["cell", "k"] (defScope s_l_mixed) := ⟨rfl, rfl, rfl, by decide +kernel, rfl, by decide +kernel, by decide +kernel⟩
theorem ok_l_mixed {f : Addr} {fd : FuncData} (L_l_mixed : Lk K mg "_law_mixed" s_l_mixed f fd ["cell", "k"]) : FnOk P w K mg base CX0 1 f fd ["cell", "k"] spMix := by
  refine L_l_mixed.fn.ok sc_l_mixed (fun vs H Q E h => ?_) (fun cdv A outer s H vs Q E hr h => ?_)
  · obtain ⟨cell, k, rfl, _⟩ := h
    rfl
  · obtain ⟨cell, k, rfl, h1, h2, h3, h4, kq⟩ := h
    refine ⟨_, (pss_cons (ps_set (i := 2) sc_l_mixed.nd rfl (Or.inl rfl) (pe_op op_mod (pe_op op_add (pe_op op_add (pv 0) (pe_op op_mulW (pe_op op_mulW pe_int (pv 1)) (pv 1))) (pv 1)) pe_int))
      (pss_cons (ps_set (i := 2) sc_l_mixed.nd rfl (Or.inl rfl) (pe_op op_mod (pe_op op_mulW (pv 2) (pv 2)) pe_int))
      (pss_one (ps_ret (pe_op op_mod (pe_op op_mulW (pe_op op_add (pv 2) (pe_op op_fdivW (pv 0) pe_int)) pe_int) pe_int))))), ?_⟩
    refine ⟨_, rfl, _, rfl, _, _, rfl, rfl, cml (by omega) (by omega) (by omega) (by omega), _, rfl, _, _, rfl, rfl, cml (by omega) (by omega) (by omega) (by omega), _, _, rfl, rfl, _, rfl, _, _, rfl, rfl, _, _, rfl, rfl, (by show (0 : Int) < _; decide), ?_⟩
    have a1 := Int.emod_nonneg (cell + 7919 * k * k + k) (show (2147483647 : Int) ≠ 0 by decide)
    have a2 := Int.emod_lt_of_pos (cell + 7919 * k * k + k) (show (0 : Int) < 2147483647 by decide)
    generalize (cell + 7919 * k * k + k) % 2147483647 = x at a1 a2 ⊢
    refine ⟨_, rfl, _, rfl, _, _, rfl, rfl, cml (by omega) (by omega) (by omega) (by omega), _, _, rfl, rfl, (by show (0 : Int) < _; decide), ?_⟩
    have b1 := Int.emod_nonneg (x * x) (show (1000000007 : Int) ≠ 0 by decide)
    have b2 := Int.emod_lt_of_pos (x * x) (show (0 : Int) < 1000000007 by decide)
    generalize x * x % 1000000007 = y at b1 b2 ⊢
    refine ⟨_, rfl, _, rfl, _, _, rfl, rfl, BH.cdv (by decide) (by decide), _, _, rfl, rfl, _, _, rfl, rfl, cml (by omega) (by omega) (by omega) (by omega), _, _, rfl, rfl, (by show (0 : Int) < _; decide), ?_⟩
    exact kq _ (Int.emod_nonneg _ (by decide)) (Int.emod_lt_of_pos _ (by decide))
def SOME : List Str := [("a" : Str), ("b" : Str), ("ab" : Str), ("ba" : Str), ("bowl" : Str), ("door" : Str), ("aa" : Str), ("abcdefgh" : Str), ("z" : Str)]
theorem some_ok : ∀ z ∈ SOME, 10 ∉ tl z ∧ z.length ≤ 8 := by decide +kernel
def spNameOf : Sp := fun vs H Q _ => ∃ cell many : Int, vs = [.int cell, .int many] ∧ ∀ z H', Same H H' → 10 ∉ tl z → z.length ≤ 8 → Q (.str z) H'
abbrev s_l_name_of : Stmt := topS 35
abbrev N_l_name_of : List Str := ["cell", "many", "some"]
theorem sc_l_name_of : FnScope ["cell", "many", "some"] ["cell", "many"] (defScope s_l_name_of) := ⟨rfl, rfl, rfl, by decide +kernel, rfl, by decide +kernel, by decide +kernel⟩
theorem ok_l_name_of {f : Addr} {fd : FuncData} (L_l_name_of : Lk K mg "_law_name_of" s_l_name_of f fd ["cell", "many"]) : FnOk P w K mg base CX0 1 f fd ["cell", "many"] spNameOf := by
  refine L_l_name_of.fn.ok sc_l_name_of (fun vs H Q E h => ?_) (fun cdv A outer s H vs Q E hr h => ?_)
  · obtain ⟨cell, many, rfl, _⟩ := h
    rfl
  · obtain ⟨cell, many, rfl, k⟩ := h
    refine ⟨_, (pss_cons (ps_set (i := 2) sc_l_name_of.nd rfl (Or.inl rfl) (pe_lst (pa_cons pe_str (pa_cons pe_str (pa_cons pe_str (pa_cons pe_str (pa_cons pe_str (pa_cons pe_str (pa_cons pe_str (pa_cons pe_str (pa_cons pe_str pa_nil)))))))))))
      (pss_cons (ps_if (pt_cmpR op_eq (pe_op op_mod (pv 0) pe_int) pe_int (nomark _)) (pss_one (ps_ret (pe_ix ix_list (pv 2) (pe_op op_mod (pe_op op_fdivW (pv 0) pe_int) pe_int) (fun _ _ => rfl)))) pss_nil)
      (pss_one (ps_ret (pe_ix ix_list (pv 2) (pe_op op_mod (pv 1) pe_int) (fun _ _ => rfl)))))), ?_⟩
    refine ⟨small_of (by show 9 ≤ _; omega), fun p np => ?_⟩
    have s1 : Same H (upd H p (.lst (SOME.map V.str))) := same_upd np
    have hp : upd H p (.lst (SOME.map V.str)) p = some (.lst (SOME.map V.str)) := upd_same
    have fin : ∀ j : Int, ∃ v, atI (SOME.map V.str) (j % 9) = some v ∧ Q v (upd H p (.lst (SOME.map V.str))) := fun j => by
      obtain ⟨v, hv, hm⟩ := pick (xs := SOME.map V.str) (i := j % 9) (Int.emod_nonneg _ (by decide)) (Int.emod_lt_of_pos _ (by decide))
      obtain ⟨z, hz, rfl⟩ := List.mem_map.mp hm
      have q := some_ok z hz
      exact ⟨_, hv, k z _ s1 q.1 q.2⟩
    refine ⟨_, rfl, _, _, rfl, rfl, (by show (0 : Int) < _; decide), rfl, _, rfl, ?_⟩
    refine ite2 (fun h1 => ?_) (fun h1 => ?_)
    · obtain ⟨v, e, q⟩ := fin (cell / 11)
      exact ⟨_, rfl, _, rfl, _, _, rfl, rfl, BH.cdv (by decide) (by decide), _, _, rfl, rfl, (by show (0 : Int) < _; decide), p, _, _, v, rfl, rfl, SqL.of hp, e, q⟩
    · obtain ⟨v, e, q⟩ := fin many
      exact ⟨_, rfl, _, rfl, _, _, rfl, rfl, (by show (0 : Int) < _; decide), p, _, _, v, rfl, rfl, SqL.of hp, e, q⟩
def spLPart (K : PySem.W.Frag) : Sp := fun vs H Q _ => ∃ (cell : Int) (ab : Addr) (bowls : List Str), vs = [.int cell, .ref ab] ∧ 0 ≤ cell ∧ cell < 998244353 ∧ SqL K H ab (bowls.map V.str) ∧ bowls.length ≤ 1000 ∧ (∀ n ∈ bowls, 10 ∉ tl n ∧ n.length ≤ 40) ∧ ∀ z H', Same H H' → 10 ∉ tl z → z.length ≤ 250 → Q (.str z) H'
abbrev s_l_part_of : Stmt := topS 36
abbrev N_l_part_of : List Str := ["cell", "bowls", "pieces", "k", "at"]
theorem sc_l_part_of : FnScope ["cell", "bowls", "pieces", "k", "at"] ["cell", "bowls"] (defScope s_l_part_of) := ⟨rfl, rfl, rfl, by decide +kernel, rfl, by decide +kernel, by decide +kernel⟩
theorem ok_l_part_of {f : Addr} {fd : FuncData} (T : Txt K mg) (L_l_part_of : Lk K mg "_law_part_of" s_l_part_of f fd ["cell", "bowls"]) : FnOk P w K mg base CX0 1 f fd ["cell", "bowls"] (spLPart K) := by
  refine L_l_part_of.fn.ok sc_l_part_of (fun vs H Q E h => ?_) (fun cdv A outer s H vs Q E hr h => ?_)
  · obtain ⟨cell, ab, bowls, rfl, _⟩ := h
    rfl
  · obtain ⟨cell, ab, bowls, rfl, c0, c1, hb, hl, hbn, k⟩ := h
    refine ⟨_, (pss_cons (ps_set (i := 2) sc_l_part_of.nd rfl (Or.inl rfl) (pe_lst pa_nil))
      (pss_cons (ps_for PassesOwn.never rfl (pi_range1 (by rfl) T.range (pa_cons (pe_callB (call_min2 rfl) (by rfl) T.min (by decide +kernel) (pa_cons (pe_op op_mod (pv 0) pe_int) (pa_cons (pe_callB call_len_seq (by rfl) T.len PySem.boot_len (pa_cons (pv 1) pa_nil)) pa_nil))) pa_nil)) (pg_name (i := 3) sc_l_part_of.nd rfl (Or.inl rfl))
      (pss_cons (ps_set (i := 4) sc_l_part_of.nd rfl (Or.inl rfl) (pe_op op_mod (pe_op op_add (pe_op op_fdivW (pv 0) pe_int) (pe_op op_mulW (pv 3) (pe_op op_add pe_int (pe_op op_fdivW (pe_op op_mod (pe_op op_fdivW (pv 0) pe_int) pe_int) pe_int)))) (pe_callB call_len_seq (by rfl) T.len PySem.boot_len (pa_cons (pv 1) pa_nil))))
      (pss_one (ps_expr (pe_bm PySem.F.plainAttrs_list PySem.F.slot_list_append PySem.F.type_list_append mt_append (pv 2) (pa_cons (pe_op op_add_str (pe_op op_add_str (pe_callTy (T := "str") call_str_int (by rfl) T.str (by decide +kernel) (pa_cons (pe_op op_add pe_int (pe_op op_mod (pe_op op_mulW (pe_op op_mulW (pe_op op_mod (pe_op op_fdivW (pv 0) pe_int) pe_int) pe_int) (pv 3)) pe_int)) pa_nil)) pe_str) (pe_ix ix_list (pv 1) (pv 4) (fun _ _ => rfl))) pa_nil))))))
      (pss_cons (ps_if (pt_cmpR (op_eqS hr.units) (pv 2) (pe_lst pa_nil) (nomark _)) (pss_one (ps_ret pe_str)) pss_nil)
      (pss_one (ps_ret (pe_join pe_str (pv 2))))))), ?_⟩
    refine ⟨Nat.zero_le _, fun p np => ?_⟩
    have s1 : Same H (upd H p (.lst [])) := same_upd np
    refine ⟨_, rfl, _, _, rfl, rfl, (by show (0 : Int) < _; decide), _, rfl, ab, _, rfl, .inl (s1.seq hb), _, _, rfl, ?_⟩
    rw [List.length_map]
    have m1 := Int.emod_nonneg cell (show (5 : Int) ≠ 0 by decide)
    have m2 := Int.emod_lt_of_pos cell (show (0 : Int) < 5 by decide)
    obtain ⟨m, hm, em⟩ : ∃ m : Nat, (m ≤ 4 ∧ m ≤ bowls.length) ∧ (if (bowls.length : Int) < cell % 5 then (bowls.length : Int) else cell % 5) = (m : Int) := by
      by_cases h : (bowls.length : Int) < cell % 5
      · exact ⟨bowls.length, ⟨by omega, Nat.le_refl _⟩, if_pos h⟩
      · exact ⟨(cell % 5).toNat, ⟨by omega, by omega⟩, by rw [if_neg h]; omega⟩
    rw [em]
    refine ⟨_, rfl, by omega, by omega, ?_⟩
    rw [Int.toNat_natCast]
    refine for_range (lo := 0) (n := m) (fun i σ H' => ∃ v3 v4 ps, σ = [some (.int cell), some (.ref ab), some (.ref p), v3, v4] ∧ Same H H' ∧ H' p = some (.lst (ps.map V.str)) ∧ ps.length = i ∧ ∀ y ∈ ps, 10 ∉ tl y ∧ y.length ≤ 51) ⟨none, none, [], rfl, s1, upd_same, rfl, fun y h => by simp at h⟩ ?_ ?_
    · rintro i σ H' hi ⟨v3, v4, ps, rfl, s2, hp, el, hps⟩
      refine ⟨_, rfl, _, _, rfl, rfl, BH.cdv (by decide) (by decide), _, rfl, _, rfl, _, _, rfl, rfl, BH.cdv (by decide) (by decide), _, _, rfl, rfl, (by show (0 : Int) < _; decide), _, _, rfl, rfl, BH.cdv (by decide) (by decide), _, _, rfl, rfl, _, _, rfl, rfl, cml (by omega) (by omega) (by omega) (by omega), _, _, rfl, rfl, _, rfl, ab, _, rfl, .inl (s2.seq hb), _, _, rfl, rfl, by rw [List.length_map]; show (0 : Int) < _; omega, ?_⟩
      rw [List.length_map]
      have a1 : 0 ≤ ((cell / 8 + (0 + (i : Int)) * (1 + cell / 64 % 20 / 19)) % (bowls.length : Int)) := Int.emod_nonneg _ (by omega)
      have a2 : ((cell / 8 + (0 + (i : Int)) * (1 + cell / 64 % 20 / 19)) % (bowls.length : Int)) < (bowls.length : Int) := Int.emod_lt_of_pos _ (by omega)
      obtain ⟨v, hv, hmem⟩ := pick (xs := bowls.map V.str) a1 (by rw [List.length_map]; exact a2)
      obtain ⟨n, hn, rfl⟩ := List.mem_map.mp hmem
      have nb := hbn n hn
      refine ⟨_, rfl, .inl ⟨rfl, _, SqL.of hp⟩, _, rfl, _, _, rfl, rfl, BH.cdv (by decide) (by decide), _, _, rfl, rfl, (by show (0 : Int) < _; decide), _, _, rfl, rfl, cml (by omega) (by omega) (by omega) (by omega), _, rfl, _, _, rfl, rfl, cml (by omega) (by omega) (by omega) (by omega), _, _, rfl, rfl, (by show (0 : Int) < _; decide), _, _, rfl, rfl, ?_⟩
      have d1 := Int.emod_nonneg (cell / 64 % 3 * 333333333 * (0 + (i : Int))) (show (1000000000 : Int) ≠ 0 by decide)
      have d2 := Int.emod_lt_of_pos (cell / 64 % 3 * 333333333 * (0 + (i : Int))) (show (0 : Int) < 1000000000 by decide)
      have l2 := numS_len (c := 1 + (cell / 64 % 3 * 333333333 * (0 + (i : Int)) % 1000000000)) (by omega) (by omega)
      refine ⟨_, rfl, small_log (by omega) (by omega), _, _, rfl, rfl, small_of (by show (numS (1 + (cell / 64 % 3 * 333333333 * (0 + (i : Int)) % 1000000000))).length + 1 ≤ _; omega), _, rfl, _, rfl, ab, _, _, _, rfl, rfl, s2.seq hb, hv, _, _, rfl, rfl, small_of (by rw [Str.length_append]; show (numS (1 + (cell / 64 % 3 * 333333333 * (0 + (i : Int)) % 1000000000))).length + 1 + _ ≤ _; omega), p, _, _, rfl, rfl, hp, by rw [List.length_map]; exact small1000 (by omega), ?_⟩
      refine ⟨_, _, ps ++ [numS (1 + (cell / 64 % 3 * 333333333 * (0 + (i : Int)) % 1000000000)) ++ (" " : Str) ++ n], rfl, same_put s2 np, by rw [upd_same, List.map_append]; rfl, by rw [List.length_append, el]; rfl, mem_snoc hps ⟨?_, ?_⟩⟩
      · rw [tl_append, tl_append, tl_sp]
        intro h
        rcases List.mem_append.mp h with h | h
        · rcases List.mem_append.mp h with h | h
          · exact numS_free (by omega) (by omega) h
          · simp at h
        · exact nb.1 h
      · rw [Str.length_append, Str.length_append]
        show (numS (1 + (cell / 64 % 3 * 333333333 * (0 + (i : Int)) % 1000000000))).length + 1 + _ ≤ _
        omega
    · rintro σ H' ⟨v3, v4, ps, rfl, s2, hp, el, hps⟩
      refine ⟨_, rfl, Nat.zero_le _, fun q nq => ?_⟩
      have npq : p ≠ q := ne_of_none hp nq
      have s3 := s2.trans (same_upd (o := .lst []) nq)
      have hp3 : upd H' q (.lst []) p = some (.lst (ps.map V.str)) := by rw [upd_ne npq]; exact hp
      refine ⟨p, q, ps, [], rfl, rfl, SqL.of hp3, SqL.of upd_same, _, rfl, ?_⟩
      refine ite2 (fun h1 => ?_) (fun h1 => ?_)
      · exact k _ _ s3 (by rw [tl_mi]; decide) (by decide +kernel)
      · have e3 : (" + " : Str).length = 3 := by decide +kernel
        have hs := sum_le (m := 51) fun y hy => (hps y hy).2
        refine ⟨⟨_, rfl⟩, _, rfl, _, p, ps, rfl, rfl, .inl (SqL.of hp3), by rw [e3]; omega, ?_⟩
        refine k _ _ s3 ?_ ?_
        · rw [join_eq, tl_join, tl_plus]
          intro h
          rcases mem_joinL h with z | ⟨y, hy, z⟩
          · simp at z
          · obtain ⟨u, hu, rfl⟩ := List.mem_map.mp hy
            exact (hps u hu).1 z
        · rw [len_tl, join_eq, tl_join, tl_plus]
          have q := joinL_len (Z := [32, 43, 32]) (m := 51) (l := ps.map tl) fun y hy => by
            obtain ⟨u, hu, rfl⟩ := List.mem_map.mp hy
            rw [← len_tl]
            exact (hps u hu).2
          rw [List.length_map] at q
          have e : (51 + ([32, 43, 32] : List Nat).length) = 54 := rfl
          rw [e] at q
          omega
end
end BH

set_option Elab.async false
set_option linter.all false
set_option maxRecDepth 100000
set_option maxHeartbeats 4000000
namespace BH
open PySem TL L2 PyProof.Rows
/-! ### what a row of the law's looks like -/
theorem spl_mem (Z : List Nat) : ∀ (l : List Nat) (k : Nat) (acc p : List Nat), p ∈ spl Z k acc l → ∀ c ∈ p, c ∈ acc ∨ c ∈ l
  | [], k, acc, p, hp, c, hc => by
    rw [spl_nil] at hp
    rw [List.mem_singleton.mp hp] at hc
    exact .inl hc
  | d :: r, 0, acc, p, hp, c, hc => by
    cases h : pre Z (d :: r) with
    | true =>
      rw [spl_hit h] at hp
      rcases List.mem_cons.mp hp with e | e
      · rw [e] at hc
        exact .inl hc
      · rcases spl_mem Z r _ _ p e c hc with q | q
        · simp at q
        · exact .inr (List.mem_cons_of_mem _ q)
    | false =>
      rw [spl_miss h] at hp
      rcases spl_mem Z r _ _ p hp c hc with q | q
      · rcases List.mem_append.mp q with q | q
        · exact .inl q
        · rw [List.mem_singleton.mp q]
          exact .inr (List.mem_cons_self ..)
      · exact .inr (List.mem_cons_of_mem _ q)
  | d :: r, k + 1, acc, p, hp, c, hc => by
    rcases spl_mem Z r k acc p hp c hc with q | q
    · exact .inl q
    · exact .inr (List.mem_cons_of_mem _ q)
theorem spl_head (Z : List Nat) : ∀ (l acc : List Nat), ∃ p rest suf, spl Z 0 acc l = (acc ++ p) :: rest ∧ l = p ++ suf
  | [], acc => ⟨[], [], [], by rw [spl_nil, List.append_nil], rfl⟩
  | d :: r, acc => by
    cases h : pre Z (d :: r) with
    | true => exact ⟨[], _, d :: r, by rw [spl_hit h, List.append_nil], rfl⟩
    | false =>
      obtain ⟨p, rest, suf, e1, e2⟩ := spl_head Z r (acc ++ [d])
      exact ⟨d :: p, rest, suf, by rw [spl_miss h, e1, List.append_assoc]; rfl, by rw [e2]; rfl⟩
theorem words_mem {row z : Str} (h : z ∈ wordsOf row) : ∀ c ∈ tl z, c ∈ tl row := fun c hc => by
  have e := split_spl row (" " : Str) (by rw [tl_sp]; simp) (kind_ok sp256)
  have hm : tl z ∈ spl (tl (" " : Str)) 0 [] (tl row) := by
    rw [← e]
    exact List.mem_map.mpr ⟨z, h, rfl⟩
  rcases spl_mem _ _ _ _ _ hm c hc with q | q
  · simp at q
  · exact q
theorem words_head {row : Str} (h : wd (wordsOf row) 0 = ("bowl" : Str)) : ∃ r, tl row = 98 :: 111 :: r := by
  have e := split_spl row (" " : Str) (by rw [tl_sp]; simp) (kind_ok sp256)
  obtain ⟨p, rest, suf, e1, e2⟩ := spl_head (tl (" " : Str)) (tl row) []
  have e3 : (wordsOf row).map tl = ([] ++ p) :: rest := e.trans e1
  have e4 : tl (wd (wordsOf row) 0) = p := by
    obtain ⟨a, r, hw⟩ := List.exists_cons_of_ne_nil (words_facts row).1
    rw [hw] at e3 ⊢
    injection e3 with e5 _
  rw [h, tl_bowl] at e4
  exact ⟨119 :: 108 :: suf, by rw [e2, ← e4]; rfl⟩
def Spoilt (l l' : List Nat) : Prop := ∃ j, l' = l.take j ++ l.drop (j + 1) ∨ ∃ c, c ≠ 10 ∧ l' = l.take j ++ c :: l.drop j
def RowOk (z : Str) : Prop := 10 ∉ tl z ∧ z.length ≤ 1000 ∧ ∀ r, tl z = 98 :: 111 :: r → z.length ≤ 40
def RowPre (z : Str) : Prop := 10 ∉ tl z ∧ z.length ≤ 900 ∧ (z.length ≤ 30 ∨ ∃ r, tl z = 100 :: 111 :: r)
theorem RowPre.ok {z : Str} (h : RowPre z) : RowOk z := by
  refine ⟨h.1, by have := h.2.1; omega, fun r e => ?_⟩
  rcases h.2.2 with q | ⟨r2, q⟩
  · omega
  · rw [e] at q
    injection q with q1 _
    exact absurd q1 (by decide)
theorem RowPre.spoilt {z y : Str} (h : RowPre z) (s : Spoilt (tl z) (tl y)) : RowOk y := by
  obtain ⟨h1, h2, h3⟩ := h
  rw [len_tl] at h2 h3
  obtain ⟨j, e | ⟨c, hc, e⟩⟩ := s
  · have ll : (tl y).length ≤ (tl z).length := by
      rw [e, List.length_append, List.length_take, List.length_drop]
      omega
    refine ⟨fun m => ?_, by rw [len_tl]; omega, fun r er => ?_⟩
    · rw [e] at m
      rcases List.mem_append.mp m with q | q
      · exact h1 (List.mem_of_mem_take q)
      · exact h1 (List.mem_of_mem_drop q)
    · rw [len_tl]
      rcases h3 with q | ⟨r2, q⟩
      · omega
      · rw [er, q] at e
        cases j with
        | zero =>
          have e : (98 :: 111 :: r : List Nat) = 111 :: r2 := e
          injection e with e1 _
          exact absurd e1 (by decide)
        | succ j =>
          have e : (98 :: 111 :: r : List Nat) = 100 :: ((111 :: r2).take j ++ (111 :: r2).drop (j + 1)) := e
          injection e with e1 _
          exact absurd e1 (by decide)
  · have ll : (tl y).length ≤ (tl z).length + 1 := by
      rw [e, List.length_append, List.length_cons, List.length_take, List.length_drop]
      omega
    refine ⟨fun m => ?_, by rw [len_tl]; omega, fun r er => ?_⟩
    · rw [e] at m
      rcases List.mem_append.mp m with q | q
      · exact h1 (List.mem_of_mem_take q)
      · rcases List.mem_cons.mp q with q | q
        · exact hc q.symm
        · exact h1 (List.mem_of_mem_drop q)
    · rw [len_tl]
      rcases h3 with q | ⟨r2, q⟩
      · omega
      · rw [er, q] at e
        cases j with
        | zero =>
          have e : (98 :: 111 :: r : List Nat) = c :: 100 :: 111 :: r2 := e
          injection e with e1 e2
          injection e2 with e3 _
          exact absurd e3 (by decide)
        | succ j =>
          have e : (98 :: 111 :: r : List Nat) = 100 :: ((111 :: r2).take j ++ c :: (111 :: r2).drop j) := e
          injection e with e1 _
          exact absurd e1 (by decide)
theorem cutS_to (z : Str) (j : Nat) : tl (cutS z none (some (j : Int))) = (tl z).take j := by
  show (tl z |>.drop (HT.sIx z.length 0 none)).take (HT.sIx z.length z.length (some (j : Int)) - HT.sIx z.length 0 none) = _
  rw [HT.sIx_none, HT.sIx_nat, List.drop_zero, Nat.sub_zero]
  by_cases h : j ≤ z.length
  · rw [Nat.min_eq_left h]
  · rw [Nat.min_eq_right (by omega), List.take_of_length_le (by rw [len_tl]; omega), List.take_of_length_le (by rw [← len_tl]; omega)]
theorem cutS_from (z : Str) (j : Nat) : tl (cutS z (some (j : Int)) none) = (tl z).drop j := by
  show (tl z |>.drop (HT.sIx z.length 0 (some (j : Int)))).take (HT.sIx z.length z.length none - HT.sIx z.length 0 (some (j : Int))) = _
  rw [HT.sIx_none, HT.sIx_nat]
  by_cases h : j ≤ z.length
  · rw [Nat.min_eq_left h, List.take_of_length_le (by rw [List.length_drop, ← len_tl]; omega)]
  · rw [Nat.min_eq_right (by omega), Nat.sub_self, List.take_zero, List.drop_eq_nil_of_le (by rw [← len_tl]; omega)]
theorem signs_ok : ∀ c ∈ (" >-+#01a" : Str).cps.toList, c ≠ 10 := by decide +kernel
theorem signs_len : (" >-+#01a" : Str).cps.toList.length = 8 := by decide +kernel
section
variable {P : Program} {w : World} {K : PySem.W.Frag} {mg : Str → Option Value} {base : Heap}
def spSpoilt : Sp := fun vs H Q _ => ∃ (row : Str) (cell : Int), vs = [.str row, .int cell] ∧ row.length ≤ 2000 ∧ 0 ≤ cell ∧ ∀ z, Spoilt (tl row) (tl z) → Q (.str z) H
abbrev s_l_spoilt : Stmt := topS 37
abbrev N_l_spoilt : List Str := ["row", "cell", "signs", "at"]
theorem sc_l_spoilt : FnScope ["row", "cell", "signs", "at"] ["row", "cell"] (defScope s_l_spoilt) := ⟨rfl, rfl, rfl, by decide +kernel, rfl, by decide +kernel, by decide +kernel⟩
theorem ok_l_spoilt {f : Addr} {fd : FuncData} (T : Txt K mg) (L_l_spoilt : Lk K mg "_law_spoilt" s_l_spoilt f fd ["row", "cell"]) : FnOk P w K mg base CX0 1 f fd ["row", "cell"] spSpoilt := by
  refine L_l_spoilt.fn.ok sc_l_spoilt (fun vs H Q E h => ?_) (fun cdv A outer s H vs Q E hr h => ?_)
  · obtain ⟨row, cell, rfl, _⟩ := h
    rfl
  · obtain ⟨row, cell, rfl, hl, c0, k⟩ := h
    refine ⟨_, (pss_cons (ps_set (i := 2) sc_l_spoilt.nd rfl (Or.inl rfl) pe_str)
      (pss_cons (ps_set (i := 3) sc_l_spoilt.nd rfl (Or.inl rfl) (pe_op op_mod (pe_op op_fdivW (pv 1) pe_int) (pe_op op_add (pe_callB call_len_str (by rfl) T.len PySem.boot_len (pa_cons (pv 0) pa_nil)) pe_int)))
      (pss_cons (ps_if (pt_cmpR op_eq (pe_op op_mod (pv 1) pe_int) pe_int (nomark _)) (pss_one (ps_ret (pe_op op_add_str (pe_slice sl_str (pv 0) po_none (po_some (pv 3))) (pe_slice sl_str (pv 0) (po_some (pe_op op_add (pv 3) pe_int)) po_none)))) pss_nil)
      (pss_one (ps_ret (pe_op op_add_str (pe_op op_add_str (pe_slice sl_str (pv 0) po_none (po_some (pv 3))) (pe_ix ix_str (pv 2) (pe_op op_mod (pe_op op_fdivW (pv 1) pe_int) pe_int) (fun _ _ => rfl))) (pe_slice sl_str (pv 0) (po_some (pv 3)) po_none))))))), ?_⟩
    have hz : row.length ≤ sizeLine := small_of (by omega)
    refine ⟨_, rfl, _, _, rfl, rfl, BH.cdv (by decide) (by decide), _, rfl, _, rfl, hz, _, _, rfl, rfl, _, _, rfl, rfl, by show (0 : Int) < _; omega, ?_⟩
    have a1 : 0 ≤ cell / 2 % ((row.length : Int) + 1) := Int.emod_nonneg _ (by omega)
    obtain ⟨j, ej⟩ := Int.eq_ofNat_of_zero_le a1
    refine ⟨_, rfl, _, _, rfl, rfl, (by show (0 : Int) < 2; decide), rfl, _, rfl, ?_⟩
    have l1 := cutS_length row none (some (cell / 2 % ((row.length : Int) + 1)))
    have l2 := cutS_length row (some (cell / 2 % ((row.length : Int) + 1) + 1)) none
    have l3 := cutS_length row (some (cell / 2 % ((row.length : Int) + 1))) none
    refine ite2 (fun h1 => ?_) (fun h1 => ?_)
    · refine ⟨_, rfl, _, rfl, _, rfl, _, rfl, hz, _, rfl, _, rfl, _, _, rfl, rfl, _, rfl, _, rfl, hz, _, _, rfl, rfl, small_of (by omega), ?_⟩
      refine k _ ⟨j, .inl ?_⟩
      rw [tl_append, ej, cutS_to, show (j : Int) + 1 = ((j + 1 : Nat) : Int) by omega, cutS_from]
    · have b1 : 0 ≤ cell / 512 % 8 := Int.emod_nonneg _ (by decide)
      have b2 : cell / 512 % 8 < 8 := Int.emod_lt_of_pos _ (by decide)
      obtain ⟨q, hq⟩ := Int.eq_ofNat_of_zero_le b1
      have hi : q < (" >-+#01a" : Str).cps.toList.length := by rw [signs_len]; omega
      have e : atI (" >-+#01a" : Str).cps.toList (cell / 512 % 8) = some ((" >-+#01a" : Str).cps.toList[q]) := by
        rw [hq]
        exact atI_nat (List.getElem?_eq_getElem hi)
      refine ⟨_, rfl, _, rfl, _, rfl, _, rfl, hz, _, rfl, _, rfl, _, _, rfl, rfl, BH.cdv (by decide) (by decide), _, _, rfl, rfl, (by show (0 : Int) < 8; decide), _, _, _, rfl, rfl, small_of (by decide +kernel), e, _, _, rfl, rfl, small_of (by show _ + 1 ≤ _; omega), _, rfl, _, rfl, _, rfl, _, rfl, hz, _, _, rfl, rfl, small_of (by rw [Str.length_append]; show _ + 1 + _ ≤ _; omega), ?_⟩
      refine k _ ⟨j, .inr ⟨_, signs_ok _ (List.getElem_mem hi), ?_⟩⟩
      rw [tl_append, tl_append, ej, cutS_to, cutS_from, List.append_assoc]
      rfl
end
end BH

set_option Elab.async false
set_option linter.all false
set_option maxRecDepth 100000
set_option maxHeartbeats 4000000
namespace BH
open PySem TL L2 PyProof.Rows
theorem base_ok : ∀ z ∈ [("" : Str), ("#" : Str), ("# bowl a 1" : Str), ("#>" : Str)], 10 ∉ tl z ∧ z.length ≤ 30 := by decide +kernel
theorem nm_bowl {nm : Str} {c : Int} (h1 : 10 ∉ tl nm) (h2 : nm.length ≤ 8) (c0 : 0 ≤ c) (c1 : c ≤ 1000000000) : RowPre (("bowl " : Str) ++ nm ++ (" " : Str) ++ numS c) := by
  have l := numS_len c0 c1
  have e5 : ("bowl " : Str).length = 5 := by decide +kernel
  have e1 : (" " : Str).length = 1 := by decide +kernel
  have ll : (("bowl " : Str) ++ nm ++ (" " : Str) ++ numS c).length ≤ 30 := by
    rw [Str.length_append, Str.length_append, Str.length_append, e5, e1]
    omega
  refine ⟨fun h => ?_, by omega, .inl ll⟩
  rw [tl_append, tl_append, tl_append, tl_bowls, tl_sp] at h
  rcases List.mem_append.mp h with h | h
  · rcases List.mem_append.mp h with h | h
    · rcases List.mem_append.mp h with h | h
      · simp at h
      · exact h1 h
    · simp at h
  · exact numS_free c0 (by omega) h
theorem nm_door {nm pa pb : Str} (h1 : 10 ∉ tl nm) (h2 : nm.length ≤ 8) (a1 : 10 ∉ tl pa) (a2 : pa.length ≤ 250) (b1 : 10 ∉ tl pb) (b2 : pb.length ≤ 250) : RowPre (("door " : Str) ++ nm ++ (" " : Str) ++ pa ++ (" > " : Str) ++ pb) := by
  have e5 : ("door " : Str).length = 5 := by decide +kernel
  have e1 : (" " : Str).length = 1 := by decide +kernel
  have e3 : (" > " : Str).length = 3 := by decide +kernel
  refine ⟨fun h => ?_, ?_, .inr ⟨[111, 114, 32] ++ (tl nm ++ ([32] ++ (tl pa ++ ([32, 62, 32] ++ tl pb)))), ?_⟩⟩
  · rw [tl_append, tl_append, tl_append, tl_append, tl_append, tl_doors, tl_sp, tl_gts] at h
    rcases List.mem_append.mp h with h | h
    · rcases List.mem_append.mp h with h | h
      · rcases List.mem_append.mp h with h | h
        · rcases List.mem_append.mp h with h | h
          · rcases List.mem_append.mp h with h | h
            · simp at h
            · exact h1 h
          · simp at h
        · exact a1 h
      · simp at h
    · exact b1 h
  · rw [Str.length_append, Str.length_append, Str.length_append, Str.length_append, Str.length_append, e5, e1, e3]
    omega
  · rw [tl_append, tl_append, tl_append, tl_append, tl_append, tl_doors, tl_sp, tl_gts]
    simp only [List.append_assoc, List.cons_append, List.nil_append]
section
variable {P : Program} {w : World} {K : PySem.W.Frag} {mg : Str → Option Value} {base : Heap}
def spRowBy (K : PySem.W.Frag) : Sp := fun vs H Q _ => ∃ (cell : Int) (ab ad : Addr) (bowls : List Str) (ds : List V), vs = [.int cell, .ref ab, .ref ad] ∧ 0 ≤ cell ∧ cell < 4611686018427387904 ∧ SqL K H ab (bowls.map V.str) ∧ SqL K H ad ds ∧ bowls.length ≤ 1000 ∧ ds.length ≤ 1000 ∧
  (∀ n ∈ bowls, 10 ∉ tl n ∧ n.length ≤ 40) ∧ ∀ z H', Same H H' → RowOk z → Q (.str z) H'
abbrev s_l_row_by : Stmt := topS 38
abbrev N_l_row_by : List Str := ["cell", "bowls", "doors", "turn", "row", "count"]
theorem sc_l_row_by : FnScope ["cell", "bowls", "doors", "turn", "row", "count"] ["cell", "bowls", "doors"] (defScope s_l_row_by) := ⟨rfl, rfl, rfl, by decide +kernel, rfl, by decide +kernel, by decide +kernel⟩
theorem ok_l_row_by {f f1 f2 f3 f4 : Addr} {fd fd1 fd2 fd3 fd4 : FuncData} (T : Txt K mg) (L_l_mixed : Lk K mg "_law_mixed" s_l_mixed f1 fd1 ["cell", "k"]) (L_l_name_of : Lk K mg "_law_name_of" s_l_name_of f2 fd2 ["cell", "many"]) (L_l_part_of : Lk K mg "_law_part_of" s_l_part_of f3 fd3 ["cell", "bowls"])
    (L_l_spoilt : Lk K mg "_law_spoilt" s_l_spoilt f4 fd4 ["row", "cell"]) (L_l_row_by : Lk K mg "_law_row_by" s_l_row_by f fd ["cell", "bowls", "doors"]) : FnOk P w K mg base CX0 2 f fd ["cell", "bowls", "doors"] (spRowBy K) := by
  have G_l_mixed : FnOk P w K mg base CX0 1 f1 fd1 ["cell", "k"] spMix := ok_l_mixed L_l_mixed
  have G_l_name_of : FnOk P w K mg base CX0 1 f2 fd2 ["cell", "many"] spNameOf := ok_l_name_of L_l_name_of
  have G_l_part_of : FnOk P w K mg base CX0 1 f3 fd3 ["cell", "bowls"] (spLPart K) := ok_l_part_of T L_l_part_of
  have G_l_spoilt : FnOk P w K mg base CX0 1 f4 fd4 ["row", "cell"] spSpoilt := ok_l_spoilt T L_l_spoilt
  refine L_l_row_by.fn.ok sc_l_row_by (fun vs H Q E h => ?_) (fun cdv A outer s H vs Q E hr h => ?_)
  · obtain ⟨cell, ab, ad, bowls, ds, rfl, _⟩ := h
    rfl
  · obtain ⟨cell, ab, ad, bowls, ds, rfl, c0, c1, hb, hd, lb, ld, hn, k⟩ := h
    refine ⟨_, (pss_cons (ps_set (i := 3) sc_l_row_by.nd rfl (Or.inl rfl) (pe_call G_l_mixed (hr.mono (by decide)) (by rfl) L_l_mixed.g L_l_mixed.fn.kp L_l_mixed.b .nil pass0 (pa_cons (pv 0) (pa_cons pe_int pa_nil))))
      (pss_cons (ps_set (i := 4) sc_l_row_by.nd rfl (Or.inl rfl) (pe_ix ix_list (pe_lst (pa_cons pe_str (pa_cons pe_str (pa_cons pe_str (pa_cons pe_str pa_nil))))) (pe_op op_mod (pe_op op_fdivW (pv 3) pe_int) pe_int) (fun _ _ => rfl)))
      (C8.pss_cut (ps_if (PW.pt (pw_and (pt_cmpR op_in_seq (pe_op op_mod (pv 3) pe_int) (pe_lst (pa_cons pe_int (pa_cons pe_int (pa_cons pe_int pa_nil)))) (by rfl)) (pw_and1 (PW.pt (pw_or (pt_cmpR op_lt (pe_callB call_len_seq (by rfl) T.len PySem.boot_len (pa_cons (pv 1) pa_nil)) pe_int (nomark _)) (pw_or1 (pt_cmpR op_eq (pe_op op_mod (pe_op op_fdivW (pv 3) pe_int) pe_int) pe_int (nomark _)))))))) (pss_cons (ps_set (i := 5) sc_l_row_by.nd rfl (Or.inl rfl) (pe_ix ix_list (pe_lst (pa_cons (pe_op op_mod (pe_op op_fdivW (pv 3) pe_int) pe_int) (pa_cons (pe_op op_sub pe_int (pe_op op_mod (pe_op op_fdivW (pv 3) pe_int) pe_int)) (pa_cons (pe_op op_fdivW (pv 3) pe_int) pa_nil)))) (pe_op op_mod (pe_op op_fdivW (pv 3) pe_int) pe_int) (fun _ _ => rfl)))
      (pss_one (ps_set (i := 4) sc_l_row_by.nd rfl (Or.inl rfl) (pe_op op_add_str (pe_op op_add_str (pe_op op_add_str pe_str (pe_call G_l_name_of (hr.mono (by decide)) (by rfl) L_l_name_of.g L_l_name_of.fn.kp L_l_name_of.b .nil pass0 (pa_cons (pe_call G_l_mixed (hr.mono (by decide)) (by rfl) L_l_mixed.g L_l_mixed.fn.kp L_l_mixed.b .nil pass0 (pa_cons (pv 0) (pa_cons pe_int pa_nil))) (pa_cons (pe_callB call_len_seq (by rfl) T.len PySem.boot_len (pa_cons (pv 1) pa_nil)) pa_nil)))) pe_str) (pe_callTy (T := "str") call_str_int (by rfl) T.str (by decide +kernel) (pa_cons (pv 5) pa_nil)))))) pss_nil)
      (C8.pss_cut (ps_if (PW.pt (pw_and (pt_cmpR op_in_seq (pe_op op_mod (pv 3) pe_int) (pe_lst (pa_cons pe_int (pa_cons pe_int (pa_cons pe_int pa_nil)))) (by rfl)) (pw_and1 (PW.pt (pw_or (pt_cmpR op_lt (pe_callB call_len_seq (by rfl) T.len PySem.boot_len (pa_cons (pv 2) pa_nil)) pe_int (nomark _)) (pw_or1 (pt_cmpR op_eq (pe_op op_mod (pe_op op_fdivW (pv 3) pe_int) pe_int) pe_int (nomark _)))))))) (pss_cons (ps_set (i := 4) sc_l_row_by.nd rfl (Or.inl rfl) (pe_op op_add_str (pe_op op_add_str (pe_op op_add_str pe_str (pe_call G_l_name_of (hr.mono (by decide)) (by rfl) L_l_name_of.g L_l_name_of.fn.kp L_l_name_of.b .nil pass0 (pa_cons (pe_call G_l_mixed (hr.mono (by decide)) (by rfl) L_l_mixed.g L_l_mixed.fn.kp L_l_mixed.b .nil pass0 (pa_cons (pv 0) (pa_cons pe_int pa_nil))) (pa_cons (pe_callB call_len_seq (by rfl) T.len PySem.boot_len (pa_cons (pv 2) pa_nil)) pa_nil)))) pe_str) (pe_call G_l_part_of (hr.mono (by decide)) (by rfl) L_l_part_of.g L_l_part_of.fn.kp L_l_part_of.b .nil pass0 (pa_cons (pe_call G_l_mixed (hr.mono (by decide)) (by rfl) L_l_mixed.g L_l_mixed.fn.kp L_l_mixed.b .nil pass0 (pa_cons (pv 0) (pa_cons pe_int pa_nil))) (pa_cons (pv 1) pa_nil)))))
      (pss_one (ps_set (i := 4) sc_l_row_by.nd rfl (Or.inl rfl) (pe_op op_add_str (pe_op op_add_str (pv 4) pe_str) (pe_call G_l_part_of (hr.mono (by decide)) (by rfl) L_l_part_of.g L_l_part_of.fn.kp L_l_part_of.b .nil pass0 (pa_cons (pe_call G_l_mixed (hr.mono (by decide)) (by rfl) L_l_mixed.g L_l_mixed.fn.kp L_l_mixed.b .nil pass0 (pa_cons (pv 0) (pa_cons pe_int pa_nil))) (pa_cons (pv 1) pa_nil))))))) pss_nil)
      (C8.pss_cut (ps_if (pt_cmpR op_eq (pe_op op_mod (pe_call G_l_mixed (hr.mono (by decide)) (by rfl) L_l_mixed.g L_l_mixed.fn.kp L_l_mixed.b .nil pass0 (pa_cons (pv 0) (pa_cons pe_int pa_nil))) pe_int) pe_int (nomark _)) (pss_one (ps_set (i := 4) sc_l_row_by.nd rfl (Or.inl rfl) (pe_call G_l_spoilt (hr.mono (by decide)) (by rfl) L_l_spoilt.g L_l_spoilt.fn.kp L_l_spoilt.b .nil pass0 (pa_cons (pv 4) (pa_cons (pe_call G_l_mixed (hr.mono (by decide)) (by rfl) L_l_mixed.g L_l_mixed.fn.kp L_l_mixed.b .nil pass0 (pa_cons (pv 0) (pa_cons pe_int pa_nil))) pa_nil))))) pss_nil)
      (pss_one (ps_ret (pv 4)))))))), ?_⟩
    have e5 : ("bowl " : Str).length = 5 := by decide +kernel
    have e5d : ("door " : Str).length = 5 := by decide +kernel
    have e1 : (" " : Str).length = 1 := by decide +kernel
    have e3 : (" > " : Str).length = 3 := by decide +kernel
    -- turn; row
    refine ⟨_, rfl, cell, 1, rfl, c0, c1, by decide, by decide, fun tn t0 t1 => ?_⟩
    refine ⟨small_of (by show 4 ≤ _; omega), fun p np => ?_⟩
    have s1 := same_upd (o := .lst [V.str ("" : Str), V.str ("#" : Str), V.str ("# bowl a 1" : Str), V.str ("#>" : Str)]) np
    obtain ⟨v, hv, hm⟩ := pick (xs := [("" : Str), ("#" : Str), ("# bowl a 1" : Str), ("#>" : Str)].map V.str) (i := tn / 8 % 4) (Int.emod_nonneg _ (by decide)) (Int.emod_lt_of_pos _ (by decide))
    obtain ⟨z0, hz0, rfl⟩ := List.mem_map.mp hm
    have b0 := base_ok z0 hz0
    refine ⟨_, rfl, _, _, rfl, rfl, BH.cdv (by decide) (by decide), _, _, rfl, rfl, (by show (0 : Int) < 4; decide), p, _, _, _, rfl, rfl, SqL.of upd_same, hv, ?_⟩
    -- a bowl's row
    refine ⟨fun σ' H' => ∃ z v5, σ' = [some (.int cell), some (.ref ab), some (.ref ad), some (.int tn), some (.str z), v5] ∧ Same H H' ∧ RowPre z, ?_, ?_⟩
    · refine ⟨_, rfl, _, _, rfl, rfl, (by show (0 : Int) < 8; decide), small_of (by show 3 ≤ _; omega), fun q nq => ⟨q, _, rfl, .inl (SqL.of upd_same), rfl, rfl, _, rfl, ?_⟩⟩
      have s2 := s1.trans (same_upd (o := .lst [V.int 1, V.int 2, V.int 3]) nq)
      refine ite2 (fun _ => ⟨_, rfl, ab, _, rfl, .inl (s2.seq hb), _, _, rfl, rfl, _, rfl, ite2 (fun _ => iteT ?blk1) (fun _ => ⟨_, rfl, _, _, rfl, rfl, BH.cdv (by decide) (by decide), _, _, rfl, rfl, (by show (0 : Int) < 9; decide), rfl, _, rfl, ite2 (fun _ => ?blk2) (fun _ => ?n1)⟩)⟩) (fun _ => iteF ?n2)
      case n1 => exact ⟨z0, _, rfl, s2, b0.1, by have := b0.2; omega, .inl b0.2⟩
      case n2 => exact ⟨z0, _, rfl, s2, b0.1, by have := b0.2; omega, .inl b0.2⟩
      all_goals
        refine ⟨_, rfl, _, _, rfl, rfl, BH.cdv (by decide) (by decide), _, _, rfl, rfl, (by show (0 : Int) < 3; decide), _, rfl, _, _, rfl, rfl, BH.cdv (by decide) (by decide), _, _, rfl, rfl, (by show (0 : Int) < 2; decide), _, _, rfl, rfl, _, rfl, _, _, rfl, rfl, BH.cdv (by decide) (by decide), small_of (by show 3 ≤ _; omega), fun q3 nq3 => ?_⟩
        have s3 := s2.trans (same_upd (o := .lst [V.int (tn / 64 % 3), V.int (1000000000 - tn / 64 % 2), V.int (tn / 64)]) nq3)
        obtain ⟨v, hv2, hm2⟩ := pick (xs := [tn / 64 % 3, 1000000000 - tn / 64 % 2, tn / 64].map V.int) (i := tn / 8 % 3) (Int.emod_nonneg _ (by decide)) (Int.emod_lt_of_pos _ (by decide))
        obtain ⟨c, hc, rfl⟩ := List.mem_map.mp hm2
        have rc : 0 ≤ c ∧ c ≤ 1000000000 := by
          simp only [List.mem_cons, List.not_mem_nil, or_false] at hc
          rcases hc with e | e | e <;> omega
        refine ⟨_, rfl, _, _, rfl, rfl, BH.cdv (by decide) (by decide), _, _, rfl, rfl, (by show (0 : Int) < 3; decide), q3, _, _, _, rfl, rfl, SqL.of upd_same, hv2, ?_⟩
        refine ⟨_, rfl, cell, 2, rfl, c0, c1, by decide, by decide, fun m2 q0 q1 => ⟨_, rfl, ab, _, rfl, .inl (s3.seq hb), _, _, rfl, fun nm H4 s4 n10 n8 => ?_⟩⟩
        have lc := numS_len rc.1 rc.2
        refine ⟨_, _, rfl, rfl, small_of (by omega), _, _, rfl, rfl, small_of (by rw [Str.length_append]; omega), _, rfl, _, rfl, small_log rc.1 rc.2, _, _, rfl, rfl, small_of (by rw [Str.length_append, Str.length_append]; show _ + (numS c).length ≤ _; omega), ?_⟩
        exact ⟨_, _, rfl, s3.trans s4, nm_bowl n10 n8 rc.1 rc.2⟩
    · rintro σ1 H1 ⟨z1, v5, rfl, sA, pA⟩
      -- a door's row
      refine ⟨fun σ' H' => ∃ z v5, σ' = [some (.int cell), some (.ref ab), some (.ref ad), some (.int tn), some (.str z), v5] ∧ Same H H' ∧ RowPre z, ?_, ?_⟩
      · refine ⟨_, rfl, _, _, rfl, rfl, (by show (0 : Int) < 8; decide), small_of (by show 3 ≤ _; omega), fun q nq => ⟨q, _, rfl, .inl (SqL.of upd_same), rfl, rfl, _, rfl, ?_⟩⟩
        have s2 := sA.trans (same_upd (o := .lst [V.int 4, V.int 5, V.int 6]) nq)
        refine ite2 (fun _ => ⟨_, rfl, ad, _, rfl, .inl (s2.seq hd), _, _, rfl, rfl, _, rfl, ite2 (fun _ => iteT ?dlk1) (fun _ => ⟨_, rfl, _, _, rfl, rfl, BH.cdv (by decide) (by decide), _, _, rfl, rfl, (by show (0 : Int) < 9; decide), rfl, _, rfl, ite2 (fun _ => ?dlk2) (fun _ => ?dn1)⟩)⟩) (fun _ => iteF ?dn2)
        case dn1 => exact ⟨z1, _, rfl, s2, pA⟩
        case dn2 => exact ⟨z1, _, rfl, s2, pA⟩
        all_goals
          refine ⟨_, rfl, cell, 3, rfl, c0, c1, by decide, by decide, fun m3 q0 q1 => ⟨_, rfl, ad, _, rfl, .inl (s2.seq hd), _, _, rfl, fun nm H4 s4 n10 n8 => ?_⟩⟩
          have s4' := s2.trans s4
          refine ⟨_, _, rfl, rfl, small_of (by omega), _, _, rfl, rfl, small_of (by rw [Str.length_append]; omega), _, rfl, cell, 4, rfl, c0, c1, by decide, by decide, fun m4 r0 r1 => ⟨_, rfl, m4, ab, bowls, rfl, r0, r1, s4'.seq hb, lb, hn, fun pa H5 s5 a10 a250 => ?_⟩⟩
          have s5' := s4'.trans s5
          refine ⟨_, _, rfl, rfl, small_of (by rw [Str.length_append, Str.length_append]; omega), ?_⟩
          refine ⟨_, rfl, _, _, rfl, rfl, small_of (by rw [Str.length_append, Str.length_append, Str.length_append]; omega), _, rfl, cell, 5, rfl, c0, c1, by decide, by decide, fun m5 u0 u1 => ⟨_, rfl, m5, ab, bowls, rfl, u0, u1, s5'.seq hb, lb, hn, fun pb H6 s6 b10 b250 => ?_⟩⟩
          refine ⟨_, _, rfl, rfl, small_of (by rw [Str.length_append, Str.length_append, Str.length_append, Str.length_append]; omega), ?_⟩
          exact ⟨_, _, rfl, s5'.trans s6, nm_door n10 n8 a10 a250 b10 b250⟩
      · rintro σ2 H2 ⟨z2, v6, rfl, sB, pB⟩
        -- spoilt
        refine ⟨fun σ' H' => ∃ z v5, σ' = [some (.int cell), some (.ref ab), some (.ref ad), some (.int tn), some (.str z), v5] ∧ Same H H' ∧ RowOk z, ?_, ?_⟩
        · refine ⟨_, rfl, cell, 6, rfl, c0, c1, by decide, by decide, fun m6 q0 q1 => ⟨_, _, rfl, rfl, (by show (0 : Int) < 40; decide), rfl, _, rfl, ?_⟩⟩
          refine ite2 (fun _ => ?_) (fun _ => ?_)
          · refine ⟨_, rfl, _, rfl, cell, 7, rfl, c0, c1, by decide, by decide, fun m7 r0 r1 => ⟨z2, m7, rfl, by have := pB.2.1; omega, r0, fun z hz => ?_⟩⟩
            exact ⟨_, _, rfl, sB, pB.spoilt hz⟩
          · exact ⟨_, _, rfl, sB, pB.ok⟩
        · rintro σ3 H3 ⟨z3, v7, rfl, sC, pC⟩
          exact ⟨_, rfl, k z3 H3 sC pC⟩
end
end BH

set_option Elab.async false
set_option linter.all false
set_option maxRecDepth 100000
set_option maxHeartbeats 4000000
namespace BH
open PySem TL L2 PyProof.Rows
/-- the three lists of the law's rows -/
structure Tri (H H' : Hp) (p1 p2 p3 : Addr) (rows bowls : List Str) (ds : List V) : Prop where
  s : Same H H'
  h1 : H' p1 = some (.lst (rows.map V.str))
  h2 : H' p2 = some (.lst (bowls.map V.str))
  h3 : H' p3 = some (.lst ds)
theorem Tri.more {H H1 H2 : Hp} {p1 p2 p3 : Addr} {rows bowls : List Str} {ds : List V} (t : Tri H H1 p1 p2 p3 rows bowls ds) (k : Same H1 H2) : Tri H H2 p1 p2 p3 rows bowls ds := ⟨t.s.trans k, k _ _ t.h1, k _ _ t.h2, k _ _ t.h3⟩
section
variable {P : Program} {w : World} {K : PySem.W.Frag} {mg : Str → Option Value} {base : Heap}
def spMR (K : PySem.W.Frag) : Sp := fun vs H Q _ => ∃ (a : Addr) (ns : List Int), vs = [.ref a] ∧ SqL K H a (ns.map V.int) ∧ ns.length ≤ 63 ∧ ∀ (rows : List Str) p H', Same H H' → H p = none → H' p = some (.lst (rows.map V.str)) → rows.length ≤ 63 → (∀ r ∈ rows, 10 ∉ tl r ∧ r.length ≤ 1000) → Q (.ref p) H'
abbrev s_l_mixed_rows : Stmt := topS 39
abbrev N_l_mixed_rows : List Str := ["cells", "rows", "bowls", "doors", "k", "row", "words"]
theorem sc_l_mixed_rows : FnScope ["cells", "rows", "bowls", "doors", "k", "row", "words"] ["cells"] (defScope s_l_mixed_rows) := ⟨rfl, rfl, rfl, by decide +kernel, rfl, by decide +kernel, by decide +kernel⟩
theorem ok_l_mixed_rows {f f1 f2 f3 f4 f5 : Addr} {fd fd1 fd2 fd3 fd4 fd5 : FuncData} (T : Txt K mg) (L_l_mixed : Lk K mg "_law_mixed" s_l_mixed f1 fd1 ["cell", "k"]) (L_l_name_of : Lk K mg "_law_name_of" s_l_name_of f2 fd2 ["cell", "many"]) (L_l_part_of : Lk K mg "_law_part_of" s_l_part_of f3 fd3 ["cell", "bowls"])
    (L_l_spoilt : Lk K mg "_law_spoilt" s_l_spoilt f4 fd4 ["row", "cell"]) (L_l_row_by : Lk K mg "_law_row_by" s_l_row_by f5 fd5 ["cell", "bowls", "doors"]) (L_l_mixed_rows : Lk K mg "_law_mixed_rows" s_l_mixed_rows f fd ["cells"]) : FnOk P w K mg base CX0 3 f fd ["cells"] (spMR K) := by
  have G_l_row_by : FnOk P w K mg base CX0 2 f5 fd5 ["cell", "bowls", "doors"] (spRowBy K) := ok_l_row_by T L_l_mixed L_l_name_of L_l_part_of L_l_spoilt L_l_row_by
  refine L_l_mixed_rows.fn.ok sc_l_mixed_rows (fun vs H Q E h => ?_) (fun cdv A outer s H vs Q E hr h => ?_)
  · obtain ⟨a, ns, rfl, _⟩ := h
    rfl
  · obtain ⟨a, ns, rfl, ha, hl, k⟩ := h
    refine ⟨_, (pss_cons (ps_set (i := 1) sc_l_mixed_rows.nd rfl (Or.inl rfl) (pe_lst pa_nil))
      (pss_cons (ps_set (i := 2) sc_l_mixed_rows.nd rfl (Or.inl rfl) (pe_lst pa_nil))
      (pss_cons (ps_set (i := 3) sc_l_mixed_rows.nd rfl (Or.inl rfl) (pe_lst pa_nil))
      (pss_cons (ps_for PassesOwn.never rfl (pi_range1 (by rfl) T.range (pa_cons (pe_callB call_len_seq (by rfl) T.len PySem.boot_len (pa_cons (pv 0) pa_nil)) pa_nil)) (pg_name (i := 4) sc_l_mixed_rows.nd rfl (Or.inl rfl))
      (pss_cons (ps_set (i := 5) sc_l_mixed_rows.nd rfl (Or.inl rfl) (pe_call G_l_row_by (hr.mono (by decide)) (by rfl) L_l_row_by.g L_l_row_by.fn.kp L_l_row_by.b .nil pass0 (pa_cons (pe_op op_add (pe_op op_mod (pe_ix ix_list (pv 0) (pv 4) (fun _ _ => rfl)) pe_int) (pe_op op_mulW pe_int (pv 4))) (pa_cons (pv 2) (pa_cons (pv 3) pa_nil)))))
      (pss_cons (ps_set (i := 6) sc_l_mixed_rows.nd rfl (Or.inl rfl) (pe_split (pv 5) pe_str))
      (C8.pss_cut (ps_if (PW.pt (pw_and (pt_cmpR op_eq (pe_callB call_len_seq (by rfl) T.len PySem.boot_len (pa_cons (pv 6) pa_nil)) pe_int (nomark _)) (pw_and1 (pt_cmpR op_eq (pe_ix ix_list (pv 6) pe_int (fun _ _ => rfl)) pe_str (nomark _))))) (pss_one (ps_expr (pe_bm PySem.F.plainAttrs_list PySem.F.slot_list_append PySem.F.type_list_append mt_append (pv 2) (pa_cons (pe_ix ix_list (pv 6) pe_int (fun _ _ => rfl)) pa_nil)))) pss_nil)
      (C8.pss_cut (ps_if (PW.pt (pw_and (pt_cmpR op_gt (pe_callB call_len_seq (by rfl) T.len PySem.boot_len (pa_cons (pv 6) pa_nil)) pe_int (nomark _)) (pw_and1 (pt_cmpR op_eq (pe_ix ix_list (pv 6) pe_int (fun _ _ => rfl)) pe_str (nomark _))))) (pss_one (ps_expr (pe_bm PySem.F.plainAttrs_list PySem.F.slot_list_append PySem.F.type_list_append mt_append (pv 3) (pa_cons (pe_ix ix_list (pv 6) pe_int (fun _ _ => rfl)) pa_nil)))) pss_nil)
      (pss_one (ps_expr (pe_bm PySem.F.plainAttrs_list PySem.F.slot_list_append PySem.F.type_list_append mt_append (pv 1) (pa_cons (pv 5) pa_nil)))))))))
      (pss_one (ps_ret (pv 1))))))), ?_⟩
    refine ⟨Nat.zero_le _, fun p1 n1 => ?_⟩
    have s1 := same_upd (o := .lst []) n1
    refine ⟨Nat.zero_le _, fun p2 n2 => ?_⟩
    have s2 := s1.trans (same_upd (o := .lst []) n2)
    have d12 : p1 ≠ p2 := ne_of_none upd_same n2
    have e1 : upd (upd H p1 (.lst [])) p2 (.lst []) p1 = some (.lst []) := by rw [upd_ne d12, upd_same]
    refine ⟨Nat.zero_le _, fun p3 n3 => ?_⟩
    have s3 := s2.trans (same_upd (o := .lst []) n3)
    have d13 : p1 ≠ p3 := ne_of_none e1 n3
    have d23 : p2 ≠ p3 := ne_of_none upd_same n3
    have n2H : H p2 = none := s1.free n2
    have n3H : H p3 = none := s2.free n3
    have T0 : Tri H (upd (upd (upd H p1 (.lst [])) p2 (.lst [])) p3 (.lst [])) p1 p2 p3 [] [] [] := ⟨s3, by rw [upd_ne d13]; exact e1, by rw [upd_ne d23]; exact upd_same, upd_same⟩
    refine ⟨_, rfl, a, _, rfl, .inl (s3.seq ha), _, rfl, by rw [List.length_map]; omega, by rw [List.length_map]; omega, ?_⟩
    rw [List.length_map, Int.toNat_natCast]
    refine for_range (lo := 0) (n := ns.length) (fun i σ H' => ∃ v4 v5 v6 rows bowls ds, σ = [some (.ref a), some (.ref p1), some (.ref p2), some (.ref p3), v4, v5, v6] ∧ Tri H H' p1 p2 p3 rows bowls ds ∧ rows.length = i ∧ bowls.length ≤ i ∧ ds.length ≤ i ∧ (∀ r ∈ rows, 10 ∉ tl r ∧ r.length ≤ 1000) ∧ ∀ n ∈ bowls, 10 ∉ tl n ∧ n.length ≤ 40)
      ⟨none, none, none, [], [], [], rfl, T0, rfl, Nat.le_refl _, Nat.le_refl _, fun y h => by simp at h, fun y h => by simp at h⟩ ?_ ?_
    · rintro i σ H' hi ⟨v4, v5, v6, rows, bowls, ds, rfl, TR, el, eb, ed, hR, hB⟩
      have m1 := Int.emod_nonneg ns[i] (show (2305843009213693951 : Int) ≠ 0 by decide)
      have m2 := Int.emod_lt_of_pos ns[i] (show (0 : Int) < 2305843009213693951 by decide)
      refine ⟨_, rfl, _, rfl, a, _, _, _, rfl, rfl, TR.s.seq ha, at_of (by omega) (int_at (List.getElem?_eq_getElem hi)), _, _, rfl, rfl, (by show (0 : Int) < 2305843009213693951; decide), _, rfl, _, _, rfl, rfl, cml (by omega) (by omega) (by omega) (by omega), _, _, rfl, rfl, _, rfl, _, rfl, _, p2, p3, bowls, ds, rfl, by omega, by omega, SqL.of TR.h2, SqL.of TR.h3, by omega, by omega, hB, fun z H2 sz zok => ?_⟩
      have TR2 := TR.more sz
      have zl := zok.2.1
      -- words = row.split(" ")
      refine ⟨_, rfl, ⟨_, rfl⟩, z, _, rfl, rfl, by decide +kernel, small_of (by omega), fun pw npw => ?_⟩
      have TR3 := TR2.more (same_upd (o := .lst ((Txt.split z (" " : Str)).map V.str)) npw)
      have hw : upd H2 pw (.lst ((Txt.split z (" " : Str)).map V.str)) pw = some (.lst ((wordsOf z).map V.str)) := upd_same
      obtain ⟨w1, w2, w3⟩ := words_facts z
      have l0 : 0 < (wordsOf z).length := List.length_pos_iff.mpr w1
      have g0 := wd_lt l0
      have nw1 : p1 ≠ pw := ne_of_none TR2.h1 npw
      have nw2 : p2 ≠ pw := ne_of_none TR2.h2 npw
      have nw3 : p3 ≠ pw := ne_of_none TR2.h3 npw
      generalize upd H2 pw (.lst ((Txt.split z (" " : Str)).map V.str)) = H3 at hw TR3 ⊢
      refine ⟨fun σ' H' => ∃ bowls2, σ' = [some (.ref a), some (.ref p1), some (.ref p2), some (.ref p3), some (.int (0 + (i : Int))), some (.str z), some (.ref pw)] ∧ Tri H H' p1 p2 p3 rows bowls2 ds ∧ H' pw = some (.lst ((wordsOf z).map V.str)) ∧ bowls2.length ≤ i + 1 ∧ ∀ n ∈ bowls2, 10 ∉ tl n ∧ n.length ≤ 40, ?_, ?_⟩
      · have keep : ∃ bowls2, [some (.ref a), some (.ref p1), some (.ref p2), some (.ref p3), some (.int (0 + (i : Int))), some (.str z), some (.ref pw)] = [some (V.ref a), some (.ref p1), some (.ref p2), some (.ref p3), some (.int (0 + (i : Int))), some (.str z), some (.ref pw)] ∧ Tri H H3 p1 p2 p3 rows bowls2 ds ∧ H3 pw = some (.lst ((wordsOf z).map V.str)) ∧ bowls2.length ≤ i + 1 ∧ ∀ n ∈ bowls2, 10 ∉ tl n ∧ n.length ≤ 40 := ⟨bowls, rfl, TR3, hw, by omega, hB⟩
        refine ⟨_, rfl, pw, _, rfl, .inl (SqL.of hw), rfl, _, rfl, ?_⟩
        refine ite2 (fun q1 => ?_) (fun _ => iteF ?_)
        · have q1 := V.int.inj (of_decide_eq_true q1)
          rw [List.length_map] at q1
          have g1 := wd_lt (words := wordsOf z) (i := 1) (by omega)
          refine ⟨_, rfl, pw, _, _, _, rfl, rfl, SqL.of hw, at_of (j := 0) rfl (str_at g0), rfl, _, rfl, ?_⟩
          refine ite2 (fun q2 => ?_) (fun _ => ?_)
          · have q2 := vstr_inj (of_decide_eq_true q2)
            obtain ⟨r, er⟩ := words_head q2
            have sh := zok.2.2 r er
            have m1 := List.mem_of_getElem? g1
            refine ⟨_, rfl, .inl ⟨rfl, _, SqL.of TR3.h2⟩, _, rfl, pw, _, _, _, rfl, rfl, SqL.of hw, at_of (j := 1) rfl (str_at g1), p2, _, _, rfl, rfl, TR3.h2, by rw [List.length_map]; exact small1000 (by omega), ?_⟩
            refine ⟨bowls ++ [wd (wordsOf z) 1], rfl, ⟨same_put TR3.s n2H, by rw [upd_ne d12]; exact TR3.h1, by rw [upd_same, List.map_append]; rfl, by rw [upd_ne d23.symm]; exact TR3.h3⟩, by rw [upd_ne nw2.symm]; exact hw, by rw [List.length_append, List.length_singleton]; omega, mem_snoc hB ⟨fun h => zok.1 (words_mem m1 10 h), by have := w3 _ m1; omega⟩⟩
          · exact keep
        · exact keep
      · rintro σ4 H4 ⟨bowls2, rfl, TR4, hw4, eb2, hB2⟩
        refine ⟨fun σ' H' => ∃ ds2, σ' = [some (.ref a), some (.ref p1), some (.ref p2), some (.ref p3), some (.int (0 + (i : Int))), some (.str z), some (.ref pw)] ∧ Tri H H' p1 p2 p3 rows bowls2 ds2 ∧ ds2.length ≤ i + 1, ?_, ?_⟩
        · have keep : ∃ ds2, [some (.ref a), some (.ref p1), some (.ref p2), some (.ref p3), some (.int (0 + (i : Int))), some (.str z), some (.ref pw)] = [some (V.ref a), some (.ref p1), some (.ref p2), some (.ref p3), some (.int (0 + (i : Int))), some (.str z), some (.ref pw)] ∧ Tri H H4 p1 p2 p3 rows bowls2 ds2 ∧ ds2.length ≤ i + 1 := ⟨ds, rfl, TR4, by omega⟩
          refine ⟨_, rfl, pw, _, rfl, .inl (SqL.of hw4), _, _, rfl, rfl, _, rfl, ?_⟩
          refine ite2 (fun q1 => ?_) (fun _ => iteF ?_)
          · have q1 := of_decide_eq_true q1
            rw [List.length_map] at q1
            have g1 := wd_lt (words := wordsOf z) (i := 1) (by omega)
            refine ⟨_, rfl, pw, _, _, _, rfl, rfl, SqL.of hw4, at_of (j := 0) rfl (str_at g0), rfl, _, rfl, ?_⟩
            refine ite2 (fun q2 => ?_) (fun _ => ?_)
            · refine ⟨_, rfl, .inl ⟨rfl, _, SqL.of TR4.h3⟩, _, rfl, pw, _, _, _, rfl, rfl, SqL.of hw4, at_of (j := 1) rfl (str_at g1), p3, _, _, rfl, rfl, TR4.h3, small1000 (by omega), ?_⟩
              exact ⟨ds ++ [V.str (wd (wordsOf z) 1)], rfl, ⟨same_put TR4.s n3H, by rw [upd_ne d13]; exact TR4.h1, by rw [upd_ne d23]; exact TR4.h2, upd_same⟩, by rw [List.length_append, List.length_singleton]; omega⟩
            · exact keep
          · exact keep
        · rintro σ5 H5 ⟨ds2, rfl, TR5, ed2⟩
          refine ⟨_, rfl, .inl ⟨rfl, _, SqL.of TR5.h1⟩, _, rfl, p1, _, _, rfl, rfl, TR5.h1, by rw [List.length_map]; exact small1000 (by omega), ?_⟩
          exact ⟨_, _, _, rows ++ [z], bowls2, ds2, rfl, ⟨same_put TR5.s n1, by rw [upd_same, List.map_append]; rfl, by rw [upd_ne d12.symm]; exact TR5.h2, by rw [upd_ne d13.symm]; exact TR5.h3⟩, by rw [List.length_append, el]; rfl, eb2, ed2, mem_snoc hR ⟨zok.1, zl⟩, hB2⟩
    · rintro σ H' ⟨v4, v5, v6, rows, bowls, ds, rfl, TR, el, eb, ed, hR, hB⟩
      exact ⟨_, rfl, k rows p1 H' TR.s n1 TR.h1 (by omega) hR⟩
end
end BH

set_option Elab.async false
set_option linter.all false
set_option maxRecDepth 100000
set_option maxHeartbeats 4000000
namespace BH
open PySem TL L2 PyProof.Rows
theorem kvs_val (B : Bag) (n : Str) : valV (kvs B) (Sum.inr n : Key) = if n ∈ keysB B then some (V.int (valB B n)) else none := by
  induction B with
  | nil => rfl
  | cons p B ih =>
    show valV (((Sum.inr p.1 : Key), V.int p.2) :: kvs B) (Sum.inr n : Key) = _
    have ek : keysB (p :: B) = p.1 :: keysB B := rfl
    rw [ek, valB_cons]
    by_cases e : p.1 = n
    · rw [valV_pos (show ((Sum.inr p.1 : Key), V.int p.2).1 = (Sum.inr n : Key) from congrArg Sum.inr e), if_pos e, if_pos (by rw [e]; exact List.mem_cons_self ..)]
    · rw [valV_neg (show ¬ ((Sum.inr p.1 : Key), V.int p.2).1 = (Sum.inr n : Key) from fun q => e (Sum.inr.inj q)), ih, if_neg e]
      by_cases m : n ∈ keysB B
      · rw [if_pos m, if_pos (List.mem_cons_of_mem _ m)]
      · rw [if_neg m, if_neg fun q => by
          rcases List.mem_cons.mp q with z | z
          · exact e z.symm
          · exact m z]
theorem kvs_is (B : Bag) (n : Str) : (valV (kvs B) (Sum.inr n : Key)).isSome = decide (n ∈ keysB B) := by
  rw [kvs_val]
  by_cases m : n ∈ keysB B
  · rw [if_pos m, decide_eq_true m]
    rfl
  · rw [if_neg m, decide_eq_false m]
    rfl
theorem kvs_get (B : Bag) (n : Str) : (valV (kvs B) (Sum.inr n : Key)).getD (V.int 0) = V.int (valB B n) := by
  rw [kvs_val]
  by_cases m : n ∈ keysB B
  · rw [if_pos m]
    rfl
  · rw [if_neg m, valB_none m]
    rfl
theorem kvs_put {B : Bag} {n : Str} {c : Int} (h : ¬ n ∈ keysB B) : putK (kvs B) (Sum.inr n : Key) (V.int c) = kvs (B ++ [(n, c)]) := by
  rw [putK_new _ (by rw [kvs_val, if_neg h])]
  unfold kvs
  rw [List.map_append]
  rfl
theorem kvs_len (B : Bag) : (kvs B).length = B.length := List.length_map _
theorem runB_len {words bowls : List Str} : ∀ {i : Nat} {B : Bag}, runB words bowls i = some B → B.length = i
  | 0, B, h => by
    cases h
    rfl
  | i + 1, B, h => by
    unfold runB at h
    cases e : runB words bowls i with
    | none => rw [e] at h; cases h
    | some A =>
      rw [e] at h
      cases ec : countS (wd words (3 * i)) with
      | none => rw [ec] at h; cases h
      | some c =>
        rw [ec] at h
        dsimp only at h
        split at h
        · cases h
          rw [List.length_append, runB_len e]
          rfl
        · cases h
def pieceW (words : List Str) (i : Nat) : List Str := (words.take (3 * i + 3)).drop (3 * i)
theorem pieceW_len (words : List Str) (i : Nat) : (pieceW words i).length = min (words.length - 3 * i) 3 := by
  unfold pieceW
  rw [List.length_drop, List.length_take]
  omega
theorem pieceW_at {words : List Str} {i j : Nat} (hj : j < 3) : (pieceW words i)[j]? = words[3 * i + j]? := by
  unfold pieceW
  rw [List.getElem?_drop, List.getElem?_take, if_pos (by omega)]
theorem lawCount_lt {z : Str} (h : lawCount z < 1) : countS z = none ∨ ∃ c, countS z = some c ∧ c < 1 := by
  unfold lawCount at h
  cases e : countS z with
  | none => exact .inl rfl
  | some c =>
    rw [e] at h
    exact .inr ⟨c, rfl, h⟩
theorem lawCount_of {z : Str} (h : ¬ lawCount z < 1) : ∃ c, countS z = some c ∧ 1 ≤ c ∧ lawCount z = c := by
  unfold lawCount at h ⊢
  cases e : countS z with
  | none =>
    rw [e] at h
    exact absurd (by decide : (-1 : Int) < 1) h
  | some c =>
    rw [e] at h
    exact ⟨c, rfl, by have : ¬ c < 1 := h; omega, rfl⟩
/-- a bag, or none -/
def OptB (r : Option Bag) (H H' : Hp) (v : V) : Prop := (r = none ∧ v = .non) ∨ ∃ B t, r = some B ∧ v = .ref t ∧ H t = none ∧ H' t = some (cellD B)
section
variable {P : Program} {w : World} {K : PySem.W.Frag} {mg : Str → Option Value} {base : Heap}
/-! ### the law reads a part -/
def spBagOf (K : PySem.W.Frag) : Sp := fun vs H Q _ => ∃ (aw ab : Addr) (words bowls : List Str), vs = [.ref aw, .ref ab] ∧ SqL K H aw (words.map V.str) ∧ SqL K H ab (bowls.map V.str) ∧ words.length ≤ 100000 ∧ (∀ z ∈ words, z.length < sizeLine) ∧
  ∀ v H', Same H H' → OptB (bagOf words bowls) H H' v → Q v H'
abbrev s_l_bag_of : Stmt := topS 42
abbrev N_l_bag_of : List Str := ["words", "bowls", "told", "k", "piece"]
theorem sc_l_bag_of : FnScope ["words", "bowls", "told", "k", "piece"] ["words", "bowls"] (defScope s_l_bag_of) := ⟨rfl, rfl, rfl, by decide +kernel, rfl, by decide +kernel, by decide +kernel⟩
theorem ok_l_bag_of {f f1 : Addr} {fd fd1 : FuncData} (T : Txt K mg) (L_l_count_of : Lk K mg "_law_count_of" s_l_count_of f1 fd1 ["word"]) (L_l_bag_of : Lk K mg "_law_bag_of" s_l_bag_of f fd ["words", "bowls"]) : FnOk P w K mg base CX0 2 f fd ["words", "bowls"] (spBagOf K) := by
  have G_l_count_of : FnOk P w K mg base CX0 1 f1 fd1 ["word"] spLCount := ok_l_count_of T L_l_count_of
  refine L_l_bag_of.fn.ok sc_l_bag_of (fun vs H Q E h => ?_) (fun cdv A outer s H vs Q E hr h => ?_)
  · obtain ⟨aw, ab, words, bowls, rfl, _⟩ := h
    rfl
  · obtain ⟨aw, ab, words, bowls, rfl, hw, hb, hlen, hz, k⟩ := h
    have kN : bagOf words bowls = none → ∀ H', Same H H' → Q .non H' := fun e H' s => k _ H' s (.inl ⟨e, rfl⟩)
    have kS : ∀ B, bagOf words bowls = some B → ∀ H' p, Same H H' → H p = none → H' p = some (cellD B) → Q (.ref p) H' := fun B e H' p s f c => k _ H' s (.inr ⟨B, p, e, rfl, f, c⟩)
    have hu := hu_of hr
    refine ⟨_, (pss_cons (ps_set (i := 2) sc_l_bag_of.nd rfl (Or.inl rfl) pe_dnewK)
      (pss_cons (ps_if (pt_cmpR (op_eqS hr.units) (pv 0) (pe_lst (pa_cons pe_str pa_nil)) (nomark _)) (pss_one (ps_ret (pv 2))) pss_nil)
      (pss_cons (ps_for PassesOwn.never rfl (pi_range3 (by rfl) T.range (pa_cons pe_int (pa_cons (pe_op op_add (pe_callB call_len_seq (by rfl) T.len PySem.boot_len (pa_cons (pv 0) pa_nil)) pe_int) (pa_cons pe_int pa_nil)))) (pg_name (i := 3) sc_l_bag_of.nd rfl (Or.inl rfl))
      (pss_cons (ps_set (i := 4) sc_l_bag_of.nd rfl (Or.inl rfl) (pe_slice sl_list (pv 0) (po_some (pv 3)) (po_some (pe_op op_add (pv 3) pe_int))))
      (pss_cons (ps_if (PW.pt (pw_or (pt_cmpR op_lt (pe_callB call_len_seq (by rfl) T.len PySem.boot_len (pa_cons (pv 4) pa_nil)) pe_int (nomark _)) (pw_or (pt_cmpR op_lt (pe_call G_l_count_of (hr.mono (by decide)) (by rfl) L_l_count_of.g L_l_count_of.fn.kp L_l_count_of.b .nil pass0 (pa_cons (pe_ix ix_list (pv 4) pe_int (fun _ _ => rfl)) pa_nil)) pe_int (nomark _)) (pw_or (pt_cmpR op_notInS (pe_ix ix_list (pv 4) pe_int (fun _ _ => rfl)) (pv 1) (by rfl)) (pw_or1 (pt_cmp (pc_din hu (pe_ix ix_list (pv 4) pe_int (fun _ _ => rfl)) (pv 2)))))))) (pss_one (ps_ret pe_non)) pss_nil)
      (pss_cons (ps_if (PW.pt (pw_and (pt_cmpR op_eq (pe_callB call_len_seq (by rfl) T.len PySem.boot_len (pa_cons (pv 4) pa_nil)) pe_int (nomark _)) (pw_and1 (pt_cmpR op_ne (pe_ix ix_list (pv 4) pe_int (fun _ _ => rfl)) pe_str (nomark _))))) (pss_one (ps_ret pe_non)) pss_nil)
      (pss_cons (ps_dput hu (pv 2) (pe_ix ix_list (pv 4) pe_int (fun _ _ => rfl)) (pe_call G_l_count_of (hr.mono (by decide)) (by rfl) L_l_count_of.g L_l_count_of.fn.kp L_l_count_of.b .nil pass0 (pa_cons (pe_ix ix_list (pv 4) pe_int (fun _ _ => rfl)) pa_nil)) rfl)
      (pss_one (ps_if (pt_cmpR op_eq (pe_callB call_len_seq (by rfl) T.len PySem.boot_len (pa_cons (pv 4) pa_nil)) pe_int (nomark _)) (pss_one (ps_ret (pv 2))) pss_nil)))))))
      (pss_one (ps_ret pe_non))))), ?_⟩
    -- told = {}
    intro D hD
    have s1 : Same H (upd H D (.dK [])) := same_upd hD
    -- if words == ["-"]
    refine ⟨_, rfl, by show 1 ≤ sizeLine; exact small_of (by omega), fun p1 np1 => ?_⟩
    have s2 := s1.trans (same_upd (o := .lst [V.str ("-" : Str)]) np1)
    have e2 : upd (upd H D (.dK [])) p1 (.lst [V.str ("-" : Str)]) D = some (cellD []) := by
      rw [upd_ne (ne_of_none upd_same np1), upd_same]
      rfl
    refine ⟨aw, p1, words, [("-" : Str)], rfl, rfl, s2.seq hw, SqL.of upd_same, _, rfl, ?_⟩
    refine ite2 (fun h1 => ?_) (fun h1 => ?_)
    · have h1 := of_decide_eq_true h1
      refine ⟨_, rfl, ?_⟩
      refine kS [] ?_ _ D s2 hD e2
      unfold bagOf
      exact if_pos h1
    have hm : words ≠ [("-" : Str)] := fun q => h1 (decide_eq_true q)
    refine ⟨_, rfl, aw, _, rfl, .inl (s2.seq hw), _, _, rfl, rfl, 0, (words.length : Int) + 1, 3, (words.length + 3) / 3, by rw [List.length_map], rg3 (L := words.length + 1) (by omega), for_rangeC (lo := 0) (c := 3) (n := (words.length + 3) / 3)
      (fun i σ H' => ∃ B v3 v4, σ = [some (.ref aw), some (.ref ab), some (.ref D), v3, v4] ∧ runB words bowls i = some B ∧ (i = 0 ∨ wd words (3 * i - 1) = ("+" : Str)) ∧ 3 * i ≤ words.length ∧ Same H H' ∧ H' D = some (cellD B))
      ⟨[], none, none, rfl, rfl, .inl rfl, Nat.zero_le _, s2, e2⟩ ?_ ?_⟩
    · rintro i σ H' hi ⟨B, v3, v4, rfl, hB, hp, hle, s3, eD⟩
      -- piece = words[k:k + 3]
      refine ⟨_, rfl, _, rfl, _, rfl, _, rfl, _, _, rfl, rfl, _, rfl, aw, _, rfl, s3.seq hw, fun p4 np4 => ?_⟩
      rw [show cutV (words.map V.str) (some (0 + (i : Int) * 3)) (some (0 + (i : Int) * 3 + 3)) = (pieceW words i).map V.str from by
        rw [show (0 + (i : Int) * 3) = ((3 * i : Nat) : Int) by omega, show (((3 * i : Nat) : Int) + 3) = ((3 * i + 3 : Nat) : Int) by omega, map_cut_ab]
        rfl]
      have nD4 : D ≠ p4 := ne_of_none eD np4
      have s4 := s3.trans (same_upd (o := .lst ((pieceW words i).map V.str)) np4)
      have eD4 : upd H' p4 (.lst ((pieceW words i).map V.str)) D = some (cellD B) := by rw [upd_ne nD4]; exact eD
      have e4 : upd H' p4 (.lst ((pieceW words i).map V.str)) p4 = some (.lst ((pieceW words i).map V.str)) := upd_same
      generalize upd H' p4 (.lst ((pieceW words i).map V.str)) = Ha at s4 eD4 e4 ⊢
      have pl := pieceW_len words i
      -- len(piece) < 2 or ..
      refine ⟨_, rfl, p4, _, rfl, .inl (SqL.of e4), _, _, rfl, rfl, _, rfl, ?_⟩
      rw [List.length_map]
      refine ite2 (fun h2 => ?_) (fun h2 => ?_)
      · have h2 := of_decide_eq_true h2
        refine iteT ?_
        exact kN (bagOf_len hm (by omega)) _ s4
      have h2 : 2 ≤ (pieceW words i).length := by
        have : ¬ (((pieceW words i).length : Int) < 2) := fun q => h2 (decide_eq_true q)
        omega
      have lt0 : 3 * i < words.length := by omega
      have lt1 : 3 * i + 1 < words.length := by omega
      have g0 : (pieceW words i)[0]? = some (wd words (3 * i)) := (pieceW_at (by omega)).trans (wd_lt lt0)
      have g1 : (pieceW words i)[1]? = some (wd words (3 * i + 1)) := (pieceW_at (by omega)).trans (wd_lt lt1)
      have z0 := hz _ (List.mem_of_getElem? (wd_lt lt0))
      have dead : runB words bowls (i + 1) = none → bagOf words bowls = none := fun q => bagOf_dead hm q (by omega)
      refine ⟨_, rfl, p4, _, _, _, rfl, rfl, SqL.of e4, at_of (j := 0) rfl (str_at g0), wd words (3 * i), rfl, by omega, _, _, rfl, rfl, _, rfl, ?_⟩
      refine ite2 (fun h3 => ?_) (fun h3 => ?_)
      · have h3 := of_decide_eq_true h3
        refine iteT ?_
        exact kN (dead (runB_none_count hB (lawCount_lt h3))) _ s4
      obtain ⟨c, ec, hc1, hc2⟩ := lawCount_of (fun q => h3 (decide_eq_true q))
      refine ⟨_, rfl, p4, _, _, _, rfl, rfl, SqL.of e4, at_of (j := 1) rfl (str_at g1), _, rfl, _, ab, bowls, rfl, rfl, s4.seq hb, _, rfl, ?_⟩
      by_cases h4 : wd words (3 * i + 1) ∈ bowls
      case neg =>
        rw [decide_eq_false h4]
        refine iteT (iteT ?_)
        exact kN (dead (runB_none_of hB (.inl h4))) _ s4
      rw [decide_eq_true h4]
      refine iteF ?_
      refine ⟨_, rfl, p4, _, _, _, rfl, rfl, SqL.of e4, at_of (j := 1) rfl (str_at g1), _, rfl, D, _, rfl, DGet.k (k := Sum.inr (wd words (3 * i + 1))) eD4, _, rfl, ?_⟩
      rw [kvs_is]
      refine ite2 (fun h5 => ?_) (fun h5 => ?_)
      · have h5 := of_decide_eq_true h5
        exact kN (dead (runB_none_of hB (.inr (.inl h5)))) _ s4
      have h5 : ¬ wd words (3 * i + 1) ∈ keysB B := fun q => h5 (decide_eq_true q)
      have hB1 := runB_succ hB ec hc1 h4 h5 hp
      -- if len(piece) == 3 and piece[2] != "+"
      refine ⟨_, rfl, p4, _, rfl, .inl (SqL.of e4), rfl, _, rfl, ?_⟩
      rw [List.length_map]
      have g2 : V.int ((pieceW words i).length : Int) = V.int 3 → (pieceW words i)[2]? = some (wd words (3 * i + 2)) := fun h => by
        have h := V.int.inj h
        exact (pieceW_at (by omega)).trans (wd_lt (by omega))
      refine ite2 (fun h6 => ⟨_, rfl, p4, _, _, _, rfl, rfl, SqL.of e4, at_of (j := 2) rfl (str_at (g2 (of_decide_eq_true h6))), rfl, _, rfl, iteND (fun h7 => ?bad) (fun h7 => ?g1)⟩) (fun h6 => iteF ?g2)
      case bad =>
        have h6 := V.int.inj (of_decide_eq_true h6)
        by_cases hl3 : words.length % 3 = 2
        · have q2 : runB words bowls (i + 1 + 1) = none := runB_none_of hB1 (.inr (.inr ⟨by omega, by
            rw [show 3 * (i + 1) - 1 = 3 * i + 2 by omega]
            exact fun q => h7 (congrArg V.str q)⟩))
          exact kN (bagOf_dead hm q2 (by omega)) _ s4
        · exact kN (bagOf_len hm hl3) _ s4
      all_goals
        have h8 : words.length = 3 * i + 2 ∨ wd words (3 * (i + 1) - 1) = ("+" : Str) := by
          first
            | exact .inr (by
                rw [show 3 * (i + 1) - 1 = 3 * i + 2 by omega]
                exact V.str.inj h7)
            | exact .inl (by
                have : ¬ (((pieceW words i).length : Int) = 3) := fun q => h6 (decide_eq_true (congrArg V.int q))
                omega)
        -- told[piece[1]] = _law_count_of(piece[0])
        refine ⟨_, rfl, p4, _, _, _, rfl, rfl, SqL.of e4, at_of (j := 0) rfl (str_at g0), wd words (3 * i), rfl, by omega, _, rfl, _, rfl, p4, _, _, _, rfl, rfl, SqL.of e4, at_of (j := 1) rfl (str_at g1), D, _, rfl, DPut.k (k := Sum.inr (wd words (3 * i + 1))) eD4 (small_of (by rw [kvs_len, runB_len hB]; omega)), ?_⟩
        rw [hc2, kvs_put h5]
        have s5 := same_put (u := .dK (kvs (B ++ [(wd words (3 * i + 1), c)]))) s4 hD
        have e5 : upd Ha D (.dK (kvs (B ++ [(wd words (3 * i + 1), c)]))) p4 = some (.lst ((pieceW words i).map V.str)) := by rw [upd_ne nD4.symm]; exact e4
        refine ⟨_, rfl, p4, _, rfl, .inl (SqL.of e5), rfl, _, rfl, ?_⟩
        rw [List.length_map]
        refine ite2 (fun h9 => ?_) (fun h9 => ?_)
        · have h9 := V.int.inj (of_decide_eq_true h9)
          refine ⟨_, rfl, kS _ ?_ _ D s5 hD upd_same⟩
          rw [bagOf_run (i := i) hm (by omega)]
          exact hB1
        · have h9 : ¬ (((pieceW words i).length : Int) = 2) := fun q => h9 (decide_eq_true (congrArg V.int q))
          refine ⟨_, _, _, rfl, hB1, ?_, by omega, s5, upd_same⟩
          rcases h8 with q | q
          · omega
          · exact .inr q
    · rintro σ H' ⟨B, v3, v4, rfl, hB, hp, hle, s3, eD⟩
      omega
/-! ### the law takes a row's words -/
def stepW (s : S) (words : List Str) : Option S := if wd words 0 = ("bowl" : Str) then stepBowl s words else if wd words 0 = ("door" : Str) then stepDoor s words else none
theorem stepW_none {s : S} {words : List Str} (h1 : wd words 0 = ("bowl" : Str) → stepBowl s words = none) (h2 : wd words 0 = ("door" : Str) → stepDoor s words = none) : stepW s words = none := by
  unfold stepW
  split
  · rename_i q
    exact h1 q
  · split
    · rename_i q
      exact h2 q
    · rfl
theorem lawCount_ge {z : Str} : (0 ≤ lawCount z → ∃ c, countS z = some c ∧ lawCount z = c) ∧ (¬ 0 ≤ lawCount z → countS z = none) := by
  unfold lawCount
  cases e : countS z with
  | none => exact ⟨fun h => absurd h (by decide), fun _ => rfl⟩
  | some c => exact ⟨fun _ => ⟨c, rfl, rfl⟩, fun h => absurd (countS_range e).1 h⟩
def spTaken : Sp := fun vs H Q _ => ∃ (H0 : Hp) (q aw : Addr) (words : List Str) (s : S), vs = [.ref aw, .ref q] ∧ PartsAt H0 H q s ∧ WF s ∧ H0 aw = some (.lst (words.map V.str)) ∧ words ≠ [] ∧ words.length ≤ 100000 ∧ (∀ z ∈ words, z.length < sizeLine) ∧
  (stepW s words = none → ∀ H', Same H0 H' → Q (.bl false) H') ∧ (∀ s', stepW s words = some s' → ∀ H', PartsAt H0 H' q s' → Q (.bl true) H')
abbrev s_l_taken : Stmt := topS 43
abbrev N_l_taken : List Str := ["words", "parts", "at", "taken", "given"]
theorem sc_l_taken : FnScope ["words", "parts", "at", "taken", "given"] ["words", "parts"] (defScope s_l_taken) := ⟨rfl, rfl, rfl, by decide +kernel, rfl, by decide +kernel, by decide +kernel⟩
theorem ok_l_taken {f f1 f2 f3 : Addr} {fd fd1 fd2 fd3 : FuncData} (T : Txt K mg) (L_l_count_of : Lk K mg "_law_count_of" s_l_count_of f1 fd1 ["word"]) (L_l_named : Lk K mg "_law_named" s_l_named f2 fd2 ["word"]) (L_l_bag_of : Lk K mg "_law_bag_of" s_l_bag_of f3 fd3 ["words", "bowls"])
    (L_l_taken : Lk K mg "_law_taken" s_l_taken f fd ["words", "parts"]) : FnOk P w K mg base CX0 3 f fd ["words", "parts"] spTaken := by
  have G_l_count_of : FnOk P w K mg base CX0 1 f1 fd1 ["word"] spLCount := ok_l_count_of T L_l_count_of
  have G_l_named : FnOk P w K mg base CX0 1 f2 fd2 ["word"] spLNamed := ok_l_named T L_l_named
  have G_l_bag_of : FnOk P w K mg base CX0 2 f3 fd3 ["words", "bowls"] (spBagOf K) := ok_l_bag_of T L_l_count_of L_l_bag_of
  refine L_l_taken.fn.ok sc_l_taken (fun vs H Q E h => ?_) (fun cdv A outer s H vs Q E hr h => ?_)
  · obtain ⟨H0, q, aw, words, s, rfl, _⟩ := h
    rfl
  · obtain ⟨H0, q, aw, words, st, rfl, hP, W, hw0, hne, hlen, hz, kN, kS⟩ := h
    refine ⟨_, (C8.pss_cut (ps_if (PW.pt (pw_and (pt_cmpR op_eq (pe_ix ix_list (pv 0) pe_int (fun _ _ => rfl)) pe_str (nomark _)) (pw_and (pt_cmpR op_eq (pe_callB call_len_seq (by rfl) T.len PySem.boot_len (pa_cons (pv 0) pa_nil)) pe_int (nomark _)) (pw_and1 (pt_cmpR op_lt (pe_callB call_len_seq (by rfl) T.len PySem.boot_len (pa_cons (pe_ix ix_list (pv 1) pe_int (fun _ _ => rfl)) pa_nil)) pe_int (nomark _)))))) (pss_one (ps_if (PW.pt (pw_and (pt_val (pe_call G_l_named (hr.mono (by decide)) (by rfl) L_l_named.g L_l_named.fn.kp L_l_named.b .nil pass0 (pa_cons (pe_ix ix_list (pv 0) pe_int (fun _ _ => rfl)) pa_nil))) (pw_and (pt_cmpR op_notInS (pe_ix ix_list (pv 0) pe_int (fun _ _ => rfl)) (pe_ix ix_list (pv 1) pe_int (fun _ _ => rfl)) (by rfl)) (pw_and1 (pt_cmpR op_ge (pe_call G_l_count_of (hr.mono (by decide)) (by rfl) L_l_count_of.g L_l_count_of.fn.kp L_l_count_of.b .nil pass0 (pa_cons (pe_ix ix_list (pv 0) pe_int (fun _ _ => rfl)) pa_nil)) pe_int (nomark _)))))) (pss_cons (ps_expr (pe_bm PySem.F.plainAttrs_list PySem.F.slot_list_append PySem.F.type_list_append mt_append (pe_ix ix_list (pv 1) pe_int (fun _ _ => rfl)) (pa_cons (pe_ix ix_list (pv 0) pe_int (fun _ _ => rfl)) pa_nil)))
      (pss_cons (ps_expr (pe_bm PySem.F.plainAttrs_list PySem.F.slot_list_append PySem.F.type_list_append mt_append (pe_ix ix_list (pv 1) pe_int (fun _ _ => rfl)) (pa_cons (pe_call G_l_count_of (hr.mono (by decide)) (by rfl) L_l_count_of.g L_l_count_of.fn.kp L_l_count_of.b .nil pass0 (pa_cons (pe_ix ix_list (pv 0) pe_int (fun _ _ => rfl)) pa_nil)) pa_nil)))
      (pss_one (ps_ret pe_bl)))) pss_nil)) pss_nil)
      (C8.pss_cut (ps_if (PW.pt (pw_and (pt_cmpR op_eq (pe_ix ix_list (pv 0) pe_int (fun _ _ => rfl)) pe_str (nomark _)) (pw_and (pt_cmpR op_inS pe_str (pv 0) (by rfl)) (pw_and1 (pt_cmpR op_lt (pe_callB call_len_seq (by rfl) T.len PySem.boot_len (pa_cons (pe_ix ix_list (pv 1) pe_int (fun _ _ => rfl)) pa_nil)) pe_int (nomark _)))))) (pss_cons (ps_set (i := 2) sc_l_taken.nd rfl (Or.inl rfl) (pe_bm PySem.F.plainAttrs_list PySem.F.slot_list_index PySem.F.type_list_index mt_indexS (pv 0) (pa_cons pe_str pa_nil)))
      (pss_cons (ps_set (i := 3) sc_l_taken.nd rfl (Or.inl rfl) (pe_call G_l_bag_of (hr.mono (by decide)) (by rfl) L_l_bag_of.g L_l_bag_of.fn.kp L_l_bag_of.b .nil pass0 (pa_cons (pe_slice sl_list (pv 0) (po_some pe_int) (po_some (pv 2))) (pa_cons (pe_ix ix_list (pv 1) pe_int (fun _ _ => rfl)) pa_nil))))
      (pss_cons (ps_set (i := 4) sc_l_taken.nd rfl (Or.inl rfl) (pe_call G_l_bag_of (hr.mono (by decide)) (by rfl) L_l_bag_of.g L_l_bag_of.fn.kp L_l_bag_of.b .nil pass0 (pa_cons (pe_slice sl_list (pv 0) (po_some (pe_op op_add (pv 2) pe_int)) po_none) (pa_cons (pe_ix ix_list (pv 1) pe_int (fun _ _ => rfl)) pa_nil))))
      (pss_one (ps_if (PW.pt (pw_and (pt_val (pe_call G_l_named (hr.mono (by decide)) (by rfl) L_l_named.g L_l_named.fn.kp L_l_named.b .nil pass0 (pa_cons (pe_ix ix_list (pv 0) pe_int (fun _ _ => rfl)) pa_nil))) (pw_and (pt_cmpR op_notInS (pe_ix ix_list (pv 0) pe_int (fun _ _ => rfl)) (pe_ix ix_list (pv 1) pe_int (fun _ _ => rfl)) (by rfl)) (pw_and (pt_cmp (pc_notN (pv 3))) (pw_and1 (pt_cmp (pc_notN (pv 4)))))))) (pss_cons (ps_expr (pe_bm PySem.F.plainAttrs_list PySem.F.slot_list_append PySem.F.type_list_append mt_append (pe_ix ix_list (pv 1) pe_int (fun _ _ => rfl)) (pa_cons (pe_ix ix_list (pv 0) pe_int (fun _ _ => rfl)) pa_nil)))
      (pss_cons (ps_expr (pe_bm PySem.F.plainAttrs_list PySem.F.slot_list_append PySem.F.type_list_append mt_append (pe_ix ix_list (pv 1) pe_int (fun _ _ => rfl)) (pa_cons (pv 3) pa_nil)))
      (pss_cons (ps_expr (pe_bm PySem.F.plainAttrs_list PySem.F.slot_list_append PySem.F.type_list_append mt_append (pe_ix ix_list (pv 1) pe_int (fun _ _ => rfl)) (pa_cons (pv 4) pa_nil)))
      (pss_one (ps_ret pe_bl))))) pss_nil))))) pss_nil)
      (pss_one (ps_ret pe_bl)))), ?_⟩
    have b6 := W.b6
    have d8 := W.d8
    have g0 := wd_lt (List.length_pos_iff.mpr hne)
    refine ⟨fun σ' H' => σ' = [some (.ref aw), some (.ref q), none, none, none] ∧ PartsAt H0 H' q st ∧ (wd words 0 = ("bowl" : Str) → stepBowl st words = none), ?_, ?_⟩
    · obtain ⟨a0, a1, a2, a3, a4, ts, gs, A5⟩ := id hP
      have hw := A5.same _ _ hw0
      refine ⟨_, rfl, aw, _, _, _, rfl, rfl, SqL.of hw, at_of (j := 0) rfl (str_at g0), rfl, _, rfl, ?_⟩
      by_cases q1 : wd words 0 = ("bowl" : Str)
      case neg =>
        rw [decide_eq_false (show ¬ V.str (wd words 0) = V.str ("bowl" : Str) from fun z => q1 (vstr_inj z))]
        refine iteF (iteF ?_)
        exact ⟨rfl, hP, fun z => absurd z q1⟩
      rw [decide_eq_true (show V.str (wd words 0) = V.str ("bowl" : Str) from congrArg V.str q1)]
      refine iteT ?_
      refine ⟨_, rfl, aw, _, rfl, .inl (SqL.of hw), rfl, _, rfl, ?_⟩
      rw [List.length_map]
      refine ite2 (fun q2 => ?_) (fun q2 => iteF ⟨rfl, hP, fun _ => stepBowl_none (.inl fun z => q2 (decide_eq_true (congrArg V.int (by omega))))⟩)
      have q2 := V.int.inj (of_decide_eq_true q2)
      have q2 : words.length = 3 := by omega
      have g1 := wd_lt (words := words) (i := 1) (by omega)
      have g2 := wd_lt (words := words) (i := 2) (by omega)
      have z1 := hz _ (List.mem_of_getElem? g1)
      have z2 := hz _ (List.mem_of_getElem? g2)
      refine ⟨_, rfl, q, _, _, _, rfl, rfl, SqL.of A5.hp, at_of (j := 0) rfl rfl, a0, _, rfl, .inl (SqL.of A5.h0), _, _, rfl, rfl, _, rfl, ?_⟩
      rw [List.length_map]
      refine ite2 (fun q3 => ?_) (fun q3 => ⟨rfl, hP, fun _ => stepBowl_none (.inl fun z => q3 (decide_eq_true (by omega)))⟩)
      have q3 := of_decide_eq_true q3
      -- _law_named(words[1]) and words[1] not in parts[0] and _law_count_of(words[2]) >= 0
      refine ⟨_, rfl, aw, _, _, _, rfl, rfl, SqL.of hw, at_of (j := 1) rfl (str_at g1), wd words 1, rfl, z1, fun H2 s2 => ⟨_, rfl, ?_⟩⟩
      have A6 := A5.more s2
      have hP2 : PartsAt H0 H2 q st := ⟨a0, a1, a2, a3, a4, ts, gs, A6⟩
      have hw2 := A6.same _ _ hw0
      cases eg : goodName (wd words 1) with
      | false =>
        refine iteF (iteF ?_)
        exact ⟨rfl, hP2, fun _ => stepBowl_none (.inl fun z => by rw [eg] at z; exact Bool.noConfusion z.2.2.1)⟩
      | true =>
        refine iteT ?_
        refine ⟨_, rfl, aw, _, _, _, rfl, rfl, SqL.of hw2, at_of (j := 1) rfl (str_at g1), _, rfl, q, _, _, _, rfl, rfl, SqL.of A6.hp, at_of (j := 0) rfl rfl, _, a0, st.bowls, rfl, rfl, SqL.of A6.h0, _, rfl, ?_⟩
        by_cases hm : wd words 1 ∈ st.bowls
        case pos =>
          rw [decide_eq_true hm]
          refine iteF (iteF ?_)
          exact ⟨rfl, hP2, fun _ => stepBowl_none (.inl fun z => z.2.2.2 hm)⟩
        rw [decide_eq_false hm]
        refine iteT ?_
        refine ⟨_, rfl, aw, _, _, _, rfl, rfl, SqL.of hw2, at_of (j := 2) rfl (str_at g2), wd words 2, rfl, by omega, _, _, rfl, rfl, _, rfl, ?_⟩
        refine ite2 (fun q4 => ?_) (fun q4 => ⟨rfl, hP2, fun _ => stepBowl_none (.inr (lawCount_ge.2 fun z => q4 (decide_eq_true z)))⟩)
        obtain ⟨c, ec, hc⟩ := lawCount_ge.1 (of_decide_eq_true q4)
        have D := dis_of A6.nd
        -- parts[0].append(words[1]); parts[4].append(_law_count_of(words[2]))
        refine ⟨_, rfl, q, _, _, _, rfl, rfl, SqL.of A6.hp, at_of (j := 0) rfl rfl, .inl ⟨rfl, _, SqL.of A6.h0⟩, _, rfl, aw, _, _, _, rfl, rfl, SqL.of hw2, at_of (j := 1) rfl (str_at g1), a0, _, _, rfl, rfl, A6.h0, by rw [List.length_map]; exact small1000 (by omega), ?_⟩
        have hw3 := (same_put (u := .lst (st.bowls.map V.str ++ [V.str (wd words 1)])) A6.same (A6.fresh a0 (by simp))) _ _ hw0
        have hp3 : upd H2 a0 (.lst (st.bowls.map V.str ++ [V.str (wd words 1)])) q = some (.lst [.ref a0, .ref a1, .ref a2, .ref a3, .ref a4]) := by rw [upd_ne D.p0]; exact A6.hp
        have hf3 : upd H2 a0 (.lst (st.bowls.map V.str ++ [V.str (wd words 1)])) a4 = some (.lst (st.first.map V.int)) := by rw [upd_ne D.d04.symm]; exact A6.h4
        refine ⟨_, rfl, q, _, _, _, rfl, rfl, SqL.of hp3, at_of (j := 4) rfl rfl, .inl ⟨rfl, _, SqL.of hf3⟩, _, rfl, aw, _, _, _, rfl, rfl, SqL.of hw3, at_of (j := 2) rfl (str_at g2), wd words 2, rfl, by omega, a4, _, _, rfl, rfl, hf3, by rw [List.length_map, W.fl]; exact small1000 (by omega), ?_⟩
        rw [hc]
        refine kS ⟨st.bowls ++ [wd words 1], st.first ++ [c], st.doors, st.takes, st.gives⟩ ?_ _ ⟨a0, a1, a2, a3, a4, ts, gs, A6.bowl (wd words 1) c⟩
        unfold stepW
        rw [if_pos q1]
        exact stepBowl_some ⟨q2, by omega, eg, hm⟩ ec
    · rintro σ1 H1 ⟨rfl, ⟨a0, a1, a2, a3, a4, ts, gs, A5⟩, hno⟩
      have hw := A5.same _ _ hw0
      refine ⟨fun σ' H' => Same H0 H' ∧ stepW st words = none, ?_, fun σ2 H2 h2 => kN h2.2 _ h2.1⟩
      refine ⟨_, rfl, aw, _, _, _, rfl, rfl, SqL.of hw, at_of (j := 0) rfl (str_at g0), rfl, _, rfl, ?_⟩
      by_cases q1 : wd words 0 = ("door" : Str)
      case neg =>
        rw [decide_eq_false (show ¬ V.str (wd words 0) = V.str ("door" : Str) from fun z => q1 (vstr_inj z))]
        refine iteF (iteF ?_)
        exact ⟨A5.same, stepW_none hno fun z => absurd z q1⟩
      rw [decide_eq_true (show V.str (wd words 0) = V.str ("door" : Str) from congrArg V.str q1)]
      refine iteT ?_
      refine ⟨_, rfl, _, aw, words, rfl, rfl, SqL.of hw, _, rfl, ?_⟩
      by_cases hgt : (">" : Str) ∈ words
      case neg =>
        rw [decide_eq_false hgt]
        refine iteF (iteF ?_)
        exact ⟨A5.same, stepW_none hno fun _ => stepDoor_none (.inl fun z => hgt z.1)⟩
      rw [decide_eq_true hgt]
      refine iteT ?_
      refine ⟨_, rfl, q, _, _, _, rfl, rfl, SqL.of A5.hp, at_of (j := 1) rfl rfl, a1, _, rfl, .inl (SqL.of A5.h1), _, _, rfl, rfl, _, rfl, ?_⟩
      rw [List.length_map]
      refine ite2 (fun q3 => ?_) (fun q3 => ⟨A5.same, stepW_none hno fun _ => stepDoor_none (.inl fun z => q3 (decide_eq_true (by omega)))⟩)
      have q3 := of_decide_eq_true q3
      have l2 : 1 < words.length := by
        rcases Nat.lt_or_ge 1 words.length with z | z
        · exact z
        · obtain ⟨i, hi⟩ := List.mem_iff_getElem?.mp hgt
          have := (List.getElem?_eq_some_iff.mp hi).1
          have hi0 : i = 0 := by omega
          subst hi0
          rw [g0] at hi
          have := Option.some.inj hi
          rw [q1] at this
          exact absurd this (by decide +kernel)
      have g1 := wd_lt l2
      have z1 := hz _ (List.mem_of_getElem? g1)
      -- at = words.index(">")
      refine ⟨_, rfl, .inl ⟨rfl, _, SqL.of hw⟩, aw, words, _, rfl, rfl, SqL.of hw, hgt, ?_⟩
      -- taken = _law_bag_of(words[2:at], parts[0])
      refine ⟨_, rfl, _, rfl, _, rfl, _, rfl, aw, _, rfl, SqL.of hw, fun p1 np1 => ?_⟩
      have s1 := same_upd (o := .lst (cutV (words.map V.str) (some 2) (some ((idx (">" : Str) words : Nat) : Int)))) np1
      have A1 := A5.more s1
      have e1 : upd H1 p1 (.lst (cutV (words.map V.str) (some 2) (some ((idx (">" : Str) words : Nat) : Int)))) p1 = some (.lst ((partA words).map V.str)) := by
        rw [upd_same, show (some (2 : Int)) = some ((2 : Nat) : Int) from rfl, map_cut_ab]
        rfl
      generalize upd H1 p1 (.lst (cutV (words.map V.str) (some 2) (some ((idx (">" : Str) words : Nat) : Int)))) = Ha at s1 A1 e1 ⊢
      refine ⟨_, rfl, q, _, _, _, rfl, rfl, SqL.of A1.hp, at_of (j := 0) rfl rfl, p1, a0, partA words, st.bowls, rfl, SqL.of e1, SqL.of A1.h0, by have := partA_len words; omega, fun z h => hz z (partA_mem h), fun v Hb s2 hv => ?_⟩
      have A2 := A1.more s2
      -- given = _law_bag_of(words[at + 1:], parts[0])
      refine ⟨_, rfl, _, rfl, _, _, rfl, rfl, _, rfl, aw, _, rfl, SqL.of (A2.same _ _ hw0), fun p2 np2 => ?_⟩
      have s3 := same_upd (o := .lst (cutV (words.map V.str) (some (((idx (">" : Str) words : Nat) : Int) + 1)) none)) np2
      have A3 := A2.more s3
      have e3 : upd Hb p2 (.lst (cutV (words.map V.str) (some (((idx (">" : Str) words : Nat) : Int) + 1)) none)) p2 = some (.lst ((partB words).map V.str)) := by
        rw [upd_same, show ((idx (">" : Str) words : Nat) : Int) + 1 = ((idx (">" : Str) words + 1 : Nat) : Int) from rfl, map_cut_a]
        rfl
      generalize upd Hb p2 (.lst (cutV (words.map V.str) (some (((idx (">" : Str) words : Nat) : Int) + 1)) none)) = Hc at s3 A3 e3 ⊢
      refine ⟨_, rfl, q, _, _, _, rfl, rfl, SqL.of A3.hp, at_of (j := 0) rfl rfl, p2, a0, partB words, st.bowls, rfl, SqL.of e3, SqL.of A3.h0, by have := partB_len words; omega, fun z h => hz z (partB_mem h), fun v2 Hd s4 hv2 => ?_⟩
      have A4 := A3.more s4
      -- _law_named(words[1]) and words[1] not in parts[1] and taken is not None and given is not None
      refine ⟨_, rfl, aw, _, _, _, rfl, rfl, SqL.of (A4.same _ _ hw0), at_of (j := 1) rfl (str_at g1), wd words 1, rfl, z1, fun He s5 => ⟨_, rfl, ?_⟩⟩
      have A6 := A4.more s5
      have hw6 := A6.same _ _ hw0
      cases eg : goodName (wd words 1) with
      | false =>
        refine iteF (iteF ?_)
        exact ⟨A6.same, stepW_none hno fun _ => stepDoor_none (.inl fun z => by rw [eg] at z; exact Bool.noConfusion z.2.2.1)⟩
      | true =>
        refine iteT ?_
        refine ⟨_, rfl, aw, _, _, _, rfl, rfl, SqL.of hw6, at_of (j := 1) rfl (str_at g1), _, rfl, q, _, _, _, rfl, rfl, SqL.of A6.hp, at_of (j := 1) rfl rfl, _, a1, st.doors, rfl, rfl, SqL.of A6.h1, _, rfl, ?_⟩
        by_cases hm : wd words 1 ∈ st.doors
        case pos =>
          rw [decide_eq_true hm]
          refine iteF (iteF ?_)
          exact ⟨A6.same, stepW_none hno fun _ => stepDoor_none (.inl fun z => z.2.2.2 hm)⟩
        rw [decide_eq_false hm]
        refine iteT ?_
        rcases hv with ⟨hA, rfl⟩ | ⟨BA, t, hA, rfl, ft, ht⟩
        · refine ⟨_, rfl, _, rfl, ?_⟩
          refine iteF (iteF ?_)
          exact ⟨A6.same, stepW_none hno fun _ => stepDoor_none (.inr (.inl hA))⟩
        refine ⟨_, rfl, _, rfl, ?_⟩
        refine iteT ?_
        rcases hv2 with ⟨hB, rfl⟩ | ⟨BB, g, hB, rfl, fg, hg⟩
        · refine ⟨_, rfl, _, rfl, ?_⟩
          refine iteF ?_
          exact ⟨A6.same, stepW_none hno fun _ => stepDoor_none (.inr (.inr hB))⟩
        refine ⟨_, rfl, _, rfl, ?_⟩
        refine iteT ?_
        have D := dis_of A6.nd
        have ht6 := s5 _ _ (s4 _ _ (s3 _ _ ht))
        have hg6 := s5 _ _ hg
        have ft1 : H1 t = none := s1.free ft
        have fg1 : H1 g = none := s1.free (s2.free (s3.free fg))
        have ftg : t ≠ g := ne_of_none (s3 _ _ ht) fg
        have tl8 := W.tlen
        have gl8 := W.glen
        have tt8 : ts.length ≤ 8 := by rw [A6.ct.1]; omega
        have gg8 : gs.length ≤ 8 := by rw [A6.cg.1]; omega
        refine ⟨_, rfl, q, _, _, _, rfl, rfl, SqL.of A6.hp, at_of (j := 1) rfl rfl, .inl ⟨rfl, _, SqL.of A6.h1⟩, _, rfl, aw, _, _, _, rfl, rfl, SqL.of hw6, at_of (j := 1) rfl (str_at g1), a1, _, _, rfl, rfl, A6.h1, by rw [List.length_map]; exact small1000 (by omega), ?_⟩
        have hp1 : upd He a1 (.lst (st.doors.map V.str ++ [V.str (wd words 1)])) q = some (.lst [.ref a0, .ref a1, .ref a2, .ref a3, .ref a4]) := by rw [upd_ne D.p1]; exact A6.hp
        have ht1 : upd He a1 (.lst (st.doors.map V.str ++ [V.str (wd words 1)])) a2 = some (.lst (ts.map V.ref)) := by rw [upd_ne D.d12.symm]; exact A6.h2
        refine ⟨_, rfl, q, _, _, _, rfl, rfl, SqL.of hp1, at_of (j := 2) rfl rfl, .inl ⟨rfl, _, SqL.of ht1⟩, _, rfl, a2, _, _, rfl, rfl, ht1, by rw [List.length_map]; exact small1000 (by omega), ?_⟩
        have hp2 : upd (upd He a1 (.lst (st.doors.map V.str ++ [V.str (wd words 1)]))) a2 (.lst (ts.map V.ref ++ [V.ref t])) q = some (.lst [.ref a0, .ref a1, .ref a2, .ref a3, .ref a4]) := by rw [upd_ne D.p2]; exact hp1
        have hg2 : upd (upd He a1 (.lst (st.doors.map V.str ++ [V.str (wd words 1)]))) a2 (.lst (ts.map V.ref ++ [V.ref t])) a3 = some (.lst (gs.map V.ref)) := by rw [upd_ne D.d23.symm, upd_ne D.d13.symm]; exact A6.h3
        refine ⟨_, rfl, q, _, _, _, rfl, rfl, SqL.of hp2, at_of (j := 3) rfl rfl, .inl ⟨rfl, _, SqL.of hg2⟩, _, rfl, a3, _, _, rfl, rfl, hg2, by rw [List.length_map]; exact small1000 (by omega), ?_⟩
        refine kS ⟨st.bowls, st.first, st.doors ++ [wd words 1], st.takes ++ [BA], st.gives ++ [BB]⟩ ?_ _ ⟨a0, a1, a2, a3, a4, ts ++ [t], gs ++ [g], A6.door (wd words 1) ht6 hg6 (A5.same.free ft1) (A5.same.free fg1) ftg (A5.notin ft1) (A5.notin fg1)⟩
        unfold stepW
        rw [if_neg (by rw [q1]; decide +kernel), if_pos q1]
        exact stepDoor_some ⟨hgt, by omega, eg, hm⟩ hA hB
end
end BH

set_option Elab.async false
set_option linter.all false
set_option maxRecDepth 100000
set_option maxHeartbeats 4000000
namespace BH
open PySem TL L2 PyProof.Rows
/-- [[bag.get(name, 0) for name in parts[0]] for bag in ..] -/
theorem due_lc {K : PySem.W.Frag} {r0 r2 r3 r4 r5 : Option V} {H : Hp} {Q : VK} {q a a0 : Addr} {xs : List V} {tl : TE} {ts : List Addr} {T : List Bag} {bowls : List Str} (htl : ∀ R : VK, R (.ref a) H → tl [r0, some (.ref q), r2, r3, r4, r5] H R)
    (hq : H q = some (.lst xs)) (h0 : xs[0]? = some (.ref a0)) (hb : H a0 = some (.lst (bowls.map V.str))) (hS : H a = some (.lst (ts.map V.ref))) (ct : CellsAt cellD H ts T) (hl : ts.length ≤ 1000) (hl6 : bowls.length ≤ 1000)
    (k : ∀ (D : Addr) (us : List Addr) (H' : Hp), Same H H' → H D = none → H' D = some (.lst (us.map V.ref)) → CellsAt cellI H' us (T.map (vec bowls)) → (∀ u ∈ us, H u = none) → Q (.ref D) H') :
    tLc (iList K tl) (gName 4) tYes (tLc (iList K (tOp (rIxL K) (tVar 1) (tC (.int 0)))) (gName 5) tYes (tDGet2 (tVar 4) (tVar 5) (tC (.int 0))) [5]) [4] [r0, some (.ref q), r2, r3, r4, r5] H Q := by
  refine htl _ ⟨a, rfl, ⟨_, SqL.of hS⟩, fun D hD => ?_⟩
  refine lc_list (xs := ts.map V.ref) (fun m H' => ∃ us, Same H H' ∧ H' D = some (.lst (us.map V.ref)) ∧ CellsAt cellI H' us ((T.take m).map (vec bowls)) ∧ us.length ≤ m ∧ ∀ u ∈ us, H u = none ∧ u ≠ D) ⟨[], same_upd hD, upd_same, CellsAt.nil, Nat.le_refl _, fun u h => by simp at h⟩ (fun m H' _ ⟨_, s, _⟩ => SqL.of (s _ _ hS)) ?_ ?_
  · rintro m x H' hx ⟨us, s, eD, cu, hm, fu⟩
    obtain ⟨t, ht, rfl⟩ := refs_get hx
    have hlt : m < T.length := by
      rw [← ct.1]
      exact (List.getElem?_eq_some_iff.mp ht).1
    have hg := List.getElem?_eq_getElem hlt
    have hct := s _ _ (ct.2 m t _ ht hg)
    refine ⟨rfl, tyes ?_⟩
    refine iteT ?_
    -- the inner list
    refine ⟨_, rfl, q, _, _, _, rfl, rfl, SqL.of (s _ _ hq), at_of (j := 0) rfl h0, a0, rfl, ⟨_, SqL.of (s _ _ hb)⟩, fun D2 hD2 => ?_⟩
    have nD2 : D ≠ D2 := ne_of_none eD hD2
    refine lc_list (xs := bowls.map V.str) (fun i H3 => H3 = upd H' D2 (cellI (vec (bowls.take i) T[m]))) rfl (fun i H3 _ e => by rw [e]; exact SqL.of ((same_upd hD2) _ _ (s _ _ hb))) ?_ ?_
    · rintro i x H3 hx rfl
      obtain ⟨z, hz', rfl⟩ := strs_get hx
      refine ⟨rfl, tyes ?_⟩
      refine iteT ?_
      have ht3 := (same_upd (o := cellI (vec (bowls.take i) T[m])) hD2) _ _ hct
      refine ⟨_, rfl, t, rfl, .inl ⟨_, .inl ht3⟩, _, rfl, _, DGet.k (k := Sum.inr z) ht3, ?_⟩
      rw [kvs_get]
      refine ⟨_, upd_same, ?_, ?_⟩
      · rw [List.length_map, vec_len, List.length_take]
        exact small1000 (by omega)
      · rw [upd_upd, take_more hz', vec_append]
        unfold cellI
        rw [List.map_append]
        rfl
    · rintro H3 rfl
      rw [List.length_map, List.take_length]
      refine ⟨us.map V.ref, by rw [upd_ne nD2]; exact eD, ?_, us ++ [D2], ?_, ?_, ?_, ?_, ?_⟩
      · rw [List.length_map]
        have := (List.getElem?_eq_some_iff.mp ht).1
        exact small1000 (by omega)
      · exact same_put (s.trans (same_upd hD2)) hD
      · rw [upd_same, List.map_append]
        rfl
      · rw [take_more hg, List.map_append]
        refine (cu.mono fun u hu o e => ?_).snoc ?_
        · rw [upd_ne (fu u hu).2, upd_ne (ne_of_none e hD2)]
          exact e
        · rw [upd_ne (Ne.symm nD2), upd_same]
      · rw [List.length_append, List.length_singleton]
        omega
      · exact mem_snoc fu ⟨s.free hD2, Ne.symm nD2⟩
  · rintro H' ⟨us, s, eD, cu, _, fu⟩
    rw [List.length_map, ct.1, List.take_length] at cu
    exact k D us H' s hD eD cu fun u hu => (fu u hu).1
theorem At5.down {α : Type} {cell : α → HO} {H0 HB H : Hp} {p a0 a1 a2 a3 a4 : Addr} {o : HO} {ts gs : List Addr} {bowls doors : List Str} {T G : List α} {first : List Int} (A : At5 cell HB H p o a0 a1 a2 a3 a4 ts gs bowls doors T G first) (k : Same H0 HB) :
    At5 cell H0 H p o a0 a1 a2 a3 a4 ts gs bowls doors T G first := ⟨k.trans A.same, fun b hb => k.free (A.fresh b hb), A.nd, A.hp, A.h0, A.h1, A.h2, A.h3, A.h4, A.ct, A.cg⟩
theorem At5.new {α : Type} {cell : α → HO} {H0 H : Hp} {p a0 a1 a2 a3 a4 : Addr} {o : HO} (s : Same H0 H) (f : ∀ b ∈ [p, a0, a1, a2, a3, a4], H0 b = none) (nd : [p, a0, a1, a2, a3, a4].Nodup) (hp : H p = some o) (h : ∀ b ∈ [a0, a1, a2, a3, a4], H b = some (.lst [])) :
    At5 cell H0 H p o a0 a1 a2 a3 a4 [] [] [] [] [] [] [] := ⟨s, f, nd, hp, h a0 (by simp), h a1 (by simp), h a2 (by simp), h a3 (by simp), h a4 (by simp), CellsAt.nil, CellsAt.nil⟩
theorem At5.five {α : Type} {cell : α → HO} {H : Hp} {q a0 a1 a2 a3 a4 : Addr} (n0 : H a0 = none) (n1 : upd H a0 (.lst []) a1 = none) (n2 : upd (upd H a0 (.lst [])) a1 (.lst []) a2 = none) (n3 : upd (upd (upd H a0 (.lst [])) a1 (.lst [])) a2 (.lst []) a3 = none)
    (n4 : upd (upd (upd (upd H a0 (.lst [])) a1 (.lst [])) a2 (.lst [])) a3 (.lst []) a4 = none) (nq : upd (upd (upd (upd (upd H a0 (.lst [])) a1 (.lst [])) a2 (.lst [])) a3 (.lst [])) a4 (.lst []) q = none) :
    At5 cell H (upd (upd (upd (upd (upd (upd H a0 (.lst [])) a1 (.lst [])) a2 (.lst [])) a3 (.lst [])) a4 (.lst [])) q (.lst [.ref a0, .ref a1, .ref a2, .ref a3, .ref a4])) q (.lst [.ref a0, .ref a1, .ref a2, .ref a3, .ref a4]) a0 a1 a2 a3 a4 [] [] [] [] [] [] [] := by
  have t1 := same_upd (o := .lst []) n0
  have t2 := same_upd (o := .lst []) n1
  have t3 := same_upd (o := .lst []) n2
  have t4 := same_upd (o := .lst []) n3
  have t5 := same_upd (o := .lst []) n4
  have t6 := same_upd (o := .lst [V.ref a0, .ref a1, .ref a2, .ref a3, .ref a4]) nq
  have e01 : upd H a0 (.lst []) a0 = some (.lst []) := upd_same
  have e02 := t2 _ _ e01
  have e03 := t3 _ _ e02
  have e04 := t4 _ _ e03
  have e05 := t5 _ _ e04
  have e12 : upd (upd H a0 (.lst [])) a1 (.lst []) a1 = some (.lst []) := upd_same
  have e13 := t3 _ _ e12
  have e14 := t4 _ _ e13
  have e15 := t5 _ _ e14
  have e23 : upd (upd (upd H a0 (.lst [])) a1 (.lst [])) a2 (.lst []) a2 = some (.lst []) := upd_same
  have e24 := t4 _ _ e23
  have e25 := t5 _ _ e24
  have e34 : upd (upd (upd (upd H a0 (.lst [])) a1 (.lst [])) a2 (.lst [])) a3 (.lst []) a3 = some (.lst []) := upd_same
  have e35 := t5 _ _ e34
  have e45 : upd (upd (upd (upd (upd H a0 (.lst [])) a1 (.lst [])) a2 (.lst [])) a3 (.lst [])) a4 (.lst []) a4 = some (.lst []) := upd_same
  have s2 := t1.trans t2
  have s3 := s2.trans t3
  have s4 := s3.trans t4
  have s5 := s4.trans t5
  refine At5.new (s5.trans t6) ?_ ?_ upd_same ?_
  · simp only [List.forall_mem_cons, List.not_mem_nil, false_implies, implies_true, and_true]
    exact ⟨s5.free nq, n0, t1.free n1, s2.free n2, s3.free n3, s4.free n4⟩
  · simp only [List.nodup_cons, List.mem_cons, List.not_mem_nil, or_false, not_or, List.nodup_nil, and_true, not_false_eq_true]
    exact ⟨⟨(ne_of_none e05 nq).symm, (ne_of_none e15 nq).symm, (ne_of_none e25 nq).symm, (ne_of_none e35 nq).symm, (ne_of_none e45 nq).symm⟩, ⟨ne_of_none e01 n1, ne_of_none e02 n2, ne_of_none e03 n3, ne_of_none e04 n4⟩, ⟨ne_of_none e12 n2, ne_of_none e13 n3, ne_of_none e14 n4⟩, ⟨ne_of_none e23 n3, ne_of_none e24 n4⟩, ne_of_none e34 n4⟩
  · simp only [List.forall_mem_cons, List.not_mem_nil, false_implies, implies_true, and_true]
    exact ⟨t6 _ _ e05, t6 _ _ e15, t6 _ _ e25, t6 _ _ e35, t6 _ _ e45⟩
theorem PartsAt.same0 {H0 H : Hp} {q : Addr} {s : S} (h : PartsAt H0 H q s) : Same H0 H := by
  obtain ⟨_, _, _, _, _, _, _, A⟩ := h
  exact A.same
theorem PartsAt.rebase {H0 H : Hp} {q b : Addr} {u : HO} {s : S} (h : PartsAt H0 H q s) (hb : H b = none) : PartsAt (upd H0 b u) (upd H b u) q s := by
  obtain ⟨a0, a1, a2, a3, a4, ts, gs, A⟩ := h
  exact ⟨a0, a1, a2, a3, a4, ts, gs, A.rebase hb⟩
theorem PartsAt.down {H0 HB H : Hp} {q : Addr} {s : S} (h : PartsAt HB H q s) (k : Same H0 HB) : PartsAt H0 H q s := by
  obtain ⟨a0, a1, a2, a3, a4, ts, gs, A⟩ := h
  exact ⟨a0, a1, a2, a3, a4, ts, gs, A.down k⟩
theorem stepRow_take {s : S} {row : Str} (h : row = Str.empty ∨ (tl row).head? = some 35) : stepRow s row = some s := by
  unfold stepRow
  exact if_pos h
theorem stepRow_words {s : S} {row : Str} (h : ¬ (row = Str.empty ∨ (tl row).head? = some 35)) : stepRow s row = stepW s (wordsOf row) := by
  unfold stepRow stepW
  exact if_neg h
/-- the parts while the bags are turned to lists -/
def Turn (H' : Hp) (q a0 a1 a2 a3 a4 : Addr) (ts gs : List Addr) (s : S) : Nat → Prop
  | 0 => H' q = some (.lst [.ref a0, .ref a1, .ref a2, .ref a3, .ref a4]) ∧ H' a2 = some (.lst (ts.map V.ref)) ∧ CellsAt cellD H' ts s.takes ∧ H' a3 = some (.lst (gs.map V.ref)) ∧ CellsAt cellD H' gs s.gives
  | 1 => ∃ D1 us, H' q = some (.lst [.ref a0, .ref a1, .ref D1, .ref a3, .ref a4]) ∧ H' D1 = some (.lst (us.map V.ref)) ∧ CellsAt cellI H' us (s.takes.map (vec s.bowls)) ∧ D1 ≠ q ∧ (∀ u ∈ us, u ≠ q) ∧ H' a3 = some (.lst (gs.map V.ref)) ∧ CellsAt cellD H' gs s.gives
  | _ => DueAt H' q s.bowls s.doors (s.takes.map (vec s.bowls)) (s.gives.map (vec s.bowls)) s.first
section
variable {P : Program} {w : World} {K : PySem.W.Frag} {mg : Str → Option Value} {base : Heap}
abbrev s_l_due : Stmt := topS 44
abbrev N_l_due : List Str := ["rows", "parts", "k", "row", "bag", "name"]
theorem sc_l_due : FnScope ["rows", "parts", "k", "row", "bag", "name"] ["rows"] (defScope s_l_due) := ⟨rfl, rfl, rfl, by decide +kernel, rfl, by decide +kernel, by decide +kernel⟩
abbrev compSc_l_due : Scope := { kind := .function, names := [(".0", .local), ("bag", .cell), ("parts", .cell)], isGenerator := false, isCoroutine := false }
def spDue (K : PySem.W.Frag) : Sp := fun vs H Q _ => ∃ (pr : Addr) (rows : List Str), vs = [.ref pr] ∧ H pr = some (.lst (rows.map V.str)) ∧ rows.length ≤ 1000 ∧ (∀ r ∈ rows, r.length ≤ 1000) ∧
  (∀ k, due rows = .error k → ∀ H' t p, Same H H' → H' t = some (.tup [.int (k : Nat), .ref p]) → Q (.ref t) H') ∧
  (∀ s, due rows = .ok s → ∀ H' t p, Same H H' → H' t = some (.tup [.int (-1), .ref p]) → DueAt H' p s.bowls s.doors (s.takes.map (vec s.bowls)) (s.gives.map (vec s.bowls)) s.first → Q (.ref t) H')
theorem ok_l_due {f f1 f2 f3 f4 : Addr} {fd fd1 fd2 fd3 fd4 : FuncData} (T : Txt K mg) (L_l_count_of : Lk K mg "_law_count_of" s_l_count_of f1 fd1 ["word"]) (L_l_named : Lk K mg "_law_named" s_l_named f2 fd2 ["word"]) (L_l_bag_of : Lk K mg "_law_bag_of" s_l_bag_of f3 fd3 ["words", "bowls"])
    (L_l_taken : Lk K mg "_law_taken" s_l_taken f4 fd4 ["words", "parts"]) (L_l_due : Lk K mg "_law_due" s_l_due f fd ["rows"]) : FnOk P w K mg base CX0 4 f fd ["rows"] (spDue K) := by
  have G_l_taken : FnOk P w K mg base CX0 3 f4 fd4 ["words", "parts"] spTaken := ok_l_taken T L_l_count_of L_l_named L_l_bag_of L_l_taken
  refine L_l_due.fn.ok sc_l_due (fun vs H Q E h => ?_) (fun cdv A outer s H vs Q E hr h => ?_)
  · obtain ⟨pr, rows, rfl, _⟩ := h
    rfl
  · obtain ⟨pr, rows, rfl, hpr, hl, hrl, kE, kO⟩ := h
    have hu := hu_of hr
    refine ⟨_, (pss_cons (ps_set (i := 1) sc_l_due.nd rfl (Or.inr rfl) (pe_lst (pa_cons (pe_lst pa_nil) (pa_cons (pe_lst pa_nil) (pa_cons (pe_lst pa_nil) (pa_cons (pe_lst pa_nil) (pa_cons (pe_lst pa_nil) pa_nil)))))))
      (pss_cons (ps_for PassesOwn.never rfl (pi_range1 (by rfl) T.range (pa_cons (pe_callB call_len_seq (by rfl) T.len PySem.boot_len (pa_cons (pv 0) pa_nil)) pa_nil)) (pg_name (i := 2) sc_l_due.nd rfl (Or.inl rfl))
      (pss_cons (ps_set (i := 3) sc_l_due.nd rfl (Or.inl rfl) (pe_ix ix_list (pv 0) (pv 2) (fun _ _ => rfl)))
      (pss_one (ps_if (PW.pt (pw_and (pt_cmpR op_ne (pv 3) pe_str (nomark _)) (pw_and (pt_cmpR op_ne (pe_ix ix_str (pv 3) pe_int (fun _ _ => rfl)) pe_str (nomark _)) (pw_and1 (pt_not (pt_val (pe_call G_l_taken (hr.mono (by decide)) (by rfl) L_l_taken.g L_l_taken.fn.kp L_l_taken.b .nil pass0 (pa_cons (pe_split (pv 3) pe_str) (pa_cons (pv 1) pa_nil))))))))) (pss_one (ps_ret (pe_tup (pa_cons (pe_op op_add (pv 2) pe_int) (pa_cons (pe_lst pa_nil) pa_nil))))) pss_nil))))
      (pss_cons (ps_if (pt_cmpR (op_eqS hr.units) (pe_ix ix_list (pv 1) pe_int (fun _ _ => rfl)) (pe_lst pa_nil) (nomark _)) (pss_one (ps_ret (pe_tup (pa_cons pe_int (pa_cons (pe_lst pa_nil) pa_nil))))) pss_nil)
      (pss_cons (ps_for PassesOwn.never rfl (pi_list (pe_lst (pa_cons pe_int (pa_cons pe_int pa_nil)))) (pg_name (i := 2) sc_l_due.nd rfl (Or.inl rfl))
      (pss_one (ps_asg (pe_lc (own := [(("bag" : Str), 4)]) (g := gName 4) rfl sc_l_due.nd (pi_list (pe_ix ix_list (pv 1) (pv 2) (fun _ _ => rfl))) (blkOk_by (N := N_l_due) (sc := defScope s_l_due) (by decide +kernel)) (fun _ _ _ _ _ => pg_name (i := 4) sc_l_due.nd rfl (Or.inr rfl)) (fun _ _ _ _ _ => pts_nil) (fun _ _ _ _ _ => (pe_lc (own := [(("name" : Str), 5)]) (g := gName 5) rfl sc_l_due.nd (pi_list_K (K := K) rfl (pe_ix (ix_list_K (K := K) rfl) (pv 1) pe_int (fun _ _ => rfl))) (blkOk_by (N := N_l_due) (sc := compSc_l_due) (by decide +kernel)) (fun _ _ _ _ _ => pg_name (i := 5) sc_l_due.nd rfl (Or.inl rfl)) (fun _ _ _ _ _ => pts_nil) (fun _ _ _ _ _ => (pe_dget2 hu (pv 4) (pv 5) pe_int ⟨rfl, rfl, rfl, rfl⟩))))) (pg_sub (pv 1) (pv 2) set_list))))
      (pss_one (ps_ret (pe_tup (pa_cons (pe_un un_neg pe_int) (pa_cons (pv 1) pa_nil))))))))), ?_⟩
    -- parts = [[], [], [], [], []]
    refine ⟨Nat.zero_le _, fun a0 n0 => ⟨Nat.zero_le _, fun a1 n1 => ⟨Nat.zero_le _, fun a2 n2 => ⟨Nat.zero_le _, fun a3 n3 => ⟨Nat.zero_le _, fun a4 n4 => ⟨small_of (by show 5 ≤ _; omega), fun q nq => ?_⟩⟩⟩⟩⟩⟩
    have A0 := At5.five (cell := cellD) n0 n1 n2 n3 n4 nq
    generalize upd (upd (upd (upd (upd (upd H a0 (.lst [])) a1 (.lst [])) a2 (.lst [])) a3 (.lst [])) a4 (.lst [])) q (.lst [.ref a0, .ref a1, .ref a2, .ref a3, .ref a4]) = Ha at A0 ⊢
    have hpr1 := A0.same _ _ hpr
    refine ⟨_, rfl, pr, _, rfl, .inl (SqL.of hpr1), _, rfl, by rw [List.length_map]; omega, by rw [List.length_map]; omega, ?_⟩
    rw [List.length_map, Int.toNat_natCast]
    refine for_range (lo := 0) (n := rows.length) (fun i σ H' => ∃ s v2 v3, σ = [some (.ref pr), some (.ref q), v2, v3, none, none] ∧ runR S0 (rows.take i) = some s ∧ PartsAt H H' q s) ⟨S0, none, none, rfl, rfl, a0, a1, a2, a3, a4, [], [], A0⟩ ?_ ?_
    · rintro i σ H1 hi ⟨st, v2, v3, rfl, hR, hP⟩
      have g := List.getElem?_eq_getElem hi
      generalize rows[i] = row at g
      have rl := hrl row (List.mem_of_getElem? g)
      have hsz : row.length + 2 ≤ sizeLine := small_of (by omega)
      have skip : stepRow st row = some st → ∃ s v2 v3, [some (.ref pr), some (.ref q), some (.int (0 + (i : Int))), some (.str row), none, none] = [some (V.ref pr), some (.ref q), v2, v3, none, none] ∧ runR S0 (rows.take (i + 1)) = some s ∧ PartsAt H H1 q s := fun z => ⟨st, _, _, rfl, by rw [take_more g, runR_snoc hR]; exact z, hP⟩
      -- row = rows[k]
      refine ⟨_, rfl, _, rfl, pr, _, _, _, rfl, rfl, SqL.of (hP.same0 _ _ hpr), at_of (by omega) (str_at g), ?_⟩
      refine ⟨_, rfl, rfl, _, rfl, ?_⟩
      by_cases h1 : row = Str.empty
      case pos =>
        rw [decide_eq_true (show V.str row = V.str ("" : Str) by rw [h1, empty_eq])]
        refine iteF (iteF ?_)
        exact skip (stepRow_take (.inl h1))
      rw [decide_eq_false (show ¬ V.str row = V.str ("" : Str) from fun z => h1 ((vstr_inj z).trans empty_eq))]
      refine iteT ?_
      obtain ⟨c, r, e⟩ := head_ne h1
      refine ⟨_, rfl, _, _, _, rfl, rfl, by omega, at0 e, rfl, _, rfl, ?_⟩
      by_cases h2 : c = 35
      case pos =>
        rw [decide_eq_true (sign_hash.mpr h2)]
        refine iteF (iteF ?_)
        exact skip (stepRow_take (.inr (by rw [e, h2]; rfl)))
      rw [decide_eq_false fun z => h2 (sign_hash.mp z)]
      refine iteT ?_
      have es : stepRow st row = stepW st (wordsOf row) := stepRow_words (by
        rintro (z | z)
        · exact h1 z
        · rw [e] at z
          exact h2 (Option.some.inj z))
      -- _law_taken(row.split(" "), parts)
      refine ⟨_, rfl, ⟨_, rfl⟩, row, _, rfl, rfl, by decide +kernel, small_of (by omega), fun pw npw => ?_⟩
      have nH : H pw = none := hP.same0.free npw
      have s0 : Same H (upd H pw (.lst ((wordsOf row).map V.str))) := same_upd nH
      obtain ⟨w1, w2, w3⟩ := words_facts row
      refine ⟨_, rfl, upd H pw (.lst ((wordsOf row).map V.str)), q, pw, wordsOf row, st, rfl, hP.rebase npw, WF_run WF0 hR, upd_same, w1, by omega, fun z hz => by have := w3 z hz; rw [sizeLine_eq]; omega, fun hN H3 s3 => ⟨_, rfl, ?_⟩, fun s' hs H3 hP3 => ⟨_, rfl, ?_⟩⟩
      · refine iteT ?_
        refine ⟨_, rfl, _, _, rfl, rfl, Nat.zero_le _, fun p np => ⟨small_of (by show 2 ≤ _; omega), fun t nt => ?_⟩⟩
        refine kE (i + 1) (due_bad hR g (es.trans hN)) _ t p ((s0.trans s3).trans ((same_upd np).trans (same_upd nt))) ?_
        rw [upd_same, show (((i + 1 : Nat) : Int)) = 0 + (i : Int) + 1 by omega]
      · refine iteF ?_
        exact ⟨s', _, _, rfl, by rw [take_more g, runR_snoc hR]; exact es.trans hs, hP3.down s0⟩
    · rintro σ H1 ⟨st, v2, v3, rfl, hR, ⟨b0, b1, b2, b3, b4, ts, gs, A5⟩⟩
      rw [List.take_length] at hR
      have W := WF_run WF0 hR
      have b6 := W.b6
      have d8 := W.d8
      have tl8 := W.tlen
      have gl8 := W.glen
      have tt8 : ts.length ≤ 8 := by rw [A5.ct.1]; omega
      have gg8 : gs.length ≤ 8 := by rw [A5.cg.1]; omega
      -- if parts[0] == []
      refine ⟨_, rfl, q, _, _, _, rfl, rfl, SqL.of A5.hp, at_of (j := 0) rfl rfl, Nat.zero_le _, fun p1 np1 => ?_⟩
      have s1 := same_upd (o := .lst []) np1
      refine ⟨b0, p1, st.bowls, [], rfl, rfl, SqL.of (s1 _ _ A5.h0), SqL.of upd_same, _, rfl, ?_⟩
      have A6 := A5.more s1
      refine ite2 (fun h1 => ?_) (fun h1 => ?_)
      · have h1 := of_decide_eq_true h1
        refine ⟨Nat.zero_le _, fun p np => ⟨small_of (by show 2 ≤ _; omega), fun t nt => ?_⟩⟩
        exact kE 0 (due_zero hR h1) _ t p (A6.same.trans ((same_upd np).trans (same_upd nt))) upd_same
      have hb : st.bowls ≠ [] := fun z => h1 (decide_eq_true z)
      generalize upd H1 p1 (.lst []) = H2 at A6 ⊢
      -- for k in [2, 3]
      refine ⟨small_of (by show 2 ≤ _; omega), fun L nL => ?_⟩
      have A7 := A6.more (same_upd (o := .lst [V.int 2, .int 3]) nL)
      have hqL : q ≠ L := ne_of_none A6.hp nL
      have eL : upd H2 L (.lst [V.int 2, .int 3]) L = some (.lst [V.int 2, .int 3]) := upd_same
      generalize upd H2 L (.lst [V.int 2, .int 3]) = H3 at A7 eL ⊢
      have D := dis_of A7.nd
      have fq := A7.fresh q (by simp)
      refine ⟨L, rfl, ⟨_, SqL.of eL⟩, for_list (K := K) (a := L) (xs := [V.int 2, .int 3]) (fun i σ H' => (∃ v2 v3, σ = [some (.ref pr), some (.ref q), v2, v3, none, none]) ∧ Same H H' ∧ H' b0 = some (.lst (st.bowls.map V.str)) ∧ H' b1 = some (.lst (st.doors.map V.str)) ∧ H' b4 = some (.lst (st.first.map V.int)) ∧ H' L = some (.lst [V.int 2, .int 3]) ∧ Turn H' q b0 b1 b2 b3 b4 ts gs st i)
        ⟨⟨_, _, rfl⟩, A7.same, A7.h0, A7.h1, A7.h4, eL, A7.hp, A7.h2, A7.ct, A7.h3, A7.cg⟩ (fun i σ H' _ z => SqL.of z.2.2.2.2.2.1) ?_ ?_⟩
      · rintro i x σ H4 hx ⟨⟨v2, v3, rfl⟩, s4, k0, k1, k4, kL, hT⟩
        match i, hx, hT with
        | 0, hx, hT =>
          obtain rfl := Option.some.inj hx
          obtain ⟨hq, h2, ct, h3, cg⟩ := hT
          dsimp only [gName, tSeq, tAsg, tNext]
          refine due_lc (a := b2) (q := q) (fun R hR => ⟨_, rfl, _, rfl, q, _, _, _, rfl, rfl, SqL.of hq, at_of (j := 2) rfl rfl, hR⟩) hq rfl k0 h2 ct (by omega) (by omega) fun D1 us H5 s5 nD1 hD1 cu fu => ?_
          refine ⟨_, rfl, _, rfl, q, _, _, _, rfl, rfl, s5 _ _ hq, ixN_lt (j := 2) (by show 2 < 5; decide), ?_⟩
          have old : ∀ {b : Addr} {u w : HO}, b ≠ q → H4 b = some u → upd H5 q w b = some u := fun {b u w} z e => by
            rw [upd_ne z]
            exact s5 _ _ e
          refine ⟨⟨_, _, rfl⟩, same_put (s4.trans s5) fq, old D.p0.symm k0, old D.p1.symm k1, old D.p4.symm k4, old hqL.symm kL, D1, us, upd_same, ?_, ?_, (ne_of_none hq nD1).symm, fun u hu => (ne_of_none hq (fu u hu)).symm, old D.p3.symm h3, ?_⟩
          · rw [upd_ne (ne_of_none hq nD1).symm]
            exact hD1
          · exact cu.mono fun u hu o e => by
              rw [upd_ne (ne_of_none hq (fu u hu)).symm]
              exact e
          · exact cg.mono fun g hg o e => old (D.c g (List.mem_append_right _ hg)).1 e
        | 1, hx, hT =>
          obtain rfl := Option.some.inj hx
          obtain ⟨D1, us, hq, hD1, cu, nq1, nu, h3, cg⟩ := hT
          dsimp only [gName, tSeq, tAsg, tNext]
          refine due_lc (a := b3) (q := q) (fun R hR => ⟨_, rfl, _, rfl, q, _, _, _, rfl, rfl, SqL.of hq, at_of (j := 3) rfl rfl, hR⟩) hq rfl k0 h3 cg (by omega) (by omega) fun D2 vs H5 s5 nD2 hD2 cv fv => ?_
          refine ⟨_, rfl, _, rfl, q, _, _, _, rfl, rfl, s5 _ _ hq, ixN_lt (j := 3) (by show 3 < 5; decide), ?_⟩
          have old : ∀ {b : Addr} {u w : HO}, b ≠ q → H4 b = some u → upd H5 q w b = some u := fun {b u w} z e => by
            rw [upd_ne z]
            exact s5 _ _ e
          refine ⟨⟨_, _, rfl⟩, same_put (s4.trans s5) fq, old D.p0.symm k0, old D.p1.symm k1, old D.p4.symm k4, old hqL.symm kL, b0, b1, D1, D2, b4, us, vs, upd_same, old D.p0.symm k0, old D.p1.symm k1, old nq1 hD1, ?_, old D.p4.symm k4, ?_, ?_⟩
          · rw [upd_ne (ne_of_none hq nD2).symm]
            exact hD2
          · exact cu.mono fun u hu o e => old (nu u hu) e
          · exact cv.mono fun u hu o e => by
              rw [upd_ne (ne_of_none hq (fv u hu)).symm]
              exact e
        | i + 2, hx, hT => simp at hx
      · rintro σ H4 ⟨⟨v2, v3, rfl⟩, s4, _, _, _, _, hT⟩
        have hT : DueAt H4 q st.bowls st.doors (st.takes.map (vec st.bowls)) (st.gives.map (vec st.bowls)) st.first := hT
        refine ⟨_, rfl, _, rfl, small_of (by show 2 ≤ _; omega), fun t nt => ?_⟩
        exact kO st (due_ok hR hb) _ t q (s4.trans (same_upd nt)) upd_same (hT.same (same_upd nt))
end
end BH

set_option Elab.async false
set_option linter.all false
set_option maxRecDepth 100000
set_option maxHeartbeats 4000000
namespace BH
open PySem TL L2 PyProof.Rows
/-- a def stands in the text and in the module -/
def Lx (K : PySem.W.Frag) (mg : Str → Option Value) (x : Str) (st : Stmt) (ps : List Str) : Prop := ∃ f fd, Lk K mg x st f fd ps
/-- all that the walk of law asks of the module -/
structure Top (K : PySem.W.Frag) (mg : Str → Option Value) : Prop where
  txt : Txt K mg
  good_name : Lx K mg "good_name" s_good_name ["name"]
  look_at_names : Lx K mg "look_at_names" s_look_at_names ["names", "fewest", "most"]
  look_at_bag : Lx K mg "look_at_bag" s_look_at_bag ["beads", "width"]
  look_at_bags : Lx K mg "look_at_bags" s_look_at_bags ["bags", "many", "width"]
  net : ∃ C f fd, CTxt K C ∧ NIs K C ∧ Fun K "__init__" "Net.__init__" s_Net f fd ∧ Mk K C f ∧ Binds K fd ["self", "bowls", "doors", "takes", "gives", "first"] [] ∧ mg "Net" = some (.ref C)
  draft : ∃ C f fd, CTxt K C ∧ Fun K "__init__" "Draft.__init__" s_Draft f fd ∧ Mk K C f ∧ Binds K fd ["self"] [] ∧ mg "Draft" = some (.ref C)
  bad : ∃ C f fd, BTxt K mg C f fd
  count_of : Lx K mg "count_of" s_count_of ["word"]
  part_of : Lx K mg "part_of" s_part_of ["words", "bowls"]
  bowl_taken : Lx K mg "bowl_taken" s_bowl_taken ["draft", "words"]
  door_taken : Lx K mg "door_taken" s_door_taken ["draft", "words"]
  row_taken : Lx K mg "row_taken" s_row_taken ["draft", "row"]
  widened : Lx K mg "widened" s_widened ["bag", "width"]
  read_net : Lx K mg "read_net" s_read_net ["text"]
  part_text : Lx K mg "part_text" s_part_text ["bag", "bowls"]
  net_text : Lx K mg "net_text" s_net_text ["net"]
  l_mixed : Lx K mg "_law_mixed" s_l_mixed ["cell", "k"]
  l_whole : Lx K mg "_law_whole" s_l_whole ["found"]
  l_texts : Lx K mg "_law_texts" s_l_texts ["found", "due"]
  l_numbers : Lx K mg "_law_numbers" s_l_numbers ["found", "due"]
  l_rows : Lx K mg "_law_rows" s_l_rows ["found", "due"]
  l_as_due : Lx K mg "_law_as_due" s_l_as_due ["net", "parts"]
  l_name_of : Lx K mg "_law_name_of" s_l_name_of ["cell", "many"]
  l_part_of : Lx K mg "_law_part_of" s_l_part_of ["cell", "bowls"]
  l_spoilt : Lx K mg "_law_spoilt" s_l_spoilt ["row", "cell"]
  l_row_by : Lx K mg "_law_row_by" s_l_row_by ["cell", "bowls", "doors"]
  l_mixed_rows : Lx K mg "_law_mixed_rows" s_l_mixed_rows ["cells"]
  l_count_of : Lx K mg "_law_count_of" s_l_count_of ["word"]
  l_named : Lx K mg "_law_named" s_l_named ["word"]
  l_bag_of : Lx K mg "_law_bag_of" s_l_bag_of ["words", "bowls"]
  l_taken : Lx K mg "_law_taken" s_l_taken ["words", "parts"]
  l_due : Lx K mg "_law_due" s_l_due ["rows"]
/-- "\n".join(rows), rows in slot 1 -/
def tJoinN (K : PySem.W.Frag) : TE := tM1 (fun x xs H Q => ∃ a p, ∃ ys : List Str, x = .str a ∧ xs = [.ref p] ∧ (SqL K H p (ys.map V.str) ∨ SqT K H p (ys.map V.str)) ∧ (ys.map (·.length)).sum + ys.length * a.length ≤ 16777216 ∧ Q (.str (Txt.join a ys)) H) (tC (.str ("\n" : Str))) (tVar 1)
theorem due_text {rows : List Str} (h : ∀ r ∈ rows, 10 ∉ tl r) : due (Txt.split (Txt.join ("\n" : Str) rows) ("\n" : Str)) = due rows := by
  by_cases e : rows = []
  · rw [e, rows_empty, due_one, due_empty]
  · rw [rows_back e h]
theorem join_short {rows : List Str} {n : Nat} (hl : rows.length ≤ n) (h : ∀ r ∈ rows, r.length ≤ 1000) : (Txt.join ("\n" : Str) rows).length ≤ n * 1001 := by
  rw [len_tl, join_eq, tl_join, tl_nl]
  have q := joinL_len (Z := [10]) (m := 1000) (l := rows.map tl) fun p hp => by
    obtain ⟨w, hw, rfl⟩ := List.mem_map.mp hp
    rw [← len_tl]
    exact h w hw
  rw [List.length_map] at q
  have e : (1000 + ([10] : List Nat).length) = 1001 := rfl
  rw [e] at q
  exact Nat.le_trans q (Nat.mul_le_mul_right _ hl)
theorem cut90 {ns : List Int} (h : ns.length ≤ 63) : cutV (ns.map V.int) none (some 90) = ns.map V.int := by
  unfold cutV
  rw [HT.sIx_none, show (some (90 : Int)) = some ((90 : Nat) : Int) from rfl, HT.sIx_nat, List.drop_zero, List.take_of_length_le]
  rw [List.length_map]
  omega
section
variable {P : Program} {w : World} {K : PySem.W.Frag} {mg : Str → Option Value} {base : Heap}
def spLaw (K : PySem.W.Frag) : Sp := fun vs H Q _ => ∃ (a : Addr) (ns : List Int), vs = [.ref a] ∧ SqL K H a (ns.map V.int) ∧ ns.length ≤ 63 ∧ ∀ H', Q (.bl true) H'
abbrev s_law : Stmt := topS 45
abbrev N_law : List Str := ["script", "rows", "due", "row", "net", "e"]
theorem sc_law : FnScope ["script", "rows", "due", "row", "net", "e"] ["script"] (defScope s_law) := ⟨rfl, rfl, rfl, by decide +kernel, rfl, by decide +kernel, by decide +kernel⟩
theorem ok_law {f : Addr} {fd : FuncData} (F : Fun K "law" "law" s_law f fd) (M : Top K mg) : FnOk P w K mg base CX0 7 f fd ["script"] (spLaw K) := by
  have T := M.txt
  obtain ⟨_, _, L_good_name⟩ := M.good_name
  obtain ⟨_, _, L_look_at_names⟩ := M.look_at_names
  obtain ⟨_, _, L_look_at_bag⟩ := M.look_at_bag
  obtain ⟨_, _, L_look_at_bags⟩ := M.look_at_bags
  obtain ⟨CN, _, _, TN, IS, FN, M_Net, b_Net, g_Net⟩ := M.net
  obtain ⟨CD, _, _, TD, FD, M_Draft, b_Draft, g_Draft⟩ := M.draft
  obtain ⟨CB, _, _, BT⟩ := M.bad
  obtain ⟨_, _, L_count_of⟩ := M.count_of
  obtain ⟨_, _, L_part_of⟩ := M.part_of
  obtain ⟨_, _, L_bowl_taken⟩ := M.bowl_taken
  obtain ⟨_, _, L_door_taken⟩ := M.door_taken
  obtain ⟨_, _, L_row_taken⟩ := M.row_taken
  obtain ⟨_, _, L_widened⟩ := M.widened
  obtain ⟨fR, fdR, L_read_net⟩ := M.read_net
  obtain ⟨_, _, L_part_text⟩ := M.part_text
  obtain ⟨fX, fdX, L_net_text⟩ := M.net_text
  obtain ⟨_, _, L_l_mixed⟩ := M.l_mixed
  obtain ⟨fW, fdW, L_l_whole⟩ := M.l_whole
  obtain ⟨_, _, L_l_texts⟩ := M.l_texts
  obtain ⟨_, _, L_l_numbers⟩ := M.l_numbers
  obtain ⟨_, _, L_l_rows⟩ := M.l_rows
  obtain ⟨fA, fdA, L_l_as_due⟩ := M.l_as_due
  obtain ⟨_, _, L_l_name_of⟩ := M.l_name_of
  obtain ⟨_, _, L_l_part_of⟩ := M.l_part_of
  obtain ⟨_, _, L_l_spoilt⟩ := M.l_spoilt
  obtain ⟨_, _, L_l_row_by⟩ := M.l_row_by
  obtain ⟨fM, fdM, L_l_mixed_rows⟩ := M.l_mixed_rows
  obtain ⟨_, _, L_l_count_of⟩ := M.l_count_of
  obtain ⟨_, _, L_l_named⟩ := M.l_named
  obtain ⟨_, _, L_l_bag_of⟩ := M.l_bag_of
  obtain ⟨_, _, L_l_taken⟩ := M.l_taken
  obtain ⟨fE, fdE, L_l_due⟩ := M.l_due
  have G_read_net : FnOk P w K mg base (L2.CX P w) 6 fR fdR ["text"] (spRead CN CB) := ok_read_net T TN TD BT L_count_of L_good_name L_part_of L_bowl_taken L_door_taken L_row_taken L_widened L_look_at_names L_look_at_bag L_look_at_bags FN M_Net b_Net g_Net FD M_Draft b_Draft g_Draft L_read_net
  have G_net_text : FnOk P w K mg base CX0 2 fX fdX ["net"] (spNText CN) := ok_net_text T TN L_part_text L_net_text
  have G_l_whole : FnOk P w K mg base CX0 1 fW fdW ["found"] spWhole := ok_l_whole T L_l_whole
  have G_l_as_due : FnOk P w K mg base CX0 4 fA fdA ["net", "parts"] (spAsDue CN) := ok_l_as_due T TN IS g_Net L_l_whole L_l_numbers L_l_rows L_l_texts L_l_as_due
  have G_l_mixed_rows : FnOk P w K mg base CX0 3 fM fdM ["cells"] (spMR K) := ok_l_mixed_rows T L_l_mixed L_l_name_of L_l_part_of L_l_spoilt L_l_row_by L_l_mixed_rows
  have G_l_due : FnOk P w K mg base CX0 4 fE fdE ["rows"] (spDue K) := ok_l_due T L_l_count_of L_l_named L_l_bag_of L_l_taken L_l_due
  refine F.ok sc_law (fun vs H Q E h => ?_) (fun cdv A outer s H vs Q E hr h => ?_)
  · obtain ⟨a, ns, rfl, _⟩ := h
    rfl
  · obtain ⟨a, ns, rfl, ha, hl, k⟩ := h
    refine ⟨_, (pss_cons (ps_set (i := 1) sc_law.nd rfl (Or.inl rfl) (pe_call G_l_mixed_rows (hr.mono (by decide)) (by rfl) L_l_mixed_rows.g L_l_mixed_rows.fn.kp L_l_mixed_rows.b .nil pass0 (pa_cons (pe_slice sl_list (pv 0) po_none (po_some pe_int)) pa_nil)))
      (pss_cons (ps_set (i := 2) sc_law.nd rfl (Or.inl rfl) (pe_call G_l_due (hr.mono (by decide)) (by rfl) L_l_due.g L_l_due.fn.kp L_l_due.b .nil pass0 (pa_cons (pv 1) pa_nil)))
      (pss_cons (ps_set (i := 3) sc_law.nd rfl (Or.inl rfl) (pe_un un_neg pe_int))
      (pss_cons (ps_set (i := 4) sc_law.nd rfl (Or.inl rfl) pe_non)
      (pss_cons (ps_try_as (i := 5) (tb := fun W => tAsg (tCallS (spRead CN CB) (WE W) (tCons (tJoinN K) tNil)) (gName 4)) (ts := fun a cls d => tAsg (tXf a cls d CB "row" (tVar 5)) (gName 3)) (Wout := fun _ _ _ _ => False)
        rfl rfl sc_law.nd rfl rfl ⟨rfl, by decide, Or.inl BT.gC⟩ takes0
        (fun W pn xe tk _ => pss_one (ps_set (i := 4) sc_law.nd rfl (Or.inl rfl) (by exact (pe_callS G_read_net (hr.mono (by decide)) rfl L_read_net.g L_read_net.fn.kp L_read_net.b (fun σ => passAt tk σ) (by exact (pa_cons (pe_join pe_str (pv 1)) pa_nil))))))
        (fun a oe cls d pn hz hf => pss_one (ps_set (i := 3) sc_law.nd rfl (Or.inl rfl) (by exact (pe_xf BT.xf BT.nr hz hf (pv 5))))))
      (pss_cons (ps_if (PW.pt (pw_or (pt_not (pt_val (pe_call G_l_whole (hr.mono (by decide)) (by rfl) L_l_whole.g L_l_whole.fn.kp L_l_whole.b .nil pass0 (pa_cons (pv 3) pa_nil)))) (pw_or1 (pt_cmpR op_ne (pv 3) (pe_ix ix_tup (pv 2) pe_int (fun _ _ => rfl)) (nomark _))))) (pss_one (ps_ret pe_bl)) pss_nil)
      (pss_cons (ps_if (pt_cmp (pc_isN (pv 4))) (pss_one (ps_ret (pe_cmpR op_ge (pv 3) pe_int (nomark _)))) pss_nil)
      (pss_one (ps_ret (pe_and (pe_call G_l_as_due (hr.mono (by decide)) (by rfl) L_l_as_due.g L_l_as_due.fn.kp L_l_as_due.b .nil pass0 (pa_cons (pv 4) (pa_cons (pe_ix ix_tup (pv 2) pe_int (fun _ _ => rfl)) pa_nil))) (pe_one (pe_call G_l_as_due (hr.mono (by decide)) (by rfl) L_l_as_due.g L_l_as_due.fn.kp L_l_as_due.b .nil pass0 (pa_cons (pe_call G_read_net (hr.mono (by decide)) (by rfl) L_read_net.g L_read_net.fn.kp L_read_net.b .nil passL (pa_cons (pe_call G_net_text (hr.mono (by decide)) (by rfl) L_net_text.g L_net_text.fn.kp L_net_text.b .nil pass0 (pa_cons (pv 4) pa_nil)) pa_nil)) (pa_cons (pe_ix ix_tup (pv 2) pe_int (fun _ _ => rfl)) pa_nil)))))))))))))), ?_⟩
    -- rows = _law_mixed_rows(script[:90])
    refine ⟨_, rfl, _, rfl, a, _, rfl, ha, fun p np => ?_⟩
    rw [cut90 hl]
    refine ⟨p, ns, rfl, SqL.of upd_same, hl, fun rows pr H1 s1 _ hr1 hl63 hrows => ?_⟩
    have hr10 : ∀ r ∈ rows, 10 ∉ tl r := fun r hr => (hrows r hr).1
    have hrl : ∀ r ∈ rows, r.length ≤ 1000 := fun r hr => (hrows r hr).2
    have htx := join_short hl63 hrl
    have hdt := due_text hr10
    have hsum : (rows.map (·.length)).sum + rows.length * ("\n" : Str).length ≤ 16777216 := by
      have q := sum_le hrl
      have e1 : ("\n" : Str).length = 1 := by decide +kernel
      rw [e1]
      have q2 := Nat.mul_le_mul_right 1000 hl63
      omega
    -- due = _law_due(rows)
    refine ⟨_, rfl, pr, rows, rfl, hr1, by omega, hrl, fun n hn H2 t p2 s2 ht => ?_, fun st hs H2 t p2 s2 ht hD => ?_⟩
    · -- an error is due
      refine ⟨_, rfl, ?_⟩
      refine ⟨⟨_, rfl⟩, _, rfl, _, pr, rows, rfl, rfl, .inl (SqL.of (s2 _ _ hr1)), hsum, ?_⟩
      refine ⟨_, rfl, by omega, fun n' hn' H3 d fs s3 hd hlk => ?_, fun st' hs' => ?_⟩
      · rw [hdt, hn] at hn'
        cases hn'
        refine ⟨true, BT.te, fun _ a0 _ => ?_, fun q => Bool.noConfusion q⟩
        refine ⟨_, rfl, rfl, rfl, d, fs, _, rfl, hd, hlk, ?_⟩
        refine ⟨_, rfl, _, rfl, _, rfl, ?_⟩
        refine iteF ?_
        refine ⟨_, rfl, _, rfl, t, _, _, _, rfl, rfl, SqT.of (s3 _ _ ht), at_of (j := 0) rfl rfl, rfl, _, rfl, ?_⟩
        refine iteNS rfl ?_
        refine ⟨_, rfl, _, rfl, ?_⟩
        refine iteT ?_
        refine ⟨_, rfl, _, _, rfl, rfl, ?_⟩
        show Q (V.bl (decide ((0 : Int) ≤ (n : Int)))) H3
        rw [decide_eq_true (show (0 : Int) ≤ (n : Int) from Int.natCast_nonneg n)]
        exact k H3
      · rw [hdt, hn] at hs'
        cases hs'
    · -- a net is due
      have WN := due_wf WF0 hs
      have W := WN.1
      have hb := WN.2
      have ok := netOk_of W hb
      refine ⟨_, rfl, ?_⟩
      refine ⟨⟨_, rfl⟩, _, rfl, _, pr, rows, rfl, rfl, .inl (SqL.of (s2 _ _ hr1)), hsum, ?_⟩
      refine ⟨_, rfl, by omega, fun n' hn' => ?_, fun st' hs' H3 p3 s3 hN => ?_⟩
      · rw [hdt, hs] at hn'
        cases hn'
      · rw [hdt, hs] at hs'
        cases hs'
        have ht3 := s3 _ _ ht
        have hD3 := hD.same s3
        refine ⟨_, rfl, _, rfl, _, rfl, ?_⟩
        refine iteF ?_
        refine ⟨_, rfl, _, rfl, t, _, _, _, rfl, rfl, SqT.of ht3, at_of (j := 0) rfl rfl, rfl, _, rfl, ?_⟩
        refine iteNS rfl ?_
        refine ⟨_, rfl, _, rfl, ?_⟩
        refine iteF ?_
        -- _law_as_due(net, due[1])
        refine ⟨_, rfl, _, rfl, t, _, _, _, rfl, rfl, SqT.of ht3, at_of (j := 1) rfl rfl, p3, p2, _, _, _, _, _, rfl, hN, hD3, ok, _, rfl, ?_⟩
        refine iteT ?_
        -- _law_as_due(read_net(net_text(net)), due[1])
        obtain ⟨rl, rf⟩ := rowsOf_fine W
        have rf10 : ∀ r ∈ rowsOf st, 10 ∉ tl r := fun r hr => (rf r hr).1
        have rfl1 : ∀ r ∈ rowsOf st, r.length ≤ 1000 := fun r hr => (rf r hr).2
        have htx2 := join_short rl rfl1
        have hdt2 := due_text rf10
        obtain ⟨st2, e2, b1, b2, b3, b4, b5⟩ := due_back W hb
        refine ⟨_, rfl, p3, st, rfl, hN, W, fun H4 s4 => ?_⟩
        refine ⟨_, rfl, by omega, fun n' hn' => ?_, fun st' hs' H5 p5 s5 hN5 => ?_⟩
        · rw [hdt2, e2] at hn'
          cases hn'
        · rw [hdt2, e2] at hs'
          cases hs'
          rw [b3, b4, b5, b2, b1] at hN5
          have s35 := s4.trans s5
          exact ⟨_, rfl, t, _, _, _, rfl, rfl, SqT.of (s35 _ _ ht3), at_of (j := 1) rfl rfl, p5, p2, _, _, _, _, _, rfl, hN5, hD3.same s35, ok, k H5⟩
end
end BH

set_option Elab.async false
set_option linter.all false
set_option maxRecDepth 100000
set_option maxHeartbeats 4000000
namespace BH
open PySem TL L2 PyProof.Rows
/-! ### what the top has written -/
/-- an error of the class is what its clause names -/
theorem own_caught {K : PySem.W.Frag} {S : Addr} (up : PySem.W.subIn K (.ref S) (.type "BaseException") = some true) (cl : PySem.W.isClsIn K S = true) (ty : PySem.W.typeIn K (.ref S) = some (.type "type")) (refl : PySem.W.subIn K (.ref S) (.ref S) = some true) :
    PySem.W.exmOne K (.ref S) (.ref S) = some true := by
  have cl' : (PySem.W.clsIn K S).isSome = true := cl
  show (if (PySem.W.subIn K (.ref S) (.type "BaseException") == some true) = true then (if ((PySem.W.clsIn K S).isSome && PySem.W.typeIn K (.ref S) == some (.type "type")) = true then PySem.W.subIn K (.ref S) (.ref S) else none) else none) = some true
  rw [if_pos (by rw [up] <;> rfl), if_pos (by rw [cl', ty] <;> rfl)]
  exact refl
theorem lx_mk {K : PySem.W.Frag} {h : Heap} {mg : Str → Option Value} {x : Str} {st : Stmt} {ps : List Str} {f : Addr} {oc : Value} {od an : Option Addr} {sl : Array (Option Value)} {kV dc pm cd ct : Value} (X : K.In h) (G : h.Ns mainGlobals mg) (a : PySem.W.nsIn K mainGlobals x = some (some (.ref f)))
    (l : K.lookup f = some ⟨oc, od, .func (PySem.W.fnOf x x (defArgs st) (defBody st) (defScope st) .none kV dc pm an cd ct), sl⟩) (c : PySem.W.codeIn K cd x = true) (k : PySem.W.keepIn K (.ref f) = true)
    (hb : ∀ (kV doc pm : Value) (an : Option Addr) (cdv ct : Value) (us : List Value), us.length = ps.length → bindArgs (PySem.W.fnOf x x (defArgs st) (defBody st) (defScope st) .none kV doc pm an cdv ct) ⟨us, []⟩ = pure (ps.zip us)) : Lx K mg x st ps :=
  ⟨_, _, fun_mk l c k, PySem.W.mg_of X G a, (fun_mk l c k).binds hb⟩
theorem all_mk {l : PySem.W.OpenLaw} {w : World} {K : PySem.W.Frag} {h : Heap} {mg : Str → Option Value} {fa CN CD CB CH f0 f1 f2 f3 f4 f5 f6 f7 f8 f9 f10 f11 f12 f13 f14 f15 f16 f17 f18 f19 f20 f21 f22 f23 f24 f25 f26 f27 f28 f29 f30 f31 f32 : Addr} (X : K.In h) (G : h.Ns mainGlobals mg) (hfa : mg "law" = some (.ref fa))
    {od0 an0 od1 an1 od2 an2 od3 an3 od4 an4 od5 an5 od6 an6 od7 an7 od8 an8 od9 an9 od10 an10 od11 an11 od12 an12 od13 an13 od14 an14 od15 an15 od16 an16 od17 an17 od18 an18 od19 an19 od20 an20 od21 an21 od22 an22 od23 an23 od24 an24 od25 an25 od26 an26 od27 an27 od28 an28 od29 an29 od30 an30 od31 an31 od32 an32 : Option Addr} {sl0 sl1 sl2 sl3 sl4 sl5 sl6 sl7 sl8 sl9 sl10 sl11 sl12 sl13 sl14 sl15 sl16 sl17 sl18 sl19 sl20 sl21 sl22 sl23 sl24 sl25 sl26 sl27 sl28 sl29 sl30 sl31 sl32 : Array (Option Value)} {oc0 kV0 dc0 pm0 cd0 ct0 oc1 kV1 dc1 pm1 cd1 ct1 oc2 kV2 dc2 pm2 cd2 ct2 oc3 kV3 dc3 pm3 cd3 ct3 oc4 kV4 dc4 pm4 cd4 ct4 oc5 kV5 dc5 pm5 cd5 ct5 oc6 kV6 dc6 pm6 cd6 ct6 oc7 kV7 dc7 pm7 cd7 ct7 oc8 kV8 dc8 pm8 cd8 ct8 oc9 kV9 dc9 pm9 cd9 ct9 oc10 kV10 dc10 pm10 cd10 ct10 oc11 kV11 dc11 pm11 cd11 ct11 oc12 kV12 dc12 pm12 cd12 ct12 oc13 kV13 dc13 pm13 cd13 ct13 oc14 kV14 dc14 pm14 cd14 ct14 oc15 kV15 dc15 pm15 cd15 ct15 oc16 kV16 dc16 pm16 cd16 ct16 oc17 kV17 dc17 pm17 cd17 ct17 oc18 kV18 dc18 pm18 cd18 ct18 oc19 kV19 dc19 pm19 cd19 ct19 oc20 kV20 dc20 pm20 cd20 ct20 oc21 kV21 dc21 pm21 cd21 ct21 oc22 kV22 dc22 pm22 cd22 ct22 oc23 kV23 dc23 pm23 cd23 ct23 oc24 kV24 dc24 pm24 cd24 ct24 oc25 kV25 dc25 pm25 cd25 ct25 oc26 kV26 dc26 pm26 cd26 ct26 oc27 kV27 dc27 pm27 cd27 ct27 oc28 kV28 dc28 pm28 cd28 ct28 oc29 kV29 dc29 pm29 cd29 ct29 oc30 kV30 dc30 pm30 cd30 ct30 oc31 kV31 dc31 pm31 cd31 ct31 oc32 kV32 dc32 pm32 cd32 ct32 : Value}
    {nm qn : Str} {NB : Addr} {bs : List Value} {sn : List Str} {sub : List Value} {ab : Bool} {col : Option Bool} {dd : Option Addr} {m0 m1 m2 m3 m5 : Option Value} {t_mb t_md t_ms t_mc t_mf t_lt t_fg : Tok}
    (a0 : PySem.W.nsIn K mainGlobals "good_name" = some (some (.ref f0)))
    (l0 : K.lookup f0 = some ⟨oc0, od0, .func (PySem.W.fnOf "good_name" "good_name" (defArgs s_good_name) (defBody s_good_name) (defScope s_good_name) .none kV0 dc0 pm0 an0 cd0 ct0), sl0⟩)
    (c0 : PySem.W.codeIn K cd0 "good_name" = true)
    (k0 : PySem.W.keepIn K (.ref f0) = true)
    (a1 : PySem.W.nsIn K mainGlobals "look_at_names" = some (some (.ref f1)))
    (l1 : K.lookup f1 = some ⟨oc1, od1, .func (PySem.W.fnOf "look_at_names" "look_at_names" (defArgs s_look_at_names) (defBody s_look_at_names) (defScope s_look_at_names) .none kV1 dc1 pm1 an1 cd1 ct1), sl1⟩)
    (c1 : PySem.W.codeIn K cd1 "look_at_names" = true)
    (k1 : PySem.W.keepIn K (.ref f1) = true)
    (a2 : PySem.W.nsIn K mainGlobals "look_at_bag" = some (some (.ref f2)))
    (l2 : K.lookup f2 = some ⟨oc2, od2, .func (PySem.W.fnOf "look_at_bag" "look_at_bag" (defArgs s_look_at_bag) (defBody s_look_at_bag) (defScope s_look_at_bag) .none kV2 dc2 pm2 an2 cd2 ct2), sl2⟩)
    (c2 : PySem.W.codeIn K cd2 "look_at_bag" = true)
    (k2 : PySem.W.keepIn K (.ref f2) = true)
    (a3 : PySem.W.nsIn K mainGlobals "look_at_bags" = some (some (.ref f3)))
    (l3 : K.lookup f3 = some ⟨oc3, od3, .func (PySem.W.fnOf "look_at_bags" "look_at_bags" (defArgs s_look_at_bags) (defBody s_look_at_bags) (defScope s_look_at_bags) .none kV3 dc3 pm3 an3 cd3 ct3), sl3⟩)
    (c3 : PySem.W.codeIn K cd3 "look_at_bags" = true)
    (k3 : PySem.W.keepIn K (.ref f3) = true)
    (a4 : PySem.W.nsIn K mainGlobals "count_of" = some (some (.ref f4)))
    (l4 : K.lookup f4 = some ⟨oc4, od4, .func (PySem.W.fnOf "count_of" "count_of" (defArgs s_count_of) (defBody s_count_of) (defScope s_count_of) .none kV4 dc4 pm4 an4 cd4 ct4), sl4⟩)
    (c4 : PySem.W.codeIn K cd4 "count_of" = true)
    (k4 : PySem.W.keepIn K (.ref f4) = true)
    (a5 : PySem.W.nsIn K mainGlobals "part_of" = some (some (.ref f5)))
    (l5 : K.lookup f5 = some ⟨oc5, od5, .func (PySem.W.fnOf "part_of" "part_of" (defArgs s_part_of) (defBody s_part_of) (defScope s_part_of) .none kV5 dc5 pm5 an5 cd5 ct5), sl5⟩)
    (c5 : PySem.W.codeIn K cd5 "part_of" = true)
    (k5 : PySem.W.keepIn K (.ref f5) = true)
    (a6 : PySem.W.nsIn K mainGlobals "bowl_taken" = some (some (.ref f6)))
    (l6 : K.lookup f6 = some ⟨oc6, od6, .func (PySem.W.fnOf "bowl_taken" "bowl_taken" (defArgs s_bowl_taken) (defBody s_bowl_taken) (defScope s_bowl_taken) .none kV6 dc6 pm6 an6 cd6 ct6), sl6⟩)
    (c6 : PySem.W.codeIn K cd6 "bowl_taken" = true)
    (k6 : PySem.W.keepIn K (.ref f6) = true)
    (a7 : PySem.W.nsIn K mainGlobals "door_taken" = some (some (.ref f7)))
    (l7 : K.lookup f7 = some ⟨oc7, od7, .func (PySem.W.fnOf "door_taken" "door_taken" (defArgs s_door_taken) (defBody s_door_taken) (defScope s_door_taken) .none kV7 dc7 pm7 an7 cd7 ct7), sl7⟩)
    (c7 : PySem.W.codeIn K cd7 "door_taken" = true)
    (k7 : PySem.W.keepIn K (.ref f7) = true)
    (a8 : PySem.W.nsIn K mainGlobals "row_taken" = some (some (.ref f8)))
    (l8 : K.lookup f8 = some ⟨oc8, od8, .func (PySem.W.fnOf "row_taken" "row_taken" (defArgs s_row_taken) (defBody s_row_taken) (defScope s_row_taken) .none kV8 dc8 pm8 an8 cd8 ct8), sl8⟩)
    (c8 : PySem.W.codeIn K cd8 "row_taken" = true)
    (k8 : PySem.W.keepIn K (.ref f8) = true)
    (a9 : PySem.W.nsIn K mainGlobals "widened" = some (some (.ref f9)))
    (l9 : K.lookup f9 = some ⟨oc9, od9, .func (PySem.W.fnOf "widened" "widened" (defArgs s_widened) (defBody s_widened) (defScope s_widened) .none kV9 dc9 pm9 an9 cd9 ct9), sl9⟩)
    (c9 : PySem.W.codeIn K cd9 "widened" = true)
    (k9 : PySem.W.keepIn K (.ref f9) = true)
    (a10 : PySem.W.nsIn K mainGlobals "read_net" = some (some (.ref f10)))
    (l10 : K.lookup f10 = some ⟨oc10, od10, .func (PySem.W.fnOf "read_net" "read_net" (defArgs s_read_net) (defBody s_read_net) (defScope s_read_net) .none kV10 dc10 pm10 an10 cd10 ct10), sl10⟩)
    (c10 : PySem.W.codeIn K cd10 "read_net" = true)
    (k10 : PySem.W.keepIn K (.ref f10) = true)
    (a11 : PySem.W.nsIn K mainGlobals "part_text" = some (some (.ref f11)))
    (l11 : K.lookup f11 = some ⟨oc11, od11, .func (PySem.W.fnOf "part_text" "part_text" (defArgs s_part_text) (defBody s_part_text) (defScope s_part_text) .none kV11 dc11 pm11 an11 cd11 ct11), sl11⟩)
    (c11 : PySem.W.codeIn K cd11 "part_text" = true)
    (k11 : PySem.W.keepIn K (.ref f11) = true)
    (a12 : PySem.W.nsIn K mainGlobals "net_text" = some (some (.ref f12)))
    (l12 : K.lookup f12 = some ⟨oc12, od12, .func (PySem.W.fnOf "net_text" "net_text" (defArgs s_net_text) (defBody s_net_text) (defScope s_net_text) .none kV12 dc12 pm12 an12 cd12 ct12), sl12⟩)
    (c12 : PySem.W.codeIn K cd12 "net_text" = true)
    (k12 : PySem.W.keepIn K (.ref f12) = true)
    (a13 : PySem.W.nsIn K mainGlobals "_law_mixed" = some (some (.ref f13)))
    (l13 : K.lookup f13 = some ⟨oc13, od13, .func (PySem.W.fnOf "_law_mixed" "_law_mixed" (defArgs s_l_mixed) (defBody s_l_mixed) (defScope s_l_mixed) .none kV13 dc13 pm13 an13 cd13 ct13), sl13⟩)
    (c13 : PySem.W.codeIn K cd13 "_law_mixed" = true)
    (k13 : PySem.W.keepIn K (.ref f13) = true)
    (a14 : PySem.W.nsIn K mainGlobals "_law_whole" = some (some (.ref f14)))
    (l14 : K.lookup f14 = some ⟨oc14, od14, .func (PySem.W.fnOf "_law_whole" "_law_whole" (defArgs s_l_whole) (defBody s_l_whole) (defScope s_l_whole) .none kV14 dc14 pm14 an14 cd14 ct14), sl14⟩)
    (c14 : PySem.W.codeIn K cd14 "_law_whole" = true)
    (k14 : PySem.W.keepIn K (.ref f14) = true)
    (a15 : PySem.W.nsIn K mainGlobals "_law_texts" = some (some (.ref f15)))
    (l15 : K.lookup f15 = some ⟨oc15, od15, .func (PySem.W.fnOf "_law_texts" "_law_texts" (defArgs s_l_texts) (defBody s_l_texts) (defScope s_l_texts) .none kV15 dc15 pm15 an15 cd15 ct15), sl15⟩)
    (c15 : PySem.W.codeIn K cd15 "_law_texts" = true)
    (k15 : PySem.W.keepIn K (.ref f15) = true)
    (a16 : PySem.W.nsIn K mainGlobals "_law_numbers" = some (some (.ref f16)))
    (l16 : K.lookup f16 = some ⟨oc16, od16, .func (PySem.W.fnOf "_law_numbers" "_law_numbers" (defArgs s_l_numbers) (defBody s_l_numbers) (defScope s_l_numbers) .none kV16 dc16 pm16 an16 cd16 ct16), sl16⟩)
    (c16 : PySem.W.codeIn K cd16 "_law_numbers" = true)
    (k16 : PySem.W.keepIn K (.ref f16) = true)
    (a17 : PySem.W.nsIn K mainGlobals "_law_rows" = some (some (.ref f17)))
    (l17 : K.lookup f17 = some ⟨oc17, od17, .func (PySem.W.fnOf "_law_rows" "_law_rows" (defArgs s_l_rows) (defBody s_l_rows) (defScope s_l_rows) .none kV17 dc17 pm17 an17 cd17 ct17), sl17⟩)
    (c17 : PySem.W.codeIn K cd17 "_law_rows" = true)
    (k17 : PySem.W.keepIn K (.ref f17) = true)
    (a18 : PySem.W.nsIn K mainGlobals "_law_as_due" = some (some (.ref f18)))
    (l18 : K.lookup f18 = some ⟨oc18, od18, .func (PySem.W.fnOf "_law_as_due" "_law_as_due" (defArgs s_l_as_due) (defBody s_l_as_due) (defScope s_l_as_due) .none kV18 dc18 pm18 an18 cd18 ct18), sl18⟩)
    (c18 : PySem.W.codeIn K cd18 "_law_as_due" = true)
    (k18 : PySem.W.keepIn K (.ref f18) = true)
    (a19 : PySem.W.nsIn K mainGlobals "_law_name_of" = some (some (.ref f19)))
    (l19 : K.lookup f19 = some ⟨oc19, od19, .func (PySem.W.fnOf "_law_name_of" "_law_name_of" (defArgs s_l_name_of) (defBody s_l_name_of) (defScope s_l_name_of) .none kV19 dc19 pm19 an19 cd19 ct19), sl19⟩)
    (c19 : PySem.W.codeIn K cd19 "_law_name_of" = true)
    (k19 : PySem.W.keepIn K (.ref f19) = true)
    (a20 : PySem.W.nsIn K mainGlobals "_law_part_of" = some (some (.ref f20)))
    (l20 : K.lookup f20 = some ⟨oc20, od20, .func (PySem.W.fnOf "_law_part_of" "_law_part_of" (defArgs s_l_part_of) (defBody s_l_part_of) (defScope s_l_part_of) .none kV20 dc20 pm20 an20 cd20 ct20), sl20⟩)
    (c20 : PySem.W.codeIn K cd20 "_law_part_of" = true)
    (k20 : PySem.W.keepIn K (.ref f20) = true)
    (a21 : PySem.W.nsIn K mainGlobals "_law_spoilt" = some (some (.ref f21)))
    (l21 : K.lookup f21 = some ⟨oc21, od21, .func (PySem.W.fnOf "_law_spoilt" "_law_spoilt" (defArgs s_l_spoilt) (defBody s_l_spoilt) (defScope s_l_spoilt) .none kV21 dc21 pm21 an21 cd21 ct21), sl21⟩)
    (c21 : PySem.W.codeIn K cd21 "_law_spoilt" = true)
    (k21 : PySem.W.keepIn K (.ref f21) = true)
    (a22 : PySem.W.nsIn K mainGlobals "_law_row_by" = some (some (.ref f22)))
    (l22 : K.lookup f22 = some ⟨oc22, od22, .func (PySem.W.fnOf "_law_row_by" "_law_row_by" (defArgs s_l_row_by) (defBody s_l_row_by) (defScope s_l_row_by) .none kV22 dc22 pm22 an22 cd22 ct22), sl22⟩)
    (c22 : PySem.W.codeIn K cd22 "_law_row_by" = true)
    (k22 : PySem.W.keepIn K (.ref f22) = true)
    (a23 : PySem.W.nsIn K mainGlobals "_law_mixed_rows" = some (some (.ref f23)))
    (l23 : K.lookup f23 = some ⟨oc23, od23, .func (PySem.W.fnOf "_law_mixed_rows" "_law_mixed_rows" (defArgs s_l_mixed_rows) (defBody s_l_mixed_rows) (defScope s_l_mixed_rows) .none kV23 dc23 pm23 an23 cd23 ct23), sl23⟩)
    (c23 : PySem.W.codeIn K cd23 "_law_mixed_rows" = true)
    (k23 : PySem.W.keepIn K (.ref f23) = true)
    (a24 : PySem.W.nsIn K mainGlobals "_law_count_of" = some (some (.ref f24)))
    (l24 : K.lookup f24 = some ⟨oc24, od24, .func (PySem.W.fnOf "_law_count_of" "_law_count_of" (defArgs s_l_count_of) (defBody s_l_count_of) (defScope s_l_count_of) .none kV24 dc24 pm24 an24 cd24 ct24), sl24⟩)
    (c24 : PySem.W.codeIn K cd24 "_law_count_of" = true)
    (k24 : PySem.W.keepIn K (.ref f24) = true)
    (a25 : PySem.W.nsIn K mainGlobals "_law_named" = some (some (.ref f25)))
    (l25 : K.lookup f25 = some ⟨oc25, od25, .func (PySem.W.fnOf "_law_named" "_law_named" (defArgs s_l_named) (defBody s_l_named) (defScope s_l_named) .none kV25 dc25 pm25 an25 cd25 ct25), sl25⟩)
    (c25 : PySem.W.codeIn K cd25 "_law_named" = true)
    (k25 : PySem.W.keepIn K (.ref f25) = true)
    (a26 : PySem.W.nsIn K mainGlobals "_law_bag_of" = some (some (.ref f26)))
    (l26 : K.lookup f26 = some ⟨oc26, od26, .func (PySem.W.fnOf "_law_bag_of" "_law_bag_of" (defArgs s_l_bag_of) (defBody s_l_bag_of) (defScope s_l_bag_of) .none kV26 dc26 pm26 an26 cd26 ct26), sl26⟩)
    (c26 : PySem.W.codeIn K cd26 "_law_bag_of" = true)
    (k26 : PySem.W.keepIn K (.ref f26) = true)
    (a27 : PySem.W.nsIn K mainGlobals "_law_taken" = some (some (.ref f27)))
    (l27 : K.lookup f27 = some ⟨oc27, od27, .func (PySem.W.fnOf "_law_taken" "_law_taken" (defArgs s_l_taken) (defBody s_l_taken) (defScope s_l_taken) .none kV27 dc27 pm27 an27 cd27 ct27), sl27⟩)
    (c27 : PySem.W.codeIn K cd27 "_law_taken" = true)
    (k27 : PySem.W.keepIn K (.ref f27) = true)
    (a28 : PySem.W.nsIn K mainGlobals "_law_due" = some (some (.ref f28)))
    (l28 : K.lookup f28 = some ⟨oc28, od28, .func (PySem.W.fnOf "_law_due" "_law_due" (defArgs s_l_due) (defBody s_l_due) (defScope s_l_due) .none kV28 dc28 pm28 an28 cd28 ct28), sl28⟩)
    (c28 : PySem.W.codeIn K cd28 "_law_due" = true)
    (k28 : PySem.W.keepIn K (.ref f28) = true)
    (a29 : PySem.W.nsIn K mainGlobals "law" = some (some (.ref f29)))
    (l29 : K.lookup f29 = some ⟨oc29, od29, .func (PySem.W.fnOf "law" "law" (defArgs s_law) (defBody s_law) (defScope s_law) .none kV29 dc29 pm29 an29 cd29 ct29), sl29⟩)
    (c29 : PySem.W.codeIn K cd29 "law" = true)
    (k29 : PySem.W.keepIn K (.ref f29) = true)
    (a30 : PySem.W.findIn K (.ref CN) "__init__" = some (some (.ref f30)))
    (i30 : PySem.W.isFn K (.ref f30) = true)
    (l30 : K.lookup f30 = some ⟨oc30, od30, .func (PySem.W.fnOf "__init__" "Net.__init__" (defArgs s_Net) (defBody s_Net) (defScope s_Net) .none kV30 dc30 pm30 an30 cd30 ct30), sl30⟩)
    (c30 : PySem.W.codeIn K cd30 "Net.__init__" = true)
    (k30 : PySem.W.keepIn K (.ref f30) = true)
    (a31 : PySem.W.findIn K (.ref CD) "__init__" = some (some (.ref f31)))
    (i31 : PySem.W.isFn K (.ref f31) = true)
    (l31 : K.lookup f31 = some ⟨oc31, od31, .func (PySem.W.fnOf "__init__" "Draft.__init__" (defArgs s_Draft) (defBody s_Draft) (defScope s_Draft) .none kV31 dc31 pm31 an31 cd31 ct31), sl31⟩)
    (c31 : PySem.W.codeIn K cd31 "Draft.__init__" = true)
    (k31 : PySem.W.keepIn K (.ref f31) = true)
    (a32 : PySem.W.findIn K (.ref CB) "__init__" = some (some (.ref f32)))
    (i32 : PySem.W.typeIn K (.ref f32) = some (.type "function"))
    (l32 : K.lookup f32 = some ⟨oc32, od32, .func (PySem.W.fnOf "__init__" "BadText.__init__" (defArgs s_BadText) (defBody s_BadText) (defScope s_BadText) .none kV32 dc32 pm32 an32 cd32 ct32), sl32⟩)
    (c32 : PySem.W.codeIn K cd32 "BadText.__init__" = true)
    (k32 : PySem.W.keepIn K (.ref f32) = true)
    (gCN : PySem.W.nsIn K mainGlobals "Net" = some (some (.ref CN)))
    (pgCN : PySem.W.plainGet K CN Str.empty = true)
    (hdCN : PySem.W.hasDictIn K CN = true)
    (poCN : PySem.W.plainOver K CN = true)
    (saCN : PySem.W.findIn K (.ref CN) "__setattr__" = some (some (.builtin "object.__setattr__")))
    (mkCN : PySem.W.makesIn K CN = true)
    (kpCN : PySem.W.keepIn K (.ref CN) = true)
    (n0CN : PySem.W.findIn K (.ref CN) "bowls" = some none)
    (n1CN : PySem.W.findIn K (.ref CN) "doors" = some none)
    (n2CN : PySem.W.findIn K (.ref CN) "takes" = some none)
    (n3CN : PySem.W.findIn K (.ref CN) "gives" = some none)
    (n4CN : PySem.W.findIn K (.ref CN) "first" = some none)
    (gCD : PySem.W.nsIn K mainGlobals "Draft" = some (some (.ref CD)))
    (pgCD : PySem.W.plainGet K CD Str.empty = true)
    (hdCD : PySem.W.hasDictIn K CD = true)
    (poCD : PySem.W.plainOver K CD = true)
    (saCD : PySem.W.findIn K (.ref CD) "__setattr__" = some (some (.builtin "object.__setattr__")))
    (mkCD : PySem.W.makesIn K CD = true)
    (kpCD : PySem.W.keepIn K (.ref CD) = true)
    (n0CD : PySem.W.findIn K (.ref CD) "bowls" = some none)
    (n1CD : PySem.W.findIn K (.ref CD) "doors" = some none)
    (n2CD : PySem.W.findIn K (.ref CD) "takes" = some none)
    (n3CD : PySem.W.findIn K (.ref CD) "gives" = some none)
    (n4CD : PySem.W.findIn K (.ref CD) "first" = some none)
    (haN : PySem.W.findIn K (.ref CN) "__class__" = some (some (.builtin "object.__class__")))
    (hnN : PySem.W.specialIn K (.builtin "object.__class__") "__get__" = some (some (.builtin "getset_descriptor.__get__")))
    (htN : PySem.W.takesIn K (.builtin "object.__class__") = some true)
    (hmN : PySem.W.mroIn K CN (.type "object") = some true)
    (ktN : PySem.W.kitOne K (.ref CN) (.ref CN) = some true)
    (gCB : PySem.W.nsIn K mainGlobals "BadText" = some (some (.ref CB)))
    (xCB : K.lookup CB = some (excClassObj nm qn CB NB bs [.ref CH, .type "ValueError", .type "Exception", .type "BaseException", .type "object"] true sn sub ab col dd m0 m1 m2 m3 m5 "ValueError.__new__"))
    (saCB : PySem.W.findIn K (.ref CB) "__setattr__" = some (some (.builtin "object.__setattr__")))
    (gaCB : PySem.W.findIn K (.ref CB) "__getattribute__" = some (some (.builtin "BaseException.__getattribute__")))
    (ggCB : PySem.W.findIn K (.ref CB) "__getattr__" = some none)
    (nwCB : PySem.W.findIn K (.ref CB) "words" = some none)
    (nrCB : PySem.W.findIn K (.ref CB) "row" = some none)
    (kpCB : PySem.W.keepIn K (.ref CB) = true)
    (exCB : PySem.W.subIn K (.ref CB) (.type "BaseException") = some true)
    (tyCB : PySem.W.typeIn K (.ref CB) = some (.type "type"))
    (hdCB : PySem.W.hasDictIn K CB = true)
    (icCB : PySem.W.isClsIn K CB = true)
    (sbCB : PySem.W.subIn K (.ref CB) (.ref CB) = some true)
    (z_len : PySem.W.nsIn K mainGlobals "len" = some none)
    (z_range : PySem.W.nsIn K mainGlobals "range" = some none)
    (z_enum : PySem.W.nsIn K mainGlobals "enumerate" = some none)
    (z_int : PySem.W.nsIn K mainGlobals "int" = some none)
    (z_str : PySem.W.nsIn K mainGlobals "str" = some none)
    (z_list : PySem.W.nsIn K mainGlobals "list" = some none)
    (z_bool : PySem.W.nsIn K mainGlobals "bool" = some none)
    (z_isi : PySem.W.nsIn K mainGlobals "isinstance" = some none)
    (z_zip : PySem.W.nsIn K mainGlobals "zip" = some none)
    (z_min : PySem.W.nsIn K mainGlobals "min" = some none)
    (v_mb : PySem.W.nsIn K mainGlobals "MOST_BOWLS" = some (some (.int 6 t_mb)))
    (v_md : PySem.W.nsIn K mainGlobals "MOST_DOORS" = some (some (.int 8 t_md)))
    (v_ms : PySem.W.nsIn K mainGlobals "MOST_SIGNS" = some (some (.int 8 t_ms)))
    (v_mc : PySem.W.nsIn K mainGlobals "MOST_COUNT" = some (some (.int 1000000000 t_mc)))
    (v_mf : PySem.W.nsIn K mainGlobals "MOST_FIGURES" = some (some (.int 10 t_mf)))
    (v_lt : PySem.W.nsIn K mainGlobals "LETTERS" = some (some (.str ("abcdefghijklmnopqrstuvwxyz" : Str) t_lt)))
    (v_fg : PySem.W.nsIn K mainGlobals "FIGURES" = some (some (.str ("0123456789" : Str) t_fg))) :
    ∃ fd : FuncData, (∀ (s : Shared) (v : Value), BindsTo s fd ⟨[v], []⟩ [("script", v)]) ∧ ∀ base : Heap, K.In base → base.Ns mainGlobals mg → FnOk l.prog w K mg base CX0 7 fa fd ["script"] (spLaw K) := by
  have e := hfa.symm.trans (PySem.W.mg_of X G a29)
  cases e
  have T : Txt K mg := { len := PySem.W.mg_none_of X G z_len, range := PySem.W.mg_none_of X G z_range, enum := PySem.W.mg_none_of X G z_enum, int := PySem.W.mg_none_of X G z_int, str := PySem.W.mg_none_of X G z_str, list := PySem.W.mg_none_of X G z_list, bool := PySem.W.mg_none_of X G z_bool, isi := PySem.W.mg_none_of X G z_isi, zip := PySem.W.mg_none_of X G z_zip, min := PySem.W.mg_none_of X G z_min, mb := ⟨_, PySem.W.mg_of X G v_mb⟩, md := ⟨_, PySem.W.mg_of X G v_md⟩, ms := ⟨_, PySem.W.mg_of X G v_ms⟩, mc := ⟨_, PySem.W.mg_of X G v_mc⟩, mf := ⟨_, PySem.W.mg_of X G v_mf⟩, lt := ⟨_, PySem.W.mg_of X G v_lt⟩, fg := ⟨_, PySem.W.mg_of X G v_fg⟩ }
  have X0 : Lx K mg "good_name" s_good_name ["name"] := lx_mk X G a0 l0 c0 k0 (fun _ _ _ _ _ _ us hl => match us, hl with | [_], _ => rfl)
  have X1 : Lx K mg "look_at_names" s_look_at_names ["names", "fewest", "most"] := lx_mk X G a1 l1 c1 k1 (fun _ _ _ _ _ _ us hl => match us, hl with | [_, _, _], _ => rfl)
  have X2 : Lx K mg "look_at_bag" s_look_at_bag ["beads", "width"] := lx_mk X G a2 l2 c2 k2 (fun _ _ _ _ _ _ us hl => match us, hl with | [_, _], _ => rfl)
  have X3 : Lx K mg "look_at_bags" s_look_at_bags ["bags", "many", "width"] := lx_mk X G a3 l3 c3 k3 (fun _ _ _ _ _ _ us hl => match us, hl with | [_, _, _], _ => rfl)
  have X4 : Lx K mg "count_of" s_count_of ["word"] := lx_mk X G a4 l4 c4 k4 (fun _ _ _ _ _ _ us hl => match us, hl with | [_], _ => rfl)
  have X5 : Lx K mg "part_of" s_part_of ["words", "bowls"] := lx_mk X G a5 l5 c5 k5 (fun _ _ _ _ _ _ us hl => match us, hl with | [_, _], _ => rfl)
  have X6 : Lx K mg "bowl_taken" s_bowl_taken ["draft", "words"] := lx_mk X G a6 l6 c6 k6 (fun _ _ _ _ _ _ us hl => match us, hl with | [_, _], _ => rfl)
  have X7 : Lx K mg "door_taken" s_door_taken ["draft", "words"] := lx_mk X G a7 l7 c7 k7 (fun _ _ _ _ _ _ us hl => match us, hl with | [_, _], _ => rfl)
  have X8 : Lx K mg "row_taken" s_row_taken ["draft", "row"] := lx_mk X G a8 l8 c8 k8 (fun _ _ _ _ _ _ us hl => match us, hl with | [_, _], _ => rfl)
  have X9 : Lx K mg "widened" s_widened ["bag", "width"] := lx_mk X G a9 l9 c9 k9 (fun _ _ _ _ _ _ us hl => match us, hl with | [_, _], _ => rfl)
  have X10 : Lx K mg "read_net" s_read_net ["text"] := lx_mk X G a10 l10 c10 k10 (fun _ _ _ _ _ _ us hl => match us, hl with | [_], _ => rfl)
  have X11 : Lx K mg "part_text" s_part_text ["bag", "bowls"] := lx_mk X G a11 l11 c11 k11 (fun _ _ _ _ _ _ us hl => match us, hl with | [_, _], _ => rfl)
  have X12 : Lx K mg "net_text" s_net_text ["net"] := lx_mk X G a12 l12 c12 k12 (fun _ _ _ _ _ _ us hl => match us, hl with | [_], _ => rfl)
  have X13 : Lx K mg "_law_mixed" s_l_mixed ["cell", "k"] := lx_mk X G a13 l13 c13 k13 (fun _ _ _ _ _ _ us hl => match us, hl with | [_, _], _ => rfl)
  have X14 : Lx K mg "_law_whole" s_l_whole ["found"] := lx_mk X G a14 l14 c14 k14 (fun _ _ _ _ _ _ us hl => match us, hl with | [_], _ => rfl)
  have X15 : Lx K mg "_law_texts" s_l_texts ["found", "due"] := lx_mk X G a15 l15 c15 k15 (fun _ _ _ _ _ _ us hl => match us, hl with | [_, _], _ => rfl)
  have X16 : Lx K mg "_law_numbers" s_l_numbers ["found", "due"] := lx_mk X G a16 l16 c16 k16 (fun _ _ _ _ _ _ us hl => match us, hl with | [_, _], _ => rfl)
  have X17 : Lx K mg "_law_rows" s_l_rows ["found", "due"] := lx_mk X G a17 l17 c17 k17 (fun _ _ _ _ _ _ us hl => match us, hl with | [_, _], _ => rfl)
  have X18 : Lx K mg "_law_as_due" s_l_as_due ["net", "parts"] := lx_mk X G a18 l18 c18 k18 (fun _ _ _ _ _ _ us hl => match us, hl with | [_, _], _ => rfl)
  have X19 : Lx K mg "_law_name_of" s_l_name_of ["cell", "many"] := lx_mk X G a19 l19 c19 k19 (fun _ _ _ _ _ _ us hl => match us, hl with | [_, _], _ => rfl)
  have X20 : Lx K mg "_law_part_of" s_l_part_of ["cell", "bowls"] := lx_mk X G a20 l20 c20 k20 (fun _ _ _ _ _ _ us hl => match us, hl with | [_, _], _ => rfl)
  have X21 : Lx K mg "_law_spoilt" s_l_spoilt ["row", "cell"] := lx_mk X G a21 l21 c21 k21 (fun _ _ _ _ _ _ us hl => match us, hl with | [_, _], _ => rfl)
  have X22 : Lx K mg "_law_row_by" s_l_row_by ["cell", "bowls", "doors"] := lx_mk X G a22 l22 c22 k22 (fun _ _ _ _ _ _ us hl => match us, hl with | [_, _, _], _ => rfl)
  have X23 : Lx K mg "_law_mixed_rows" s_l_mixed_rows ["cells"] := lx_mk X G a23 l23 c23 k23 (fun _ _ _ _ _ _ us hl => match us, hl with | [_], _ => rfl)
  have X24 : Lx K mg "_law_count_of" s_l_count_of ["word"] := lx_mk X G a24 l24 c24 k24 (fun _ _ _ _ _ _ us hl => match us, hl with | [_], _ => rfl)
  have X25 : Lx K mg "_law_named" s_l_named ["word"] := lx_mk X G a25 l25 c25 k25 (fun _ _ _ _ _ _ us hl => match us, hl with | [_], _ => rfl)
  have X26 : Lx K mg "_law_bag_of" s_l_bag_of ["words", "bowls"] := lx_mk X G a26 l26 c26 k26 (fun _ _ _ _ _ _ us hl => match us, hl with | [_, _], _ => rfl)
  have X27 : Lx K mg "_law_taken" s_l_taken ["words", "parts"] := lx_mk X G a27 l27 c27 k27 (fun _ _ _ _ _ _ us hl => match us, hl with | [_, _], _ => rfl)
  have X28 : Lx K mg "_law_due" s_l_due ["rows"] := lx_mk X G a28 l28 c28 k28 (fun _ _ _ _ _ _ us hl => match us, hl with | [_], _ => rfl)
  have F29 := fun_mk (st := s_law) l29 c29 k29
  have F30 := fun_mk (st := s_Net) l30 c30 k30
  have b30 := F30.binds (ps := ["self", "bowls", "doors", "takes", "gives", "first"]) (fun _ _ _ _ _ _ us hl => match us, hl with | [_, _, _, _, _, _], _ => rfl)
  have F31 := fun_mk (st := s_Draft) l31 c31 k31
  have b31 := F31.binds (ps := ["self"]) (fun _ _ _ _ _ _ us hl => match us, hl with | [_], _ => rfl)
  have F32 := fun_mk (st := s_BadText) l32 c32 k32
  have b32 := F32.binds (ps := ["self", "words", "row"]) (fun _ _ _ _ _ _ us hl => match us, hl with | [_, _, _], _ => rfl)
  have YCN : CTxt K CN := ⟨⟨pgCN, hdCN, poCN, saCN⟩, n0CN, n1CN, n2CN, n3CN, n4CN⟩
  have YCD : CTxt K CD := ⟨⟨pgCD, hdCD, poCD, saCD⟩, n0CD, n1CD, n2CD, n3CD, n4CD⟩
  have YCB : BTxt K mg CB f32 _ := ⟨⟨⟨nm, qn, NB, bs, _, sn, sub, ab, col, dd, m0, m1, m2, m3, m5, xCB, rfl⟩, saCB, exCB, tyCB, kpCB⟩, a32, i32, nwCB, nrCB, PySem.W.mg_of X G gCB, F32, b32, own_caught exCB icCB tyCB sbCB, ⟨gaCB, ggCB, exCB, hdCB⟩⟩
  have M : Top K mg := { txt := T, net := ⟨CN, f30, _, YCN, ⟨YCN.cl, haN, hnN, htN, hmN, ktN⟩, F30, ⟨mkCN, a30, i30, kpCN⟩, b30, PySem.W.mg_of X G gCN⟩, draft := ⟨CD, f31, _, YCD, F31, ⟨mkCD, a31, i31, kpCD⟩, b31, PySem.W.mg_of X G gCD⟩, bad := ⟨CB, f32, _, YCB⟩, good_name := X0, look_at_names := X1, look_at_bag := X2, look_at_bags := X3, count_of := X4, part_of := X5, bowl_taken := X6, door_taken := X7, row_taken := X8, widened := X9, read_net := X10, part_text := X11, net_text := X12, l_mixed := X13, l_whole := X14, l_texts := X15, l_numbers := X16, l_rows := X17, l_as_due := X18, l_name_of := X19, l_part_of := X20, l_spoilt := X21, l_row_by := X22, l_mixed_rows := X23, l_count_of := X24, l_named := X25, l_bag_of := X26, l_taken := X27, l_due := X28 }
  exact ⟨PySem.W.fnOf "law" "law" (defArgs s_law) (defBody s_law) (defScope s_law) .none kV29 dc29 pm29 an29 cd29 ct29, fun s v => .of_eq rfl, fun base _ _ => ok_law F29 M⟩
theorem walk {l : PySem.W.OpenLaw} {q : Program} {loose : List Str} {XP : (Str → Option Value) → Heap → Prop} {YP : World → Heap → Prop} {d : DefRec} {K : Params → PySem.W.Frag} (hn : l.most = some 63) (hdf : d.params.defaults = [])
    (hY : ∀ (w : World) (h : Heap), YP w h → (K w.params).In h)
    (F : ∀ (w : World) (mg : Str → Option Value) (fa : Addr) (h : Heap), (K w.params).In h → h.Ns mainGlobals mg → mg d.name = some (.ref fa) →
      ∃ fd : FuncData, (∀ (s : Shared) (u : Value), BindsTo s fd ⟨[u], []⟩ [("script", u)]) ∧ ∀ base : Heap, (K w.params).In base → base.Ns mainGlobals mg → FnOk l.prog w (K w.params) mg base CX0 7 fa fd ["script"] (spLaw (K w.params))) :
    PySem.W.WalkO q loose XP YP l.row.toRowW d [] (fun f vs => PySem.call f vs) :=
  L2.walk_of (n := 63) (k := 7) (x := "script") (CX := fun _ => CX0) (sp := fun w => spLaw (K w.params)) hn (by decide) hdf ⟨rfl, by decide, by decide⟩ hY F (fun _ _ a ns hl _ hS => ⟨a, ns, rfl, hS, hl, fun _ => rfl⟩) fun _ _ _ _ _ z => z
end BH

set_option Elab.async false
open PySem PySem.W PyProof.Rows
set_option maxRecDepth 100000 in
set_option maxHeartbeats 0 in
theorem PySem.Challenge.cw_beadhall_k18_whole_any_text_holds : PySem.Challenge.rw_beadhall_k18_whole_any_text.Holds := by
  w_on; o_law; k_head; (case hw => w_witness2)
  k_fill
  refine BH.walk (l := PySem.Challenge.rw_beadhall_k18_whole_any_text) rfl rfl (fun w h Y => PySem.W.kIn_of Y) ?F
  case F =>
    intro w mg fa h KX G hmg
    replace hmg : mg "law" = some (.ref fa) := hmg
    refine' BH.all_mk KX G hmg ?a0 ?l0 ?c0 ?k0 ?a1 ?l1 ?c1 ?k1 ?a2 ?l2 ?c2 ?k2 ?a3 ?l3 ?c3 ?k3 ?a4 ?l4 ?c4 ?k4 ?a5 ?l5 ?c5 ?k5 ?a6 ?l6 ?c6 ?k6 ?a7 ?l7 ?c7 ?k7 ?a8 ?l8 ?c8 ?k8 ?a9 ?l9 ?c9 ?k9 ?a10 ?l10 ?c10 ?k10 ?a11 ?l11 ?c11 ?k11 ?a12 ?l12 ?c12 ?k12 ?a13 ?l13 ?c13 ?k13 ?a14 ?l14 ?c14 ?k14 ?a15 ?l15 ?c15 ?k15 ?a16 ?l16 ?c16 ?k16 ?a17 ?l17 ?c17 ?k17 ?a18 ?l18 ?c18 ?k18 ?a19 ?l19 ?c19 ?k19 ?a20 ?l20 ?c20 ?k20 ?a21 ?l21 ?c21 ?k21 ?a22 ?l22 ?c22 ?k22 ?a23 ?l23 ?c23 ?k23 ?a24 ?l24 ?c24 ?k24 ?a25 ?l25 ?c25 ?k25 ?a26 ?l26 ?c26 ?k26 ?a27 ?l27 ?c27 ?k27 ?a28 ?l28 ?c28 ?k28 ?a29 ?l29 ?c29 ?k29 ?a30 ?i30 ?l30 ?c30 ?k30 ?a31 ?i31 ?l31 ?c31 ?k31 ?a32 ?i32 ?l32 ?c32 ?k32 ?gCN ?pgCN ?hdCN ?poCN ?saCN ?mkCN ?kpCN ?n0CN ?n1CN ?n2CN ?n3CN ?n4CN ?gCD ?pgCD ?hdCD ?poCD ?saCD ?mkCD ?kpCD ?n0CD ?n1CD ?n2CD ?n3CD ?n4CD ?haN ?hnN ?htN ?hmN ?ktN ?gCB ?xCB ?saCB ?gaCB ?ggCB ?nwCB ?nrCB ?kpCB ?exCB ?tyCB ?hdCB ?icCB ?sbCB ?z_len ?z_range ?z_enum ?z_int ?z_str ?z_list ?z_bool ?z_isi ?z_zip ?z_min ?v_mb ?v_md ?v_ms ?v_mc ?v_mf ?v_lt ?v_fg
    (case gCN => k_is)
    (case gCD => k_is)
    (case gCB => k_is)
    (case a0 => k_is)
    (case l0 => k_is)
    (case c0 => k_is)
    (case k0 => k_is)
    (case a1 => k_is)
    (case l1 => k_is)
    (case c1 => k_is)
    (case k1 => k_is)
    (case a2 => k_is)
    (case l2 => k_is)
    (case c2 => k_is)
    (case k2 => k_is)
    (case a3 => k_is)
    (case l3 => k_is)
    (case c3 => k_is)
    (case k3 => k_is)
    (case a4 => k_is)
    (case l4 => k_is)
    (case c4 => k_is)
    (case k4 => k_is)
    (case a5 => k_is)
    (case l5 => k_is)
    (case c5 => k_is)
    (case k5 => k_is)
    (case a6 => k_is)
    (case l6 => k_is)
    (case c6 => k_is)
    (case k6 => k_is)
    (case a7 => k_is)
    (case l7 => k_is)
    (case c7 => k_is)
    (case k7 => k_is)
    (case a8 => k_is)
    (case l8 => k_is)
    (case c8 => k_is)
    (case k8 => k_is)
    (case a9 => k_is)
    (case l9 => k_is)
    (case c9 => k_is)
    (case k9 => k_is)
    (case a10 => k_is)
    (case l10 => k_is)
    (case c10 => k_is)
    (case k10 => k_is)
    (case a11 => k_is)
    (case l11 => k_is)
    (case c11 => k_is)
    (case k11 => k_is)
    (case a12 => k_is)
    (case l12 => k_is)
    (case c12 => k_is)
    (case k12 => k_is)
    (case a13 => k_is)
    (case l13 => k_is)
    (case c13 => k_is)
    (case k13 => k_is)
    (case a14 => k_is)
    (case l14 => k_is)
    (case c14 => k_is)
    (case k14 => k_is)
    (case a15 => k_is)
    (case l15 => k_is)
    (case c15 => k_is)
    (case k15 => k_is)
    (case a16 => k_is)
    (case l16 => k_is)
    (case c16 => k_is)
    (case k16 => k_is)
    (case a17 => k_is)
    (case l17 => k_is)
    (case c17 => k_is)
    (case k17 => k_is)
    (case a18 => k_is)
    (case l18 => k_is)
    (case c18 => k_is)
    (case k18 => k_is)
    (case a19 => k_is)
    (case l19 => k_is)
    (case c19 => k_is)
    (case k19 => k_is)
    (case a20 => k_is)
    (case l20 => k_is)
    (case c20 => k_is)
    (case k20 => k_is)
    (case a21 => k_is)
    (case l21 => k_is)
    (case c21 => k_is)
    (case k21 => k_is)
    (case a22 => k_is)
    (case l22 => k_is)
    (case c22 => k_is)
    (case k22 => k_is)
    (case a23 => k_is)
    (case l23 => k_is)
    (case c23 => k_is)
    (case k23 => k_is)
    (case a24 => k_is)
    (case l24 => k_is)
    (case c24 => k_is)
    (case k24 => k_is)
    (case a25 => k_is)
    (case l25 => k_is)
    (case c25 => k_is)
    (case k25 => k_is)
    (case a26 => k_is)
    (case l26 => k_is)
    (case c26 => k_is)
    (case k26 => k_is)
    (case a27 => k_is)
    (case l27 => k_is)
    (case c27 => k_is)
    (case k27 => k_is)
    (case a28 => k_is)
    (case l28 => k_is)
    (case c28 => k_is)
    (case k28 => k_is)
    (case a29 => k_is)
    (case l29 => k_is)
    (case c29 => k_is)
    (case k29 => k_is)
    (case a30 => k_is)
    (case i30 => k_is)
    (case l30 => k_is)
    (case c30 => k_is)
    (case k30 => k_is)
    (case a31 => k_is)
    (case i31 => k_is)
    (case l31 => k_is)
    (case c31 => k_is)
    (case k31 => k_is)
    (case a32 => k_is)
    (case i32 => k_is)
    (case l32 => k_is)
    (case c32 => k_is)
    (case k32 => k_is)
    (case pgCN => k_is)
    (case hdCN => k_is)
    (case poCN => k_is)
    (case saCN => k_is)
    (case mkCN => k_is)
    (case kpCN => k_is)
    (case n0CN => k_is)
    (case n1CN => k_is)
    (case n2CN => k_is)
    (case n3CN => k_is)
    (case n4CN => k_is)
    (case pgCD => k_is)
    (case hdCD => k_is)
    (case poCD => k_is)
    (case saCD => k_is)
    (case mkCD => k_is)
    (case kpCD => k_is)
    (case n0CD => k_is)
    (case n1CD => k_is)
    (case n2CD => k_is)
    (case n3CD => k_is)
    (case n4CD => k_is)
    (case haN => k_is)
    (case hnN => first | rfl | k_is)
    (case htN => first | rfl | k_is)
    (case hmN => first | rfl | k_is)
    (case ktN => first | rfl | k_is)
    (case xCB => k_is)
    (case saCB => k_is)
    (case gaCB => k_is)
    (case ggCB => k_is)
    (case nwCB => k_is)
    (case nrCB => k_is)
    (case kpCB => k_is)
    (case exCB => k_is)
    (case tyCB => k_is)
    (case hdCB => k_is)
    (case icCB => k_is)
    (case sbCB => first | rfl | k_is)
    (case z_len => k_is)
    (case z_range => k_is)
    (case z_enum => k_is)
    (case z_int => k_is)
    (case z_str => k_is)
    (case z_list => k_is)
    (case z_bool => k_is)
    (case z_isi => k_is)
    (case z_zip => k_is)
    (case z_min => k_is)
    (case v_mb => k_is)
    (case v_md => k_is)
    (case v_ms => k_is)
    (case v_mc => k_is)
    (case v_mf => k_is)
    (case v_lt => k_is)
    (case v_fg => k_is)

