import PyProof.Rows.All
import Wide.All
import OpenK.AllK
import Wide.FinOn
import PyProof.EqAt
import PyProof.EqKinds
import PyProof.TupleCall
import KE.KDictWalk
import KE.KDictDisplayH
import KE.KRevSl
import KE.LtSeq
import KE.LtData
import HandS.ForMost
import HandS.TupAny
import HandS.Walk
import Open.SpecLaws
import KE.OsGo
import HandS.ForSpec
import HandS.Conv
import HandS.Zip
import HandS.SortInts
import KE.KEqSeq
import PySem.Challenge.RW_panstack_s01_answers
set_option Elab.async false
set_option linter.all false
set_option maxRecDepth 100000
set_option maxHeartbeats 4000000
/-! Pancakes, the mathematics, part 1: flips, gaps, search, fewest. No program here. -/
namespace Pk

/-- what a flip does to each pancake -/
def tn (b : Bool) (x : Int) : Int := if b = true then -x else x
theorem tn_tn (b : Bool) (x : Int) : tn b (tn b x) = x := by
  cases b <;> simp [tn]
theorem tn_abs (b : Bool) (x : Int) : (tn b x).natAbs = x.natAbs := by
  cases b <;> simp [tn]
theorem tn_map (b : Bool) (l : List Int) : (l.map (tn b)).map (tn b) = l := by
  rw [List.map_map]
  have e : (tn b ∘ tn b) = id := funext fun x => tn_tn b x
  rw [e, List.map_id]
theorem flip_eq (b : Bool) (k : Nat) (s : List Int) : Mu28.flip b k s = ((s.take k).reverse.map (tn b)) ++ s.drop k := rfl
theorem flip_length (b : Bool) (k : Nat) (s : List Int) : (Mu28.flip b k s).length = s.length := by
  rw [flip_eq, List.length_append, List.length_map, List.length_reverse, List.length_take, List.length_drop]
  omega
theorem flip_flip (b : Bool) (k : Nat) (s : List Int) : Mu28.flip b k (Mu28.flip b k s) = s := by
  by_cases h : k ≤ s.length
  · have hl : ((s.take k).reverse.map (tn b)).length = k := by
      rw [List.length_map, List.length_reverse, List.length_take]
      omega
    rw [flip_eq b k (Mu28.flip b k s), flip_eq b k s, List.take_left' hl, List.drop_left' hl, ← List.map_reverse, tn_map, List.reverse_reverse, List.take_append_drop]
  · have h1 : s.take k = s := List.take_of_length_le (by omega)
    have h2 : s.drop k = [] := List.drop_of_length_le (by omega)
    have e : Mu28.flip b k s = s.reverse.map (tn b) := by rw [flip_eq, h1, h2, List.append_nil]
    have hl : (s.reverse.map (tn b)).length ≤ k := by
      rw [List.length_map, List.length_reverse]
      omega
    rw [e, flip_eq, List.take_of_length_le hl, List.drop_of_length_le hl, List.append_nil, ← List.map_reverse, tn_map, List.reverse_reverse]
theorem flip_abs (b : Bool) (k : Nat) (s : List Int) : ((Mu28.flip b k s).map Int.natAbs).Perm (s.map Int.natAbs) := by
  have e : (Mu28.flip b k s).map Int.natAbs = ((s.take k).map Int.natAbs).reverse ++ (s.drop k).map Int.natAbs := by
    rw [flip_eq, List.map_append, List.map_map, ← List.map_reverse]
    congr 1
    exact List.map_congr_left fun x _ => tn_abs b x
  have e2 : s.map Int.natAbs = (s.take k).map Int.natAbs ++ (s.drop k).map Int.natAbs := by rw [← List.map_append, List.take_append_drop]
  rw [e, e2]
  exact (List.reverse_perm _).append_right _
theorem flip_zero (b : Bool) (s : List Int) : Mu28.flip b 0 s = s := by
  rw [flip_eq]
  rfl
theorem flip_get_lo (b : Bool) {k i : Nat} {s : List Int} (hk : k ≤ s.length) (hi : i < k) : (Mu28.flip b k s)[i]? = (s[k - 1 - i]?).map (tn b) := by
  have hl : ((s.take k).reverse.map (tn b)).length = k := by
    rw [List.length_map, List.length_reverse, List.length_take]
    omega
  have hl2 : (s.take k).length = k := by
    rw [List.length_take]
    omega
  rw [flip_eq, List.getElem?_append_left (by rw [hl]; exact hi), List.getElem?_map, List.getElem?_reverse (by rw [hl2]; exact hi), hl2, List.getElem?_take_of_lt (by omega)]
theorem flip_get_hi (b : Bool) {k i : Nat} {s : List Int} (hk : k ≤ s.length) (hi : k ≤ i) : (Mu28.flip b k s)[i]? = s[i]? := by
  have hl : ((s.take k).reverse.map (tn b)).length = k := by
    rw [List.length_map, List.length_reverse, List.length_take]
    omega
  rw [flip_eq, List.getElem?_append_right (by rw [hl]; exact hi), hl, List.getElem?_drop]
  congr 1
  omega

/-! ### gaps -/
theorem gapsOf_two (b : Bool) (x y : Int) (l : List Int) : Mu28.gapsOf b (x :: y :: l) = (if Mu28.gap b x y = true then 1 else 0) + Mu28.gapsOf b (y :: l) := rfl
theorem gapsOf_one (b : Bool) (x : Int) : Mu28.gapsOf b [x] = 0 := rfl
theorem gapsOf_mid (b : Bool) (y : Int) (r : List Int) : ∀ l : List Int, Mu28.gapsOf b (l ++ y :: r) = Mu28.gapsOf b (l ++ [y]) + Mu28.gapsOf b (y :: r)
  | [] => by
    show Mu28.gapsOf b (y :: r) = Mu28.gapsOf b [y] + _
    rw [gapsOf_one]
    omega
  | [x] => by
    show Mu28.gapsOf b (x :: y :: r) = Mu28.gapsOf b [x, y] + _
    rw [gapsOf_two, gapsOf_two, gapsOf_one]
    omega
  | x :: z :: l => by
    have ih := gapsOf_mid b y r (z :: l)
    show Mu28.gapsOf b (x :: z :: (l ++ y :: r)) = Mu28.gapsOf b (x :: z :: (l ++ [y])) + _
    rw [gapsOf_two, gapsOf_two]
    have ih' : Mu28.gapsOf b (z :: (l ++ y :: r)) = Mu28.gapsOf b (z :: (l ++ [y])) + Mu28.gapsOf b (y :: r) := ih
    omega
theorem gapsOf_snoc (b : Bool) (y : Int) : ∀ l : List Int, Mu28.gapsOf b l ≤ Mu28.gapsOf b (l ++ [y]) ∧ Mu28.gapsOf b (l ++ [y]) ≤ Mu28.gapsOf b l + 1
  | [] => ⟨Nat.zero_le _, by show Mu28.gapsOf b [y] ≤ _; rw [gapsOf_one]; omega⟩
  | [x] => by
    show Mu28.gapsOf b [x] ≤ Mu28.gapsOf b [x, y] ∧ Mu28.gapsOf b [x, y] ≤ Mu28.gapsOf b [x] + 1
    rw [gapsOf_two, gapsOf_one, gapsOf_one]
    split <;> omega
  | x :: z :: l => by
    have ih : Mu28.gapsOf b (z :: l) ≤ Mu28.gapsOf b (z :: (l ++ [y])) ∧ Mu28.gapsOf b (z :: (l ++ [y])) ≤ Mu28.gapsOf b (z :: l) + 1 := gapsOf_snoc b y (z :: l)
    show Mu28.gapsOf b (x :: z :: l) ≤ Mu28.gapsOf b (x :: z :: (l ++ [y])) ∧ Mu28.gapsOf b (x :: z :: (l ++ [y])) ≤ _
    rw [gapsOf_two, gapsOf_two]
    omega
theorem gap_turn (b : Bool) (x y : Int) : Mu28.gap b (tn b y) (tn b x) = Mu28.gap b x y := by
  cases b
  · show ((y - x).natAbs != 1) = ((x - y).natAbs != 1)
    have e : (y - x).natAbs = (x - y).natAbs := by omega
    rw [e]
  · show (-x - -y != 1) = (y - x != 1)
    have e : -x - -y = y - x := by omega
    rw [e]
theorem gapsOf_turn (b : Bool) : ∀ l : List Int, Mu28.gapsOf b (l.reverse.map (tn b)) = Mu28.gapsOf b l
  | [] => rfl
  | [x] => rfl
  | x :: y :: l => by
    have ih := gapsOf_turn b (y :: l)
    rw [List.reverse_cons, List.map_append] at ih
    rw [List.reverse_cons, List.reverse_cons, List.map_append, List.map_append, gapsOf_two]
    show Mu28.gapsOf b (l.reverse.map (tn b) ++ [tn b y] ++ [tn b x]) = _
    have ih' : Mu28.gapsOf b (l.reverse.map (tn b) ++ [tn b y]) = Mu28.gapsOf b (y :: l) := ih
    rw [List.append_assoc]
    show Mu28.gapsOf b (l.reverse.map (tn b) ++ tn b y :: [tn b x]) = _
    rw [gapsOf_mid, ih', gapsOf_two, gapsOf_one, gap_turn]
    omega
theorem gaps_flip (b : Bool) (k : Nat) (s : List Int) : Mu28.gaps b s ≤ Mu28.gaps b (Mu28.flip b k s) + 1 := by
  unfold Mu28.gaps
  rw [flip_length]
  obtain ⟨c, r, hc⟩ : ∃ c r, s.drop k ++ [(s.length : Int) + 1] = c :: r := by
    cases h : s.drop k ++ [(s.length : Int) + 1] with
    | nil => simp at h
    | cons c r => exact ⟨c, r, rfl⟩
  have e1 : s ++ [(s.length : Int) + 1] = s.take k ++ c :: r := by
    rw [← hc, ← List.append_assoc, List.take_append_drop]
  have e2 : Mu28.flip b k s ++ [(s.length : Int) + 1] = (s.take k).reverse.map (tn b) ++ c :: r := by
    rw [← hc, ← List.append_assoc, flip_eq]
  have e3 := gapsOf_mid b c r (s.take k)
  have e4 := gapsOf_mid b c r ((s.take k).reverse.map (tn b))
  have e5 := gapsOf_snoc b c (s.take k)
  have e6 := gapsOf_snoc b c ((s.take k).reverse.map (tn b))
  have e7 := gapsOf_turn b (s.take k)
  rw [e1, e2]
  omega
theorem gapsOf_up (b : Bool) : ∀ (n : Nat) (a : Int), Mu28.gapsOf b ((List.range n).map fun (i : Nat) => (i : Int) + a) = 0
  | 0, _ => rfl
  | 1, _ => rfl
  | n + 2, a => by
    have ih := gapsOf_up b (n + 1) (a + 1)
    have e : ∀ m : Nat, (List.range (m + 1)).map (fun (i : Nat) => (i : Int) + a) = a :: (List.range m).map fun (i : Nat) => (i : Int) + (a + 1) := fun m => by
      rw [List.range_succ_eq_map, List.map_cons, List.map_map]
      refine congr (congrArg List.cons (by simp)) (List.map_congr_left fun i _ => ?_)
      show ((i + 1 : Nat) : Int) + a = (i : Int) + (a + 1)
      omega
    have e2 : (List.range (n + 1)).map (fun (i : Nat) => (i : Int) + (a + 1)) = (a + 1) :: (List.range n).map fun (i : Nat) => (i : Int) + (a + 1 + 1) := by
      rw [List.range_succ_eq_map, List.map_cons, List.map_map]
      refine congr (congrArg List.cons (by simp)) (List.map_congr_left fun i _ => ?_)
      show ((i + 1 : Nat) : Int) + (a + 1) = (i : Int) + (a + 1 + 1)
      omega
    rw [e (n + 1), e2, gapsOf_two, ← e2, ih]
    have g : Mu28.gap b a (a + 1) = false := by
      cases b
      · show ((a - (a + 1)).natAbs != 1) = false
        have q : (a - (a + 1)).natAbs = 1 := by omega
        rw [q] <;> rfl
      · show (a + 1 - a != 1) = false
        have q : a + 1 - a = 1 := by omega
        rw [q] <;> rfl
    rw [g]
    rfl
theorem sorted_length (n : Nat) : (Mu28.sorted n).length = n := by
  unfold Mu28.sorted
  simp
theorem gaps_sorted (b : Bool) (n : Nat) : Mu28.gaps b (Mu28.sorted n) = 0 := by
  have e : Mu28.sorted n ++ [((Mu28.sorted n).length : Int) + 1] = (List.range (n + 1)).map fun (i : Nat) => (i : Int) + 1 := by
    rw [sorted_length, List.range_succ, List.map_append]
    rfl
  unfold Mu28.gaps
  rw [e]
  exact gapsOf_up b (n + 1) 1

/-! ### rows of so many flips that sort -/
def Can (b : Bool) : Nat → List Int → Prop
  | 0, s => s = Mu28.sorted s.length
  | m + 1, s => ∃ k ∈ Mu28.ways b s.length, Can b m (Mu28.flip b k s)
theorem can_gaps (b : Bool) : ∀ (m : Nat) (s : List Int), Can b m s → Mu28.gaps b s ≤ m
  | 0, s, h => by
    have h' : s = Mu28.sorted s.length := h
    rw [h', gaps_sorted]
    exact Nat.le_refl _
  | m + 1, s, h => by
    obtain ⟨k, _, h'⟩ := h
    have h1 := can_gaps b m _ h'
    have h2 := gaps_flip b k s
    omega
theorem search_zero (b : Bool) (s : List Int) : Mu28.search b 0 s = if s = Mu28.sorted s.length then some [] else none := rfl
theorem search_succ (b : Bool) (m : Nat) (s : List Int) : Mu28.search b (m + 1) s = if m + 1 < Mu28.gaps b s then none else
    (Mu28.ways b s.length).findSome? fun (k : Nat) => (Mu28.search b m (Mu28.flip b k s)).map fun (l : List Nat) => k :: l := rfl
theorem search_can (b : Bool) : ∀ (m : Nat) (s : List Int), (Mu28.search b m s).isSome = true ↔ Can b m s
  | 0, s => by
    rw [search_zero]
    by_cases h : s = Mu28.sorted s.length
    · rw [if_pos h]
      exact ⟨fun _ => h, fun _ => rfl⟩
    · rw [if_neg h]
      exact ⟨fun q => by simp at q, fun q => absurd q h⟩
  | m + 1, s => by
    rw [search_succ]
    by_cases h : m + 1 < Mu28.gaps b s
    · rw [if_pos h]
      refine ⟨fun q => by simp at q, fun q => ?_⟩
      have := can_gaps b (m + 1) s q
      omega
    · rw [if_neg h, List.findSome?_isSome_iff]
      constructor
      · rintro ⟨k, hk, q⟩
        rw [Option.isSome_map] at q
        exact ⟨k, hk, (search_can b m _).mp q⟩
      · rintro ⟨k, hk, q⟩
        exact ⟨k, hk, by rw [Option.isSome_map]; exact (search_can b m _).mpr q⟩
/-- so many flips are needed at the fewest -/
structure Dist (b : Bool) (s : List Int) (d : Nat) : Prop where
  can : Can b d s
  least : ∀ m, m < d → ¬ Can b m s
theorem Dist.inj {b : Bool} {s : List Int} {d e : Nat} (h : Dist b s d) (h' : Dist b s e) : d = e := by
  rcases Nat.lt_trichotomy d e with q | q | q
  · exact absurd h.can (h'.least d q)
  · exact q
  · exact absurd h'.can (h.least e q)
theorem dist_of : ∀ {m : Nat} {b : Bool} {s : List Int}, Can b m s → ∃ d, d ≤ m ∧ Dist b s d
  | m, b, s, h => by
    by_cases q : ∃ m', m' < m ∧ Can b m' s
    · obtain ⟨m', hlt, h'⟩ := q
      obtain ⟨d, hd, r⟩ := dist_of h'
      exact ⟨d, by omega, r⟩
    · exact ⟨m, Nat.le_refl _, h, fun m' hlt h' => q ⟨m', hlt, h'⟩⟩
termination_by m => m
theorem fewestFrom_dist {b : Bool} {s : List Int} {d : Nat} (h : Dist b s d) : ∀ (f m : Nat), m ≤ d → d < m + f → Mu28.fewestFrom b s f m = Mu28.search b d s
  | 0, m, h1, h2 => by omega
  | f + 1, m, h1, h2 => by
    show (match Mu28.search b m s with
      | some l => some l
      | none => Mu28.fewestFrom b s f (m + 1)) = _
    by_cases e : m = d
    · subst e
      have q := (search_can b m s).mpr h.can
      cases hs : Mu28.search b m s with
      | none => rw [hs] at q; simp at q
      | some l => rfl
    · have q : Mu28.search b m s = none := by
        cases hs : Mu28.search b m s with
        | none => rfl
        | some l => exact absurd ((search_can b m s).mp (by rw [hs]; rfl)) (h.least m (by omega))
      rw [q]
      exact fewestFrom_dist h f (m + 1) (by omega) (by omega)
theorem fewest_dist {b : Bool} {s : List Int} {d : Nat} (h : Dist b s d) (hd : d ≤ 20) : Mu28.fewest b s = Mu28.search b d s := by
  unfold Mu28.fewest Mu28.TRIES
  exact fewestFrom_dist h 21 0 (Nat.zero_le _) (by omega)
theorem search_length (b : Bool) : ∀ (m : Nat) (s : List Int) (l : List Nat), Mu28.search b m s = some l → l.length = m
  | 0, s, l, h => by
    rw [search_zero] at h
    split at h
    · cases h
      rfl
    · cases h
  | m + 1, s, l, h => by
    rw [search_succ] at h
    split at h
    · cases h
    · obtain ⟨k, _, q⟩ := List.exists_of_findSome?_eq_some h
      cases e : Mu28.search b m (Mu28.flip b k s) with
      | none => rw [e] at q; cases q
      | some r =>
        rw [e] at q
        have q' : k :: r = l := Option.some.inj q
        rw [← q', List.length_cons, search_length b m _ r e]
theorem needs_dist {b : Bool} {s : List Int} {d : Nat} (h : Dist b s d) (hd : d ≤ 20) : Mu28.needs b s = d := by
  unfold Mu28.needs
  rw [fewest_dist h hd]
  have q := (search_can b d s).mpr h.can
  cases hs : Mu28.search b d s with
  | none => rw [hs] at q; simp at q
  | some l => exact search_length b d s l hs
/-- the least flip behind which m more sort -/
def nearest (b : Bool) (m : Nat) (s : List Int) : Option Nat := (Mu28.ways b s.length).find? fun k => (Mu28.search b m (Mu28.flip b k s)).isSome
theorem findSome_find {α β : Type} (f : α → Option β) : ∀ l : List α, l.findSome? f = (l.find? fun a => (f a).isSome).bind f
  | [] => rfl
  | a :: l => by
    rw [List.findSome?_cons, List.find?_cons]
    cases h : f a with
    | none =>
      show l.findSome? f = (l.find? fun a => (f a).isSome).bind f
      exact findSome_find f l
    | some x =>
      show some x = f a
      rw [h]
theorem search_near {b : Bool} {m : Nat} {s : List Int} (h : Can b (m + 1) s) : ∃ k l, nearest b m s = some k ∧ k ∈ Mu28.ways b s.length ∧ Mu28.search b m (Mu28.flip b k s) = some l ∧ Mu28.search b (m + 1) s = some (k :: l) := by
  have h1 := (search_can b (m + 1) s).mpr h
  rw [search_succ] at h1
  by_cases g : m + 1 < Mu28.gaps b s
  · rw [if_pos g] at h1
    simp at h1
  · rw [if_neg g, findSome_find] at h1
    have ep : (fun a => (((Mu28.search b m (Mu28.flip b a s)).map fun (l : List Nat) => a :: l)).isSome) = fun k => (Mu28.search b m (Mu28.flip b k s)).isSome := funext fun k => by rw [Option.isSome_map]
    rw [ep] at h1
    cases e : nearest b m s with
    | none =>
      have e' : (Mu28.ways b s.length).find? (fun k => (Mu28.search b m (Mu28.flip b k s)).isSome) = none := e
      rw [e'] at h1
      simp at h1
    | some k =>
      have e' : (Mu28.ways b s.length).find? (fun k => (Mu28.search b m (Mu28.flip b k s)).isSome) = some k := e
      have hk := List.find?_some e'
      cases hs : Mu28.search b m (Mu28.flip b k s) with
      | none => rw [hs] at hk; simp at hk
      | some l =>
        refine ⟨k, l, rfl, List.mem_of_find?_eq_some e', hs, ?_⟩
        rw [search_succ, if_neg g, findSome_find, ep, e']
        show (Mu28.search b m (Mu28.flip b k s)).map (fun (l : List Nat) => k :: l) = _
        rw [hs] <;> rfl
theorem Dist.step {b : Bool} {m : Nat} {s : List Int} {k : Nat} (h : Dist b s (m + 1)) (hk : k ∈ Mu28.ways b s.length) (hc : Can b m (Mu28.flip b k s)) : Dist b (Mu28.flip b k s) m :=
  ⟨hc, fun m' hlt h' => h.least (m' + 1) (by omega) ⟨k, hk, h'⟩⟩
theorem flips_cons (b : Bool) (k : Nat) (l : List Nat) (s : List Int) : Mu28.flips b (k :: l) s = Mu28.flips b l (Mu28.flip b k s) := rfl
theorem flips_append (b : Bool) (l m : List Nat) (s : List Int) : Mu28.flips b (l ++ m) s = Mu28.flips b m (Mu28.flips b l s) := List.foldl_append
theorem flips_length (b : Bool) : ∀ (l : List Nat) (s : List Int), (Mu28.flips b l s).length = s.length
  | [], _ => rfl
  | k :: l, s => by rw [flips_cons, flips_length b l, flip_length]
theorem can_row (b : Bool) : ∀ (l : List Nat) (s : List Int), (∀ k ∈ l, k ∈ Mu28.ways b s.length) → Mu28.flips b l s = Mu28.sorted s.length → Can b l.length s
  | [], s, _, h => h
  | k :: l, s, hl, h => ⟨k, hl k (List.mem_cons_self ..), can_row b l _ (fun j hj => by rw [flip_length]; exact hl j (List.mem_cons_of_mem _ hj)) (by rw [flip_length]; exact h)⟩
end Pk
/-! Pancakes, the mathematics, part 2: stacks, the usual way. -/
namespace Pk

/-- a stack of n: its sizes are 1 to n, each once; no burnt side is up where sides don't count -/
structure Ok (b : Bool) (n : Nat) (s : List Int) : Prop where
  perm : (s.map Int.natAbs).Perm ((List.range n).map (· + 1))
  pos : b = false → ∀ x ∈ s, 0 < x
theorem Ok.length {b : Bool} {n : Nat} {s : List Int} (h : Ok b n s) : s.length = n := by
  have e := h.perm.length_eq
  simpa using e
theorem range_up_nodup (n : Nat) : ((List.range n).map (· + 1)).Nodup := by
  refine List.Pairwise.map _ (R := (· ≠ ·)) (fun a c h q => h (by simpa using q)) ?_
  exact List.nodup_range
theorem Ok.nodup {b : Bool} {n : Nat} {s : List Int} (h : Ok b n s) : (s.map Int.natAbs).Nodup := h.perm.symm.nodup (range_up_nodup n)
theorem Ok.bound {b : Bool} {n : Nat} {s : List Int} (h : Ok b n s) {x : Int} (hx : x ∈ s) : 1 ≤ x.natAbs ∧ x.natAbs ≤ n := by
  have q := h.perm.mem_iff.mp (List.mem_map_of_mem (f := Int.natAbs) hx)
  obtain ⟨i, hi, e⟩ := List.mem_map.mp q
  have := List.mem_range.mp hi
  omega
theorem Ok.has {b : Bool} {n : Nat} {s : List Int} (h : Ok b n s) {v : Nat} (h1 : 1 ≤ v) (h2 : v ≤ n) : ∃ x ∈ s, x.natAbs = v := by
  have q := h.perm.mem_iff.mpr (List.mem_map.mpr ⟨v - 1, List.mem_range.mpr (by omega), (by omega : v - 1 + 1 = v)⟩)
  obtain ⟨x, hx, e⟩ := List.mem_map.mp q
  exact ⟨x, hx, e⟩
theorem Ok.flip {b : Bool} {n : Nat} {s : List Int} (h : Ok b n s) (k : Nat) : Ok b n (Mu28.flip b k s) := by
  refine ⟨(flip_abs b k s).trans h.perm, fun hb x hx => ?_⟩
  subst hb
  rw [flip_eq] at hx
  rcases List.mem_append.mp hx with q | q
  · obtain ⟨y, hy, e⟩ := List.mem_map.mp q
    have e' : y = x := e
    subst e'
    exact h.pos rfl y (List.mem_of_mem_take (List.mem_reverse.mp hy))
  · exact h.pos rfl x (List.mem_of_mem_drop q)
theorem Ok.flips {b : Bool} {n : Nat} : ∀ (l : List Nat) {s : List Int}, Ok b n s → Ok b n (Mu28.flips b l s)
  | [], _, h => h
  | k :: l, _, h => Ok.flips l (h.flip k)
theorem ok_sorted (b : Bool) (n : Nat) : Ok b n (Mu28.sorted n) := by
  refine ⟨?_, fun _ x hx => ?_⟩
  · unfold Mu28.sorted
    rw [List.map_map]
    refine List.Perm.of_eq (List.map_congr_left fun i _ => ?_)
    show ((i : Int) + 1).natAbs = i + 1
    omega
  · unfold Mu28.sorted at hx
    obtain ⟨i, _, e⟩ := List.mem_map.mp hx
    have e' : (i : Int) + 1 = x := e
    omega
/-- one place, one size -/
theorem Ok.inj {b : Bool} {n : Nat} {s : List Int} (h : Ok b n s) {i j : Nat} {x y : Int} (hi : s[i]? = some x) (hj : s[j]? = some y) (e : x.natAbs = y.natAbs) : i = j := by
  have a1 : (s.map Int.natAbs)[i]? = some x.natAbs := by rw [List.getElem?_map, hi]; rfl
  have a2 : (s.map Int.natAbs)[j]? = some x.natAbs := by rw [List.getElem?_map, hj, e]; rfl
  obtain ⟨l1, q1⟩ := List.getElem?_eq_some_iff.mp a1
  obtain ⟨l2, q2⟩ := List.getElem?_eq_some_iff.mp a2
  exact (List.getElem_inj h.nodup).mp (q1.trans q2.symm)
theorem ways_mem {b : Bool} {n k : Nat} : k ∈ Mu28.ways b n ↔ k ≤ n ∧ (if b = true then 1 else 2) ≤ k := by
  unfold Mu28.ways
  rw [List.mem_filter, List.mem_range, decide_eq_true_iff]
  omega
/-- where a size lies -/
theorem place_at {b : Bool} {n v : Nat} {s : List Int} (h : Ok b n s) (h1 : 1 ≤ v) (h2 : v ≤ n) : ∃ x, s[Mu28.placeOf v s - 1]? = some x ∧ x.natAbs = v ∧ 1 ≤ Mu28.placeOf v s ∧ Mu28.placeOf v s ≤ n := by
  obtain ⟨x, hx, e⟩ := h.has h1 h2
  have hlt : s.findIdx (fun (x : Int) => x.natAbs == v) < s.length := List.findIdx_lt_length_of_exists ⟨x, hx, by rw [e]; exact beq_self_eq_true v⟩
  have q := List.findIdx_getElem (p := fun (x : Int) => x.natAbs == v) (xs := s) (w := hlt)
  have hn := h.length
  refine ⟨s[s.findIdx (fun (x : Int) => x.natAbs == v)], ?_, eq_of_beq q, ?_, ?_⟩
  · unfold Mu28.placeOf
    rw [Nat.add_sub_cancel, List.getElem?_eq_getElem hlt]
  · unfold Mu28.placeOf
    omega
  · unfold Mu28.placeOf
    omega
theorem place_is {b : Bool} {n i : Nat} {x : Int} {s : List Int} (h : Ok b n s) (hi : s[i]? = some x) : Mu28.placeOf x.natAbs s = i + 1 := by
  have hb := h.bound (List.mem_of_getElem? hi)
  obtain ⟨y, hy, e, h1, _⟩ := place_at h hb.1 hb.2
  have := h.inj hy hi e
  omega
theorem sorted_get {n i : Nat} (h : i < n) : (Mu28.sorted n)[i]? = some ((i : Int) + 1) := by
  unfold Mu28.sorted
  rw [List.getElem?_map, List.getElem?_range h]
  rfl

/-! ### the usual way sorts -/
/-- the places from v on hold what they hold at the end -/
def Fix (n v : Nat) (s : List Int) : Prop := ∀ i, v ≤ i → i < n → s[i]? = some ((i : Int) + 1)
theorem fix_sorted {b : Bool} {n : Nat} {s : List Int} (h : Ok b n s) (f : Fix n 0 s) : s = Mu28.sorted n := by
  refine List.ext_getElem? fun i => ?_
  by_cases hi : i < n
  · rw [f i (Nat.zero_le _) hi, sorted_get hi]
  · rw [List.getElem?_eq_none (by rw [h.length]; omega), List.getElem?_eq_none (by rw [sorted_length]; omega)]
/-- one turn of it: the flips for size v + 1 -/
def putUp (b : Bool) (v : Nat) (s : List Int) : List Nat :=
  let p := Mu28.placeOf (v + 1) s
  let up := if p = 1 then [] else [p]
  let t := Mu28.flips b up s
  let turn := if b = true ∧ 0 < t.getD 0 0 then [1] else []
  up ++ (turn ++ [v + 1])
def isRight (b : Bool) (v : Nat) (s : List Int) : Bool := Mu28.placeOf (v + 1) s == v + 1 && (!b || decide (0 < s.getD v 0))
theorem usual_zero (b : Bool) (s : List Int) : Mu28.usual b 0 s = [] := rfl
theorem usual_right {b : Bool} {v : Nat} {s : List Int} (h : isRight b v s = true) : Mu28.usual b (v + 1) s = Mu28.usual b v s := if_pos h
theorem usual_put {b : Bool} {v : Nat} {s : List Int} (h : ¬ isRight b v s = true) : Mu28.usual b (v + 1) s = putUp b v s ++ Mu28.usual b v (Mu28.flips b (putUp b v s) s) := if_neg h
theorem getD_of {s : List Int} {i : Nat} {x : Int} (h : s[i]? = some x) : s.getD i 0 = x := by
  rw [List.getD_eq_getElem?_getD, h]
  rfl
/-- a size rightly in its place: its place's number, no burnt side up -/
theorem isRight_iff {b : Bool} {n v : Nat} {s : List Int} (h : Ok b n s) (hv : v < n) : isRight b v s = true ↔ s[v]? = some ((v : Int) + 1) := by
  obtain ⟨x, hx, e, h1, h2⟩ := place_at h (v := v + 1) (by omega) (by omega)
  obtain ⟨y, hy⟩ : ∃ y, s[v]? = some y := ⟨_, List.getElem?_eq_getElem (by rw [h.length]; exact hv)⟩
  have hpos := h.pos
  unfold isRight
  rw [Bool.and_eq_true, beq_iff_eq, getD_of hy]
  constructor
  · rintro ⟨p, q⟩
    rw [p, Nat.add_sub_cancel, hy] at hx
    have exy : y = x := Option.some.inj hx
    subst exy
    have q2 : 0 < y := by
      cases b
      · exact hpos rfl y (List.mem_of_getElem? hy)
      · simpa using q
    rw [hy]
    congr 1
    omega
  · intro q
    rw [hy] at q
    have e2 : y = (v : Int) + 1 := Option.some.inj q
    refine ⟨?_, ?_⟩
    · have := h.inj hx hy (by omega)
      omega
    · have : 0 < y := by omega
      simp [this]
theorem put_fix {b : Bool} {n v : Nat} {s : List Int} (h : Ok b n s) (hv : v < n) (f : Fix n (v + 1) s) (hr : ¬ isRight b v s = true) :
    Fix n v (Mu28.flips b (putUp b v s) s) ∧ (∀ k ∈ putUp b v s, k ∈ Mu28.ways b n) ∧ (putUp b v s).length ≤ 2 + b.toNat := by
  obtain ⟨x, hx, e, h1, h2⟩ := place_at h (v := v + 1) (by omega) (by omega)
  have hn := h.length
  have hp : Mu28.placeOf (v + 1) s ≤ v + 1 := by
    refine Nat.le_of_not_lt fun q => ?_
    have q2 := f (Mu28.placeOf (v + 1) s - 1) (by omega) (by omega)
    rw [hx] at q2
    have q3 := Option.some.inj q2
    omega
  have hrv : ¬ s[v]? = some ((v : Int) + 1) := fun q => hr ((isRight_iff h hv).mpr q)
  -- where sides don't count the least is in its place if all others are
  have hv1 : b = false → 1 ≤ v := fun hb => by
    refine Nat.one_le_iff_ne_zero.mpr fun q => ?_
    subst q
    have q2 : Mu28.placeOf (0 + 1) s = 1 := by omega
    rw [q2] at hx
    have := h.pos hb x (List.mem_of_getElem? hx)
    refine hrv ?_
    rw [hx]
    congr 1
    omega
  -- the first flip
  obtain ⟨up, hup⟩ : ∃ up, up = (if Mu28.placeOf (v + 1) s = 1 then [] else [Mu28.placeOf (v + 1) s]) := ⟨_, rfl⟩
  have A : ∃ y, (Mu28.flips b up s)[0]? = some y ∧ y.natAbs = v + 1 ∧ (∀ i, v + 1 ≤ i → (Mu28.flips b up s)[i]? = s[i]?) ∧ (∀ k ∈ up, k ∈ Mu28.ways b n) ∧ up.length ≤ 1 := by
    by_cases q : Mu28.placeOf (v + 1) s = 1
    · rw [if_pos q] at hup
      subst hup
      rw [q] at hx
      exact ⟨x, hx, e, fun _ _ => rfl, fun k hk => (by cases hk), Nat.zero_le _⟩
    · rw [if_neg q] at hup
      subst hup
      refine ⟨tn b x, ?_, by rw [tn_abs]; exact e, fun i hi => flip_get_hi b (by omega) (by omega), fun k hk => ?_, Nat.le_refl _⟩
      · show (Mu28.flip b (Mu28.placeOf (v + 1) s) s)[0]? = _
        rw [flip_get_lo b (by omega) (by omega), Nat.sub_zero, hx]
        rfl
      · rw [List.mem_singleton] at hk
        subst hk
        rw [ways_mem]
        refine ⟨h2, ?_⟩
        split <;> omega
  obtain ⟨y, hy, ey, ky, wy, ly⟩ := A
  have O1 : Ok b n (Mu28.flips b up s) := h.flips up
  -- the second
  obtain ⟨turn, htu⟩ : ∃ turn, turn = (if b = true ∧ 0 < (Mu28.flips b up s).getD 0 0 then [1] else ([] : List Nat)) := ⟨_, rfl⟩
  have B : ∃ z, (Mu28.flips b turn (Mu28.flips b up s))[0]? = some z ∧ tn b z = (v : Int) + 1 ∧ (∀ i, v + 1 ≤ i → (Mu28.flips b turn (Mu28.flips b up s))[i]? = s[i]?) ∧ (∀ k ∈ turn, k ∈ Mu28.ways b n) ∧ turn.length ≤ b.toNat := by
    rw [getD_of hy] at htu
    by_cases q : b = true ∧ 0 < y
    · rw [if_pos q] at htu
      obtain ⟨rfl, q⟩ := q
      subst htu
      refine ⟨tn true y, ?_, ?_, fun i hi => ?_, fun k hk => ?_, Nat.le_refl _⟩
      · show (Mu28.flip true 1 (Mu28.flips true up s))[0]? = _
        rw [flip_get_lo true (by rw [O1.length]; omega) (by omega), hy]
        rfl
      · rw [tn_tn]
        omega
      · show (Mu28.flip true 1 (Mu28.flips true up s))[i]? = _
        rw [flip_get_hi true (by rw [O1.length]; omega) (by omega), ky i hi]
      · rw [List.mem_singleton] at hk
        subst hk
        rw [ways_mem]
        exact ⟨by omega, Nat.le_refl 1⟩
    · rw [if_neg q] at htu
      subst htu
      refine ⟨y, hy, ?_, ky, fun k hk => (by cases hk), Nat.zero_le _⟩
      cases b
      · have := O1.pos rfl y (List.mem_of_getElem? hy)
        show y = _
        omega
      · have : ¬ 0 < y := fun w => q ⟨rfl, w⟩
        show -y = _
        omega
  obtain ⟨z, hz, ez, kz, wz, lz⟩ := B
  have O2 : Ok b n (Mu28.flips b turn (Mu28.flips b up s)) := O1.flips turn
  have ep : putUp b v s = up ++ (turn ++ [v + 1]) := by
    unfold putUp
    rw [hup, htu, hup]
  rw [ep]
  refine ⟨fun i hi hin => ?_, fun k hk => ?_, ?_⟩
  · rw [flips_append, flips_append]
    show (Mu28.flip b (v + 1) (Mu28.flips b turn (Mu28.flips b up s)))[i]? = _
    by_cases q : i = v
    · subst q
      rw [flip_get_lo b (by rw [O2.length]; omega) (by omega)]
      have e0 : i + 1 - 1 - i = 0 := by omega
      rw [e0, hz]
      show some (tn b z) = _
      rw [ez]
    · rw [flip_get_hi b (by rw [O2.length]; omega) (by omega), kz i (by omega)]
      exact f i (by omega) hin
  · rcases List.mem_append.mp hk with q | q
    · exact wy k q
    · rcases List.mem_append.mp q with q | q
      · exact wz k q
      · rw [List.mem_singleton] at q
        subst q
        rw [ways_mem]
        refine ⟨by omega, ?_⟩
        cases b
        · have := hv1 rfl
          show 2 ≤ v + 1
          omega
        · show 1 ≤ v + 1
          omega
  · rw [List.length_append, List.length_append]
    show up.length + (turn.length + 1) ≤ _
    omega
theorem usual_sorts {b : Bool} {n : Nat} : ∀ (v : Nat) {s : List Int}, Ok b n s → v ≤ n → Fix n v s →
    Mu28.flips b (Mu28.usual b v s) s = Mu28.sorted n ∧ (∀ k ∈ Mu28.usual b v s, k ∈ Mu28.ways b n) ∧ (Mu28.usual b v s).length ≤ v * (2 + b.toNat)
  | 0, s, h, _, f => by
    rw [usual_zero]
    exact ⟨fix_sorted h f, fun k hk => (by cases hk), Nat.zero_le _⟩
  | v + 1, s, h, hv, f => by
    by_cases q : isRight b v s = true
    · rw [usual_right q]
      have f' : Fix n v s := fun i hi hin => by
        by_cases e : i = v
        · subst e
          exact (isRight_iff h hin).mp q
        · exact f i (by omega) hin
      obtain ⟨a, c, d⟩ := usual_sorts v h (by omega) f'
      refine ⟨a, c, ?_⟩
      rw [Nat.succ_mul]
      omega
    · rw [usual_put q]
      obtain ⟨f', w, l⟩ := put_fix h (by omega) f q
      obtain ⟨a, c, d⟩ := usual_sorts v (h.flips (putUp b v s)) (by omega) f'
      refine ⟨by rw [flips_append]; exact a, fun k hk => ?_, ?_⟩
      · rcases List.mem_append.mp hk with r | r
        · exact w k r
        · exact c k r
      · rw [List.length_append, Nat.succ_mul]
        omega
theorem ok_can {b : Bool} {n : Nat} {s : List Int} (h : Ok b n s) : ∃ m, m ≤ n * (2 + b.toNat) ∧ Can b m s := by
  obtain ⟨a, c, d⟩ := usual_sorts n h (Nat.le_refl _) (fun i hi hin => absurd hin (by omega))
  have hn := h.length
  exact ⟨_, d, can_row b _ s (by rw [hn]; exact c) (by rw [hn]; exact a)⟩
theorem ok_dist {b : Bool} {n : Nat} {s : List Int} (h : Ok b n s) : ∃ d, d ≤ n * (2 + b.toNat) ∧ Dist b s d := by
  obtain ⟨m, hm, c⟩ := ok_can h
  obtain ⟨d, hd, q⟩ := dist_of c
  exact ⟨d, by omega, q⟩
/-- stacks as they are handed in -/
def Sz (b : Bool) (n : Nat) : Prop := 1 ≤ n ∧ n ≤ (if b = true then 6 else 8)
theorem dist_small {b : Bool} {n : Nat} {s : List Int} {d : Nat} (z : Sz b n) (h : Ok b n s) (q : Dist b s d) : d ≤ 20 := by
  obtain ⟨e, he, r⟩ := ok_dist h
  have := q.inj r
  subst this
  cases b
  · have h2 : n ≤ 8 := z.2
    have he' : d ≤ n * (2 + 0) := he
    omega
  · have h2 : n ≤ 6 := z.2
    have he' : d ≤ n * (2 + 1) := he
    omega
end Pk
/-! Pancakes, the mathematics, part 3: all stacks in order; how far each is, layer by layer. -/
namespace Pk

/-! ### all stacks -/
theorem stacksOf_zero (b : Bool) (l : List Int) : Mu28.stacksOf b 0 l = [[]] := rfl
theorem stacksOf_succ (b : Bool) (k : Nat) (l : List Int) : Mu28.stacksOf b (k + 1) l = l.flatMap fun (x : Int) => (if b = true then [-x, x] else [x]).flatMap fun (y : Int) => (Mu28.stacksOf b k (l.erase x)).map fun (r : List Int) => y :: r := rfl
def absI (x : Int) : Int := (x.natAbs : Int)
theorem mem_two {b : Bool} {x y : Int} (hx : 0 < x) : y ∈ (if b = true then [-x, x] else [x]) ↔ absI y = x ∧ (b = false → 0 < y) := by
  unfold absI
  cases b
  · rw [if_neg (by decide), List.mem_singleton]
    constructor
    · rintro rfl
      exact ⟨by omega, fun _ => hx⟩
    · rintro ⟨h1, h2⟩
      have := h2 rfl
      omega
  · rw [if_pos rfl, List.mem_cons, List.mem_singleton]
    constructor
    · intro h
      exact ⟨by omega, fun q => by cases q⟩
    · rintro ⟨h1, -⟩
      omega
theorem mem_stacksOf {b : Bool} : ∀ (k : Nat) (l : List Int), l.length = k → (∀ x ∈ l, 0 < x) → ∀ s : List Int, s ∈ Mu28.stacksOf b k l ↔ (s.map absI).Perm l ∧ (b = false → ∀ x ∈ s, 0 < x)
  | 0, l, hl, _, s => by
    have e : l = [] := List.eq_nil_of_length_eq_zero hl
    subst e
    rw [stacksOf_zero, List.mem_singleton]
    constructor
    · rintro rfl
      exact ⟨List.Perm.refl _, fun _ x hx => by cases hx⟩
    · rintro ⟨h, -⟩
      have q := h.eq_nil
      simpa using q
  | k + 1, l, hl, hp, s => by
    rw [stacksOf_succ, List.mem_flatMap]
    constructor
    · rintro ⟨x, hx, h⟩
      rw [List.mem_flatMap] at h
      obtain ⟨y, hy, h⟩ := h
      obtain ⟨r, hr, e⟩ := List.mem_map.mp h
      subst e
      have hxp := hp x hx
      obtain ⟨hy1, hy2⟩ := (mem_two hxp).mp hy
      have hlen : (l.erase x).length = k := by
        rw [List.length_erase_of_mem hx]
        omega
      obtain ⟨q1, q2⟩ := (mem_stacksOf k (l.erase x) hlen (fun z hz => hp z (List.mem_of_mem_erase hz)) r).mp hr
      refine ⟨?_, fun hb z hz => ?_⟩
      · rw [List.map_cons, List.cons_perm_iff_perm_erase, hy1]
        exact ⟨hx, q1⟩
      · rcases List.mem_cons.mp hz with e | e
        · subst e
          exact hy2 hb
        · exact q2 hb z e
    · rintro ⟨h1, h2⟩
      cases s with
      | nil =>
        have := h1.length_eq
        simp at this
        omega
      | cons y r =>
        rw [List.map_cons, List.cons_perm_iff_perm_erase] at h1
        obtain ⟨hx, q1⟩ := h1
        have hlen : (l.erase (absI y)).length = k := by
          rw [List.length_erase_of_mem hx]
          omega
        refine ⟨absI y, hx, ?_⟩
        rw [List.mem_flatMap]
        refine ⟨y, (mem_two (hp _ hx)).mpr ⟨rfl, fun hb => h2 hb y (List.mem_cons_self ..)⟩, List.mem_map.mpr ⟨r, ?_, rfl⟩⟩
        exact (mem_stacksOf k _ hlen (fun z hz => hp z (List.mem_of_mem_erase hz)) r).mpr ⟨q1, fun hb z hz => h2 hb z (List.mem_cons_of_mem _ hz)⟩
theorem map_abs_perm {s : List Int} {n : Nat} : (s.map absI).Perm (Mu28.sorted n) ↔ (s.map Int.natAbs).Perm ((List.range n).map (· + 1)) := by
  have e1 : s.map absI = (s.map Int.natAbs).map Int.ofNat := by
    rw [List.map_map]
    exact List.map_congr_left fun x _ => rfl
  have e2 : Mu28.sorted n = ((List.range n).map (· + 1)).map Int.ofNat := by
    unfold Mu28.sorted
    rw [List.map_map]
    exact List.map_congr_left fun x _ => rfl
  rw [e1, e2]
  refine ⟨fun h => ?_, fun h => h.map _⟩
  have q := h.map Int.toNat
  have e3 : ∀ l : List Nat, (l.map Int.ofNat).map Int.toNat = l := fun l => by
    rw [List.map_map]
    exact List.map_id l
  rw [e3, e3] at q
  exact q
theorem sorted_pos {n : Nat} : ∀ x ∈ Mu28.sorted n, 0 < x := (ok_sorted false n).pos rfl
theorem mem_all {b : Bool} {n : Nat} {s : List Int} : s ∈ Mu28.all b n ↔ Ok b n s := by
  unfold Mu28.all
  rw [mem_stacksOf n (Mu28.sorted n) (sorted_length n) sorted_pos, map_abs_perm]
  exact ⟨fun h => ⟨h.1, h.2⟩, fun h => ⟨h.perm, h.pos⟩⟩
/-- by what stacks stand in order -/
def ord (x : Int) : Int := 2 * absI x + (if 0 < x then 1 else 0)
def ordL (s : List Int) : List Int := s.map ord
theorem ord_inj {x y : Int} (h : ord x = ord y) : x = y := by
  unfold ord absI at h
  split at h <;> split at h <;> omega
theorem ordL_inj : ∀ {s t : List Int}, ordL s = ordL t → s = t
  | [], [], _ => rfl
  | [], _ :: _, h => by cases h
  | _ :: _, [], h => by cases h
  | x :: s, y :: t, h => by
    obtain ⟨h1, h2⟩ := List.cons.inj h
    rw [ord_inj h1, ordL_inj h2]
theorem cons_lt_left {x y : Int} {s t : List Int} (h : x < y) : x :: s < y :: t := List.Lex.rel h
theorem cons_lt_right {x : Int} {s t : List Int} (h : s < t) : x :: s < x :: t := List.Lex.cons h
theorem stacksOf_order {b : Bool} : ∀ (k : Nat) (l : List Int), (∀ x ∈ l, 0 < x) → l.Pairwise (· < ·) → (Mu28.stacksOf b k l).Pairwise fun s t => ordL s < ordL t
  | 0, l, _, _ => by
    rw [stacksOf_zero]
    exact List.pairwise_singleton _ _
  | k + 1, l, hp, hl => by
    rw [stacksOf_succ, List.pairwise_flatMap]
    have heads : ∀ {x : Int} {s : List Int}, s ∈ ((if b = true then [-x, x] else [x]).flatMap fun (y : Int) => (Mu28.stacksOf b k (l.erase x)).map fun (r : List Int) => y :: r) → ∃ y r, s = y :: r ∧ y ∈ (if b = true then [-x, x] else [x]) := fun {x s} h => by
      obtain ⟨y, hy, h⟩ := List.mem_flatMap.mp h
      obtain ⟨r, _, e⟩ := List.mem_map.mp h
      exact ⟨y, r, e.symm, hy⟩
    refine ⟨fun x hx => ?_, ?_⟩
    · have hxp := hp x hx
      have ih := stacksOf_order (b := b) k (l.erase x) (fun z hz => hp z (List.mem_of_mem_erase hz)) (hl.sublist List.erase_sublist)
      rw [List.pairwise_flatMap]
      refine ⟨fun y _ => ?_, ?_⟩
      · rw [List.pairwise_map]
        exact ih.imp fun {s t} q => cons_lt_right q
      · cases b
        · exact List.pairwise_singleton _ _
        · show List.Pairwise _ [-x, x]
          refine List.pairwise_cons.mpr ⟨fun y hy s hs t ht => ?_, List.pairwise_singleton _ _⟩
          rw [List.mem_singleton] at hy
          subst hy
          obtain ⟨r, _, e⟩ := List.mem_map.mp hs
          obtain ⟨r', _, e'⟩ := List.mem_map.mp ht
          subst e e'
          refine cons_lt_left ?_
          unfold ord absI
          rw [if_neg (by omega), if_pos hxp]
          omega
    · refine hl.imp_of_mem fun {x y} hx hy q s hs t ht => ?_
      have hxp := hp x hx
      have hyp := hp y hy
      obtain ⟨u, r, e, hu⟩ := heads hs
      obtain ⟨v, r', e', hv⟩ := heads ht
      subst e e'
      have q1 := ((mem_two hxp).mp hu).1
      have q2 := ((mem_two hyp).mp hv).1
      refine cons_lt_left ?_
      unfold ord
      rw [q1, q2]
      split <;> split <;> omega
theorem sorted_order (n : Nat) : (Mu28.sorted n).Pairwise (· < ·) := by
  unfold Mu28.sorted
  rw [List.pairwise_map]
  exact List.pairwise_lt_range.imp fun {a c} h => by
    show (a : Int) + 1 < (c : Int) + 1
    omega
theorem all_order (b : Bool) (n : Nat) : (Mu28.all b n).Pairwise fun s t => ordL s < ordL t := stacksOf_order n _ sorted_pos (sorted_order n)
theorem list_lt_irrefl (s : List Int) : ¬ s < s := List.lt_irrefl s
theorem all_nodup (b : Bool) (n : Nat) : (Mu28.all b n).Nodup := (all_order b n).imp fun {s t} h e => by
  subst e
  exact list_lt_irrefl _ h
theorem length_flat {α β : Type} {f : α → List β} {c : Nat} : ∀ {l : List α}, (∀ x ∈ l, (f x).length = c) → (l.flatMap f).length = l.length * c
  | [], _ => by simp
  | x :: l, h => by
    rw [List.flatMap_cons, List.length_append, h x (List.mem_cons_self ..), length_flat fun y hy => h y (List.mem_cons_of_mem _ hy), List.length_cons, Nat.succ_mul]
    omega
def cnt (b : Bool) : Nat → Nat
  | 0 => 1
  | k + 1 => (k + 1) * ((if b = true then 2 else 1) * cnt b k)
theorem length_stacksOf {b : Bool} : ∀ (k : Nat) (l : List Int), l.length = k → (Mu28.stacksOf b k l).length = cnt b k
  | 0, _, _ => rfl
  | k + 1, l, hl => by
    rw [stacksOf_succ]
    refine (length_flat (c := (if b = true then 2 else 1) * cnt b k) fun x hx => ?_).trans ?_
    · have hlen : (l.erase x).length = k := by
        rw [List.length_erase_of_mem hx]
        omega
      refine (length_flat (c := cnt b k) fun y _ => by rw [List.length_map, length_stacksOf k _ hlen]).trans ?_
      cases b <;> rfl
    · rw [hl]
      rfl
theorem length_all (b : Bool) (n : Nat) : (Mu28.all b n).length = cnt b n := length_stacksOf n _ (sorted_length n)
theorem cnt_le {b : Bool} {n : Nat} (z : Sz b n) : cnt b n ≤ 46080 := by
  have h1 := z.1
  have h2 := z.2
  cases b
  · have h3 : n ≤ 8 := h2
    have e : n = 1 ∨ n = 2 ∨ n = 3 ∨ n = 4 ∨ n = 5 ∨ n = 6 ∨ n = 7 ∨ n = 8 := by omega
    rcases e with rfl | rfl | rfl | rfl | rfl | rfl | rfl | rfl <;> decide
  · have h3 : n ≤ 6 := h2
    have e : n = 1 ∨ n = 2 ∨ n = 3 ∨ n = 4 ∨ n = 5 ∨ n = 6 := by omega
    rcases e with rfl | rfl | rfl | rfl | rfl | rfl <;> decide

/-! ### how far each stack is -/
abbrev Far := List (List Int × Nat)
def keys (F : Far) : List (List Int) := F.map (·.1)
structure FarOk (b : Bool) (n : Nat) (F : Far) : Prop where
  nodup : (keys F).Nodup
  ok : ∀ p ∈ F, Ok b n p.1 ∧ Dist b p.1 p.2
  all : ∀ s, Ok b n s → ∃ d, (s, d) ∈ F
theorem far_len {b : Bool} {n : Nat} {F : Far} (z : Sz b n) (hn : (keys F).Nodup) (ho : ∀ s ∈ keys F, Ok b n s) : F.length ≤ 46080 := by
  have h := hn.length_le_of_subset (l₂ := Mu28.all b n) fun s hs => mem_all.mpr (ho s hs)
  rw [length_all] at h
  have e : (keys F).length = F.length := List.length_map ..
  have := cnt_le z
  omega
theorem FarOk.oks {b : Bool} {n : Nat} {F : Far} (h : FarOk b n F) : ∀ s ∈ keys F, Ok b n s := fun s hs => by
  obtain ⟨p, hp, e⟩ := List.mem_map.mp hs
  subst e
  exact (h.ok p hp).1
theorem FarOk.at_ {b : Bool} {n : Nat} {F : Far} (h : FarOk b n F) {s : List Int} (hs : Ok b n s) : ∃ d, (s, d) ∈ F ∧ Dist b s d := by
  obtain ⟨d, hd⟩ := h.all s hs
  exact ⟨d, hd, (h.ok _ hd).2⟩
/-- a candidate is put in, if it's new -/
def putNew (m : Nat) (st : Far × List (List Int)) (t : List Int) : Far × List (List Int) := if t ∈ keys st.1 then st else (st.1 ++ [(t, m)], st.2 ++ [t])
def layer1 (b : Bool) (m : Nat) (st : Far × List (List Int)) (s : List Int) : Far × List (List Int) := (Mu28.ways b s.length).foldl (fun st k => putNew m st (Mu28.flip b k s)) st
def nextLayer (b : Bool) (m : Nat) (F : Far) (L : List (List Int)) : Far × List (List Int) := L.foldl (layer1 b m) (F, [])
def cands (b : Bool) (L : List (List Int)) : List (List Int) := L.flatMap fun s => (Mu28.ways b s.length).map fun k => Mu28.flip b k s
theorem nextLayer_cands (b : Bool) (m : Nat) (F : Far) (L : List (List Int)) : nextLayer b m F L = (cands b L).foldl (putNew m) (F, []) := by
  unfold nextLayer cands
  rw [List.foldl_flatMap]
  congr 1
  funext st s
  unfold layer1
  rw [List.foldl_map]
def far1 (b : Bool) (n : Nat) : Nat → Far × List (List Int)
  | 0 => ([(Mu28.sorted n, 0)], [Mu28.sorted n])
  | m + 1 => nextLayer b (m + 1) (far1 b n m).1 (far1 b n m).2
/-- what a run of candidates leaves -/
structure Put (m : Nat) (F : Far) (C : List (List Int)) (st : Far × List (List Int)) : Prop where
  eq : st.1 = F ++ st.2.map fun t => (t, m)
  nodup : st.2.Nodup
  new : ∀ t, t ∈ st.2 ↔ t ∈ C ∧ t ∉ keys F
theorem Put.keys {m : Nat} {F : Far} {C : List (List Int)} {st : Far × List (List Int)} (h : Put m F C st) : keys st.1 = keys F ++ st.2 := by
  rw [h.eq]
  unfold Pk.keys
  rw [List.map_append, List.map_map]
  congr 1
  exact List.map_id _
theorem put_more {m : Nat} {F : Far} {C : List (List Int)} {st : Far × List (List Int)} (h : Put m F C st) (t : List Int) : Put m F (C ++ [t]) (putNew m st t) := by
  unfold putNew
  have hk := h.keys
  by_cases q : t ∈ Pk.keys st.1
  · rw [if_pos q]
    refine ⟨h.eq, h.nodup, fun u => ?_⟩
    rw [h.new u, List.mem_append, List.mem_singleton]
    refine ⟨fun a => ⟨.inl a.1, a.2⟩, fun a => ⟨?_, a.2⟩⟩
    rcases a.1 with r | r
    · exact r
    · subst r
      rw [hk] at q
      rcases List.mem_append.mp q with w | w
      · exact absurd w a.2
      · exact ((h.new u).mp w).1
  · rw [if_neg q]
    rw [hk, List.mem_append, not_or] at q
    refine ⟨?_, ?_, fun u => ?_⟩
    · show st.1 ++ [(t, m)] = F ++ (st.2 ++ [t]).map _
      rw [h.eq, List.map_append, List.append_assoc]
      rfl
    · refine List.nodup_append.mpr ⟨h.nodup, List.pairwise_singleton _ _, fun a ha c hc => ?_⟩
      rw [List.mem_singleton] at hc
      subst hc
      intro e
      subst e
      exact q.2 ha
    · rw [List.mem_append, List.mem_singleton, h.new u, List.mem_append, List.mem_singleton]
      constructor
      · rintro (⟨a, c⟩ | r)
        · exact ⟨.inl a, c⟩
        · subst r
          exact ⟨.inr rfl, q.1⟩
      · rintro ⟨a | a, c⟩
        · exact .inl ⟨a, c⟩
        · exact .inr a
theorem put_all {m : Nat} {F : Far} : ∀ (C D : List (List Int)) {st : Far × List (List Int)}, Put m F D st → Put m F (D ++ C) (C.foldl (putNew m) st)
  | [], D, st, h => by rw [List.append_nil]; exact h
  | t :: C, D, st, h => by
    have q := put_all C (D ++ [t]) (put_more h t)
    rw [List.append_assoc] at q
    exact q
theorem put_nil (m : Nat) (F : Far) : Put m F [] (F, []) := ⟨(List.append_nil F).symm, List.Pairwise.nil, fun t => ⟨fun h => (by cases h), fun h => (by cases h.1)⟩⟩
theorem put_run (m : Nat) (F : Far) (C : List (List Int)) : Put m F C (C.foldl (putNew m) (F, [])) := put_all C [] (put_nil m F)
/-- the keys stay apart, and stay stacks -/
structure Keyed (b : Bool) (n : Nat) (F : Far) : Prop where
  nodup : (keys F).Nodup
  ok : ∀ s ∈ keys F, Ok b n s
theorem Put.keyed {b : Bool} {n m : Nat} {F : Far} {C : List (List Int)} {st : Far × List (List Int)} (h : Put m F C st) (k : Keyed b n F) (hc : ∀ t ∈ C, Ok b n t) : Keyed b n st.1 := by
  refine ⟨?_, fun s hs => ?_⟩
  · rw [h.keys]
    refine List.nodup_append.mpr ⟨k.nodup, h.nodup, fun a ha c hc e => ?_⟩
    subst e
    exact ((h.new a).mp hc).2 ha
  · rw [h.keys] at hs
    rcases List.mem_append.mp hs with q | q
    · exact k.ok s q
    · exact hc s ((h.new s).mp q).1
theorem Keyed.len {b : Bool} {n : Nat} {F : Far} (z : Sz b n) (k : Keyed b n F) : F.length ≤ 46080 := far_len z k.nodup k.ok
/-- after m layers -/
structure Lay (b : Bool) (n m : Nat) (F : Far) (L : List (List Int)) : Prop where
  nodup : (keys F).Nodup
  ok : ∀ p ∈ F, Ok b n p.1 ∧ Dist b p.1 p.2
  all : ∀ s, Ok b n s → ∀ m', m' ≤ m → Can b m' s → ∃ d, (s, d) ∈ F
  lay : ∀ s, s ∈ L ↔ (s, m) ∈ F
  le : ∀ p ∈ F, p.2 ≤ m
theorem Lay.keyed {b : Bool} {n m : Nat} {F : Far} {L : List (List Int)} (h : Lay b n m F L) : Keyed b n F := ⟨h.nodup, fun s hs => by
  obtain ⟨p, hp, e⟩ := List.mem_map.mp hs
  subst e
  exact (h.ok p hp).1⟩
theorem Lay.layOk {b : Bool} {n m : Nat} {F : Far} {L : List (List Int)} (h : Lay b n m F L) : ∀ s ∈ L, Ok b n s := fun s hs => (h.ok _ ((h.lay s).mp hs)).1
theorem cands_ok {b : Bool} {n : Nat} {L : List (List Int)} (h : ∀ s ∈ L, Ok b n s) : ∀ t ∈ cands b L, Ok b n t := fun t ht => by
  obtain ⟨s, hs, q⟩ := List.mem_flatMap.mp ht
  obtain ⟨k, _, e⟩ := List.mem_map.mp q
  subst e
  exact (h s hs).flip k
theorem lay_zero (b : Bool) (n : Nat) : Lay b n 0 [(Mu28.sorted n, 0)] [Mu28.sorted n] := by
  have c0 : Can b 0 (Mu28.sorted n) := by
    show Mu28.sorted n = Mu28.sorted (Mu28.sorted n).length
    rw [sorted_length]
  refine ⟨List.pairwise_singleton _ _, fun p hp => ?_, fun s hs m' hm h => ?_, fun s => ?_, fun p hp => ?_⟩
  · rw [List.mem_singleton] at hp
    subst hp
    exact ⟨ok_sorted b n, c0, fun m hm => absurd hm (Nat.not_lt_zero m)⟩
  · have e : m' = 0 := by omega
    subst e
    have h' : s = Mu28.sorted s.length := h
    rw [hs.length] at h'
    exact ⟨0, by rw [h']; exact List.mem_singleton.mpr rfl⟩
  · rw [List.mem_singleton, List.mem_singleton]
    exact ⟨fun e => by rw [e], fun e => (Prod.mk.inj e).1⟩
  · rw [List.mem_singleton] at hp
    subst hp
    exact Nat.le_refl _
theorem lay_next {b : Bool} {n m : Nat} {F : Far} {L : List (List Int)} (h : Lay b n m F L) : Lay b n (m + 1) (nextLayer b (m + 1) F L).1 (nextLayer b (m + 1) F L).2 := by
  rw [nextLayer_cands]
  obtain ⟨st, hst⟩ : ∃ st, st = (cands b L).foldl (putNew (m + 1)) (F, []) := ⟨_, rfl⟩
  have p : Put (m + 1) F (cands b L) st := by
    rw [hst]
    exact put_run _ _ _
  rw [← hst]
  have co := cands_ok h.layOk
  -- a new one: so many flips, and no fewer
  have new : ∀ t ∈ st.2, Ok b n t ∧ Dist b t (m + 1) := fun t ht => by
    obtain ⟨hc, hk⟩ := (p.new t).mp ht
    have o := co t hc
    refine ⟨o, ?_, fun m' hm' c => ?_⟩
    · obtain ⟨s, hs, q⟩ := List.mem_flatMap.mp hc
      obtain ⟨k, hkw, e⟩ := List.mem_map.mp q
      have d := (h.ok _ ((h.lay s).mp hs)).2
      subst e
      exact ⟨k, by rw [flip_length]; exact hkw, by rw [flip_flip]; exact d.can⟩
    · obtain ⟨d, hd⟩ := h.all t o m' (by omega) c
      exact hk (List.mem_map_of_mem (f := (·.1)) hd)
  have inF : ∀ q, q ∈ st.1 ↔ q ∈ F ∨ (q.1 ∈ st.2 ∧ q.2 = m + 1) := fun q => by
    rw [p.eq, List.mem_append, List.mem_map]
    refine or_congr Iff.rfl ⟨?_, ?_⟩
    · rintro ⟨t, ht, e⟩
      subst e
      exact ⟨ht, rfl⟩
    · rintro ⟨a, c⟩
      exact ⟨q.1, a, by rw [← c]⟩
  refine ⟨(p.keyed h.keyed co).nodup, fun q hq => ?_, fun s hs m' hm' c => ?_, fun s => ?_, fun q hq => ?_⟩
  · rcases (inF q).mp hq with r | ⟨r, e⟩
    · exact h.ok q r
    · rw [e]
      exact new _ r
  · by_cases e : m' ≤ m
    · obtain ⟨d, hd⟩ := h.all s hs m' e c
      exact ⟨d, (inF _).mpr (.inl hd)⟩
    · have e2 : m' = m + 1 := by omega
      subst e2
      obtain ⟨k, hk, c'⟩ := c
      have o' := hs.flip k
      obtain ⟨d, hd⟩ := h.all _ o' m (Nat.le_refl _) c'
      have dd := (h.ok _ hd).2
      have hdm : d ≤ m := Nat.le_of_not_lt fun q => dd.least m q c'
      have hkw : k ∈ Mu28.ways b (Mu28.flip b k s).length := by
        rw [flip_length]
        exact hk
      by_cases e3 : d = m
      · subst e3
        have hl := (h.lay _).mpr hd
        have hc : s ∈ cands b L := List.mem_flatMap.mpr ⟨_, hl, List.mem_map.mpr ⟨k, hkw, flip_flip b k s⟩⟩
        by_cases e4 : s ∈ Pk.keys F
        · obtain ⟨q, hq, e5⟩ := List.mem_map.mp e4
          subst e5
          exact ⟨q.2, (inF _).mpr (.inl hq)⟩
        · exact ⟨d + 1, (inF _).mpr (.inr ⟨(p.new s).mpr ⟨hc, e4⟩, rfl⟩)⟩
      · obtain ⟨d2, hd2⟩ := h.all s hs (d + 1) (by omega) ⟨k, hk, dd.can⟩
        exact ⟨d2, (inF _).mpr (.inl hd2)⟩
  · rw [inF]
    constructor
    · intro hs
      exact .inr ⟨hs, rfl⟩
    · rintro (r | r)
      · have q : m + 1 ≤ m := h.le _ r
        omega
      · exact r.1
  · rcases (inF q).mp hq with r | ⟨_, e⟩
    · have := h.le q r
      omega
    · omega
theorem lay_at (b : Bool) (n : Nat) : ∀ m, Lay b n m (far1 b n m).1 (far1 b n m).2
  | 0 => lay_zero b n
  | m + 1 => lay_next (lay_at b n m)
theorem far_ok (b : Bool) (n : Nat) : FarOk b n (far1 b n (3 * n)).1 := by
  have h := lay_at b n (3 * n)
  refine ⟨h.nodup, h.ok, fun s hs => ?_⟩
  obtain ⟨m, hm, c⟩ := ok_can hs
  refine h.all s hs m ?_ c
  cases b
  · have : m ≤ n * (2 + 0) := hm
    omega
  · have : m ≤ n * (2 + 1) := hm
    omega
/-- within a layer: what stands there so far is bounded -/
theorem run_keyed {b : Bool} {n m : Nat} {F : Far} {L : List (List Int)} (h : Lay b n m F L) {C : List (List Int)} (hc : ∀ t ∈ C, t ∈ cands b L) : Keyed b n (C.foldl (putNew (m + 1)) (F, [])).1 :=
  (put_run (m + 1) F C).keyed h.keyed fun t ht => cands_ok h.layOk t (hc t ht)
theorem put_len {m : Nat} {F : Far} {C : List (List Int)} {st : Far × List (List Int)} (h : Put m F C st) : st.2.length ≤ st.1.length := by
  rw [h.eq, List.length_append, List.length_map]
  omega
end Pk
/-! Pancakes, the mathematics, part 4: tally, worst, what is a stack, rows and rounds. -/
namespace Pk

/-! ### tally -/
/-- how many of a list are 0, 1 .. m -/
def cntL (m : Nat) (l : List Nat) : List Int := (List.range (m + 1)).map fun k => ((l.filter fun x => x == k).length : Int)
theorem cntL_nil (m : Nat) : cntL m [] = List.replicate (m + 1) 0 := by
  unfold cntL
  refine List.ext_getElem? fun i => ?_
  by_cases h : i < m + 1
  · rw [List.getElem?_map, List.getElem?_range h, List.getElem?_replicate, if_pos h]
    rfl
  · rw [List.getElem?_eq_none (by rw [List.length_map, List.length_range]; omega), List.getElem?_eq_none (by rw [List.length_replicate]; omega)]
theorem cntL_length (m : Nat) (l : List Nat) : (cntL m l).length = m + 1 := by
  unfold cntL
  rw [List.length_map, List.length_range]
theorem cntL_get {m v : Nat} (l : List Nat) (h : v ≤ m) : (cntL m l)[v]? = some (((l.filter fun x => x == v).length : Nat) : Int) := by
  unfold cntL
  rw [List.getElem?_map, List.getElem?_range (by omega)]
  rfl
theorem cntL_snoc {m v : Nat} (l : List Nat) (h : v ≤ m) : (cntL m l).set v ((((l.filter fun x => x == v).length : Nat) : Int) + 1) = cntL m (l ++ [v]) := by
  refine List.ext_getElem? fun i => ?_
  by_cases hi : i ≤ m
  · rw [cntL_get _ hi, List.filter_append]
    by_cases e : i = v
    · subst e
      rw [List.getElem?_set_self (by rw [cntL_length]; omega)]
      have q : ([i].filter fun x => x == i) = [i] := by simp
      rw [q, List.length_append]
      rfl
    · rw [List.getElem?_set_ne (fun q => e q.symm), cntL_get _ hi]
      have q : ([v].filter fun x => x == i) = [] := by
        rw [List.filter_cons_of_neg (by simpa using fun q => e q.symm)]
        rfl
      rw [q, List.append_nil]
  · rw [List.getElem?_eq_none (by rw [List.length_set, cntL_length]; omega), List.getElem?_eq_none (by rw [cntL_length]; omega)]
/-- m is the greatest of l -/
def Top (m : Nat) (l : List Nat) : Prop := m ∈ l ∧ ∀ x ∈ l, x ≤ m
theorem foldl_max_le : ∀ (l : List Nat) (a : Nat), a ≤ l.foldl max a ∧ (∀ x ∈ l, x ≤ l.foldl max a) ∧ (l.foldl max a = a ∨ l.foldl max a ∈ l)
  | [], a => ⟨Nat.le_refl _, fun x hx => (by cases hx), .inl rfl⟩
  | y :: l, a => by
    obtain ⟨h1, h2, h3⟩ := foldl_max_le l (max a y)
    rw [List.foldl_cons]
    refine ⟨by omega, fun x hx => ?_, ?_⟩
    · rcases List.mem_cons.mp hx with e | e
      · subst e
        omega
      · exact h2 x e
    · rcases h3 with e | e
      · rw [e]
        by_cases q : a ≤ y
        · exact .inr (by rw [Nat.max_eq_right q]; exact List.mem_cons_self ..)
        · exact .inl (by omega)
      · exact .inr (List.mem_cons_of_mem _ e)
theorem Top.fold {m : Nat} {l : List Nat} (h : Top m l) : l.foldl max 0 = m := by
  obtain ⟨_, h2, h3⟩ := foldl_max_le l 0
  have q := h2 m h.1
  rcases h3 with e | e
  · omega
  · have := h.2 _ e
    omega
theorem tally_eq {b : Bool} {n m : Nat} {l : List Nat} (hl : ((Mu28.all b n).map (Mu28.needs b)).Perm l) (ht : Top m l) : Mu28.nums (Mu28.tally b n) = cntL m l := by
  have ht' : Top m ((Mu28.all b n).map (Mu28.needs b)) := ⟨hl.mem_iff.mpr ht.1, fun x hx => ht.2 x (hl.mem_iff.mp hx)⟩
  unfold Mu28.nums Mu28.tally cntL
  show List.map _ (List.map _ (List.range (((Mu28.all b n).map (Mu28.needs b)).foldl max 0 + 1))) = _
  rw [ht'.fold, List.map_map]
  refine List.map_congr_left fun k _ => ?_
  show ((((((Mu28.all b n).map (Mu28.needs b)).filter fun x => x == k).length : Nat)) : Int) = _
  rw [(hl.filter fun x => x == k).length_eq]
theorem FarOk.perm {b : Bool} {n : Nat} {F : Far} (h : FarOk b n F) (z : Sz b n) : ((Mu28.all b n).map (Mu28.needs b)).Perm (F.map (·.2)) := by
  have e : F.map (·.2) = (keys F).map (Mu28.needs b) := by
    unfold keys
    rw [List.map_map]
    refine List.map_congr_left fun p hp => ?_
    obtain ⟨o, d⟩ := h.ok p hp
    exact (needs_dist d (dist_small z o d)).symm
  rw [e]
  refine List.Perm.map _ ?_
  rw [List.perm_ext_iff_of_nodup (all_nodup b n) h.nodup]
  intro s
  rw [mem_all]
  constructor
  · intro o
    obtain ⟨d, hd⟩ := h.all s o
    exact List.mem_map_of_mem (f := (·.1)) hd
  · exact h.oks s
theorem tally_far {b : Bool} {n m : Nat} {F : Far} (h : FarOk b n F) (z : Sz b n) (t : Top m (F.map (·.2))) : Mu28.nums (Mu28.tally b n) = cntL m (F.map (·.2)) := tally_eq (h.perm z) t

/-! ### worst -/
theorem tally_length {b : Bool} {n m : Nat} {F : Far} (h : FarOk b n F) (z : Sz b n) (t : Top m (F.map (·.2))) : (Mu28.tally b n).length - 1 = m := by
  have e : (Mu28.nums (Mu28.tally b n)).length = (Mu28.tally b n).length := List.length_map ..
  rw [tally_far h z t, cntL_length] at e
  omega
/-- none of them is ahead of s -/
def NoneAhead (l : List (List Int)) (s : List Int) : Prop := ∀ t ∈ l, ¬ ordL t < ordL s
theorem ahead_keep {l : List (List Int)} {s t : List Int} (h : NoneAhead l s) (q : ¬ ordL t < ordL s) : NoneAhead (l ++ [t]) s := fun u hu => by
  rcases List.mem_append.mp hu with r | r
  · exact h u r
  · rw [List.mem_singleton] at r
    subst r
    exact q
theorem ahead_take {l : List (List Int)} {s t : List Int} (h : NoneAhead l s) (q : ordL t < ordL s) : NoneAhead (l ++ [t]) t := fun u hu r => by
  rcases List.mem_append.mp hu with w | w
  · exact h u w (List.lt_trans r q)
  · rw [List.mem_singleton] at w
    subst w
    exact list_lt_irrefl _ r
theorem worst_far {b : Bool} {n m : Nat} {F : Far} {s : List Int} (h : FarOk b n F) (z : Sz b n) (hs : (s, m) ∈ F) (q : ∀ t, (t, m) ∈ F → ¬ ordL t < ordL s) :
    (Mu28.all b n).find? (fun (s : List Int) => Mu28.needs b s == m) = some s := by
  have need : ∀ {t d}, (t, d) ∈ F → Mu28.needs b t = d := fun {t d} r => by
    obtain ⟨o, dd⟩ := h.ok _ r
    exact needs_dist dd (dist_small z o dd)
  have o := (h.ok _ hs).1
  cases e : (Mu28.all b n).find? (fun (s : List Int) => Mu28.needs b s == m) with
  | none =>
    rw [List.find?_eq_none] at e
    exact absurd (beq_iff_eq.mpr (need hs)) (e s (mem_all.mpr o))
  | some t =>
    obtain ⟨ht, as, bs, ea, hn⟩ := List.find?_eq_some_iff_append.mp e
    have ht' : Mu28.needs b t = m := eq_of_beq ht
    have ot : Ok b n t := mem_all.mp (by rw [ea]; exact List.mem_append_right _ (List.mem_cons_self ..))
    have hs' : s ∈ as ++ t :: bs := by
      rw [← ea]
      exact mem_all.mpr o
    obtain ⟨d, hd⟩ := h.all t ot
    have ed : d = m := (need hd).symm.trans ht'
    subst ed
    rcases List.mem_append.mp hs' with r | r
    · have w := hn s r
      rw [need hs] at w
      simp at w
    · rcases List.mem_cons.mp r with r | r
      · rw [r]
      · have w := all_order b n
        rw [ea, List.pairwise_append] at w
        have w2 := List.pairwise_cons.mp w.2.1
        exact absurd (w2.1 s r) (q t hd)

/-! ### what is a stack -/
theorem absI_map (s : List Int) : (s.map fun (x : Int) => (x.natAbs : Int)) = s.map absI := rfl
theorem merge_sorted {l : List Int} {n : Nat} : (l.mergeSort fun (a b : Int) => decide (a ≤ b)) = Mu28.sorted n ↔ l.Perm (Mu28.sorted n) := by
  have p : (l.mergeSort fun (a b : Int) => decide (a ≤ b)).Perm l := List.mergeSort_perm l _
  refine ⟨fun h => ?_, fun h => ?_⟩
  · rw [h] at p
    exact p.symm
  · refine List.Perm.eq_of_pairwise (le := fun a b => a ≤ b) (fun a c _ _ h1 h2 => Int.le_antisymm h1 h2) ?_ ((sorted_order n).imp fun {a c} h => Int.le_of_lt h) (p.trans h)
    exact (List.pairwise_mergeSort (fun a b c h1 h2 => by simp at h1 h2 ⊢; omega) (fun a b => by simp; omega) l).imp fun {a c} h => of_decide_eq_true h
theorem up_sorted {l : List Int} {n : Nat} {u : List Int} (hp : u.Perm l) (hu : u.Pairwise (· ≤ ·)) : u = Mu28.sorted n ↔ l.Perm (Mu28.sorted n) := by
  refine ⟨fun h => ?_, fun h => ?_⟩
  · rw [h] at hp
    exact hp.symm
  · exact List.Perm.eq_of_pairwise (le := fun a b => a ≤ b) (fun a c _ _ h1 h2 => Int.le_antisymm h1 h2) hu ((sorted_order n).imp fun {a c} h => Int.le_of_lt h) (hp.trans h)
theorem isStack_iff {b : Bool} {s : List Int} : Mu28.isStack b s = true ↔ Sz b s.length ∧ Ok b s.length s := by
  unfold Mu28.isStack Sz
  rw [Bool.and_eq_true, Bool.and_eq_true, Bool.and_eq_true, decide_eq_true_iff, beq_iff_eq, merge_sorted, absI_map, map_abs_perm, Bool.or_eq_true, List.all_eq_true]
  have e : (!s.isEmpty) = true ↔ 1 ≤ s.length := by
    cases s with
    | nil => simp
    | cons a l => simp
  rw [e]
  constructor
  · rintro ⟨h1, h2, h3, h4⟩
    refine ⟨⟨h1, h2⟩, h3, fun hb x hx => ?_⟩
    subst hb
    rcases h4 with q | q
    · cases q
    · exact of_decide_eq_true (q x hx)
  · rintro ⟨⟨h1, h2⟩, h3, h4⟩
    refine ⟨h1, h2, h3, ?_⟩
    cases b
    · exact .inr fun x hx => decide_eq_true (h4 rfl x hx)
    · exact .inl rfl

theorem isStack_up {b : Bool} {s u : List Int} (hp : u.Perm (s.map absI)) (hu : u.Pairwise (· ≤ ·)) (h1 : 1 ≤ s.length) (h2 : s.length ≤ (if b = true then 6 else 8)) (h3 : b = false → ∀ x ∈ s, 0 ≤ x) : Mu28.isStack b s = decide (u = Mu28.sorted s.length) := by
  have q : Mu28.isStack b s = true ↔ u = Mu28.sorted s.length := by
    rw [isStack_iff, up_sorted hp hu]
    constructor
    · rintro ⟨_, o⟩
      exact map_abs_perm.mpr o.perm
    · intro h
      have h' := map_abs_perm.mp h
      refine ⟨⟨h1, h2⟩, h', fun hb x hx => ?_⟩
      have c := h3 hb x hx
      obtain ⟨i, _, e⟩ := List.mem_map.mp (h'.mem_iff.mp (List.mem_map_of_mem (f := Int.natAbs) hx))
      omega
  cases e : Mu28.isStack b s
  · exact (decide_eq_false fun w => by rw [q.mpr w] at e; cases e).symm
  · exact (decide_eq_true (q.mp e)).symm
theorem isStack_no {b : Bool} {s : List Int} (h : s.length < 1 ∨ (if b = true then 6 else 8) < s.length ∨ (b = false ∧ ∃ x ∈ s, x < 0)) : Mu28.isStack b s = false := by
  cases e : Mu28.isStack b s
  · rfl
  · obtain ⟨⟨z1, z2⟩, o⟩ := isStack_iff.mp e
    rcases h with h | h | ⟨hb, x, hx, h⟩
    · omega
    · omega
    · have := o.pos hb x hx
      omega

/-! ### rounds -/
theorem rounds_succ (b : Bool) (l : List Nat) (s : List Int) (f n : Nat) (t : List Int) : Mu28.rounds b l s (f + 1) n t = if Mu28.flips b l t = s then some (n + 1) else Mu28.rounds b l s f (n + 1) (Mu28.flips b l t) := rfl
theorem rounds_zero (b : Bool) (l : List Nat) (s : List Int) (n : Nat) (t : List Int) : Mu28.rounds b l s 0 n t = none := rfl
end Pk
/-! Pancakes, the mathematics, part 5: calls read from a flat list. -/
namespace Pk
theorem whole_id (c : List (List Int)) : PyMu28.whole c = c := by
  unfold PyMu28.whole
  split <;> rfl
theorem map_whole (cs : List (List (List Int))) : cs.map PyMu28.whole = cs := by
  have e : PyMu28.whole = id := funext whole_id
  rw [e, List.map_id]
theorem within_iff {z lo hi : Int} : NeutralIO.within z lo hi = true ↔ lo ≤ z ∧ z ≤ hi := by
  unfold NeutralIO.within
  rw [Bool.and_eq_true, decide_eq_true_iff, decide_eq_true_iff]
/-- a row that may be handed in -/
def RowOk (l : List Int) : Prop := l.length ≤ 60 ∧ ∀ z ∈ l, 0 ≤ z ∧ z ≤ 20
theorem row_ok {l : List Int} (h : Mu28Neutral.row l = true) : RowOk l := by
  unfold Mu28Neutral.row at h
  rw [Bool.and_eq_true, decide_eq_true_iff, List.all_eq_true] at h
  exact ⟨h.1, fun z hz => within_iff.mp (h.2 z hz)⟩
theorem nats_ints {l : List Int} (h : RowOk l) : (Mu28Neutral.nats l).map (fun (k : Nat) => (k : Int)) = l := by
  unfold Mu28Neutral.nats
  rw [List.map_map]
  have e : ∀ z ∈ l, ((fun (k : Nat) => (k : Int)) ∘ Int.toNat) z = id z := fun z hz => by
    have := (h.2 z hz).1
    show ((z.toNat : Nat) : Int) = z
    omega
  rw [List.map_congr_left e, List.map_id]
theorem nats_length (l : List Int) : (Mu28Neutral.nats l).length = l.length := List.length_map ..
inductive Form : Int → List Int → List (List Int) → Prop where
  | begin_ (x : Int) (l : List Int) (h1 : 0 ≤ x ∧ x ≤ 5) (h2 : l.length ≤ 20) : Form 0 [x] [l]
  | flip (x : Int) (h1 : 0 ≤ x ∧ x ≤ 20) : Form 1 [x] []
  | look : Form 2 [] []
  | gaps : Form 3 [] []
  | fewest : Form 4 [] []
  | usual : Form 5 [] []
  | try_ (l : List Int) (h : RowOk l) : Form 6 [] [l]
  | same (l m : List Int) (h : RowOk l) (h2 : RowOk m) : Form 7 [] [l, m]
  | round (l : List Int) (h : RowOk l) : Form 8 [] [l]
  | tally (x y : Int) (h1 : 0 ≤ x ∧ x ≤ 9) (h2 : 0 ≤ y ∧ y ≤ 9) : Form 9 [x, y] []
  | worst (x y : Int) (h1 : 0 ≤ x ∧ x ≤ 9) (h2 : 0 ≤ y ∧ y ≤ 9) : Form 10 [x, y] []
  | hint : Form 11 [] []
theorem form_of {c : List (List Int)} (h : Mu28Neutral.asked1 c = true) : ∃ z nums Ls, c = (z :: nums) :: Ls ∧ Form z nums Ls := by
  unfold Mu28Neutral.asked1 at h
  split at h
  · rw [Bool.and_eq_true, Bool.and_eq_true, decide_eq_true_iff] at h
    exact ⟨_, _, _, rfl, .begin_ _ _ (within_iff.mp h.1) h.2.1⟩
  · exact ⟨_, _, _, rfl, .flip _ (within_iff.mp h)⟩
  · exact ⟨_, _, _, rfl, .look⟩
  · exact ⟨_, _, _, rfl, .gaps⟩
  · exact ⟨_, _, _, rfl, .fewest⟩
  · exact ⟨_, _, _, rfl, .usual⟩
  · exact ⟨_, _, _, rfl, .try_ _ (row_ok h)⟩
  · rw [Bool.and_eq_true] at h
    exact ⟨_, _, _, rfl, .same _ _ (row_ok h.1) (row_ok h.2)⟩
  · exact ⟨_, _, _, rfl, .round _ (row_ok h)⟩
  · rw [Bool.and_eq_true] at h
    exact ⟨_, _, _, rfl, .tally _ _ (within_iff.mp h.1) (within_iff.mp h.2)⟩
  · rw [Bool.and_eq_true] at h
    exact ⟨_, _, _, rfl, .worst _ _ (within_iff.mp h.1) (within_iff.mp h.2)⟩
  · exact ⟨_, _, _, rfl, .hint⟩
  · cases h
/-- a row, read at a place -/
theorem row_at {ns : List Int} {i : Nat} {x s : List Int} (h : PyFlat.row (ns.drop i) = some (x, s)) : ∃ n : Nat, ns[i]? = some (n : Int) ∧ i + 1 + n ≤ ns.length ∧ x = (ns.drop (i + 1)).take n ∧ s = ns.drop (i + 1 + n) := by
  cases e : ns.drop i with
  | nil => rw [e] at h; cases h
  | cons n r =>
    rw [e] at h
    have h' : (if 0 ≤ n ∧ n.toNat ≤ r.length then some (r.take n.toNat, r.drop n.toNat) else none) = some (x, s) := h
    have er : r = ns.drop (i + 1) := by
      have q := congrArg List.tail e
      rw [List.tail_drop] at q
      exact q.symm
    have en : ns[i]? = some n := by
      have q := congrArg List.head? e
      rw [List.head?_drop] at q
      exact q
    by_cases c : 0 ≤ n ∧ n.toNat ≤ r.length
    · rw [if_pos c] at h'
      obtain ⟨e1, e2⟩ := Prod.mk.inj (Option.some.inj h')
      have hl : r.length = ns.length - (i + 1) := by rw [er, List.length_drop]
      have hi := (List.getElem?_eq_some_iff.mp en).1
      refine ⟨n.toNat, ?_, by omega, ?_, ?_⟩
      · rw [en]
        congr 1
        omega
      · rw [← e1, er]
      · rw [← e2, er, List.drop_drop]
    · rw [if_neg c] at h'
      cases h'
theorem rows_more {k : Nat} {l : List Int} {xs : List (List Int)} {r : List Int} (h : PyFlat.rows (k + 1) l = some (xs, r)) : ∃ x ys s, PyFlat.row l = some (x, s) ∧ PyFlat.rows k s = some (ys, r) ∧ xs = x :: ys := by
  have h' : (match PyFlat.row l with
    | none => none
    | some (x, s) => match PyFlat.rows k s with
      | none => none
      | some (ys, t) => some (x :: ys, t)) = some (xs, r) := h
  cases e : PyFlat.row l with
  | none => rw [e] at h'; cases h'
  | some q =>
    obtain ⟨x, s⟩ := q
    rw [e] at h'
    have h2 : (match PyFlat.rows k s with
      | none => none
      | some (ys, t) => some (x :: ys, t)) = some (xs, r) := h'
    cases e2 : PyFlat.rows k s with
    | none => rw [e2] at h2; cases h2
    | some q =>
      obtain ⟨ys, t⟩ := q
      rw [e2] at h2
      obtain ⟨a, c⟩ := Prod.mk.inj (Option.some.inj (show some (x :: ys, t) = some (xs, r) from h2))
      subst c
      exact ⟨x, ys, s, rfl, e2, a.symm⟩
/-- how many numbers and rows a call has -/
def plainN : List Int := [1, 1, 0, 0, 0, 0, 0, 0, 0, 2, 2, 0]
def listsN : List Int := [1, 0, 0, 0, 0, 0, 1, 2, 1, 0, 0, 0]
theorem shape_at {z : Int} {n k : Nat} (h : PyMu28.shape z = some (n, k)) : ∃ j : Nat, z = (j : Int) ∧ plainN[j]? = some (n : Int) ∧ listsN[j]? = some (k : Int) := by
  unfold PyMu28.shape at h
  by_cases c0 : z = 0
  · rw [if_pos c0] at h
    obtain ⟨e1, e2⟩ := Prod.mk.inj (Option.some.inj h)
    subst e1 e2
    exact ⟨0, c0, rfl, rfl⟩
  rw [if_neg c0] at h
  by_cases c1 : z = 1
  · rw [if_pos c1] at h
    obtain ⟨e1, e2⟩ := Prod.mk.inj (Option.some.inj h)
    subst e1 e2
    exact ⟨1, c1, rfl, rfl⟩
  rw [if_neg c1] at h
  by_cases c2 : z = 2
  · rw [if_pos c2] at h
    obtain ⟨e1, e2⟩ := Prod.mk.inj (Option.some.inj h)
    subst e1 e2
    exact ⟨2, c2, rfl, rfl⟩
  rw [if_neg c2] at h
  by_cases c3 : z = 3
  · rw [if_pos c3] at h
    obtain ⟨e1, e2⟩ := Prod.mk.inj (Option.some.inj h)
    subst e1 e2
    exact ⟨3, c3, rfl, rfl⟩
  rw [if_neg c3] at h
  by_cases c4 : z = 4
  · rw [if_pos c4] at h
    obtain ⟨e1, e2⟩ := Prod.mk.inj (Option.some.inj h)
    subst e1 e2
    exact ⟨4, c4, rfl, rfl⟩
  rw [if_neg c4] at h
  by_cases c5 : z = 5
  · rw [if_pos c5] at h
    obtain ⟨e1, e2⟩ := Prod.mk.inj (Option.some.inj h)
    subst e1 e2
    exact ⟨5, c5, rfl, rfl⟩
  rw [if_neg c5] at h
  by_cases c6 : z = 6
  · rw [if_pos c6] at h
    obtain ⟨e1, e2⟩ := Prod.mk.inj (Option.some.inj h)
    subst e1 e2
    exact ⟨6, c6, rfl, rfl⟩
  rw [if_neg c6] at h
  by_cases c7 : z = 7
  · rw [if_pos c7] at h
    obtain ⟨e1, e2⟩ := Prod.mk.inj (Option.some.inj h)
    subst e1 e2
    exact ⟨7, c7, rfl, rfl⟩
  rw [if_neg c7] at h
  by_cases c8 : z = 8
  · rw [if_pos c8] at h
    obtain ⟨e1, e2⟩ := Prod.mk.inj (Option.some.inj h)
    subst e1 e2
    exact ⟨8, c8, rfl, rfl⟩
  rw [if_neg c8] at h
  by_cases c9 : z = 9
  · rw [if_pos c9] at h
    obtain ⟨e1, e2⟩ := Prod.mk.inj (Option.some.inj h)
    subst e1 e2
    exact ⟨9, c9, rfl, rfl⟩
  rw [if_neg c9] at h
  by_cases c10 : z = 10
  · rw [if_pos c10] at h
    obtain ⟨e1, e2⟩ := Prod.mk.inj (Option.some.inj h)
    subst e1 e2
    exact ⟨10, c10, rfl, rfl⟩
  rw [if_neg c10] at h
  by_cases c11 : z = 11
  · rw [if_pos c11] at h
    obtain ⟨e1, e2⟩ := Prod.mk.inj (Option.some.inj h)
    subst e1 e2
    exact ⟨11, c11, rfl, rfl⟩
  rw [if_neg c11] at h
  cases h
/-- a call, read at a place -/
theorem call_at {ns : List Int} {i : Nat} {c : List (List Int)} {t : List Int} (h : PyFlat.call PyMu28.shape (ns.drop i) = some (c, t)) : ∃ (z : Int) (j n k : Nat) (Ls : List (List Int)), ns[i]? = some z ∧ z = (j : Int) ∧ plainN[j]? = some (n : Int) ∧ listsN[j]? = some (k : Int) ∧ i + 1 + n ≤ ns.length ∧
    PyFlat.rows k (ns.drop (i + 1 + n)) = some (Ls, t) ∧ c = (z :: (ns.drop (i + 1)).take n) :: Ls := by
  cases e : ns.drop i with
  | nil => rw [e] at h; cases h
  | cons z r =>
    rw [e] at h
    have er : r = ns.drop (i + 1) := by
      have q := congrArg List.tail e
      rw [List.tail_drop] at q
      exact q.symm
    have en : ns[i]? = some z := by
      have q := congrArg List.head? e
      rw [List.head?_drop] at q
      exact q
    have hi := (List.getElem?_eq_some_iff.mp en).1
    have h' : (match PyMu28.shape z with
      | none => none
      | some (n, k) => if r.length < n then none else match PyFlat.rows k (r.drop n) with
        | none => none
        | some (xs, t) => some ((z :: r.take n) :: xs, t)) = some (c, t) := h
    cases es : PyMu28.shape z with
    | none => rw [es] at h'; cases h'
    | some q =>
      obtain ⟨n, k⟩ := q
      rw [es] at h'
      obtain ⟨j, e1, e2, e3⟩ := shape_at es
      have h2 : (if r.length < n then none else match PyFlat.rows k (r.drop n) with
        | none => none
        | some (xs, t) => some ((z :: r.take n) :: xs, t)) = some (c, t) := h'
      by_cases cl : r.length < n
      · rw [if_pos cl] at h2
        cases h2
      · rw [if_neg cl] at h2
        have hl : r.length = ns.length - (i + 1) := by rw [er, List.length_drop]
        cases e4 : PyFlat.rows k (r.drop n) with
        | none => rw [e4] at h2; cases h2
        | some q =>
          obtain ⟨xs, t'⟩ := q
          rw [e4] at h2
          obtain ⟨a, b⟩ := Prod.mk.inj (Option.some.inj (show some ((z :: r.take n) :: xs, t') = some (c, t) from h2))
          subst b
          refine ⟨z, j, n, k, xs, en, e1, e2, e3, by omega, ?_, ?_⟩
          · rw [← List.drop_drop, ← er]
            exact e4
          · rw [← a, er]
theorem calls_more {f : Nat} {l : List Int} {cs : List (List (List Int))} (h : PyFlat.calls PyMu28.shape f l = some cs) (hl : l ≠ []) : ∃ g c t cs', PyFlat.call PyMu28.shape l = some (c, t) ∧ PyFlat.calls PyMu28.shape g t = some cs' ∧ cs = c :: cs' := by
  cases l with
  | nil => exact absurd rfl hl
  | cons p r =>
    cases f with
    | zero => cases h
    | succ f =>
      have h' : (match PyFlat.call PyMu28.shape (p :: r) with
        | none => none
        | some (c, t) => match PyFlat.calls PyMu28.shape f t with
          | none => none
          | some cs => some (c :: cs)) = some cs := h
      cases e : PyFlat.call PyMu28.shape (p :: r) with
      | none => rw [e] at h'; cases h'
      | some q =>
        obtain ⟨c, t⟩ := q
        rw [e] at h'
        have h2 : (match PyFlat.calls PyMu28.shape f t with
          | none => none
          | some cs => some (c :: cs)) = some cs := h'
        cases e2 : PyFlat.calls PyMu28.shape f t with
        | none => rw [e2] at h2; cases h2
        | some cs' =>
          rw [e2] at h2
          exact ⟨f, c, t, cs', rfl, e2, (Option.some.inj h2).symm⟩
theorem calls_end {f : Nat} {cs : List (List (List Int))} (h : PyFlat.calls PyMu28.shape f [] = some cs) : cs = [] := by
  cases f <;> exact (Option.some.inj h).symm
theorem asked_open {ns : List Int} (h : PyMu28.answers_asked ns = true) : ∃ cs, PyFlat.calls PyMu28.shape ns.length ns = some cs ∧ cs.length ≤ 40 ∧ (∀ c ∈ cs, Mu28Neutral.asked1 c = true) ∧
    PyMu28.answers ns = PyFlat.told (PyFlat.played Mu28Neutral.step Mu28Neutral.start cs) := by
  unfold PyMu28.answers_asked at h
  cases e : PyFlat.calls PyMu28.shape ns.length ns with
  | none => rw [e] at h; cases h
  | some raw =>
    rw [e] at h
    have h2 : (!raw.isEmpty && PyFlat.atMost 40 raw && PyInside.calls PyMu28.bound raw && Mu28Neutral.asked (raw.map PyMu28.whole) && PyFlat.short 10000000 (PyMu28.answers ns)) = true := h
    rw [Bool.and_eq_true, Bool.and_eq_true, Bool.and_eq_true, map_whole] at h2
    have h3 := h2.1.2
    unfold Mu28Neutral.asked at h3
    rw [Bool.and_eq_true, Bool.and_eq_true, decide_eq_true_iff, decide_eq_true_iff, List.all_eq_true] at h3
    refine ⟨raw, rfl, h3.2.1, h3.2.2, ?_⟩
    unfold PyMu28.answers PyMu28.calls
    rw [e]
    show PyFlat.told (PyFlat.played Mu28Neutral.step Mu28Neutral.start (raw.map PyMu28.whole)) = _
    rw [map_whole]
theorem told_cons (a : List Int) (l : List (List Int)) : PyFlat.told (a :: l) = (a.length : Int) :: (a ++ PyFlat.told l) := by
  unfold PyFlat.told
  rw [List.flatMap_cons]
  rfl
theorem played_cons (s : Mu28Neutral.S) (c : List (List Int)) (cs : List (List (List Int))) : PyFlat.played Mu28Neutral.step s (c :: cs) = (Mu28Neutral.step s c).2 :: PyFlat.played Mu28Neutral.step (Mu28Neutral.step s c).1 cs := rfl
end Pk
/-! Rules that the hand layer lacks: t[::-1] of a tuple; {k: v} with a tuple for its key; d.values() of a dict with tuple keys, walked, and max of it; xs < ys of lists of whole numbers. -/
namespace Px
open PySem PySem.Spec PyProof.Rows L2 HT

/-! ### t[::-1] -/
section
variable {prog : Program} {w : World} {A : Around} {E : Value → Shared → Prop} {s : Shared}
theorem adjust_back (n : Nat) : Builtin.Slice.sliceAdjust none none (-1) (n : Int) = ((n : Int) - 1, -1) := rfl
theorem places_back (n : Nat) : Builtin.Slice.slicePlaces ((n : Int) - 1) (-1) (-1) = n := by
  unfold Builtin.Slice.slicePlaces
  have h1 : ¬ ((-1 : Int) > 0) := by omega
  rw [if_neg h1]
  by_cases h : (n : Int) - 1 > -1
  · rw [if_pos h]
    have e : (-(-1) : Int) = 1 := by omega
    rw [e, Int.ediv_one]
    omega
  · rw [if_neg h]
    show 0 = n
    omega
theorem sliceApplied_back {sl : Addr} {vl vu vs : Value} {n : Nat} {Q : Int × Int × Nat → Shared → Prop} (hs : s.heap.IsSliceOf sl vl vu vs) (pl : IsPart vl none) (pu : IsPart vu none) (ps : IsPart vs (some (-1)))
    (h : Q ((n : Int) - 1, -1, n) s) : wpAny (model prog w) A (Builtin.Slice.sliceApplied (.ref sl) (pure (n : Int))) Q E s := by
  obtain ⟨os, hos, hcs, hds⟩ := id hs
  unfold Builtin.Slice.sliceApplied Builtin.Slice.sliceFields
  refine wpAny_bind (wpAny_bind (wpAny_field hos hds (x := vl) rfl (wpAny_bind (wpAny_field hos hds (x := vu) rfl (wpAny_bind (wpAny_field hos hds (x := vs) rfl (wpAny_pure ?_)))))))
  refine wpAny_bind (slicePart_ ps ?_)
  show wpAny _ _ (if ((-1 : Int) == 0) = true then _ else _) _ _ s
  rw [if_neg (by decide)]
  refine wpAny_bind (slicePart_ pl (wpAny_bind (slicePart_ pu (wpAny_bind (wpAny_pure ?_)))))
  show wpAny _ _ (match Builtin.Slice.sliceAdjust none none (-1) (n : Int) with | (lo, hi) => pure (lo, (-1 : Int), Builtin.Slice.slicePlaces lo hi (-1))) _ _ s
  rw [adjust_back n]
  show wpAny _ _ (pure ((n : Int) - 1, (-1 : Int), Builtin.Slice.slicePlaces ((n : Int) - 1) (-1) (-1))) _ _ s
  rw [places_back]
  exact wpAny_pure h
theorem pick_back (xs : Array Value) : ((List.range xs.size).filterMap fun (m : Nat) => xs[(((xs.size : Int) - 1) + (m : Int) * (-1)).toNat]?).toArray = xs.toList.reverse.toArray := by
  have e : ((List.range xs.size).filterMap fun (m : Nat) => xs[(((xs.size : Int) - 1) + (m : Int) * (-1)).toNat]?) = ((List.range xs.size).map fun k => xs.size - 1 - k).filterMap (xs[·]?) := by
    rw [List.filterMap_map]
    refine congrArg (fun f => List.filterMap f (List.range xs.size)) (funext fun m => ?_)
    have q : (((xs.size : Int) - 1) + (m : Int) * (-1)).toNat = xs.size - 1 - m := by omega
    rw [q]
    rfl
  rw [e, PySem.W.krv_range, List.filterMap_reverse, PySem.W.krv_all]
theorem getItem_tuple_back {t sl : Addr} {items : Array Value} {vl vu vs : Value} {Q : Value → Shared → Prop} (ht : IsTup s.heap t items) (hs : s.heap.IsSliceOf sl vl vu vs) (pl : IsPart vl none) (pu : IsPart vu none) (ps : IsPart vs (some (-1)))
    (h : Q (.ref s.heap.objs.size) { s with heap := s.heap.push { cls := .type "tuple", data := .seq items.toList.reverse.toArray } })
    (hsz : items.size ≤ sizeLine) : wpAny (model prog w) A (getItem (.ref t) (.ref sl)) Q E s := by
  have htake : sizeOk (.seq items.toList.reverse.toArray) := by
    show items.toList.reverse.toArray.size ≤ sizeLine
    rw [List.size_toArray, List.length_reverse, Array.length_toList]
    exact hsz
  obtain ⟨os, hos, hcs, hds⟩ := id hs
  have hTs : s.TypeIs (.ref sl) "slice" := ⟨os, hos, hcs⟩
  unfold getItem
  try with_reducible refine wpAny_holding ?_
  first | refine wpAny_bind (wpAny_pure ?_) | skip
  refine wpAny_bind (wpAny_sequenceKey ht.typeIs (by decide) ?_)
  refine wpAny_bind (wpAny_callSpecial?_slot (name := Str.ofString "__getitem__") ht.typeIs PyProof.Rows.slot_tuple_getitem
    (wpAny_call_entry PyProof.Rows.slot_tuple_getitem ht.typeIs entry_tuple_getitem ?_ (args_tuple_getitem _ _)))
  show wpAny _ _ (Builtin.Tuple.tupleItemsOf (.ref t) >>= _) _ _ s
  refine wpAny_bind (tupleItemsOf_ ht ?_)
  refine wpAny_bind (wpAny_typeOf hTs ?_)
  rw [if_pos (by decide)]
  refine wpAny_bind (sliceApplied_back hs pl pu ps ?_)
  have hno : ¬ ((((items.size : Int) - 1) == 0 && (-1 : Int) == 1 && items.size == items.size) = true) := by
    intro q
    rw [Bool.and_eq_true, Bool.and_eq_true] at q
    have q1 : (-1 : Int) = 1 := eq_of_beq q.1.2
    omega
  show wpAny _ _ (if (((items.size : Int) - 1) == 0 && (-1 : Int) == 1 && items.size == items.size) = true then _ else _) _ _ s
  rw [if_neg hno, pick_back]
  first
    | exact wpAny_bind (m := Builtin.Tuple.tupleExact _) (wpAny_newObj_type (wpAny_pure ⟨_, rfl, wpAny_pure h⟩) htake)
    | exact wpAny_bind (m := Builtin.Tuple.tupleExact _) (wpAny_newObj_type (wpAny_bind (wpAny_pure (wpAny_pure ⟨_, rfl, wpAny_pure h⟩))) htake)
    | exact wpAny_bind (wpAny_bind (m := Builtin.Tuple.tupleExact _) (wpAny_newObj_type (wpAny_pure (wpAny_pure ⟨_, rfl, wpAny_pure h⟩)) htake))
    | exact wpAny_bind (wpAny_bind (m := Builtin.Tuple.tupleExact _) (wpAny_newObj_type (wpAny_pure ⟨_, rfl, wpAny_pure h⟩) htake))
end
section
variable {X : Cx}
def tRevT (K : PySem.W.Frag) (te : TE) : TE := fun σ H Q => te σ H fun x H1 => ∃ a xs, x = .ref a ∧ SqT K H1 a xs ∧ ∀ p, H1 p = none → Q (.ref p) (upd H1 p (.tup xs.reverse))
theorem pe_revT {e : Expr} {te : TE} {k : Nat} {p1 p2 p3 pos : Pos} (he : PE X e te) : PE X (.Subscript e (.Slice none none (some (.UnaryOp .USub (.Constant (.int 1) k p1) p2)) p3) pos) (tRevT X.K te) := by
  refine ⟨fun pins s σ H Q I h => ?_⟩
  refine Subscript_ (thn (he.run pins s σ H _ I h) fun v s1 ⟨x, H1, I1, r1, q1⟩ => ?_)
  obtain ⟨a, xs, ex, hx, q⟩ := q1
  subst ex
  cases r1
  have hst : PO X (some (.UnaryOp .USub (.Constant (.int 1) k p1) p2)) (tPart (tUn (rU fun i => .int (-i)) (tC (.int 1)))) := po_some (pe_un un_neg pe_int)
  refine wpAny_Slice (thn (po_none.run pins s1 σ H1 (fun o H2 => o = none ∧ H2 = H1) I1 ⟨rfl, rfl⟩) fun vl s2 ⟨l, H2, I2, pl, el, e2⟩ => ?_)
  subst el e2
  refine thn (po_none.run pins s2 σ H2 (fun o H3 => o = none ∧ H3 = H2) I2 ⟨rfl, rfl⟩) fun vu s3 ⟨u, H3, I3, pu, eu, e3⟩ => ?_
  subst eu e3
  refine thn (hst.run pins s3 σ H3 (fun o H4 => o = some (-1) ∧ H4 = H3) I3 ⟨1, rfl, -1, rfl, rfl, rfl⟩) fun vs s4 ⟨o, H4, I4, ps, eo, e4⟩ => ?_
  subst eo e4
  have I5 : Inv X pins σ H4 { s4 with heap := s4.heap.push { cls := .type "slice", data := .fields #[vl, vu, vs] } } := I4.kept (t' := s4.toks) fun b ob q => Heap.get?_push_of_some _ q
  obtain ⟨its, r, ht, hz⟩ := I5.tuple hx
  have hlen := r.length
  show wpAny (model X.prog X.w) X.A (subscriptTail e (.Slice none none (some (.UnaryOp .USub (.Constant (.int 1) k p1) p2)) p3) (.ref a) (.ref s4.heap.objs.size)) (EP X pins σ Q) X.xe { s4 with heap := s4.heap.push { cls := .type "slice", data := .fields #[vl, vu, vs] } }
  refine tail_any (ops := [.ref a, .ref s4.heap.objs.size]) ht.typeIs (PyProof.Rows.slot_tuple_getitem.lookup) ?_ (by with_unfolding_all rfl)
  refine getItem_tuple_back ht (Heap.IsSliceOf.new _ vl vu vs) pl pu ps ?_ (by rw [List.size_toArray]; omega)
  refine ⟨.ref _, _, I5.laid (t' := s4.toks) (o := .tup xs.reverse) (fun b ob q => Heap.get?_push_of_some _ q) (Nat.le_refl _) ?_, rfl, q _ (I5.hok.fresh (Nat.le_refl _))⟩
  exact ⟨by rw [List.length_reverse]; exact hz, _, r.reverse, IsTup.new _ _⟩
/-! ### {k: v}, k a tuple -/
def tDisp1 (tk tv : TE) : TE := fun σ H Q => ∀ p, H p = none → tk σ (upd H p (.dT [])) fun x H2 => tv σ H2 fun y H3 => H3 p = some (.dT []) ∧ ∃ (b : Addr) (k : List L2.Key), x = .ref b ∧ H3 b = some (.tup (k.map kV)) ∧ Q (.ref p) (upd H3 p (.dT [(k, y)]))
theorem pe_disp1 {k v : Expr} {tk tv : TE} {pos : Pos} (hu : X.A.units < cLine) (hk : PE X k tk) (hv : PE X v tv) : PE X (.Dict [some k] [v] pos) (tDisp1 tk tv) := by
  refine ⟨fun pins s σ H Q I h => ?_⟩
  have hn := I.hok.fresh (Nat.le_refl s.heap.objs.size)
  have I1 := I.laid (a := s.heap.objs.size) (o := .dT []) (h' := s.heap.push { cls := .type "dict", data := .dict #[] }) (t' := s.toks) (fun _ _ q => Heap.get?_push_of_some _ q) (Nat.le_refl _) (dt_empty s.heap I.big)
  have hp : PPs X pos [some k] [v] [(tk, tv)] := pps_cons hk hv pps_nil
  have hshape : (evalEachOpt [some k] X.env).zip ((evalEach [v] X.env).map fun v => do let x ← v; standAt pos; pure x) = (pairTrees [some k] [v] X.env pos).map fun p => (some p.1, p.2) := rfl
  rw [arm_eval_Dict, hshape, dictDisplay_pairs (pairTrees [some k] [v] X.env pos) (by intro z; cases z) (by show 1 < 17; decide)]
  refine wpAny_bind (wpAny_standAt (wpAny_bind (wpAny_subDictH (knd := tupleKind (mixKind X.prog X.w)) (Q := fun d s' => wpAny (model X.prog X.w) X.A (pure (Value.ref d)) (EP X pins σ Q) X.xe s') hu (by show 1 ≤ 15; decide)
    (wpAny_mono (hp.run pins _ σ _ (fun ps H3 => match ps with | [(x, y)] => H3 s.heap.objs.size = some (.dT []) ∧ ∃ (b : Addr) (k : List L2.Key), x = .ref b ∧ H3 b = some (.tup (k.map kV)) ∧ Q (.ref s.heap.objs.size) (upd H3 s.heap.objs.size (.dT [(k, y)])) | _ => False) I1 ?_) (fun vs s₁ h₁ => ?_) fun _ _ e => e))))
  · exact h _ hn
  · obtain ⟨ps, H2, I2, rel, q0⟩ := h₁
    match ps, rel, q0 with
    | [(x, y)], .cons (b := q) (l₂ := qs) r1 r2, ⟨e, b, kk, ex, hb, q2⟩ =>
      subst ex
      obtain ⟨u1, u2⟩ := q
      cases r2
      cases (show u1 = Value.ref b from r1.1)
      obtain ⟨z, hd, xs, rel2, dd⟩ := dt_of I2.hok e
      cases rel2
      refine ⟨[(kk, b, u2)], ⟨rfl, rfl, key_of I2.hok hb, trivial⟩, dd, fun h' tk' dd' hs => wpAny_pure ?_⟩
      obtain ⟨q, es, ep, hq, h2, h3, h4, _, h5⟩ := dd'
      have I3 : Inv X pins σ (upd H2 s.heap.objs.size (.dT [(kk, y)])) { s₁ with heap := h', toks := tk' } := by
        refine (d_write (t' := tk') I2 (by rw [e]; exact True.intro) hs ⟨q, hq⟩ ⟨by show 1 ≤ sizeLine; decide, hd, _, ?_, q, es, ep, hq, h2, h3, h4, h5⟩)
        refine .cons ⟨rfl, ?_, r1.2⟩ .nil
        rw [upd_ne (ne_of hb e (fun z => nomatch z))]
        exact hb
      exact ⟨.ref s.heap.objs.size, _, I3, rfl, q2⟩
/-! ### d.values() of a dict with tuple keys -/
theorem Inv.rawT {pins : List (Addr × Obj)} {σ : L2.St} {H : Hp} {s : Shared} {d : Addr} {kvs : List (List L2.Key × V)} (I : Inv X pins σ H s) (h : Rd H d (.dT kvs)) :
    (d == sysModules) = false ∧ ∃ (es : Array DictEntry) (ep : Nat), s.heap.DictRaw d es ep ∧ es.size = kvs.length ∧
      ∀ (i : Nat) (k : List L2.Key) (v : V), kvs[i]? = some (k, v) → ∃ en : DictEntry, es[i]? = some en ∧ RelV v en.val := by
  have q : ObjOk X.prog X.w H s.heap d (.dT kvs) := h.ok I.hok
  obtain ⟨z, hs, xs, pr, o', es, ep, ho, hx, hdt, he, _⟩ := q
  refine ⟨hs, es, ep, ⟨o', ho, hx, hdt⟩, ?_, fun i k v e => ?_⟩
  · have l1 : es.size = xs.length := size_of_entries he
    have l2 : kvs.length = xs.length := Paired.length pr
    omega
  · obtain ⟨b, hb, e1, e2, e3⟩ := paired_get pr e
    have q := entry_at he i
    rw [hb] at q
    exact ⟨_, q, e3⟩
/-- the view at p -/
def valsO (p d : Addr) : HO := .ext fun h => h.IsValuesView p d
theorem valsO_ok {P : Program} {w : World} {H : Hp} {h : Heap} {p d : Addr} (e : h.get? p = some { cls := .type "dict_values", data := .fields #[.ref d] }) : ObjOk P w H h p (valsO p d) :=
  ⟨⟨_, e, rfl, rfl⟩, ⟨_, e⟩, fun h1 h2 x k => let ⟨o, ho, r⟩ := x; ⟨o, k o ho, r⟩⟩
def rValsT : V → List V → Hp → VK → Prop := fun x xs H Q => ∃ (a : Addr) (kvs : List (List L2.Key × V)), x = .ref a ∧ xs = [] ∧ H a = some (.dT kvs) ∧ ∀ p, H p = none → Q (.ref p) (upd H p (valsO p a))
theorem mt_valsT : MtR X "dict.values" rValsT := by
  intro pins s σ H x xs v us Q I rx rxs h
  obtain ⟨a, kvs, rfl, rfl, ha, q⟩ := h
  cases rx
  cases rxs
  obtain ⟨hs, es, ep, hm, _, _⟩ := Inv.rawT I (.inl ha)
  have hf : H s.heap.objs.size = none := I.hok.fresh (Nat.le_refl _)
  refine call_meetsIn F.slot_dict_values hm.typeIs F.entry_dict_values (F.args_dict_values_1 _) (meets_dict_values_raw a hs) ⟨⟨es, ep, hm⟩, ?_⟩
  exact ⟨.ref s.heap.objs.size, upd H s.heap.objs.size (valsO s.heap.objs.size a), I.laid (t' := s.toks) (fun b u e => Heap.get?_push_of_some _ e) (Nat.le_refl _) (valsO_ok (Heap.get?_push_size _ rfl)), rfl, q _ hf⟩
/-- max of it -/
def rMaxV : List V → Hp → VK → Prop := fun vs H Q => ∃ (p d : Addr) (kvs : List (List L2.Key × V)) (ns : List Int), vs = [.ref p] ∧ H p = some (valsO p d) ∧ H d = some (.dT kvs) ∧ kvs.map (·.2) = ns.map V.int ∧ 0 < ns.length ∧
  ∀ m, m ∈ ns → (∀ y, y ∈ ns → y ≤ m) → Q (.int m) H
theorem cr_maxV (hc : X.calm = true) : CallR X (.builtin "max") rMaxV := by
  intro pins s σ H vs us Q I r h
  obtain ⟨p, d, kvs, ns, rfl, hp, hd, hk, hne, q⟩ := h
  obtain ⟨u, rfl, rx⟩ := vals1 r
  obtain rfl : u = .ref p := rx
  obtain ⟨hs, es, ep, hm, hsz, hent⟩ := Inv.rawT I (.inl hd)
  have hv : s.heap.IsValuesView p d := (I.hok p _ hp).1
  have hlen : es.size = ns.length := by
    have := congrArg List.length hk
    rw [List.length_map, List.length_map] at this
    omega
  have hval : ∀ i v, (∃ hi : i < es.size, v = es[i].val) → ∃ t, v = .int (ns.getD i 0) t := by
    rintro i v ⟨hi, rfl⟩
    have hi2 : i < kvs.length := by omega
    have e1 : kvs[i]? = some (kvs[i].1, kvs[i].2) := List.getElem?_eq_getElem hi2
    obtain ⟨en, e2, e3⟩ := hent i _ _ e1
    have e4 : es[i] = en := Option.some.inj ((Array.getElem?_eq_getElem hi).symm.trans e2)
    have e5 : (kvs.map (·.2))[i]? = some kvs[i].2 := by rw [List.getElem?_map, e1]; rfl
    rw [hk, List.getElem?_map] at e5
    have hi3 : i < ns.length := by omega
    rw [List.getElem?_eq_getElem hi3] at e5
    have e6 : V.int ns[i] = kvs[i].2 := Option.some.inj e5
    rw [← e6] at e3
    obtain ⟨t, e7⟩ := e3
    refine ⟨t, ?_⟩
    rw [e4, e7, List.getD_eq_getElem?_getD, List.getElem?_eq_getElem hi3]
    rfl
  have hne1 : d ≠ s.heap.objs.size := by
    obtain ⟨o, ho, _⟩ := hm
    exact Nat.ne_of_lt (Heap.lt_size ho)
  refine call_max_walk (wpAny_pyIter_values_raw hv hm ?_)
  have hm2 : Heap.DictRaw (s.heap.push { cls := .type "dict_valueiterator", data := .fields #[.ref d, .int 0 0, .int es.size 0, .int ep 0] }) d es ep := hm.at fun o e => Heap.get?_push_of_some _ e
  refine ⟨_, _, _, _, _, _, _, rfl, Walks.rawValues (A := X.A.in1) (I.ok.hd hc) s.heap.objs.size d hne1 es ep, ⟨⟨_, Heap.get?_push_size _ rfl, rfl, rfl⟩, hm2⟩, fun b hb => ?_, by omega, CmpOf.ints_gt (fun i => ns.getD i 0) hval, fun v h' tk hP hkp => ?_⟩
  · show b < (s.heap.push _).objs.size
    rw [Heap.size_push]
    have hd2 : d < s.heap.objs.size := by
      obtain ⟨o, ho, _⟩ := hm
      exact Heap.lt_size ho
    rcases List.mem_cons.mp hb with e | hb
    · rw [e]
      exact Nat.lt_succ_self _
    · rcases List.mem_cons.mp hb with e | hb
      · rw [e]
        exact Nat.lt_succ_of_lt hd2
      · cases hb
  · obtain ⟨t, rfl⟩ := hval _ _ hP
    obtain ⟨h1, h2⟩ := argBest_gt (fun i => ns.getD i 0) (es.size - 1)
    have kept : ∀ b o, s.heap.get? b = some o → h'.get? b = some o := fun b o e => hkp b o (fun hb => by
      rcases List.mem_cons.mp hb with e1 | hb
      · exact absurd (e1 ▸ Heap.lt_size e) (Nat.lt_irrefl _)
      · cases hb) (Heap.get?_push_of_some _ e)
    refine ⟨.int _, H, I.kept kept, ⟨_, rfl⟩, q _ (PySem.getD_mem (by omega)) fun y hy => ?_⟩
    obtain ⟨j, hj, rfl⟩ := mem_getD hy
    exact h2 j (by omega)
/-- the values, walked; the dict is locked -/
def Itdt (d : Addr) (o : Obj) (kvs : List (List L2.Key × V)) : It :=
  ⟨fun i H => H d = some (.frz o (.dT kvs)) ∧ i < kvs.length, fun i H x H' => H' = H ∧ ∃ k, kvs[i]? = some (k, x), fun i H => H d = some (.frz o (.dT kvs)) ∧ kvs.length ≤ i⟩
theorem turn_valsT {P : Program} {w : World} {K : PySem.W.Frag} {tg : Expr} {d : Addr} {o : Obj} {es : Array DictEntry} {ep : Nat} {kvs : List (List L2.Key × V)} (it : Addr) (hod : o.data = .dict es ep) :
    Turn P w K tg (Itdt d o kvs) [it] it (fun i h => h.IsValIter it d i es.size ep) where
  mem := by simp
  obj := fun i h st b hb => by
    have e : b = it := by simpa using hb
    subst e
    obtain ⟨oi, e, c, dd⟩ := st
    exact ⟨oi, e, fun v z => by rw [dd] at z; cases z⟩
  keep := fun i h h' st k => st.at fun oi e => k it (by simp) oi e
  item := by
    intro X hP hw hK hc i pins s σ H E I hf st hg
    subst hP hw hK
    obtain ⟨hd, hi⟩ := hg
    obtain ⟨f0, f1, f2, f3, f4, f5⟩ := hf it (by simp)
    have ho := (I.hok d _ hd).1
    obtain ⟨hs, es', ep', hm, hsz, hent⟩ := Inv.rawT I (.inr ⟨_, hd⟩)
    obtain ⟨o2, ho2, hx2, hd2⟩ := id hm
    rw [ho] at ho2
    cases ho2
    obtain ⟨rfl, rfl⟩ := dict_ep hod hd2
    obtain ⟨⟨k, v⟩, hkv⟩ : ∃ p, kvs[i]? = some p := ⟨kvs[i], List.getElem?_eq_getElem hi⟩
    obtain ⟨en, hen, rv⟩ := hent i k v hkv
    have hi2 : i < es'.size := by omega
    have e4 : es'[i] = en := Option.some.inj ((Array.getElem?_eq_getElem hi2).symm.trans hen)
    refine wpAny_pyNext_values_item_raw st hm hi2 fun h' st' sb => ?_
    have I1 : Inv X pins σ H { s with heap := h' } := I.turned (t' := s.toks) (fun b ob hb e => (sb.2 b hb).trans e) f0 f1 f3 f4 f5
    obtain ⟨oi, e, c, dd⟩ := id st'
    exact ⟨es'[i].val, rfl, go_of (s := { s with heap := h' }) e c dd (by decide) ⟨v, H, I1, (by rw [e4]; exact rv), ⟨rfl, k, hkv⟩, st', fun b hb => (hf b hb).1⟩⟩
  done := by
    intro X hP hw hK hc i pins s σ H E I hf st hg
    subst hP hw hK
    obtain ⟨hd, hi⟩ := hg
    obtain ⟨f0, f1, f2, f3, f4, f5⟩ := hf it (by simp)
    have ho := (I.hok d _ hd).1
    obtain ⟨hs, es', ep', hm, hsz, hent⟩ := Inv.rawT I (.inr ⟨_, hd⟩)
    obtain ⟨o2, ho2, hx2, hd2⟩ := id hm
    rw [ho] at ho2
    cases ho2
    obtain ⟨rfl, rfl⟩ := dict_ep hod hd2
    exact wpAny_pyNext_values_end_raw (I.ok.hd hc) st hm (by omega) fun h' eb => ⟨rfl, I.turned (t' := s.toks) (fun b ob hb e => eb b ob hb e) f0 f1 f3 f4 f5⟩
  self := fun A i s Q E st h => wpAny_pyIter_valiter st h
def iValsT (td : TE) : TI := fun σ H R => td σ H fun x H1 => ∃ d o kvs, x = .ref d ∧ H1 d = some (.frz o (.dT kvs)) ∧ R (Itdt d o kvs) H1
theorem pi_valsT {tg e : Expr} {td : TE} {apos cpos : Pos} (he : PE X e td) (hbase : attributeBase e "values" X.env (eval e X.env) = eval e X.env := by rfl) (hline : (apos.endLine == cpos.line) = true := by rfl) : PI X tg (.Call (.Attribute e "values" apos) [] [] cpos) (iValsT td) := by
  refine ⟨fun pins s σ H R I h => ?_⟩
  refine wpAny_Call_method (T := "dict") (id := "dict.values") hbase rfl hline F.plainAttrs_dict F.slot_dict_values F.type_dict_values (thn (he.run pins s σ H _ I h) fun u s1 ⟨x, H1, I1, rx, d, o, kvs, ex, hd, q⟩ => ?_)
  subst ex
  obtain rfl : u = Value.ref d := rx
  have ho := (I1.hok d _ hd).1
  obtain ⟨hs, es, ep, hm, hsz, hent⟩ := Inv.rawT I1 (.inr ⟨_, hd⟩)
  obtain ⟨o2, ho2, hx2, hd2⟩ := id hm
  rw [ho] at ho2
  cases ho2
  refine ⟨hm.typeIs, fun a e => ⟨o, ?_, ?_⟩, ?_⟩
  · cases e
    exact ho
  · exact hx2.2.1
  have I2 : Inv X pins σ H1 { s1 with heap := s1.heap.push { cls := .type "dict_values", data := .fields #[.ref d] } } := I1.kept (t' := s1.toks) fun b o q => Heap.get?_push_of_some _ q
  have fin : wpAny (model X.prog X.w) X.A (pyIter (.ref s1.heap.objs.size)) (PIE X pins σ tg R) X.xe { s1 with heap := s1.heap.push { cls := .type "dict_values", data := .fields #[.ref d] } } := by
    refine wpAny_pyIter_values_raw (d := d) ⟨_, Heap.get?_push_size _ rfl, rfl, rfl⟩ (hm.at fun o e => Heap.get?_push_of_some _ e) (pi_one (tk := s1.toks) I2 _ (turn_valsT _ hd2) ⟨_, Heap.get?_push_size _ rfl, rfl, rfl⟩ q)
  show wpAny _ _ (callWith cpos (.builtin "dict.values") [.ref d] [] []) _ X.xe s1
  exact method_meetsIn F.slot_dict_values F.entry_dict_values rfl (PySem.evalArgs_none ⟨rfl, hm.typeIs, F.args_dict_values_1 _, _, meets_dict_values_raw d hs, ⟨⟨es, ep, hm⟩, fin⟩⟩)
theorem walk_valsT {d : Addr} {o : Obj} {kvs : List (List L2.Key × V)} : Walk (Itdt d o kvs) kvs.length (fun H => H d = some (.frz o (.dT kvs))) (fun i H x H' => H' = H ∧ ∃ k, kvs[i]? = some (k, x)) :=
  ⟨fun _ _ hi q => ⟨q, hi⟩, fun _ q => ⟨q, Nat.le_refl _⟩, fun _ _ _ _ _ _ y => y⟩

/-! ### xs < ys of lists of whole numbers -/
theorem firstLt_ints : ∀ (ns ms : List Int), SeqAt.firstLt (fun j => decide (ns.getD j 0 = ms.getD j 0)) (fun j => decide (ns.getD j 0 < ms.getD j 0)) (decide (ns.length < ms.length)) (List.range (min ns.length ms.length)) = decide (ns < ms)
  | [], [] => by
    have q : ¬ ([] : List Int) < [] := List.not_lt_nil _
    rw [decide_eq_false q]
    rfl
  | [], m :: ms => by
    have q : ([] : List Int) < m :: ms := List.nil_lt_cons _ _
    rw [decide_eq_true q]
    show SeqAt.firstLt _ _ (decide (0 < ms.length + 1)) (List.range (min 0 _)) = true
    rw [Nat.zero_min]
    show decide (0 < ms.length + 1) = true
    exact decide_eq_true (Nat.succ_pos _)
  | n :: ns, [] => by
    have q : ¬ (n :: ns) < ([] : List Int) := List.not_lt_nil _
    rw [decide_eq_false q]
    show SeqAt.firstLt _ _ (decide (ns.length + 1 < 0)) (List.range (min _ 0)) = false
    rw [Nat.min_zero]
    show decide (ns.length + 1 < 0) = false
    exact decide_eq_false (Nat.not_lt_zero _)
  | n :: ns, m :: ms => by
    have e0 : min (n :: ns).length (m :: ms).length = min ns.length ms.length + 1 := by
      rw [List.length_cons, List.length_cons]
      omega
    have e1 : decide ((n :: ns).length < (m :: ms).length) = decide (ns.length < ms.length) := by
      rw [List.length_cons, List.length_cons]
      exact decide_eq_decide.mpr ⟨fun h => by omega, fun h => by omega⟩
    rw [e0, List.range_succ_eq_map, e1]
    by_cases c : n = m
    · subst c
      rw [SeqAt.firstLt_yes (show (fun j => decide ((n :: ns).getD j 0 = (n :: ms).getD j 0)) 0 = true from decide_eq_true rfl), PySem.W.firstLt_map]
      refine (firstLt_ints ns ms).trans (decide_eq_decide.mpr ?_)
      exact ⟨fun h => List.Lex.cons h, fun h => by
        cases h with
        | rel h => exact absurd h (Int.lt_irrefl _)
        | cons h => exact h⟩
    · rw [SeqAt.firstLt_no (show (fun j => decide ((n :: ns).getD j 0 = (m :: ms).getD j 0)) 0 = false from decide_eq_false c)]
      show decide (n < m) = _
      refine decide_eq_decide.mpr ⟨fun h => List.Lex.rel h, fun h => ?_⟩
      cases h with
      | rel h => exact h
      | cons h => exact absurd rfl c
def rLtL (K : PySem.W.Frag) : R2 := fun x y H Q => ∃ (a b : Addr) (ns ms : List Int), x = .ref a ∧ y = .ref b ∧ SqL K H a (ns.map V.int) ∧ SqL K H b (ms.map V.int) ∧ Q (.bl (decide (ns < ms))) H
theorem op_ltL (hu : X.A.units < cLine) : OpR X (compareOp .Lt) (rLtL X.K) := by
  intro pins s σ H x y v u Q I rx ry h
  obtain ⟨a, b, ns, ms, rfl, rfl, ha, hb, q⟩ := h
  cases rx
  cases ry
  obtain ⟨its, r1, p1, _⟩ := I.list ha
  obtain ⟨its2, r2, p2, _⟩ := I.list hb
  have i1 : IntsAre its ns := Vals.ints r1
  have i2 : IntsAre its2 ms := Vals.ints r2
  have e1 : its.toArray.size = ns.length := by rw [List.size_toArray]; exact i1.length
  have e2 : its2.toArray.size = ms.length := by rw [List.size_toArray]; exact i2.length
  have at1 : ∀ j (h1 : j < its.toArray.size), ∃ t, its.toArray[j] = .int (ns.getD j 0) t := fun j h1 => PyProof.Rows.IntsAre.int_at i1 _ _ (by simp at h1; simp [h1])
  have at2 : ∀ j (h1 : j < its2.toArray.size), ∃ t, its2.toArray[j] = .int (ms.getD j 0) t := fun j h1 => PyProof.Rows.IntsAre.int_at i2 _ _ (by simp at h1; simp [h1])
  have R := SeqAt.RcLt.lists (A := X.A) (s := s) (e := fun j => decide (ns.getD j 0 = ms.getD j 0)) (r := fun j => decide (ns.getD j 0 < ms.getD j 0)) p1.isList p2.isList hu (fun j h1 h2 => by
    obtain ⟨t, et⟩ := at1 j h1
    obtain ⟨t', et'⟩ := at2 j h2
    rw [et, et']
    have z : (ns.getD j 0 == ms.getD j 0) = decide (ns.getD j 0 = ms.getD j 0) := by
      by_cases q : ns.getD j 0 = ms.getD j 0
      · rw [decide_eq_true q]; exact beq_iff_eq.mpr q
      · rw [decide_eq_false q]; exact beq_eq_false_iff_ne.mpr q
    rw [← z]
    exact SeqAt.EqAt.int_int _ _ _ _) (fun j h1 h2 _ => by
    obtain ⟨t, et⟩ := at1 j h1
    obtain ⟨t', et'⟩ := at2 j h2
    rw [et, et']
    exact fun _ _ _ _ h => PyProof.Rows.lt_int h)
  rw [e1, e2, firstLt_ints] at R
  have z : wpAny (model X.prog X.w) X.A (compareOp .Lt (.ref a) (.ref b)) (EP X pins σ Q) X.xe s := R X.prog X.w X.xe (EP X pins σ Q) ⟨.bl _, H, I, rfl, q⟩
  exact z
end
end Px
/-! The walk, part 0: the text by places; what the top has left; calls of the program's own defs. -/
namespace Pw
open PySem PySem.Spec PyProof.Rows L2
/-- the i-th statement of the program -/
def top (i : Nat) : Stmt := PySem.Challenge.pw_panstack_s01_answers.main.body.getD i (.Pass ⟨0, 0, 0, 0⟩)
/-- sides as the program has them -/
def bI (b : Bool) : Int := if b = true then 1 else 0
theorem bI_eq (b : Bool) : decide (V.int (bI b) = V.int 1) = b := by
  cases b <;> decide
theorem bI_zero (b : Bool) : decide (V.int (bI b) = V.int 0) = !b := by
  cases b <;> decide
/-- the module's whole numbers -/
def IsG (mg : Str → Option Value) (x : Str) (i : Int) : Prop := ∃ t, mg x = some (.int i t)
theorem pe_gi {X : Cx} {x : Str} {i : Int} {pos : Pos} (h : IsG X.mg x i) (hg : Gl X x) (hd : (x == ("__debug__" : Str)) = false := by decide) : PE X (.Name x pos) (tC (.int i)) := by
  obtain ⟨t, e⟩ := h
  exact pe_glob hg e ⟨t, rfl⟩ hd
/-- the built-in names are still the built-ins -/
structure Bi (mg : Str → Option Value) : Prop where
  len : mg "len" = none
  min_ : mg "min" = none
  max_ : mg "max" = none
  sorted : mg "sorted" = none
  list : mg "list" = none
  range : mg "range" = none
  tuple : mg "tuple" = none
  abs : mg "abs" = none
  zip : mg "zip" = none
  int : mg "int" = none
  all : mg "all" = none
/-- a def of the program, and its promise -/
structure Df (P : Program) (w : World) (K : PySem.W.Frag) (mg : Str → Option Value) (base : Heap) (x : Str) (k : Nat) (ps : List Str) (sp : Sp) : Prop where
  ex : ∃ f fd, mg x = some (.ref f) ∧ PySem.W.keepIn K (.ref f) = true ∧ Binds K fd ps [] ∧ FnOk P w K mg base CX0 k f fd ps sp
theorem pe_df {X : Cx} {x : Str} {k : Nat} {ps : List Str} {sp : Sp} {p pos : Pos} {e : Expr} {es : List Expr} {t : TA} (D : Df X.prog X.w X.K X.mg X.base x k ps sp) (hg : Gl X x) (hr : Room k X.A) (ha : PA X (e :: es) t)
    (hdb : (x == ("__debug__" : Str)) = false := by decide) (he : starEach (e :: es) X.env = (false, eval e X.env) :: starEach es X.env := by rfl) (hpl : (backTo pos (starEach es X.env)).any (·.1) = false := by rfl) :
    PE X (.Call (.Name x p) (e :: es) [] pos) (tCall sp [] E0 t) := by
  obtain ⟨f, fd, h1, h2, h3, h4⟩ := D.ex
  exact pe_call h4 hr hg h1 h2 h3 .nil pass0 ha hdb he hpl
/-- a def as the head finds it -/
structure Fd (K : PySem.W.Frag) (mg : Str → Option Value) (x : Str) (st : Stmt) (ps : List Str) : Prop where
  ex : ∃ f fd, mg x = some (.ref f) ∧ Fun K x x st f fd ∧ Binds K fd ps []
theorem Fd.df {P : Program} {w : World} {K : PySem.W.Frag} {mg : Str → Option Value} {base : Heap} {x : Str} {st : Stmt} {k : Nat} {ps : List Str} {sp : Sp} (F : Fd K mg x st ps) (h : ∀ {f fd}, Fun K x x st f fd → FnOk P w K mg base CX0 k f fd ps sp) : Df P w K mg base x k ps sp := by
  obtain ⟨f, fd, h1, h2, h3⟩ := F.ex
  exact ⟨f, fd, h1, h2.kp, h3, h h2⟩

/-! ### heaps -/
theorem same_upd {H H' : Hp} {p : Addr} {o : HO} (s : Same H H') (n : H' p = none) : Same H (upd H' p o) := fun b u e => by
  rw [upd_ne (ne_of_none (s b u e) n)]
  exact s b u e
theorem same_new {H : Hp} {p : Addr} {o : HO} (n : H p = none) : Same H (upd H p o) := same_upd (Same.refl H) n
theorem same_set {H H' : Hp} {p : Addr} {o : HO} (s : Same H H') (n : H p = none) : Same H (upd H' p o) := fun b u e => by
  rw [upd_ne (ne_of_none e n)]
  exact s b u e
theorem Same.sqt {K : PySem.W.Frag} {H H' : Hp} {a : Addr} {xs : List V} (e : Same H H') (h : SqT K H a xs) : SqT K H' a xs := by
  rcases h with (h | ⟨o, h⟩) | h
  · exact .inl (.inl (e _ _ h))
  · exact .inl (.inr ⟨o, e _ _ h⟩)
  · exact .inr h
abbrev vi (s : List Int) : List V := s.map V.int
theorem vi_get {s : List Int} {i : Nat} {y : V} (h : (vi s)[i]? = some y) : ∃ x, s[i]? = some x ∧ y = V.int x := by
  rw [List.getElem?_map] at h
  cases e : s[i]? with
  | none => rw [e] at h; cases h
  | some x => rw [e] at h; exact ⟨x, rfl, (Option.some.inj h).symm⟩
theorem vi_append (s t : List Int) : vi (s ++ t) = vi s ++ vi t := List.map_append
theorem vi_length (s : List Int) : (vi s).length = s.length := List.length_map ..
theorem take_snoc {α : Type} {l : List α} {i : Nat} {x : α} (h : l[i]? = some x) : l.take (i + 1) = l.take i ++ [x] := by
  rw [List.take_add_one, h]
  rfl
/-- cuts of written numbers -/
theorem sIx_none (n d : Nat) : HT.sIx n d none = d := rfl
theorem sIx_nat (n d k : Nat) : HT.sIx n d (some (k : Int)) = min k n := by
  show (if (k : Int) < 0 then ((k : Int) + (n : Int)).toNat else min (k : Int).toNat n) = min k n
  rw [if_neg (by omega), Int.toNat_natCast]
theorem cut_take (s : List Int) (k : Nat) : cutV (vi s) none (some (k : Int)) = vi (s.take k) := by
  unfold cutV
  rw [sIx_none, sIx_nat, List.drop_zero, List.length_map, Nat.sub_zero, ← List.map_take]
  congr 1
  by_cases h : k ≤ s.length
  · rw [Nat.min_eq_left h]
  · rw [Nat.min_eq_right (by omega), List.take_length, List.take_of_length_le (by omega)]
theorem cut_drop (s : List Int) (k : Nat) : cutV (vi s) (some (k : Int)) none = vi (s.drop k) := by
  unfold cutV
  rw [sIx_none, sIx_nat, List.length_map, ← List.map_drop, ← List.map_take]
  congr 1
  by_cases h : k ≤ s.length
  · rw [Nat.min_eq_left h]
    exact List.take_of_length_le (by rw [List.length_drop]; omega)
  · rw [Nat.min_eq_right (by omega), List.drop_length, List.drop_of_length_le (by omega), List.take_nil]
theorem cut_mid (s : List Int) (i k : Nat) (h : i + k ≤ s.length) : cutV (vi s) (some (i : Int)) (some ((i : Int) + (k : Int))) = vi ((s.drop i).take k) := by
  have e : ((i : Int) + (k : Int)) = ((i + k : Nat) : Int) := by omega
  unfold cutV
  rw [e, sIx_nat, sIx_nat, List.length_map, ← List.map_drop, ← List.map_take, Nat.min_eq_left h, Nat.min_eq_left (show i ≤ s.length by omega)]
  congr 2
  omega
/-- a slice of a tuple, whether it is the whole or not -/
theorem sIx_hi_le (n : Nat) (hi : Option Int) : HT.sIx n n hi ≤ n := HT.sIx_le _ _ (Nat.le_refl _) hi
theorem cut_whole {xs : List V} {lo hi : Option Int} (h : HT.sIx xs.length 0 lo = 0 ∧ HT.sIx xs.length xs.length hi = xs.length) : cutV xs lo hi = xs := by
  unfold cutV
  rw [h.1, h.2, List.drop_zero, Nat.sub_zero, List.take_length]
theorem slA_of {K : PySem.W.Frag} {H : Hp} {a : Addr} {xs : List V} {lo hi : Option Int} {Q : VK} (ha : H a = some (.tup xs)) (h : ∀ H' p, Same H H' → H' p = some (.tup (cutV xs lo hi)) → Q (.ref p) H') : rSlA K (.ref a) lo hi H Q :=
  ⟨a, xs, rfl, SqT.of ha, fun q => h H a (Same.refl H) (by rw [cut_whole q]; exact ha), fun _ p hp => h _ p (same_new hp) upd_same⟩
theorem slA_from {K : PySem.W.Frag} {H : Hp} {a : Addr} {xs : List V} {lo : Option Int} {Q : VK} {σ : L2.St} (ha : H a = some (.tup xs)) (h : ∀ H' p, Same H H' → H' p = some (.tup (cutV xs lo none)) → Q (.ref p) H') :
    tNoPart σ H fun u H3 => rSlA K (.ref a) lo u H3 Q := slA_of ha h
theorem catA_of {K : PySem.W.Frag} {H : Hp} {a b : Addr} {xs ys : List V} {Q : VK} (ha : H a = some (.tup xs)) (hb : H b = some (.tup ys)) (hl : xs.length + ys.length ≤ sizeLine) (h : ∀ H' p, Same H H' → H' p = some (.tup (xs ++ ys)) → Q (.ref p) H') : rCatA K (.ref a) (.ref b) H Q :=
  ⟨a, b, xs, ys, rfl, rfl, SqT.of ha, SqT.of hb, hl, fun q => h H b (Same.refl H) (by rw [q]; exact hb), fun _ q => h H a (Same.refl H) (by rw [q, List.append_nil]; exact ha), fun _ _ p hp => h _ p (same_new hp) upd_same⟩
theorem fits_line {n m : Nat} (h : n ≤ m) (hm : m ≤ 16777216 := by decide) : n ≤ sizeLine := by
  rw [sizeLine_eq]
  omega
/-! ### == of lists and tuples of whole numbers -/
theorem eqv_ints : ∀ ns ms : List Int, PyData.eqvAll (ns.map PyData.int) (ms.map PyData.int) = decide (ns = ms)
  | [], [] => by simp [PyData.eqvAll]
  | [], _ :: _ => by simp [PyData.eqvAll]
  | _ :: _, [] => by simp [PyData.eqvAll]
  | a :: r, b :: t => by
    simp only [List.map_cons, PyData.eqvAll, PyData.eqv, eqv_ints r t]
    by_cases h : a = b <;> by_cases h' : r = t <;> simp [h, h']
theorem eqv_tup (ns ms : List Int) : PyData.eqv (.tuple (ns.map PyData.int)) (.tuple (ms.map PyData.int)) = decide (ns = ms) := by
  simp only [PyData.eqv]
  exact eqv_ints ns ms
theorem eqv_lst (ns ms : List Int) : PyData.eqv (.list (ns.map PyData.int)) (.list (ms.map PyData.int)) = decide (ns = ms) := by
  simp only [PyData.eqv]
  exact eqv_ints ns ms
theorem shaped_tup (ns : List Int) : SeqAt.shaped (.tuple (ns.map PyData.int)) = true := by
  simp [SeqAt.shaped, PyData.canLay0, PyData.depth, PySem.W.ke_canLayAll0, PySem.W.ke_depthAll]
theorem dp_ints {K : PySem.W.Frag} {H : Hp} : ∀ ns : List Int, DpAll K H (vi ns) (ns.map PyData.int)
  | [] => .nil
  | n :: ns => .cons (.int n) (dp_ints ns)
theorem eqD_tups {K : PySem.W.Frag} {H : Hp} {a b : Addr} {s t : List Int} {Q : VK} (ha : H a = some (.tup (vi s))) (hb : H b = some (.tup (vi t))) (q : Q (.bl (decide (s = t))) H) : rEqD K (.ref a) (.ref b) H Q :=
  ⟨_, _, .tup (SqT.of ha) (dp_ints s), .tup (SqT.of hb) (dp_ints t), shaped_tup s, shaped_tup t, by rw [eqv_tup]; exact q⟩
theorem eqD_lsts {K : PySem.W.Frag} {H : Hp} {a b : Addr} {s t : List Int} {Q : VK} (ha : H a = some (.lst (vi s))) (hb : H b = some (.lst (vi t))) (q : Q (.bl (decide (s = t))) H) : rEqD K (.ref a) (.ref b) H Q :=
  ⟨_, _, .lst (SqL.of ha) (dp_ints s), .lst (SqL.of hb) (dp_ints t), PySem.W.ke_shaped_ints s, PySem.W.ke_shaped_ints t, by rw [eqv_lst]; exact q⟩
/-! ### ranges -/
theorem rg_sorted (n : Nat) : rgV 1 ((n : Int) + 1) = vi (Mu28.sorted n) := by
  unfold rgV Mu28.sorted vi
  have e : ((n : Int) + 1 - 1).toNat = n := by omega
  rw [e, List.map_map]
  refine List.map_congr_left fun i _ => ?_
  show V.int (1 + (i : Int)) = V.int ((i : Int) + 1)
  rw [Int.add_comm]
theorem range_from (c : Nat) : ∀ m : Nat, (List.range m).filter (fun k => decide (c ≤ k)) = (List.range (m - c)).map (fun i => c + i)
  | 0 => by simp
  | m + 1 => by
    rw [List.range_succ, List.filter_append, range_from c m]
    by_cases h : c ≤ m
    · have e : m + 1 - c = (m - c) + 1 := by omega
      have e2 : ([m].filter fun k => decide (c ≤ k)) = [m] := by simp [h]
      rw [e, List.range_succ, List.map_append, e2]
      congr 1
      show [m] = [c + (m - c)]
      congr 1
      omega
    · have e : m + 1 - c = m - c := by omega
      have e2 : ([m].filter fun k => decide (c ≤ k)) = [] := by simp [h]
      rw [e, e2, List.append_nil]
theorem rg_ways (b : Bool) (n : Nat) : rgV (if b = true then 1 else 2) ((n : Int) + 1) = vi ((Mu28.ways b n).map fun (k : Nat) => (k : Int)) := by
  have e : Mu28.ways b n = (List.range (n + 1 - (if b = true then 1 else 2))).map (fun i => (if b = true then 1 else 2) + i) := range_from _ _
  rw [e]
  unfold rgV vi
  rw [List.map_map, List.map_map]
  cases b
  · show (List.range ((n : Int) + 1 - 2).toNat).map _ = (List.range (n + 1 - 2)).map _
    have q : ((n : Int) + 1 - 2).toNat = n + 1 - 2 := by omega
    rw [q]
    refine List.map_congr_left fun i _ => ?_
    show V.int (2 + (i : Int)) = V.int ((2 + i : Nat) : Int)
    congr 1
  · show (List.range ((n : Int) + 1 - 1).toNat).map _ = (List.range (n + 1 - 1)).map _
    have q : ((n : Int) + 1 - 1).toNat = n + 1 - 1 := by omega
    rw [q]
    refine List.map_congr_left fun i _ => ?_
    show V.int (1 + (i : Int)) = V.int ((1 + i : Nat) : Int)
    congr 1
/-- an if that sets a name, or leaves it -/
theorem if_set {b : Bool} {i : Nat} {x y : V} {D : Ends} {σ : L2.St} {H : Hp} (hy : σ[i]? = some (some y)) (h : ∀ z, z = (if b = true then x else y) → D.nx (σ.set i (some z)) H) : if b = true then (tAsg (tC x) (gName i)) D σ H else tNext D σ H := by
  cases b
  · refine iteF ?_
    have e : σ.set i (some y) = σ := by
      refine List.ext_getElem? fun j => ?_
      by_cases c : j = i
      · subst c
        rw [List.getElem?_set_self (List.getElem?_eq_some_iff.mp hy).1, hy]
      · rw [List.getElem?_set_ne (fun q => c q.symm)]
    have q := h y rfl
    rw [e] at q
    exact q
  · exact iteT (h x rfl)
/-- an if whose test is known -/
theorem if_y {c : Bool} {A B : Prop} (hc : c = true) (h : A) : if c = true then A else B := by
  rw [if_pos hc]
  exact h
theorem if_n {c : Bool} {A B : Prop} (hc : c = false) (h : B) : if c = true then A else B := by
  rw [hc, if_neg Bool.false_ne_true]
  exact h
/-- len of a list or tuple, said by the written part alone (so that it stands within a comprehension) -/
def rLs (K : PySem.W.Frag) : List V → Hp → VK → Prop := fun xs H Q => ∃ p ys, xs = [V.ref p] ∧ (SqL K H p ys ∨ SqT K H p ys) ∧ Q (.int ys.length) H
theorem call_ls {X : Cx} : CallR X (.builtin "len") (rLs X.K) := call_len_seq
/-- an if that changes the heap alone, or does nothing -/
theorem if_join {c : Bool} {t : TS} {D : Ends} {σ : L2.St} {H : Hp} (Pv : Hp → Prop) (h1 : c = true → (∀ H', Pv H' → D.nx σ H') → t D σ H) (h2 : c = false → Pv H) (h : ∀ H', Pv H' → D.nx σ H') : if c = true then t D σ H else tNext D σ H := by
  cases c
  · exact iteF (h H (h2 rfl))
  · exact iteT (h1 rfl h)
end Pw
/-! The walk, part 1: stacks. -/
namespace Pw
open PySem PySem.Spec PyProof.Rows L2
section
variable {P : Program} {w : World} {K : PySem.W.Frag} {mg : Str → Option Value} {base : Heap}

/-! ### flipped -/
abbrev stFlipped : Stmt := top 5
theorem scFlipped : FnScope ["stack", "flip", "sides", "top", "size"] ["stack", "flip", "sides"] (defScope stFlipped) := ⟨rfl, rfl, rfl, by decide +kernel, rfl, by decide +kernel, by decide +kernel⟩
/-- a stack (a tuple that is tracked), a flip, sides: a tuple -/
def spFlipped : Sp := fun vs H Q _ => ∃ (a : Addr) (s : List Int) (k : Nat) (b : Bool), vs = [.ref a, .int k, .int (bI b)] ∧ H a = some (.tup (vi s)) ∧ s.length ≤ 1000 ∧
  ∀ H' p, Same H H' → H' p = some (.tup (vi (Mu28.flip b k s))) → Q (.ref p) H'
theorem ok_flipped {f : Addr} {fd : FuncData} (F : Fun K "flipped" "flipped" stFlipped f fd) (T : Bi mg) : FnOk P w K mg base CX0 1 f fd ["stack", "flip", "sides"] spFlipped := by
  refine F.ok scFlipped (fun vs H Q E h => ?_) (fun cdv A outer s H vs Q E hr h => ?_)
  · obtain ⟨a, s, k, b, rfl, _⟩ := h
    rfl
  · obtain ⟨a, st, k, b, rfl, ha, hl, hq⟩ := h
    refine ⟨_, pss_cons (ps_set (i := 3) scFlipped.nd rfl (Or.inl rfl) (Px.pe_revT (pe_slice sl_tupA (pv 0) po_none (po_some (pv 1)))))
      (pss_cons (ps_if (pt_cmpR op_eq (pv 2) pe_int (nomark _))
        (pss_one (ps_set (i := 3) scFlipped.nd rfl (Or.inl rfl) (pe_callTy call_tuple_of (by rfl) T.tuple (by decide +kernel) (pa_cons
          (pe_lc (own := [("size", 4)]) (g := gName 4) (tt := tYes) rfl scFlipped.nd (pi_tup (pv 3)) (blkOk_by (N := ["stack", "flip", "sides", "top", "size"]) (sc := defScope stFlipped) (by decide +kernel))
            (fun _ _ _ _ _ => pg_name (i := 4) scFlipped.nd rfl (Or.inl rfl)) (fun _ _ _ _ _ => pts_nil) (fun _ _ _ _ _ => pe_un un_neg (pv 4))) pa_nil)))) pss_nil)
      (pss_one (ps_ret (pe_op op_catA (pv 3) (pe_slice sl_tupA (pv 0) (po_some (pv 1)) po_none))))), ?_⟩
    -- return top + stack[flip:]
    have rest : ∀ (H3 : Hp) (tp : Addr), Same H H3 → H3 tp = some (.tup (vi ((st.take k).reverse.map (Pk.tn b)))) →
        tRet (tOp (rCatA K) (tVar 3) (tSl (rSlA K) (tVar 0) (tPart (tVar 1)) tNoPart)) { nx := fun _ H' => Q .non H', rt := Q } [some (.ref a), some (.int k), some (.int (bI b)), some (.ref tp), none] H3 := by
      intro H3 tp s3 h3
      refine ⟨_, rfl, _, rfl, _, rfl, k, rfl, slA_from (s3 _ _ ha) fun H4 q s4 h4 => ?_⟩
      rw [cut_drop] at h4
      refine catA_of (s4 _ _ h3) h4 ?_ fun H5 r s5 h5 => hq H5 r ((s3.trans s4).trans s5) ?_
      · rw [List.length_map, List.length_map, List.length_map, List.length_reverse, List.length_take, List.length_drop]
        exact fits_line (m := 1000) (by omega)
      · rw [h5, ← List.map_append, Pk.flip_eq]
    -- top = stack[:flip][::-1]
    refine ⟨_, rfl, _, rfl, k, rfl, slA_of ha fun H1 q1 s1 h1 => ?_⟩
    rw [cut_take] at h1
    refine ⟨q1, _, rfl, SqT.of h1, fun q2 n2 => ?_⟩
    rw [← List.map_reverse]
    obtain ⟨H2, e2⟩ : ∃ H2, H2 = upd H1 q2 (.tup (vi (st.take k).reverse)) := ⟨_, rfl⟩
    rw [← e2]
    have h2 : H2 q2 = some (.tup (vi (st.take k).reverse)) := by
      rw [e2]
      exact upd_same
    have s2 : Same H H2 := s1.trans (by rw [e2]; exact same_new n2)
    -- if sides == 1
    refine ⟨_, rfl, rfl, _, rfl, ?_⟩
    rw [bI_eq]
    cases b
    · refine iteF (rest H2 q2 s2 ?_)
      rw [h2]
      have e : (st.take k).reverse.map (Pk.tn false) = (st.take k).reverse := List.map_id _
      rw [e]
    · -- top = tuple([-size for size in top])
      refine iteT ?_
      refine ⟨_, rfl, q2, rfl, ⟨_, SqT.of h2⟩, fun D nD => lc_tup (K := K) (a := q2) (xs := vi (st.take k).reverse) (fun i H' => Same H2 H' ∧ H' D = some (.lst (vi (((st.take k).reverse.take i).map (Pk.tn true))))) ?_ ?_ ?_ ?_⟩
      · exact ⟨same_new nD, upd_same⟩
      · exact fun i H' _ q => SqT.of (q.1 _ _ h2)
      · rintro i y H' hy ⟨s3, h3⟩
        obtain ⟨x, hx, rfl⟩ := vi_get hy
        refine ⟨rfl, ?_⟩
        refine ⟨_, rfl, x, rfl, _, h3, ?_, same_set s3 nD, ?_⟩
        · rw [List.length_map, List.length_map, List.length_take, List.length_reverse, List.length_take]
          exact small1000 (by omega)
        · rw [upd_same, take_snoc hx, List.map_append, vi_append]
          rfl
      · rintro H' ⟨s3, h3⟩
        rw [List.length_map, List.take_length] at h3
        refine ⟨D, _, rfl, .inl ⟨SqL.of h3, fun l nl => ?_⟩⟩
        exact rest _ l ((s2.trans s3).trans (same_new nl)) upd_same
/-! ### sorted_stack -/
abbrev stSorted : Stmt := top 4
theorem scSorted : FnScope ["many"] ["many"] (defScope stSorted) := ⟨rfl, rfl, rfl, by decide +kernel, rfl, by decide +kernel, by decide +kernel⟩
def spSorted : Sp := fun vs H Q _ => ∃ n : Nat, vs = [.int n] ∧ n ≤ 1000 ∧ ∀ H' p, Same H H' → H' p = some (.tup (vi (Mu28.sorted n))) → Q (.ref p) H'
theorem ok_sorted {f : Addr} {fd : FuncData} (F : Fun K "sorted_stack" "sorted_stack" stSorted f fd) (T : Bi mg) : FnOk P w K mg base CX0 1 f fd ["many"] spSorted := by
  refine F.ok scSorted (fun vs H Q E h => ?_) (fun cdv A outer s H vs Q E hr h => ?_)
  · obtain ⟨n, rfl, _⟩ := h
    rfl
  · obtain ⟨n, rfl, hn, hq⟩ := h
    refine ⟨_, pss_one (ps_ret (pe_tupRg rfl (by rfl) T.tuple (prg_2 (by rfl) T.range pe_int (pe_op op_add (pv 0) pe_int)))), ?_⟩
    refine ⟨_, rfl, _, _, rfl, rfl, 1, (n : Int) + 1, rfl, rfl, RgOk.of_le (by omega) (by omega) (by omega) (by omega), fun q hq' => ?_⟩
    rw [rg_sorted]
    exact hq _ q (same_new hq') upd_same

/-! ### is_gap -/
abbrev stGap : Stmt := top 6
theorem scGap : FnScope ["upper", "lower", "sides"] ["upper", "lower", "sides"] (defScope stGap) := ⟨rfl, rfl, rfl, by decide +kernel, rfl, by decide +kernel, by decide +kernel⟩
def spGap : Sp := fun vs H Q _ => ∃ (x y : Int) (b : Bool), vs = [.int x, .int y, .int (bI b)] ∧ Q (.bl (Mu28.gap b x y)) H
theorem ok_gap {f : Addr} {fd : FuncData} (F : Fun K "is_gap" "is_gap" stGap f fd) (T : Bi mg) : FnOk P w K mg base CX0 1 f fd ["upper", "lower", "sides"] spGap := by
  refine F.ok scGap (fun vs H Q E h => ?_) (fun cdv A outer s H vs Q E hr h => ?_)
  · obtain ⟨x, y, b, rfl, _⟩ := h
    rfl
  · obtain ⟨x, y, b, rfl, hq⟩ := h
    refine ⟨_, pss_cons (ps_if (pt_cmpR op_eq (pv 2) pe_int (nomark _)) (pss_one (ps_ret (pe_cmpR op_ne (pv 1) (pe_op op_add (pv 0) pe_int) (nomark _)))) pss_nil)
      (pss_one (ps_ret (pe_cmpR op_ne (pe_callB call_abs (by rfl) T.abs (by decide +kernel) (pa_cons (pe_op op_sub (pv 1) (pv 0)) pa_nil)) pe_int (nomark _)))), ?_⟩
    refine ⟨_, rfl, rfl, _, rfl, ?_⟩
    rw [bI_eq]
    cases b
    · refine iteF ?_
      refine ⟨_, rfl, _, rfl, _, _, rfl, rfl, _, rfl, rfl, ?_⟩
      have e : Mu28.gap false x y = !decide (V.int (if y - x < 0 then -(y - x) else y - x) = V.int 1) := by
        show ((x - y).natAbs != 1) = _
        rw [dec_int]
        show (!((x - y).natAbs == 1)) = _
        congr 1
        by_cases c : y - x < 0
        · rw [if_pos c]
          by_cases d : (x - y).natAbs = 1
          · rw [beq_iff_eq.mpr d, beq_iff_eq.mpr (show -(y - x) = 1 by omega)]
          · rw [beq_eq_false_iff_ne.mpr d, beq_eq_false_iff_ne.mpr (show -(y - x) ≠ 1 by omega)]
        · rw [if_neg c]
          by_cases d : (x - y).natAbs = 1
          · rw [beq_iff_eq.mpr d, beq_iff_eq.mpr (show (y - x) = 1 by omega)]
          · rw [beq_eq_false_iff_ne.mpr d, beq_eq_false_iff_ne.mpr (show (y - x) ≠ 1 by omega)]
      rw [e] at hq
      exact hq
    · refine iteT ?_
      refine ⟨_, rfl, _, rfl, _, _, rfl, rfl, rfl, ?_⟩
      have e : Mu28.gap true x y = !decide (V.int y = V.int (x + 1)) := by
        show (!(y - x == 1)) = _
        rw [dec_int]
        congr 1
        by_cases d : y - x = 1
        · rw [beq_iff_eq.mpr d, beq_iff_eq.mpr (show y = x + 1 by omega)]
        · rw [beq_eq_false_iff_ne.mpr d, beq_eq_false_iff_ne.mpr (show y ≠ x + 1 by omega)]
      rw [e] at hq
      exact hq

/-! ### gaps_in -/
abbrev stGaps : Stmt := top 7
theorem scGaps : FnScope ["stack", "sides", "below", "found", "upper", "lower"] ["stack", "sides"] (defScope stGaps) := ⟨rfl, rfl, rfl, by decide +kernel, rfl, by decide +kernel, by decide +kernel⟩
def spGaps : Sp := fun vs H Q _ => ∃ (a : Addr) (s : List Int) (b : Bool), vs = [.ref a, .int (bI b)] ∧ H a = some (.tup (vi s)) ∧ 1 ≤ s.length ∧ s.length ≤ 1000 ∧ ∀ H', Same H H' → Q (.int (Mu28.gaps b s : Nat)) H'
theorem gaps_turn (b : Bool) {l : List Int} {i : Nat} {x y : Int} (hx : l[i]? = some x) (hy : l[i + 1]? = some y) : Mu28.gapsOf b (l.take (i + 2)) = Mu28.gapsOf b (l.take (i + 1)) + (if Mu28.gap b x y = true then 1 else 0) := by
  rw [take_snoc hy, take_snoc hx, List.append_assoc]
  show Mu28.gapsOf b (l.take i ++ x :: [y]) = _
  rw [Pk.gapsOf_mid, Pk.gapsOf_two, Pk.gapsOf_one, Nat.add_zero]
theorem ok_gaps {f : Addr} {fd : FuncData} (F : Fun K "gaps_in" "gaps_in" stGaps f fd) (T : Bi mg) (G : Df P w K mg base "is_gap" 1 ["upper", "lower", "sides"] spGap) : FnOk P w K mg base CX0 2 f fd ["stack", "sides"] spGaps := by
  refine F.ok scGaps (fun vs H Q E h => ?_) (fun cdv A outer s H vs Q E hr h => ?_)
  · obtain ⟨a, s, b, rfl, _⟩ := h
    rfl
  · obtain ⟨a, st, b, rfl, ha, h1, hl, hq⟩ := h
    refine ⟨_, pss_cons (ps_set (i := 2) scGaps.nd rfl (Or.inl rfl) (pe_op op_catA (pe_slice sl_tupA (pv 0) (po_some pe_int) po_none) (pe_tup (pa_cons (pe_op op_add (pe_callB call_len_seq (by rfl) T.len PySem.boot_len (pa_cons (pv 0) pa_nil)) pe_int) pa_nil))))
      (pss_cons (ps_set (i := 3) scGaps.nd rfl (Or.inl rfl) pe_int)
      (pss_cons (ps_for PassesOwn.never rfl (RZ.pi_zipA (by rfl) T.zip (pa_cons (pv 0) (pa_cons (pv 2) pa_nil))) (pg_tup rfl (pgs_cons (pg_name (i := 4) scGaps.nd rfl (Or.inl rfl)) (pgs_cons (pg_name (i := 5) scGaps.nd rfl (Or.inl rfl)) pgs_nil)))
        (pss_one (ps_if (pt_val (pe_df G (by rfl) hr (pa_cons (pv 4) (pa_cons (pv 5) (pa_cons (pv 1) pa_nil))))) (pss_one (ps_set (i := 3) scGaps.nd rfl (Or.inl rfl) (pe_op op_add (pv 3) pe_int))) pss_nil)))
      (pss_one (ps_ret (pv 3))))), ?_⟩
    refine ⟨_, rfl, 1, rfl, slA_from ha fun H1 q1 s1 c1 => ?_⟩
    rw [show (1 : Int) = ((1 : Nat) : Int) from rfl, cut_drop] at c1
    -- (len(stack) + 1,)
    refine ⟨_, rfl, a, _, rfl, .inr (SqT.of (s1 _ _ ha)), _, _, rfl, rfl, (by show 1 ≤ sizeLine; decide), fun q2 n2 => ?_⟩
    rw [vi_length]
    have s2 : Same H1 (upd H1 q2 (.tup [V.int ((st.length : Int) + 1)])) := same_new n2
    refine catA_of (ys := [V.int ((st.length : Int) + 1)]) (s2 _ _ c1) upd_same (by rw [vi_length, List.length_drop]; exact fits_line (m := 2000) (by show st.length - 1 + 1 ≤ 2000; omega)) fun H3 q3 s3 c3 => ?_
    have c3' : H3 q3 = some (.tup (vi ((st ++ [(st.length : Int) + 1]).drop 1))) := by
      rw [c3, List.drop_append_of_le_length h1, vi_append]
      rfl
    have s4 : Same H H3 := (s1.trans s2).trans s3
    -- found = 0; for upper, lower in zip(stack, below)
    refine ⟨_, rfl, _, rfl, a, q3, _, _, rfl, .inr ⟨SqT.of (s4 _ _ ha), SqT.of c3', ?_⟩⟩
    refine RZ.for_zipT (K := K) (a := a) (b := q3) (xs := vi st) (ys := vi ((st ++ [(st.length : Int) + 1]).drop 1)) (by rw [vi_length, vi_length, List.length_drop, List.length_append]; show st.length = st.length + 1 - 1; omega)
      (fun i σ H' => ∃ v4 v5 : Option V, σ = [some (.ref a), some (.int (bI b)), some (.ref q3), some (.int (Mu28.gapsOf b ((st ++ [(st.length : Int) + 1]).take (i + 1)) : Nat)), v4, v5] ∧ Same H3 H') ?_ ?_ ?_ ?_
    · refine ⟨none, none, ?_, Same.refl _⟩
      cases st with
      | nil => exact absurd h1 (by decide)
      | cons x r => rfl
    · rintro i σ H' ⟨v4, v5, rfl, s5⟩
      exact ⟨SqT.of (s5 _ _ (s4 _ _ ha)), SqT.of (s5 _ _ c3')⟩
    · rintro i x y t σ H' hx hy ⟨v4, v5, rfl, s5⟩ nt
      obtain ⟨x, ex, rfl⟩ := vi_get hx
      obtain ⟨y, ey, rfl⟩ := vi_get hy
      have s6 : Same H3 (upd H' t (.tup [.int x, .int y])) := same_upd s5 nt
      have hi : i < st.length := (List.getElem?_eq_some_iff.mp ex).1
      have hx' : (st ++ [(st.length : Int) + 1])[i]? = some x := by rw [List.getElem?_append_left hi, ex]
      have hy' : (st ++ [(st.length : Int) + 1])[i + 1]? = some y := by
        rw [List.getElem?_drop, Nat.add_comm] at ey
        exact ey
      refine ⟨t, _, rfl, SqT.of upd_same, rfl, _, _, rfl, _, _, rfl, rfl, ?_⟩
      refine ⟨_, rfl, _, rfl, _, rfl, x, y, b, rfl, _, rfl, ?_⟩
      have g := gaps_turn b hx' hy'
      cases e : Mu28.gap b x y
      · rw [e] at g
        refine iteF ⟨some (.int x), some (.int y), ?_, s6⟩
        rw [g]
        rfl
      · rw [e] at g
        refine iteT ⟨_, rfl, _, _, rfl, rfl, some (.int x), some (.int y), ?_, s6⟩
        rw [g]
        rfl
    · rintro σ H' ⟨v4, v5, rfl, s5⟩
      refine ⟨_, rfl, ?_⟩
      have e : Mu28.gapsOf b ((st ++ [(st.length : Int) + 1]).take ((vi st).length + 1)) = Mu28.gaps b st := by
        rw [vi_length, List.take_of_length_le (by rw [List.length_append]; exact Nat.le_refl _)]
        rfl
      rw [e]
      exact hq H' (s4.trans s5)
/-! ### place_of -/
abbrev stPlace : Stmt := top 8
theorem scPlace : FnScope ["stack", "size", "found", "k"] ["stack", "size"] (defScope stPlace) := ⟨rfl, rfl, rfl, by decide +kernel, rfl, by decide +kernel, by decide +kernel⟩
def spPlace : Sp := fun vs H Q _ => ∃ (a : Addr) (s : List Int) (v n : Nat) (b : Bool), vs = [.ref a, .int v] ∧ H a = some (.tup (vi s)) ∧ Pk.Ok b n s ∧ 1 ≤ v ∧ v ≤ n ∧ n ≤ 1000 ∧ Q (.int (Mu28.placeOf v s : Nat)) H
theorem place_turn {b : Bool} {n v i : Nat} {s : List Int} {x : Int} (h : Pk.Ok b n s) (h1 : 1 ≤ v) (h2 : v ≤ n) (hx : s[i]? = some x) : x.natAbs = v ↔ Mu28.placeOf v s = i + 1 := by
  constructor
  · rintro rfl
    exact Pk.place_is h hx
  · intro e
    obtain ⟨y, hy, ey, _⟩ := Pk.place_at h h1 h2
    rw [e, Nat.add_sub_cancel, hx] at hy
    rw [Option.some.inj hy]
    exact ey
theorem abs_int (x : Int) : (if x < 0 then -x else x) = (x.natAbs : Int) := by
  split <;> omega
theorem ok_place {f : Addr} {fd : FuncData} (F : Fun K "place_of" "place_of" stPlace f fd) (T : Bi mg) : FnOk P w K mg base CX0 1 f fd ["stack", "size"] spPlace := by
  refine F.ok scPlace (fun vs H Q E h => ?_) (fun cdv A outer s H vs Q E hr h => ?_)
  · obtain ⟨a, s, v, n, b, rfl, _⟩ := h
    rfl
  · obtain ⟨a, st, v, n, b, rfl, ha, hk, h1, h2, h3, hq⟩ := h
    have hn := hk.length
    refine ⟨_, pss_cons (ps_set (i := 2) scPlace.nd rfl (Or.inl rfl) pe_int)
      (pss_cons (ps_for PassesOwn.never rfl (pi_range1 (by rfl) T.range (pa_cons (pe_callB call_len_seq (by rfl) T.len PySem.boot_len (pa_cons (pv 0) pa_nil)) pa_nil)) (pg_name (i := 3) scPlace.nd rfl (Or.inl rfl))
        (pss_one (ps_if (pt_cmpR op_eq (pe_callB call_abs (by rfl) T.abs (by decide +kernel) (pa_cons (pe_ix ix_tup (pv 0) (pv 3) (fun _ _ => rfl)) pa_nil)) (pv 1) (nomark _)) (pss_one (ps_set (i := 2) scPlace.nd rfl (Or.inl rfl) (pe_op op_add (pv 3) pe_int))) pss_nil)))
      (pss_one (ps_ret (pv 2)))), ?_⟩
    refine ⟨_, rfl, a, _, rfl, .inr (SqT.of ha), (vi st).length, rfl, by omega, by rw [vi_length]; omega, ?_⟩
    rw [vi_length, hn]
    refine for_range (lo := 0) (n := n) (fun i σ H' => ∃ v3 : Option V, σ = [some (.ref a), some (.int v), some (.int ((if Mu28.placeOf v st ≤ i then Mu28.placeOf v st else 0 : Nat) : Int)), v3] ∧ H' = H) ?_ ?_ ?_
    · refine ⟨none, ?_, rfl⟩
      obtain ⟨_, _, _, q, _⟩ := Pk.place_at hk h1 h2
      rw [if_neg (by omega)]
      rfl
    · rintro i σ H' hi ⟨v3, rfl, rfl⟩
      obtain ⟨x, hx⟩ : ∃ x, st[i]? = some x := ⟨_, List.getElem?_eq_getElem (by omega)⟩
      have hx2 : (vi st)[i]? = some (V.int x) := by
        unfold vi
        rw [List.getElem?_map, hx]
        rfl
      have pt := place_turn hk h1 h2 hx
      refine ⟨_, rfl, _, rfl, a, _, _, _, rfl, rfl, SqT.of ha, at_of (j := i) (by omega) hx2, x, rfl, _, rfl, rfl, _, rfl, ?_⟩
      rw [abs_int, dec_int]
      by_cases c : x.natAbs = v
      · rw [beq_iff_eq.mpr (show (x.natAbs : Int) = (v : Int) by omega)]
        refine iteT ⟨_, rfl, _, _, rfl, rfl, some (.int (0 + (i : Int))), ?_, rfl⟩
        have e := pt.mp c
        rw [e, if_pos (Nat.le_refl _)]
        show [_, _, some (V.int (0 + (i : Int) + 1)), _] = [_, _, some (V.int ((i + 1 : Nat) : Int)), _]
        rw [show (0 + (i : Int) + 1) = ((i + 1 : Nat) : Int) by omega]
      · rw [beq_eq_false_iff_ne.mpr (show (x.natAbs : Int) ≠ (v : Int) by omega)]
        refine iteF ⟨some (.int (0 + (i : Int))), ?_, rfl⟩
        have e : ¬ Mu28.placeOf v st = i + 1 := fun q => c (pt.mpr q)
        by_cases d : Mu28.placeOf v st ≤ i
        · rw [if_pos d, if_pos (by omega)]
          rfl
        · rw [if_neg d, if_neg (by omega)]
          rfl
    · rintro σ H' ⟨v3, rfl, rfl⟩
      obtain ⟨_, _, _, _, q⟩ := Pk.place_at hk h1 h2
      refine ⟨_, rfl, ?_⟩
      rw [if_pos q]
      exact hq

/-! ### order_of -/
abbrev stOrder : Stmt := top 9
theorem scOrder : FnScope ["stack", "found", "size"] ["stack"] (defScope stOrder) := ⟨rfl, rfl, rfl, by decide +kernel, rfl, by decide +kernel, by decide +kernel⟩
def spOrder : Sp := fun vs H Q _ => ∃ (a : Addr) (s : List Int), vs = [.ref a] ∧ H a = some (.tup (vi s)) ∧ s.length ≤ 1000 ∧ ∀ H' p, Same H H' → H p = none → H' p = some (.lst (vi (Pk.ordL s))) → Q (.ref p) H'
theorem ok_order {f : Addr} {fd : FuncData} (F : Fun K "order_of" "order_of" stOrder f fd) (T : Bi mg) : FnOk P w K mg base CX0 1 f fd ["stack"] spOrder := by
  refine F.ok scOrder (fun vs H Q E h => ?_) (fun cdv A outer s H vs Q E hr h => ?_)
  · obtain ⟨a, s, rfl, _⟩ := h
    rfl
  · obtain ⟨a, st, rfl, ha, hl, hq⟩ := h
    refine ⟨_, pss_cons (ps_set (i := 1) scOrder.nd rfl (Or.inl rfl) (pe_lst pa_nil))
      (pss_cons (ps_for PassesOwn.never rfl (pi_tup (pv 0)) (pg_name (i := 2) scOrder.nd rfl (Or.inl rfl))
        (pss_one (ps_expr (pe_bm PySem.F.plainAttrs_list PySem.F.slot_list_append PySem.F.type_list_append mt_append (pv 1) (pa_cons
          (pe_op op_add (pe_op op_mul pe_int (pe_callB call_abs (by rfl) T.abs (by decide +kernel) (pa_cons (pv 2) pa_nil))) (pe_callTy call_int1 (by rfl) T.int (by decide +kernel) (pa_cons (pe_cmpR op_gt (pv 2) pe_int (nomark _)) pa_nil))) pa_nil)))))
      (pss_one (ps_ret (pv 1)))), ?_⟩
    refine ⟨Nat.zero_le _, fun D nD => ?_⟩
    refine ⟨_, rfl, a, rfl, ⟨_, SqT.of (same_new nD _ _ ha)⟩, for_tup (K := K) (a := a) (xs := vi st) (fun i σ H' => ∃ v2 : Option V, σ = [some (.ref a), some (.ref D), v2] ∧ Same H H' ∧ H' D = some (.lst (vi (Pk.ordL (st.take i))))) ?_ ?_ ?_ ?_⟩
    · exact ⟨none, rfl, same_new nD, upd_same⟩
    · rintro i σ H' hi ⟨v2, rfl, s1, h1⟩
      exact SqT.of (s1 _ _ ha)
    · rintro i y σ H' hy ⟨v2, rfl, s1, h1⟩
      obtain ⟨x, ex, rfl⟩ := vi_get hy
      refine ⟨_, rfl, .inl ⟨rfl, _, SqL.of h1⟩, _, rfl, x, rfl, _, _, rfl, rfl, .inl ⟨by decide, by decide⟩, _, rfl, _, _, rfl, rfl, .inr ⟨_, rfl, _, _, rfl, rfl, D, _, _, rfl, rfl, h1, ?_, ?_⟩⟩
      · rw [vi_length]
        unfold Pk.ordL
        rw [List.length_map, List.length_take]
        exact small1000 (by omega)
      · refine ⟨some (.int x), rfl, same_set s1 nD, ?_⟩
        have e : Pk.ordL (st.take (i + 1)) = Pk.ordL (st.take i) ++ [Pk.ord x] := by
          unfold Pk.ordL
          rw [take_snoc ex, List.map_append]
          rfl
        rw [upd_same, e, vi_append]
        have e2 : 2 * (if x < 0 then -x else x) + (if decide (0 < x) = true then 1 else 0) = Pk.ord x := by
          unfold Pk.ord Pk.absI
          rw [abs_int]
          by_cases c : 0 < x
          · rw [decide_eq_true c, if_pos rfl, if_pos c]
          · rw [decide_eq_false c, if_neg Bool.false_ne_true, if_neg c]
        exact congrArg (fun z => some (HO.lst (vi (Pk.ordL (st.take i)) ++ [V.int z]))) e2
    · rintro σ H' ⟨v2, rfl, s1, h1⟩
      rw [vi_length, List.take_length] at h1
      exact ⟨_, rfl, hq H' D s1 nD h1⟩
/-! ### is_stack -/
abbrev stIs : Stmt := top 3
theorem scIs : FnScope ["sizes", "sides", "most", "size"] ["sizes", "sides"] (defScope stIs) := ⟨rfl, rfl, rfl, by decide +kernel, rfl, by decide +kernel, by decide +kernel⟩
def spIs : Sp := fun vs H Q _ => ∃ (a : Addr) (s : List Int) (b : Bool), vs = [.ref a, .int (bI b)] ∧ H a = some (.lst (vi s)) ∧ s.length ≤ 60 ∧ ∀ H', Same H H' → Q (.bl (Mu28.isStack b s)) H'
theorem abs_take {s : List Int} {i : Nat} {x : Int} (h : s[i]? = some x) : (s.take (i + 1)).map Pk.absI = (s.take i).map Pk.absI ++ [Pk.absI x] := by
  rw [take_snoc h, List.map_append]
  rfl
theorem ok_is {f : Addr} {fd : FuncData} (F : Fun K "is_stack" "is_stack" stIs f fd) (T : Bi mg) (g8 : IsG mg "MOST_PLAIN" 8) (g6 : IsG mg "MOST_SIDED" 6) : FnOk P w K mg base CX0 1 f fd ["sizes", "sides"] spIs := by
  refine F.ok scIs (fun vs H Q E h => ?_) (fun cdv A outer s H vs Q E hr h => ?_)
  · obtain ⟨a, s, b, rfl, _⟩ := h
    rfl
  · obtain ⟨a, st, b, rfl, ha, hl, hq⟩ := h
    refine ⟨_, pss_cons (ps_set (i := 2) scIs.nd rfl (Or.inl rfl) (pe_gi g8 (by rfl)))
      (pss_cons (ps_if (pt_cmpR op_eq (pv 1) pe_int (nomark _)) (pss_one (ps_set (i := 2) scIs.nd rfl (Or.inl rfl) (pe_gi g6 (by rfl)))) pss_nil)
      (pss_cons (ps_if (PW.pt (pw_or (pt_cmpR op_lt (pe_callB call_len_seq (by rfl) T.len PySem.boot_len (pa_cons (pv 0) pa_nil)) pe_int (nomark _)) (pw_or1 (pt_cmpR op_gt (pe_callB call_len_seq (by rfl) T.len PySem.boot_len (pa_cons (pv 0) pa_nil)) (pv 2) (nomark _))))) (pss_one (ps_ret pe_bl)) pss_nil)
      (pss_cons (ps_if (PW.pt (pw_and (pt_cmpR op_eq (pv 1) pe_int (nomark _)) (pw_and1 (pt_cmpR op_lt (pe_callB (cr_min rfl) (by rfl) T.min_ (by decide +kernel) (pa_cons (pv 0) pa_nil)) pe_int (nomark _))))) (pss_one (ps_ret pe_bl)) pss_nil)
      (pss_one (ps_ret (pe_cmpR (op_eqD hr.units) (pe_callB cr_sorted (by rfl) T.sorted (by decide +kernel) (pa_cons
          (pe_lc (own := [("size", 3)]) (g := gName 3) (tt := tYes) rfl scIs.nd (pi_list (pv 0)) (blkOk_by (N := ["sizes", "sides", "most", "size"]) (sc := defScope stIs) (by decide +kernel))
            (fun _ _ _ _ _ => pg_name (i := 3) scIs.nd rfl (Or.inl rfl)) (fun _ _ _ _ _ => pts_nil) (fun _ _ _ _ _ => pe_callB call_abs (by rfl) T.abs (by decide +kernel) (pa_cons (pv 3) pa_nil))) pa_nil))
        (pe_listRg rfl (by rfl) T.list (prg_2 (by rfl) T.range pe_int (pe_op op_add (pe_callB call_len_seq (by rfl) T.len PySem.boot_len (pa_cons (pv 0) pa_nil)) pe_int))) (nomark _))))))), ?_⟩
    have no : Mu28.isStack b st = false → Q (.bl false) H := fun e => by
      have q := hq H (Same.refl H)
      rw [e] at q
      exact q
    refine ⟨_, rfl, rfl, _, rfl, ?_⟩
    rw [bI_eq]
    refine if_set (y := .int 8) rfl fun z ez => ?_
    have ez2 : z = .int ((if b = true then 6 else 8 : Nat) : Int) := by
      rw [ez]
      cases b <;> rfl
    subst ez2
    -- if len(sizes) < 1 or len(sizes) > most
    refine ⟨_, rfl, a, _, rfl, .inl (SqL.of ha), _, _, rfl, rfl, _, rfl, ?_⟩
    rw [vi_length]
    by_cases c1 : (st.length : Int) < 1
    · exact if_y (decide_eq_true c1) (iteT (no (Pk.isStack_no (.inl (by omega)))))
    refine if_n (decide_eq_false c1) ⟨_, rfl, a, _, rfl, .inl (SqL.of ha), _, rfl, _, _, rfl, rfl, _, rfl, ?_⟩
    rw [vi_length]
    by_cases c2 : ((if b = true then 6 else 8 : Nat) : Int) < (st.length : Int)
    · exact if_y (decide_eq_true c2) (no (Pk.isStack_no (.inr (.inl (by omega)))))
    refine if_n (decide_eq_false c2) ?_
    -- if sides == 0 and min(sizes) < 0
    refine ⟨_, rfl, rfl, _, rfl, ?_⟩
    refine Or.elim (Bool.eq_false_or_eq_true b) ?c1 ?c2
    case' c1 =>
      intro hb
      refine if_n (by rw [bI_zero, hb]; rfl) (iteF ?_)
      have h3 : b = false → ∀ x ∈ st, 0 ≤ x := fun q => by
        rw [hb] at q
        cases q
    case' c2 =>
      intro hb
      refine if_y (by rw [bI_zero, hb]; rfl) ⟨_, rfl, a, st, rfl, SqL.of ha, by omega, fun m hm1 hm2 => ⟨_, _, rfl, rfl, _, rfl, ?_⟩⟩
      by_cases c3 : m < 0
      · exact if_y (decide_eq_true c3) (no (Pk.isStack_no (.inr (.inr ⟨hb, m, hm1, c3⟩))))
      refine if_n (decide_eq_false c3) ?_
      have h3 : b = false → ∀ x ∈ st, 0 ≤ x := fun _ x hx => by
        have := hm2 x hx
        omega
    -- return sorted(..) == list(range(..))
    all_goals
      refine ⟨_, rfl, a, rfl, ⟨_, SqL.of ha⟩, fun D nD => lc_list (K := K) (a := a) (xs := vi st) (fun i H' => Same H H' ∧ H' D = some (.lst (vi ((st.take i).map Pk.absI)))) ⟨same_new nD, upd_same⟩ (fun i H' _ q => SqL.of (q.1 _ _ ha)) ?_ ?_⟩
      · rintro i y H' hy ⟨s1, h1⟩
        obtain ⟨x, ex, rfl⟩ := vi_get hy
        refine ⟨rfl, ?_⟩
        refine ⟨_, rfl, x, rfl, _, h1, ?_, same_set s1 nD, ?_⟩
        · rw [vi_length, List.length_map, List.length_take]
          exact small1000 (by omega)
        · rw [upd_same, abs_take ex, vi_append, abs_int]
          rfl
      · rintro H' ⟨s1, h1⟩
        rw [vi_length, List.take_length] at h1
        refine ⟨D, st.map Pk.absI, rfl, SqL.of h1, by rw [List.length_map]; omega, fun u q hp hu nq => ?_⟩
        have s2 : Same H (upd H' q (.lst (vi u))) := same_upd s1 nq
        refine ⟨_, rfl, a, _, rfl, .inl (SqL.of (s2 _ _ ha)), _, _, rfl, rfl, 1, ((vi st).length : Int) + 1, rfl, rfl, ?_, fun r nr => ?_⟩
        · rw [vi_length]
          exact RgOk.of_le (by omega) (by omega) (by omega) (by omega)
        · rw [vi_length, rg_sorted]
          have s3 : Same H (upd (upd H' q (.lst (vi u))) r (.lst (vi (Mu28.sorted st.length)))) := same_upd s2 nr
          refine eqD_lsts (s := u) (t := Mu28.sorted st.length) ?_ upd_same ?_
          · rw [upd_ne (ne_of_none upd_same nr)]
            exact upd_same
          · have q4 := hq _ s3
            rw [Pk.isStack_up hp hu (by omega) (by omega) h3] at q4
            exact q4
end
end Pw
/-! The walk, part 2: distances. -/
namespace Pw
open PySem PySem.Spec PyProof.Rows L2

/-! ### what changes, what stays -/
/-- all that was tracked is as it was, but at S -/
def Fx (S : List Addr) (H H' : Hp) : Prop := ∀ c o, H c = some o → c ∉ S → H' c = some o
theorem Fx.refl (S : List Addr) (H : Hp) : Fx S H H := fun _ _ e _ => e
theorem Fx.trans {S : List Addr} {H H1 H2 : Hp} (a : Fx S H H1) (b : Fx S H1 H2) : Fx S H H2 := fun c o e n => b c o (a c o e n) n
theorem Fx.same {S : List Addr} {H H1 H2 : Hp} (a : Fx S H H1) (b : Same H1 H2) : Fx S H H2 := fun c o e n => b c o (a c o e n)
theorem Fx.of {S : List Addr} {H H1 : Hp} (a : Same H H1) : Fx S H H1 := fun c o e _ => a c o e
theorem Fx.upd {S : List Addr} {H H1 : Hp} {a : Addr} {o : HO} (f : Fx S H H1) (h : a ∈ S) : Fx S H (L2.upd H1 a o) := fun c u e n => by
  rw [upd_ne (fun q => n (by rw [q]; exact h))]
  exact f c u e n
/-- what was not there at the start counts for nothing -/
theorem Fx.drop {a : Addr} {H H1 : Hp} (f : Fx [a] H H1) (n : H a = none) : Same H H1 := fun c o e => f c o e fun m => by
  rw [List.mem_singleton] at m
  subst m
  rw [n] at e
  cases e
/-- a row of tuples -/
abbrev Tups (H : Hp) : List Addr → List (List Int) → Prop := Paired fun a s => H a = some (.tup (vi s))
theorem Tups.get {H : Hp} : ∀ {as : List Addr} {L : List (List Int)} {i : Nat} {a : Addr}, Tups H as L → as[i]? = some a → ∃ s, L[i]? = some s ∧ H a = some (.tup (vi s))
  | _, _, _, _, .nil, e => by simp at e
  | _, _, 0, _, .cons r _, e => by
    simp at e
    subst e
    exact ⟨_, rfl, r⟩
  | _, _, i + 1, a, .cons _ t, e => by
    obtain ⟨s, h1, h2⟩ := Tups.get (i := i) (a := a) t (by simpa using e)
    exact ⟨s, by simpa using h1, h2⟩
theorem Tups.keep {H H' : Hp} (k : ∀ a s, H a = some (.tup (vi s)) → H' a = some (.tup (vi s))) : ∀ {as : List Addr} {L : List (List Int)}, Tups H as L → Tups H' as L
  | _, _, .nil => .nil
  | _, _, .cons r t => .cons (k _ _ r) (Tups.keep k t)
theorem Tups.snoc {H : Hp} : ∀ {as : List Addr} {L : List (List Int)} {a : Addr} {s : List Int}, Tups H as L → H a = some (.tup (vi s)) → Tups H (as ++ [a]) (L ++ [s])
  | _, _, _, _, .nil, h => .cons h .nil
  | _, _, _, _, .cons r t, h => .cons r (Tups.snoc t h)
theorem Tups.len {H : Hp} {as : List Addr} {L : List (List Int)} (t : Tups H as L) : as.length = L.length := Paired.length t
theorem refs_get {as : List Addr} {i : Nat} {y : V} (h : (as.map V.ref)[i]? = some y) : ∃ a, as[i]? = some a ∧ y = V.ref a := by
  rw [List.getElem?_map] at h
  cases e : as[i]? with
  | none => rw [e] at h; cases h
  | some a => rw [e] at h; exact ⟨a, rfl, (Option.some.inj h).symm⟩
/-- tuples stay when only things of other kinds change -/
theorem Fx.tup {S : List Addr} {H H' : Hp} (f : Fx S H H') (hS : ∀ a ∈ S, ∀ xs, H a ≠ some (.tup xs)) : ∀ a (s : List Int), H a = some (.tup (vi s)) → H' a = some (.tup (vi s)) := fun a s e => f a _ e fun m => hS a m _ e

/-! ### far as a dict -/
def ky (s : List Int) : List L2.Key := s.map Sum.inl
theorem ky_vi (s : List Int) : (ky s).map kV = vi s := by
  unfold ky vi
  rw [List.map_map]
  rfl
theorem ky_inj : ∀ {s t : List Int}, ky s = ky t → s = t
  | [], [], _ => rfl
  | [], _ :: _, h => by cases h
  | _ :: _, [], h => by cases h
  | x :: s, y :: t, h => by
    obtain ⟨h1, h2⟩ := List.cons.inj h
    rw [Sum.inl.inj h1, ky_inj h2]
def enc (F : Pk.Far) : List (List L2.Key × V) := F.map fun p => (ky p.1, V.int (p.2 : Nat))
theorem enc_none {s : List Int} : ∀ {F : Pk.Far}, s ∉ Pk.keys F → valV (enc F) (ky s) = none
  | [], _ => rfl
  | p :: F, h => by
    have h1 : ¬ ky p.1 = ky s := fun e => h (by rw [← ky_inj e]; exact List.mem_cons_self ..)
    show valV ((ky p.1, V.int (p.2 : Nat)) :: enc F) (ky s) = none
    rw [valV_neg h1]
    exact enc_none fun q => h (List.mem_cons_of_mem _ q)
theorem enc_some {s : List Int} : ∀ {F : Pk.Far}, s ∈ Pk.keys F → ∃ v, valV (enc F) (ky s) = some v
  | [], h => by cases h
  | p :: F, h => by
    show ∃ v, valV ((ky p.1, V.int (p.2 : Nat)) :: enc F) (ky s) = some v
    by_cases e : p.1 = s
    · exact ⟨_, valV_pos (by rw [e])⟩
    · rcases List.mem_cons.mp h with q | q
      · exact absurd q.symm e
      · obtain ⟨v, hv⟩ := enc_some (F := F) q
        exact ⟨v, by rw [valV_neg fun w => e (ky_inj w)]; exact hv⟩
theorem enc_at {s : List Int} {d : Nat} : ∀ {F : Pk.Far}, (Pk.keys F).Nodup → (s, d) ∈ F → valV (enc F) (ky s) = some (V.int (d : Nat))
  | [], _, h => by cases h
  | p :: F, hn, h => by
    have hn' := List.nodup_cons.mp (show (p.1 :: Pk.keys F).Nodup from hn)
    show valV ((ky p.1, V.int (p.2 : Nat)) :: enc F) (ky s) = _
    rcases List.mem_cons.mp h with e | e
    · rw [← e]
      exact valV_pos rfl
    · have q : ¬ p.1 = s := fun w => hn'.1 (by rw [w]; exact List.mem_map_of_mem (f := (·.1)) e)
      rw [valV_neg fun w => q (ky_inj w)]
      exact enc_at hn'.2 e
theorem enc_put {F : Pk.Far} {s : List Int} {m : Nat} (h : s ∉ Pk.keys F) : putK (enc F) (ky s) (V.int (m : Nat)) = enc (F ++ [(s, m)]) := by
  rw [putK_new _ (enc_none h)]
  unfold enc
  rw [List.map_append]
  rfl
theorem enc_length (F : Pk.Far) : (enc F).length = F.length := List.length_map ..
theorem tupk {H : Hp} {a : Addr} {s : List Int} (h : H a = some (.tup (vi s))) : H a = some (.tup ((ky s).map kV)) := by
  rw [ky_vi]
  exact h
def wi (b : Bool) (n : Nat) : List Int := (Mu28.ways b n).map fun (k : Nat) => (k : Int)
theorem wi_get {b : Bool} {n i : Nat} {y : V} (h : (vi (wi b n))[i]? = some y) : ∃ k, (Mu28.ways b n)[i]? = some k ∧ y = V.int (k : Nat) := by
  obtain ⟨x, hx, rfl⟩ := vi_get h
  unfold wi at hx
  rw [List.getElem?_map] at hx
  cases e : (Mu28.ways b n)[i]? with
  | none => rw [e] at hx; cases hx
  | some k =>
    rw [e] at hx
    refine ⟨k, rfl, ?_⟩
    rw [← Option.some.inj hx]
theorem wi_length (b : Bool) (n : Nat) : (vi (wi b n)).length = (Mu28.ways b n).length := by
  unfold wi
  rw [vi_length, List.length_map]

section
variable {P : Program} {w : World} {K : PySem.W.Frag} {mg : Str → Option Value} {base : Heap}
/-! ### useful_flips -/
abbrev stUse : Stmt := top 12
theorem scUse : FnScope ["many", "sides"] ["many", "sides"] (defScope stUse) := ⟨rfl, rfl, rfl, by decide +kernel, rfl, by decide +kernel, by decide +kernel⟩
def spUse : Sp := fun vs H Q _ => ∃ (n : Nat) (b : Bool), vs = [.int n, .int (bI b)] ∧ n ≤ 1000 ∧ ∀ H' p, Same H H' → H p = none → H' p = some (.lst (vi (wi b n))) → Q (.ref p) H'
theorem ok_use {f : Addr} {fd : FuncData} (F : Fun K "useful_flips" "useful_flips" stUse f fd) (T : Bi mg) : FnOk P w K mg base CX0 1 f fd ["many", "sides"] spUse := by
  refine F.ok scUse (fun vs H Q E h => ?_) (fun cdv A outer s H vs Q E hr h => ?_)
  · obtain ⟨n, b, rfl, _⟩ := h
    rfl
  · obtain ⟨n, b, rfl, hn, hq⟩ := h
    refine ⟨_, pss_cons (ps_if (pt_cmpR op_eq (pv 1) pe_int (nomark _)) (pss_one (ps_ret (pe_listRg rfl (by rfl) T.list (prg_2 (by rfl) T.range pe_int (pe_op op_add (pv 0) pe_int))))) pss_nil)
      (pss_one (ps_ret (pe_listRg rfl (by rfl) T.list (prg_2 (by rfl) T.range pe_int (pe_op op_add (pv 0) pe_int))))), ?_⟩
    refine ⟨_, rfl, rfl, _, rfl, ?_⟩
    rw [bI_eq]
    cases b
    · refine iteF ⟨_, rfl, _, _, rfl, rfl, 2, (n : Int) + 1, rfl, rfl, RgOk.of_le (by omega) (by omega) (by omega) (by omega), fun q hq' => hq _ q (same_new hq') hq' ?_⟩
      rw [upd_same]
      exact congrArg (fun z => some (HO.lst z)) (rg_ways false n)
    · refine iteT ⟨_, rfl, _, _, rfl, rfl, 1, (n : Int) + 1, rfl, rfl, RgOk.of_le (by omega) (by omega) (by omega) (by omega), fun q hq' => hq _ q (same_new hq') hq' ?_⟩
      rw [upd_same]
      exact congrArg (fun z => some (HO.lst z)) (rg_ways true n)
/-! ### next_layer -/
abbrev stNext : Stmt := top 13
abbrev nNext : List Str := ["far", "layer", "many", "sides", "found", "stack", "flip", "turned"]
theorem scNext : FnScope nNext ["far", "layer", "many", "sides"] (defScope stNext) := ⟨rfl, rfl, rfl, by decide +kernel, rfl, by decide +kernel, by decide +kernel⟩
def spNext : Sp := fun vs H Q _ => ∃ (fa la : Addr) (as : List Addr) (F : Pk.Far) (L : List (List Int)) (n m : Nat) (b : Bool), vs = [.ref fa, .ref la, .int ((m + 1 : Nat) : Int), .int (bI b)] ∧
  H fa = some (.dT (enc F)) ∧ H la = some (.lst (as.map V.ref)) ∧ Tups H as L ∧ Pk.Lay b n m F L ∧ Pk.Sz b n ∧
  ∀ H' p as', Fx [fa] H H' → H p = none → H' fa = some (.dT (enc (Pk.nextLayer b (m + 1) F L).1)) → H' p = some (.lst (as'.map V.ref)) → Tups H' as' (Pk.nextLayer b (m + 1) F L).2 → Q (.ref p) H'
/-- the candidates gone through -/
def gone (b : Bool) (L : List (List Int)) (i : Nat) : List (List Int) := Pk.cands b (L.take i)
def gone2 (b : Bool) (L : List (List Int)) (i : Nat) (s : List Int) (j : Nat) : List (List Int) := gone b L i ++ ((Mu28.ways b s.length).take j).map fun k => Mu28.flip b k s
theorem gone_next {b : Bool} {L : List (List Int)} {i : Nat} {s : List Int} (h : L[i]? = some s) : gone2 b L i s (Mu28.ways b s.length).length = gone b L (i + 1) := by
  unfold gone2 gone Pk.cands
  rw [List.take_length, take_snoc h, List.flatMap_append]
  congr 1
  exact (List.append_nil _).symm
theorem gone_turn {b : Bool} {L : List (List Int)} {i j k : Nat} {s : List Int} (h : (Mu28.ways b s.length)[j]? = some k) : gone2 b L i s (j + 1) = gone2 b L i s j ++ [Mu28.flip b k s] := by
  unfold gone2
  rw [take_snoc h, List.map_append, List.append_assoc]
  rfl
theorem gone_in {b : Bool} {L : List (List Int)} {i j : Nat} {s : List Int} (h : L[i]? = some s) : ∀ t ∈ gone2 b L i s j, t ∈ Pk.cands b L := fun t ht => by
  unfold gone2 gone at ht
  rcases List.mem_append.mp ht with q | q
  · obtain ⟨u, hu, q⟩ := List.mem_flatMap.mp q
    exact List.mem_flatMap.mpr ⟨u, List.mem_of_mem_take hu, q⟩
  · obtain ⟨k, hk, e⟩ := List.mem_map.mp q
    exact List.mem_flatMap.mpr ⟨s, List.mem_of_getElem? h, List.mem_map.mpr ⟨k, List.mem_of_mem_take hk, e⟩⟩
def ran (m : Nat) (F : Pk.Far) (C : List (List Int)) : Pk.Far × List (List Int) := C.foldl (Pk.putNew (m + 1)) (F, [])
theorem ran_snoc (m : Nat) (F : Pk.Far) (C : List (List Int)) (t : List Int) : ran m F (C ++ [t]) = Pk.putNew (m + 1) (ran m F C) t := by
  unfold ran
  rw [List.foldl_append]
  rfl
theorem ran_len {b : Bool} {n m : Nat} {F : Pk.Far} {L C : List (List Int)} (h : Pk.Lay b n m F L) (z : Pk.Sz b n) (hc : ∀ t ∈ C, t ∈ Pk.cands b L) : (ran m F C).1.length ≤ 46080 ∧ (ran m F C).2.length ≤ 46080 := by
  have k := Pk.run_keyed h hc
  have h1 := k.len z
  have h2 := Pk.put_len (Pk.put_run (m + 1) F C)
  exact ⟨h1, Nat.le_trans h2 h1⟩
theorem lt_line {n : Nat} (h : n ≤ 46080) : n < sizeLine := by
  rw [sizeLine_eq]
  omega
theorem ok_next {f : Addr} {fd : FuncData} (F : Fun K "next_layer" "next_layer" stNext f fd) (T : Bi mg) (U : Df P w K mg base "useful_flips" 1 ["many", "sides"] spUse) (G : Df P w K mg base "flipped" 1 ["stack", "flip", "sides"] spFlipped) :
    FnOk P w K mg base CX0 2 f fd ["far", "layer", "many", "sides"] spNext := by
  refine F.ok scNext (fun vs H Q E h => ?_) (fun cdv A outer s H vs Q E hr h => ?_)
  · obtain ⟨fa, la, as, F, L, n, m, b, rfl, _⟩ := h
    rfl
  · obtain ⟨fa, la, as, F, L, n, m, b, rfl, hF, hL, hT, hLay, hz, hq⟩ := h
    have hu := hu_of hr
    refine ⟨_, pss_cons (ps_set (i := 4) scNext.nd rfl (Or.inl rfl) (pe_lst pa_nil))
      (pss_cons (ps_for PassesOwn.never rfl (pi_list (pv 1)) (pg_name (i := 5) scNext.nd rfl (Or.inl rfl))
        (pss_one (ps_for PassesOwn.never rfl (pi_list (pe_df U (by rfl) hr (pa_cons (pe_callB call_len_seq (by rfl) T.len PySem.boot_len (pa_cons (pv 5) pa_nil)) (pa_cons (pv 3) pa_nil)))) (pg_name (i := 6) scNext.nd rfl (Or.inl rfl))
          (pss_cons (ps_set (i := 7) scNext.nd rfl (Or.inl rfl) (pe_df G (by rfl) hr (pa_cons (pv 5) (pa_cons (pv 6) (pa_cons (pv 3) pa_nil)))))
          (pss_one (ps_if (pt_cmp (pc_dnotin hu (pv 7) (pv 0)) rfl)
            (pss_cons (ps_dput hu (pv 0) (pv 7) (pv 2) rfl)
            (pss_one (ps_expr (pe_bm PySem.F.plainAttrs_list PySem.F.slot_list_append PySem.F.type_list_append mt_append (pv 4) (pa_cons (pv 7) pa_nil))))) pss_nil))))))
      (pss_one (ps_ret (pv 4)))), ?_⟩
    -- found = []
    refine ⟨Nat.zero_le _, fun D nD => ?_⟩
    have dF : fa ≠ D := ne_of_none hF nD
    obtain ⟨H0, e0⟩ : ∃ H0, H0 = upd H D (.lst []) := ⟨_, rfl⟩
    rw [← e0]
    have s0 : Same H H0 := by
      rw [e0]
      exact same_new nD
    have hD0 : H0 D = some (.lst []) := by
      rw [e0]
      exact upd_same
    have kS : ∀ a ∈ [fa, D], ∀ xs, H0 a ≠ some (.tup xs) := fun a ha xs e => by
      rcases List.mem_cons.mp ha with q | q
      · rw [q, s0 _ _ hF] at e
        cases e
      · rw [List.mem_singleton] at q
        rw [q, hD0] at e
        cases e
    have hL0 := s0 _ _ hL
    have nL : la ∉ [fa, D] := fun q => by
      rcases List.mem_cons.mp q with q | q
      · rw [q, s0 _ _ hF] at hL0
        cases hL0
      · rw [List.mem_singleton] at q
        exact ne_of_none hL nD q
    -- for stack in layer
    refine ⟨_, rfl, la, rfl, ⟨_, SqL.of hL0⟩, for_list (K := K) (a := la) (xs := as.map V.ref)
      (fun i σ H' => ∃ (v5 v6 v7 : Option V) (as' : List Addr), σ = [some (.ref fa), some (.ref la), some (.int ((m + 1 : Nat) : Int)), some (.int (bI b)), some (.ref D), v5, v6, v7] ∧ Fx [fa, D] H0 H' ∧
        H' fa = some (.dT (enc (ran m F (gone b L i)).1)) ∧ H' D = some (.lst (as'.map V.ref)) ∧ Tups H' as' (ran m F (gone b L i)).2) ?_ ?_ ?_ ?_⟩
    · refine ⟨none, none, none, [], rfl, Fx.refl _ _, s0 _ _ hF, hD0, .nil⟩
    · rintro i σ H' hi ⟨v5, v6, v7, as', rfl, f1, h1, h2, h3⟩
      exact SqL.of (f1 _ _ hL0 nL)
    · rintro i y σ H' hy ⟨v5, v6, v7, as', rfl, f1, h1, h2, h3⟩
      obtain ⟨a, ea, rfl⟩ := refs_get hy
      obtain ⟨st, eL, ha⟩ := hT.get ea
      have hst := hLay.layOk st (List.mem_of_getElem? eL)
      have hn : st.length = n := hst.length
      have hn8 : n ≤ 8 := by
        have := hz.2
        split at this <;> omega
      have ha1 : H' a = some (.tup (vi st)) := f1.tup kS a st (s0 _ _ ha)
      refine ⟨_, rfl, a, _, rfl, .inr (SqT.of ha1), _, rfl, st.length, b, by rw [vi_length]; rfl, by omega, fun H2 p s2 np hp => ?_⟩
      have nDp : D ≠ p := ne_of_none h2 np
      have nfp : fa ≠ p := ne_of_none h1 np
      have kS2 : ∀ a ∈ [fa, D], ∀ xs, H2 a ≠ some (.tup xs) := fun a ha xs e => by
        rcases List.mem_cons.mp ha with q | q
        · rw [q, s2 _ _ h1] at e
          cases e
        · rw [List.mem_singleton] at q
          rw [q, s2 _ _ h2] at e
          cases e
      refine ⟨p, rfl, ⟨_, SqL.of hp⟩, for_list (K := K) (a := p) (xs := vi (wi b st.length))
        (fun j σ H' => ∃ (v6 v7 : Option V) (as' : List Addr), σ = [some (.ref fa), some (.ref la), some (.int ((m + 1 : Nat) : Int)), some (.int (bI b)), some (.ref D), some (.ref a), v6, v7] ∧ Fx [fa, D] H2 H' ∧
          H' fa = some (.dT (enc (ran m F (gone2 b L i st j)).1)) ∧ H' D = some (.lst (as'.map V.ref)) ∧ Tups H' as' (ran m F (gone2 b L i st j)).2) ?_ ?_ ?_ ?_⟩
      · refine ⟨v6, v7, as', rfl, Fx.refl _ _, ?_, s2 _ _ h2, ?_⟩
        · rw [show gone2 b L i st 0 = gone b L i from List.append_nil _]
          exact s2 _ _ h1
        · rw [show gone2 b L i st 0 = gone b L i from List.append_nil _]
          exact h3.keep fun a s e => s2 _ _ e
      · rintro j σ H3 hj ⟨v6, v7, as3, rfl, f3, g1, g2, g3⟩
        refine SqL.of (f3 _ _ hp fun q => ?_)
        rcases List.mem_cons.mp q with q | q
        · exact nfp q.symm
        · rw [List.mem_singleton] at q
          exact nDp q.symm
      · rintro j y σ H3 hy ⟨v6, v7, as3, rfl, f3, g1, g2, g3⟩
        obtain ⟨k, ek, rfl⟩ := wi_get hy
        -- turned = flipped(stack, flip, sides)
        have ha3 : H3 a = some (.tup (vi st)) := f3.tup kS2 a st (s2 _ _ ha1)
        refine ⟨_, rfl, _, rfl, _, rfl, a, st, k, b, rfl, ha3, by omega, fun H4 t s4 ht => ?_⟩
        -- if turned not in far
        refine ⟨_, rfl, _, rfl, fa, _, rfl, DGet.t (s4 _ _ g1) (tupk ht), _, rfl, ?_⟩
        have inC : ∀ t ∈ gone2 b L i st j, t ∈ Pk.cands b L := gone_in eL
        obtain ⟨l1, l2⟩ := ran_len hLay hz inC
        have eT : ran m F (gone2 b L i st (j + 1)) = Pk.putNew (m + 1) (ran m F (gone2 b L i st j)) (Mu28.flip b k st) := by rw [gone_turn ek, ran_snoc]
        by_cases c : Mu28.flip b k st ∈ Pk.keys (ran m F (gone2 b L i st j)).1
        · obtain ⟨v, hv⟩ := enc_some c
          rw [hv]
          refine iteF ⟨some (.int (k : Nat)), some (.ref t), as3, rfl, f3.same s4, ?_, s4 _ _ g2, ?_⟩
          · rw [eT]
            unfold Pk.putNew
            rw [if_pos c]
            exact s4 _ _ g1
          · rw [eT]
            unfold Pk.putNew
            rw [if_pos c]
            exact g3.keep fun a s e => s4 _ _ e
        · rw [enc_none c]
          refine iteT ⟨_, rfl, _, rfl, _, rfl, fa, _, rfl, DPut.t (s4 _ _ g1) (tupk ht) (by rw [enc_length]; exact lt_line l1), ?_⟩
          rw [enc_put c]
          have q2 : H4 D = some (.lst (as3.map V.ref)) := s4 _ _ g2
          have q3 : upd H4 fa (.dT (enc ((ran m F (gone2 b L i st j)).1 ++ [(Mu28.flip b k st, m + 1)]))) D = some (.lst (as3.map V.ref)) := by
            rw [upd_ne (Ne.symm dF)]
            exact q2
          have keepT : ∀ a s, H4 a = some (.tup (vi s)) → upd (upd H4 fa (.dT (enc ((ran m F (gone2 b L i st j)).1 ++ [(Mu28.flip b k st, m + 1)])))) D (.lst (as3.map V.ref ++ [V.ref t])) a = some (.tup (vi s)) := fun a s e => by
            rw [upd_ne (ne_of e q2 (fun z => nomatch z)), upd_ne (ne_of e (s4 _ _ g1) (fun z => nomatch z))]
            exact e
          refine ⟨_, rfl, .inl ⟨rfl, _, SqL.of q3⟩, _, rfl, D, _, _, rfl, rfl, q3, by rw [List.length_map, g3.len]; exact lt_line l2, ?_⟩
          refine ⟨some (.int (k : Nat)), some (.ref t), as3 ++ [t], rfl, ((f3.same s4).upd (List.mem_cons_self ..)).upd (List.mem_cons_of_mem _ (List.mem_singleton.mpr rfl)), ?_, ?_, ?_⟩
          · rw [upd_ne dF, upd_same, eT]
            unfold Pk.putNew
            rw [if_neg c]
          · rw [upd_same, List.map_append]
            rfl
          · rw [eT]
            unfold Pk.putNew
            rw [if_neg c]
            exact ((g3.keep fun a s e => s4 _ _ e).keep keepT).snoc (keepT _ _ ht)
      · rintro σ H3 ⟨v6, v7, as3, rfl, f3, g1, g2, g3⟩
        rw [wi_length, gone_next eL] at g1 g3
        exact ⟨_, _, _, as3, rfl, (f1.same s2).trans f3, g1, g2, g3⟩
    · rintro σ H' ⟨v5, v6, v7, as', rfl, f1, h1, h2, h3⟩
      rw [List.length_map, hT.len] at h1 h3
      have eN : ran m F (gone b L L.length) = Pk.nextLayer b (m + 1) F L := by
        unfold gone ran
        rw [List.take_length, Pk.nextLayer_cands]
      rw [eN] at h1 h3
      refine ⟨_, rfl, hq H' D as' (fun c o e n => ?_) nD h1 h2 h3⟩
      refine f1 c o (s0 _ _ e) fun q => ?_
      rcases List.mem_cons.mp q with q | q
      · exact n (by rw [q]; exact List.mem_cons_self ..)
      · rw [List.mem_singleton] at q
        subst q
        rw [nD] at e
        cases e
/-! ### far_of -/
abbrev stFar : Stmt := top 14
abbrev nFar : List Str := ["many", "sides", "first", "far", "layer", "flips"]
theorem scFar : FnScope nFar ["many", "sides"] (defScope stFar) := ⟨rfl, rfl, rfl, by decide +kernel, rfl, by decide +kernel, by decide +kernel⟩
def spFar : Sp := fun vs H Q _ => ∃ (n : Nat) (b : Bool), vs = [.int n, .int (bI b)] ∧ Pk.Sz b n ∧ ∀ H' p F, Same H H' → H p = none → H' p = some (.dT (enc F)) → Pk.FarOk b n F → Q (.ref p) H'
theorem sz_le {b : Bool} {n : Nat} (z : Pk.Sz b n) : 1 ≤ n ∧ n ≤ 8 := by
  obtain ⟨h1, h2⟩ := z
  refine ⟨h1, ?_⟩
  split at h2 <;> omega
theorem ok_far {f : Addr} {fd : FuncData} (F : Fun K "far_of" "far_of" stFar f fd) (T : Bi mg) (g3 : IsG mg "MOST_FLIPS_A_SIZE" 3) (S : Df P w K mg base "sorted_stack" 1 ["many"] spSorted) (N : Df P w K mg base "next_layer" 2 ["far", "layer", "many", "sides"] spNext) :
    FnOk P w K mg base CX0 3 f fd ["many", "sides"] spFar := by
  refine F.ok scFar (fun vs H Q E h => ?_) (fun cdv A outer s H vs Q E hr h => ?_)
  · obtain ⟨n, b, rfl, _⟩ := h
    rfl
  · obtain ⟨n, b, rfl, hz, hq⟩ := h
    have hu := hu_of hr
    have hn := sz_le hz
    refine ⟨_, pss_cons (ps_set (i := 2) scFar.nd rfl (Or.inl rfl) (pe_df S (by rfl) (hr.mono (by decide)) (pa_cons (pv 0) pa_nil)))
      (pss_cons (ps_set (i := 3) scFar.nd rfl (Or.inl rfl) (Px.pe_disp1 (Nat.lt_of_succ_lt hu) (pv 2) pe_int))
      (pss_cons (ps_set (i := 4) scFar.nd rfl (Or.inl rfl) (pe_lst (pa_cons (pv 2) pa_nil)))
      (pss_cons (ps_for PassesOwn.never rfl (pi_range2 (by rfl) T.range (pa_cons pe_int (pa_cons (pe_op op_add (pe_op op_mul (pe_gi g3 (by rfl)) (pv 0)) pe_int) pa_nil))) (pg_name (i := 5) scFar.nd rfl (Or.inl rfl))
        (pss_one (ps_set (i := 4) scFar.nd rfl (Or.inl rfl) (pe_df N (by rfl) hr (pa_cons (pv 3) (pa_cons (pv 4) (pa_cons (pv 5) (pa_cons (pv 1) pa_nil))))))))
      (pss_one (ps_ret (pv 3)))))), ?_⟩
    -- first = sorted_stack(many)
    refine ⟨_, rfl, n, rfl, by omega, fun H1 t s1 ht => ?_⟩
    -- far = {first: 0}
    intro fa nfa
    have ht2 : upd H1 fa (.dT []) t = some (.tup (vi (Mu28.sorted n))) := by
      rw [upd_ne (ne_of_none ht nfa)]
      exact ht
    refine ⟨_, rfl, upd_same, t, ky (Mu28.sorted n), rfl, tupk ht2, ?_⟩
    rw [upd_upd]
    have eE : ([(ky (Mu28.sorted n), V.int 0)] : List (List L2.Key × V)) = enc (Pk.far1 false n 0).1 := rfl
    obtain ⟨H2, e2⟩ : ∃ H2, H2 = upd H1 fa (.dT [(ky (Mu28.sorted n), V.int 0)]) := ⟨_, rfl⟩
    rw [← e2]
    have s2 : Same H1 H2 := by
      rw [e2]
      exact same_new nfa
    have hfa : H2 fa = some (.dT [(ky (Mu28.sorted n), V.int 0)]) := by
      rw [e2]
      exact upd_same
    have nfH : H fa = none := s1.free nfa
    -- layer = [first]
    refine ⟨_, rfl, (by show 1 ≤ sizeLine; decide), fun la nla => ?_⟩
    have s3 : Same H2 (upd H2 la (.lst [.ref t])) := same_new nla
    -- for flips in range(1, MOST_FLIPS_A_SIZE * many + 1)
    refine ⟨_, rfl, _, _, rfl, rfl, .inl ⟨by decide, by decide⟩, _, _, rfl, rfl, 1, 3 * (n : Int) + 1, rfl, ⟨by omega, by omega, by omega, by omega⟩, ?_⟩
    have en : (3 * (n : Int) + 1 - 1).toNat = 3 * n := by omega
    rw [en]
    refine for_range (lo := 1) (n := 3 * n) (fun i σ H' => ∃ (v5 : Option V) (la : Addr) (as : List Addr), σ = [some (.int n), some (.int (bI b)), some (.ref t), some (.ref fa), some (.ref la), v5] ∧ Same H H' ∧
      H' fa = some (.dT (enc (Pk.far1 b n i).1)) ∧ H' la = some (.lst (as.map V.ref)) ∧ Tups H' as (Pk.far1 b n i).2) ?_ ?_ ?_
    · refine ⟨none, la, [t], rfl, (s1.trans s2).trans s3, s3 _ _ hfa, upd_same, .cons (s3 _ _ (s2 _ _ ht)) .nil⟩
    · rintro i σ H' hi ⟨v5, la, as, rfl, s4, h1, h2, h3⟩
      refine ⟨_, rfl, _, rfl, _, rfl, _, rfl, fa, la, as, _, _, n, i, b, ?_, h1, h2, h3, Pk.lay_at b n i, hz, fun H5 p as' f5 np g1 g2 g3 => ?_⟩
      · show [_, _, V.int (1 + (i : Int)), _] = [_, _, V.int ((i + 1 : Nat) : Int), _]
        rw [show (1 + (i : Int)) = ((i + 1 : Nat) : Int) by omega]
      · refine ⟨some (.int (1 + (i : Int))), p, as', rfl, fun c o e => f5 c o (s4 c o e) fun q => ?_, g1, g2, g3⟩
        rw [List.mem_singleton] at q
        subst q
        rw [nfH] at e
        cases e
    · rintro σ H' ⟨v5, la, as, rfl, s4, h1, h2, h3⟩
      exact ⟨_, rfl, hq H' fa _ s4 nfH h1 (Pk.far_ok b n)⟩

/-! ### nearer_flip -/
abbrev stNear : Stmt := top 15
theorem scNear : FnScope ["far", "stack", "sides", "flip"] ["far", "stack", "sides"] (defScope stNear) := ⟨rfl, rfl, rfl, by decide +kernel, rfl, by decide +kernel, by decide +kernel⟩
def spNear : Sp := fun vs H Q _ => ∃ (fa a : Addr) (F : Pk.Far) (st : List Int) (n m : Nat) (b : Bool), vs = [.ref fa, .ref a, .int (bI b)] ∧ H fa = some (.dT (enc F)) ∧ Pk.FarOk b n F ∧ Pk.Sz b n ∧ H a = some (.tup (vi st)) ∧ Pk.Ok b n st ∧ Pk.Dist b st (m + 1) ∧
  ∀ H' k, Same H H' → Pk.nearest b m st = some k → Q (.int (k : Nat)) H'
theorem find_take {α : Type} {p : α → Bool} : ∀ {l : List α} {i : Nat} {x : α}, (∀ y ∈ l.take i, p y = false) → l[i]? = some x → p x = true → l.find? p = some x
  | [], _, _, _, h, _ => by simp at h
  | y :: l, 0, x, _, h, hp => by
    have e : y = x := Option.some.inj h
    subst e
    rw [List.find?_cons, hp]
  | y :: l, i + 1, x, hn, h, hp => by
    rw [List.find?_cons, hn y (List.mem_cons_self ..)]
    exact find_take (i := i) (fun z hz => hn z (List.mem_cons_of_mem _ hz)) h hp
theorem ok_near {f : Addr} {fd : FuncData} (F : Fun K "nearer_flip" "nearer_flip" stNear f fd) (T : Bi mg) (U : Df P w K mg base "useful_flips" 1 ["many", "sides"] spUse) (G : Df P w K mg base "flipped" 1 ["stack", "flip", "sides"] spFlipped) :
    FnOk P w K mg base CX0 2 f fd ["far", "stack", "sides"] spNear := by
  refine F.ok scNear (fun vs H Q E h => ?_) (fun cdv A outer s H vs Q E hr h => ?_)
  · obtain ⟨fa, a, F, st, n, m, b, rfl, _⟩ := h
    rfl
  · obtain ⟨fa, a, F, st, n, m, b, rfl, hF, hO, hz, ha, hs, hd, hq⟩ := h
    have hu := hu_of hr
    have hn := sz_le hz
    have hl := hs.length
    refine ⟨_, pss_cons (ps_for PassesOwn.never rfl (pi_list (pe_df U (by rfl) hr (pa_cons (pe_callB call_len_seq (by rfl) T.len PySem.boot_len (pa_cons (pv 1) pa_nil)) (pa_cons (pv 2) pa_nil)))) (pg_name (i := 3) scNear.nd rfl (Or.inl rfl))
        (pss_one (ps_if (pt_cmpR op_eq (pe_dget hu (pv 0) (pe_df G (by rfl) hr (pa_cons (pv 1) (pa_cons (pv 3) (pa_cons (pv 2) pa_nil)))) (fun _ _ => rfl)) (pe_op op_sub (pe_dget hu (pv 0) (pv 1) (fun _ _ => rfl)) pe_int) (nomark _))
          (pss_one (ps_ret (pv 3))) pss_nil)))
      (pss_one (ps_ret pe_int)), ?_⟩
    refine ⟨_, rfl, a, _, rfl, .inr (SqT.of ha), _, rfl, st.length, b, by rw [vi_length]; rfl, by omega, fun H1 p s1 np hp => ?_⟩
    refine ⟨p, rfl, ⟨_, SqL.of hp⟩, for_list (K := K) (a := p) (xs := vi (wi b st.length)) (fun i σ H' => ∃ v3 : Option V, σ = [some (.ref fa), some (.ref a), some (.int (bI b)), v3] ∧ Same H1 H' ∧
      ∀ k ∈ (Mu28.ways b st.length).take i, (Mu28.search b m (Mu28.flip b k st)).isSome = false) ?_ ?_ ?_ ?_⟩
    · exact ⟨none, rfl, Same.refl _, fun k hk => by cases hk⟩
    · rintro i σ H' hi ⟨v3, rfl, s2, h1⟩
      exact SqL.of (s2 _ _ hp)
    · rintro i y σ H' hy ⟨v3, rfl, s2, h1⟩
      obtain ⟨k, ek, rfl⟩ := wi_get hy
      have s12 := s1.trans s2
      have hkw : k ∈ Mu28.ways b st.length := List.mem_of_getElem? ek
      obtain ⟨d, hd1, hd2⟩ := hO.at_ (hs.flip k)
      obtain ⟨d0, hd3, hd4⟩ := hO.at_ hs
      have e0 : d0 = m + 1 := hd4.inj hd
      subst e0
      refine ⟨_, rfl, _, rfl, _, rfl, _, rfl, a, st, k, b, rfl, s12 _ _ ha, by omega, fun H3 t s3 ht => ?_⟩
      have hF3 := s3 _ _ (s12 _ _ hF)
      have g1 : DGet H3 fa (.ref t) (some (V.int (d : Nat))) := by
        have q := DGet.t hF3 (tupk ht)
        rw [enc_at hO.nodup hd1] at q
        exact q
      have g2 : DGet H3 fa (.ref a) (some (V.int ((m + 1 : Nat) : Int))) := by
        have q := DGet.t hF3 (tupk (s3 _ _ (s12 _ _ ha)))
        rw [enc_at hO.nodup hd3] at q
        exact q
      refine ⟨fa, _, rfl, g1, _, rfl, _, rfl, fa, _, rfl, g2, _, _, rfl, rfl, rfl, _, rfl, ?_⟩
      rw [dec_int]
      by_cases c : d = m
      · rw [beq_iff_eq.mpr (show (d : Int) = ((m + 1 : Nat) : Int) - 1 by omega)]
        subst c
        refine iteT ⟨_, rfl, hq H3 k (s12.trans s3) ?_⟩
        exact find_take h1 ek ((Pk.search_can b d _).mpr hd2.can)
      · rw [beq_eq_false_iff_ne.mpr (show (d : Int) ≠ ((m + 1 : Nat) : Int) - 1 by omega)]
        refine iteF ⟨some (.int (k : Nat)), rfl, s2.trans s3, fun j hj => ?_⟩
        rw [take_snoc ek] at hj
        rcases List.mem_append.mp hj with q | q
        · exact h1 j q
        · rw [List.mem_singleton] at q
          subst q
          cases e : (Mu28.search b m (Mu28.flip b j st)).isSome with
          | false => rfl
          | true => exact absurd (hd2.inj (hd.step hkw ((Pk.search_can b m _).mp e))) c
    · rintro σ H' ⟨v3, rfl, s2, h1⟩
      rw [wi_length, List.take_length] at h1
      obtain ⟨k, l, _, hk, hs1, _⟩ := Pk.search_near hd.can
      have q := h1 k hk
      rw [hs1] at q
      cases q

/-! ### fewest_row -/
abbrev stFew : Stmt := top 16
abbrev nFew : List Str := ["far", "stack", "sides", "row", "here", "turn", "flip"]
theorem scFew : FnScope nFew ["far", "stack", "sides"] (defScope stFew) := ⟨rfl, rfl, rfl, by decide +kernel, rfl, by decide +kernel, by decide +kernel⟩
abbrev ni (l : List Nat) : List Int := l.map fun (k : Nat) => (k : Int)
def spFew : Sp := fun vs H Q _ => ∃ (fa a : Addr) (F : Pk.Far) (st : List Int) (n : Nat) (b : Bool), vs = [.ref fa, .ref a, .int (bI b)] ∧ H fa = some (.dT (enc F)) ∧ Pk.FarOk b n F ∧ Pk.Sz b n ∧ H a = some (.tup (vi st)) ∧ Pk.Ok b n st ∧
  ∀ H' p l, Same H H' → H p = none → Mu28.fewest b st = some l → l.length ≤ 20 → H' p = some (.lst (vi (ni l))) → Q (.ref p) H'
theorem ok_few {f : Addr} {fd : FuncData} (F : Fun K "fewest_row" "fewest_row" stFew f fd) (T : Bi mg) (N : Df P w K mg base "nearer_flip" 2 ["far", "stack", "sides"] spNear) (G : Df P w K mg base "flipped" 1 ["stack", "flip", "sides"] spFlipped) :
    FnOk P w K mg base CX0 3 f fd ["far", "stack", "sides"] spFew := by
  refine F.ok scFew (fun vs H Q E h => ?_) (fun cdv A outer s H vs Q E hr h => ?_)
  · obtain ⟨fa, a, F, st, n, b, rfl, _⟩ := h
    rfl
  · obtain ⟨fa, a, F, st, n, b, rfl, hF, hO, hz, ha, hs, hq⟩ := h
    have hu := hu_of hr
    have hn := sz_le hz
    refine ⟨_, pss_cons (ps_set (i := 3) scFew.nd rfl (Or.inl rfl) (pe_lst pa_nil))
      (pss_cons (ps_set (i := 4) scFew.nd rfl (Or.inl rfl) (pv 1))
      (pss_cons (ps_for PassesOwn.never rfl (pi_range1 (by rfl) T.range (pa_cons (pe_dget hu (pv 0) (pv 1) (fun _ _ => rfl)) pa_nil)) (pg_name (i := 5) scFew.nd rfl (Or.inl rfl))
        (pss_cons (ps_set (i := 6) scFew.nd rfl (Or.inl rfl) (pe_df N (by rfl) hr (pa_cons (pv 0) (pa_cons (pv 4) (pa_cons (pv 2) pa_nil)))))
        (pss_cons (ps_expr (pe_bm PySem.F.plainAttrs_list PySem.F.slot_list_append PySem.F.type_list_append mt_append (pv 3) (pa_cons (pv 6) pa_nil)))
        (pss_one (ps_set (i := 4) scFew.nd rfl (Or.inl rfl) (pe_df G (by rfl) (hr.mono (by decide)) (pa_cons (pv 4) (pa_cons (pv 6) (pa_cons (pv 2) pa_nil)))))))))
      (pss_one (ps_ret (pv 3))))), ?_⟩
    refine ⟨Nat.zero_le _, fun D nD => ?_⟩
    obtain ⟨H0, e0⟩ : ∃ H0, H0 = upd H D (.lst []) := ⟨_, rfl⟩
    rw [← e0]
    have s0 : Same H H0 := by
      rw [e0]
      exact same_new nD
    have hD0 : H0 D = some (.lst []) := by
      rw [e0]
      exact upd_same
    obtain ⟨d, hd1, hd2⟩ := hO.at_ hs
    have hd20 := Pk.dist_small hz hs hd2
    obtain ⟨l, hl⟩ : ∃ l, Mu28.search b d st = some l := by
      have q := (Pk.search_can b d st).mpr hd2.can
      cases e : Mu28.search b d st with
      | none => rw [e] at q; simp at q
      | some l => exact ⟨l, rfl⟩
    have hfw : Mu28.fewest b st = some l := (Pk.fewest_dist hd2 hd20).trans hl
    have g1 : DGet H0 fa (.ref a) (some (V.int (d : Nat))) := by
      have q := DGet.t (s0 _ _ hF) (tupk (s0 _ _ ha))
      rw [enc_at hO.nodup hd1] at q
      exact q
    refine ⟨_, rfl, _, rfl, _, rfl, fa, _, rfl, g1, d, rfl, by omega, by omega, ?_⟩
    refine for_range (lo := 0) (n := d) (fun i σ H' => ∃ (v5 v6 : Option V) (h : Addr) (u : List Int) (r q : List Nat), σ = [some (.ref fa), some (.ref a), some (.int (bI b)), some (.ref D), some (.ref h), v5, v6] ∧ Fx [D] H0 H' ∧
      H' h = some (.tup (vi u)) ∧ Pk.Ok b n u ∧ Pk.Dist b u (d - i) ∧ H' D = some (.lst (vi (ni r))) ∧ r.length = i ∧ l = r ++ q ∧ Mu28.search b (d - i) u = some q) ?_ ?_ ?_
    · exact ⟨none, none, a, st, [], l, rfl, Fx.refl _ _, s0 _ _ ha, hs, hd2, hD0, rfl, rfl, hl⟩
    · rintro i σ H' hi ⟨v5, v6, h, u, r, q, rfl, f1, h1, h2, h3, h4, h5, h6, h7⟩
      obtain ⟨m, em⟩ : ∃ m, d - i = m + 1 := ⟨d - i - 1, by omega⟩
      rw [em] at h3 h7
      have nf : fa ∉ [D] := fun w => by
        rw [List.mem_singleton] at w
        exact ne_of_none hF nD w
      have hF1 := f1 _ _ (s0 _ _ hF) nf
      obtain ⟨k, q', hk1, hk2, hk3, hk4⟩ := Pk.search_near h3.can
      refine ⟨_, rfl, _, rfl, _, rfl, fa, h, F, u, n, m, b, rfl, hF1, hO, hz, h1, h2, h3, fun H3 k' s3 ek => ?_⟩
      have ekk : k' = k := Option.some.inj (ek.symm.trans hk1)
      subst ekk
      have hD3 := s3 _ _ h4
      refine ⟨_, rfl, .inl ⟨rfl, _, SqL.of hD3⟩, _, rfl, D, _, _, rfl, rfl, hD3, ?_, ?_⟩
      · rw [vi_length, List.length_map]
        exact small1000 (by omega)
      · have hh : upd H3 D (.lst (vi (ni r) ++ [V.int (k' : Nat)])) h = some (.tup (vi u)) := by
          rw [upd_ne (ne_of (s3 _ _ h1) hD3 (fun z => nomatch z))]
          exact s3 _ _ h1
        refine ⟨_, rfl, _, rfl, _, rfl, h, u, k', b, rfl, hh, by rw [h2.length]; omega, fun H4 t s4 ht => ?_⟩
        have eq' : q = k' :: q' := Option.some.inj (h7.symm.trans hk4)
        refine ⟨some (.int (0 + (i : Int))), some (.int (k' : Nat)), t, _, r ++ [k'], q', rfl, ((f1.same s3).upd (List.mem_singleton.mpr rfl)).same s4, ht, h2.flip k', ?_, ?_, by rw [List.length_append, h5]; rfl, by rw [h6, eq', List.append_assoc]; rfl, ?_⟩
        · have e2 : d - (i + 1) = m := by omega
          rw [e2]
          exact h3.step hk2 ((Pk.search_can b m _).mp (by rw [hk3]; rfl))
        · rw [s4 _ _ upd_same]
          show _ = some (HO.lst (vi ((r ++ [k']).map fun (k : Nat) => (k : Int))))
          rw [List.map_append, vi_append]
          rfl
        · have e2 : d - (i + 1) = m := by omega
          rw [e2]
          exact hk3
    · rintro σ H' ⟨v5, v6, h, u, r, q, rfl, f1, h1, h2, h3, h4, h5, h6, h7⟩
      have e2 : d - d = 0 := Nat.sub_self d
      rw [e2] at h7
      have eq0 : q = [] := by
        have w := Pk.search_length b 0 u q h7
        exact List.eq_nil_of_length_eq_zero w
      rw [eq0, List.append_nil] at h6
      subst h6
      exact ⟨_, rfl, hq H' D l (fun c o e => f1 c o (s0 c o e) fun w => by
        rw [List.mem_singleton] at w
        subst w
        rw [nD] at e
        cases e) nD hfw (by omega) h4⟩
/-! ### counts_of -/
theorem enc_vals (F : Pk.Far) : (enc F).map (·.2) = (ni (F.map (·.2))).map V.int := by
  unfold enc ni
  rw [List.map_map, List.map_map, List.map_map]
  rfl
theorem top_of {l : List Nat} {m : Int} (h1 : m ∈ ni l) (h2 : ∀ y, y ∈ ni l → y ≤ m) : ∃ k : Nat, m = (k : Int) ∧ Pk.Top k l := by
  obtain ⟨k, hk, e⟩ := List.mem_map.mp h1
  have e' : (k : Int) = m := e
  subst e'
  refine ⟨k, rfl, hk, fun x hx => ?_⟩
  have := h2 (x : Int) (List.mem_map.mpr ⟨x, hx, rfl⟩)
  omega
theorem top_uniq {l : List Nat} {k m : Nat} (h1 : Pk.Top k l) (h2 : Pk.Top m l) : k = m := by
  have := h1.2 m h2.1
  have := h2.2 k h1.1
  omega
theorem tyD {K : PySem.W.Frag} {H : Hp} {a : Addr} {kvs : List (List L2.Key × V)} (h : H a = some (.dT kvs)) : tyV K "dict" (.ref a) H := .inr (.inr (.inl ⟨rfl, .inr ⟨_, h⟩⟩))
theorem vals_flip {b : Bool} {n : Nat} {F : Pk.Far} (hO : Pk.FarOk b n F) (hz : Pk.Sz b n) : ∀ d ∈ F.map (·.2), d ≤ 20 := fun d hd => by
  obtain ⟨p, hp, e⟩ := List.mem_map.mp hd
  subst e
  exact Pk.dist_small hz (hO.ok p hp).1 (hO.ok p hp).2
abbrev stCnt : Stmt := top 17
theorem scCnt : FnScope ["far", "found", "flips"] ["far"] (defScope stCnt) := ⟨rfl, rfl, rfl, by decide +kernel, rfl, by decide +kernel, by decide +kernel⟩
def spCnt : Sp := fun vs H Q _ => ∃ (fa : Addr) (F : Pk.Far) (n : Nat) (b : Bool), vs = [.ref fa] ∧ H fa = some (.dT (enc F)) ∧ Pk.FarOk b n F ∧ Pk.Sz b n ∧
  ∀ H' p m, Same H H' → H p = none → Pk.Top m (F.map (·.2)) → m ≤ 20 → H' p = some (.lst (vi (Pk.cntL m (F.map (·.2))))) → Q (.ref p) H'
theorem ixN_nat {n j : Nat} (h : j < n) : ixN n (j : Int) = some j := by
  unfold ixN
  rw [if_pos (by omega), if_pos (by omega), Int.toNat_natCast]
theorem rep_one (k : Nat) : (List.replicate k [V.int 0]).flatten = vi (List.replicate k 0) := by
  unfold vi
  rw [List.map_replicate]
  induction k with
  | zero => rfl
  | succ k ih =>
    rw [List.replicate_succ, List.flatten_cons, ih, List.replicate_succ]
    rfl
theorem far_some {b : Bool} {n : Nat} {F : Pk.Far} (hO : Pk.FarOk b n F) : 0 < F.length := by
  obtain ⟨d, hd⟩ := hO.all _ (Pk.ok_sorted b n)
  exact List.length_pos_of_mem hd
theorem ok_cnt {f : Addr} {fd : FuncData} (F : Fun K "counts_of" "counts_of" stCnt f fd) (T : Bi mg) : FnOk P w K mg base CX0 1 f fd ["far"] spCnt := by
  refine F.ok scCnt (fun vs H Q E h => ?_) (fun cdv A outer s H vs Q E hr h => ?_)
  · obtain ⟨fa, F, n, b, rfl, _⟩ := h
    rfl
  · obtain ⟨fa, F, n, b, rfl, hF, hO, hz, hq⟩ := h
    refine ⟨_, pss_cons (ps_set (i := 1) scCnt.nd rfl (Or.inl rfl) (pe_op op_rep (pe_lst (pa_cons pe_int pa_nil)) (pe_op op_add (pe_callB (Px.cr_maxV rfl) (by rfl) T.max_ (by decide +kernel) (pa_cons
          (pe_bm0 PySem.F.plainAttrs_dict PySem.F.slot_dict_values PySem.F.type_dict_values Px.mt_valsT (pv 0)) pa_nil)) pe_int)))
      (pss_cons (ps_lock (ps_for PassesOwn.never rfl (Px.pi_valsT (pv 0)) (pg_name (i := 2) scCnt.nd rfl (Or.inl rfl))
        (pss_one (ps_asg (pe_op op_add (pe_ix ix_list (pv 1) (pv 2) (fun _ _ => rfl)) pe_int) (pg_sub (pv 1) (pv 2) set_list)))))
      (pss_one (ps_ret (pv 1)))), ?_⟩
    refine ⟨(by show 1 ≤ sizeLine; decide), fun l nl => ?_⟩
    have s1 : Same H (upd H l (.lst [.int 0])) := same_new nl
    refine ⟨_, rfl, tyD (s1 _ _ hF), fa, _, rfl, rfl, s1 _ _ hF, fun p np => ?_⟩
    have s2 : Same (upd H l (.lst [.int 0])) (upd (upd H l (.lst [.int 0])) p (Px.valsO p fa)) := same_new np
    refine ⟨p, fa, enc F, ni (F.map (·.2)), rfl, upd_same, s2 _ _ (s1 _ _ hF), enc_vals F, by rw [List.length_map, List.length_map]; exact far_some hO, fun M hM1 hM2 => ?_⟩
    obtain ⟨m, rfl, ht⟩ := top_of hM1 hM2
    have hm20 : m ≤ 20 := vals_flip hO hz m ht.1
    refine ⟨_, _, rfl, rfl, l, (m : Int) + 1, _, rfl, rfl, s2 _ _ upd_same, by omega, by omega, ?_, fun q nq => ?_⟩
    · have e : ((m : Int) + 1).toNat = m + 1 := by omega
      rw [e]
      exact fits_line (m := 100) (by show 1 * (m + 1) ≤ 100; omega)
    have e : ((m : Int) + 1).toNat = m + 1 := by omega
    rw [e, rep_one, ← Pk.cntL_nil]
    obtain ⟨H3, e3⟩ : ∃ H3, H3 = upd (upd (upd H l (.lst [.int 0])) p (Px.valsO p fa)) q (.lst (vi (Pk.cntL m []))) := ⟨_, rfl⟩
    rw [← e3]
    have s3 : Same H H3 := by
      rw [e3]
      exact same_upd (s1.trans s2) nq
    have nqH : H q = none := (s1.trans s2).free nq
    have hq3 : H3 q = some (.lst (vi (Pk.cntL m []))) := by
      rw [e3]
      exact upd_same
    have dq : fa ≠ q := ne_of_none hF nqH
    -- for flips in far.values()
    refine ⟨fa, .dT (enc F), s3 _ _ hF, True.intro, fun od => ?_⟩
    have k1 : ∀ c o, c ≠ fa → H3 c = some o → upd H3 fa (.frz od (.dT (enc F))) c = some o := fun c o n e => by
      rw [upd_ne n]
      exact e
    refine ⟨_, rfl, fa, od, enc F, rfl, upd_same, for_it (Px.walk_valsT (d := fa) (o := od) (kvs := enc F)) (fun i σ H' => ∃ v2 : Option V, σ = [some (.ref fa), some (.ref q), v2] ∧ Fx [q] (upd H3 fa (.frz od (.dT (enc F)))) H' ∧ H' q = some (.lst (vi (Pk.cntL m ((F.map (·.2)).take i))))) ?_ ?_ ?_ ?_⟩
    · exact ⟨none, rfl, Fx.refl _ _, k1 _ _ (Ne.symm dq) hq3⟩
    · rintro i σ H' hi ⟨v2, rfl, f1, h1⟩
      refine f1 _ _ upd_same fun w => ?_
      rw [List.mem_singleton] at w
      exact dq w
    · rintro i y σ H' H4 hi ⟨v2, rfl, f1, h1⟩ ⟨e4, k, hk⟩
      subst e4
      have hk2 : ((F.map (·.2)).map fun (x : Nat) => V.int (x : Int))[i]? = some y := by
        have w : ((enc F).map (·.2))[i]? = some y := by
          rw [List.getElem?_map, hk]
          rfl
        rw [enc_vals] at w
        unfold ni at w
        rw [List.map_map] at w
        exact w
      rw [List.getElem?_map] at hk2
      obtain ⟨x, ex⟩ : ∃ x, (F.map (·.2))[i]? = some x := by
        cases e : (F.map (·.2))[i]? with
        | none => rw [e] at hk2; cases hk2
        | some x => exact ⟨x, rfl⟩
      rw [ex] at hk2
      have ey : V.int (x : Int) = y := Option.some.inj hk2
      subst ey
      have hx : x ≤ m := ht.2 x (List.mem_of_getElem? ex)
      have hg := Pk.cntL_get ((F.map (·.2)).take i) hx
      have hg2 : (vi (Pk.cntL m ((F.map (·.2)).take i)))[x]? = some (V.int (((((F.map (·.2)).take i).filter fun y => y == x).length : Nat) : Int)) := by
        unfold vi
        rw [List.getElem?_map, hg]
        rfl
      refine ⟨_, rfl, _, rfl, q, _, _, _, rfl, rfl, SqL.of h1, atI_nat hg2, _, _, rfl, rfl, _, rfl, _, rfl, q, _, _, x, rfl, rfl, h1, ixN_nat (by rw [vi_length, Pk.cntL_length]; omega), some (.int (x : Nat)), rfl, f1.upd (List.mem_singleton.mpr rfl), ?_⟩
      rw [upd_same, take_snoc ex, ← Pk.cntL_snoc _ hx]
      unfold vi
      rw [List.map_set]
    · rintro σ H' ⟨v2, rfl, f1, h1⟩
      have g1 : H' fa = some (.frz od (.dT (enc F))) := f1 _ _ upd_same fun w => by
        rw [List.mem_singleton] at w
        exact dq w
      refine ⟨g1, _, rfl, ?_⟩
      rw [enc_length] at h1
      have e5 : (F.map (·.2)).take F.length = F.map (·.2) := List.take_of_length_le (by rw [List.length_map]; exact Nat.le_refl _)
      rw [e5] at h1
      refine hq _ q m (fun c o ec => ?_) nqH ht hm20 (by rw [upd_ne (Ne.symm dq)]; exact h1)
      by_cases w : c = fa
      · subst w
        rw [upd_same]
        rw [hF] at ec
        exact ec
      · rw [upd_ne w]
        refine f1 _ _ (k1 _ _ w (s3 _ _ ec)) fun w2 => ?_
        rw [List.mem_singleton] at w2
        subst w2
        rw [nqH] at ec
        cases ec
/-! ### first_worst -/
abbrev stWorst : Stmt := top 18
abbrev nWorst : List Str := ["far", "most", "some", "found", "stack"]
theorem scWorst : FnScope nWorst ["far"] (defScope stWorst) := ⟨rfl, rfl, rfl, by decide +kernel, rfl, by decide +kernel, by decide +kernel⟩
def spWorst : Sp := fun vs H Q _ => ∃ (fa : Addr) (F : Pk.Far) (n : Nat) (b : Bool), vs = [.ref fa] ∧ H fa = some (.dT (enc F)) ∧ Pk.FarOk b n F ∧ Pk.Sz b n ∧
  ∀ H' p st m, Same H H' → Pk.Top m (F.map (·.2)) → (st, m) ∈ F → (∀ t, (t, m) ∈ F → ¬ Pk.ordL t < Pk.ordL st) → H' p = some (.tup (vi st)) → Q (.ref p) H'
/-- those that need m -/
def worst (m : Nat) (F : Pk.Far) : List (List Int) := (F.filter fun p => p.2 == m).map (·.1)
theorem worst_mem {m : Nat} {F : Pk.Far} {s : List Int} : s ∈ worst m F ↔ (s, m) ∈ F := by
  unfold worst
  rw [List.mem_map]
  constructor
  · rintro ⟨p, hp, e⟩
    obtain ⟨h1, h2⟩ := List.mem_filter.mp hp
    have h3 : p.2 = m := eq_of_beq h2
    rw [← e, ← h3]
    exact h1
  · intro h
    exact ⟨(s, m), List.mem_filter.mpr ⟨h, beq_self_eq_true m⟩, rfl⟩
theorem worst_snoc {m i : Nat} {F : Pk.Far} {p : List Int × Nat} (h : F[i]? = some p) : worst m (F.take (i + 1)) = worst m (F.take i) ++ (if p.2 = m then [p.1] else []) := by
  unfold worst
  rw [take_snoc h, List.filter_append, List.map_append]
  congr 1
  by_cases c : p.2 = m
  · rw [if_pos c, List.filter_cons_of_pos (by simpa using c)]
    rfl
  · rw [if_neg c, List.filter_cons_of_neg (by simpa using c)]
    rfl
theorem worst_len (m : Nat) (F : Pk.Far) : (worst m F).length ≤ F.length := by
  unfold worst
  rw [List.length_map]
  exact List.length_filter_le _ _
theorem ok_worst {f : Addr} {fd : FuncData} (F : Fun K "first_worst" "first_worst" stWorst f fd) (T : Bi mg) (O : Df P w K mg base "order_of" 1 ["stack"] spOrder) : FnOk P w K mg base CX0 2 f fd ["far"] spWorst := by
  refine F.ok scWorst (fun vs H Q E h => ?_) (fun cdv A outer s H vs Q E hr h => ?_)
  · obtain ⟨fa, F, n, b, rfl, _⟩ := h
    rfl
  · obtain ⟨fa, F, n, b, rfl, hF, hO, hz, hq⟩ := h
    have hu := hu_of hr
    have hn := sz_le hz
    have hlen := (Pk.Keyed.len hz ⟨hO.nodup, hO.oks⟩ : F.length ≤ 46080)
    refine ⟨_, pss_cons (ps_set (i := 1) scWorst.nd rfl (Or.inr rfl) (pe_callB (Px.cr_maxV rfl) (by rfl) T.max_ (by decide +kernel) (pa_cons (pe_bm0 PySem.F.plainAttrs_dict PySem.F.slot_dict_values PySem.F.type_dict_values Px.mt_valsT (pv 0)) pa_nil)))
      (pss_cons (ps_lock (ps_setLc (i := 2) (own := [("stack", 4)]) (g := gName 4) rfl scWorst.nd rfl rfl (sw_true rfl rfl rfl (by decide +kernel)) (pi_keys (pv 0)) (blkOk_by (N := nWorst) (sc := defScope stWorst) (by decide +kernel))
          (fun _ _ _ _ _ => pg_name (i := 4) scWorst.nd rfl (Or.inl rfl)) (fun _ _ _ _ _ => pts_one (pt_cmpR op_eq (pe_dget hu (pv 0) (pv 4) (fun _ _ => rfl)) (pv 1) (nomark _))) (fun _ _ _ _ _ => pv 4)))
      (pss_cons (ps_set (i := 3) scWorst.nd rfl (Or.inl rfl) (pe_ix ix_list (pv 2) pe_int (fun _ _ => rfl)))
      (pss_cons (ps_for PassesOwn.never rfl (pi_list (pv 2)) (pg_name (i := 4) scWorst.nd rfl (Or.inl rfl))
        (pss_one (ps_if (pt_cmpR (Px.op_ltL (Nat.lt_of_succ_lt hu)) (pe_df O (by rfl) hr (pa_cons (pv 4) pa_nil)) (pe_df O (by rfl) hr (pa_cons (pv 3) pa_nil)) (nomark _)) (pss_one (ps_set (i := 3) scWorst.nd rfl (Or.inl rfl) (pv 4))) pss_nil)))
      (pss_one (ps_ret (pv 3)))))), ?_⟩
    refine ⟨_, rfl, tyD hF, fa, _, rfl, rfl, hF, fun p np => ?_⟩
    obtain ⟨H1, e1⟩ : ∃ H1, H1 = upd H p (Px.valsO p fa) := ⟨_, rfl⟩
    rw [← e1]
    have s1 : Same H H1 := by
      rw [e1]
      exact same_new np
    refine ⟨p, fa, enc F, ni (F.map (·.2)), rfl, by rw [e1]; exact upd_same, s1 _ _ hF, enc_vals F, by rw [List.length_map, List.length_map]; exact far_some hO, fun M hM1 hM2 => ?_⟩
    obtain ⟨m, rfl, ht⟩ := top_of hM1 hM2
    -- some = [stack for stack in far if far[stack] == most]
    refine ⟨fa, .dT (enc F), s1 _ _ hF, True.intro, fun od => ?_⟩
    obtain ⟨HL, eL⟩ : ∃ HL, HL = upd H1 fa (.frz od (.dT (enc F))) := ⟨_, rfl⟩
    rw [← eL]
    have kL : ∀ c o, c ≠ fa → H1 c = some o → HL c = some o := fun c o n e => by
      rw [eL, upd_ne n]
      exact e
    have hL : HL fa = some (.frz od (.dT (enc F))) := by
      rw [eL]
      exact upd_same
    have back : ∀ H', Same HL H' → Same H (upd H' fa (.dT (enc F))) := fun H' sL c o ec => by
      by_cases w : c = fa
      · subst w
        rw [upd_same]
        rw [hF] at ec
        exact ec
      · rw [upd_ne w]
        exact sL _ _ (kL c o w (s1 _ _ ec))
    refine ⟨_, rfl, fa, od, rfl, .inr ⟨enc F, hL, fun D nD => ?_⟩⟩
    refine lc_it (walk_keysT (d := fa) (o := od) (kvs := enc F)) (fun i H' => ∃ as, Same HL H' ∧ H' D = some (.lst (as.map V.ref)) ∧ Tups H' as (worst m (F.take i))) ?_ ?_ ?_ ?_
    · exact ⟨[], same_new nD, upd_same, .nil⟩
    · rintro i H' hi ⟨as, f1, h1, h2⟩
      exact f1 _ _ hL
    · rintro i y H' H4 hi ⟨as, f1, h1, h2⟩ ⟨e4, k, v, t, hk, ey, ht4⟩
      subst e4 ey
      rw [enc_length] at hi
      obtain ⟨q, eq⟩ : ∃ q, F[i]? = some q := ⟨_, List.getElem?_eq_getElem hi⟩
      have hk2 : (enc F)[i]? = some (ky q.1, V.int (q.2 : Nat)) := by
        unfold enc
        rw [List.getElem?_map, eq]
        rfl
      rw [hk] at hk2
      obtain ⟨ek, ev⟩ := Prod.mk.inj (Option.some.inj hk2)
      subst ek ev
      have hin : (q.1, q.2) ∈ F := List.mem_of_getElem? eq
      have ht5 : H4 t = some (.tup (vi q.1)) := by
        rw [ky_vi] at ht4
        exact ht4
      refine ⟨rfl, ?_⟩
      refine ⟨_, rfl, _, rfl, fa, _, rfl, .inr ⟨enc F, ky q.1, t, .inr ⟨od, f1 _ _ hL⟩, rfl, ht4, (enc_at hO.nodup hin).symm⟩, _, rfl, rfl, _, rfl, ?_⟩
      have w := worst_snoc (m := m) eq
      rw [dec_int]
      by_cases c : q.2 = m
      · rw [if_pos c] at w
        rw [beq_iff_eq.mpr (show (q.2 : Int) = (m : Int) by omega)]
        refine iteT ⟨_, rfl, _, h1, ?_, as ++ [t], same_set f1 nD, ?_, ?_⟩
        · rw [List.length_map, h2.len]
          have := worst_len m (F.take i)
          rw [List.length_take] at this
          exact lt_line (by omega)
        · rw [upd_same, List.map_append]
          rfl
        · rw [w]
          have kp : ∀ a s, H4 a = some (.tup (vi s)) → upd H4 D (.lst (as.map V.ref ++ [V.ref t])) a = some (.tup (vi s)) := fun a s e => by
            rw [upd_ne (ne_of e h1 (fun z => nomatch z))]
            exact e
          exact (h2.keep kp).snoc (kp _ _ ht5)
      · rw [if_neg c, List.append_nil] at w
        rw [beq_eq_false_iff_ne.mpr (show (q.2 : Int) ≠ (m : Int) by omega)]
        refine iteF ⟨as, f1, h1, ?_⟩
        rw [w]
        exact h2
    · rintro H' ⟨as, f1, h1, h2⟩
      rw [enc_length, List.take_length] at h2
      refine ⟨f1 _ _ hL, ?_⟩
      obtain ⟨H5, e5⟩ : ∃ H5, H5 = upd H' fa (.dT (enc F)) := ⟨_, rfl⟩
      rw [← e5]
      have s5 : Same H H5 := by
        rw [e5]
        exact back H' f1
      have nfa : ∀ c o, (∀ u, o ≠ .frz od u) → H' c = some o → H5 c = some o := fun c o no e => by
        rw [e5, upd_ne (ne_of e (f1 _ _ hL) (no _))]
        exact e
      have hD5 : H5 D = some (.lst (as.map V.ref)) := nfa _ _ (fun u z => nomatch z) h1
      have hT5 : Tups H5 as (worst m F) := h2.keep fun a s e => nfa _ _ (fun u z => nomatch z) e
      -- found = some[0]
      obtain ⟨st0, hst0⟩ : ∃ st0, (st0, m) ∈ F := by
        obtain ⟨q, hq1, hq2⟩ := List.mem_map.mp ht.1
        exact ⟨q.1, by rw [← hq2]; exact hq1⟩
      have hpos : 0 < as.length := by
        rw [hT5.len]
        exact List.length_pos_of_mem (worst_mem.mpr hst0)
      obtain ⟨a0, ea0⟩ : ∃ a0, as[0]? = some a0 := ⟨_, List.getElem?_eq_getElem hpos⟩
      obtain ⟨u0, eu0, hu0⟩ := hT5.get ea0
      refine ⟨_, rfl, D, _, _, _, rfl, rfl, SqL.of hD5, at_of (j := 0) rfl (show (as.map V.ref)[0]? = some (V.ref a0) by rw [List.getElem?_map, ea0]; rfl), ?_⟩
      -- for stack in some
      refine ⟨_, rfl, D, rfl, ⟨_, SqL.of hD5⟩, for_list (K := K) (a := D) (xs := as.map V.ref) (fun i σ H' => ∃ (v4 : Option V) (a1 : Addr) (u1 : List Int), σ = [some (.ref fa), some (.int (m : Nat)), some (.ref D), some (.ref a1), v4] ∧ Same H5 H' ∧
        H' a1 = some (.tup (vi u1)) ∧ (u1, m) ∈ F ∧ Pk.NoneAhead ((worst m F).take i) u1) ?_ ?_ ?_ ?_⟩
      · exact ⟨none, a0, u0, rfl, Same.refl _, hu0, worst_mem.mp (List.mem_of_getElem? eu0), fun t ht => by cases ht⟩
      · rintro i σ H' hi ⟨v4, a1, u1, rfl, f6, g1, g2, g3⟩
        exact SqL.of (f6 _ _ hD5)
      · rintro i y σ H' hy ⟨v4, a1, u1, rfl, f6, g1, g2, g3⟩
        obtain ⟨a, ea, rfl⟩ := refs_get hy
        obtain ⟨u, eu, hu1⟩ := hT5.get ea
        have hin : (u, m) ∈ F := worst_mem.mp (List.mem_of_getElem? eu)
        have ol : ∀ {x : List Int}, (x, m) ∈ F → x.length ≤ 1000 := fun {x} hx => by
          rw [(hO.ok _ hx).1.length]
          omega
        refine ⟨_, rfl, a, u, rfl, f6 _ _ hu1, ol hin, fun H7 l7 s7 n7 h7 => ?_⟩
        refine ⟨_, rfl, a1, u1, rfl, s7 _ _ g1, ol g2, fun H8 l8 s8 n8 h8 => ?_⟩
        refine ⟨l7, l8, Pk.ordL u, Pk.ordL u1, rfl, rfl, SqL.of (s8 _ _ h7), SqL.of h8, _, rfl, ?_⟩
        have s78 := (f6.trans s7).trans s8
        by_cases c : Pk.ordL u < Pk.ordL u1
        · rw [decide_eq_true c]
          refine iteT ⟨_, rfl, some (.ref a), a, u, rfl, s78, s78 _ _ hu1, hin, ?_⟩
          rw [take_snoc eu]
          exact Pk.ahead_take g3 c
        · rw [decide_eq_false c]
          refine iteF ⟨some (.ref a), a1, u1, rfl, s78, s8 _ _ (s7 _ _ g1), g2, ?_⟩
          rw [take_snoc eu]
          exact Pk.ahead_keep g3 c
      · rintro σ H' ⟨v4, a1, u1, rfl, f6, g1, g2, g3⟩
        rw [List.length_map, hT5.len, List.take_length] at g3
        exact ⟨_, rfl, hq H' a1 u1 m (s5.trans f6) ht g2 (fun t htm => g3 t (worst_mem.mpr htm)) g1⟩
end
end Pw
/-! The walk, part 3: rows. -/
namespace Pw
open PySem PySem.Spec PyProof.Rows L2
theorem ni_get {l : List Nat} {i : Nat} {y : V} (h : (vi (ni l))[i]? = some y) : ∃ k, l[i]? = some k ∧ y = V.int (k : Nat) := by
  obtain ⟨x, hx, rfl⟩ := vi_get h
  unfold ni at hx
  rw [List.getElem?_map] at hx
  cases e : l[i]? with
  | none => rw [e] at hx; cases hx
  | some k =>
    rw [e] at hx
    exact ⟨k, rfl, by rw [← Option.some.inj hx]⟩
theorem ni_length (l : List Nat) : (vi (ni l)).length = l.length := by
  unfold ni
  rw [vi_length, List.length_map]
theorem ni_append (l m : List Nat) : ni (l ++ m) = ni l ++ ni m := List.map_append
section
variable {P : Program} {w : World} {K : PySem.W.Frag} {mg : Str → Option Value} {base : Heap}
/-! ### fits -/
abbrev stFits : Stmt := top 22
theorem scFits : FnScope ["row", "stack", "flip"] ["row", "stack"] (defScope stFits) := ⟨rfl, rfl, rfl, by decide +kernel, rfl, by decide +kernel, by decide +kernel⟩
def spFits : Sp := fun vs H Q _ => ∃ (ra a : Addr) (l : List Nat) (st : List Int), vs = [.ref ra, .ref a] ∧ H ra = some (.lst (vi (ni l))) ∧ l.length ≤ 1000 ∧ H a = some (.tup (vi st)) ∧ st.length ≤ 1000 ∧ ∀ H', Same H H' → Q (.bl (Mu28.fine st.length l)) H'
theorem ok_fits {f : Addr} {fd : FuncData} (F : Fun K "fits" "fits" stFits f fd) (T : Bi mg) : FnOk P w K mg base CX0 1 f fd ["row", "stack"] spFits := by
  refine F.ok scFits (fun vs H Q E h => ?_) (fun cdv A outer s H vs Q E hr h => ?_)
  · obtain ⟨ra, a, l, st, rfl, _⟩ := h
    rfl
  · obtain ⟨ra, a, l, st, rfl, hR, hl, ha, hs, hq⟩ := h
    refine ⟨_, pss_one (ps_ret (pe_callB (cr_all rfl) (by rfl) T.all (by decide +kernel) (pa_cons
      (pe_lc (own := [("flip", 2)]) (g := gName 2) (tt := tYes) rfl scFits.nd (pi_list (pv 0)) (blkOk_by (N := ["row", "stack", "flip"]) (sc := defScope stFits) (by decide +kernel))
        (fun _ _ _ _ _ => pg_name (i := 2) scFits.nd rfl (Or.inl rfl)) (fun _ _ _ _ _ => pts_nil) (fun _ _ _ _ _ => pe_cmpR op_le (pv 2) (pe_callB (r := rLs K) call_ls (by rfl) T.len PySem.boot_len (pa_cons (pv 1) pa_nil)) (nomark _))) pa_nil))), ?_⟩
    refine ⟨_, rfl, ra, rfl, ⟨_, SqL.of hR⟩, fun D nD => lc_list (K := K) (a := ra) (xs := vi (ni l)) (fun i H' => Same H H' ∧ H' D = some (.lst (((l.take i).map fun k => decide (k ≤ st.length)).map V.bl))) ⟨same_new nD, upd_same⟩ (fun i H' _ q => SqL.of (q.1 _ _ hR)) ?_ ?_⟩
    · rintro i y H' hy ⟨s1, h1⟩
      obtain ⟨k, ek, rfl⟩ := ni_get hy
      refine ⟨rfl, ?_⟩
      refine ⟨_, rfl, _, rfl, a, _, rfl, .inr (SqT.of (s1 _ _ ha)), _, _, rfl, rfl, _, h1, ?_, same_set s1 nD, ?_⟩
      · rw [List.length_map, List.length_map, List.length_take]
        exact small1000 (by omega)
      · rw [upd_same, take_snoc ek, List.map_append, List.map_append, vi_length]
        have e : decide ((k : Int) ≤ (st.length : Int)) = decide (k ≤ st.length) := decide_eq_decide.mpr ⟨fun h => by omega, fun h => by omega⟩
        exact congrArg (fun z => some (HO.lst (((l.take i).map fun k => decide (k ≤ st.length)).map V.bl ++ [V.bl z]))) e
    · rintro H' ⟨s1, h1⟩
      rw [ni_length, List.take_length] at h1
      refine ⟨D, _, rfl, SqL.of h1, ?_⟩
      have e : (l.map fun k => decide (k ≤ st.length)).all id = Mu28.fine st.length l := by
        unfold Mu28.fine
        rw [List.all_map]
        rfl
      rw [e]
      exact hq H' s1

/-! ### done -/
abbrev stDone : Stmt := top 23
theorem scDone : FnScope ["stack", "row", "sides", "here", "flip"] ["stack", "row", "sides"] (defScope stDone) := ⟨rfl, rfl, rfl, by decide +kernel, rfl, by decide +kernel, by decide +kernel⟩
def spDone : Sp := fun vs H Q _ => ∃ (a ra : Addr) (st : List Int) (l : List Nat) (b : Bool), vs = [.ref a, .ref ra, .int (bI b)] ∧ H a = some (.tup (vi st)) ∧ st.length ≤ 1000 ∧ H ra = some (.lst (vi (ni l))) ∧
  ∀ H' p, Same H H' → H' p = some (.tup (vi (Mu28.flips b l st))) → Q (.ref p) H'
theorem flips_snoc (b : Bool) {l : List Nat} {i k : Nat} (st : List Int) (h : l[i]? = some k) : Mu28.flips b (l.take (i + 1)) st = Mu28.flip b k (Mu28.flips b (l.take i) st) := by
  rw [take_snoc h, Pk.flips_append]
  rfl
theorem ok_done {f : Addr} {fd : FuncData} (F : Fun K "done" "done" stDone f fd) (T : Bi mg) (G : Df P w K mg base "flipped" 1 ["stack", "flip", "sides"] spFlipped) : FnOk P w K mg base CX0 2 f fd ["stack", "row", "sides"] spDone := by
  refine F.ok scDone (fun vs H Q E h => ?_) (fun cdv A outer s H vs Q E hr h => ?_)
  · obtain ⟨a, ra, st, l, b, rfl, _⟩ := h
    rfl
  · obtain ⟨a, ra, st, l, b, rfl, ha, hs, hR, hq⟩ := h
    refine ⟨_, pss_cons (ps_set (i := 3) scDone.nd rfl (Or.inl rfl) (pv 0))
      (pss_cons (ps_for PassesOwn.never rfl (pi_list (pv 1)) (pg_name (i := 4) scDone.nd rfl (Or.inl rfl))
        (pss_one (ps_set (i := 3) scDone.nd rfl (Or.inl rfl) (pe_df G (by rfl) hr (pa_cons (pv 3) (pa_cons (pv 4) (pa_cons (pv 2) pa_nil)))))))
      (pss_one (ps_ret (pv 3)))), ?_⟩
    refine ⟨_, rfl, _, rfl, ra, rfl, ⟨_, SqL.of hR⟩, for_list (K := K) (a := ra) (xs := vi (ni l)) (fun i σ H' => ∃ (v4 : Option V) (h : Addr), σ = [some (.ref a), some (.ref ra), some (.int (bI b)), some (.ref h), v4] ∧ Same H H' ∧ H' h = some (.tup (vi (Mu28.flips b (l.take i) st)))) ?_ ?_ ?_ ?_⟩
    · exact ⟨none, a, rfl, Same.refl _, ha⟩
    · rintro i σ H' hi ⟨v4, h, rfl, s1, h1⟩
      exact SqL.of (s1 _ _ hR)
    · rintro i y σ H' hy ⟨v4, h, rfl, s1, h1⟩
      obtain ⟨k, ek, rfl⟩ := ni_get hy
      refine ⟨_, rfl, _, rfl, _, rfl, h, _, k, b, rfl, h1, by rw [Pk.flips_length]; exact hs, fun H2 t s2 ht => ⟨some (.int (k : Nat)), t, rfl, s1.trans s2, ?_⟩⟩
      rw [ht, flips_snoc b st ek]
    · rintro σ H' ⟨v4, h, rfl, s1, h1⟩
      rw [ni_length, List.take_length] at h1
      exact ⟨_, rfl, hq H' h s1 h1⟩

/-! ### rounds_of -/
abbrev stRounds : Stmt := top 24
theorem scRounds : FnScope ["stack", "row", "sides", "here", "times"] ["stack", "row", "sides"] (defScope stRounds) := ⟨rfl, rfl, rfl, by decide +kernel, rfl, by decide +kernel, by decide +kernel⟩
/-- what round answers -/
def roundsI (b : Bool) (l : List Nat) (st : List Int) : Int := match Mu28.rounds b l st 100 0 st with
  | some n => (n : Int)
  | none => -6
def spRounds : Sp := fun vs H Q _ => ∃ (a ra : Addr) (st : List Int) (l : List Nat) (b : Bool), vs = [.ref a, .ref ra, .int (bI b)] ∧ H a = some (.tup (vi st)) ∧ st.length ≤ 1000 ∧ H ra = some (.lst (vi (ni l))) ∧
  ∀ H', Same H H' → Q (.int (roundsI b l st)) H'
theorem ok_rounds {f : Addr} {fd : FuncData} (F : Fun K "rounds_of" "rounds_of" stRounds f fd) (T : Bi mg) (g1 : IsG mg "MOST_ROUNDS" 100) (g2 : IsG mg "NEVER" (-6)) (G : Df P w K mg base "done" 2 ["stack", "row", "sides"] spDone) :
    FnOk P w K mg base CX0 3 f fd ["stack", "row", "sides"] spRounds := by
  refine F.ok scRounds (fun vs H Q E h => ?_) (fun cdv A outer s H vs Q E hr h => ?_)
  · obtain ⟨a, ra, st, l, b, rfl, _⟩ := h
    rfl
  · obtain ⟨a, ra, st, l, b, rfl, ha, hs, hR, hq⟩ := h
    refine ⟨_, pss_cons (ps_set (i := 3) scRounds.nd rfl (Or.inl rfl) (pv 0))
      (pss_cons (ps_for PassesOwn.never rfl (pi_range2 (by rfl) T.range (pa_cons pe_int (pa_cons (pe_op op_add (pe_gi g1 (by rfl)) pe_int) pa_nil))) (pg_name (i := 4) scRounds.nd rfl (Or.inl rfl))
        (pss_cons (ps_set (i := 3) scRounds.nd rfl (Or.inl rfl) (pe_df G (by rfl) hr (pa_cons (pv 3) (pa_cons (pv 1) (pa_cons (pv 2) pa_nil)))))
        (pss_one (ps_if (pt_cmpR (op_eqD hr.units) (pv 3) (pv 0) (nomark _)) (pss_one (ps_ret (pv 4))) pss_nil))))
      (pss_one (ps_ret (pe_gi g2 (by rfl))))), ?_⟩
    refine ⟨_, rfl, _, _, rfl, rfl, 1, 100 + 1, rfl, ⟨by decide, by decide, by decide, by decide⟩, ?_⟩
    refine for_range (lo := 1) (n := 100) (fun i σ H' => ∃ (v4 : Option V) (h : Addr) (u : List Int), σ = [some (.ref a), some (.ref ra), some (.int (bI b)), some (.ref h), v4] ∧ Same H H' ∧ H' h = some (.tup (vi u)) ∧ u.length = st.length ∧ i ≤ 100 ∧
      Mu28.rounds b l st 100 0 st = Mu28.rounds b l st (100 - i) i u) ?_ ?_ ?_
    · exact ⟨none, a, st, rfl, Same.refl _, ha, rfl, by decide, rfl⟩
    · rintro i σ H' hi ⟨v4, h, u, rfl, s1, h1, h2, h3, h4⟩
      refine ⟨_, rfl, _, rfl, _, rfl, h, ra, u, l, b, rfl, h1, by omega, s1 _ _ hR, fun H2 t s2 ht => ?_⟩
      refine ⟨_, rfl, _, rfl, eqD_tups ht (s2 _ _ (s1 _ _ ha)) ⟨_, rfl, ?_⟩⟩
      obtain ⟨g, eg⟩ : ∃ g, 100 - i = g + 1 := ⟨99 - i, by omega⟩
      rw [eg, Pk.rounds_succ b l st g i u] at h4
      by_cases c : Mu28.flips b l u = st
      · rw [if_pos c] at h4
        rw [decide_eq_true c]
        have q := hq H2 (s1.trans s2)
        have e : roundsI b l st = 1 + (i : Int) := by
          unfold roundsI
          rw [h4]
          show ((i + 1 : Nat) : Int) = _
          omega
        rw [e] at q
        exact iteT ⟨_, rfl, q⟩
      · rw [if_neg c] at h4
        rw [decide_eq_false c]
        refine iteF ⟨some (.int (1 + (i : Int))), t, _, rfl, s1.trans s2, ht, by rw [Pk.flips_length]; exact h2, by omega, ?_⟩
        have e : 100 - (i + 1) = g := by omega
        rw [e]
        exact h4
    · rintro σ H' ⟨v4, h, u, rfl, s1, h1, h2, h3, h4⟩
      have q := hq H' s1
      have e : roundsI b l st = -6 := by
        unfold roundsI
        rw [h4]
        rfl
      rw [e] at q
      exact q
/-! ### put_in_place -/
abbrev stPut : Stmt := top 25
abbrev nPut : List Str := ["stack", "size", "sides", "row", "place", "at_top"]
theorem scPut : FnScope nPut ["stack", "size", "sides"] (defScope stPut) := ⟨rfl, rfl, rfl, by decide +kernel, rfl, by decide +kernel, by decide +kernel⟩
/-- the flips for size v + 1 -/
def moreOf (b : Bool) (v : Nat) (st : List Int) : List Nat := if Pk.isRight b v st = true then [] else Pk.putUp b v st
def spPut : Sp := fun vs H Q _ => ∃ (a : Addr) (st : List Int) (v n : Nat) (b : Bool), vs = [.ref a, .int ((v + 1 : Nat) : Int), .int (bI b)] ∧ H a = some (.tup (vi st)) ∧ Pk.Ok b n st ∧ v < n ∧ n ≤ 8 ∧
  ∀ H' p, Same H H' → H p = none → H' p = some (.lst (vi (ni (moreOf b v st)))) → Q (.ref p) H'
theorem ok_put {f : Addr} {fd : FuncData} (F : Fun K "put_in_place" "put_in_place" stPut f fd) (T : Bi mg) (G : Df P w K mg base "place_of" 1 ["stack", "size"] spPlace) (D : Df P w K mg base "done" 2 ["stack", "row", "sides"] spDone) :
    FnOk P w K mg base CX0 3 f fd ["stack", "size", "sides"] spPut := by
  refine F.ok scPut (fun vs H Q E h => ?_) (fun cdv A outer s H vs Q E hr h => ?_)
  · obtain ⟨a, st, v, n, b, rfl, _⟩ := h
    rfl
  · obtain ⟨a, st, v, n, b, rfl, ha, hs, hv, hn, hq⟩ := h
    have hl := hs.length
    refine ⟨_, pss_cons (ps_if (pt_cmpR op_eq (pe_ix ix_tup (pv 0) (pe_op op_sub (pv 1) pe_int) (fun _ _ => rfl)) (pv 1) (nomark _)) (pss_one (ps_ret (pe_lst pa_nil))) pss_nil)
      (pss_cons (ps_set (i := 3) scPut.nd rfl (Or.inl rfl) (pe_lst pa_nil))
      (pss_cons (ps_set (i := 4) scPut.nd rfl (Or.inl rfl) (pe_df G (by rfl) (hr.mono (by decide)) (pa_cons (pv 0) (pa_cons (pv 1) pa_nil))))
      (pss_cons (ps_if (pt_cmpR op_ne (pv 4) pe_int (nomark _)) (pss_one (ps_expr (pe_bm PySem.F.plainAttrs_list PySem.F.slot_list_append PySem.F.type_list_append mt_append (pv 3) (pa_cons (pv 4) pa_nil)))) pss_nil)
      (pss_cons (ps_set (i := 5) scPut.nd rfl (Or.inl rfl) (pe_df D (by rfl) hr (pa_cons (pv 0) (pa_cons (pv 3) (pa_cons (pv 2) pa_nil)))))
      (pss_cons (ps_if (PW.pt (pw_and (pt_cmpR op_eq (pv 2) pe_int (nomark _)) (pw_and1 (pt_cmpR op_gt (pe_ix ix_tup (pv 5) pe_int (fun _ _ => rfl)) pe_int (nomark _))))) (pss_one (ps_expr (pe_bm PySem.F.plainAttrs_list PySem.F.slot_list_append PySem.F.type_list_append mt_append (pv 3) (pa_cons pe_int pa_nil)))) pss_nil)
      (pss_cons (ps_expr (pe_bm PySem.F.plainAttrs_list PySem.F.slot_list_append PySem.F.type_list_append mt_append (pv 3) (pa_cons (pv 1) pa_nil)))
      (pss_one (ps_ret (pv 3))))))))), ?_⟩
    obtain ⟨x, hx⟩ : ∃ x, st[v]? = some x := ⟨_, List.getElem?_eq_getElem (by omega)⟩
    have hx2 : (vi st)[v]? = some (V.int x) := by
      unfold vi
      rw [List.getElem?_map, hx]
      rfl
    have ri := Pk.isRight_iff hs hv
    -- if stack[size - 1] == size
    refine ⟨_, rfl, _, rfl, _, _, rfl, rfl, a, _, _, _, rfl, rfl, SqT.of ha, at_of (j := v) (by omega) hx2, _, rfl, rfl, _, rfl, ?_⟩
    rw [dec_int]
    by_cases c : x = ((v + 1 : Nat) : Int)
    · rw [beq_iff_eq.mpr c]
      have e : moreOf b v st = [] := if_pos (ri.mpr (by rw [hx, c]; rfl))
      refine iteT ⟨Nat.zero_le _, fun p np => hq _ p (same_new np) np ?_⟩
      rw [upd_same, e]
      rfl
    rw [beq_eq_false_iff_ne.mpr c]
    have er : ¬ Pk.isRight b v st = true := fun q => c (by
      have w := ri.mp q
      rw [hx] at w
      have w2 := Option.some.inj w
      omega)
    have e : moreOf b v st = Pk.putUp b v st := if_neg er
    rw [e] at hq
    -- row = []; place = place_of(stack, size)
    refine iteF ⟨Nat.zero_le _, fun D0 nD => ?_⟩
    obtain ⟨H1, e1⟩ : ∃ H1, H1 = upd H D0 (.lst []) := ⟨_, rfl⟩
    rw [← e1]
    have s1 : Same H H1 := by
      rw [e1]
      exact same_new nD
    have hD1 : H1 D0 = some (.lst []) := by
      rw [e1]
      exact upd_same
    refine ⟨_, rfl, _, rfl, a, st, v + 1, n, b, rfl, s1 _ _ ha, hs, by omega, by omega, by omega, ?_⟩
    -- what follows the first if
    obtain ⟨up, hup⟩ : ∃ up, up = (if Mu28.placeOf (v + 1) st = 1 then [] else [Mu28.placeOf (v + 1) st]) := ⟨_, rfl⟩
    have hul : up.length ≤ 1 := by
      rw [hup]
      split
      · exact Nat.zero_le _
      · exact Nat.le_refl _
    have O1 := hs.flips up
    obtain ⟨y, hy⟩ : ∃ y, (Mu28.flips b up st)[0]? = some y := ⟨_, List.getElem?_eq_getElem (by rw [O1.length]; omega)⟩
    have hy2 : (vi (Mu28.flips b up st))[0]? = some (V.int y) := by
      unfold vi
      rw [List.getElem?_map, hy]
      rfl
    obtain ⟨turn, htu⟩ : ∃ turn, turn = (if b = true ∧ 0 < (Mu28.flips b up st).getD 0 0 then [1] else ([] : List Nat)) := ⟨_, rfl⟩
    have ep : Pk.putUp b v st = up ++ (turn ++ [v + 1]) := by
      unfold Pk.putUp
      rw [hup, htu, hup]
    rw [Pk.getD_of hy] at htu
    rw [ep] at hq
    have fr : ∀ H', Fx [D0] H1 H' → Same H H' := fun H' f c o ec => f c o (s1 c o ec) fun w => by
      rw [List.mem_singleton] at w
      subst w
      rw [nD] at ec
      cases ec
    -- if place != 1: row.append(place)
    refine ⟨_, rfl, rfl, _, rfl, ?_⟩
    rw [dec_int]
    refine if_join (fun H' => Fx [D0] H1 H' ∧ H' D0 = some (.lst (vi (ni up)))) (fun c k => ?_) (fun c => ?_) (fun H2 ⟨f2, h2⟩ => ?_)
    · refine ⟨_, rfl, .inl ⟨rfl, _, SqL.of hD1⟩, _, rfl, D0, _, _, rfl, rfl, hD1, by decide, k _ ⟨(Fx.refl _ _).upd (List.mem_singleton.mpr rfl), ?_⟩⟩
      have c2 : ¬ Mu28.placeOf (v + 1) st = 1 := fun q => by
        rw [q] at c
        cases c
      rw [upd_same, hup, if_neg c2]
      rfl
    · have c2 : Mu28.placeOf (v + 1) st = 1 := by
        by_cases q : Mu28.placeOf (v + 1) st = 1
        · exact q
        · rw [beq_eq_false_iff_ne.mpr (show ((Mu28.placeOf (v + 1) st : Nat) : Int) ≠ 1 by omega)] at c
          cases c
      rw [hup, if_pos c2]
      exact ⟨Fx.refl _ _, hD1⟩
    -- at_top = done(stack, row, sides)
    refine ⟨_, rfl, _, rfl, _, rfl, a, D0, st, up, b, rfl, fr H2 f2 _ _ ha, by omega, h2, fun H3 t s3 ht => ?_⟩
    have hD3 := s3 _ _ h2
    -- if sides == 1 and at_top[0] > 0: row.append(1)
    refine ⟨_, rfl, rfl, _, rfl, ?_⟩
    rw [bI_eq]
    have rest : ∀ H', Fx [D0] H3 H' ∧ H' D0 = some (.lst (vi (ni (up ++ turn)))) → tSeq (tDrop (tBM K "list" rAppend (tVar 3) (tCons (tVar 1) tNil))) (tRet (tVar 3)) { nx := fun _ H' => Q .non H', rt := Q } [some (.ref a), some (.int ((v + 1 : Nat) : Int)), some (.int (bI b)), some (.ref D0), some (.int (Mu28.placeOf (v + 1) st : Nat)), some (.ref t)] H' := by
      rintro H' ⟨f4, h4⟩
      refine ⟨_, rfl, .inl ⟨rfl, _, SqL.of h4⟩, _, rfl, D0, _, _, rfl, rfl, h4, ?_, _, rfl, hq _ D0 (fr _ (((f2.same s3).trans f4).upd (List.mem_singleton.mpr rfl))) nD ?_⟩
      · rw [ni_length, List.length_append, htu]
        refine small1000 ?_
        split
        · show up.length + 1 ≤ 1000
          omega
        · show up.length + 0 ≤ 1000
          omega
      · rw [upd_same, ← List.append_assoc, ni_append (up ++ turn) [v + 1], vi_append (ni (up ++ turn))]
        rfl
    by_cases hb : b = true
    · refine if_y hb ⟨_, rfl, t, _, _, _, rfl, rfl, SqT.of ht, at_of (j := 0) rfl hy2, _, _, rfl, rfl, _, rfl, ?_⟩
      by_cases c4 : 0 < y
      · have e4 : turn = [1] := by rw [htu, if_pos ⟨hb, c4⟩]
        refine if_y (decide_eq_true c4) ⟨_, rfl, .inl ⟨rfl, _, SqL.of hD3⟩, D0, _, _, rfl, rfl, hD3, ?_, rest _ ⟨(Fx.refl _ _).upd (List.mem_singleton.mpr rfl), ?_⟩⟩
        · rw [ni_length]
          exact small1000 (by omega)
        · rw [upd_same, e4, ni_append, vi_append]
          rfl
      · have e4 : turn = [] := by rw [htu, if_neg (fun w => c4 w.2)]
        refine if_n (decide_eq_false c4) (rest _ ⟨Fx.refl _ _, ?_⟩)
        rw [e4, List.append_nil]
        exact hD3
    · have hb' : b = false := by
        cases b
        · rfl
        · exact absurd rfl hb
      have e4 : turn = [] := by rw [htu, if_neg (fun w => hb w.1)]
      refine if_n hb' (iteF (rest _ ⟨Fx.refl _ _, ?_⟩))
      rw [e4, List.append_nil]
      exact hD3
/-! ### usual_row -/
abbrev stUsual : Stmt := top 26
abbrev nUsual : List Str := ["stack", "sides", "row", "here", "size", "more"]
theorem scUsual : FnScope nUsual ["stack", "sides"] (defScope stUsual) := ⟨rfl, rfl, rfl, by decide +kernel, rfl, by decide +kernel, by decide +kernel⟩
def spUsual : Sp := fun vs H Q _ => ∃ (a : Addr) (st : List Int) (n : Nat) (b : Bool), vs = [.ref a, .int (bI b)] ∧ H a = some (.tup (vi st)) ∧ Pk.Ok b n st ∧ n ≤ 8 ∧
  ∀ H' p, Same H H' → H p = none → (Mu28.usual b n st).length ≤ 24 → H' p = some (.lst (vi (ni (Mu28.usual b n st)))) → Q (.ref p) H'
theorem usual_more (b : Bool) (v : Nat) (st : List Int) : Mu28.usual b (v + 1) st = moreOf b v st ++ Mu28.usual b v (Mu28.flips b (moreOf b v st) st) := by
  unfold moreOf
  by_cases h : Pk.isRight b v st = true
  · rw [if_pos h, Pk.usual_right h]
    rfl
  · rw [if_neg h, Pk.usual_put h]
theorem more_len (b : Bool) (v : Nat) (st : List Int) : (moreOf b v st).length ≤ 3 := by
  unfold moreOf
  split
  · exact Nat.zero_le _
  · unfold Pk.putUp
    simp only [List.length_append]
    split <;> split <;> simp
theorem ok_usual {f : Addr} {fd : FuncData} (F : Fun K "usual_row" "usual_row" stUsual f fd) (T : Bi mg) (G : Df P w K mg base "put_in_place" 3 ["stack", "size", "sides"] spPut) (D : Df P w K mg base "done" 2 ["stack", "row", "sides"] spDone) :
    FnOk P w K mg base CX0 4 f fd ["stack", "sides"] spUsual := by
  refine F.ok scUsual (fun vs H Q E h => ?_) (fun cdv A outer s H vs Q E hr h => ?_)
  · obtain ⟨a, st, n, b, rfl, _⟩ := h
    rfl
  · obtain ⟨a, st, n, b, rfl, ha, hs, hn, hq⟩ := h
    have hl := hs.length
    refine ⟨_, pss_cons (ps_set (i := 2) scUsual.nd rfl (Or.inl rfl) (pe_lst pa_nil))
      (pss_cons (ps_set (i := 3) scUsual.nd rfl (Or.inl rfl) (pv 0))
      (pss_cons (ps_for PassesOwn.never rfl (pi_range3 (by rfl) T.range (pa_cons (pe_callB call_len_seq (by rfl) T.len PySem.boot_len (pa_cons (pv 0) pa_nil)) (pa_cons pe_int (pa_cons (pe_un un_neg pe_int) pa_nil)))) (pg_name (i := 4) scUsual.nd rfl (Or.inl rfl))
        (pss_cons (ps_set (i := 5) scUsual.nd rfl (Or.inl rfl) (pe_df G (by rfl) hr (pa_cons (pv 3) (pa_cons (pv 4) (pa_cons (pv 1) pa_nil)))))
        (pss_cons (ps_set (i := 3) scUsual.nd rfl (Or.inl rfl) (pe_df D (by rfl) (hr.mono (by decide)) (pa_cons (pv 3) (pa_cons (pv 5) (pa_cons (pv 1) pa_nil)))))
        (pss_one (ps_expr (pe_bm PySem.F.plainAttrs_list PySem.F.slot_list_extend PySem.F.type_list_extend mt_extend (pv 2) (pa_cons (pv 5) pa_nil)))))))
      (pss_one (ps_ret (pv 2))))), ?_⟩
    refine ⟨Nat.zero_le _, fun D0 nD => ?_⟩
    obtain ⟨H1, e1⟩ : ∃ H1, H1 = upd H D0 (.lst []) := ⟨_, rfl⟩
    rw [← e1]
    have s1 : Same H H1 := by
      rw [e1]
      exact same_new nD
    have hD1 : H1 D0 = some (.lst []) := by
      rw [e1]
      exact upd_same
    have fr : ∀ H', Fx [D0] H1 H' → Same H H' := fun H' f c o ec => f c o (s1 c o ec) fun w => by
      rw [List.mem_singleton] at w
      subst w
      rw [nD] at ec
      cases ec
    refine ⟨_, rfl, _, rfl, a, _, rfl, .inr (SqT.of (s1 _ _ ha)), 1, rfl, (vi st).length, 0, -1, n, rfl, ?_, ?_⟩
    · rw [vi_length, hl]
      have q := RgC.neg (i := (n : Int)) (j := 0) (by omega) (by omega) (by omega) (by omega)
      have e : ((n : Int) - 0).toNat = n := by omega
      rw [e] at q
      exact q
    rw [vi_length, hl]
    refine for_rangeC (lo := (n : Int)) (c := -1) (n := n) (fun i σ H' => ∃ (v4 v5 : Option V) (h : Addr) (u : List Int) (r : List Nat), σ = [some (.ref a), some (.int (bI b)), some (.ref D0), some (.ref h), v4, v5] ∧ Fx [D0] H1 H' ∧
      H' h = some (.tup (vi u)) ∧ Pk.Ok b n u ∧ H' D0 = some (.lst (vi (ni r))) ∧ r.length ≤ 3 * i ∧ Mu28.usual b n st = r ++ Mu28.usual b (n - i) u) ?_ ?_ ?_
    · exact ⟨none, none, a, st, [], rfl, Fx.refl _ _, s1 _ _ ha, hs, hD1, Nat.zero_le _, rfl⟩
    · rintro i σ H' hi ⟨v4, v5, h, u, r, rfl, f1, h1, h2, h3, h4, h5⟩
      obtain ⟨v, ev⟩ : ∃ v, n - i = v + 1 := ⟨n - i - 1, by omega⟩
      rw [ev, usual_more] at h5
      refine ⟨_, rfl, _, rfl, _, rfl, h, u, v, n, b, ?_, h1, h2, by omega, hn, fun H2 m s2 nm hm => ?_⟩
      · show [_, V.int ((n : Int) + (i : Nat) * -1), _] = [_, V.int ((v + 1 : Nat) : Int), _]
        rw [show (n : Int) + (i : Nat) * -1 = ((v + 1 : Nat) : Int) by omega]
      have nDm : D0 ≠ m := ne_of_none h3 nm
      have h2l := h2.length
      refine ⟨_, rfl, _, rfl, _, rfl, h, m, u, moreOf b v u, b, rfl, s2 _ _ h1, by omega, hm, fun H3 t s3 ht => ?_⟩
      have hD3 := s3 _ _ (s2 _ _ h3)
      have ml := more_len b v u
      refine ⟨_, rfl, .inl ⟨rfl, _, SqL.of hD3⟩, _, rfl, D0, m, _, _, rfl, rfl, hD3, s3 _ _ hm, ?_, ?_⟩
      · rw [ni_length, ni_length]
        exact fits_line (m := 1000) (by omega)
      · refine ⟨some (.int ((n : Int) + (i : Nat) * -1)), some (.ref m), t, Mu28.flips b (moreOf b v u) u, r ++ moreOf b v u, rfl, ((f1.same s2).same s3).upd (List.mem_singleton.mpr rfl), ?_, h2.flips _, ?_, ?_, ?_⟩
        · rw [upd_ne (ne_of ht hD3 (fun z => nomatch z))]
          exact ht
        · rw [upd_same, ni_append, vi_append]
        · rw [List.length_append]
          omega
        · have e2 : n - (i + 1) = v := by omega
          rw [e2, h5, List.append_assoc]
    · rintro σ H' ⟨v4, v5, h, u, r, rfl, f1, h1, h2, h3, h4, h5⟩
      have e2 : n - n = 0 := Nat.sub_self n
      rw [e2, Pk.usual_zero, List.append_nil] at h5
      subst h5
      exact ⟨_, rfl, hq H' D0 (fr _ f1) nD (by omega) h3⟩
end
end Pw
/-! The walk, part 4: the pan. -/
namespace Pw
open PySem PySem.Spec PyProof.Rows L2

/-! ### the pan's attributes -/
theorem lk_here {k : Str} {v : V} {r : List (Str × V)} : List.lookup k ((k, v) :: r) = some v := by
  have e : (k == k) = true := beq_self_eq_true k
  simp only [List.lookup, e]
theorem lk_past {k g : Str} {v : V} {r : List (Str × V)} (h : (k == g) = false) : List.lookup k ((g, v) :: r) = List.lookup k r := by
  simp only [List.lookup, h]
theorem put_here {f : Str} {v x : V} {r : List (Str × V)} : putF f v ((f, x) :: r) = (f, v) :: r := if_pos rfl
theorem put_past {f g : Str} {v x : V} {r : List (Str × V)} (h : ¬ g = f) : putF f v ((g, x) :: r) = (g, x) :: putF f v r := if_neg h
def pF (t : V) (sd fl : Int) (k : V) : List (Str × V) := [("stack", t), ("sides", .int sd), ("flips", .int fl), ("known", k)]
section
variable {t k : V} {sd fl : Int}
theorem pF_stack : (pF t sd fl k).lookup ("stack" : Str) = some t := lk_here
theorem pF_sides : (pF t sd fl k).lookup ("sides" : Str) = some (.int sd) := (lk_past (by decide +kernel)).trans lk_here
theorem pF_flips : (pF t sd fl k).lookup ("flips" : Str) = some (.int fl) := (lk_past (by decide +kernel)).trans ((lk_past (by decide +kernel)).trans lk_here)
theorem pF_known : (pF t sd fl k).lookup ("known" : Str) = some k := (lk_past (by decide +kernel)).trans ((lk_past (by decide +kernel)).trans ((lk_past (by decide +kernel)).trans lk_here))
theorem pF_no {m : Str} (h1 : (m == "stack") = false) (h2 : (m == "sides") = false) (h3 : (m == "flips") = false) (h4 : (m == "known") = false) : (pF t sd fl k).lookup m = none :=
  (lk_past h1).trans ((lk_past h2).trans ((lk_past h3).trans ((lk_past h4).trans rfl)))
theorem pF_lay : (pF t sd fl k).lookup ("lay" : Str) = none := pF_no (by decide +kernel) (by decide +kernel) (by decide +kernel) (by decide +kernel)
theorem pF_turn : (pF t sd fl k).lookup ("turn" : Str) = none := pF_no (by decide +kernel) (by decide +kernel) (by decide +kernel) (by decide +kernel)
theorem pF_farfor : (pF t sd fl k).lookup ("far_for" : Str) = none := pF_no (by decide +kernel) (by decide +kernel) (by decide +kernel) (by decide +kernel)
theorem pF_putStack (u : V) : putF "stack" u (pF t sd fl k) = pF u sd fl k := put_here
theorem pF_putSides (i : Int) : putF "sides" (.int i) (pF t sd fl k) = pF t i fl k := (put_past (by decide +kernel)).trans (congrArg _ put_here)
theorem pF_putFlips (i : Int) : putF "flips" (.int i) (pF t sd fl k) = pF t sd i k := (put_past (by decide +kernel)).trans (congrArg _ ((put_past (by decide +kernel)).trans (congrArg _ put_here)))
theorem pF_new : putF "known" k (putF "flips" (.int fl) (putF "sides" (.int sd) (putF "stack" t []))) = pF t sd fl k := by
  have e1 : putF "stack" t [] = ([("stack", t)] : List (Str × V)) := rfl
  have e2 : putF "sides" (.int sd) ([("stack", t)] : List (Str × V)) = ([("stack", t), ("sides", .int sd)] : List (Str × V)) := (put_past (by decide +kernel)).trans rfl
  have e3 : putF "flips" (.int fl) ([("stack", t), ("sides", .int sd)] : List (Str × V)) = ([("stack", t), ("sides", .int sd), ("flips", .int fl)] : List (Str × V)) := (put_past (by decide +kernel)).trans (congrArg _ ((put_past (by decide +kernel)).trans rfl))
  rw [e1, e2, e3]
  exact (put_past (by decide +kernel)).trans (congrArg _ ((put_past (by decide +kernel)).trans (congrArg _ ((put_past (by decide +kernel)).trans rfl))))
end
/-- what the top has written of the class -/
structure Pn (K : PySem.W.Frag) (mg : Str → Option Value) (C : Addr) : Prop where
  cl : Cls K C
  nT : NoAttr K C "stack"
  nS : NoAttr K C "sides"
  nF : NoAttr K C "flips"
  nK : NoAttr K C "known"
  gC : mg "Pan" = some (.ref C)
/-- a method, and its promise -/
structure Md (P : Program) (w : World) (K : PySem.W.Frag) (mg : Str → Option Value) (base : Heap) (C : Addr) (m : Str) (k : Nat) (ps : List Str) (sp : Sp) : Prop where
  ex : ∃ f fd, Meth K C m f ∧ Binds K fd ps [] ∧ FnOk P w K mg base CX0 k f fd ps sp
theorem pe_md {X : Cx} {C : Addr} {m : Str} {k : Nat} {ps : List Str} {sp : Sp} {apos pos : Pos} {o e : Expr} {es : List Expr} {ta : TE} {t : TA} {pl : Sem Bool} (D : Md X.prog X.w X.K X.mg X.base C m k ps sp) (he : PE X o ta) (c : Cls X.K C) (hr : Room k X.A) (ha : PA X (e :: es) t)
    (hst : starEach (e :: es) X.env = (false, eval e X.env) :: starEach es X.env := by rfl) (hpl : (backTo pos (starEach es X.env)).any (·.1) = false := by rfl)
    (ht : eval (.Call (.Attribute o m apos) (e :: es) [] pos) X.env = (do
      let ov ← eval o X.env
      standAt apos.atName
      let (f, first) ← holding [ov] (getMethod ov m pl)
      callWith pos f first (backTo pos (starEach (e :: es) X.env)) (backToKw pos (keywordEach [] X.env))) := by rfl) :
    PE X (.Call (.Attribute o m apos) (e :: es) [] pos) (tMeth C m sp [] E0 ta t) := by
  obtain ⟨f, fd, h1, h2, h3⟩ := D.ex
  exact pe_meth he c h1 h3 hr h2 .nil pass0 ha hst hpl ht

/-! ### what the pan keeps -/
/-- far of the kinds asked so far -/
def Known (H : Hp) (kvs : List (List L2.Key × V)) : Prop := ∀ key v, valV kvs key = some v → ∃ (n : Nat) (b : Bool) (fa : Addr) (F : Pk.Far), key = ky [(n : Int), bI b] ∧ v = .ref fa ∧ H fa = some (.dT (enc F)) ∧ Pk.FarOk b n F
theorem bI_inj {a b : Bool} (h : bI a = bI b) : a = b := by
  cases a <;> cases b <;> first | rfl | cases h
/-- none of these is where they are kept -/
theorem Known.apart {H : Hp} {kvs : List (List L2.Key × V)} (h : Known H kvs) {k fa : Addr} {F : Pk.Far} {b : Bool} {n : Nat} (hk : H k = some (.dT kvs)) (hf : H fa = some (.dT (enc F))) (hO : Pk.FarOk b n F) : fa ≠ k := by
  rintro rfl
  rw [hk] at hf
  have e : kvs = enc F := by
    have q := Option.some.inj hf
    cases q
    rfl
  obtain ⟨d, hd⟩ := hO.all _ (Pk.ok_sorted b n)
  have q := enc_at hO.nodup hd
  rw [← e] at q
  obtain ⟨_, _, _, _, _, ev, _⟩ := h _ _ q
  cases ev
theorem Known.keep {H H' : Hp} {kvs : List (List L2.Key × V)} {a k : Addr} (h : Known H kvs) (hk : H k = some (.dT kvs)) (ha : ∀ xs, H a ≠ some (.dT xs)) (f : Fx [a, k] H H') : Known H' kvs := fun key v e => by
  obtain ⟨n, b, fa, F, e1, e2, e3, e4⟩ := h key v e
  refine ⟨n, b, fa, F, e1, e2, f _ _ e3 fun w => ?_, e4⟩
  rcases List.mem_cons.mp w with q | q
  · rw [q] at e3
    exact ha _ e3
  · rw [List.mem_singleton] at q
    exact h.apart hk e3 e4 q
/-- the pan's state and the document's -/
def Rel : Mu28.Abs → List Int → Bool → Nat → Prop
  | none, st, _, _ => st = []
  | some s, st, b, fl => s = ⟨b, st, fl⟩ ∧ Pk.Sz b st.length ∧ Pk.Ok b st.length st
structure PanOk (C : Addr) (H : Hp) (a k : Addr) (c : Nat) (o : Mu28.Abs) : Prop where
  ex : ∃ (dx t : Addr) (st : List Int) (b : Bool) (fl : Nat) (kvs : List (List L2.Key × V)), H a = some (.ins C dx (pF (.ref t) (bI b) (fl : Nat) (.ref k))) ∧ H t = some (.tup (vi st)) ∧ Rel o st b fl ∧ H k = some (.dT kvs) ∧ kvs.length ≤ c ∧ Known H kvs
theorem PanOk.same {C a k : Addr} {H H' : Hp} {c : Nat} {o : Mu28.Abs} (h : PanOk C H a k c o) (s : Same H H') : PanOk C H' a k c o := by
  obtain ⟨dx, t, st, b, fl, kvs, h1, h2, h3, h4, h5, h6⟩ := h.ex
  refine ⟨dx, t, st, b, fl, kvs, s _ _ h1, s _ _ h2, h3, s _ _ h4, h5, fun key v e => ?_⟩
  obtain ⟨n, b, fa, F, e1, e2, e3, e4⟩ := h6 key v e
  exact ⟨n, b, fa, F, e1, e2, s _ _ e3, e4⟩
theorem PanOk.more {C a k : Addr} {H : Hp} {c : Nat} {o : Mu28.Abs} (h : PanOk C H a k c o) : PanOk C H a k (c + 1) o := by
  obtain ⟨dx, t, st, b, fl, kvs, h1, h2, h3, h4, h5, h6⟩ := h.ex
  exact ⟨dx, t, st, b, fl, kvs, h1, h2, h3, h4, by omega, h6⟩

section
variable {P : Program} {w : World} {K : PySem.W.Frag} {mg : Str → Option Value} {base : Heap} {C : Addr}
/-! ### __init__ -/
abbrev stInit : Stmt := inClass (top 56) 0
theorem scInit : FnScope ["self"] ["self"] (defScope stInit) := ⟨rfl, rfl, rfl, by decide +kernel, rfl, by decide +kernel, by decide +kernel⟩
def spInit (C : Addr) : Sp := fun vs H Q _ => ∃ (p dx : Addr), vs = [.ref p] ∧ H p = some (.ins C dx []) ∧ ∀ H' k, PanOk C H' p k 0 none → (∀ b o, H b = some o → b ≠ p → H' b = some o) → H k = none → Q .non H'
theorem ok_init {f : Addr} {fd : FuncData} (F : Fun K "__init__" "Pan.__init__" stInit f fd) (T : Pn K mg C) : FnOk P w K mg base CX0 1 f fd ["self"] (spInit C) := by
  refine F.ok scInit (fun vs H Q E h => ?_) (fun cdv A outer s H vs Q E hr h => ?_)
  · obtain ⟨p, dx, rfl, _⟩ := h
    rfl
  · obtain ⟨p, dx, rfl, hp, hq⟩ := h
    refine ⟨_, pss_cons (ps_fld (pv 0) (pe_tup pa_nil) rfl) (pss_cons (ps_fld (pv 0) pe_int rfl) (pss_cons (ps_fld (pv 0) pe_int rfl) (pss_one (ps_fld (pv 0) pe_dnewT rfl)))), ?_⟩
    refine ⟨Nat.zero_le _, fun t nt => ?_⟩
    have ptne : p ≠ t := ne_of_none hp nt
    refine ⟨_, rfl, p, C, dx, [], rfl, by rw [upd_ne ptne]; exact hp, T.cl, T.nT, (by show 0 < 1000; decide), ?_⟩
    refine ⟨_, rfl, p, C, dx, _, rfl, upd_same, T.cl, T.nS, (by show 1 < 1000; decide), ?_⟩
    rw [upd_upd]
    refine ⟨_, rfl, p, C, dx, _, rfl, upd_same, T.cl, T.nF, (by show 2 < 1000; decide), ?_⟩
    rw [upd_upd]
    intro k nk
    have nkp : k ≠ p := fun e => by
      rw [e, upd_same] at nk
      cases nk
    have nkt : k ≠ t := fun e => by
      rw [e, upd_ne (Ne.symm ptne), upd_same] at nk
      cases nk
    refine ⟨_, rfl, p, C, dx, _, rfl, (by rw [upd_ne (Ne.symm nkp)]; exact upd_same), T.cl, T.nK, (by show 3 < 1000; decide), ?_⟩
    rw [pF_new]
    refine hq _ k ⟨dx, t, [], false, 0, [], upd_same, ?_, rfl, ?_, Nat.zero_le _, fun key v e => by cases e⟩ (fun b o e n => ?_) ?_
    · rw [upd_ne (Ne.symm ptne), upd_ne (Ne.symm nkt), upd_ne (Ne.symm ptne), upd_same]
      rfl
    · rw [upd_ne nkp, upd_same]
    · have nb : b ≠ t := ne_of_none e nt
      have nbk : b ≠ k := fun w => by
        rw [w] at e
        rw [upd_ne nkp, upd_ne nkt, e] at nk
        cases nk
      rw [upd_ne n, upd_ne nbk, upd_ne n, upd_ne nb]
      exact e
    · rw [upd_ne nkp, upd_ne nkt] at nk
      exact nk

/-! ### lay -/
abbrev stLay : Stmt := inClass (top 56) 1
theorem scLay : FnScope ["self", "stack", "sides"] ["self", "stack", "sides"] (defScope stLay) := ⟨rfl, rfl, rfl, by decide +kernel, rfl, by decide +kernel, by decide +kernel⟩
def spLay (C : Addr) : Sp := fun vs H Q _ => ∃ (a dx : Addr) (t k t' : V) (sd fl sd' : Int), vs = [.ref a, t', .int sd'] ∧ H a = some (.ins C dx (pF t sd fl k)) ∧ Q .non (upd H a (.ins C dx (pF t' sd' 0 k)))
theorem ok_lay {f : Addr} {fd : FuncData} (F : Fun K "lay" "Pan.lay" stLay f fd) (T : Pn K mg C) : FnOk P w K mg base CX0 1 f fd ["self", "stack", "sides"] (spLay C) := by
  refine F.ok scLay (fun vs H Q E h => ?_) (fun cdv A outer s H vs Q E hr h => ?_)
  · obtain ⟨a, dx, t, k, t', sd, fl, sd', rfl, _⟩ := h
    rfl
  · obtain ⟨a, dx, t, k, t', sd, fl, sd', rfl, ha, hq⟩ := h
    refine ⟨_, pss_cons (ps_fld (pv 0) (pv 1) rfl) (pss_cons (ps_fld (pv 0) (pv 2) rfl) (pss_one (ps_fld (pv 0) pe_int rfl))), ?_⟩
    refine ⟨_, rfl, _, rfl, a, C, dx, _, rfl, ha, T.cl, T.nT, (by show 4 < 1000; decide), ?_⟩
    rw [pF_putStack]
    refine ⟨_, rfl, _, rfl, a, C, dx, _, rfl, upd_same, T.cl, T.nS, (by show 4 < 1000; decide), ?_⟩
    rw [upd_upd, pF_putSides]
    refine ⟨_, rfl, a, C, dx, _, rfl, upd_same, T.cl, T.nF, (by show 4 < 1000; decide), ?_⟩
    rw [upd_upd, pF_putFlips]
    exact hq

/-! ### turn -/
abbrev stTurn : Stmt := inClass (top 56) 2
theorem scTurn : FnScope ["self", "flip"] ["self", "flip"] (defScope stTurn) := ⟨rfl, rfl, rfl, by decide +kernel, rfl, by decide +kernel, by decide +kernel⟩
def spTurn (C : Addr) : Sp := fun vs H Q _ => ∃ (a dx t : Addr) (k : V) (st : List Int) (b : Bool) (fl j : Nat), vs = [.ref a, .int j] ∧ H a = some (.ins C dx (pF (.ref t) (bI b) (fl : Nat) k)) ∧ H t = some (.tup (vi st)) ∧ st.length ≤ 1000 ∧
  ∀ H' t', Fx [a] H H' → H' a = some (.ins C dx (pF (.ref t') (bI b) ((fl + 1 : Nat) : Int) k)) → H' t' = some (.tup (vi (Mu28.flip b j st))) → Q .non H'
theorem ok_turn {f : Addr} {fd : FuncData} (F : Fun K "turn" "Pan.turn" stTurn f fd) (T : Pn K mg C) (G : Df P w K mg base "flipped" 1 ["stack", "flip", "sides"] spFlipped) : FnOk P w K mg base CX0 2 f fd ["self", "flip"] (spTurn C) := by
  refine F.ok scTurn (fun vs H Q E h => ?_) (fun cdv A outer s H vs Q E hr h => ?_)
  · obtain ⟨a, dx, t, k, st, b, fl, j, rfl, _⟩ := h
    rfl
  · obtain ⟨a, dx, t, k, st, b, fl, j, rfl, ha, ht, hs, hq⟩ := h
    refine ⟨_, pss_cons (ps_fld (pv 0) (pe_df G (by rfl) hr (pa_cons (pe_fld (pv 0) rfl) (pa_cons (pv 1) (pa_cons (pe_fld (pv 0) rfl) pa_nil)))) rfl)
      (pss_one (ps_fld (pv 0) (pe_op op_add (pe_fld (pv 0) rfl) pe_int) rfl)), ?_⟩
    refine ⟨_, rfl, a, C, dx, _, _, rfl, ha, T.cl, T.nT, pF_stack, _, rfl, _, rfl, a, C, dx, _, _, rfl, ha, T.cl, T.nS, pF_sides, t, st, j, b, rfl, ht, hs, fun H2 t' s2 ht' => ?_⟩
    refine ⟨_, rfl, a, C, dx, _, rfl, s2 _ _ ha, T.cl, T.nT, (by show 4 < 1000; decide), ?_⟩
    rw [pF_putStack]
    refine ⟨_, rfl, a, C, dx, _, _, rfl, upd_same, T.cl, T.nF, pF_flips, _, _, rfl, rfl, _, rfl, a, C, dx, _, rfl, upd_same, T.cl, T.nF, (by show 4 < 1000; decide), ?_⟩
    rw [upd_upd]
    have e : putF "flips" (V.int ((fl : Int) + 1)) (pF (.ref t') (bI b) (fl : Nat) k) = pF (.ref t') (bI b) ((fl + 1 : Nat) : Int) k := pF_putFlips _
    refine hq _ t' (fun c o ec n => ?_) ?_ ?_
    · rw [upd_ne (fun q => n (List.mem_singleton.mpr q))]
      exact s2 _ _ ec
    · rw [upd_same]
      exact congrArg (fun z => some (HO.ins C dx z)) e
    · rw [upd_ne (ne_of ht' (s2 _ _ ha) (fun z => nomatch z))]
      exact ht'

/-! ### far_for -/
abbrev stFF : Stmt := inClass (top 56) 3
theorem scFF : FnScope ["self", "many", "sides", "kind"] ["self", "many", "sides"] (defScope stFF) := ⟨rfl, rfl, rfl, by decide +kernel, rfl, by decide +kernel, by decide +kernel⟩
def spFF (C : Addr) : Sp := fun vs H Q _ => ∃ (a k : Addr) (c n : Nat) (b : Bool) (o : Mu28.Abs), vs = [.ref a, .int n, .int (bI b)] ∧ PanOk C H a k c o ∧ c ≤ 1000 ∧ Pk.Sz b n ∧
  ∀ H' fa F, Fx [a, k] H H' → PanOk C H' a k (c + 1) o → H' fa = some (.dT (enc F)) → Pk.FarOk b n F → Q (.ref fa) H'
theorem key_inj {n m : Nat} {a b : Bool} (h : ky [(n : Int), bI a] = ky [(m : Int), bI b]) : n = m ∧ a = b := by
  have q := ky_inj h
  obtain ⟨q1, q2⟩ := List.cons.inj q
  obtain ⟨q3, _⟩ := List.cons.inj q2
  exact ⟨by omega, bI_inj q3⟩
theorem ok_ff {f : Addr} {fd : FuncData} (F : Fun K "far_for" "Pan.far_for" stFF f fd) (T : Pn K mg C) (G : Df P w K mg base "far_of" 3 ["many", "sides"] spFar) : FnOk P w K mg base CX0 4 f fd ["self", "many", "sides"] (spFF C) := by
  refine F.ok scFF (fun vs H Q E h => ?_) (fun cdv A outer s H vs Q E hr h => ?_)
  · obtain ⟨a, k, c, n, b, o, rfl, _⟩ := h
    rfl
  · obtain ⟨a, k, c, n, b, o, rfl, hP, hc, hz, hq⟩ := h
    have hu := hu_of hr
    refine ⟨_, pss_cons (ps_set (i := 3) scFF.nd rfl (Or.inl rfl) (pe_tup (pa_cons (pv 1) (pa_cons (pv 2) pa_nil))))
      (pss_cons (ps_if (pt_cmp (pc_dnotin hu (pv 3) (pe_fld (pv 0) rfl)) rfl) (pss_one (ps_dput hu (pe_fld (pv 0) rfl) (pv 3) (pe_df G (by rfl) hr (pa_cons (pv 1) (pa_cons (pv 2) pa_nil))) rfl)) pss_nil)
      (pss_one (ps_ret (pe_dget hu (pe_fld (pv 0) rfl) (pv 3) (fun _ _ => rfl))))), ?_⟩
    obtain ⟨dx, t, st, b0, fl, kvs, h1, h2, h3, h4, h5, h6⟩ := hP.ex
    -- kind = (many, sides)
    refine ⟨_, rfl, _, rfl, (by show 2 ≤ sizeLine; decide), fun q nq => ?_⟩
    obtain ⟨H1, e1⟩ : ∃ H1, H1 = upd H q (.tup [.int n, .int (bI b)]) := ⟨_, rfl⟩
    rw [← e1]
    have s1 : Same H H1 := by
      rw [e1]
      exact same_new nq
    have hq1 : H1 q = some (.tup ((ky [(n : Int), bI b]).map kV)) := by
      rw [e1, upd_same]
      rfl
    have dak : a ≠ k := ne_of h1 h4 (fun z => nomatch z)
    -- if kind not in self.known
    refine ⟨_, rfl, _, rfl, a, C, dx, _, _, rfl, s1 _ _ h1, T.cl, T.nK, pF_known, k, _, rfl, DGet.t (s1 _ _ h4) hq1, _, rfl, ?_⟩
    cases ev : valV kvs (ky [(n : Int), bI b]) with
    | some v =>
      refine iteF ?_
      obtain ⟨n', b', fa, F, g1, g2, g3, g4⟩ := h6 _ _ ev
      obtain ⟨rfl, rfl⟩ := key_inj g1
      subst g2
      have w := DGet.t (s1 _ _ h4) hq1
      rw [ev] at w
      exact ⟨_, rfl, a, C, dx, _, _, rfl, s1 _ _ h1, T.cl, T.nK, pF_known, _, rfl, k, _, rfl, w, hq H1 fa F (Fx.of s1) (hP.same s1).more (s1 _ _ g3) g4⟩
    | none =>
      refine iteT ?_
      refine ⟨_, rfl, _, rfl, n, b, rfl, hz, fun H2 fa F s2 nf hf hO => ?_⟩
      have h12 : Same H H2 := s1.trans s2
      have hk2 := h12 _ _ h4
      refine ⟨_, rfl, a, C, dx, _, _, rfl, h12 _ _ h1, T.cl, T.nK, pF_known, _, rfl, k, _, rfl, DPut.t hk2 (s2 _ _ hq1) ?_, ?_⟩
      · exact small1000 (by omega)
      have nfk : fa ≠ k := Ne.symm (ne_of_none (s1 _ _ h4) nf)
      obtain ⟨H3, e3⟩ : ∃ H3, H3 = upd H2 k (.dT (putK kvs (ky [(n : Int), bI b]) (.ref fa))) := ⟨_, rfl⟩
      rw [← e3]
      have f3 : Fx [a, k] H H3 := by
        rw [e3]
        exact (Fx.of h12).upd (List.mem_cons_of_mem _ (List.mem_singleton.mpr rfl))
      have o3 : ∀ c o, c ≠ k → H2 c = some o → H3 c = some o := fun c o n e => by
        rw [e3, upd_ne n]
        exact e
      have hk3 : H3 k = some (.dT (putK kvs (ky [(n : Int), bI b]) (.ref fa))) := by
        rw [e3]
        exact upd_same
      have ha3 : H3 a = some (.ins C dx (pF (.ref t) (bI b0) (fl : Nat) (.ref k))) := o3 _ _ dak (h12 _ _ h1)
      have hf3 : H3 fa = some (.dT (enc F)) := o3 _ _ nfk hf
      have hq3 : H3 q = some (.tup ((ky [(n : Int), bI b]).map kV)) := o3 _ _ (ne_of hq1 (s1 _ _ h4) (fun z => nomatch z)) (s2 _ _ hq1)
      have w := DGet.t hk3 hq3
      rw [valV_put, if_pos rfl] at w
      refine ⟨_, rfl, a, C, dx, _, _, rfl, ha3, T.cl, T.nK, pF_known, _, rfl, k, _, rfl, w, hq H3 fa F f3 ?_ hf3 hO⟩
      refine ⟨dx, t, st, b0, fl, _, ha3, o3 _ _ (ne_of h2 h4 (fun z => nomatch z)) (h12 _ _ h2), h3, hk3, ?_, fun key v e => ?_⟩
      · have := length_putK kvs (ky [(n : Int), bI b]) (V.ref fa)
        omega
      · rw [valV_put] at e
        by_cases ek : key = ky [(n : Int), bI b]
        · rw [if_pos ek] at e
          exact ⟨n, b, fa, F, ek, (Option.some.inj e).symm, hf3, hO⟩
        · rw [if_neg ek] at e
          obtain ⟨n', b', fa', F', g1, g2, g3, g4⟩ := h6 _ _ e
          exact ⟨n', b', fa', F', g1, g2, o3 _ _ (h6.apart h4 g3 g4) (h12 _ _ g3), g4⟩
end
end Pw
/-! The walk, part 5: what each call answers. -/
namespace Pw
open PySem PySem.Spec PyProof.Rows L2
section
variable {P : Program} {w : World} {K : PySem.W.Frag} {mg : Str → Option Value} {base : Heap} {C : Addr}
/-- the pan of a stack that is there, taken apart -/
theorem PanOk.some_ {H : Hp} {a k : Addr} {c : Nat} {s : Mu28.State} (h : PanOk C H a k c (some s)) : ∃ (dx t : Addr) (kvs : List (List L2.Key × V)), H a = some (.ins C dx (pF (.ref t) (bI s.burnt) (s.done_ : Nat) (.ref k))) ∧ H t = some (.tup (vi s.stack)) ∧
    H k = some (.dT kvs) ∧ kvs.length ≤ c ∧ Known H kvs ∧ Pk.Sz s.burnt s.stack.length ∧ Pk.Ok s.burnt s.stack.length s.stack := by
  obtain ⟨dx, t, st, b, fl, kvs, h1, h2, ⟨rfl, z, o⟩, h4, h5, h6⟩ := h.ex
  exact ⟨dx, t, kvs, h1, h2, h4, h5, h6, z, o⟩

/-! ### told_row -/
abbrev stTold : Stmt := top 44
theorem scTold : FnScope ["row"] ["row"] (defScope stTold) := ⟨rfl, rfl, rfl, by decide +kernel, rfl, by decide +kernel, by decide +kernel⟩
def spTold : Sp := fun vs H Q _ => ∃ (r : Addr) (l : List Nat), vs = [.ref r] ∧ H r = some (.lst (vi (ni l))) ∧ l.length ≤ 1000 ∧ ∀ H' p, Same H H' → H p = none → H' p = some (.lst (vi (Mu28.counted l))) → Q (.ref p) H'
theorem ok_told {f : Addr} {fd : FuncData} (F : Fun K "told_row" "told_row" stTold f fd) (T : Bi mg) : FnOk P w K mg base CX0 1 f fd ["row"] spTold := by
  refine F.ok scTold (fun vs H Q E h => ?_) (fun cdv A outer s H vs Q E hr h => ?_)
  · obtain ⟨r, l, rfl, _⟩ := h
    rfl
  · obtain ⟨r, l, rfl, hr1, hl, hq⟩ := h
    refine ⟨_, pss_one (ps_ret (pe_op op_cat (pe_lst (pa_cons (pe_callB call_len_seq (by rfl) T.len PySem.boot_len (pa_cons (pv 0) pa_nil)) pa_nil)) (pv 0))), ?_⟩
    refine ⟨_, rfl, r, _, rfl, .inl (SqL.of hr1), (by show 1 ≤ sizeLine; decide), fun p np => ?_⟩
    rw [ni_length]
    have s1 : Same H (upd H p (.lst [.int (l.length : Nat)])) := same_new np
    refine ⟨_, rfl, p, r, _, _, rfl, rfl, upd_same, s1 _ _ hr1, ?_, fun q nq => ?_⟩
    · rw [ni_length]
      exact fits_line (m := 2000) (by show 1 + l.length ≤ 2000; omega)
    · refine hq _ q (same_upd s1 nq) (s1.free nq) ?_
      rw [upd_same]
      rfl

/-! ### looked -/
abbrev stLooked : Stmt := top 47
theorem scLooked : FnScope ["pan"] ["pan"] (defScope stLooked) := ⟨rfl, rfl, rfl, by decide +kernel, rfl, by decide +kernel, by decide +kernel⟩
/-- what a call that changes nothing answers: a new list, the pan as it was, but for what is kept -/
def Gives (C : Addr) (H : Hp) (a k : Addr) (c : Nat) (o : Mu28.Abs) (ans : List Int) (Q : VK) : Prop := ∀ H' p, Fx [a, k] H H' → PanOk C H' a k (c + 1) o → H p = none → H' p = some (.lst (vi ans)) → ans.length ≤ 100 → Q (.ref p) H'
def spLooked (C : Addr) : Sp := fun vs H Q _ => ∃ (a k : Addr) (c : Nat) (s : Mu28.State), vs = [.ref a] ∧ PanOk C H a k c (some s) ∧ Gives C H a k c (some s) (Mu28.step (some s) .look).2 Q
theorem ok_looked {f : Addr} {fd : FuncData} (F : Fun K "looked" "looked" stLooked f fd) (T : Bi mg) (N : Pn K mg C) : FnOk P w K mg base CX0 1 f fd ["pan"] (spLooked C) := by
  refine F.ok scLooked (fun vs H Q E h => ?_) (fun cdv A outer s H vs Q E hr h => ?_)
  · obtain ⟨a, k, c, s, rfl, _⟩ := h
    rfl
  · obtain ⟨a, k, c, s, rfl, hP, hq⟩ := h
    refine ⟨_, pss_one (ps_ret (pe_op op_cat (pe_lst (pa_cons (pe_fld (pv 0) rfl) (pa_cons (pe_fld (pv 0) rfl) pa_nil))) (pe_callTy call_list_of (by rfl) T.list (by decide +kernel) (pa_cons (pe_fld (pv 0) rfl) pa_nil)))), ?_⟩
    obtain ⟨dx, t, kvs, h1, h2, h4, h5, h6, hz, ho⟩ := hP.some_
    have hn := sz_le hz
    refine ⟨_, rfl, a, C, dx, _, _, rfl, h1, N.cl, N.nF, pF_flips, _, rfl, a, C, dx, _, _, rfl, h1, N.cl, N.nS, pF_sides, (by show 2 ≤ sizeLine; decide), fun p np => ?_⟩
    have s1 : Same H (upd H p (.lst [.int (s.done_ : Nat), .int (bI s.burnt)])) := same_new np
    refine ⟨_, rfl, a, C, dx, _, _, rfl, s1 _ _ h1, N.cl, N.nT, pF_stack, t, _, rfl, .inr (SqT.of (s1 _ _ h2)), fun q nq => ?_⟩
    have s2 : Same H (upd (upd H p (.lst [.int (s.done_ : Nat), .int (bI s.burnt)])) q (.lst (vi s.stack))) := same_upd s1 nq
    have hp2 : upd (upd H p (.lst [.int (s.done_ : Nat), .int (bI s.burnt)])) q (.lst (vi s.stack)) p = some (.lst [.int (s.done_ : Nat), .int (bI s.burnt)]) := by
      rw [upd_ne (ne_of_none upd_same nq)]
      exact upd_same
    refine ⟨p, q, _, _, rfl, rfl, hp2, upd_same, by rw [vi_length]; exact fits_line (m := 100) (by show 2 + s.stack.length ≤ 100; omega), fun r nr => ?_⟩
    have s3 := same_upd (o := .lst ([V.int (s.done_ : Nat), V.int (bI s.burnt)] ++ vi s.stack)) s2 nr
    refine hq _ r (Fx.of s3) (hP.same s3).more (s2.free nr) ?_ ?_
    · rw [upd_same]
      rfl
    · show s.stack.length + 1 + 1 ≤ 100
      omega

/-! ### best_row -/
abbrev stBest : Stmt := top 45
theorem scBest : FnScope ["pan", "far"] ["pan"] (defScope stBest) := ⟨rfl, rfl, rfl, by decide +kernel, rfl, by decide +kernel, by decide +kernel⟩
def spBest (C : Addr) : Sp := fun vs H Q _ => ∃ (a k : Addr) (c : Nat) (s : Mu28.State), vs = [.ref a] ∧ PanOk C H a k c (some s) ∧ c ≤ 1000 ∧
  ∀ H' p l, Fx [a, k] H H' → PanOk C H' a k (c + 1) (some s) → H p = none → Mu28.fewest s.burnt s.stack = some l → l.length ≤ 20 → H' p = some (.lst (vi (ni l))) → Q (.ref p) H'
theorem Fx.free {S : List Addr} {H H' : Hp} (f : Fx S H H') {p : Addr} (hS : ∀ a ∈ S, ∃ o, H' a = some o) (n : H' p = none) : H p = none := by
  cases e : H p with
  | none => rfl
  | some o =>
    by_cases m : p ∈ S
    · obtain ⟨u, hu⟩ := hS p m
      rw [hu] at n
      cases n
    · rw [f p o e m] at n
      cases n
theorem PanOk.there {H : Hp} {a k : Addr} {c : Nat} {o : Mu28.Abs} (h : PanOk C H a k c o) : ∀ x ∈ [a, k], ∃ u, H x = some u := fun x hx => by
  obtain ⟨dx, t, st, b, fl, kvs, h1, h2, h3, h4, _⟩ := h.ex
  rcases List.mem_cons.mp hx with q | q
  · rw [q]
    exact ⟨_, h1⟩
  · rw [List.mem_singleton] at q
    rw [q]
    exact ⟨_, h4⟩
theorem ok_best {f : Addr} {fd : FuncData} (F : Fun K "best_row" "best_row" stBest f fd) (T : Bi mg) (N : Pn K mg C) (M : Md P w K mg base C "far_for" 4 ["self", "many", "sides"] (spFF C)) (G : Df P w K mg base "fewest_row" 3 ["far", "stack", "sides"] spFew) :
    FnOk P w K mg base CX0 5 f fd ["pan"] (spBest C) := by
  refine F.ok scBest (fun vs H Q E h => ?_) (fun cdv A outer s H vs Q E hr h => ?_)
  · obtain ⟨a, k, c, s, rfl, _⟩ := h
    rfl
  · obtain ⟨a, k, c, s, rfl, hP, hc, hq⟩ := h
    refine ⟨_, pss_cons (ps_set (i := 1) scBest.nd rfl (Or.inl rfl) (pe_md M (pv 0) N.cl hr (pa_cons (pe_callB call_len_seq (by rfl) T.len PySem.boot_len (pa_cons (pe_fld (pv 0) rfl) pa_nil)) (pa_cons (pe_fld (pv 0) rfl) pa_nil))))
      (pss_one (ps_ret (pe_df G (by rfl) (hr.mono (by decide)) (pa_cons (pv 1) (pa_cons (pe_fld (pv 0) rfl) (pa_cons (pe_fld (pv 0) rfl) pa_nil)))))), ?_⟩
    obtain ⟨dx, t, kvs, h1, h2, h4, h5, h6, hz, ho⟩ := hP.some_
    refine ⟨_, rfl, a, dx, _, rfl, h1, pF_farfor, _, rfl, a, C, dx, _, _, rfl, h1, N.cl, N.nT, pF_stack, t, _, rfl, .inr (SqT.of h2), _, rfl, a, C, dx, _, _, rfl, h1, N.cl, N.nS, pF_sides, a, k, c, s.stack.length, s.burnt, some s, ?_, hP, hc, hz, fun H2 fa F2 f2 hP2 hf2 hO2 => ?_⟩
    · rw [vi_length]
      rfl
    obtain ⟨dx', t', kvs', g1, g2, g4, g5, g6, _, _⟩ := hP2.some_
    refine ⟨_, rfl, _, rfl, a, C, dx', _, _, rfl, g1, N.cl, N.nT, pF_stack, _, rfl, a, C, dx', _, _, rfl, g1, N.cl, N.nS, pF_sides, fa, t', F2, s.stack, s.stack.length, s.burnt, rfl, hf2, hO2, hz, g2, ho, fun H3 p l s3 np hl1 hl2 hp => ?_⟩
    exact hq H3 p l (f2.same s3) (hP2.same s3) (f2.free hP2.there np) hl1 hl2 hp

/-! ### hinted -/
abbrev stHint : Stmt := top 46
theorem scHint : FnScope ["pan", "row"] ["pan"] (defScope stHint) := ⟨rfl, rfl, rfl, by decide +kernel, rfl, by decide +kernel, by decide +kernel⟩
def spHint (C : Addr) : Sp := fun vs H Q _ => ∃ (a k : Addr) (c : Nat) (s : Mu28.State), vs = [.ref a] ∧ PanOk C H a k c (some s) ∧ c ≤ 1000 ∧ Gives C H a k c (some s) (Mu28.step (some s) .hint).2 Q
theorem ok_hint {f : Addr} {fd : FuncData} (F : Fun K "hinted" "hinted" stHint f fd) (T : Bi mg) (G : Df P w K mg base "best_row" 5 ["pan"] (spBest C)) : FnOk P w K mg base CX0 6 f fd ["pan"] (spHint C) := by
  refine F.ok scHint (fun vs H Q E h => ?_) (fun cdv A outer s H vs Q E hr h => ?_)
  · obtain ⟨a, k, c, s, rfl, _⟩ := h
    rfl
  · obtain ⟨a, k, c, s, rfl, hP, hc, hq⟩ := h
    refine ⟨_, pss_cons (ps_set (i := 1) scHint.nd rfl (Or.inl rfl) (pe_df G (by rfl) hr (pa_cons (pv 0) pa_nil)))
      (pss_cons (ps_if (pt_cmpR (op_eqD hr.units) (pv 1) (pe_lst pa_nil) (nomark _)) (pss_one (ps_ret (pe_lst (pa_cons pe_int pa_nil)))) pss_nil)
      (pss_one (ps_ret (pe_lst (pa_cons (pe_ix ix_list (pv 1) pe_int (fun _ _ => rfl)) (pa_cons (pe_op op_sub (pe_callB call_len_seq (by rfl) T.len PySem.boot_len (pa_cons (pv 1) pa_nil)) pe_int) pa_nil)))))), ?_⟩
    refine ⟨_, rfl, a, k, c, s, rfl, hP, hc, fun H2 p l f2 hP2 np hl1 hl2 hp => ?_⟩
    -- if row == []
    refine ⟨_, rfl, Nat.zero_le _, fun q nq => ?_⟩
    have s3 : Same H2 (upd H2 q (.lst [])) := same_new nq
    have hP3 := hP2.same s3
    have f3 := f2.same s3
    refine eqD_lsts (s := ni l) (t := []) (s3 _ _ hp) upd_same ⟨_, rfl, ?_⟩
    have eh : (Mu28.step (some s) .hint).2 = match Mu28.fewest s.burnt s.stack with
      | some (k :: l) => [(k : Int), (l.length : Int)]
      | some [] => [0]
      | none => [-6] := rfl
    cases l with
    | nil =>
      rw [hl1] at eh
      refine iteT ⟨(by show 1 ≤ sizeLine; decide), fun r nr => ?_⟩
      have s4 := same_new (o := .lst [V.int 0]) nr
      refine hq _ r (f3.same s4) (hP3.same s4) (f3.free hP3.there nr) ?_ ?_
      · rw [upd_same, eh]
        rfl
      · rw [eh]
        decide
    | cons j l =>
      rw [hl1] at eh
      have hp3 := s3 _ _ hp
      refine iteF ⟨_, rfl, p, _, _, _, rfl, rfl, SqL.of hp3, at_of (j := 0) rfl rfl, _, rfl, p, _, rfl, .inl (SqL.of hp3), _, _, rfl, rfl, (by show 2 ≤ sizeLine; decide), fun r nr => ?_⟩
      rw [ni_length]
      have s4 := same_new (o := .lst [V.int (j : Nat), V.int (((j :: l).length : Nat) - 1)]) nr
      refine hq _ r (f3.same s4) (hP3.same s4) (f3.free hP3.there nr) ?_ ?_
      · rw [upd_same, eh]
        have e5 : (((j :: l).length : Nat) : Int) - 1 = (l.length : Int) := by
          rw [List.length_cons]
          omega
        exact congrArg (fun z => some (HO.lst [V.int (j : Int), V.int z])) e5
      · rw [eh]
        show 2 ≤ 100
        decide

/-! ### asked_plainly -/
abbrev stPlain : Stmt := top 48
theorem scPlain : FnScope ["pan", "call"] ["pan", "call"] (defScope stPlain) := ⟨rfl, rfl, rfl, by decide +kernel, rfl, by decide +kernel, by decide +kernel⟩
def plainAns (s : Mu28.State) (z : Int) : List Int := if z = 2 then (Mu28.step (some s) .look).2 else if z = 3 then (Mu28.step (some s) .gaps).2 else if z = 4 then (Mu28.step (some s) .fewest).2 else if z = 5 then (Mu28.step (some s) .usual).2 else (Mu28.step (some s) .hint).2
def spPlain (C : Addr) : Sp := fun vs H Q _ => ∃ (a k : Addr) (c : Nat) (s : Mu28.State) (z : Int), vs = [.ref a, .int z] ∧ PanOk C H a k c (some s) ∧ c ≤ 1000 ∧ Gives C H a k c (some s) (plainAns s z) Q
theorem ok_plain {f : Addr} {fd : FuncData} (F : Fun K "asked_plainly" "asked_plainly" stPlain f fd) (T : Bi mg) (N : Pn K mg C) (g2 : IsG mg "LOOK" 2) (g3 : IsG mg "GAPS" 3) (g4 : IsG mg "FEWEST" 4) (g5 : IsG mg "USUAL" 5)
    (L : Df P w K mg base "looked" 1 ["pan"] (spLooked C)) (G : Df P w K mg base "gaps_in" 2 ["stack", "sides"] spGaps) (R : Df P w K mg base "told_row" 1 ["row"] spTold) (B : Df P w K mg base "best_row" 5 ["pan"] (spBest C))
    (U : Df P w K mg base "usual_row" 4 ["stack", "sides"] spUsual) (J : Df P w K mg base "hinted" 6 ["pan"] (spHint C)) : FnOk P w K mg base CX0 7 f fd ["pan", "call"] (spPlain C) := by
  refine F.ok scPlain (fun vs H Q E h => ?_) (fun cdv A outer s H vs Q E hr h => ?_)
  · obtain ⟨a, k, c, s, z, rfl, _⟩ := h
    rfl
  · obtain ⟨a, k, c, s, z, rfl, hP, hc, hq⟩ := h
    refine ⟨_, pss_cons (ps_if (pt_cmpR op_eq (pv 1) (pe_gi g2 (by rfl)) (nomark _)) (pss_one (ps_ret (pe_df L (by rfl) (hr.mono (by decide)) (pa_cons (pv 0) pa_nil)))) pss_nil)
      (pss_cons (ps_if (pt_cmpR op_eq (pv 1) (pe_gi g3 (by rfl)) (nomark _)) (pss_one (ps_ret (pe_lst (pa_cons (pe_df G (by rfl) (hr.mono (by decide)) (pa_cons (pe_fld (pv 0) rfl) (pa_cons (pe_fld (pv 0) rfl) pa_nil))) pa_nil)))) pss_nil)
      (pss_cons (ps_if (pt_cmpR op_eq (pv 1) (pe_gi g4 (by rfl)) (nomark _)) (pss_one (ps_ret (pe_df R (by rfl) (hr.mono (by decide)) (pa_cons (pe_df B (by rfl) (hr.mono (by decide)) (pa_cons (pv 0) pa_nil)) pa_nil)))) pss_nil)
      (pss_cons (ps_if (pt_cmpR op_eq (pv 1) (pe_gi g5 (by rfl)) (nomark _)) (pss_one (ps_ret (pe_df R (by rfl) (hr.mono (by decide)) (pa_cons (pe_df U (by rfl) (hr.mono (by decide)) (pa_cons (pe_fld (pv 0) rfl) (pa_cons (pe_fld (pv 0) rfl) pa_nil))) pa_nil)))) pss_nil)
      (pss_one (ps_ret (pe_df J (by rfl) hr (pa_cons (pv 0) pa_nil))))))), ?_⟩
    obtain ⟨dx, t, kvs, h1, h2, h4, h5, h6, hz, ho⟩ := hP.some_
    have hn := sz_le hz
    refine ⟨_, rfl, rfl, _, rfl, ?_⟩
    rw [dec_int]
    by_cases c2 : z = 2
    · have e : plainAns s z = (Mu28.step (some s) .look).2 := if_pos c2
      rw [e] at hq
      exact if_y (beq_iff_eq.mpr c2) ⟨_, rfl, a, k, c, s, rfl, hP, hq⟩
    refine if_n (beq_eq_false_iff_ne.mpr c2) ⟨_, rfl, rfl, _, rfl, ?_⟩
    rw [dec_int]
    by_cases c3 : z = 3
    · have e : plainAns s z = [((Mu28.gaps s.burnt s.stack : Nat) : Int)] := (if_neg c2).trans (if_pos c3)
      rw [e] at hq
      refine if_y (beq_iff_eq.mpr c3) ⟨_, rfl, a, C, dx, _, _, rfl, h1, N.cl, N.nT, pF_stack, _, rfl, a, C, dx, _, _, rfl, h1, N.cl, N.nS, pF_sides, t, s.stack, s.burnt, rfl, h2, hz.1, by omega, fun H2 s2 => ⟨(by show 1 ≤ sizeLine; decide), fun p np => ?_⟩⟩
      have s3 := same_upd (o := .lst [V.int (Mu28.gaps s.burnt s.stack : Nat)]) s2 np
      exact hq _ p (Fx.of s3) (hP.same s3).more (s2.free np) upd_same (by show 1 ≤ 100; decide)
    refine if_n (beq_eq_false_iff_ne.mpr c3) ⟨_, rfl, rfl, _, rfl, ?_⟩
    rw [dec_int]
    by_cases c4 : z = 4
    · have e : plainAns s z = (Mu28.step (some s) .fewest).2 := (if_neg c2).trans ((if_neg c3).trans (if_pos c4))
      rw [e] at hq
      refine if_y (beq_iff_eq.mpr c4) ⟨_, rfl, a, k, c, s, rfl, hP, hc, fun H2 p l f2 hP2 np hl1 hl2 hp => ?_⟩
      have e2 : (Mu28.step (some s) .fewest).2 = Mu28.counted l := by
        show (match Mu28.fewest s.burnt s.stack with
          | some l => Mu28.counted l
          | none => [-6]) = _
        rw [hl1]
      rw [e2] at hq
      refine ⟨p, l, rfl, hp, by omega, fun H3 q s3 nq hq3 => hq H3 q (f2.same s3) (hP2.same s3) (f2.free hP2.there nq) hq3 ?_⟩
      show ((l.length :: l).map _).length ≤ 100
      rw [List.length_map, List.length_cons]
      omega
    refine if_n (beq_eq_false_iff_ne.mpr c4) ⟨_, rfl, rfl, _, rfl, ?_⟩
    rw [dec_int]
    by_cases c5 : z = 5
    · have e : plainAns s z = Mu28.counted (Mu28.usual s.burnt s.stack.length s.stack) := (if_neg c2).trans ((if_neg c3).trans ((if_neg c4).trans (if_pos c5)))
      rw [e] at hq
      refine if_y (beq_iff_eq.mpr c5) ⟨_, rfl, a, C, dx, _, _, rfl, h1, N.cl, N.nT, pF_stack, _, rfl, a, C, dx, _, _, rfl, h1, N.cl, N.nS, pF_sides, t, s.stack, s.stack.length, s.burnt, rfl, h2, ho, by omega, fun H2 p s2 np hul hp => ?_⟩
      refine ⟨p, _, rfl, hp, by omega, fun H3 q s3 nq hq3 => hq H3 q (Fx.of (s2.trans s3)) (hP.same (s2.trans s3)).more (s2.free nq) hq3 ?_⟩
      show (((Mu28.usual s.burnt s.stack.length s.stack).length :: Mu28.usual s.burnt s.stack.length s.stack).map _).length ≤ 100
      rw [List.length_map, List.length_cons]
      omega
    · have e : plainAns s z = (Mu28.step (some s) .hint).2 := (if_neg c2).trans ((if_neg c3).trans ((if_neg c4).trans (if_neg c5)))
      rw [e] at hq
      exact if_n (beq_eq_false_iff_ne.mpr c5) ⟨_, rfl, a, k, c, s, rfl, hP, hc, hq⟩

/-! ### tried -/
abbrev stTried : Stmt := top 49
theorem scTried : FnScope ["pan", "row", "there"] ["pan", "row"] (defScope stTried) := ⟨rfl, rfl, rfl, by decide +kernel, rfl, by decide +kernel, by decide +kernel⟩
def spTried (C : Addr) : Sp := fun vs H Q _ => ∃ (a k ra : Addr) (c : Nat) (s : Mu28.State) (l : List Nat), vs = [.ref a, .ref ra] ∧ PanOk C H a k c (some s) ∧ H ra = some (.lst (vi (ni l))) ∧
  Gives C H a k c (some s) (((Mu28.gaps s.burnt (Mu28.flips s.burnt l s.stack) : Nat) : Int) :: Mu28.flips s.burnt l s.stack) Q
theorem ok_tried {f : Addr} {fd : FuncData} (F : Fun K "tried" "tried" stTried f fd) (T : Bi mg) (N : Pn K mg C) (D : Df P w K mg base "done" 2 ["stack", "row", "sides"] spDone) (G : Df P w K mg base "gaps_in" 2 ["stack", "sides"] spGaps) : FnOk P w K mg base CX0 3 f fd ["pan", "row"] (spTried C) := by
  refine F.ok scTried (fun vs H Q E h => ?_) (fun cdv A outer s H vs Q E hr h => ?_)
  · obtain ⟨a, k, ra, c, s, l, rfl, _⟩ := h
    rfl
  · obtain ⟨a, k, ra, c, s, l, rfl, hP, hR, hq⟩ := h
    refine ⟨_, pss_cons (ps_set (i := 2) scTried.nd rfl (Or.inl rfl) (pe_df D (by rfl) hr (pa_cons (pe_fld (pv 0) rfl) (pa_cons (pv 1) (pa_cons (pe_fld (pv 0) rfl) pa_nil)))))
      (pss_one (ps_ret (pe_op op_cat (pe_lst (pa_cons (pe_df G (by rfl) hr (pa_cons (pv 2) (pa_cons (pe_fld (pv 0) rfl) pa_nil))) pa_nil)) (pe_callTy call_list_of (by rfl) T.list (by decide +kernel) (pa_cons (pv 2) pa_nil))))), ?_⟩
    obtain ⟨dx, t, kvs, h1, h2, h4, h5, h6, hz, ho⟩ := hP.some_
    have hn := sz_le hz
    refine ⟨_, rfl, a, C, dx, _, _, rfl, h1, N.cl, N.nT, pF_stack, _, rfl, _, rfl, a, C, dx, _, _, rfl, h1, N.cl, N.nS, pF_sides, t, ra, s.stack, l, s.burnt, rfl, h2, by omega, hR, fun H2 u s2 hu => ?_⟩
    have fl := Pk.flips_length s.burnt l s.stack
    refine ⟨_, rfl, _, rfl, a, C, dx, _, _, rfl, s2 _ _ h1, N.cl, N.nS, pF_sides, u, _, s.burnt, rfl, hu, by omega, by omega, fun H3 s3 => ⟨(by show 1 ≤ sizeLine; decide), fun p np => ?_⟩⟩
    have s23 := s2.trans s3
    have s4 := same_upd (o := .lst [V.int (Mu28.gaps s.burnt (Mu28.flips s.burnt l s.stack) : Nat)]) s23 np
    have hu4 := same_new (o := .lst [V.int (Mu28.gaps s.burnt (Mu28.flips s.burnt l s.stack) : Nat)]) np _ _ (s3 _ _ hu)
    refine ⟨_, rfl, u, _, rfl, .inr (SqT.of hu4), fun q nq => ?_⟩
    have s5 := same_upd (o := .lst (vi (Mu28.flips s.burnt l s.stack))) s4 nq
    refine ⟨p, q, [V.int (Mu28.gaps s.burnt (Mu28.flips s.burnt l s.stack) : Nat)], vi (Mu28.flips s.burnt l s.stack), rfl, rfl, ?_, upd_same, by rw [vi_length]; exact fits_line (m := 100) (by show 1 + (Mu28.flips s.burnt l s.stack).length ≤ 100; omega), fun r nr => ?_⟩
    · rw [upd_ne (ne_of_none upd_same nq)]
      exact upd_same
    · have s6 := same_upd (o := .lst ([V.int (Mu28.gaps s.burnt (Mu28.flips s.burnt l s.stack) : Nat)] ++ vi (Mu28.flips s.burnt l s.stack))) s5 nr
      refine hq _ r (Fx.of s6) (hP.same s6).more (s5.free nr) upd_same ?_
      rw [List.length_cons]
      omega

/-! ### alike -/
abbrev stAlike : Stmt := top 50
theorem scAlike : FnScope ["pan", "one", "other"] ["pan", "one", "other"] (defScope stAlike) := ⟨rfl, rfl, rfl, by decide +kernel, rfl, by decide +kernel, by decide +kernel⟩
def spAlike (C : Addr) : Sp := fun vs H Q _ => ∃ (a k ra rb : Addr) (c : Nat) (s : Mu28.State) (l m : List Nat), vs = [.ref a, .ref ra, .ref rb] ∧ PanOk C H a k c (some s) ∧ H ra = some (.lst (vi (ni l))) ∧ H rb = some (.lst (vi (ni m))) ∧
  ∀ H', Same H H' → Q (.int (if Mu28.flips s.burnt l s.stack = Mu28.flips s.burnt m s.stack then 1 else 0)) H'
theorem ok_alike {f : Addr} {fd : FuncData} (F : Fun K "alike" "alike" stAlike f fd) (T : Bi mg) (N : Pn K mg C) (D : Df P w K mg base "done" 2 ["stack", "row", "sides"] spDone) : FnOk P w K mg base CX0 3 f fd ["pan", "one", "other"] (spAlike C) := by
  refine F.ok scAlike (fun vs H Q E h => ?_) (fun cdv A outer s H vs Q E hr h => ?_)
  · obtain ⟨a, k, ra, rb, c, s, l, m, rfl, _⟩ := h
    rfl
  · obtain ⟨a, k, ra, rb, c, s, l, m, rfl, hP, hR, hR2, hq⟩ := h
    refine ⟨_, pss_one (ps_ret (pe_callTy call_int1 (by rfl) T.int (by decide +kernel) (pa_cons (pe_cmpR (op_eqD hr.units) (pe_df D (by rfl) hr (pa_cons (pe_fld (pv 0) rfl) (pa_cons (pv 1) (pa_cons (pe_fld (pv 0) rfl) pa_nil)))) (pe_df D (by rfl) hr (pa_cons (pe_fld (pv 0) rfl) (pa_cons (pv 2) (pa_cons (pe_fld (pv 0) rfl) pa_nil)))) (nomark _)) pa_nil))), ?_⟩
    obtain ⟨dx, t, kvs, h1, h2, h4, h5, h6, hz, ho⟩ := hP.some_
    have hn := sz_le hz
    refine ⟨_, rfl, a, C, dx, _, _, rfl, h1, N.cl, N.nT, pF_stack, _, rfl, _, rfl, a, C, dx, _, _, rfl, h1, N.cl, N.nS, pF_sides, t, ra, s.stack, l, s.burnt, rfl, h2, by omega, hR, fun H2 u s2 hu => ?_⟩
    refine ⟨_, rfl, a, C, dx, _, _, rfl, s2 _ _ h1, N.cl, N.nT, pF_stack, _, rfl, _, rfl, a, C, dx, _, _, rfl, s2 _ _ h1, N.cl, N.nS, pF_sides, t, rb, s.stack, m, s.burnt, rfl, s2 _ _ h2, by omega, s2 _ _ hR2, fun H3 v s3 hv => ?_⟩
    refine eqD_tups (s3 _ _ hu) hv (.inr ⟨_, rfl, ?_⟩)
    have q := hq H3 (s2.trans s3)
    by_cases c : Mu28.flips s.burnt l s.stack = Mu28.flips s.burnt m s.stack
    · rw [if_pos c] at q
      rw [decide_eq_true c]
      exact q
    · rw [if_neg c] at q
      rw [decide_eq_false c]
      exact q
end
end Pw
/-! The walk, part 6: what each call answers, on. -/
namespace Pw
open PySem PySem.Spec PyProof.Rows L2
/-- lists of whole numbers, in a list -/
def LL (H : Hp) (la : Addr) (Ls : List (List Int)) : Prop := ∃ rs : List Addr, H la = some (.lst (rs.map V.ref)) ∧ Paired (fun r l => H r = some (.lst (vi l))) rs Ls
theorem paired_get2 {H : Hp} : ∀ {rs : List Addr} {Ls : List (List Int)} {i : Nat} {r : Addr}, Paired (fun r l => H r = some (.lst (vi l))) rs Ls → rs[i]? = some r → ∃ l, Ls[i]? = some l ∧ H r = some (.lst (vi l))
  | _, _, _, _, .nil, e => by simp at e
  | _, _, 0, _, .cons q _, e => by
    simp at e
    subst e
    exact ⟨_, rfl, q⟩
  | _, _, i + 1, r, .cons _ t, e => by
    obtain ⟨l, h1, h2⟩ := paired_get2 (i := i) (r := r) t (by simpa using e)
    exact ⟨l, by simpa using h1, h2⟩
theorem LL.get {H : Hp} {la : Addr} {Ls : List (List Int)} (h : LL H la Ls) {i : Nat} {l : List Int} (e : Ls[i]? = some l) : ∃ (xs : List V) (r : Addr), H la = some (.lst xs) ∧ xs[i]? = some (V.ref r) ∧ H r = some (.lst (vi l)) := by
  obtain ⟨rs, h1, h2⟩ := h
  have hl : rs.length = Ls.length := Paired.length h2
  have hi : i < rs.length := by
    rw [hl]
    exact (List.getElem?_eq_some_iff.mp e).1
  obtain ⟨l', e', q⟩ := paired_get2 h2 (List.getElem?_eq_getElem hi)
  rw [e] at e'
  cases e'
  exact ⟨_, rs[i], h1, by rw [List.getElem?_map, List.getElem?_eq_getElem hi]; rfl, q⟩
def dLL (Ls : List (List Int)) : List PyData := Ls.map fun l => .list (l.map PyData.int)
theorem dLL_lay : ∀ Ls, PyData.canLayAll0 (dLL Ls) = true
  | [] => rfl
  | l :: Ls => by
    show PyData.canLayAll0 (.list (l.map PyData.int) :: dLL Ls) = true
    simp [PyData.canLayAll0, PyData.canLay0, PySem.W.ke_canLayAll0, dLL_lay Ls]
theorem dLL_depth : ∀ Ls, PyData.depthAll (dLL Ls) ≤ 1
  | [] => by simp [dLL, PyData.depthAll]
  | l :: Ls => by
    show PyData.depthAll (.list (l.map PyData.int) :: dLL Ls) ≤ 1
    have := dLL_depth Ls
    simp [PyData.depthAll, PyData.depth, PySem.W.ke_depthAll]
    omega
theorem dLL_shaped (Ls : List (List Int)) : SeqAt.shaped (.list (dLL Ls)) = true := by
  have := dLL_depth Ls
  simp [SeqAt.shaped, PyData.canLay0, PyData.depth, dLL_lay]
  omega
theorem dLL_dp {K : PySem.W.Frag} {H : Hp} : ∀ {rs : List Addr} {Ls : List (List Int)}, Paired (fun r l => H r = some (.lst (vi l))) rs Ls → DpAll K H (rs.map V.ref) (dLL Ls)
  | _, _, .nil => .nil
  | _, _, .cons q t => .cons (.lst (SqL.of q) (dp_ints _)) (dLL_dp t)
theorem neD_LL {K : PySem.W.Frag} {H : Hp} {la e : Addr} {Ls : List (List Int)} {Q : VK} (h : LL H la Ls) (he : H e = some (.lst [])) (q : Q (.bl (!Ls.isEmpty)) H) : rNeD K (.ref la) (.ref e) H Q := by
  obtain ⟨rs, h1, h2⟩ := h
  refine ⟨.list (dLL Ls), .list [], .lst (SqL.of h1) (dLL_dp h2), .lst (SqL.of he) .nil, dLL_shaped Ls, rfl, ?_⟩
  have e : PyData.eqv (.list (dLL Ls)) (.list []) = Ls.isEmpty := by
    cases Ls with
    | nil => simp [dLL, PyData.eqv, PyData.eqvAll]
    | cons l Ls => simp [dLL, PyData.eqv, PyData.eqvAll]
  rw [e]
  exact q
theorem LL.same {H H' : Hp} {la : Addr} {Ls : List (List Int)} (h : LL H la Ls) (s : Same H H') : LL H' la Ls := by
  obtain ⟨rs, h1, h2⟩ := h
  refine ⟨rs, s _ _ h1, ?_⟩
  clear h1
  induction h2 with
  | nil => exact .nil
  | cons q t ih => exact .cons (s _ _ q) ih
section
variable {P : Program} {w : World} {K : PySem.W.Frag} {mg : Str → Option Value} {base : Heap} {C : Addr}
/-! ### asked_by_rows -/
abbrev stRows : Stmt := top 51
theorem scRows : FnScope ["pan", "call", "rows", "row"] ["pan", "call", "rows"] (defScope stRows) := ⟨rfl, rfl, rfl, by decide +kernel, rfl, by decide +kernel, by decide +kernel⟩
/-- a call with rows, by its number -/
def rowCall : Int → List (List Nat) → Option Mu28.Call
  | 6, [l] => some (.try_ l)
  | 7, [l, m] => some (.same l m)
  | 8, [l] => some (.round l)
  | _, _ => none
def spRows (C : Addr) : Sp := fun vs H Q _ => ∃ (a k la : Addr) (c : Nat) (s : Mu28.State) (z : Int) (Ls : List (List Nat)) (x : Mu28.Call), vs = [.ref a, .int z, .ref la] ∧ PanOk C H a k c (some s) ∧ LL H la (Ls.map ni) ∧ (∀ l ∈ Ls, l.length ≤ 60) ∧ rowCall z Ls = some x ∧
  Gives C H a k c (some s) (Mu28.step (some s) x).2 Q
theorem rowCall_cases {z : Int} {Ls : List (List Nat)} {x : Mu28.Call} (h : rowCall z Ls = some x) : (∃ l, z = 6 ∧ Ls = [l] ∧ x = .try_ l) ∨ (∃ l m, z = 7 ∧ Ls = [l, m] ∧ x = .same l m) ∨ (∃ l, z = 8 ∧ Ls = [l] ∧ x = .round l) := by
  unfold rowCall at h
  split at h
  · exact .inl ⟨_, rfl, rfl, (Option.some.inj h).symm⟩
  · exact .inr (.inl ⟨_, _, rfl, rfl, (Option.some.inj h).symm⟩)
  · exact .inr (.inr ⟨_, rfl, rfl, (Option.some.inj h).symm⟩)
  · cases h
theorem Gives.one {H H' : Hp} {a k p : Addr} {c : Nat} {o : Mu28.Abs} {i : Int} {Q : VK} (h : Gives C H a k c o [i] Q) (hP : PanOk C H a k c o) (s : Same H H') (np : H' p = none) : Q (.ref p) (upd H' p (.lst [.int i])) :=
  h _ p (Fx.of (same_upd s np)) (hP.same (same_upd s np)).more (s.free np) upd_same (by show 1 ≤ 100; decide)
theorem LL.same2 {H H' : Hp} {la : Addr} {Ls : List (List Nat)} (h : LL H la (Ls.map ni)) (s : Same H H') {i : Nat} {l : List Nat} (e : Ls[i]? = some l) : ∃ (xs : List V) (r : Addr), H' la = some (.lst xs) ∧ xs[i]? = some (V.ref r) ∧ H' r = some (.lst (vi (ni l))) :=
  (h.same s).get (by rw [List.getElem?_map, e]; rfl)
theorem ok_rows {f : Addr} {fd : FuncData} (F : Fun K "asked_by_rows" "asked_by_rows" stRows f fd) (T : Bi mg) (N : Pn K mg C) (gR : IsG mg "REFUSED" (-1)) (g6 : IsG mg "TRY" 6) (g7 : IsG mg "SAME" 7)
    (Fi : Df P w K mg base "fits" 1 ["row", "stack"] spFits) (Tr : Df P w K mg base "tried" 3 ["pan", "row"] (spTried C)) (Al : Df P w K mg base "alike" 3 ["pan", "one", "other"] (spAlike C)) (Ro : Df P w K mg base "rounds_of" 3 ["stack", "row", "sides"] spRounds) :
    FnOk P w K mg base CX0 4 f fd ["pan", "call", "rows"] (spRows C) := by
  refine F.ok scRows (fun vs H Q E h => ?_) (fun cdv A outer s H vs Q E hr h => ?_)
  · obtain ⟨a, k, la, c, s, z, Ls, x, rfl, _⟩ := h
    rfl
  · obtain ⟨a, k, la, c, s, z, Ls, x, rfl, hP, hL, hl, hx, hq⟩ := h
    refine ⟨_, pss_cons (ps_if (pt_not (pt_val (pe_callB (cr_all rfl) (by rfl) T.all (by decide +kernel) (pa_cons
        (pe_lc (own := [("row", 3)]) (g := gName 3) (tt := tYes) (te := tCall spFits [] E0 (tCons (tVar 3) (tCons (tFld K (tVar 0) "stack") tNil))) rfl scRows.nd (pi_list (pv 2)) (blkOk_by (N := ["pan", "call", "rows", "row"]) (sc := defScope stRows) (by decide +kernel))
          (fun _ _ _ _ _ => pg_name (i := 3) scRows.nd rfl (Or.inl rfl)) (fun _ _ _ _ _ => pts_nil) (fun _ _ _ _ _ => pe_df Fi (by rfl) (hr.mono (by decide)) (pa_cons (pv 3) (pa_cons (pe_fld (pv 0) rfl) pa_nil)))) pa_nil)))) (pss_one (ps_ret (pe_lst (pa_cons (pe_gi gR (by rfl)) pa_nil)))) pss_nil)
      (pss_cons (ps_if (pt_cmpR op_eq (pv 1) (pe_gi g6 (by rfl)) (nomark _)) (pss_one (ps_ret (pe_df Tr (by rfl) hr (pa_cons (pv 0) (pa_cons (pe_ix ix_list (pv 2) pe_int (fun _ _ => rfl)) pa_nil))))) pss_nil)
      (pss_cons (ps_if (pt_cmpR op_eq (pv 1) (pe_gi g7 (by rfl)) (nomark _)) (pss_one (ps_ret (pe_lst (pa_cons (pe_df Al (by rfl) hr (pa_cons (pv 0) (pa_cons (pe_ix ix_list (pv 2) pe_int (fun _ _ => rfl)) (pa_cons (pe_ix ix_list (pv 2) pe_int (fun _ _ => rfl)) pa_nil)))) pa_nil)))) pss_nil)
      (pss_one (ps_ret (pe_lst (pa_cons (pe_df Ro (by rfl) hr (pa_cons (pe_fld (pv 0) rfl) (pa_cons (pe_ix ix_list (pv 2) pe_int (fun _ _ => rfl)) (pa_cons (pe_fld (pv 0) rfl) pa_nil)))) pa_nil)))))), ?_⟩
    obtain ⟨dx, t, kvs, h1, h2, h4, h5, h6, hz, ho⟩ := hP.some_
    have hn := sz_le hz
    obtain ⟨rs, hr1, hr2⟩ := id hL
    have hlen : rs.length = Ls.length := by
      have := Paired.length hr2
      rw [List.length_map] at this
      exact this
    have hfew : Ls.length ≤ 2 := by
      rcases rowCall_cases hx with ⟨l, _, e, _⟩ | ⟨l, m, _, e, _⟩ | ⟨l, _, e, _⟩ <;> rw [e] <;> simp
    -- if not all([fits(row, pan.stack) for row in rows])
    refine ⟨_, rfl, la, rfl, ⟨_, SqL.of hr1⟩, fun D nD => lc_list (K := K) (a := la) (xs := rs.map V.ref) (fun i H' => Same H H' ∧ H' D = some (.lst (((Ls.take i).map (Mu28.fine s.stack.length)).map V.bl))) ⟨same_new nD, upd_same⟩ (fun i H' _ q => SqL.of (q.1 _ _ hr1)) ?_ ?_⟩
    · rintro i y H' hy ⟨s1, g1⟩
      obtain ⟨r, er, rfl⟩ := refs_get hy
      obtain ⟨l', el', hrl⟩ := paired_get2 hr2 er
      obtain ⟨l, el⟩ : ∃ l, Ls[i]? = some l := by
        rw [List.getElem?_map] at el'
        cases e : Ls[i]? with
        | none => rw [e] at el'; cases el'
        | some l => exact ⟨l, rfl⟩
      rw [List.getElem?_map, el] at el'
      have ee : ni l = l' := Option.some.inj el'
      subst ee
      have hll := hl l (List.mem_of_getElem? el)
      refine ⟨rfl, ?_⟩
      refine ⟨_, rfl, _, rfl, a, C, dx, _, _, rfl, s1 _ _ h1, N.cl, N.nT, pF_stack, r, t, l, s.stack, rfl, s1 _ _ hrl, by omega, s1 _ _ h2, by omega, fun H2 s2 => ⟨_, s2 _ _ g1, ?_, ?_⟩⟩
      · rw [List.length_map, List.length_map, List.length_take]
        exact small1000 (by omega)
      · refine ⟨same_set (s1.trans s2) nD, ?_⟩
        rw [upd_same, take_snoc el, List.map_append, List.map_append]
        rfl
    rintro H1 ⟨s1, g1⟩
    rw [List.length_map, hlen, List.take_length] at g1
    refine ⟨D, _, rfl, SqL.of g1, _, rfl, ?_⟩
    have hx' := rowCall_cases hx
    cases ef : (Ls.map (Mu28.fine s.stack.length)).all id with
    | false =>
      -- refused
      refine iteT ⟨(by show 1 ≤ sizeLine; decide), fun p np => ?_⟩
      have ea : (Mu28.step (some s) x).2 = [-1] := by
        rcases hx' with ⟨l, _, e, rfl⟩ | ⟨l, m, _, e, rfl⟩ | ⟨l, _, e, rfl⟩
        · rw [e] at ef
          have q : Mu28.fine s.stack.length l = false := by simpa using ef
          show (if Mu28.fine s.stack.length l = false then [-1] else _) = _
          rw [if_pos q]
        · rw [e] at ef
          have q : Mu28.fine s.stack.length l = false ∨ Mu28.fine s.stack.length m = false := by
            cases c1 : Mu28.fine s.stack.length l
            · exact .inl rfl
            · refine .inr ?_
              simpa [c1] using ef
          show (if Mu28.fine s.stack.length l = false ∨ Mu28.fine s.stack.length m = false then [-1] else _) = _
          rw [if_pos q]
        · rw [e] at ef
          have q : Mu28.fine s.stack.length l = false := by simpa using ef
          show (if Mu28.fine s.stack.length l = false then [-1] else _) = _
          rw [if_pos q]
      rw [ea] at hq
      exact hq.one hP s1 np
    | true =>
      refine iteF ⟨_, rfl, rfl, _, rfl, ?_⟩
      rw [dec_int]
      rcases hx' with ⟨l, rfl, rfl, rfl⟩ | ⟨l, m, rfl, rfl, rfl⟩ | ⟨l, rfl, rfl, rfl⟩
      · have q : Mu28.fine s.stack.length l = true := by simpa using ef
        have ea : (Mu28.step (some s) (.try_ l)).2 = ((Mu28.gaps s.burnt (Mu28.flips s.burnt l s.stack) : Nat) : Int) :: Mu28.flips s.burnt l s.stack := by
          show (if Mu28.fine s.stack.length l = false then [-1] else _) = _
          rw [if_neg (by rw [q]; exact fun z => nomatch z)]
        rw [ea] at hq
        obtain ⟨xs, r, b1, b2, b3⟩ := hL.same2 s1 (i := 0) rfl
        refine iteT ⟨_, rfl, _, rfl, la, _, _, _, rfl, rfl, SqL.of b1, at_of (j := 0) rfl b2, a, k, r, c, s, l, rfl, hP.same s1, b3, fun H2 p f2 hP2 np hp hlen => ?_⟩
        exact hq H2 p (fun c o e n => f2 c o (s1 _ _ e) n) hP2 (s1.free np) hp hlen
      · have q : Mu28.fine s.stack.length l = true ∧ Mu28.fine s.stack.length m = true := by simpa using ef
        have ea : (Mu28.step (some s) (.same l m)).2 = [if Mu28.flips s.burnt l s.stack = Mu28.flips s.burnt m s.stack then 1 else 0] := by
          show (if Mu28.fine s.stack.length l = false ∨ Mu28.fine s.stack.length m = false then [-1] else _) = _
          rw [if_neg (by rw [q.1, q.2]; exact fun z => by rcases z with z | z <;> cases z)]
        rw [ea] at hq
        obtain ⟨xs, r, b1, b2, b3⟩ := hL.same2 s1 (i := 0) rfl
        obtain ⟨xs', r', b1', b2', b3'⟩ := hL.same2 s1 (i := 1) rfl
        refine if_n rfl ⟨_, rfl, rfl, _, rfl, iteT ⟨_, rfl, _, rfl, la, _, _, _, rfl, rfl, SqL.of b1, at_of (j := 0) rfl b2, _, rfl, la, _, _, _, rfl, rfl, SqL.of b1', at_of (j := 1) rfl b2', a, k, r, r', c, s, l, m, rfl, hP.same s1, b3, b3', fun H2 s2 => ⟨(by show 1 ≤ sizeLine; decide), fun p np => ?_⟩⟩⟩
        exact hq.one hP (s1.trans s2) np
      · have q : Mu28.fine s.stack.length l = true := by simpa using ef
        have ea : (Mu28.step (some s) (.round l)).2 = [roundsI s.burnt l s.stack] := by
          show (if Mu28.fine s.stack.length l = false then [-1] else match Mu28.rounds s.burnt l s.stack 100 0 s.stack with
            | some n => [(n : Int)]
            | none => [-6]) = _
          rw [if_neg (by rw [q]; exact fun z => nomatch z)]
          unfold roundsI
          cases Mu28.rounds s.burnt l s.stack 100 0 s.stack <;> rfl
        rw [ea] at hq
        obtain ⟨xs, r, b1, b2, b3⟩ := hL.same2 s1 (i := 0) rfl
        refine if_n rfl ⟨_, rfl, rfl, _, rfl, if_n rfl ⟨_, rfl, a, C, dx, _, _, rfl, s1 _ _ h1, N.cl, N.nT, pF_stack, _, rfl, la, _, _, _, rfl, rfl, SqL.of b1, at_of (j := 0) rfl b2, _, rfl, a, C, dx, _, _, rfl, s1 _ _ h1, N.cl, N.nS, pF_sides, t, r, s.stack, l, s.burnt, rfl, s1 _ _ h2, by omega, b3, fun H2 s2 => ⟨(by show 1 ≤ sizeLine; decide), fun p np => ?_⟩⟩⟩
        exact hq.one hP (s1.trans s2) np
/-! ### is_small -/
abbrev stSmall : Stmt := top 52
theorem scSmall : FnScope ["sides", "many"] ["sides", "many"] (defScope stSmall) := ⟨rfl, rfl, rfl, by decide +kernel, rfl, by decide +kernel, by decide +kernel⟩
def spSmall : Sp := fun vs H Q _ => ∃ x y : Nat, vs = [.int x, .int y] ∧ Q (.bl (Mu28.small x y)) H
theorem ok_small {f : Addr} {fd : FuncData} (F : Fun K "is_small" "is_small" stSmall f fd) (g5 : IsG mg "MOST_ALL_PLAIN" 5) (g3 : IsG mg "MOST_ALL_SIDED" 3) : FnOk P w K mg base CX0 1 f fd ["sides", "many"] spSmall := by
  refine F.ok scSmall (fun vs H Q E h => ?_) (fun cdv A outer s H vs Q E hr h => ?_)
  · obtain ⟨x, y, rfl, _⟩ := h
    rfl
  · obtain ⟨x, y, rfl, hq⟩ := h
    refine ⟨_, pss_cons (ps_if (pt_cmpR op_eq (pv 0) pe_int (nomark _)) (pss_one (ps_ret (pe_chain op_le op_le pe_int (pv 1) (pe_gi g5 (by rfl))))) pss_nil)
      (pss_one (ps_ret (pe_and (pe_cmpR op_eq (pv 0) pe_int (nomark _)) (pe_one (pe_chain op_le op_le pe_int (pv 1) (pe_gi g3 (by rfl))))))), ?_⟩
    refine ⟨_, rfl, rfl, _, rfl, ?_⟩
    rw [dec_int]
    unfold Mu28.small at hq
    by_cases c0 : x = 0
    · subst c0
      refine if_y (beq_iff_eq.mpr rfl) ⟨_, rfl, _, _, rfl, rfl, _, rfl, ?_⟩
      by_cases c1 : 1 ≤ y
      · refine if_y (decide_eq_true (by omega)) ⟨_, _, rfl, rfl, ?_⟩
        rw [decide_eq_true c1, Bool.true_and] at hq
        have e : decide ((y : Int) ≤ 5) = (decide (0 ≤ 1) && decide (y ≤ if 0 = 1 then 3 else 5)) := (decide_eq_decide.mpr ⟨fun h => by omega, fun h => by omega⟩ : decide ((y : Int) ≤ 5) = decide (y ≤ 5)).trans (Bool.true_and _).symm
        rw [← e] at hq
        exact hq
      · refine if_n (decide_eq_false (by omega)) ?_
        rw [decide_eq_false c1, Bool.false_and, Bool.and_false] at hq
        exact hq
    · refine if_n (beq_eq_false_iff_ne.mpr (by omega)) ⟨_, rfl, rfl, _, rfl, ?_⟩
      rw [dec_int]
      by_cases c1 : x = 1
      · subst c1
        refine if_y (beq_iff_eq.mpr rfl) ⟨_, rfl, _, _, rfl, rfl, _, rfl, ?_⟩
        by_cases c2 : 1 ≤ y
        · refine if_y (decide_eq_true (by omega)) ⟨_, _, rfl, rfl, ?_⟩
          rw [decide_eq_true c2, Bool.true_and] at hq
          have e : decide ((y : Int) ≤ 3) = (decide (1 ≤ 1) && decide (y ≤ if 1 = 1 then 3 else 5)) := (decide_eq_decide.mpr ⟨fun h => by omega, fun h => by omega⟩ : decide ((y : Int) ≤ 3) = decide (y ≤ 3)).trans (Bool.true_and _).symm
          rw [← e] at hq
          exact hq
        · refine if_n (decide_eq_false (by omega)) ?_
          rw [decide_eq_false c2, Bool.false_and, Bool.and_false] at hq
          exact hq
      · refine if_n (beq_eq_false_iff_ne.mpr (by omega)) ?_
        rw [decide_eq_false (show ¬ x ≤ 1 by omega), Bool.false_and] at hq
        exact hq

/-! ### asked_of_all -/
abbrev stAll : Stmt := top 53
theorem scAll : FnScope ["pan", "call", "sides", "many", "far", "stack"] ["pan", "call", "sides", "many"] (defScope stAll) := ⟨rfl, rfl, rfl, by decide +kernel, rfl, by decide +kernel, by decide +kernel⟩
/-- tally, or worst -/
def allCall (z : Int) (x y : Nat) : Mu28.Call := if z = 9 then .tally x y else .worst x y
def spAll (C : Addr) : Sp := fun vs H Q _ => ∃ (a k : Addr) (c : Nat) (o : Mu28.Abs) (z : Int) (x y : Nat), vs = [.ref a, .int z, .int x, .int y] ∧ PanOk C H a k c o ∧ c ≤ 1000 ∧ Gives C H a k c o (Mu28.step o (allCall z x y)).2 Q
theorem small_is {x y : Nat} (h : Mu28.small x y = true) : ∃ b : Bool, (x : Int) = bI b ∧ (x == 1) = b ∧ Pk.Sz b y := by
  unfold Mu28.small at h
  rw [Bool.and_eq_true, Bool.and_eq_true, decide_eq_true_iff, decide_eq_true_iff, decide_eq_true_iff] at h
  obtain ⟨h1, h2, h3⟩ := h
  by_cases c : x = 1
  · subst c
    refine ⟨true, rfl, rfl, h2, ?_⟩
    have h4 : y ≤ 3 := h3
    show y ≤ 6
    omega
  · have e : x = 0 := by omega
    subst e
    refine ⟨false, rfl, rfl, h2, ?_⟩
    have h4 : y ≤ 5 := h3
    show y ≤ 8
    omega
theorem ok_all {f : Addr} {fd : FuncData} (F : Fun K "asked_of_all" "asked_of_all" stAll f fd) (T : Bi mg) (N : Pn K mg C) (gR : IsG mg "REFUSED" (-1)) (g9 : IsG mg "TALLY" 9) (S : Df P w K mg base "is_small" 1 ["sides", "many"] spSmall) (M : Md P w K mg base C "far_for" 4 ["self", "many", "sides"] (spFF C))
    (Cn : Df P w K mg base "counts_of" 1 ["far"] spCnt) (Wo : Df P w K mg base "first_worst" 2 ["far"] spWorst) : FnOk P w K mg base CX0 5 f fd ["pan", "call", "sides", "many"] (spAll C) := by
  refine F.ok scAll (fun vs H Q E h => ?_) (fun cdv A outer s H vs Q E hr h => ?_)
  · obtain ⟨a, k, c, o, z, x, y, rfl, _⟩ := h
    rfl
  · obtain ⟨a, k, c, o, z, x, y, rfl, hP, hc, hq⟩ := h
    have hu := hu_of hr
    refine ⟨_, pss_cons (ps_if (pt_not (pt_val (pe_df S (by rfl) (hr.mono (by decide)) (pa_cons (pv 2) (pa_cons (pv 3) pa_nil))))) (pss_one (ps_ret (pe_lst (pa_cons (pe_gi gR (by rfl)) pa_nil)))) pss_nil)
      (pss_cons (ps_set (i := 4) scAll.nd rfl (Or.inl rfl) (pe_md M (pv 0) N.cl hr (pa_cons (pv 3) (pa_cons (pv 2) pa_nil))))
      (pss_cons (ps_if (pt_cmpR op_eq (pv 1) (pe_gi g9 (by rfl)) (nomark _)) (pss_one (ps_ret (pe_df Cn (by rfl) (hr.mono (by decide)) (pa_cons (pv 4) pa_nil)))) pss_nil)
      (pss_cons (ps_set (i := 5) scAll.nd rfl (Or.inl rfl) (pe_df Wo (by rfl) (hr.mono (by decide)) (pa_cons (pv 4) pa_nil)))
      (pss_one (ps_ret (pe_op op_cat (pe_lst (pa_cons (pe_dget hu (pv 4) (pv 5) (fun _ _ => rfl)) pa_nil)) (pe_callTy call_list_of (by rfl) T.list (by decide +kernel) (pa_cons (pv 5) pa_nil)))))))), ?_⟩
    refine ⟨_, rfl, _, rfl, x, y, rfl, _, rfl, ?_⟩
    cases es : Mu28.small x y with
    | false =>
      have ea : (Mu28.step o (allCall z x y)).2 = [-1] := by
        unfold allCall
        by_cases c9 : z = 9
        · rw [if_pos c9]
          show (if Mu28.small x y = false then [-1] else _) = _
          rw [if_pos es]
        · rw [if_neg c9]
          show (if Mu28.small x y = false then [-1] else _) = _
          rw [if_pos es]
      rw [ea] at hq
      exact iteT ⟨(by show 1 ≤ sizeLine; decide), fun p np => hq.one hP (Same.refl H) np⟩
    | true =>
      obtain ⟨b, ex, eb, hz⟩ := small_is es
      have hn := sz_le hz
      obtain ⟨dx, t, st, b0, fl, kvs, h1, h2, h3, h4, h5, h6⟩ := hP.ex
      refine iteF ⟨_, rfl, a, dx, _, rfl, h1, pF_farfor, _, rfl, _, rfl, a, k, c, y, b, o, by rw [ex]; rfl, hP, hc, hz, fun H2 fa F2 f2 hP2 hf2 hO2 => ?_⟩
      refine ⟨_, rfl, rfl, _, rfl, ?_⟩
      rw [dec_int]
      by_cases c9 : z = 9
      · refine if_y (beq_iff_eq.mpr c9) ⟨_, rfl, fa, F2, y, b, rfl, hf2, hO2, hz, fun H3 p m s3 np ht hm hp => ?_⟩
        have ea : (Mu28.step o (allCall z x y)).2 = Pk.cntL m (F2.map (·.2)) := by
          unfold allCall
          rw [if_pos c9]
          show (if Mu28.small x y = false then [-1] else Mu28.nums (Mu28.tally (x == 1) y)) = _
          rw [if_neg (by rw [es]; exact fun z => nomatch z), eb, Pk.tally_far hO2 hz ht]
        rw [ea] at hq
        exact hq H3 p (f2.same s3) (hP2.same s3) (f2.free hP2.there np) hp (by rw [Pk.cntL_length]; omega)
      · refine if_n (beq_eq_false_iff_ne.mpr c9) ⟨_, rfl, fa, F2, y, b, rfl, hf2, hO2, hz, fun H3 u st' m s3 ht hin hmin hu3 => ?_⟩
        have ea : (Mu28.step o (allCall z x y)).2 = (m : Int) :: st' := by
          unfold allCall
          rw [if_neg c9]
          show (if Mu28.small x y = false then [-1] else
            match (Mu28.all (x == 1) y).find? fun (s : Mu28.Stack) => Mu28.needs (x == 1) s == (Mu28.tally (x == 1) y).length - 1 with
            | some s => (((Mu28.tally (x == 1) y).length - 1 : Nat) : Int) :: s
            | none => [-1]) = _
          rw [if_neg (by rw [es]; exact fun z => nomatch z), eb, Pk.tally_length hO2 hz ht]
          have w := Pk.worst_far hO2 hz hin hmin
          rw [w]
        rw [ea] at hq
        have hst := (hO2.ok _ hin).1.length
        have hst8 : st'.length ≤ 8 := by
          have e : st'.length = y := hst
          omega
        have hf3 := s3 _ _ hf2
        have g := DGet.t hf3 (tupk hu3)
        rw [enc_at hO2.nodup hin] at g
        refine ⟨_, rfl, _, rfl, fa, _, rfl, g, (by show 1 ≤ sizeLine; decide), fun p np => ?_⟩
        have s4 := same_new (o := .lst [V.int (m : Nat)]) np
        refine ⟨_, rfl, u, _, rfl, .inr (SqT.of (s4 _ _ hu3)), fun q nq => ?_⟩
        have s5 := same_upd (o := .lst (vi st')) s4 nq
        refine ⟨p, q, [V.int (m : Nat)], vi st', rfl, rfl, by rw [upd_ne (ne_of_none upd_same nq)]; exact upd_same, upd_same, by rw [vi_length]; exact fits_line (m := 100) (by show 1 + st'.length ≤ 100; omega), fun r nr => ?_⟩
        have s6 := same_upd (o := .lst ([V.int (m : Nat)] ++ vi st')) s5 nr
        have s36 := s3.trans s6
        refine hq _ r (f2.same s36) (hP2.same s36) (f2.free hP2.there ((s3.trans s5).free nr)) upd_same ?_
        rw [List.length_cons]
        omega

/-! ### begun -/
abbrev stBegun : Stmt := top 42
theorem scBegun : FnScope ["pan", "sides", "sizes"] ["pan", "sides", "sizes"] (defScope stBegun) := ⟨rfl, rfl, rfl, by decide +kernel, rfl, by decide +kernel, by decide +kernel⟩
def spBegun (C : Addr) : Sp := fun vs H Q _ => ∃ (a k sa : Addr) (c : Nat) (o : Mu28.Abs) (x : Nat) (st : List Int), vs = [.ref a, .int x, .ref sa] ∧ PanOk C H a k c o ∧ H sa = some (.lst (vi st)) ∧ st.length ≤ 60 ∧
  ∀ H' p, Fx [a, k] H H' → PanOk C H' a k (c + 1) (Mu28.step o (.begin_ x st)).1 → H p = none → H' p = some (.lst (vi (Mu28.step o (.begin_ x st)).2)) → (Mu28.step o (.begin_ x st)).2.length ≤ 100 → Q (.ref p) H'
theorem ok_begun {f : Addr} {fd : FuncData} (F : Fun K "begun" "begun" stBegun f fd) (T : Bi mg) (N : Pn K mg C) (gR : IsG mg "REFUSED" (-1)) (I : Df P w K mg base "is_stack" 1 ["sizes", "sides"] spIs) (L : Md P w K mg base C "lay" 1 ["self", "stack", "sides"] (spLay C)) :
    FnOk P w K mg base CX0 2 f fd ["pan", "sides", "sizes"] (spBegun C) := by
  refine F.ok scBegun (fun vs H Q E h => ?_) (fun cdv A outer s H vs Q E hr h => ?_)
  · obtain ⟨a, k, sa, c, o, x, st, rfl, _⟩ := h
    rfl
  · obtain ⟨a, k, sa, c, o, x, st, rfl, hP, hS, hl, hq⟩ := h
    refine ⟨_, pss_cons (ps_if (PW.pt (pw_or (pt_cmpR op_gt (pv 1) pe_int (nomark _)) (pw_or1 (pt_not (pt_val (pe_df I (by rfl) hr (pa_cons (pv 2) (pa_cons (pv 1) pa_nil)))))))) (pss_one (ps_ret (pe_lst (pa_cons (pe_gi gR (by rfl)) pa_nil)))) pss_nil)
      (pss_cons (ps_expr (pe_md L (pv 0) N.cl hr (pa_cons (pe_callTy call_tuple_of (by rfl) T.tuple (by decide +kernel) (pa_cons (pv 2) pa_nil)) (pa_cons (pv 1) pa_nil))))
      (pss_one (ps_ret (pe_lst (pa_cons pe_int pa_nil))))), ?_⟩
    have est : Mu28.step o (.begin_ x st) = if 1 < x ∨ Mu28.isStack (x == 1) st = false then (o, [-1]) else (some ⟨x == 1, st, 0⟩, [0]) := by
      cases o <;> rfl
    have no : (1 < x ∨ Mu28.isStack (x == 1) st = false) → Gives C H a k c o [-1] Q := fun h => by
      rw [est, if_pos h] at hq
      exact hq
    refine ⟨_, rfl, _, _, rfl, rfl, _, rfl, ?_⟩
    by_cases c1 : 1 < x
    · refine if_y (decide_eq_true (by omega)) (iteT ⟨(by show 1 ≤ sizeLine; decide), fun p np => (no (.inl c1)).one hP (Same.refl H) np⟩)
    have exb : (x : Int) = bI (x == 1) := by
      have e : x = 0 ∨ x = 1 := by omega
      rcases e with rfl | rfl <;> rfl
    refine if_n (decide_eq_false (by omega)) ⟨_, rfl, _, rfl, sa, st, x == 1, by rw [exb]; rfl, hS, hl, fun H1 s1 => ⟨_, rfl, ?_⟩⟩
    cases e : Mu28.isStack (x == 1) st with
    | false => exact iteT ⟨(by show 1 ≤ sizeLine; decide), fun p np => (no (.inr e)).one hP s1 np⟩
    | true =>
      rw [est, if_neg (by rw [e]; intro w; rcases w with w | w; exact c1 w; cases w)] at hq
      obtain ⟨dx, t, st0, b0, fl, kvs, h1, h2, h3, h4, h5, h6⟩ := hP.ex
      refine iteF ⟨_, rfl, a, dx, _, rfl, s1 _ _ h1, pF_lay, _, rfl, sa, _, rfl, .inl ⟨SqL.of (s1 _ _ hS), fun t2 nt => ?_⟩⟩
      have s2 := same_upd (o := .tup (vi st)) s1 nt
      have at2 : upd H1 t2 (.tup (vi st)) t2 = some (.tup (vi st)) := upd_same
      obtain ⟨H2, e2⟩ : ∃ H2, H2 = upd H1 t2 (.tup (vi st)) := ⟨_, rfl⟩
      rw [← e2] at s2 at2 ⊢
      refine ⟨_, rfl, a, dx, .ref t, .ref k, .ref t2, bI b0, (fl : Int), (x : Int), rfl, s2 _ _ h1, ?_⟩
      refine ⟨(by show 1 ≤ sizeLine; decide), fun p np => ?_⟩
      have hP0 := hP.same s2
      obtain ⟨z, ok⟩ := Pk.isStack_iff.mp e
      have dak : a ≠ k := ne_of h1 h4 (fun z => nomatch z)
      have kp : ∀ c o, c ≠ a → H2 c = some o → upd (upd H2 a (.ins C dx (pF (.ref t2) (x : Int) 0 (.ref k)))) p (.lst [.int 0]) c = some o := fun c o n ec => by
        have q : upd H2 a (.ins C dx (pF (.ref t2) (x : Int) 0 (.ref k))) c = some o := by
          rw [upd_ne n]
          exact ec
        rw [upd_ne (ne_of_none q np)]
        exact q
      have ha3 : upd (upd H2 a (.ins C dx (pF (.ref t2) (x : Int) 0 (.ref k)))) p (.lst [.int 0]) a = some (.ins C dx (pF (.ref t2) (x : Int) 0 (.ref k))) := by
        rw [upd_ne (ne_of_none upd_same np)]
        exact upd_same
      have npH : H p = none := by
        refine s2.free ?_
        by_cases w : p = a
        · rw [w, upd_same] at np
          cases np
        · rw [upd_ne w] at np
          exact np
      refine hq _ p (fun c o ec n => kp c o (fun w => n (by rw [w]; exact List.mem_cons_self ..)) (s2 _ _ ec)) ?_ npH upd_same (by show 1 ≤ 100; decide)
      refine ⟨dx, t2, st, x == 1, 0, kvs, ?_, kp _ _ (ne_of at2 (s2 _ _ h1) (fun z => nomatch z)) at2, ⟨rfl, z, ok⟩, kp _ _ (Ne.symm dak) (s2 _ _ h4), by omega, fun key v ev => ?_⟩
      · rw [ha3, ← exb]
        rfl
      · obtain ⟨n, b, fa, F, q1, q2, q3, q4⟩ := h6 key v ev
        exact ⟨n, b, fa, F, q1, q2, kp _ _ (ne_of q3 h1 (fun z => nomatch z)) (s2 _ _ q3), q4⟩

/-! ### flipped_now -/
abbrev stFN : Stmt := top 43
theorem scFN : FnScope ["pan", "flip"] ["pan", "flip"] (defScope stFN) := ⟨rfl, rfl, rfl, by decide +kernel, rfl, by decide +kernel, by decide +kernel⟩
def spFN (C : Addr) : Sp := fun vs H Q _ => ∃ (a k : Addr) (c : Nat) (s : Mu28.State) (j : Nat), vs = [.ref a, .int j] ∧ PanOk C H a k c (some s) ∧
  ∀ H' p, Fx [a, k] H H' → PanOk C H' a k (c + 1) (Mu28.step (some s) (.flip j)).1 → H p = none → H' p = some (.lst (vi (Mu28.step (some s) (.flip j)).2)) → (Mu28.step (some s) (.flip j)).2.length ≤ 100 → Q (.ref p) H'
theorem ok_fn {f : Addr} {fd : FuncData} (F : Fun K "flipped_now" "flipped_now" stFN f fd) (T : Bi mg) (N : Pn K mg C) (gR : IsG mg "REFUSED" (-1)) (M : Md P w K mg base C "turn" 2 ["self", "flip"] (spTurn C)) (G : Df P w K mg base "gaps_in" 2 ["stack", "sides"] spGaps) :
    FnOk P w K mg base CX0 3 f fd ["pan", "flip"] (spFN C) := by
  refine F.ok scFN (fun vs H Q E h => ?_) (fun cdv A outer s H vs Q E hr h => ?_)
  · obtain ⟨a, k, c, s, j, rfl, _⟩ := h
    rfl
  · obtain ⟨a, k, c, s, j, rfl, hP, hq⟩ := h
    refine ⟨_, pss_cons (ps_if (pt_cmpR op_gt (pv 1) (pe_callB call_len_seq (by rfl) T.len PySem.boot_len (pa_cons (pe_fld (pv 0) rfl) pa_nil)) (nomark _)) (pss_one (ps_ret (pe_lst (pa_cons (pe_gi gR (by rfl)) pa_nil)))) pss_nil)
      (pss_cons (ps_expr (pe_md M (pv 0) N.cl hr (pa_cons (pv 1) pa_nil)))
      (pss_one (ps_ret (pe_lst (pa_cons (pe_df G (by rfl) hr (pa_cons (pe_fld (pv 0) rfl) (pa_cons (pe_fld (pv 0) rfl) pa_nil))) pa_nil))))), ?_⟩
    obtain ⟨dx, t, kvs, h1, h2, h4, h5, h6, hz, ho⟩ := hP.some_
    have hn := sz_le hz
    have est : Mu28.step (some s) (.flip j) = if s.stack.length < j then (some s, [-1]) else (some { s with stack := Mu28.flip s.burnt j s.stack, done_ := s.done_ + 1 }, [((Mu28.gaps s.burnt (Mu28.flip s.burnt j s.stack) : Nat) : Int)]) := rfl
    refine ⟨_, rfl, _, rfl, a, C, dx, _, _, rfl, h1, N.cl, N.nT, pF_stack, t, _, rfl, .inr (SqT.of h2), _, _, rfl, rfl, _, rfl, ?_⟩
    rw [vi_length]
    by_cases c1 : s.stack.length < j
    · rw [est, if_pos c1] at hq
      refine if_y (decide_eq_true (by omega)) ⟨(by show 1 ≤ sizeLine; decide), fun p np => ?_⟩
      exact Gives.one (C := C) (o := some s) hq hP (Same.refl H) np
    · rw [est, if_neg c1] at hq
      refine if_n (decide_eq_false (by omega)) ⟨_, rfl, a, dx, _, rfl, h1, pF_turn, _, rfl, a, dx, t, .ref k, s.stack, s.burnt, s.done_, j, rfl, h1, h2, by omega, fun H2 t2 f2 ha2 ht2 => ?_⟩
      have flen := Pk.flip_length s.burnt j s.stack
      have dak : a ≠ k := ne_of h1 h4 (fun z => nomatch z)
      refine ⟨_, rfl, a, C, dx, _, _, rfl, ha2, N.cl, N.nT, pF_stack, _, rfl, a, C, dx, _, _, rfl, ha2, N.cl, N.nS, pF_sides, t2, _, s.burnt, rfl, ht2, by omega, by omega, fun H3 s3 => ⟨(by show 1 ≤ sizeLine; decide), fun p np => ?_⟩⟩
      have s4 := same_upd (o := .lst [V.int (Mu28.gaps s.burnt (Mu28.flip s.burnt j s.stack) : Nat)]) s3 np
      have keep : ∀ c o, c ≠ a → H c = some o → upd H3 p (.lst [V.int (Mu28.gaps s.burnt (Mu28.flip s.burnt j s.stack) : Nat)]) c = some o := fun c o n ec => s4 _ _ (f2 c o ec fun w => n (List.mem_singleton.mp w))
      have npH : H p = none := by
        refine f2.free (fun x hx => ?_) (s3.free np)
        rw [List.mem_singleton] at hx
        rw [hx]
        exact ⟨_, ha2⟩
      refine hq _ p (fun c o ec n => keep c o (fun w => n (by rw [w]; exact List.mem_cons_self ..)) ec) ?_ npH upd_same (by show 1 ≤ 100; decide)
      refine ⟨dx, t2, Mu28.flip s.burnt j s.stack, s.burnt, s.done_ + 1, kvs, s4 _ _ ha2, s4 _ _ ht2, ⟨rfl, ?_, ?_⟩, keep _ _ (Ne.symm dak) h4, by omega, fun key v ev => ?_⟩
      · rw [flen]
        exact hz
      · rw [flen]
        exact ho.flip j
      · obtain ⟨n, b, fa, F, q1, q2, q3, q4⟩ := h6 key v ev
        exact ⟨n, b, fa, F, q1, q2, keep _ _ (ne_of q3 h1 (fun z => nomatch z)) q3, q4⟩
end
end Pw
/-! The walk, part 7: the dispatch, the reading, all calls. -/
namespace Pw
open PySem PySem.Spec PyProof.Rows L2
section
variable {P : Program} {w : World} {K : PySem.W.Frag} {mg : Str → Option Value} {base : Heap} {C : Addr}
/-! ### answer -/
abbrev stAns : Stmt := top 54
theorem scAns : FnScope ["pan", "call", "numbers", "lists"] ["pan", "call", "numbers", "lists"] (defScope stAns) := ⟨rfl, rfl, rfl, by decide +kernel, rfl, by decide +kernel, by decide +kernel⟩
def spAns (C : Addr) : Sp := fun vs H Q _ => ∃ (a k na la : Addr) (c : Nat) (o : Mu28.Abs) (z : Int) (nums : List Int) (Ls : List (List Int)), vs = [.ref a, .int z, .ref na, .ref la] ∧ PanOk C H a k c o ∧ c ≤ 1000 ∧ H na = some (.lst (vi nums)) ∧ LL H la Ls ∧ Pk.Form z nums Ls ∧
  ∀ H' p, Fx [a, k] H H' → PanOk C H' a k (c + 1) (Mu28Neutral.step o ((z :: nums) :: Ls)).1 → H p = none → H' p = some (.lst (vi (Mu28Neutral.step o ((z :: nums) :: Ls)).2)) → (Mu28Neutral.step o ((z :: nums) :: Ls)).2.length ≤ 100 → Q (.ref p) H'
theorem toNat_cast {x : Int} (h : 0 ≤ x) : ((x.toNat : Nat) : Int) = x := by omega
theorem none_step (x : Mu28.Call) (h1 : ∀ b n, x ≠ .tally b n) (h2 : ∀ b n, x ≠ .worst b n) (h3 : ∀ b s, x ≠ .begin_ b s) : Mu28.step none x = (none, [-9]) := by
  cases x <;> first | rfl | exact absurd rfl (h1 _ _) | exact absurd rfl (h2 _ _) | exact absurd rfl (h3 _ _)
theorem keeps_step (s : Mu28.State) (x : Mu28.Call) (h1 : ∀ b t, x ≠ .begin_ b t) (h2 : ∀ j, x ≠ .flip j) : (Mu28.step (some s) x).1 = some s := by
  cases x <;> first | rfl | exact absurd rfl (h1 _ _) | exact absurd rfl (h2 _)
theorem all_step (o : Mu28.Abs) (z : Int) (x y : Nat) : (Mu28.step o (allCall z x y)).1 = o := by
  unfold allCall
  split <;> cases o <;> rfl
theorem ok_ans {f : Addr} {fd : FuncData} (F : Fun K "answer" "answer" stAns f fd) (T : Bi mg) (N : Pn K mg C) (g0 : IsG mg "BEGIN" 0) (g9 : IsG mg "TALLY" 9) (g10 : IsG mg "WORST" 10) (gN : IsG mg "NO_STACK" (-9)) (g1 : IsG mg "FLIP" 1)
    (B : Df P w K mg base "begun" 2 ["pan", "sides", "sizes"] (spBegun C)) (A_ : Df P w K mg base "asked_of_all" 5 ["pan", "call", "sides", "many"] (spAll C)) (Fn : Df P w K mg base "flipped_now" 3 ["pan", "flip"] (spFN C))
    (R : Df P w K mg base "asked_by_rows" 4 ["pan", "call", "rows"] (spRows C)) (L : Df P w K mg base "asked_plainly" 7 ["pan", "call"] (spPlain C)) : FnOk P w K mg base CX0 8 f fd ["pan", "call", "numbers", "lists"] (spAns C) := by
  refine F.ok scAns (fun vs H Q E h => ?_) (fun cdv A outer s H vs Q E hr h => ?_)
  · obtain ⟨a, k, na, la, c, o, z, nums, Ls, rfl, _⟩ := h
    rfl
  · obtain ⟨a, k, na, la, c, o, z, nums, Ls, rfl, hP, hc, hN, hL, hf, hq⟩ := h
    refine ⟨_, pss_cons (ps_if (pt_cmpR op_eq (pv 1) (pe_gi g0 (by rfl)) (nomark _)) (pss_one (ps_ret (pe_df B (by rfl) (hr.mono (by decide)) (pa_cons (pv 0) (pa_cons (pe_ix ix_list (pv 2) pe_int (fun _ _ => rfl)) (pa_cons (pe_ix ix_list (pv 3) pe_int (fun _ _ => rfl)) pa_nil)))))) pss_nil)
      (pss_cons (ps_if (PW.pt (pw_or (pt_cmpR op_eq (pv 1) (pe_gi g9 (by rfl)) (nomark _)) (pw_or1 (pt_cmpR op_eq (pv 1) (pe_gi g10 (by rfl)) (nomark _))))) (pss_one (ps_ret (pe_df A_ (by rfl) (hr.mono (by decide)) (pa_cons (pv 0) (pa_cons (pv 1) (pa_cons (pe_ix ix_list (pv 2) pe_int (fun _ _ => rfl)) (pa_cons (pe_ix ix_list (pv 2) pe_int (fun _ _ => rfl)) pa_nil))))))) pss_nil)
      (pss_cons (ps_if (pt_cmpR (op_eqD hr.units) (pe_fld (pv 0) rfl) (pe_tup pa_nil) (nomark _)) (pss_one (ps_ret (pe_lst (pa_cons (pe_gi gN (by rfl)) pa_nil)))) pss_nil)
      (pss_cons (ps_if (pt_cmpR op_eq (pv 1) (pe_gi g1 (by rfl)) (nomark _)) (pss_one (ps_ret (pe_df Fn (by rfl) (hr.mono (by decide)) (pa_cons (pv 0) (pa_cons (pe_ix ix_list (pv 2) pe_int (fun _ _ => rfl)) pa_nil))))) pss_nil)
      (pss_cons (ps_if (pt_cmpR (op_neD hr.units) (pv 3) (pe_lst pa_nil) (nomark _)) (pss_one (ps_ret (pe_df R (by rfl) (hr.mono (by decide)) (pa_cons (pv 0) (pa_cons (pv 1) (pa_cons (pv 3) pa_nil)))))) pss_nil)
      (pss_one (ps_ret (pe_df L (by rfl) hr (pa_cons (pv 0) (pa_cons (pv 1) pa_nil))))))))), ?_⟩
    -- if call == BEGIN
    refine ⟨_, rfl, rfl, _, rfl, ?_⟩
    rw [dec_int]
    by_cases c0 : z = 0
    · cases hf with
      | begin_ x l hx hl =>
        obtain ⟨xs, r, b1, b2, b3⟩ := hL.get (i := 0) rfl
        refine iteT ⟨_, rfl, _, rfl, na, _, _, _, rfl, rfl, SqL.of hN, at_of (j := 0) rfl rfl, _, rfl, la, _, _, _, rfl, rfl, SqL.of b1, at_of (j := 0) rfl b2, a, k, r, c, o, x.toNat, l, ?_, hP, b3, by omega, hq⟩
        rw [toNat_cast hx.1]
        rfl
      | _ => exact absurd c0 (by decide)
    refine if_n (beq_eq_false_iff_ne.mpr c0) ⟨_, rfl, rfl, _, rfl, ?_⟩
    -- if call == TALLY or call == WORST
    rw [dec_int]
    have doAll : ∀ x y : Int, 0 ≤ x → 0 ≤ y → nums = [x, y] → Mu28Neutral.step o ((z :: nums) :: Ls) = Mu28.step o (allCall z x.toNat y.toNat) →
        tRet (tCall (spAll C) [] E0 (tCons (tVar 0) (tCons (tVar 1) (tCons (tOp (rIxL K) (tVar 2) (tC (.int 0))) (tCons (tOp (rIxL K) (tVar 2) (tC (.int 1))) tNil))))) { nx := fun _ H' => Q .non H', rt := Q } [some (.ref a), some (.int z), some (.ref na), some (.ref la)] H := by
      intro x y hx hy en es
      subst en
      rw [es, all_step] at hq
      refine ⟨_, rfl, _, rfl, _, rfl, na, _, _, _, rfl, rfl, SqL.of hN, at_of (j := 0) rfl rfl, _, rfl, na, _, _, _, rfl, rfl, SqL.of hN, at_of (j := 1) rfl rfl, a, k, c, o, z, x.toNat, y.toNat, ?_, hP, hc, hq⟩
      rw [toNat_cast hx, toNat_cast hy]
      rfl
    by_cases c9 : z = 9
    · refine if_y (beq_iff_eq.mpr c9) (iteT ?_)
      cases hf with
      | tally x y hx hy => exact doAll x y hx.1 hy.1 rfl rfl
      | _ => exact absurd c9 (by decide)
    refine if_n (beq_eq_false_iff_ne.mpr c9) ⟨_, rfl, rfl, _, rfl, ?_⟩
    rw [dec_int]
    by_cases c10 : z = 10
    · refine if_y (beq_iff_eq.mpr c10) ?_
      cases hf with
      | worst x y hx hy => exact doAll x y hx.1 hy.1 rfl rfl
      | _ => exact absurd c10 (by decide)
    refine if_n (beq_eq_false_iff_ne.mpr c10) ?_
    -- if pan.stack == ()
    obtain ⟨dx, t, st, b0, fl, kvs, h1, h2, h3, h4, h5, h6⟩ := hP.ex
    refine ⟨_, rfl, a, C, dx, _, _, rfl, h1, N.cl, N.nT, pF_stack, Nat.zero_le _, fun e ne => ?_⟩
    have s1 : Same H (upd H e (.tup [])) := same_new ne
    obtain ⟨H1, e1⟩ : ∃ H1, H1 = upd H e (.tup []) := ⟨_, rfl⟩
    have he : H1 e = some (.tup []) := by
      rw [e1]
      exact upd_same
    rw [← e1] at s1 ⊢
    refine eqD_tups (s := st) (t := []) (s1 _ _ h2) he ⟨_, rfl, ?_⟩
    have hP1 := hP.same s1
    have fxs : ∀ {H'}, Fx [a, k] H1 H' → Fx [a, k] H H' := fun f c o e n => f c o (s1 _ _ e) n
    cases o with
    | none =>
      have est : st = [] := h3
      refine if_y (decide_eq_true est) ⟨(by show 1 ≤ sizeLine; decide), fun p np => ?_⟩
      have e : Mu28Neutral.step none ((z :: nums) :: Ls) = (none, [-9]) := by
        cases hf <;> first | rfl | exact absurd rfl c0 | exact absurd rfl c9 | exact absurd rfl c10
      rw [e] at hq
      exact Gives.one (C := C) (o := none) hq hP s1 np
    | some sx =>
      obtain ⟨rfl, hz, hok⟩ := h3
      have est : ¬ st = [] := fun w => by
        have := hz.1
        rw [w] at this
        exact absurd this (by decide)
      refine if_n (decide_eq_false est) ⟨_, rfl, rfl, _, rfl, ?_⟩
      -- if call == FLIP
      rw [dec_int]
      by_cases c1 : z = 1
      · refine if_y (beq_iff_eq.mpr c1) ?_
        cases hf with
        | flip x hx =>
          refine ⟨_, rfl, _, rfl, na, _, _, _, rfl, rfl, SqL.of (s1 _ _ hN), at_of (j := 0) rfl rfl, a, k, c, ⟨b0, st, fl⟩, x.toNat, ?_, hP1, fun H' p f hP' np hp hl => hq H' p (fxs f) hP' (s1.free np) hp hl⟩
          rw [toNat_cast hx.1]
          rfl
        | _ => exact absurd c1 (by decide)
      refine if_n (beq_eq_false_iff_ne.mpr c1) ?_
      -- if lists != []
      refine ⟨_, rfl, Nat.zero_le _, fun e2 ne2 => ?_⟩
      have s2 : Same H (upd H1 e2 (.lst [])) := same_upd s1 ne2
      obtain ⟨H2, e3⟩ : ∃ H2, H2 = upd H1 e2 (.lst []) := ⟨_, rfl⟩
      have he2 : H2 e2 = some (.lst []) := by
        rw [e3]
        exact upd_same
      rw [← e3] at s2 ⊢
      have hP2 := hP.same s2
      have hL2 := hL.same s2
      have fxs2 : ∀ {H'}, Fx [a, k] H2 H' → Fx [a, k] H H' := fun f c o e n => f c o (s2 _ _ e) n
      refine neD_LL hL2 he2 ⟨_, rfl, ?_⟩
      have doRows : ∀ (Ms : List (List Nat)) (x : Mu28.Call), Ls = Ms.map ni → (∀ l ∈ Ms, l.length ≤ 60) → rowCall z Ms = some x → Mu28Neutral.step (some ⟨b0, st, fl⟩) ((z :: nums) :: Ls) = Mu28.step (some ⟨b0, st, fl⟩) x → (Mu28.step (some ⟨b0, st, fl⟩) x).1 = some ⟨b0, st, fl⟩ →
          tRet (tCall (spRows C) [] E0 (tCons (tVar 0) (tCons (tVar 1) (tCons (tVar 3) tNil)))) { nx := fun _ H' => Q .non H', rt := Q } [some (.ref a), some (.int z), some (.ref na), some (.ref la)] H2 := by
        intro Ms x eL hMs ex es ek
        rw [es, ek] at hq
        rw [eL] at hL2
        exact ⟨_, rfl, _, rfl, _, rfl, a, k, la, c, ⟨b0, st, fl⟩, z, Ms, x, rfl, hP2, hL2, hMs, ex, fun H' p f hP' np hp hl => hq H' p (fxs2 f) hP' (s2.free np) hp hl⟩
      have doPlain : Mu28Neutral.step (some ⟨b0, st, fl⟩) ((z :: nums) :: Ls) = (some ⟨b0, st, fl⟩, plainAns ⟨b0, st, fl⟩ z) →
          tRet (tCall (spPlain C) [] E0 (tCons (tVar 0) (tCons (tVar 1) tNil))) { nx := fun _ H' => Q .non H', rt := Q } [some (.ref a), some (.int z), some (.ref na), some (.ref la)] H2 := by
        intro es
        rw [es] at hq
        exact ⟨_, rfl, _, rfl, a, k, c, ⟨b0, st, fl⟩, z, rfl, hP2, hc, fun H' p f hP' np hp hl => hq H' p (fxs2 f) hP' (s2.free np) hp hl⟩
      cases hf with
      | begin_ x l hx hl => exact absurd rfl c0
      | flip x hx => exact absurd rfl c1
      | tally x y hx hy => exact absurd rfl c9
      | worst x y hx hy => exact absurd rfl c10
      | look => exact iteF (doPlain rfl)
      | gaps => exact iteF (doPlain rfl)
      | fewest => exact iteF (doPlain rfl)
      | usual => exact iteF (doPlain rfl)
      | hint => exact iteF (doPlain rfl)
      | try_ l h => exact iteT (doRows [Mu28Neutral.nats l] _ (by show [l] = [ni (Mu28Neutral.nats l)]; rw [show ni (Mu28Neutral.nats l) = l from Pk.nats_ints h]) (fun m hm => by rw [List.mem_singleton.mp hm, Pk.nats_length]; exact h.1) rfl rfl rfl)
      | same l m h h' => exact iteT (doRows [Mu28Neutral.nats l, Mu28Neutral.nats m] _ (by show [l, m] = [ni (Mu28Neutral.nats l), ni (Mu28Neutral.nats m)]; rw [show ni (Mu28Neutral.nats l) = l from Pk.nats_ints h, show ni (Mu28Neutral.nats m) = m from Pk.nats_ints h']) (fun x hx => by
          rcases List.mem_cons.mp hx with e | e
          · rw [e, Pk.nats_length]
            exact h.1
          · rw [List.mem_singleton.mp e, Pk.nats_length]
            exact h'.1) rfl rfl rfl)
      | round l h => exact iteT (doRows [Mu28Neutral.nats l] _ (by show [l] = [ni (Mu28Neutral.nats l)]; rw [show ni (Mu28Neutral.nats l) = l from Pk.nats_ints h]) (fun m hm => by rw [List.mem_singleton.mp hm, Pk.nats_length]; exact h.1) rfl rfl rfl)
/-! ### lists_at -/
abbrev stLists : Stmt := top 60
abbrev nLists : List Str := ["calls", "at", "many", "found", "here", "turn", "length"]
theorem scLists : FnScope nLists ["calls", "at", "many"] (defScope stLists) := ⟨rfl, rfl, rfl, by decide +kernel, rfl, by decide +kernel, by decide +kernel⟩
def spLists (K : PySem.W.Frag) : Sp := fun vs H Q _ => ∃ (ca : Addr) (ns : List Int) (i m : Nat) (Ls : List (List Int)) (r : List Int), vs = [.ref ca, .int i, .int m] ∧ SqL K H ca (vi ns) ∧ ns.length ≤ 100000 ∧ i ≤ ns.length ∧ m ≤ 100 ∧ PyFlat.rows m (ns.drop i) = some (Ls, r) ∧
  ∀ H' p la j, Same H H' → H' p = some (.tup [.ref la, .int (j : Nat)]) → LL H' la Ls → i ≤ j → j ≤ ns.length → ns.drop j = r → Q (.ref p) H'
theorem pairL_keep {H H' : Hp} (k : ∀ a l, H a = some (.lst (vi l)) → H' a = some (.lst (vi l))) : ∀ {rs : List Addr} {Ls : List (List Int)}, Paired (fun r l => H r = some (.lst (vi l))) rs Ls → Paired (fun r l => H' r = some (.lst (vi l))) rs Ls
  | _, _, .nil => .nil
  | _, _, .cons q t => .cons (k _ _ q) (pairL_keep k t)
theorem pairL_but {H H' : Hp} {D : Addr} (k : ∀ a l, a ≠ D → H a = some (.lst (vi l)) → H' a = some (.lst (vi l))) : ∀ {rs : List Addr} {Ls : List (List Int)}, Paired (fun r l => H r = some (.lst (vi l))) rs Ls → (∀ x ∈ rs, x ≠ D) → Paired (fun r l => H' r = some (.lst (vi l))) rs Ls
  | _, _, .nil, _ => .nil
  | _, _, .cons q t, h => .cons (k _ _ (h _ (List.mem_cons_self ..)) q) (pairL_but k t fun x hx => h x (List.mem_cons_of_mem _ hx))
theorem pairL_snoc {H : Hp} : ∀ {rs : List Addr} {Ls : List (List Int)} {r : Addr} {l : List Int}, Paired (fun r l => H r = some (.lst (vi l))) rs Ls → H r = some (.lst (vi l)) → Paired (fun r l => H r = some (.lst (vi l))) (rs ++ [r]) (Ls ++ [l])
  | _, _, _, _, .nil, h => .cons h .nil
  | _, _, _, _, .cons q t, h => .cons q (pairL_snoc t h)
theorem ok_lists {f : Addr} {fd : FuncData} (F : Fun K "lists_at" "lists_at" stLists f fd) (T : Bi mg) : FnOk P w K mg base CX0 1 f fd ["calls", "at", "many"] (spLists K) := by
  refine F.ok scLists (fun vs H Q E h => ?_) (fun cdv A outer s H vs Q E hr h => ?_)
  · obtain ⟨ca, ns, i, m, Ls, r, rfl, _⟩ := h
    rfl
  · obtain ⟨ca, ns, i, m, Ls, r, rfl, hS, hlen, hi, hm, hR, hq⟩ := h
    refine ⟨_, pss_cons (ps_set (i := 3) scLists.nd rfl (Or.inl rfl) (pe_lst pa_nil))
      (pss_cons (ps_set (i := 4) scLists.nd rfl (Or.inl rfl) (pv 1))
      (pss_cons (ps_for PassesOwn.never rfl (pi_range1 (by rfl) T.range (pa_cons (pv 2) pa_nil)) (pg_name (i := 5) scLists.nd rfl (Or.inl rfl))
        (pss_cons (ps_set (i := 6) scLists.nd rfl (Or.inl rfl) (pe_ix ix_list (pv 0) (pv 4) (fun _ _ => rfl)))
        (pss_cons (ps_expr (pe_bm PySem.F.plainAttrs_list PySem.F.slot_list_append PySem.F.type_list_append mt_append (pv 3) (pa_cons (pe_slice sl_list (pv 0) (po_some (pe_op op_add (pv 4) pe_int)) (po_some (pe_op op_add (pe_op op_add (pv 4) pe_int) (pv 6)))) pa_nil)))
        (pss_one (ps_set (i := 4) scLists.nd rfl (Or.inl rfl) (pe_op op_add (pe_op op_add (pv 4) pe_int) (pv 6)))))))
      (pss_one (ps_ret (pe_tup (pa_cons (pv 3) (pa_cons (pv 4) pa_nil))))))), ?_⟩
    refine ⟨Nat.zero_le _, fun D nD => ?_⟩
    obtain ⟨H1, e1⟩ : ∃ H1, H1 = upd H D (.lst []) := ⟨_, rfl⟩
    have s1 : Same H H1 := by
      rw [e1]
      exact same_new nD
    have hD1 : H1 D = some (.lst []) := by
      rw [e1]
      exact upd_same
    rw [← e1]
    have fr : ∀ H', Fx [D] H1 H' → Same H H' := fun H' f c o ec => f c o (s1 c o ec) fun w => by
      rw [List.mem_singleton] at w
      subst w
      rw [nD] at ec
      cases ec
    refine ⟨_, rfl, _, rfl, m, rfl, by omega, by omega, ?_⟩
    rw [Int.toNat_natCast]
    refine for_range (lo := 0) (n := m) (fun t σ H' => ∃ (v5 v6 : Option V) (j : Nat) (rs : List Addr) (Ms Ns : List (List Int)), σ = [some (.ref ca), some (.int i), some (.int m), some (.ref D), some (.int (j : Nat)), v5, v6] ∧ Fx [D] H1 H' ∧
      H' D = some (.lst (rs.map V.ref)) ∧ Paired (fun r l => H' r = some (.lst (vi l))) rs Ms ∧ rs.length = t ∧ (∀ x ∈ rs, x ≠ D) ∧ i ≤ j ∧ j ≤ ns.length ∧ t ≤ m ∧ PyFlat.rows (m - t) (ns.drop j) = some (Ns, r) ∧ Ls = Ms ++ Ns) ?_ ?_ ?_
    · exact ⟨none, none, i, [], [], Ls, rfl, Fx.refl _ _, hD1, .nil, rfl, fun x hx => (by cases hx), Nat.le_refl _, hi, Nat.zero_le _, hR, rfl⟩
    · rintro t σ H' ht ⟨v5, v6, j, rs, Ms, Ns, rfl, f1, g1, g2, g3, g4, g5, g6, g7, g8, g9⟩
      obtain ⟨u, eu⟩ : ∃ u, m - t = u + 1 := ⟨m - t - 1, by omega⟩
      rw [eu] at g8
      obtain ⟨x, ys, s', b1, b2, b3⟩ := Pk.rows_more g8
      obtain ⟨n, c1, c2, c3, c4⟩ := Pk.row_at b1
      have hS' := (fr _ f1).seq hS
      have c1' : (vi ns)[j]? = some (V.int (n : Nat)) := by
        unfold vi
        rw [List.getElem?_map, c1]
        rfl
      refine ⟨_, rfl, _, rfl, ca, _, _, _, rfl, rfl, hS', atI_nat c1', ?_⟩
      refine ⟨_, rfl, .inl ⟨rfl, _, SqL.of g1⟩, _, rfl, _, rfl, _, _, rfl, rfl, _, rfl, _, rfl, _, _, rfl, rfl, _, rfl, _, _, rfl, rfl, _, rfl, ca, _, rfl, hS', fun q nq => ?_⟩
      have ecut : cutV (vi ns) (some ((j : Int) + 1)) (some ((j : Int) + 1 + (n : Int))) = vi x := by
        have w := cut_mid ns (j + 1) n (by omega)
        rw [c3, ← w]
        rfl
      rw [ecut]
      obtain ⟨H2, e2⟩ : ∃ H2, H2 = upd H' q (.lst (vi x)) := ⟨_, rfl⟩
      rw [← e2]
      have s2 : Same H' H2 := by
        rw [e2]
        exact same_new nq
      have hq2 : H2 q = some (.lst (vi x)) := by
        rw [e2]
        exact upd_same
      have hD2 := s2 _ _ g1
      have nqD : q ≠ D := Ne.symm (ne_of_none g1 nq)
      refine ⟨D, _, _, rfl, rfl, hD2, ?_, _, rfl, _, _, rfl, rfl, _, rfl, _, _, rfl, rfl, ?_⟩
      · rw [List.length_map]
        exact small1000 (by omega)
      · have keep : ∀ a l, a ≠ D → H2 a = some (.lst (vi l)) → upd H2 D (.lst (rs.map V.ref ++ [V.ref q])) a = some (.lst (vi l)) := fun a l n e => by
          rw [upd_ne n]
          exact e
        have pk : Paired (fun r l => upd H2 D (.lst (rs.map V.ref ++ [V.ref q])) r = some (.lst (vi l))) rs Ms := pairL_but (fun a l n e => keep a l n (s2 _ _ e)) g2 g4
        refine ⟨some (.int (0 + (t : Int))), some (.int (n : Nat)), j + 1 + n, rs ++ [q], Ms ++ [x], ys, rfl, (f1.same s2).upd (List.mem_singleton.mpr rfl), ?_, pairL_snoc pk (keep _ _ nqD hq2), by rw [List.length_append, g3]; rfl, fun y hy => ?_, by omega, c2, ht, ?_, by rw [g9, b3, List.append_assoc]; rfl⟩
        · rw [upd_same, List.map_append]
          rfl
        · rcases List.mem_append.mp hy with w | w
          · exact g4 y w
          · rw [List.mem_singleton] at w
            rw [w]
            exact nqD
        · have e3 : m - (t + 1) = u := by omega
          rw [e3, ← c4]
          exact b2
    · rintro σ H' ⟨v5, v6, j, rs, Ms, Ns, rfl, f1, g1, g2, g3, g4, g5, g6, g7, g8, g9⟩
      rw [Nat.sub_self] at g8
      have g8' : some (([] : List (List Int)), ns.drop j) = some (Ns, r) := g8
      obtain ⟨a1, a2⟩ := Prod.mk.inj (Option.some.inj g8')
      rw [← a1, List.append_nil] at g9
      subst g9
      refine ⟨_, rfl, _, rfl, (by show 2 ≤ sizeLine; decide), fun p np => ?_⟩
      have s3 := same_new (o := .tup [.ref D, .int (j : Nat)]) np
      exact hq _ p D j ((fr _ f1).trans s3) upd_same (LL.same ⟨rs, g1, g2⟩ s3) g5 g6 a2

/-! ### call_at -/
abbrev stCall : Stmt := top 61
abbrev nCall : List Str := ["calls", "at", "call", "behind", "numbers", "lists"]
theorem scCall : FnScope nCall ["calls", "at"] (defScope stCall) := ⟨rfl, rfl, rfl, by decide +kernel, rfl, by decide +kernel, by decide +kernel⟩
def spCall (K : PySem.W.Frag) : Sp := fun vs H Q _ => ∃ (ca : Addr) (ns : List Int) (i : Nat) (c : List (List Int)) (r : List Int), vs = [.ref ca, .int i] ∧ SqL K H ca (vi ns) ∧ ns.length ≤ 100000 ∧ PyFlat.call PyMu28.shape (ns.drop i) = some (c, r) ∧
  ∀ H' p na la j z nums Ls, Same H H' → H' p = some (.tup [.int z, .ref na, .ref la, .int (j : Nat)]) → c = (z :: nums) :: Ls → H' na = some (.lst (vi nums)) → LL H' la Ls → i < j → j ≤ ns.length → ns.drop j = r → Q (.ref p) H'
/-- a tuple of whole numbers that the top has written -/
def IsT (K : PySem.W.Frag) (mg : Str → Option Value) (x : Str) (ns : List Int) : Prop := ∃ a, mg x = some (.ref a) ∧ ∀ H, SqT K H a (vi ns)
theorem ok_call {f : Addr} {fd : FuncData} (F : Fun K "call_at" "call_at" stCall f fd) (T : Bi mg) (tP : IsT K mg "PLAIN_NUMBERS" Pk.plainN) (tL : IsT K mg "LISTS" Pk.listsN) (L : Df P w K mg base "lists_at" 1 ["calls", "at", "many"] (spLists K)) :
    FnOk P w K mg base CX0 2 f fd ["calls", "at"] (spCall K) := by
  refine F.ok scCall (fun vs H Q E h => ?_) (fun cdv A outer s H vs Q E hr h => ?_)
  · obtain ⟨ca, ns, i, c, r, rfl, _⟩ := h
    rfl
  · obtain ⟨ca, ns, i, c, r, rfl, hS, hlen, hC, hq⟩ := h
    obtain ⟨pa, hpa, hPT⟩ := tP
    obtain ⟨la0, hla, hLT⟩ := tL
    refine ⟨_, pss_cons (ps_set (i := 2) scCall.nd rfl (Or.inl rfl) (pe_ix ix_list (pv 0) (pv 1) (fun _ _ => rfl)))
      (pss_cons (ps_set (i := 3) scCall.nd rfl (Or.inl rfl) (pe_op op_add (pe_op op_add (pv 1) pe_int) (pe_ix ix_tup (pe_glob (v := .ref pa) (by rfl) hpa rfl) (pv 2) (fun _ _ => rfl))))
      (pss_cons (ps_set (i := 4) scCall.nd rfl (Or.inl rfl) (pe_slice sl_list (pv 0) (po_some (pe_op op_add (pv 1) pe_int)) (po_some (pv 3))))
      (pss_cons (ps_asg (pe_df L (by rfl) hr (pa_cons (pv 0) (pa_cons (pv 3) (pa_cons (pe_ix ix_tup (pe_glob (v := .ref la0) (by rfl) hla rfl) (pv 2) (fun _ _ => rfl)) pa_nil)))) (pg_tup rfl (pgs_cons (pg_name (i := 5) scCall.nd rfl (Or.inl rfl)) (pgs_cons (pg_name (i := 3) scCall.nd rfl (Or.inl rfl)) pgs_nil))))
      (pss_one (ps_ret (pe_tup (pa_cons (pv 2) (pa_cons (pv 4) (pa_cons (pv 5) (pa_cons (pv 3) pa_nil)))))))))), ?_⟩
    obtain ⟨z, j, n, k, Ls, b1, b2, b3, b4, b5, b6, b7⟩ := Pk.call_at hC
    have b1' : (vi ns)[i]? = some (V.int z) := by
      unfold vi
      rw [List.getElem?_map, b1]
      rfl
    have b3' : (vi Pk.plainN)[j]? = some (V.int (n : Nat)) := by
      unfold vi
      rw [List.getElem?_map, b3]
      rfl
    have b4' : (vi Pk.listsN)[j]? = some (V.int (k : Nat)) := by
      unfold vi
      rw [List.getElem?_map, b4]
      rfl
    have hk : k ≤ 100 := by
      have q : (k : Int) ∈ Pk.listsN := List.mem_of_getElem? b4
      unfold Pk.listsN at q
      simp at q
      omega
    refine ⟨_, rfl, _, rfl, ca, _, _, _, rfl, rfl, hS, atI_nat b1', ?_⟩
    refine ⟨_, rfl, _, _, rfl, rfl, _, rfl, pa, _, _, _, rfl, rfl, hPT H, at_of b2 b3', _, _, rfl, rfl, ?_⟩
    refine ⟨_, rfl, _, rfl, _, _, rfl, rfl, _, rfl, _, rfl, _, rfl, ca, _, rfl, hS, fun na nn => ?_⟩
    have ecut : cutV (vi ns) (some ((i : Int) + 1)) (some ((i : Int) + 1 + (n : Int))) = vi ((ns.drop (i + 1)).take n) := cut_mid ns (i + 1) n b5
    rw [ecut]
    obtain ⟨H1, e1⟩ : ∃ H1, H1 = upd H na (.lst (vi ((ns.drop (i + 1)).take n))) := ⟨_, rfl⟩
    rw [← e1]
    have s1 : Same H H1 := by
      rw [e1]
      exact same_new nn
    have hna : H1 na = some (.lst (vi ((ns.drop (i + 1)).take n))) := by
      rw [e1]
      exact upd_same
    refine ⟨_, rfl, _, rfl, _, rfl, la0, _, _, _, rfl, rfl, hLT H1, at_of b2 b4', ca, ns, i + 1 + n, k, Ls, r, rfl, s1.seq hS, hlen, b5, hk, b6, fun H2 p la j2 s2 hp hll h1 h2 h3 => ?_⟩
    refine ⟨p, _, rfl, SqT.of hp, rfl, _, _, rfl, _, _, rfl, rfl, ?_⟩
    refine ⟨_, rfl, _, rfl, _, rfl, _, rfl, (by show 4 ≤ sizeLine; decide), fun q nq => ?_⟩
    have s3 := same_new (o := .tup [.int z, .ref na, .ref la, .int (j2 : Nat)]) nq
    exact hq _ q na la j2 z _ Ls ((s1.trans s2).trans s3) upd_same b7 (s3 _ _ (s2 _ _ hna)) (hll.same s3) (by omega) h2 h3
/-! ### answers -/
abbrev stAll2 : Stmt := top 63
abbrev nAll2 : List Str := ["calls", "pan", "told", "at", "call", "numbers", "lists", "found"]
theorem scAll2 : FnScope nAll2 ["calls"] (defScope stAll2) := ⟨rfl, rfl, rfl, by decide +kernel, rfl, by decide +kernel, by decide +kernel⟩
def spAnswers (K : PySem.W.Frag) : Sp := fun vs H Q _ => ∃ (ca : Addr) (ns : List Int), vs = [.ref ca] ∧ SqL K H ca (vi ns) ∧ ns.length ≤ 4920 ∧ PyMu28.answers_asked ns = true ∧ ∀ H' p, H' p = some (.lst (vi (PyMu28.answers ns))) → Q (.ref p) H'
def left (n : Nat) (σ : L2.St) : Nat := match σ[3]? with
  | some (some (V.int i)) => n - i.toNat
  | _ => 0
theorem ok_answers {f fI : Addr} {fd fdI : FuncData} (F : Fun K "answers" "answers" stAll2 f fd) (T : Bi mg) (N : Pn K mg C) (M : Mk K C fI) (FI : Fun K "__init__" "Pan.__init__" stInit fI fdI) (bIn : Binds K fdI ["self"] [])
    (Ca : Df P w K mg base "call_at" 2 ["calls", "at"] (spCall K)) (An : Df P w K mg base "answer" 8 ["pan", "call", "numbers", "lists"] (spAns C)) : FnOk P w K mg base CX0 9 f fd ["calls"] (spAnswers K) := by
  have GI : FnOk P w K mg base CX0 1 fI fdI ["self"] (spInit C) := ok_init FI N
  refine F.ok scAll2 (fun vs H Q E h => ?_) (fun cdv A outer s H vs Q E hr h => ?_)
  · obtain ⟨ca, ns, rfl, _⟩ := h
    rfl
  · obtain ⟨ca, ns, rfl, hS, hlen, hask, hq⟩ := h
    refine ⟨_, pss_cons (ps_set (i := 1) scAll2.nd rfl (Or.inl rfl) (pe_make0 M GI (hr.mono (by decide)) rfl N.gC bIn .nil pass0))
      (pss_cons (ps_set (i := 2) scAll2.nd rfl (Or.inl rfl) (pe_lst pa_nil))
      (pss_cons (ps_set (i := 3) scAll2.nd rfl (Or.inl rfl) pe_int)
      (pss_cons (ps_while PassesOwn.never (pt_cmpR op_lt (pv 3) (pe_callB call_len_seq (by rfl) T.len PySem.boot_len (pa_cons (pv 0) pa_nil)) (nomark _))
        (pss_cons (ps_asg (pe_df Ca (by rfl) (hr.mono (by decide)) (pa_cons (pv 0) (pa_cons (pv 3) pa_nil))) (pg_tup rfl (pgs_cons (pg_name (i := 4) scAll2.nd rfl (Or.inl rfl)) (pgs_cons (pg_name (i := 5) scAll2.nd rfl (Or.inl rfl)) (pgs_cons (pg_name (i := 6) scAll2.nd rfl (Or.inl rfl)) (pgs_cons (pg_name (i := 3) scAll2.nd rfl (Or.inl rfl)) pgs_nil))))))
        (pss_cons (ps_set (i := 7) scAll2.nd rfl (Or.inl rfl) (pe_df An (by rfl) hr (pa_cons (pv 1) (pa_cons (pv 4) (pa_cons (pv 5) (pa_cons (pv 6) pa_nil))))))
        (pss_cons (ps_expr (pe_bm PySem.F.plainAttrs_list PySem.F.slot_list_append PySem.F.type_list_append mt_append (pv 2) (pa_cons (pe_callB call_len_seq (by rfl) T.len PySem.boot_len (pa_cons (pv 7) pa_nil)) pa_nil)))
        (pss_one (ps_expr (pe_bm PySem.F.plainAttrs_list PySem.F.slot_list_extend PySem.F.type_list_extend mt_extend (pv 2) (pa_cons (pv 7) pa_nil))))))))
      (pss_one (ps_ret (pv 2)))))), ?_⟩
    obtain ⟨cs, hcs, h40, hask1, hans⟩ := Pk.asked_open hask
    -- pan = Pan()
    intro a dx na nd ne
    refine ⟨a, dx, rfl, upd_same, fun H1 k hP0 keep nk => ⟨rfl, ?_⟩⟩
    have s1 : Same H H1 := Same.made na nd keep
    have nkH : H k = none := by
      by_cases w : k = a
      · rw [w, upd_same] at nk
        cases nk
      · rw [upd_ne w] at nk
        by_cases w2 : k = dx
        · rw [w2, upd_same] at nk
          cases nk
        · rw [upd_ne w2] at nk
          exact nk
    -- told = []
    refine ⟨Nat.zero_le _, fun D nD => ?_⟩
    have nDH : H D = none := s1.free nD
    have sD : Same H1 (upd H1 D (.lst [])) := same_new nD
    -- at = 0; while at < len(calls)
    refine while_by (fun σ H' => ∃ (v4 v5 v6 v7 : Option V) (i g c : Nat) (o : Mu28.Abs) (U : List Int) (ds : List (List (List Int))), σ = [some (.ref ca), some (.ref a), some (.ref D), some (.int (i : Nat)), v4, v5, v6, v7] ∧ Same H H' ∧ PanOk C H' a k c o ∧
      H' D = some (.lst (vi U)) ∧ i ≤ ns.length ∧ PyFlat.calls PyMu28.shape g (ns.drop i) = some ds ∧ (∀ x ∈ ds, Mu28Neutral.asked1 x = true) ∧ c + ds.length ≤ 40 ∧ U.length ≤ 101 * c ∧
      PyMu28.answers ns = U ++ PyFlat.told (PyFlat.played Mu28Neutral.step o ds)) (fun σ _ => left ns.length σ) ?_ ?_ ?_
    · refine ⟨none, none, none, none, 0, ns.length, 0, none, [], cs, rfl, s1.trans sD, hP0.same sD, upd_same, Nat.zero_le _, hcs, hask1, by omega, Nat.zero_le _, hans⟩
    · rintro σ H' ⟨v4, v5, v6, v7, i, g, c, o, U, ds, rfl, g1, g2, g3, g4, g5, g6, g7, g8, g9⟩
      refine ⟨_, rfl, _, rfl, ca, _, rfl, .inl (g1.seq hS), _, _, rfl, rfl, _, rfl, ?_⟩
      rw [vi_length]
      by_cases ci : i < ns.length
      · refine if_y (decide_eq_true (by omega)) ?_
        have hne : ns.drop i ≠ [] := fun w => by
          have q := congrArg List.length w
          rw [List.length_drop] at q
          have q' : ns.length - i = 0 := q
          omega
        obtain ⟨g', x, t, ds', b1, b2, rfl⟩ := Pk.calls_more g5 hne
        have hx := g6 x (List.mem_cons_self ..)
        rw [List.length_cons] at g7
        -- call, numbers, lists, at = call_at(calls, at)
        refine ⟨_, rfl, _, rfl, ca, ns, i, x, t, rfl, g1.seq hS, by omega, b1, fun H2 p nn ll j z nums Ls s2 hp ex hnn hll h1 h2 h3 => ?_⟩
        refine ⟨p, _, rfl, SqT.of hp, rfl, _, _, rfl, _, _, rfl, _, _, rfl, _, _, rfl, rfl, ?_⟩
        obtain ⟨z', nums', Ls', ex', hform⟩ := Pk.form_of hx
        rw [ex] at ex'
        obtain ⟨e1, e2⟩ := List.cons.inj ex'
        obtain ⟨e3, e4⟩ := List.cons.inj e1
        subst e2 e3 e4
        -- found = answer(pan, call, numbers, lists)
        refine ⟨_, rfl, _, rfl, _, rfl, _, rfl, a, k, nn, ll, c, o, z, nums, Ls, rfl, g2.same s2, by omega, hnn, hll, hform, fun H3 q f3 hP3 nq hq3 hl3 => ?_⟩
        obtain ⟨ans, eans⟩ : ∃ ans, ans = (Mu28Neutral.step o ((z :: nums) :: Ls)).2 := ⟨_, rfl⟩
        rw [← eans] at hq3 hl3
        have hD2 := s2 _ _ g3
        obtain ⟨dx2, t2, st2, b2', fl2, kvs2, p1, _, _, p4, _⟩ := (g2.same s2).ex
        have dDa : D ≠ a := ne_of hD2 p1 (fun z => nomatch z)
        have dDk : D ≠ k := ne_of hD2 p4 (fun z => nomatch z)
        have hD3 : H3 D = some (.lst (vi U)) := f3 _ _ hD2 fun w => by
          rcases List.mem_cons.mp w with w | w
          · exact dDa w
          · rw [List.mem_singleton] at w
            exact dDk w
        have s3 : Same H H3 := fun c o ec => f3 _ _ (s2 _ _ (g1 _ _ ec)) fun w => by
          rcases List.mem_cons.mp w with w | w
          · rw [w, na] at ec
            cases ec
          · rw [List.mem_singleton] at w
            rw [w, nkH] at ec
            cases ec
        have dDq : D ≠ q := ne_of_none hD2 nq
        -- told.append(len(found))
        refine ⟨_, rfl, .inl ⟨rfl, _, SqL.of hD3⟩, _, rfl, q, _, rfl, .inl (SqL.of hq3), D, _, _, rfl, rfl, hD3, ?_, ?_⟩
        · rw [vi_length]
          rw [sizeLine_eq]
          omega
        rw [vi_length]
        have e5 : vi U ++ [V.int (ans.length : Nat)] = vi (U ++ [(ans.length : Int)]) := (vi_append U [(ans.length : Int)]).symm
        rw [e5]
        obtain ⟨H4, e6⟩ : ∃ H4, H4 = upd H3 D (.lst (vi (U ++ [(ans.length : Int)]))) := ⟨_, rfl⟩
        rw [← e6]
        have hD4 : H4 D = some (.lst (vi (U ++ [(ans.length : Int)]))) := by
          rw [e6]
          exact upd_same
        have hq4 : H4 q = some (.lst (vi ans)) := by
          rw [e6, upd_ne (Ne.symm dDq)]
          exact hq3
        -- told.extend(found)
        refine ⟨_, rfl, .inl ⟨rfl, _, SqL.of hD4⟩, _, rfl, D, q, _, _, rfl, rfl, hD4, hq4, ?_, ?_, ?_⟩
        · rw [vi_length, vi_length, List.length_append]
          refine fits_line (m := 100000) ?_
          show U.length + 1 + ans.length ≤ 100000
          omega
        · refine ⟨some (.int z), some (.ref nn), some (.ref ll), some (.ref q), j, g', c + 1, (Mu28Neutral.step o ((z :: nums) :: Ls)).1, U ++ [(ans.length : Int)] ++ ans, ds', rfl, ?_, ?_, ?_, h2, ?_, fun y hy => g6 y (List.mem_cons_of_mem _ hy), by omega, ?_, ?_⟩
          · rw [e6]
            exact same_set (same_set s3 nDH) nDH
          · -- the pan
            have dd : ∀ (c : Addr) (o : HO), c ≠ D → H3 c = some o → upd H4 D (.lst (vi (U ++ [(ans.length : Int)]) ++ vi ans)) c = some o := fun c o n e => by
              rw [upd_ne n, e6, upd_ne n]
              exact e
            obtain ⟨dx3, t3, st3, b3, fl3, kvs3, q1, q2, q3, q4, q5, q6⟩ := hP3.ex
            refine ⟨dx3, t3, st3, b3, fl3, kvs3, dd _ _ (ne_of q1 hD3 (fun z => nomatch z)) q1, dd _ _ (ne_of q2 hD3 (fun z => nomatch z)) q2, q3, dd _ _ (ne_of q4 hD3 (fun z => nomatch z)) q4, q5, fun key v ev => ?_⟩
            obtain ⟨n, b, fa, F, r1, r2, r3, r4⟩ := q6 key v ev
            exact ⟨n, b, fa, F, r1, r2, dd _ _ (ne_of r3 hD3 (fun z => nomatch z)) r3, r4⟩
          · rw [upd_same, vi_append (U ++ [(ans.length : Int)]) ans]
          · rw [h3]
            exact b2
          · rw [List.length_append, List.length_append]
            show U.length + 1 + ans.length ≤ 101 * (c + 1)
            omega
          · rw [g9, ex, Pk.played_cons, Pk.told_cons, ← eans]
            show U ++ ((ans.length : Int) :: (ans ++ _)) = _
            rw [List.append_assoc, List.append_assoc]
            rfl
        · show ns.length - ((j : Nat) : Int).toNat < ns.length - ((i : Nat) : Int).toNat
          rw [Int.toNat_natCast, Int.toNat_natCast]
          omega
      · refine if_n (decide_eq_false (by omega)) ?_
        have e0 : ns.drop i = [] := List.drop_of_length_le (by omega)
        rw [e0] at g5
        have e1 := Pk.calls_end g5
        subst e1
        have e2 : PyMu28.answers ns = U := by
          rw [g9]
          exact List.append_nil U
        refine ⟨_, rfl, hq H' D ?_⟩
        rw [e2]
        exact g3
    · rintro σ H' R R' hR ⟨v, e, v2, e2, p, ys, h1, h2, i, j, h3, h4, kk, h5, h6⟩
      exact ⟨v, e, v2, e2, p, ys, h1, h2, i, j, h3, h4, kk, h5, hR _ _ h6⟩
end
end Pw
/-! The end: what the top has left, and the row. -/
namespace Pw
open PySem PySem.Spec PyProof.Rows L2
/-- a def as it stands behind the top -/
structure FnAt (K : PySem.W.Frag) (x : Str) (st : Stmt) : Prop where
  ex : ∃ (f : Addr) (oc : Value) (od : Option Addr) (kV dc pm : Value) (an : Option Addr) (cd ct : Value) (sl : Array (Option Value)), PySem.W.nsIn K mainGlobals x = some (some (.ref f)) ∧
    K.lookup f = some ⟨oc, od, .func (PySem.W.fnOf x x (defArgs st) (defBody st) (defScope st) .none kV dc pm an cd ct), sl⟩ ∧ PySem.W.codeIn K cd x = true ∧ PySem.W.keepIn K (.ref f) = true
theorem FnAt.mk' {K : PySem.W.Frag} {x : Str} {st : Stmt} {f : Addr} {oc : Value} {od : Option Addr} {kV dc pm : Value} {an : Option Addr} {cd ct : Value} {sl : Array (Option Value)} (a : PySem.W.nsIn K mainGlobals x = some (some (.ref f)))
    (l : K.lookup f = some ⟨oc, od, .func (PySem.W.fnOf x x (defArgs st) (defBody st) (defScope st) .none kV dc pm an cd ct), sl⟩) (c : PySem.W.codeIn K cd x = true) (k : PySem.W.keepIn K (.ref f) = true) : FnAt K x st :=
  ⟨f, oc, od, kV, dc, pm, an, cd, ct, sl, a, l, c, k⟩
theorem FnAt.fd {K : PySem.W.Frag} {h : Heap} {mg : Str → Option Value} {x : Str} {st : Stmt} {ps : List Str} (F : FnAt K x st) (X : K.In h) (G : h.Ns mainGlobals mg)
    (b : ∀ (kV doc pm : Value) (an : Option Addr) (cdv ct : Value) (us : List Value), us.length = ps.length → bindArgs (PySem.W.fnOf x x (defArgs st) (defBody st) (defScope st) .none kV doc pm an cdv ct) ⟨us, []⟩ = pure (ps.zip us)) : Fd K mg x st ps := by
  obtain ⟨f, oc, od, kV, dc, pm, an, cd, ct, sl, a, l, c, k⟩ := F.ex
  have F1 := fun_mk (st := st) l c k
  exact ⟨f, _, PySem.W.mg_of X G a, F1, F1.binds (ps := ps) b⟩
/-- a method as it stands behind the top -/
structure MtAt (K : PySem.W.Frag) (C : Addr) (m q : Str) (st : Stmt) : Prop where
  ex : ∃ (f : Addr) (oc : Value) (od : Option Addr) (kV dc pm : Value) (an : Option Addr) (cd ct : Value) (sl : Array (Option Value)), PySem.W.findIn K (.ref C) m = some (some (.ref f)) ∧ PySem.W.isFn K (.ref f) = true ∧
    K.lookup f = some ⟨oc, od, .func (PySem.W.fnOf m q (defArgs st) (defBody st) (defScope st) .none kV dc pm an cd ct), sl⟩ ∧ PySem.W.codeIn K cd q = true ∧ PySem.W.keepIn K (.ref f) = true
theorem MtAt.mk' {K : PySem.W.Frag} {C : Addr} {m q : Str} {st : Stmt} {f : Addr} {oc : Value} {od : Option Addr} {kV dc pm : Value} {an : Option Addr} {cd ct : Value} {sl : Array (Option Value)} (a : PySem.W.findIn K (.ref C) m = some (some (.ref f))) (i : PySem.W.isFn K (.ref f) = true)
    (l : K.lookup f = some ⟨oc, od, .func (PySem.W.fnOf m q (defArgs st) (defBody st) (defScope st) .none kV dc pm an cd ct), sl⟩) (c : PySem.W.codeIn K cd q = true) (k : PySem.W.keepIn K (.ref f) = true) : MtAt K C m q st :=
  ⟨f, oc, od, kV, dc, pm, an, cd, ct, sl, a, i, l, c, k⟩
theorem MtAt.md {P : Program} {w : World} {K : PySem.W.Frag} {mg : Str → Option Value} {base : Heap} {C : Addr} {m q : Str} {st : Stmt} {k : Nat} {ps : List Str} {sp : Sp} (F : MtAt K C m q st)
    (b : ∀ (kV doc pm : Value) (an : Option Addr) (cdv ct : Value) (us : List Value), us.length = ps.length → bindArgs (PySem.W.fnOf m q (defArgs st) (defBody st) (defScope st) .none kV doc pm an cdv ct) ⟨us, []⟩ = pure (ps.zip us))
    (h : ∀ {f fd}, Fun K m q st f fd → FnOk P w K mg base CX0 k f fd ps sp) : Md P w K mg base C m k ps sp := by
  obtain ⟨f, oc, od, kV, dc, pm, an, cd, ct, sl, a, i, l, c, kp⟩ := F.ex
  have F1 := fun_mk (st := st) l c kp
  exact ⟨f, _, ⟨a, i, kp⟩, F1.binds (ps := ps) b, h F1⟩
/-- a whole number of the module -/
structure IntAt (K : PySem.W.Frag) (x : Str) (i : Int) : Prop where
  ex : ∃ t, PySem.W.nsIn K mainGlobals x = some (some (.int i t))
theorem IntAt.mk' {K : PySem.W.Frag} {x : Str} {i : Int} {t : Tok} (a : PySem.W.nsIn K mainGlobals x = some (some (.int i t))) : IntAt K x i := ⟨t, a⟩
theorem IntAt.isG {K : PySem.W.Frag} {h : Heap} {mg : Str → Option Value} {x : Str} {i : Int} (F : IntAt K x i) (X : K.In h) (G : h.Ns mainGlobals mg) : IsG mg x i := by
  obtain ⟨t, e⟩ := F.ex
  exact ⟨t, PySem.W.mg_of X G e⟩
/-- a tuple of whole numbers of the module -/
structure TupAt (K : PySem.W.Frag) (x : Str) (ns : List Int) : Prop where
  ex : ∃ (a : Addr) (o : Obj) (its : Array Value) (n : Nat), PySem.W.nsIn K mainGlobals x = some (some (.ref a)) ∧ K.lookup a = some o ∧ o.cls = .type "tuple" ∧ o.data = .seq its n ∧ its.size ≤ sizeLine ∧ Vals (vi ns) its.toList
theorem TupAt.isT {K : PySem.W.Frag} {h : Heap} {mg : Str → Option Value} {x : Str} {ns : List Int} (F : TupAt K x ns) (X : K.In h) (G : h.Ns mainGlobals mg) : IsT K mg x ns := by
  obtain ⟨a, o, its, n, e, l, r⟩ := F.ex
  exact ⟨a, PySem.W.mg_of X G e, fun H => .inr ⟨o, its, n, l, r⟩⟩
theorem TupAt.mk' {K : PySem.W.Frag} {x : Str} {ns : List Int} {a : Addr} {od : Option Addr} {its : Array Value} {n : Nat} {sl : Array (Option Value)} (e : PySem.W.nsIn K mainGlobals x = some (some (.ref a))) (l : K.lookup a = some ⟨.type "tuple", od, .seq its n, sl⟩)
    (z : its.size ≤ sizeLine) (r : Vals (vi ns) its.toList) : TupAt K x ns := ⟨a, _, its, n, e, l, rfl, rfl, z, r⟩
theorem all_mk {P : Program} {w : World} {K : PySem.W.Frag} {h : Heap} {mg : Str → Option Value} {fa C : Addr} (X : K.In h) (G : h.Ns mainGlobals mg) (hfa : mg "answers" = some (.ref fa))
    (d_is_stack : FnAt K "is_stack" stIs)
    (d_sorted_stack : FnAt K "sorted_stack" stSorted)
    (d_flipped : FnAt K "flipped" stFlipped)
    (d_is_gap : FnAt K "is_gap" stGap)
    (d_gaps_in : FnAt K "gaps_in" stGaps)
    (d_place_of : FnAt K "place_of" stPlace)
    (d_order_of : FnAt K "order_of" stOrder)
    (d_useful_flips : FnAt K "useful_flips" stUse)
    (d_next_layer : FnAt K "next_layer" stNext)
    (d_far_of : FnAt K "far_of" stFar)
    (d_nearer_flip : FnAt K "nearer_flip" stNear)
    (d_fewest_row : FnAt K "fewest_row" stFew)
    (d_counts_of : FnAt K "counts_of" stCnt)
    (d_first_worst : FnAt K "first_worst" stWorst)
    (d_fits : FnAt K "fits" stFits)
    (d_done : FnAt K "done" stDone)
    (d_rounds_of : FnAt K "rounds_of" stRounds)
    (d_put_in_place : FnAt K "put_in_place" stPut)
    (d_usual_row : FnAt K "usual_row" stUsual)
    (d_begun : FnAt K "begun" stBegun)
    (d_flipped_now : FnAt K "flipped_now" stFN)
    (d_told_row : FnAt K "told_row" stTold)
    (d_best_row : FnAt K "best_row" stBest)
    (d_hinted : FnAt K "hinted" stHint)
    (d_looked : FnAt K "looked" stLooked)
    (d_asked_plainly : FnAt K "asked_plainly" stPlain)
    (d_tried : FnAt K "tried" stTried)
    (d_alike : FnAt K "alike" stAlike)
    (d_asked_by_rows : FnAt K "asked_by_rows" stRows)
    (d_is_small : FnAt K "is_small" stSmall)
    (d_asked_of_all : FnAt K "asked_of_all" stAll)
    (d_answer : FnAt K "answer" stAns)
    (d_lists_at : FnAt K "lists_at" stLists)
    (d_call_at : FnAt K "call_at" stCall)
    (d_answers : FnAt K "answers" stAll2)
    (m_init : MtAt K C "__init__" "Pan.__init__" stInit)
    (m_lay : MtAt K C "lay" "Pan.lay" stLay)
    (m_turn : MtAt K C "turn" "Pan.turn" stTurn)
    (m_far_for : MtAt K C "far_for" "Pan.far_for" stFF)
    (i_MOST_PLAIN : IntAt K "MOST_PLAIN" 8)
    (i_MOST_SIDED : IntAt K "MOST_SIDED" 6)
    (i_MOST_FLIPS_A_SIZE : IntAt K "MOST_FLIPS_A_SIZE" 3)
    (i_MOST_ROUNDS : IntAt K "MOST_ROUNDS" 100)
    (i_NEVER : IntAt K "NEVER" (-6))
    (i_BEGIN : IntAt K "BEGIN" 0)
    (i_FLIP : IntAt K "FLIP" 1)
    (i_LOOK : IntAt K "LOOK" 2)
    (i_GAPS : IntAt K "GAPS" 3)
    (i_FEWEST : IntAt K "FEWEST" 4)
    (i_USUAL : IntAt K "USUAL" 5)
    (i_TRY : IntAt K "TRY" 6)
    (i_SAME : IntAt K "SAME" 7)
    (i_TALLY : IntAt K "TALLY" 9)
    (i_WORST : IntAt K "WORST" 10)
    (i_REFUSED : IntAt K "REFUSED" (-1))
    (i_NO_STACK : IntAt K "NO_STACK" (-9))
    (i_MOST_ALL_PLAIN : IntAt K "MOST_ALL_PLAIN" 5)
    (i_MOST_ALL_SIDED : IntAt K "MOST_ALL_SIDED" 3)
    (b_len : PySem.W.nsIn K mainGlobals "len" = some none)
    (b_min : PySem.W.nsIn K mainGlobals "min" = some none)
    (b_max : PySem.W.nsIn K mainGlobals "max" = some none)
    (b_sorted : PySem.W.nsIn K mainGlobals "sorted" = some none)
    (b_list : PySem.W.nsIn K mainGlobals "list" = some none)
    (b_range : PySem.W.nsIn K mainGlobals "range" = some none)
    (b_tuple : PySem.W.nsIn K mainGlobals "tuple" = some none)
    (b_abs : PySem.W.nsIn K mainGlobals "abs" = some none)
    (b_zip : PySem.W.nsIn K mainGlobals "zip" = some none)
    (b_int : PySem.W.nsIn K mainGlobals "int" = some none)
    (b_all : PySem.W.nsIn K mainGlobals "all" = some none)
    (t_P : TupAt K "PLAIN_NUMBERS" Pk.plainN)
    (t_L : TupAt K "LISTS" Pk.listsN)
    (aC : PySem.W.nsIn K mainGlobals "Pan" = some (some (.ref C)))
    (pg : PySem.W.plainGet K C Str.empty = true)
    (hd : PySem.W.hasDictIn K C = true)
    (po : PySem.W.plainOver K C = true)
    (sa : PySem.W.findIn K (.ref C) "__setattr__" = some (some (.builtin "object.__setattr__")))
    (mk : PySem.W.makesIn K C = true)
    (kc : PySem.W.keepIn K (.ref C) = true)
    (n_stack : PySem.W.findIn K (.ref C) "stack" = some none)
    (n_sides : PySem.W.findIn K (.ref C) "sides" = some none)
    (n_flips : PySem.W.findIn K (.ref C) "flips" = some none)
    (n_known : PySem.W.findIn K (.ref C) "known" = some none) :
    ∃ fd : FuncData, (∀ (s : Shared) (us : List Value), us.length = (["calls"] : List Str).length → BindsTo s fd ⟨us, []⟩ ((["calls"] : List Str).zip us)) ∧ ∀ base : Heap, K.In base → base.Ns mainGlobals mg → FnOk P w K mg base CX0 9 fa fd ["calls"] (spAnswers K) := by
  have T : Bi mg := ⟨PySem.W.mg_none_of X G b_len, PySem.W.mg_none_of X G b_min, PySem.W.mg_none_of X G b_max, PySem.W.mg_none_of X G b_sorted, PySem.W.mg_none_of X G b_list, PySem.W.mg_none_of X G b_range, PySem.W.mg_none_of X G b_tuple, PySem.W.mg_none_of X G b_abs, PySem.W.mg_none_of X G b_zip, PySem.W.mg_none_of X G b_int, PySem.W.mg_none_of X G b_all⟩
  have N : Pn K mg C := ⟨⟨pg, hd, po, sa⟩, n_stack, n_sides, n_flips, n_known, PySem.W.mg_of X G aC⟩
  have g_MOST_PLAIN := i_MOST_PLAIN.isG X G
  have g_MOST_SIDED := i_MOST_SIDED.isG X G
  have g_MOST_FLIPS_A_SIZE := i_MOST_FLIPS_A_SIZE.isG X G
  have g_MOST_ROUNDS := i_MOST_ROUNDS.isG X G
  have g_NEVER := i_NEVER.isG X G
  have g_BEGIN := i_BEGIN.isG X G
  have g_FLIP := i_FLIP.isG X G
  have g_LOOK := i_LOOK.isG X G
  have g_GAPS := i_GAPS.isG X G
  have g_FEWEST := i_FEWEST.isG X G
  have g_USUAL := i_USUAL.isG X G
  have g_TRY := i_TRY.isG X G
  have g_SAME := i_SAME.isG X G
  have g_TALLY := i_TALLY.isG X G
  have g_WORST := i_WORST.isG X G
  have g_REFUSED := i_REFUSED.isG X G
  have g_NO_STACK := i_NO_STACK.isG X G
  have g_MOST_ALL_PLAIN := i_MOST_ALL_PLAIN.isG X G
  have g_MOST_ALL_SIDED := i_MOST_ALL_SIDED.isG X G
  have tP := t_P.isT X G
  have tL := t_L.isT X G
  have f_is_stack := d_is_stack.fd (ps := ["sizes", "sides"]) X G (fun _ _ _ _ _ _ us hl => match us, hl with | [_, _], _ => rfl)
  have f_sorted_stack := d_sorted_stack.fd (ps := ["many"]) X G (fun _ _ _ _ _ _ us hl => match us, hl with | [_], _ => rfl)
  have f_flipped := d_flipped.fd (ps := ["stack", "flip", "sides"]) X G (fun _ _ _ _ _ _ us hl => match us, hl with | [_, _, _], _ => rfl)
  have f_is_gap := d_is_gap.fd (ps := ["upper", "lower", "sides"]) X G (fun _ _ _ _ _ _ us hl => match us, hl with | [_, _, _], _ => rfl)
  have f_gaps_in := d_gaps_in.fd (ps := ["stack", "sides"]) X G (fun _ _ _ _ _ _ us hl => match us, hl with | [_, _], _ => rfl)
  have f_place_of := d_place_of.fd (ps := ["stack", "size"]) X G (fun _ _ _ _ _ _ us hl => match us, hl with | [_, _], _ => rfl)
  have f_order_of := d_order_of.fd (ps := ["stack"]) X G (fun _ _ _ _ _ _ us hl => match us, hl with | [_], _ => rfl)
  have f_useful_flips := d_useful_flips.fd (ps := ["many", "sides"]) X G (fun _ _ _ _ _ _ us hl => match us, hl with | [_, _], _ => rfl)
  have f_next_layer := d_next_layer.fd (ps := ["far", "layer", "many", "sides"]) X G (fun _ _ _ _ _ _ us hl => match us, hl with | [_, _, _, _], _ => rfl)
  have f_far_of := d_far_of.fd (ps := ["many", "sides"]) X G (fun _ _ _ _ _ _ us hl => match us, hl with | [_, _], _ => rfl)
  have f_nearer_flip := d_nearer_flip.fd (ps := ["far", "stack", "sides"]) X G (fun _ _ _ _ _ _ us hl => match us, hl with | [_, _, _], _ => rfl)
  have f_fewest_row := d_fewest_row.fd (ps := ["far", "stack", "sides"]) X G (fun _ _ _ _ _ _ us hl => match us, hl with | [_, _, _], _ => rfl)
  have f_counts_of := d_counts_of.fd (ps := ["far"]) X G (fun _ _ _ _ _ _ us hl => match us, hl with | [_], _ => rfl)
  have f_first_worst := d_first_worst.fd (ps := ["far"]) X G (fun _ _ _ _ _ _ us hl => match us, hl with | [_], _ => rfl)
  have f_fits := d_fits.fd (ps := ["row", "stack"]) X G (fun _ _ _ _ _ _ us hl => match us, hl with | [_, _], _ => rfl)
  have f_done := d_done.fd (ps := ["stack", "row", "sides"]) X G (fun _ _ _ _ _ _ us hl => match us, hl with | [_, _, _], _ => rfl)
  have f_rounds_of := d_rounds_of.fd (ps := ["stack", "row", "sides"]) X G (fun _ _ _ _ _ _ us hl => match us, hl with | [_, _, _], _ => rfl)
  have f_put_in_place := d_put_in_place.fd (ps := ["stack", "size", "sides"]) X G (fun _ _ _ _ _ _ us hl => match us, hl with | [_, _, _], _ => rfl)
  have f_usual_row := d_usual_row.fd (ps := ["stack", "sides"]) X G (fun _ _ _ _ _ _ us hl => match us, hl with | [_, _], _ => rfl)
  have f_begun := d_begun.fd (ps := ["pan", "sides", "sizes"]) X G (fun _ _ _ _ _ _ us hl => match us, hl with | [_, _, _], _ => rfl)
  have f_flipped_now := d_flipped_now.fd (ps := ["pan", "flip"]) X G (fun _ _ _ _ _ _ us hl => match us, hl with | [_, _], _ => rfl)
  have f_told_row := d_told_row.fd (ps := ["row"]) X G (fun _ _ _ _ _ _ us hl => match us, hl with | [_], _ => rfl)
  have f_best_row := d_best_row.fd (ps := ["pan"]) X G (fun _ _ _ _ _ _ us hl => match us, hl with | [_], _ => rfl)
  have f_hinted := d_hinted.fd (ps := ["pan"]) X G (fun _ _ _ _ _ _ us hl => match us, hl with | [_], _ => rfl)
  have f_looked := d_looked.fd (ps := ["pan"]) X G (fun _ _ _ _ _ _ us hl => match us, hl with | [_], _ => rfl)
  have f_asked_plainly := d_asked_plainly.fd (ps := ["pan", "call"]) X G (fun _ _ _ _ _ _ us hl => match us, hl with | [_, _], _ => rfl)
  have f_tried := d_tried.fd (ps := ["pan", "row"]) X G (fun _ _ _ _ _ _ us hl => match us, hl with | [_, _], _ => rfl)
  have f_alike := d_alike.fd (ps := ["pan", "one", "other"]) X G (fun _ _ _ _ _ _ us hl => match us, hl with | [_, _, _], _ => rfl)
  have f_asked_by_rows := d_asked_by_rows.fd (ps := ["pan", "call", "rows"]) X G (fun _ _ _ _ _ _ us hl => match us, hl with | [_, _, _], _ => rfl)
  have f_is_small := d_is_small.fd (ps := ["sides", "many"]) X G (fun _ _ _ _ _ _ us hl => match us, hl with | [_, _], _ => rfl)
  have f_asked_of_all := d_asked_of_all.fd (ps := ["pan", "call", "sides", "many"]) X G (fun _ _ _ _ _ _ us hl => match us, hl with | [_, _, _, _], _ => rfl)
  have f_answer := d_answer.fd (ps := ["pan", "call", "numbers", "lists"]) X G (fun _ _ _ _ _ _ us hl => match us, hl with | [_, _, _, _], _ => rfl)
  have f_lists_at := d_lists_at.fd (ps := ["calls", "at", "many"]) X G (fun _ _ _ _ _ _ us hl => match us, hl with | [_, _, _], _ => rfl)
  have f_call_at := d_call_at.fd (ps := ["calls", "at"]) X G (fun _ _ _ _ _ _ us hl => match us, hl with | [_, _], _ => rfl)
  obtain ⟨ff, oc, od, kV, dc, pm, an, cd, ct, sl, a0, l0, c0, k0⟩ := d_answers.ex
  have e := hfa.symm.trans (PySem.W.mg_of X G a0)
  cases e
  have FA := fun_mk (st := stAll2) l0 c0 k0
  obtain ⟨fI, ocI, odI, kVI, dcI, pmI, anI, cdI, ctI, slI, aI, iI, lI, cI, kI⟩ := m_init.ex
  have FI := fun_mk (st := stInit) lI cI kI
  have bI := FI.binds (ps := ["self"]) (fun _ _ _ _ _ _ us hl => match us, hl with | [_], _ => rfl)
  refine ⟨PySem.W.fnOf "answers" "answers" (defArgs stAll2) (defBody stAll2) (defScope stAll2) .none kV dc pm an cd ct, fun s us hu => match us, hu with | [_], _ => .of_eq rfl, fun base _ _ => ?_⟩
  have r_flipped : Df P w K mg base "flipped" 1 _ _ := f_flipped.df fun F => ok_flipped F T
  have r_sorted : Df P w K mg base "sorted_stack" 1 _ _ := f_sorted_stack.df fun F => ok_sorted F T
  have r_gap : Df P w K mg base "is_gap" 1 _ _ := f_is_gap.df fun F => ok_gap F T
  have r_gaps : Df P w K mg base "gaps_in" 2 _ _ := f_gaps_in.df fun F => ok_gaps F T r_gap
  have r_place : Df P w K mg base "place_of" 1 _ _ := f_place_of.df fun F => ok_place F T
  have r_order : Df P w K mg base "order_of" 1 _ _ := f_order_of.df fun F => ok_order F T
  have r_is : Df P w K mg base "is_stack" 1 _ _ := f_is_stack.df fun F => ok_is F T g_MOST_PLAIN g_MOST_SIDED
  have r_use : Df P w K mg base "useful_flips" 1 _ _ := f_useful_flips.df fun F => ok_use F T
  have r_next : Df P w K mg base "next_layer" 2 _ _ := f_next_layer.df fun F => ok_next F T r_use r_flipped
  have r_far : Df P w K mg base "far_of" 3 _ _ := f_far_of.df fun F => ok_far F T g_MOST_FLIPS_A_SIZE r_sorted r_next
  have r_near : Df P w K mg base "nearer_flip" 2 _ _ := f_nearer_flip.df fun F => ok_near F T r_use r_flipped
  have r_few : Df P w K mg base "fewest_row" 3 _ _ := f_fewest_row.df fun F => ok_few F T r_near r_flipped
  have r_cnt : Df P w K mg base "counts_of" 1 _ _ := f_counts_of.df fun F => ok_cnt F T
  have r_worst : Df P w K mg base "first_worst" 2 _ _ := f_first_worst.df fun F => ok_worst F T r_order
  have r_fits : Df P w K mg base "fits" 1 _ _ := f_fits.df fun F => ok_fits F T
  have r_done : Df P w K mg base "done" 2 _ _ := f_done.df fun F => ok_done F T r_flipped
  have r_rounds : Df P w K mg base "rounds_of" 3 _ _ := f_rounds_of.df fun F => ok_rounds F T g_MOST_ROUNDS g_NEVER r_done
  have r_put : Df P w K mg base "put_in_place" 3 _ _ := f_put_in_place.df fun F => ok_put F T r_place r_done
  have r_usual : Df P w K mg base "usual_row" 4 _ _ := f_usual_row.df fun F => ok_usual F T r_put r_done
  have r_told : Df P w K mg base "told_row" 1 _ _ := f_told_row.df fun F => ok_told F T
  have r_looked : Df P w K mg base "looked" 1 _ _ := f_looked.df fun F => ok_looked F T N
  have r_lay : Md P w K mg base C "lay" 1 ["self", "stack", "sides"] (spLay C) := m_lay.md (fun _ _ _ _ _ _ us hl => match us, hl with | [_, _, _], _ => rfl) fun F => ok_lay F N
  have r_turn : Md P w K mg base C "turn" 2 ["self", "flip"] (spTurn C) := m_turn.md (fun _ _ _ _ _ _ us hl => match us, hl with | [_, _], _ => rfl) fun F => ok_turn F N r_flipped
  have r_far_for : Md P w K mg base C "far_for" 4 ["self", "many", "sides"] (spFF C) := m_far_for.md (fun _ _ _ _ _ _ us hl => match us, hl with | [_, _, _], _ => rfl) fun F => ok_ff F N r_far
  have r_best : Df P w K mg base "best_row" 5 _ _ := f_best_row.df fun F => ok_best F T N r_far_for r_few
  have r_hint : Df P w K mg base "hinted" 6 _ _ := f_hinted.df fun F => ok_hint F T r_best
  have r_plain : Df P w K mg base "asked_plainly" 7 _ _ := f_asked_plainly.df fun F => ok_plain F T N g_LOOK g_GAPS g_FEWEST g_USUAL r_looked r_gaps r_told r_best r_usual r_hint
  have r_tried : Df P w K mg base "tried" 3 _ _ := f_tried.df fun F => ok_tried F T N r_done r_gaps
  have r_alike : Df P w K mg base "alike" 3 _ _ := f_alike.df fun F => ok_alike F T N r_done
  have r_rows : Df P w K mg base "asked_by_rows" 4 _ _ := f_asked_by_rows.df fun F => ok_rows F T N g_REFUSED g_TRY g_SAME r_fits r_tried r_alike r_rounds
  have r_small : Df P w K mg base "is_small" 1 _ _ := f_is_small.df fun F => ok_small F g_MOST_ALL_PLAIN g_MOST_ALL_SIDED
  have r_all : Df P w K mg base "asked_of_all" 5 _ _ := f_asked_of_all.df fun F => ok_all F T N g_REFUSED g_TALLY r_small r_far_for r_cnt r_worst
  have r_begun : Df P w K mg base "begun" 2 _ _ := f_begun.df fun F => ok_begun F T N g_REFUSED r_is r_lay
  have r_fn : Df P w K mg base "flipped_now" 3 _ _ := f_flipped_now.df fun F => ok_fn F T N g_REFUSED r_turn r_gaps
  have r_ans : Df P w K mg base "answer" 8 _ _ := f_answer.df fun F => ok_ans F T N g_BEGIN g_TALLY g_WORST g_NO_STACK g_FLIP r_begun r_all r_fn r_rows r_plain
  have r_lists : Df P w K mg base "lists_at" 1 _ _ := f_lists_at.df fun F => ok_lists F T
  have r_call : Df P w K mg base "call_at" 2 _ _ := f_call_at.df fun F => ok_call F T tP tL r_lists
  exact ok_answers FA T N ⟨mk, aI, iI, kc⟩ FI bI r_call r_ans
end Pw
open PySem PySem.W PyProof.Rows
set_option maxRecDepth 100000 in
set_option maxHeartbeats 0 in
theorem PySem.Challenge.cw_panstack_s01_answers_holds : PySem.Challenge.rw_panstack_s01_answers.Holds := by
  w_on; k_headS; (case hw => exact ⟨[.list [.int 2]], by decide +kernel, by decide +kernel⟩)
  k_fillS
  refine L2.walk_specK (r := PySem.Challenge.rw_panstack_s01_answers) (k := 9) (CX := L2.CX0) (ps := ["calls"]) (sp := Pw.spAnswers) (by decide +kernel) rfl rfl ⟨rfl, by decide, by decide⟩ (fun w h Y => PySem.W.kIn_of Y) ?F ?S (fun _ _ _ _ z => z)
  case F =>
    intro w mg fa h Y KX G hmg
    refine' Pw.all_mk KX G hmg ?d_is_stack ?d_sorted_stack ?d_flipped ?d_is_gap ?d_gaps_in ?d_place_of ?d_order_of ?d_useful_flips ?d_next_layer ?d_far_of ?d_nearer_flip ?d_fewest_row ?d_counts_of ?d_first_worst ?d_fits ?d_done ?d_rounds_of ?d_put_in_place ?d_usual_row ?d_begun ?d_flipped_now ?d_told_row ?d_best_row ?d_hinted ?d_looked ?d_asked_plainly ?d_tried ?d_alike ?d_asked_by_rows ?d_is_small ?d_asked_of_all ?d_answer ?d_lists_at ?d_call_at ?d_answers ?m_init ?m_lay ?m_turn ?m_far_for ?i_MOST_PLAIN ?i_MOST_SIDED ?i_MOST_FLIPS_A_SIZE ?i_MOST_ROUNDS ?i_NEVER ?i_BEGIN ?i_FLIP ?i_LOOK ?i_GAPS ?i_FEWEST ?i_USUAL ?i_TRY ?i_SAME ?i_TALLY ?i_WORST ?i_REFUSED ?i_NO_STACK ?i_MOST_ALL_PLAIN ?i_MOST_ALL_SIDED ?b_len ?b_min ?b_max ?b_sorted ?b_list ?b_range ?b_tuple ?b_abs ?b_zip ?b_int ?b_all ?t_P ?t_L ?aC ?pg ?hd ?po ?sa ?mk ?kc ?n_stack ?n_sides ?n_flips ?n_known
    (case aC => k_is)
    (case d_is_stack => (refine' Pw.FnAt.mk' ?a ?l ?c ?k); (case a => k_is); (case l => k_is); (case c => k_is); (case k => k_is))
    (case d_sorted_stack => (refine' Pw.FnAt.mk' ?a ?l ?c ?k); (case a => k_is); (case l => k_is); (case c => k_is); (case k => k_is))
    (case d_flipped => (refine' Pw.FnAt.mk' ?a ?l ?c ?k); (case a => k_is); (case l => k_is); (case c => k_is); (case k => k_is))
    (case d_is_gap => (refine' Pw.FnAt.mk' ?a ?l ?c ?k); (case a => k_is); (case l => k_is); (case c => k_is); (case k => k_is))
    (case d_gaps_in => (refine' Pw.FnAt.mk' ?a ?l ?c ?k); (case a => k_is); (case l => k_is); (case c => k_is); (case k => k_is))
    (case d_place_of => (refine' Pw.FnAt.mk' ?a ?l ?c ?k); (case a => k_is); (case l => k_is); (case c => k_is); (case k => k_is))
    (case d_order_of => (refine' Pw.FnAt.mk' ?a ?l ?c ?k); (case a => k_is); (case l => k_is); (case c => k_is); (case k => k_is))
    (case d_useful_flips => (refine' Pw.FnAt.mk' ?a ?l ?c ?k); (case a => k_is); (case l => k_is); (case c => k_is); (case k => k_is))
    (case d_next_layer => (refine' Pw.FnAt.mk' ?a ?l ?c ?k); (case a => k_is); (case l => k_is); (case c => k_is); (case k => k_is))
    (case d_far_of => (refine' Pw.FnAt.mk' ?a ?l ?c ?k); (case a => k_is); (case l => k_is); (case c => k_is); (case k => k_is))
    (case d_nearer_flip => (refine' Pw.FnAt.mk' ?a ?l ?c ?k); (case a => k_is); (case l => k_is); (case c => k_is); (case k => k_is))
    (case d_fewest_row => (refine' Pw.FnAt.mk' ?a ?l ?c ?k); (case a => k_is); (case l => k_is); (case c => k_is); (case k => k_is))
    (case d_counts_of => (refine' Pw.FnAt.mk' ?a ?l ?c ?k); (case a => k_is); (case l => k_is); (case c => k_is); (case k => k_is))
    (case d_first_worst => (refine' Pw.FnAt.mk' ?a ?l ?c ?k); (case a => k_is); (case l => k_is); (case c => k_is); (case k => k_is))
    (case d_fits => (refine' Pw.FnAt.mk' ?a ?l ?c ?k); (case a => k_is); (case l => k_is); (case c => k_is); (case k => k_is))
    (case d_done => (refine' Pw.FnAt.mk' ?a ?l ?c ?k); (case a => k_is); (case l => k_is); (case c => k_is); (case k => k_is))
    (case d_rounds_of => (refine' Pw.FnAt.mk' ?a ?l ?c ?k); (case a => k_is); (case l => k_is); (case c => k_is); (case k => k_is))
    (case d_put_in_place => (refine' Pw.FnAt.mk' ?a ?l ?c ?k); (case a => k_is); (case l => k_is); (case c => k_is); (case k => k_is))
    (case d_usual_row => (refine' Pw.FnAt.mk' ?a ?l ?c ?k); (case a => k_is); (case l => k_is); (case c => k_is); (case k => k_is))
    (case d_begun => (refine' Pw.FnAt.mk' ?a ?l ?c ?k); (case a => k_is); (case l => k_is); (case c => k_is); (case k => k_is))
    (case d_flipped_now => (refine' Pw.FnAt.mk' ?a ?l ?c ?k); (case a => k_is); (case l => k_is); (case c => k_is); (case k => k_is))
    (case d_told_row => (refine' Pw.FnAt.mk' ?a ?l ?c ?k); (case a => k_is); (case l => k_is); (case c => k_is); (case k => k_is))
    (case d_best_row => (refine' Pw.FnAt.mk' ?a ?l ?c ?k); (case a => k_is); (case l => k_is); (case c => k_is); (case k => k_is))
    (case d_hinted => (refine' Pw.FnAt.mk' ?a ?l ?c ?k); (case a => k_is); (case l => k_is); (case c => k_is); (case k => k_is))
    (case d_looked => (refine' Pw.FnAt.mk' ?a ?l ?c ?k); (case a => k_is); (case l => k_is); (case c => k_is); (case k => k_is))
    (case d_asked_plainly => (refine' Pw.FnAt.mk' ?a ?l ?c ?k); (case a => k_is); (case l => k_is); (case c => k_is); (case k => k_is))
    (case d_tried => (refine' Pw.FnAt.mk' ?a ?l ?c ?k); (case a => k_is); (case l => k_is); (case c => k_is); (case k => k_is))
    (case d_alike => (refine' Pw.FnAt.mk' ?a ?l ?c ?k); (case a => k_is); (case l => k_is); (case c => k_is); (case k => k_is))
    (case d_asked_by_rows => (refine' Pw.FnAt.mk' ?a ?l ?c ?k); (case a => k_is); (case l => k_is); (case c => k_is); (case k => k_is))
    (case d_is_small => (refine' Pw.FnAt.mk' ?a ?l ?c ?k); (case a => k_is); (case l => k_is); (case c => k_is); (case k => k_is))
    (case d_asked_of_all => (refine' Pw.FnAt.mk' ?a ?l ?c ?k); (case a => k_is); (case l => k_is); (case c => k_is); (case k => k_is))
    (case d_answer => (refine' Pw.FnAt.mk' ?a ?l ?c ?k); (case a => k_is); (case l => k_is); (case c => k_is); (case k => k_is))
    (case d_lists_at => (refine' Pw.FnAt.mk' ?a ?l ?c ?k); (case a => k_is); (case l => k_is); (case c => k_is); (case k => k_is))
    (case d_call_at => (refine' Pw.FnAt.mk' ?a ?l ?c ?k); (case a => k_is); (case l => k_is); (case c => k_is); (case k => k_is))
    (case d_answers => (refine' Pw.FnAt.mk' ?a ?l ?c ?k); (case a => k_is); (case l => k_is); (case c => k_is); (case k => k_is))
    (case m_init => (refine' Pw.MtAt.mk' ?a ?i ?l ?c ?k); (case a => k_is); (case i => k_is); (case l => k_is); (case c => k_is); (case k => k_is))
    (case m_lay => (refine' Pw.MtAt.mk' ?a ?i ?l ?c ?k); (case a => k_is); (case i => k_is); (case l => k_is); (case c => k_is); (case k => k_is))
    (case m_turn => (refine' Pw.MtAt.mk' ?a ?i ?l ?c ?k); (case a => k_is); (case i => k_is); (case l => k_is); (case c => k_is); (case k => k_is))
    (case m_far_for => (refine' Pw.MtAt.mk' ?a ?i ?l ?c ?k); (case a => k_is); (case i => k_is); (case l => k_is); (case c => k_is); (case k => k_is))
    (case i_MOST_PLAIN => (refine' Pw.IntAt.mk' ?a); (case a => k_is))
    (case i_MOST_SIDED => (refine' Pw.IntAt.mk' ?a); (case a => k_is))
    (case i_MOST_FLIPS_A_SIZE => (refine' Pw.IntAt.mk' ?a); (case a => k_is))
    (case i_MOST_ROUNDS => (refine' Pw.IntAt.mk' ?a); (case a => k_is))
    (case i_NEVER => (refine' Pw.IntAt.mk' ?a); (case a => k_is))
    (case i_BEGIN => (refine' Pw.IntAt.mk' ?a); (case a => k_is))
    (case i_FLIP => (refine' Pw.IntAt.mk' ?a); (case a => k_is))
    (case i_LOOK => (refine' Pw.IntAt.mk' ?a); (case a => k_is))
    (case i_GAPS => (refine' Pw.IntAt.mk' ?a); (case a => k_is))
    (case i_FEWEST => (refine' Pw.IntAt.mk' ?a); (case a => k_is))
    (case i_USUAL => (refine' Pw.IntAt.mk' ?a); (case a => k_is))
    (case i_TRY => (refine' Pw.IntAt.mk' ?a); (case a => k_is))
    (case i_SAME => (refine' Pw.IntAt.mk' ?a); (case a => k_is))
    (case i_TALLY => (refine' Pw.IntAt.mk' ?a); (case a => k_is))
    (case i_WORST => (refine' Pw.IntAt.mk' ?a); (case a => k_is))
    (case i_REFUSED => (refine' Pw.IntAt.mk' ?a); (case a => k_is))
    (case i_NO_STACK => (refine' Pw.IntAt.mk' ?a); (case a => k_is))
    (case i_MOST_ALL_PLAIN => (refine' Pw.IntAt.mk' ?a); (case a => k_is))
    (case i_MOST_ALL_SIDED => (refine' Pw.IntAt.mk' ?a); (case a => k_is))
    (case b_len => k_is)
    (case b_min => k_is)
    (case b_max => k_is)
    (case b_sorted => k_is)
    (case b_list => k_is)
    (case b_range => k_is)
    (case b_tuple => k_is)
    (case b_abs => k_is)
    (case b_zip => k_is)
    (case b_int => k_is)
    (case b_all => k_is)
    (case t_P => (refine' Pw.TupAt.mk' ?a ?l ?z ?r); (case a => k_is); (case l => k_is); (case z => decide); (case r => repeat (first | exact .nil | refine .cons ⟨_, rfl⟩ ?_)))
    (case t_L => (refine' Pw.TupAt.mk' ?a ?l ?z ?r); (case a => k_is); (case l => k_is); (case z => decide); (case r => repeat (first | exact .nil | refine .cons ⟨_, rfl⟩ ?_)))
    (case pg => k_is)
    (case hd => k_is)
    (case po => k_is)
    (case sa => k_is)
    (case mk => k_is)
    (case kc => k_is)
    (case n_stack => k_is)
    (case n_sides => k_is)
    (case n_flips => k_is)
    (case n_known => k_is)
  case S =>
    intro K H xs a hO hwi hask hx
    cases hx with
    | cons h1 h2 =>
      cases h2
      cases h1 with
      | lst hs ha =>
        have e := L2.ints_dw a.1 _ ha
        subst e
        have q : ((Codec.inLen 0 4920 a.1 && a.1.all (Codec.inInt (-20) 60)) && true) = true := hwi
        rw [Bool.and_eq_true, Bool.and_eq_true] at q
        exact ⟨_, a.1, rfl, hs, (Codec.inNat_iff.mp q.1.1).2, hask, fun H' p hp => .lst (L2.SqL.of hp) (L2.dw_ints _)⟩
#print axioms PySem.Challenge.cw_panstack_s01_answers_holds
