/- slices.Sort and slices.Compact at whole numbers, called with a row of the call's own, leave the sorted row, and hand back the row without repeats. The library's own contracts, told in the printed proofs' words. -/
import Derived.Test.YtdaofiiedclmpaaSortLay
import Derived.Sort.OwnSortedInts
import Derived.Test.YtdaofiiedclmpaaWMore
import Derived.Test.YtdaofiiedclmpaaWLast
namespace Go.Proofs.Ytdaofiiedclmpaa.Srt
open Go.RowKit Go.Sort Go.Proofs.YtdaofiiedclmpaaW.PrintWords Go.Proofs.YtdaofiiedclmpaaW.PrintLast
def sorted (xs : List Int) : List Int := xs.mergeSort fun x y => decide (x ≤ y)
theorem sorted_length (xs : List Int) : (sorted xs).length = xs.length := by simp [sorted]
theorem sort_row {w0 w : World} {v : Value} {xs : List Int} (hl : xs.length < 4611686018427387904) (hB : Below w0.heap.size w0 w) (h : Kd.R (Kd.int .i64) 3 w w0.heap.size (fun _ => True) v xs) :
    Calls Try.prog 68 #[v] w fun E w' => E = .returned (.tuple #[]) ∧ Kd.R (Kd.int .i64) 3 w' w0.heap.size (fun _ => True) v (sorted xs) ∧ Below w0.heap.size w0 w' := by
  obtain ⟨_, h1⟩ := Kd.own_of_R (enc := Value.int .i64) h
  rcases h1 with ⟨rfl, hn⟩ | ⟨g, cap, cur, rfl, hg, hb, hn, hc, hs, ht⟩
  · have hx : xs = [] := List.eq_nil_of_length_eq_zero hn
    subst hx
    have hq : Calls Try.prog 68 #[.slice none 0 0] w fun e w' => e = .returned (.tuple #[]) ∧ w' = w := Any.slices_Sort_int_none Try.lays189 none 0 w
    refine hq.mono ?_
    rintro E w' ⟨rfl, rfl⟩
    exact ⟨rfl, by simpa [sorted] using h, hB⟩
  · have hlt : g < w.heap.size := (Array.getElem?_eq_some_iff.1 hb).1
    have hq : Calls Try.prog 68 #[.slice (some ⟨g, 0, none⟩) xs.length cap] w fun e w' => e = .returned (.tuple #[]) ∧ ∃ n os, w' = grow (putRow (Value.int .i64) (Sort.ahead w n) g 0 (sorted xs).toArray) os :=
      Any.slices_Sort_int Try.lays189 g 0 cap xs w (holds_of_blockI hb (by simpa [encs] using ht)) hlt hl
    refine hq.mono ?_
    rintro E w' ⟨rfl, n, os, rfl⟩
    refine ⟨rfl, Kd.R_of_own (enc := Value.int .i64) ?_ (fun _ _ => trivial), ?_⟩
    · have := ownsRow_sortedI (n := n) (os := os) (ss := xs) (ts := sorted xs) (sorted_length xs) hg hb hn hc (by simpa using hs)
      rw [sorted_length]
      exact this
    · refine hB.grown (grownBy_sortedI (sorted xs).toArray) hB.size ?_
      rintro k hk
      injection hk with hk
      omega
theorem compact_row {w0 w : World} {v : Value} {xs : List Int} (hB : Below w0.heap.size w0 w) (h : Kd.R (Kd.int .i64) 3 w w0.heap.size (fun _ => True) v xs) :
    Calls Try.prog 69 #[v] w fun E w' => ∃ v', E = .returned v' ∧ Kd.R (Kd.int .i64) 3 w' w0.heap.size (fun _ => True) v' (Lib.compact xs) ∧ Below w0.heap.size w0 w' := by
  obtain ⟨_, h1⟩ := Kd.own_of_R (enc := Value.int .i64) h
  rcases h1 with ⟨rfl, hn⟩ | ⟨g, cap, cur, rfl, hg, hb, hn, hc, hs, ht⟩
  · have hx : xs = [] := List.eq_nil_of_length_eq_zero hn
    subst hx
    have hq : Calls Try.prog 69 #[.slice none 0 0] w fun e w' => e = .returned (.slice none 0 0) ∧ w' = w := Any.slices_Compact_int_empty Try.laysNm220 none 0 w
    refine hq.mono ?_
    rintro E w' ⟨rfl, rfl⟩
    exact ⟨_, rfl, by simpa [Lib.compact, Lib.compactUpTo] using h, hB⟩
  · have hcl : (Lib.compact xs).length ≤ xs.length := by
      unfold Lib.compact Lib.compactUpTo
      rw [List.length_map]
      exact Nat.le_trans (List.length_filter_le _ _) (by simp)
    have hcall : Calls Try.prog 69 #[.slice (some ⟨g, 0, none⟩) xs.length cap] w fun e w' => e = .returned (.slice (some ⟨g, 0, none⟩) (Lib.compact xs).length cap) ∧ ∃ q, w' = putRow (Value.int .i64) (Sort.ahead w q) g 0 (Lib.compact xs ++ List.replicate (xs.length - (Lib.compact xs).length) 0).toArray :=
      Any.slices_Compact_int Try.laysNm220 g 0 cap xs w (holds_of_blockI hb (by simpa [encs] using ht)) (by unfold maxLen at hc; omega) hn
    refine hcall.mono ?_
    rintro E w' ⟨rfl, q, rfl⟩
    have hlen : (Lib.compact xs ++ List.replicate (xs.length - (Lib.compact xs).length) 0).length = xs.length := by simp; omega
    have hrow := ownsRow_sortedI (n := q) (os := #[]) (ss := xs) (ts := Lib.compact xs ++ List.replicate (xs.length - (Lib.compact xs).length) 0) hlen hg hb hn hc (by simpa using hs)
    have hgr := grownBy_sortedI (w := w) (g := g) (n := q) (os := #[]) (Lib.compact xs ++ List.replicate (xs.length - (Lib.compact xs).length) 0).toArray
    rw [grow_empty] at hrow hgr
    refine ⟨_, rfl, ?_, ?_⟩
    · have hR : Kd.R (Kd.int .i64) 3 _ w0.heap.size (fun _ => True) (.slice (some ⟨g, 0, none⟩) xs.length cap) (Lib.compact xs ++ List.replicate (xs.length - (Lib.compact xs).length) 0) :=
        Kd.R_of_own (enc := Value.int .i64) (by rw [hlen]; exact hrow) (fun _ _ => trivial)
      have := Kd.R_take hR (m := (Lib.compact xs).length) (by rw [hlen]; exact hcl)
      rw [List.take_left'] at this
      · exact this
      · rfl
    · refine hB.grown hgr hB.size ?_
      rintro k hk
      injection hk with hk
      omega
end Go.Proofs.Ytdaofiiedclmpaa.Srt
