-- Printed by the kit's print and repaired by a program of this session.
import Derived.Test.YtgdkmchphpjifaaGreatDoorPFnEndsx0
import Derived.Test.YtgdkmchphpjifaaGreatDoorPFnEndsx3
import Derived.Test.YtgdkmchphpjifaaGreatDoorPFnEndsx10
import Derived.Test.YtgdkmchphpjifaaGreatDoorPFnEndsx12
namespace Go.Proofs.YtgdkmchphpjifaaGreatDoor.PFnEnds
open Go.RowKit Go.Proofs.YtgdkmchphpjifaaGreatDoorW.PrintWords Go.Proofs.YtgdkmchphpjifaaGreatDoorW.PrintLast Go.Proofs.YtgdkmchphpjifaaGreatDoorW.PrintMore
attribute [local go_sem] max2_int min2_int max_two min_two max_three min_three max_four min_four
set_option linter.unusedVariables false
set_option linter.unusedSimpArgs false

/-! ### spec_l01Damage: function 45 -/
def spec_l01Damage.f (s0_0 : List Int) (s0_1 : Int) (s0_2 : Int) (a1 : ByteArray) : Option (ByteArray × Int × Int) := (some (([(⟨#[48]⟩ : ByteArray), (⟨#[49]⟩ : ByteArray), (⟨#[55]⟩ : ByteArray), (⟨#[57]⟩ : ByteArray), (⟨#[46]⟩ : ByteArray), (⟨#[64]⟩ : ByteArray), (⟨#[47]⟩ : ByteArray), (⟨#[45]⟩ : ByteArray), (⟨#[32]⟩ : ByteArray), (⟨#[105]⟩ : ByteArray), (⟨#[10]⟩ : ByteArray)] : List ByteArray) : List ByteArray)).bind fun y402 => ((spec_l01Next.f s0_0 s0_1 s0_2 (y402.length : Int)).bind fun bt405 => (if 0 ≤ bt405.1 then (if bt405.1 < (y402.length : Int) then (if (a1.size : Int) = 0 then (some (rdOf ByteArray.empty y402 bt405.1, bt405.2.1, bt405.2.2)) else ((spec_l01Next.f s0_0 bt405.2.1 bt405.2.2 (a1.size : Int)).bind fun bt409 => ((spec_l01Next.f s0_0 bt409.2.1 bt409.2.2 3).bind fun bt412 => (if bt412.1 = 0 then (if 0 ≤ bt409.1 then (if bt409.1 ≤ (a1.size : Int) then (if (a1.extract 0 (bt409.1 : Int).toNat).size + (rdOf ByteArray.empty y402 bt405.1).size ≤ 9223372036854775807 then (if 0 ≤ (wrap64 (bt409.1 + 1)) then (if (wrap64 (bt409.1 + 1)) ≤ (a1.size : Int) then (if ((a1.extract 0 (bt409.1 : Int).toNat) ++ (rdOf ByteArray.empty y402 bt405.1)).size + (a1.extract ((wrap64 (bt409.1 + 1)) : Int).toNat a1.size).size ≤ 9223372036854775807 then (some (((a1.extract 0 (bt409.1 : Int).toNat) ++ (rdOf ByteArray.empty y402 bt405.1)) ++ (a1.extract ((wrap64 (bt409.1 + 1)) : Int).toNat a1.size), bt412.2.1, bt412.2.2)) else (none)) else (none)) else (none)) else (none)) else (none)) else (none)) else (if bt412.1 = 1 then (if 0 ≤ bt409.1 then (if bt409.1 ≤ (a1.size : Int) then (if 0 ≤ (wrap64 (bt409.1 + 1)) then (if (wrap64 (bt409.1 + 1)) ≤ (a1.size : Int) then (if (a1.extract 0 (bt409.1 : Int).toNat).size + (a1.extract ((wrap64 (bt409.1 + 1)) : Int).toNat a1.size).size ≤ 9223372036854775807 then (some ((a1.extract 0 (bt409.1 : Int).toNat) ++ (a1.extract ((wrap64 (bt409.1 + 1)) : Int).toNat a1.size), bt412.2.1, bt412.2.2)) else (none)) else (none)) else (none)) else (none)) else (none)) else (if 0 ≤ bt409.1 then (if bt409.1 ≤ (a1.size : Int) then (if (a1.extract 0 (bt409.1 : Int).toNat).size + (rdOf ByteArray.empty y402 bt405.1).size ≤ 9223372036854775807 then (if ((a1.extract 0 (bt409.1 : Int).toNat) ++ (rdOf ByteArray.empty y402 bt405.1)).size + (a1.extract (bt409.1 : Int).toNat a1.size).size ≤ 9223372036854775807 then (some (((a1.extract 0 (bt409.1 : Int).toNat) ++ (rdOf ByteArray.empty y402 bt405.1)) ++ (a1.extract (bt409.1 : Int).toNat a1.size), bt412.2.1, bt412.2.2)) else (none)) else (none)) else (none)) else (none))))))) else (none)) else (none)))
set_option maxHeartbeats 8000000 in
set_option maxRecDepth 100000 in
theorem spec_l01Damage.calls (g : Nat) (s0_0 : List Int) (s0_1 : Int) (s0_2 : Int) (a1 : ByteArray) (r1 : ByteArray) (r2 : Int) (r3 : Int) (w0 w : World) (hI : IsS79 w0 w g s0_0 s0_1 s0_2) (hB : Below w0.heap.size w0 w) (h : spec_l01Damage.f s0_0 s0_1 s0_2 a1 = some (r1, r2, r3)) :
  Calls Tryz.prog 45 #[.pointer (some ⟨g, 0, none⟩), .string a1] w fun e w' => e = .returned (.string r1) ∧ IsS79 w0 w' g s0_0 r2 r3 ∧ Below w0.heap.size w0 w' ∧ KeepBut w w' g none := by
 have HI0 := Aside0.mk hI
 have HK := Aside0.mk (KeepBut.refl w g none)
 have HL := Aside0.mk hB.size
 clear hI
 have HW0 := Aside0.mk hB.size
 have HB := Aside0.mk hB
 clear hB
 unfold spec_l01Damage.f at h
 have H := h
 clear h
 obtain ⟨y402, hy402⟩ : ∃ y_ : List ByteArray, y_ = (([(⟨#[48]⟩ : ByteArray), (⟨#[49]⟩ : ByteArray), (⟨#[55]⟩ : ByteArray), (⟨#[57]⟩ : ByteArray), (⟨#[46]⟩ : ByteArray), (⟨#[64]⟩ : ByteArray), (⟨#[47]⟩ : ByteArray), (⟨#[45]⟩ : ByteArray), (⟨#[32]⟩ : ByteArray), (⟨#[105]⟩ : ByteArray), (⟨#[10]⟩ : ByteArray)] : List ByteArray)) := ⟨_, rfl⟩
 replace H : ((spec_l01Next.f s0_0 s0_1 s0_2 (y402.length : Int)).bind fun bt405 => (if 0 ≤ bt405.1 then (if bt405.1 < (y402.length : Int) then (if (a1.size : Int) = 0 then (some (rdOf ByteArray.empty y402 bt405.1, bt405.2.1, bt405.2.2)) else ((spec_l01Next.f s0_0 bt405.2.1 bt405.2.2 (a1.size : Int)).bind fun bt409 => ((spec_l01Next.f s0_0 bt409.2.1 bt409.2.2 3).bind fun bt412 => (if bt412.1 = 0 then (if 0 ≤ bt409.1 then (if bt409.1 ≤ (a1.size : Int) then (if (a1.extract 0 (bt409.1 : Int).toNat).size + (rdOf ByteArray.empty y402 bt405.1).size ≤ 9223372036854775807 then (if 0 ≤ (wrap64 (bt409.1 + 1)) then (if (wrap64 (bt409.1 + 1)) ≤ (a1.size : Int) then (if ((a1.extract 0 (bt409.1 : Int).toNat) ++ (rdOf ByteArray.empty y402 bt405.1)).size + (a1.extract ((wrap64 (bt409.1 + 1)) : Int).toNat a1.size).size ≤ 9223372036854775807 then (some (((a1.extract 0 (bt409.1 : Int).toNat) ++ (rdOf ByteArray.empty y402 bt405.1)) ++ (a1.extract ((wrap64 (bt409.1 + 1)) : Int).toNat a1.size), bt412.2.1, bt412.2.2)) else (none)) else (none)) else (none)) else (none)) else (none)) else (none)) else (if bt412.1 = 1 then (if 0 ≤ bt409.1 then (if bt409.1 ≤ (a1.size : Int) then (if 0 ≤ (wrap64 (bt409.1 + 1)) then (if (wrap64 (bt409.1 + 1)) ≤ (a1.size : Int) then (if (a1.extract 0 (bt409.1 : Int).toNat).size + (a1.extract ((wrap64 (bt409.1 + 1)) : Int).toNat a1.size).size ≤ 9223372036854775807 then (some ((a1.extract 0 (bt409.1 : Int).toNat) ++ (a1.extract ((wrap64 (bt409.1 + 1)) : Int).toNat a1.size), bt412.2.1, bt412.2.2)) else (none)) else (none)) else (none)) else (none)) else (none)) else (if 0 ≤ bt409.1 then (if bt409.1 ≤ (a1.size : Int) then (if (a1.extract 0 (bt409.1 : Int).toNat).size + (rdOf ByteArray.empty y402 bt405.1).size ≤ 9223372036854775807 then (if ((a1.extract 0 (bt409.1 : Int).toNat) ++ (rdOf ByteArray.empty y402 bt405.1)).size + (a1.extract (bt409.1 : Int).toNat a1.size).size ≤ 9223372036854775807 then (some (((a1.extract 0 (bt409.1 : Int).toNat) ++ (rdOf ByteArray.empty y402 bt405.1)) ++ (a1.extract (bt409.1 : Int).toNat a1.size), bt412.2.1, bt412.2.2)) else (none)) else (none)) else (none)) else (none))))))) else (none)) else (none))) = some (r1, r2, r3) := by first | exact hy402 ▸ H | exact H
 have Ny402 := Aside0.mk hy402
 clear hy402
 replace H := zi H
 obtain ⟨⟨t405, t406, t407⟩, A3, H⟩ := H
 try dsimp only at H
 replace H := ii H
 rcases H with ⟨c4, H⟩ | ⟨c4, H⟩
 ·have c4b0 := decide_eq_true c4
  clear c4
  replace H := ii H
  rcases H with ⟨c5, H⟩ | ⟨c5, H⟩
  ·have c5b0 := decide_eq_true c5
   clear c5
   replace H := ii H
   rcases H with ⟨c6, H⟩ | ⟨c6, H⟩
   ·obtain ⟨c6b0, c6b1⟩ := zz c6
    clear c6
    simp only [Option.some.injEq, Prod.mk.injEq] at H
    obtain ⟨rfl, rfl, rfl⟩ := H
    go_enter Tryz.func45, Tryz.ntmps45
    go_wp2_with (first | ((with_reducible refine zg 8 rfl ?_); refine Kd.R_lit Kd.string _ 9 ?hg (N := 8) ?hd (xs := ([(⟨#[48]⟩ : ByteArray), (⟨#[49]⟩ : ByteArray), (⟨#[55]⟩ : ByteArray), (⟨#[57]⟩ : ByteArray), (⟨#[46]⟩ : ByteArray), (⟨#[64]⟩ : ByteArray), (⟨#[47]⟩ : ByteArray), (⟨#[45]⟩ : ByteArray), (⟨#[32]⟩ : ByteArray), (⟨#[105]⟩ : ByteArray), (⟨#[10]⟩ : ByteArray)] : List ByteArray)) (inner := [.string (⟨#[48]⟩ : ByteArray), .string (⟨#[49]⟩ : ByteArray), .string (⟨#[55]⟩ : ByteArray), .string (⟨#[57]⟩ : ByteArray), .string (⟨#[46]⟩ : ByteArray), .string (⟨#[64]⟩ : ByteArray), .string (⟨#[47]⟩ : ByteArray), .string (⟨#[45]⟩ : ByteArray), .string (⟨#[32]⟩ : ByteArray), .string (⟨#[105]⟩ : ByteArray), .string (⟨#[10]⟩ : ByteArray)]) (ok := fun _ => True) (okp := fun _ => True) ?hr ?hp (fun _ hk => hk) trivial (Below.refl _ _) (Nat.le_refl _) (by simp) ?_; (case hd => rfl); (case hg => rfl); (case hr => first | (go_simp; done) | (go_simp; rfl)); (case hp => exact (Reps.one (show Kd.M Kd.string _ _ _ (⟨#[48]⟩ : ByteArray) [.string (⟨#[48]⟩ : ByteArray)] from rfl) (Reps.one (show Kd.M Kd.string _ _ _ (⟨#[49]⟩ : ByteArray) [.string (⟨#[49]⟩ : ByteArray)] from rfl) (Reps.one (show Kd.M Kd.string _ _ _ (⟨#[55]⟩ : ByteArray) [.string (⟨#[55]⟩ : ByteArray)] from rfl) (Reps.one (show Kd.M Kd.string _ _ _ (⟨#[57]⟩ : ByteArray) [.string (⟨#[57]⟩ : ByteArray)] from rfl) (Reps.one (show Kd.M Kd.string _ _ _ (⟨#[46]⟩ : ByteArray) [.string (⟨#[46]⟩ : ByteArray)] from rfl) (Reps.one (show Kd.M Kd.string _ _ _ (⟨#[64]⟩ : ByteArray) [.string (⟨#[64]⟩ : ByteArray)] from rfl) (Reps.one (show Kd.M Kd.string _ _ _ (⟨#[47]⟩ : ByteArray) [.string (⟨#[47]⟩ : ByteArray)] from rfl) (Reps.one (show Kd.M Kd.string _ _ _ (⟨#[45]⟩ : ByteArray) [.string (⟨#[45]⟩ : ByteArray)] from rfl) (Reps.one (show Kd.M Kd.string _ _ _ (⟨#[32]⟩ : ByteArray) [.string (⟨#[32]⟩ : ByteArray)] from rfl) (Reps.one (show Kd.M Kd.string _ _ _ (⟨#[105]⟩ : ByteArray) [.string (⟨#[105]⟩ : ByteArray)] from rfl) (Reps.one (show Kd.M Kd.string _ _ _ (⟨#[10]⟩ : ByteArray) [.string (⟨#[10]⟩ : ByteArray)] from rfl) (Reps.none _ _))))))))))))); intro v403 w7 ho8 hb hg_ hnew_; clear hg_ hnew_; (first | rw [← Ny402.out] at ho8 | (simp only [Int.reduceToNat] at ho8; rw [← Ny402.out] at ho8)); have HO404 := Aside0.mk (Kd.R_lower ho8 (keep_size (w := w) (g := g) (row := none) (kl))); replace HK := Aside0.mk (KeepBut.trans (kl) (KeepBut.of_below hb g none) (.inl rfl)); replace HB := Aside0.mk (below_step IsS79.b hb); replace HI0 := Aside0.mk (IsS79.below (IsS79.a) hb); clear hb ho8; obtain ⟨Ao9, co9, eo9⟩ := Kd.R_slice HO404.out; subst eo9) | (go_at_call 44; (with_reducible refine (spec_l01Next.calls g s0_0 s0_1 s0_2 (y402.length : Int) t405 t406 t407 w0 _ ?side1 ?side2 A3.out).mono ?_); (case side1 => exact IsS79.a); (case side2 => exact IsS79.b); rintro e w10 ⟨rfl, hi, hb, hk⟩; replace HO404 := Aside0.mk (Kd.R_mono (Kd.R_keep (IsS79.apart (IsS79.a : IsS79 w0 _ g s0_0 s0_1 s0_2) (by (with_reducible repeat (first | apply Kd.R_alloc | apply Kd.R_drewN | apply Kd.R_drew)); exact HO404.out) (by decide)) hk (fun _ h => h.2)) (fun _ h => h.1)); replace HK := Aside0.mk (KeepBut.trans (kl) hk (.inl rfl)); replace HI0 := Aside0.mk (hi); replace HB := Aside0.mk (hb); (try clear hb hk); have p408 : 0 ≤ (t405 : Int) := of_decide_eq_true (by first | (with_reducible assumption) | assumption); have q408 : t405 < (y402.length : Int) := of_decide_eq_true (by first | (with_reducible assumption) | assumption); obtain ⟨ad408, e408, hx408_0⟩ := Kd.at_string (Kd.R_reads' HO404.out).2.2 t405 p408 q408; cases e408; replace p408 := eq_true p408; replace q408 := eq_true q408))
    repeat (go_quiet (first | (go_at_call 44; (with_reducible refine (spec_l01Next.calls g s0_0 s0_1 s0_2 (y402.length : Int) t405 t406 t407 w0 _ ?side1 ?side2 A3.out).mono ?_); (case side1 => exact IsS79.a); (case side2 => exact IsS79.b); rintro e w10 ⟨rfl, hi, hb, hk⟩; replace HO404 := Aside0.mk (Kd.R_mono (Kd.R_keep (IsS79.apart (IsS79.a : IsS79 w0 _ g s0_0 s0_1 s0_2) (by (with_reducible repeat (first | apply Kd.R_alloc | apply Kd.R_drewN | apply Kd.R_drew)); exact HO404.out) (by decide)) hk (fun _ h => h.2)) (fun _ h => h.1)); replace HK := Aside0.mk (KeepBut.trans (kl) hk (.inl rfl)); replace HI0 := Aside0.mk (hi); replace HB := Aside0.mk (hb); (try clear hb hk); have p408 : 0 ≤ (t405 : Int) := of_decide_eq_true (by first | (with_reducible assumption) | assumption); have q408 : t405 < (y402.length : Int) := of_decide_eq_true (by first | (with_reducible assumption) | assumption); obtain ⟨ad408, e408, hx408_0⟩ := Kd.at_string (Kd.R_reads' HO404.out).2.2 t405 p408 q408; cases e408; replace p408 := eq_true p408; replace q408 := eq_true q408)); try go_wp2_with (first | ((with_reducible refine zg 8 rfl ?_); refine Kd.R_lit Kd.string _ 9 ?hg (N := 8) ?hd (xs := ([(⟨#[48]⟩ : ByteArray), (⟨#[49]⟩ : ByteArray), (⟨#[55]⟩ : ByteArray), (⟨#[57]⟩ : ByteArray), (⟨#[46]⟩ : ByteArray), (⟨#[64]⟩ : ByteArray), (⟨#[47]⟩ : ByteArray), (⟨#[45]⟩ : ByteArray), (⟨#[32]⟩ : ByteArray), (⟨#[105]⟩ : ByteArray), (⟨#[10]⟩ : ByteArray)] : List ByteArray)) (inner := [.string (⟨#[48]⟩ : ByteArray), .string (⟨#[49]⟩ : ByteArray), .string (⟨#[55]⟩ : ByteArray), .string (⟨#[57]⟩ : ByteArray), .string (⟨#[46]⟩ : ByteArray), .string (⟨#[64]⟩ : ByteArray), .string (⟨#[47]⟩ : ByteArray), .string (⟨#[45]⟩ : ByteArray), .string (⟨#[32]⟩ : ByteArray), .string (⟨#[105]⟩ : ByteArray), .string (⟨#[10]⟩ : ByteArray)]) (ok := fun _ => True) (okp := fun _ => True) ?hr ?hp (fun _ hk => hk) trivial (Below.refl _ _) (Nat.le_refl _) (by simp) ?_; (case hd => rfl); (case hg => rfl); (case hr => first | (go_simp; done) | (go_simp; rfl)); (case hp => exact (Reps.one (show Kd.M Kd.string _ _ _ (⟨#[48]⟩ : ByteArray) [.string (⟨#[48]⟩ : ByteArray)] from rfl) (Reps.one (show Kd.M Kd.string _ _ _ (⟨#[49]⟩ : ByteArray) [.string (⟨#[49]⟩ : ByteArray)] from rfl) (Reps.one (show Kd.M Kd.string _ _ _ (⟨#[55]⟩ : ByteArray) [.string (⟨#[55]⟩ : ByteArray)] from rfl) (Reps.one (show Kd.M Kd.string _ _ _ (⟨#[57]⟩ : ByteArray) [.string (⟨#[57]⟩ : ByteArray)] from rfl) (Reps.one (show Kd.M Kd.string _ _ _ (⟨#[46]⟩ : ByteArray) [.string (⟨#[46]⟩ : ByteArray)] from rfl) (Reps.one (show Kd.M Kd.string _ _ _ (⟨#[64]⟩ : ByteArray) [.string (⟨#[64]⟩ : ByteArray)] from rfl) (Reps.one (show Kd.M Kd.string _ _ _ (⟨#[47]⟩ : ByteArray) [.string (⟨#[47]⟩ : ByteArray)] from rfl) (Reps.one (show Kd.M Kd.string _ _ _ (⟨#[45]⟩ : ByteArray) [.string (⟨#[45]⟩ : ByteArray)] from rfl) (Reps.one (show Kd.M Kd.string _ _ _ (⟨#[32]⟩ : ByteArray) [.string (⟨#[32]⟩ : ByteArray)] from rfl) (Reps.one (show Kd.M Kd.string _ _ _ (⟨#[105]⟩ : ByteArray) [.string (⟨#[105]⟩ : ByteArray)] from rfl) (Reps.one (show Kd.M Kd.string _ _ _ (⟨#[10]⟩ : ByteArray) [.string (⟨#[10]⟩ : ByteArray)] from rfl) (Reps.none _ _))))))))))))); intro v403 w7 ho8 hb hg_ hnew_; clear hg_ hnew_; (first | rw [← Ny402.out] at ho8 | (simp only [Int.reduceToNat] at ho8; rw [← Ny402.out] at ho8)); have HO404 := Aside0.mk (Kd.R_lower ho8 (keep_size (w := w) (g := g) (row := none) (kl))); replace HK := Aside0.mk (KeepBut.trans (kl) (KeepBut.of_below hb g none) (.inl rfl)); replace HB := Aside0.mk (below_step IsS79.b hb); replace HI0 := Aside0.mk (IsS79.below (IsS79.a) hb); clear hb ho8; obtain ⟨Ao9, co9, eo9⟩ := Kd.R_slice HO404.out; subst eo9) | (go_at_call 44; (with_reducible refine (spec_l01Next.calls g s0_0 s0_1 s0_2 (y402.length : Int) t405 t406 t407 w0 _ ?side1 ?side2 A3.out).mono ?_); (case side1 => exact IsS79.a); (case side2 => exact IsS79.b); rintro e w10 ⟨rfl, hi, hb, hk⟩; replace HO404 := Aside0.mk (Kd.R_mono (Kd.R_keep (IsS79.apart (IsS79.a : IsS79 w0 _ g s0_0 s0_1 s0_2) (by (with_reducible repeat (first | apply Kd.R_alloc | apply Kd.R_drewN | apply Kd.R_drew)); exact HO404.out) (by decide)) hk (fun _ h => h.2)) (fun _ h => h.1)); replace HK := Aside0.mk (KeepBut.trans (kl) hk (.inl rfl)); replace HI0 := Aside0.mk (hi); replace HB := Aside0.mk (hb); (try clear hb hk); have p408 : 0 ≤ (t405 : Int) := of_decide_eq_true (by first | (with_reducible assumption) | assumption); have q408 : t405 < (y402.length : Int) := of_decide_eq_true (by first | (with_reducible assumption) | assumption); obtain ⟨ad408, e408, hx408_0⟩ := Kd.at_string (Kd.R_reads' HO404.out).2.2 t405 p408 q408; cases e408; replace p408 := eq_true p408; replace q408 := eq_true q408)))
    go_ret
    exact ⟨er, IsS79.a, IsS79.b, kl⟩
   ·obtain ⟨c6b0, c6b1⟩ := zy c6
    replace H := zi H
    obtain ⟨⟨t409, t410, t411⟩, A11, H⟩ := H
    try dsimp only at H
    replace H := zi H
    obtain ⟨⟨t412, t413, t414⟩, A12, H⟩ := H
    try dsimp only at H
    replace H := ii H
    rcases H with ⟨c13, H⟩ | ⟨c13, H⟩
    ·obtain ⟨c13b0, c13b1⟩ := zz c13
     clear c13
     replace H := ii H
     rcases H with ⟨c14, H⟩ | ⟨c14, H⟩
     ·have c14b0 := eq_true c14
      have c14b1 := decide_eq_true c14
      clear c14
      replace H := ii H
      rcases H with ⟨c15, H⟩ | ⟨c15, H⟩
      ·have c15b0 := eq_true c15
       have c15b1 := decide_eq_true c15
       clear c15
       replace H := ii H
       rcases H with ⟨c16, H⟩ | ⟨c16, H⟩
       ·have c16b0 := eq_true c16
        have c16b1 := decide_eq_true c16
        try have c16b2 : (9223372036854775807 < (a1.extract 0 (t409 : Int).toNat).size + (rdOf ByteArray.empty y402 t405).size) = False := eq_false (Nat.not_lt.2 c16)
        obtain ⟨ji17, hji17⟩ : ∃ j_ : Int, (wrap64 (t409 + 1)) = j_ := ⟨_, rfl⟩
        replace H : (if 0 ≤ (ji17) then (if (ji17) ≤ (a1.size : Int) then (if ((a1.extract 0 (t409 : Int).toNat) ++ (rdOf ByteArray.empty y402 t405)).size + (a1.extract ((ji17) : Int).toNat a1.size).size ≤ 9223372036854775807 then (some (((a1.extract 0 (t409 : Int).toNat) ++ (rdOf ByteArray.empty y402 t405)) ++ (a1.extract ((ji17) : Int).toNat a1.size), t413, t414)) else (none)) else (none)) else (none)) = some (r1, r2, r3) := by first | (rw [hji17] at H; exact H) | (simp only [hji17] at H ⊢; exact H)
        (try rw [hji17] at A3)
        (try rw [hji17] at A11)
        (try rw [hji17] at A12)
        have hji17w : (IntKind.i64.wrap (t409 + 1)) = ji17 := (i64_w _).trans hji17
        replace H := ii H
        rcases H with ⟨c18, H⟩ | ⟨c18, H⟩
        ·have c18b0 := eq_true c18
         have c18b1 := decide_eq_true c18
         clear c18
         replace H := ii H
         rcases H with ⟨c19, H⟩ | ⟨c19, H⟩
         ·have c19b0 := eq_true c19
          have c19b1 := decide_eq_true c19
          clear c19
          replace H := ii H
          rcases H with ⟨c20, H⟩ | ⟨c20, H⟩
          ·have c20b0 := eq_true c20
           have c20b1 := decide_eq_true c20
           try have c20b2 : (9223372036854775807 < ((a1.extract 0 (t409 : Int).toNat) ++ (rdOf ByteArray.empty y402 t405)).size + (a1.extract ((ji17) : Int).toNat a1.size).size) = False := eq_false (Nat.not_lt.2 c20)
           have c20b9 : (9223372036854775807 < (a1.extract 0 (t409 : Int).toNat).size + (rdOf ByteArray.empty y402 t405).size + (a1.extract ((ji17) : Int).toNat a1.size).size) = False := eq_false (by have h9_ := of_eq_false c20b2; simp only [ByteArray.size_append] at h9_; exact h9_)
           simp only [Option.some.injEq, Prod.mk.injEq] at H
           obtain ⟨rfl, rfl, rfl⟩ := H
           go_enter Tryz.func45, Tryz.ntmps45
           go_wp2_with (first | ((with_reducible refine zg 8 rfl ?_); refine Kd.R_lit Kd.string _ 9 ?hg (N := 8) ?hd (xs := ([(⟨#[48]⟩ : ByteArray), (⟨#[49]⟩ : ByteArray), (⟨#[55]⟩ : ByteArray), (⟨#[57]⟩ : ByteArray), (⟨#[46]⟩ : ByteArray), (⟨#[64]⟩ : ByteArray), (⟨#[47]⟩ : ByteArray), (⟨#[45]⟩ : ByteArray), (⟨#[32]⟩ : ByteArray), (⟨#[105]⟩ : ByteArray), (⟨#[10]⟩ : ByteArray)] : List ByteArray)) (inner := [.string (⟨#[48]⟩ : ByteArray), .string (⟨#[49]⟩ : ByteArray), .string (⟨#[55]⟩ : ByteArray), .string (⟨#[57]⟩ : ByteArray), .string (⟨#[46]⟩ : ByteArray), .string (⟨#[64]⟩ : ByteArray), .string (⟨#[47]⟩ : ByteArray), .string (⟨#[45]⟩ : ByteArray), .string (⟨#[32]⟩ : ByteArray), .string (⟨#[105]⟩ : ByteArray), .string (⟨#[10]⟩ : ByteArray)]) (ok := fun _ => True) (okp := fun _ => True) ?hr ?hp (fun _ hk => hk) trivial (Below.refl _ _) (Nat.le_refl _) (by simp) ?_; (case hd => rfl); (case hg => rfl); (case hr => first | (go_simp; done) | (go_simp; rfl)); (case hp => exact (Reps.one (show Kd.M Kd.string _ _ _ (⟨#[48]⟩ : ByteArray) [.string (⟨#[48]⟩ : ByteArray)] from rfl) (Reps.one (show Kd.M Kd.string _ _ _ (⟨#[49]⟩ : ByteArray) [.string (⟨#[49]⟩ : ByteArray)] from rfl) (Reps.one (show Kd.M Kd.string _ _ _ (⟨#[55]⟩ : ByteArray) [.string (⟨#[55]⟩ : ByteArray)] from rfl) (Reps.one (show Kd.M Kd.string _ _ _ (⟨#[57]⟩ : ByteArray) [.string (⟨#[57]⟩ : ByteArray)] from rfl) (Reps.one (show Kd.M Kd.string _ _ _ (⟨#[46]⟩ : ByteArray) [.string (⟨#[46]⟩ : ByteArray)] from rfl) (Reps.one (show Kd.M Kd.string _ _ _ (⟨#[64]⟩ : ByteArray) [.string (⟨#[64]⟩ : ByteArray)] from rfl) (Reps.one (show Kd.M Kd.string _ _ _ (⟨#[47]⟩ : ByteArray) [.string (⟨#[47]⟩ : ByteArray)] from rfl) (Reps.one (show Kd.M Kd.string _ _ _ (⟨#[45]⟩ : ByteArray) [.string (⟨#[45]⟩ : ByteArray)] from rfl) (Reps.one (show Kd.M Kd.string _ _ _ (⟨#[32]⟩ : ByteArray) [.string (⟨#[32]⟩ : ByteArray)] from rfl) (Reps.one (show Kd.M Kd.string _ _ _ (⟨#[105]⟩ : ByteArray) [.string (⟨#[105]⟩ : ByteArray)] from rfl) (Reps.one (show Kd.M Kd.string _ _ _ (⟨#[10]⟩ : ByteArray) [.string (⟨#[10]⟩ : ByteArray)] from rfl) (Reps.none _ _))))))))))))); intro v403 w21 ho22 hb hg_ hnew_; clear hg_ hnew_; (first | rw [← Ny402.out] at ho22 | (simp only [Int.reduceToNat] at ho22; rw [← Ny402.out] at ho22)); have HO404 := Aside0.mk (Kd.R_lower ho22 (keep_size (w := w) (g := g) (row := none) (kl))); replace HK := Aside0.mk (KeepBut.trans (kl) (KeepBut.of_below hb g none) (.inl rfl)); replace HB := Aside0.mk (below_step IsS79.b hb); replace HI0 := Aside0.mk (IsS79.below (IsS79.a) hb); clear hb ho22; obtain ⟨Ao23, co23, eo23⟩ := Kd.R_slice HO404.out; subst eo23) | (go_at_call 44; (with_reducible refine (spec_l01Next.calls g s0_0 s0_1 s0_2 (y402.length : Int) t405 t406 t407 w0 _ ?side1 ?side2 A3.out).mono ?_); (case side1 => exact IsS79.a); (case side2 => exact IsS79.b); rintro e w24 ⟨rfl, hi, hb, hk⟩; replace HO404 := Aside0.mk (Kd.R_mono (Kd.R_keep (IsS79.apart (IsS79.a : IsS79 w0 _ g s0_0 s0_1 s0_2) (by (with_reducible repeat (first | apply Kd.R_alloc | apply Kd.R_drewN | apply Kd.R_drew)); exact HO404.out) (by decide)) hk (fun _ h => h.2)) (fun _ h => h.1)); replace HK := Aside0.mk (KeepBut.trans (kl) hk (.inl rfl)); replace HI0 := Aside0.mk (hi); replace HB := Aside0.mk (hb); (try clear hb hk); have p408 : 0 ≤ (t405 : Int) := of_decide_eq_true (by first | (with_reducible assumption) | assumption); have q408 : t405 < (y402.length : Int) := of_decide_eq_true (by first | (with_reducible assumption) | assumption); obtain ⟨ad408, e408, hx408_0⟩ := Kd.at_string (Kd.R_reads' HO404.out).2.2 t405 p408 q408; cases e408; replace p408 := eq_true p408; replace q408 := eq_true q408) | (go_at_call 44; (with_reducible refine (spec_l01Next.calls g s0_0 t406 t407 (a1.size : Int) t409 t410 t411 w0 _ ?side1 ?side2 A11.out).mono ?_); (case side1 => exact IsS79.a); (case side2 => exact IsS79.b); rintro e w25 ⟨rfl, hi, hb, hk⟩; replace HO404 := Aside0.mk (Kd.R_mono (Kd.R_keep (IsS79.apart (IsS79.a : IsS79 w0 _ g s0_0 t406 t407) (by (with_reducible repeat (first | apply Kd.R_alloc | apply Kd.R_drewN | apply Kd.R_drew)); exact HO404.out) (by decide)) hk (fun _ h => h.2)) (fun _ h => h.1)); replace HK := Aside0.mk (KeepBut.trans (kl) hk (.inl rfl)); replace HI0 := Aside0.mk (hi); replace HB := Aside0.mk (hb); (try clear hb hk)) | (go_at_call 44; (with_reducible refine (spec_l01Next.calls g s0_0 t410 t411 3 t412 t413 t414 w0 _ ?side1 ?side2 A12.out).mono ?_); (case side1 => exact IsS79.a); (case side2 => exact IsS79.b); rintro e w26 ⟨rfl, hi, hb, hk⟩; replace HO404 := Aside0.mk (Kd.R_mono (Kd.R_keep (IsS79.apart (IsS79.a : IsS79 w0 _ g s0_0 t410 t411) (by (with_reducible repeat (first | apply Kd.R_alloc | apply Kd.R_drewN | apply Kd.R_drew)); exact HO404.out) (by decide)) hk (fun _ h => h.2)) (fun _ h => h.1)); replace HK := Aside0.mk (KeepBut.trans (kl) hk (.inl rfl)); replace HI0 := Aside0.mk (hi); replace HB := Aside0.mk (hb); (try clear hb hk)))
           repeat (go_quiet (first | (go_at_call 44; (with_reducible refine (spec_l01Next.calls g s0_0 s0_1 s0_2 (y402.length : Int) t405 t406 t407 w0 _ ?side1 ?side2 A3.out).mono ?_); (case side1 => exact IsS79.a); (case side2 => exact IsS79.b); rintro e w24 ⟨rfl, hi, hb, hk⟩; replace HO404 := Aside0.mk (Kd.R_mono (Kd.R_keep (IsS79.apart (IsS79.a : IsS79 w0 _ g s0_0 s0_1 s0_2) (by (with_reducible repeat (first | apply Kd.R_alloc | apply Kd.R_drewN | apply Kd.R_drew)); exact HO404.out) (by decide)) hk (fun _ h => h.2)) (fun _ h => h.1)); replace HK := Aside0.mk (KeepBut.trans (kl) hk (.inl rfl)); replace HI0 := Aside0.mk (hi); replace HB := Aside0.mk (hb); (try clear hb hk); have p408 : 0 ≤ (t405 : Int) := of_decide_eq_true (by first | (with_reducible assumption) | assumption); have q408 : t405 < (y402.length : Int) := of_decide_eq_true (by first | (with_reducible assumption) | assumption); obtain ⟨ad408, e408, hx408_0⟩ := Kd.at_string (Kd.R_reads' HO404.out).2.2 t405 p408 q408; cases e408; replace p408 := eq_true p408; replace q408 := eq_true q408) | (go_at_call 44; (with_reducible refine (spec_l01Next.calls g s0_0 t406 t407 (a1.size : Int) t409 t410 t411 w0 _ ?side1 ?side2 A11.out).mono ?_); (case side1 => exact IsS79.a); (case side2 => exact IsS79.b); rintro e w25 ⟨rfl, hi, hb, hk⟩; replace HO404 := Aside0.mk (Kd.R_mono (Kd.R_keep (IsS79.apart (IsS79.a : IsS79 w0 _ g s0_0 t406 t407) (by (with_reducible repeat (first | apply Kd.R_alloc | apply Kd.R_drewN | apply Kd.R_drew)); exact HO404.out) (by decide)) hk (fun _ h => h.2)) (fun _ h => h.1)); replace HK := Aside0.mk (KeepBut.trans (kl) hk (.inl rfl)); replace HI0 := Aside0.mk (hi); replace HB := Aside0.mk (hb); (try clear hb hk)) | (go_at_call 44; (with_reducible refine (spec_l01Next.calls g s0_0 t410 t411 3 t412 t413 t414 w0 _ ?side1 ?side2 A12.out).mono ?_); (case side1 => exact IsS79.a); (case side2 => exact IsS79.b); rintro e w26 ⟨rfl, hi, hb, hk⟩; replace HO404 := Aside0.mk (Kd.R_mono (Kd.R_keep (IsS79.apart (IsS79.a : IsS79 w0 _ g s0_0 t410 t411) (by (with_reducible repeat (first | apply Kd.R_alloc | apply Kd.R_drewN | apply Kd.R_drew)); exact HO404.out) (by decide)) hk (fun _ h => h.2)) (fun _ h => h.1)); replace HK := Aside0.mk (KeepBut.trans (kl) hk (.inl rfl)); replace HI0 := Aside0.mk (hi); replace HB := Aside0.mk (hb); (try clear hb hk))); try go_wp2_with (first | ((with_reducible refine zg 8 rfl ?_); refine Kd.R_lit Kd.string _ 9 ?hg (N := 8) ?hd (xs := ([(⟨#[48]⟩ : ByteArray), (⟨#[49]⟩ : ByteArray), (⟨#[55]⟩ : ByteArray), (⟨#[57]⟩ : ByteArray), (⟨#[46]⟩ : ByteArray), (⟨#[64]⟩ : ByteArray), (⟨#[47]⟩ : ByteArray), (⟨#[45]⟩ : ByteArray), (⟨#[32]⟩ : ByteArray), (⟨#[105]⟩ : ByteArray), (⟨#[10]⟩ : ByteArray)] : List ByteArray)) (inner := [.string (⟨#[48]⟩ : ByteArray), .string (⟨#[49]⟩ : ByteArray), .string (⟨#[55]⟩ : ByteArray), .string (⟨#[57]⟩ : ByteArray), .string (⟨#[46]⟩ : ByteArray), .string (⟨#[64]⟩ : ByteArray), .string (⟨#[47]⟩ : ByteArray), .string (⟨#[45]⟩ : ByteArray), .string (⟨#[32]⟩ : ByteArray), .string (⟨#[105]⟩ : ByteArray), .string (⟨#[10]⟩ : ByteArray)]) (ok := fun _ => True) (okp := fun _ => True) ?hr ?hp (fun _ hk => hk) trivial (Below.refl _ _) (Nat.le_refl _) (by simp) ?_; (case hd => rfl); (case hg => rfl); (case hr => first | (go_simp; done) | (go_simp; rfl)); (case hp => exact (Reps.one (show Kd.M Kd.string _ _ _ (⟨#[48]⟩ : ByteArray) [.string (⟨#[48]⟩ : ByteArray)] from rfl) (Reps.one (show Kd.M Kd.string _ _ _ (⟨#[49]⟩ : ByteArray) [.string (⟨#[49]⟩ : ByteArray)] from rfl) (Reps.one (show Kd.M Kd.string _ _ _ (⟨#[55]⟩ : ByteArray) [.string (⟨#[55]⟩ : ByteArray)] from rfl) (Reps.one (show Kd.M Kd.string _ _ _ (⟨#[57]⟩ : ByteArray) [.string (⟨#[57]⟩ : ByteArray)] from rfl) (Reps.one (show Kd.M Kd.string _ _ _ (⟨#[46]⟩ : ByteArray) [.string (⟨#[46]⟩ : ByteArray)] from rfl) (Reps.one (show Kd.M Kd.string _ _ _ (⟨#[64]⟩ : ByteArray) [.string (⟨#[64]⟩ : ByteArray)] from rfl) (Reps.one (show Kd.M Kd.string _ _ _ (⟨#[47]⟩ : ByteArray) [.string (⟨#[47]⟩ : ByteArray)] from rfl) (Reps.one (show Kd.M Kd.string _ _ _ (⟨#[45]⟩ : ByteArray) [.string (⟨#[45]⟩ : ByteArray)] from rfl) (Reps.one (show Kd.M Kd.string _ _ _ (⟨#[32]⟩ : ByteArray) [.string (⟨#[32]⟩ : ByteArray)] from rfl) (Reps.one (show Kd.M Kd.string _ _ _ (⟨#[105]⟩ : ByteArray) [.string (⟨#[105]⟩ : ByteArray)] from rfl) (Reps.one (show Kd.M Kd.string _ _ _ (⟨#[10]⟩ : ByteArray) [.string (⟨#[10]⟩ : ByteArray)] from rfl) (Reps.none _ _))))))))))))); intro v403 w21 ho22 hb hg_ hnew_; clear hg_ hnew_; (first | rw [← Ny402.out] at ho22 | (simp only [Int.reduceToNat] at ho22; rw [← Ny402.out] at ho22)); have HO404 := Aside0.mk (Kd.R_lower ho22 (keep_size (w := w) (g := g) (row := none) (kl))); replace HK := Aside0.mk (KeepBut.trans (kl) (KeepBut.of_below hb g none) (.inl rfl)); replace HB := Aside0.mk (below_step IsS79.b hb); replace HI0 := Aside0.mk (IsS79.below (IsS79.a) hb); clear hb ho22; obtain ⟨Ao23, co23, eo23⟩ := Kd.R_slice HO404.out; subst eo23) | (go_at_call 44; (with_reducible refine (spec_l01Next.calls g s0_0 s0_1 s0_2 (y402.length : Int) t405 t406 t407 w0 _ ?side1 ?side2 A3.out).mono ?_); (case side1 => exact IsS79.a); (case side2 => exact IsS79.b); rintro e w24 ⟨rfl, hi, hb, hk⟩; replace HO404 := Aside0.mk (Kd.R_mono (Kd.R_keep (IsS79.apart (IsS79.a : IsS79 w0 _ g s0_0 s0_1 s0_2) (by (with_reducible repeat (first | apply Kd.R_alloc | apply Kd.R_drewN | apply Kd.R_drew)); exact HO404.out) (by decide)) hk (fun _ h => h.2)) (fun _ h => h.1)); replace HK := Aside0.mk (KeepBut.trans (kl) hk (.inl rfl)); replace HI0 := Aside0.mk (hi); replace HB := Aside0.mk (hb); (try clear hb hk); have p408 : 0 ≤ (t405 : Int) := of_decide_eq_true (by first | (with_reducible assumption) | assumption); have q408 : t405 < (y402.length : Int) := of_decide_eq_true (by first | (with_reducible assumption) | assumption); obtain ⟨ad408, e408, hx408_0⟩ := Kd.at_string (Kd.R_reads' HO404.out).2.2 t405 p408 q408; cases e408; replace p408 := eq_true p408; replace q408 := eq_true q408) | (go_at_call 44; (with_reducible refine (spec_l01Next.calls g s0_0 t406 t407 (a1.size : Int) t409 t410 t411 w0 _ ?side1 ?side2 A11.out).mono ?_); (case side1 => exact IsS79.a); (case side2 => exact IsS79.b); rintro e w25 ⟨rfl, hi, hb, hk⟩; replace HO404 := Aside0.mk (Kd.R_mono (Kd.R_keep (IsS79.apart (IsS79.a : IsS79 w0 _ g s0_0 t406 t407) (by (with_reducible repeat (first | apply Kd.R_alloc | apply Kd.R_drewN | apply Kd.R_drew)); exact HO404.out) (by decide)) hk (fun _ h => h.2)) (fun _ h => h.1)); replace HK := Aside0.mk (KeepBut.trans (kl) hk (.inl rfl)); replace HI0 := Aside0.mk (hi); replace HB := Aside0.mk (hb); (try clear hb hk)) | (go_at_call 44; (with_reducible refine (spec_l01Next.calls g s0_0 t410 t411 3 t412 t413 t414 w0 _ ?side1 ?side2 A12.out).mono ?_); (case side1 => exact IsS79.a); (case side2 => exact IsS79.b); rintro e w26 ⟨rfl, hi, hb, hk⟩; replace HO404 := Aside0.mk (Kd.R_mono (Kd.R_keep (IsS79.apart (IsS79.a : IsS79 w0 _ g s0_0 t410 t411) (by (with_reducible repeat (first | apply Kd.R_alloc | apply Kd.R_drewN | apply Kd.R_drew)); exact HO404.out) (by decide)) hk (fun _ h => h.2)) (fun _ h => h.1)); replace HK := Aside0.mk (KeepBut.trans (kl) hk (.inl rfl)); replace HI0 := Aside0.mk (hi); replace HB := Aside0.mk (hb); (try clear hb hk))))
           go_ret
           exact ⟨by first | rfl | (simp [errW_none, errW_some] <;> rfl) | (simp only [← hji17]; first | rfl | (simp [errW_none, errW_some] <;> rfl)) | (simp [*, errW_none, errW_some] <;> rfl), IsS79.a, IsS79.b, kl⟩
          ·exact absurd H (by simp)
         ·exact absurd H (by simp)
        ·exact absurd H (by simp)
       ·exact absurd H (by simp)
      ·exact absurd H (by simp)
     ·exact absurd H (by simp)
    ·obtain ⟨c13b0, c13b1⟩ := zy c13
     replace H := ii H
     rcases H with ⟨c27, H⟩ | ⟨c27, H⟩
     ·obtain ⟨c27b0, c27b1⟩ := zz c27
      clear c27
      replace H := ii H
      rcases H with ⟨c28, H⟩ | ⟨c28, H⟩
      ·have c28b0 := eq_true c28
       have c28b1 := decide_eq_true c28
       clear c28
       replace H := ii H
       rcases H with ⟨c29, H⟩ | ⟨c29, H⟩
       ·have c29b0 := eq_true c29
        have c29b1 := decide_eq_true c29
        clear c29
        obtain ⟨ji30, hji30⟩ : ∃ j_ : Int, (wrap64 (t409 + 1)) = j_ := ⟨_, rfl⟩
        replace H : (if 0 ≤ (ji30) then (if (ji30) ≤ (a1.size : Int) then (if (a1.extract 0 (t409 : Int).toNat).size + (a1.extract ((ji30) : Int).toNat a1.size).size ≤ 9223372036854775807 then (some ((a1.extract 0 (t409 : Int).toNat) ++ (a1.extract ((ji30) : Int).toNat a1.size), t413, t414)) else (none)) else (none)) else (none)) = some (r1, r2, r3) := by first | (rw [hji30] at H; exact H) | (simp only [hji30] at H ⊢; exact H)
        (try rw [hji30] at A3)
        (try rw [hji30] at A11)
        (try rw [hji30] at A12)
        have hji30w : (IntKind.i64.wrap (t409 + 1)) = ji30 := (i64_w _).trans hji30
        replace H := ii H
        rcases H with ⟨c31, H⟩ | ⟨c31, H⟩
        ·have c31b0 := eq_true c31
         have c31b1 := decide_eq_true c31
         clear c31
         replace H := ii H
         rcases H with ⟨c32, H⟩ | ⟨c32, H⟩
         ·have c32b0 := eq_true c32
          have c32b1 := decide_eq_true c32
          clear c32
          replace H := ii H
          rcases H with ⟨c33, H⟩ | ⟨c33, H⟩
          ·have c33b0 := eq_true c33
           have c33b1 := decide_eq_true c33
           try have c33b2 : (9223372036854775807 < (a1.extract 0 (t409 : Int).toNat).size + (a1.extract ((ji30) : Int).toNat a1.size).size) = False := eq_false (Nat.not_lt.2 c33)
           simp only [Option.some.injEq, Prod.mk.injEq] at H
           obtain ⟨rfl, rfl, rfl⟩ := H
           go_enter Tryz.func45, Tryz.ntmps45
           go_wp2_with (first | ((with_reducible refine zg 8 rfl ?_); refine Kd.R_lit Kd.string _ 9 ?hg (N := 8) ?hd (xs := ([(⟨#[48]⟩ : ByteArray), (⟨#[49]⟩ : ByteArray), (⟨#[55]⟩ : ByteArray), (⟨#[57]⟩ : ByteArray), (⟨#[46]⟩ : ByteArray), (⟨#[64]⟩ : ByteArray), (⟨#[47]⟩ : ByteArray), (⟨#[45]⟩ : ByteArray), (⟨#[32]⟩ : ByteArray), (⟨#[105]⟩ : ByteArray), (⟨#[10]⟩ : ByteArray)] : List ByteArray)) (inner := [.string (⟨#[48]⟩ : ByteArray), .string (⟨#[49]⟩ : ByteArray), .string (⟨#[55]⟩ : ByteArray), .string (⟨#[57]⟩ : ByteArray), .string (⟨#[46]⟩ : ByteArray), .string (⟨#[64]⟩ : ByteArray), .string (⟨#[47]⟩ : ByteArray), .string (⟨#[45]⟩ : ByteArray), .string (⟨#[32]⟩ : ByteArray), .string (⟨#[105]⟩ : ByteArray), .string (⟨#[10]⟩ : ByteArray)]) (ok := fun _ => True) (okp := fun _ => True) ?hr ?hp (fun _ hk => hk) trivial (Below.refl _ _) (Nat.le_refl _) (by simp) ?_; (case hd => rfl); (case hg => rfl); (case hr => first | (go_simp; done) | (go_simp; rfl)); (case hp => exact (Reps.one (show Kd.M Kd.string _ _ _ (⟨#[48]⟩ : ByteArray) [.string (⟨#[48]⟩ : ByteArray)] from rfl) (Reps.one (show Kd.M Kd.string _ _ _ (⟨#[49]⟩ : ByteArray) [.string (⟨#[49]⟩ : ByteArray)] from rfl) (Reps.one (show Kd.M Kd.string _ _ _ (⟨#[55]⟩ : ByteArray) [.string (⟨#[55]⟩ : ByteArray)] from rfl) (Reps.one (show Kd.M Kd.string _ _ _ (⟨#[57]⟩ : ByteArray) [.string (⟨#[57]⟩ : ByteArray)] from rfl) (Reps.one (show Kd.M Kd.string _ _ _ (⟨#[46]⟩ : ByteArray) [.string (⟨#[46]⟩ : ByteArray)] from rfl) (Reps.one (show Kd.M Kd.string _ _ _ (⟨#[64]⟩ : ByteArray) [.string (⟨#[64]⟩ : ByteArray)] from rfl) (Reps.one (show Kd.M Kd.string _ _ _ (⟨#[47]⟩ : ByteArray) [.string (⟨#[47]⟩ : ByteArray)] from rfl) (Reps.one (show Kd.M Kd.string _ _ _ (⟨#[45]⟩ : ByteArray) [.string (⟨#[45]⟩ : ByteArray)] from rfl) (Reps.one (show Kd.M Kd.string _ _ _ (⟨#[32]⟩ : ByteArray) [.string (⟨#[32]⟩ : ByteArray)] from rfl) (Reps.one (show Kd.M Kd.string _ _ _ (⟨#[105]⟩ : ByteArray) [.string (⟨#[105]⟩ : ByteArray)] from rfl) (Reps.one (show Kd.M Kd.string _ _ _ (⟨#[10]⟩ : ByteArray) [.string (⟨#[10]⟩ : ByteArray)] from rfl) (Reps.none _ _))))))))))))); intro v403 w34 ho35 hb hg_ hnew_; clear hg_ hnew_; (first | rw [← Ny402.out] at ho35 | (simp only [Int.reduceToNat] at ho35; rw [← Ny402.out] at ho35)); have HO404 := Aside0.mk (Kd.R_lower ho35 (keep_size (w := w) (g := g) (row := none) (kl))); replace HK := Aside0.mk (KeepBut.trans (kl) (KeepBut.of_below hb g none) (.inl rfl)); replace HB := Aside0.mk (below_step IsS79.b hb); replace HI0 := Aside0.mk (IsS79.below (IsS79.a) hb); clear hb ho35; obtain ⟨Ao36, co36, eo36⟩ := Kd.R_slice HO404.out; subst eo36) | (go_at_call 44; (with_reducible refine (spec_l01Next.calls g s0_0 s0_1 s0_2 (y402.length : Int) t405 t406 t407 w0 _ ?side1 ?side2 A3.out).mono ?_); (case side1 => exact IsS79.a); (case side2 => exact IsS79.b); rintro e w37 ⟨rfl, hi, hb, hk⟩; replace HO404 := Aside0.mk (Kd.R_mono (Kd.R_keep (IsS79.apart (IsS79.a : IsS79 w0 _ g s0_0 s0_1 s0_2) (by (with_reducible repeat (first | apply Kd.R_alloc | apply Kd.R_drewN | apply Kd.R_drew)); exact HO404.out) (by decide)) hk (fun _ h => h.2)) (fun _ h => h.1)); replace HK := Aside0.mk (KeepBut.trans (kl) hk (.inl rfl)); replace HI0 := Aside0.mk (hi); replace HB := Aside0.mk (hb); (try clear hb hk); have p408 : 0 ≤ (t405 : Int) := of_decide_eq_true (by first | (with_reducible assumption) | assumption); have q408 : t405 < (y402.length : Int) := of_decide_eq_true (by first | (with_reducible assumption) | assumption); obtain ⟨ad408, e408, hx408_0⟩ := Kd.at_string (Kd.R_reads' HO404.out).2.2 t405 p408 q408; cases e408; replace p408 := eq_true p408; replace q408 := eq_true q408) | (go_at_call 44; (with_reducible refine (spec_l01Next.calls g s0_0 t406 t407 (a1.size : Int) t409 t410 t411 w0 _ ?side1 ?side2 A11.out).mono ?_); (case side1 => exact IsS79.a); (case side2 => exact IsS79.b); rintro e w38 ⟨rfl, hi, hb, hk⟩; replace HO404 := Aside0.mk (Kd.R_mono (Kd.R_keep (IsS79.apart (IsS79.a : IsS79 w0 _ g s0_0 t406 t407) (by (with_reducible repeat (first | apply Kd.R_alloc | apply Kd.R_drewN | apply Kd.R_drew)); exact HO404.out) (by decide)) hk (fun _ h => h.2)) (fun _ h => h.1)); replace HK := Aside0.mk (KeepBut.trans (kl) hk (.inl rfl)); replace HI0 := Aside0.mk (hi); replace HB := Aside0.mk (hb); (try clear hb hk)) | (go_at_call 44; (with_reducible refine (spec_l01Next.calls g s0_0 t410 t411 3 t412 t413 t414 w0 _ ?side1 ?side2 A12.out).mono ?_); (case side1 => exact IsS79.a); (case side2 => exact IsS79.b); rintro e w39 ⟨rfl, hi, hb, hk⟩; replace HO404 := Aside0.mk (Kd.R_mono (Kd.R_keep (IsS79.apart (IsS79.a : IsS79 w0 _ g s0_0 t410 t411) (by (with_reducible repeat (first | apply Kd.R_alloc | apply Kd.R_drewN | apply Kd.R_drew)); exact HO404.out) (by decide)) hk (fun _ h => h.2)) (fun _ h => h.1)); replace HK := Aside0.mk (KeepBut.trans (kl) hk (.inl rfl)); replace HI0 := Aside0.mk (hi); replace HB := Aside0.mk (hb); (try clear hb hk)))
           repeat (go_quiet (first | (go_at_call 44; (with_reducible refine (spec_l01Next.calls g s0_0 s0_1 s0_2 (y402.length : Int) t405 t406 t407 w0 _ ?side1 ?side2 A3.out).mono ?_); (case side1 => exact IsS79.a); (case side2 => exact IsS79.b); rintro e w37 ⟨rfl, hi, hb, hk⟩; replace HO404 := Aside0.mk (Kd.R_mono (Kd.R_keep (IsS79.apart (IsS79.a : IsS79 w0 _ g s0_0 s0_1 s0_2) (by (with_reducible repeat (first | apply Kd.R_alloc | apply Kd.R_drewN | apply Kd.R_drew)); exact HO404.out) (by decide)) hk (fun _ h => h.2)) (fun _ h => h.1)); replace HK := Aside0.mk (KeepBut.trans (kl) hk (.inl rfl)); replace HI0 := Aside0.mk (hi); replace HB := Aside0.mk (hb); (try clear hb hk); have p408 : 0 ≤ (t405 : Int) := of_decide_eq_true (by first | (with_reducible assumption) | assumption); have q408 : t405 < (y402.length : Int) := of_decide_eq_true (by first | (with_reducible assumption) | assumption); obtain ⟨ad408, e408, hx408_0⟩ := Kd.at_string (Kd.R_reads' HO404.out).2.2 t405 p408 q408; cases e408; replace p408 := eq_true p408; replace q408 := eq_true q408) | (go_at_call 44; (with_reducible refine (spec_l01Next.calls g s0_0 t406 t407 (a1.size : Int) t409 t410 t411 w0 _ ?side1 ?side2 A11.out).mono ?_); (case side1 => exact IsS79.a); (case side2 => exact IsS79.b); rintro e w38 ⟨rfl, hi, hb, hk⟩; replace HO404 := Aside0.mk (Kd.R_mono (Kd.R_keep (IsS79.apart (IsS79.a : IsS79 w0 _ g s0_0 t406 t407) (by (with_reducible repeat (first | apply Kd.R_alloc | apply Kd.R_drewN | apply Kd.R_drew)); exact HO404.out) (by decide)) hk (fun _ h => h.2)) (fun _ h => h.1)); replace HK := Aside0.mk (KeepBut.trans (kl) hk (.inl rfl)); replace HI0 := Aside0.mk (hi); replace HB := Aside0.mk (hb); (try clear hb hk)) | (go_at_call 44; (with_reducible refine (spec_l01Next.calls g s0_0 t410 t411 3 t412 t413 t414 w0 _ ?side1 ?side2 A12.out).mono ?_); (case side1 => exact IsS79.a); (case side2 => exact IsS79.b); rintro e w39 ⟨rfl, hi, hb, hk⟩; replace HO404 := Aside0.mk (Kd.R_mono (Kd.R_keep (IsS79.apart (IsS79.a : IsS79 w0 _ g s0_0 t410 t411) (by (with_reducible repeat (first | apply Kd.R_alloc | apply Kd.R_drewN | apply Kd.R_drew)); exact HO404.out) (by decide)) hk (fun _ h => h.2)) (fun _ h => h.1)); replace HK := Aside0.mk (KeepBut.trans (kl) hk (.inl rfl)); replace HI0 := Aside0.mk (hi); replace HB := Aside0.mk (hb); (try clear hb hk))); try go_wp2_with (first | ((with_reducible refine zg 8 rfl ?_); refine Kd.R_lit Kd.string _ 9 ?hg (N := 8) ?hd (xs := ([(⟨#[48]⟩ : ByteArray), (⟨#[49]⟩ : ByteArray), (⟨#[55]⟩ : ByteArray), (⟨#[57]⟩ : ByteArray), (⟨#[46]⟩ : ByteArray), (⟨#[64]⟩ : ByteArray), (⟨#[47]⟩ : ByteArray), (⟨#[45]⟩ : ByteArray), (⟨#[32]⟩ : ByteArray), (⟨#[105]⟩ : ByteArray), (⟨#[10]⟩ : ByteArray)] : List ByteArray)) (inner := [.string (⟨#[48]⟩ : ByteArray), .string (⟨#[49]⟩ : ByteArray), .string (⟨#[55]⟩ : ByteArray), .string (⟨#[57]⟩ : ByteArray), .string (⟨#[46]⟩ : ByteArray), .string (⟨#[64]⟩ : ByteArray), .string (⟨#[47]⟩ : ByteArray), .string (⟨#[45]⟩ : ByteArray), .string (⟨#[32]⟩ : ByteArray), .string (⟨#[105]⟩ : ByteArray), .string (⟨#[10]⟩ : ByteArray)]) (ok := fun _ => True) (okp := fun _ => True) ?hr ?hp (fun _ hk => hk) trivial (Below.refl _ _) (Nat.le_refl _) (by simp) ?_; (case hd => rfl); (case hg => rfl); (case hr => first | (go_simp; done) | (go_simp; rfl)); (case hp => exact (Reps.one (show Kd.M Kd.string _ _ _ (⟨#[48]⟩ : ByteArray) [.string (⟨#[48]⟩ : ByteArray)] from rfl) (Reps.one (show Kd.M Kd.string _ _ _ (⟨#[49]⟩ : ByteArray) [.string (⟨#[49]⟩ : ByteArray)] from rfl) (Reps.one (show Kd.M Kd.string _ _ _ (⟨#[55]⟩ : ByteArray) [.string (⟨#[55]⟩ : ByteArray)] from rfl) (Reps.one (show Kd.M Kd.string _ _ _ (⟨#[57]⟩ : ByteArray) [.string (⟨#[57]⟩ : ByteArray)] from rfl) (Reps.one (show Kd.M Kd.string _ _ _ (⟨#[46]⟩ : ByteArray) [.string (⟨#[46]⟩ : ByteArray)] from rfl) (Reps.one (show Kd.M Kd.string _ _ _ (⟨#[64]⟩ : ByteArray) [.string (⟨#[64]⟩ : ByteArray)] from rfl) (Reps.one (show Kd.M Kd.string _ _ _ (⟨#[47]⟩ : ByteArray) [.string (⟨#[47]⟩ : ByteArray)] from rfl) (Reps.one (show Kd.M Kd.string _ _ _ (⟨#[45]⟩ : ByteArray) [.string (⟨#[45]⟩ : ByteArray)] from rfl) (Reps.one (show Kd.M Kd.string _ _ _ (⟨#[32]⟩ : ByteArray) [.string (⟨#[32]⟩ : ByteArray)] from rfl) (Reps.one (show Kd.M Kd.string _ _ _ (⟨#[105]⟩ : ByteArray) [.string (⟨#[105]⟩ : ByteArray)] from rfl) (Reps.one (show Kd.M Kd.string _ _ _ (⟨#[10]⟩ : ByteArray) [.string (⟨#[10]⟩ : ByteArray)] from rfl) (Reps.none _ _))))))))))))); intro v403 w34 ho35 hb hg_ hnew_; clear hg_ hnew_; (first | rw [← Ny402.out] at ho35 | (simp only [Int.reduceToNat] at ho35; rw [← Ny402.out] at ho35)); have HO404 := Aside0.mk (Kd.R_lower ho35 (keep_size (w := w) (g := g) (row := none) (kl))); replace HK := Aside0.mk (KeepBut.trans (kl) (KeepBut.of_below hb g none) (.inl rfl)); replace HB := Aside0.mk (below_step IsS79.b hb); replace HI0 := Aside0.mk (IsS79.below (IsS79.a) hb); clear hb ho35; obtain ⟨Ao36, co36, eo36⟩ := Kd.R_slice HO404.out; subst eo36) | (go_at_call 44; (with_reducible refine (spec_l01Next.calls g s0_0 s0_1 s0_2 (y402.length : Int) t405 t406 t407 w0 _ ?side1 ?side2 A3.out).mono ?_); (case side1 => exact IsS79.a); (case side2 => exact IsS79.b); rintro e w37 ⟨rfl, hi, hb, hk⟩; replace HO404 := Aside0.mk (Kd.R_mono (Kd.R_keep (IsS79.apart (IsS79.a : IsS79 w0 _ g s0_0 s0_1 s0_2) (by (with_reducible repeat (first | apply Kd.R_alloc | apply Kd.R_drewN | apply Kd.R_drew)); exact HO404.out) (by decide)) hk (fun _ h => h.2)) (fun _ h => h.1)); replace HK := Aside0.mk (KeepBut.trans (kl) hk (.inl rfl)); replace HI0 := Aside0.mk (hi); replace HB := Aside0.mk (hb); (try clear hb hk); have p408 : 0 ≤ (t405 : Int) := of_decide_eq_true (by first | (with_reducible assumption) | assumption); have q408 : t405 < (y402.length : Int) := of_decide_eq_true (by first | (with_reducible assumption) | assumption); obtain ⟨ad408, e408, hx408_0⟩ := Kd.at_string (Kd.R_reads' HO404.out).2.2 t405 p408 q408; cases e408; replace p408 := eq_true p408; replace q408 := eq_true q408) | (go_at_call 44; (with_reducible refine (spec_l01Next.calls g s0_0 t406 t407 (a1.size : Int) t409 t410 t411 w0 _ ?side1 ?side2 A11.out).mono ?_); (case side1 => exact IsS79.a); (case side2 => exact IsS79.b); rintro e w38 ⟨rfl, hi, hb, hk⟩; replace HO404 := Aside0.mk (Kd.R_mono (Kd.R_keep (IsS79.apart (IsS79.a : IsS79 w0 _ g s0_0 t406 t407) (by (with_reducible repeat (first | apply Kd.R_alloc | apply Kd.R_drewN | apply Kd.R_drew)); exact HO404.out) (by decide)) hk (fun _ h => h.2)) (fun _ h => h.1)); replace HK := Aside0.mk (KeepBut.trans (kl) hk (.inl rfl)); replace HI0 := Aside0.mk (hi); replace HB := Aside0.mk (hb); (try clear hb hk)) | (go_at_call 44; (with_reducible refine (spec_l01Next.calls g s0_0 t410 t411 3 t412 t413 t414 w0 _ ?side1 ?side2 A12.out).mono ?_); (case side1 => exact IsS79.a); (case side2 => exact IsS79.b); rintro e w39 ⟨rfl, hi, hb, hk⟩; replace HO404 := Aside0.mk (Kd.R_mono (Kd.R_keep (IsS79.apart (IsS79.a : IsS79 w0 _ g s0_0 t410 t411) (by (with_reducible repeat (first | apply Kd.R_alloc | apply Kd.R_drewN | apply Kd.R_drew)); exact HO404.out) (by decide)) hk (fun _ h => h.2)) (fun _ h => h.1)); replace HK := Aside0.mk (KeepBut.trans (kl) hk (.inl rfl)); replace HI0 := Aside0.mk (hi); replace HB := Aside0.mk (hb); (try clear hb hk))))
           go_ret
           exact ⟨by first | rfl | (simp [errW_none, errW_some] <;> rfl) | (simp only [← hji30]; first | rfl | (simp [errW_none, errW_some] <;> rfl)) | (simp [*, errW_none, errW_some] <;> rfl), IsS79.a, IsS79.b, kl⟩
          ·exact absurd H (by simp)
         ·exact absurd H (by simp)
        ·exact absurd H (by simp)
       ·exact absurd H (by simp)
      ·exact absurd H (by simp)
     ·obtain ⟨c27b0, c27b1⟩ := zy c27
      replace H := ii H
      rcases H with ⟨c40, H⟩ | ⟨c40, H⟩
      ·have c40b0 := eq_true c40
       have c40b1 := decide_eq_true c40
       clear c40
       replace H := ii H
       rcases H with ⟨c41, H⟩ | ⟨c41, H⟩
       ·have c41b0 := eq_true c41
        have c41b1 := decide_eq_true c41
        clear c41
        replace H := ii H
        rcases H with ⟨c42, H⟩ | ⟨c42, H⟩
        ·have c42b0 := eq_true c42
         have c42b1 := decide_eq_true c42
         try have c42b2 : (9223372036854775807 < (a1.extract 0 (t409 : Int).toNat).size + (rdOf ByteArray.empty y402 t405).size) = False := eq_false (Nat.not_lt.2 c42)
         have c43b0 := eq_true (of_decide_eq_true (by first | (with_reducible assumption) | assumption) : 0 ≤ t409)
         have c44b0 := eq_true (of_decide_eq_true (by first | (with_reducible assumption) | assumption) : t409 ≤ (a1.size : Int))
         replace H := ii H
         rcases H with ⟨c45, H⟩ | ⟨c45, H⟩
         ·have c45b0 := eq_true c45
          have c45b1 := decide_eq_true c45
          try have c45b2 : (9223372036854775807 < ((a1.extract 0 (t409 : Int).toNat) ++ (rdOf ByteArray.empty y402 t405)).size + (a1.extract (t409 : Int).toNat a1.size).size) = False := eq_false (Nat.not_lt.2 c45)
          have c45b9 : (9223372036854775807 < (a1.extract 0 (t409 : Int).toNat).size + (rdOf ByteArray.empty y402 t405).size + (a1.extract (t409 : Int).toNat a1.size).size) = False := eq_false (by have h9_ := of_eq_false c45b2; simp only [ByteArray.size_append] at h9_; exact h9_)
          simp only [Option.some.injEq, Prod.mk.injEq] at H
          obtain ⟨rfl, rfl, rfl⟩ := H
          go_enter Tryz.func45, Tryz.ntmps45
          go_wp2_with (first | ((with_reducible refine zg 8 rfl ?_); refine Kd.R_lit Kd.string _ 9 ?hg (N := 8) ?hd (xs := ([(⟨#[48]⟩ : ByteArray), (⟨#[49]⟩ : ByteArray), (⟨#[55]⟩ : ByteArray), (⟨#[57]⟩ : ByteArray), (⟨#[46]⟩ : ByteArray), (⟨#[64]⟩ : ByteArray), (⟨#[47]⟩ : ByteArray), (⟨#[45]⟩ : ByteArray), (⟨#[32]⟩ : ByteArray), (⟨#[105]⟩ : ByteArray), (⟨#[10]⟩ : ByteArray)] : List ByteArray)) (inner := [.string (⟨#[48]⟩ : ByteArray), .string (⟨#[49]⟩ : ByteArray), .string (⟨#[55]⟩ : ByteArray), .string (⟨#[57]⟩ : ByteArray), .string (⟨#[46]⟩ : ByteArray), .string (⟨#[64]⟩ : ByteArray), .string (⟨#[47]⟩ : ByteArray), .string (⟨#[45]⟩ : ByteArray), .string (⟨#[32]⟩ : ByteArray), .string (⟨#[105]⟩ : ByteArray), .string (⟨#[10]⟩ : ByteArray)]) (ok := fun _ => True) (okp := fun _ => True) ?hr ?hp (fun _ hk => hk) trivial (Below.refl _ _) (Nat.le_refl _) (by simp) ?_; (case hd => rfl); (case hg => rfl); (case hr => first | (go_simp; done) | (go_simp; rfl)); (case hp => exact (Reps.one (show Kd.M Kd.string _ _ _ (⟨#[48]⟩ : ByteArray) [.string (⟨#[48]⟩ : ByteArray)] from rfl) (Reps.one (show Kd.M Kd.string _ _ _ (⟨#[49]⟩ : ByteArray) [.string (⟨#[49]⟩ : ByteArray)] from rfl) (Reps.one (show Kd.M Kd.string _ _ _ (⟨#[55]⟩ : ByteArray) [.string (⟨#[55]⟩ : ByteArray)] from rfl) (Reps.one (show Kd.M Kd.string _ _ _ (⟨#[57]⟩ : ByteArray) [.string (⟨#[57]⟩ : ByteArray)] from rfl) (Reps.one (show Kd.M Kd.string _ _ _ (⟨#[46]⟩ : ByteArray) [.string (⟨#[46]⟩ : ByteArray)] from rfl) (Reps.one (show Kd.M Kd.string _ _ _ (⟨#[64]⟩ : ByteArray) [.string (⟨#[64]⟩ : ByteArray)] from rfl) (Reps.one (show Kd.M Kd.string _ _ _ (⟨#[47]⟩ : ByteArray) [.string (⟨#[47]⟩ : ByteArray)] from rfl) (Reps.one (show Kd.M Kd.string _ _ _ (⟨#[45]⟩ : ByteArray) [.string (⟨#[45]⟩ : ByteArray)] from rfl) (Reps.one (show Kd.M Kd.string _ _ _ (⟨#[32]⟩ : ByteArray) [.string (⟨#[32]⟩ : ByteArray)] from rfl) (Reps.one (show Kd.M Kd.string _ _ _ (⟨#[105]⟩ : ByteArray) [.string (⟨#[105]⟩ : ByteArray)] from rfl) (Reps.one (show Kd.M Kd.string _ _ _ (⟨#[10]⟩ : ByteArray) [.string (⟨#[10]⟩ : ByteArray)] from rfl) (Reps.none _ _))))))))))))); intro v403 w46 ho47 hb hg_ hnew_; clear hg_ hnew_; (first | rw [← Ny402.out] at ho47 | (simp only [Int.reduceToNat] at ho47; rw [← Ny402.out] at ho47)); have HO404 := Aside0.mk (Kd.R_lower ho47 (keep_size (w := w) (g := g) (row := none) (kl))); replace HK := Aside0.mk (KeepBut.trans (kl) (KeepBut.of_below hb g none) (.inl rfl)); replace HB := Aside0.mk (below_step IsS79.b hb); replace HI0 := Aside0.mk (IsS79.below (IsS79.a) hb); clear hb ho47; obtain ⟨Ao48, co48, eo48⟩ := Kd.R_slice HO404.out; subst eo48) | (go_at_call 44; (with_reducible refine (spec_l01Next.calls g s0_0 s0_1 s0_2 (y402.length : Int) t405 t406 t407 w0 _ ?side1 ?side2 A3.out).mono ?_); (case side1 => exact IsS79.a); (case side2 => exact IsS79.b); rintro e w49 ⟨rfl, hi, hb, hk⟩; replace HO404 := Aside0.mk (Kd.R_mono (Kd.R_keep (IsS79.apart (IsS79.a : IsS79 w0 _ g s0_0 s0_1 s0_2) (by (with_reducible repeat (first | apply Kd.R_alloc | apply Kd.R_drewN | apply Kd.R_drew)); exact HO404.out) (by decide)) hk (fun _ h => h.2)) (fun _ h => h.1)); replace HK := Aside0.mk (KeepBut.trans (kl) hk (.inl rfl)); replace HI0 := Aside0.mk (hi); replace HB := Aside0.mk (hb); (try clear hb hk); have p408 : 0 ≤ (t405 : Int) := of_decide_eq_true (by first | (with_reducible assumption) | assumption); have q408 : t405 < (y402.length : Int) := of_decide_eq_true (by first | (with_reducible assumption) | assumption); obtain ⟨ad408, e408, hx408_0⟩ := Kd.at_string (Kd.R_reads' HO404.out).2.2 t405 p408 q408; cases e408; replace p408 := eq_true p408; replace q408 := eq_true q408) | (go_at_call 44; (with_reducible refine (spec_l01Next.calls g s0_0 t406 t407 (a1.size : Int) t409 t410 t411 w0 _ ?side1 ?side2 A11.out).mono ?_); (case side1 => exact IsS79.a); (case side2 => exact IsS79.b); rintro e w50 ⟨rfl, hi, hb, hk⟩; replace HO404 := Aside0.mk (Kd.R_mono (Kd.R_keep (IsS79.apart (IsS79.a : IsS79 w0 _ g s0_0 t406 t407) (by (with_reducible repeat (first | apply Kd.R_alloc | apply Kd.R_drewN | apply Kd.R_drew)); exact HO404.out) (by decide)) hk (fun _ h => h.2)) (fun _ h => h.1)); replace HK := Aside0.mk (KeepBut.trans (kl) hk (.inl rfl)); replace HI0 := Aside0.mk (hi); replace HB := Aside0.mk (hb); (try clear hb hk)) | (go_at_call 44; (with_reducible refine (spec_l01Next.calls g s0_0 t410 t411 3 t412 t413 t414 w0 _ ?side1 ?side2 A12.out).mono ?_); (case side1 => exact IsS79.a); (case side2 => exact IsS79.b); rintro e w51 ⟨rfl, hi, hb, hk⟩; replace HO404 := Aside0.mk (Kd.R_mono (Kd.R_keep (IsS79.apart (IsS79.a : IsS79 w0 _ g s0_0 t410 t411) (by (with_reducible repeat (first | apply Kd.R_alloc | apply Kd.R_drewN | apply Kd.R_drew)); exact HO404.out) (by decide)) hk (fun _ h => h.2)) (fun _ h => h.1)); replace HK := Aside0.mk (KeepBut.trans (kl) hk (.inl rfl)); replace HI0 := Aside0.mk (hi); replace HB := Aside0.mk (hb); (try clear hb hk)))
          repeat (go_quiet (first | (go_at_call 44; (with_reducible refine (spec_l01Next.calls g s0_0 s0_1 s0_2 (y402.length : Int) t405 t406 t407 w0 _ ?side1 ?side2 A3.out).mono ?_); (case side1 => exact IsS79.a); (case side2 => exact IsS79.b); rintro e w49 ⟨rfl, hi, hb, hk⟩; replace HO404 := Aside0.mk (Kd.R_mono (Kd.R_keep (IsS79.apart (IsS79.a : IsS79 w0 _ g s0_0 s0_1 s0_2) (by (with_reducible repeat (first | apply Kd.R_alloc | apply Kd.R_drewN | apply Kd.R_drew)); exact HO404.out) (by decide)) hk (fun _ h => h.2)) (fun _ h => h.1)); replace HK := Aside0.mk (KeepBut.trans (kl) hk (.inl rfl)); replace HI0 := Aside0.mk (hi); replace HB := Aside0.mk (hb); (try clear hb hk); have p408 : 0 ≤ (t405 : Int) := of_decide_eq_true (by first | (with_reducible assumption) | assumption); have q408 : t405 < (y402.length : Int) := of_decide_eq_true (by first | (with_reducible assumption) | assumption); obtain ⟨ad408, e408, hx408_0⟩ := Kd.at_string (Kd.R_reads' HO404.out).2.2 t405 p408 q408; cases e408; replace p408 := eq_true p408; replace q408 := eq_true q408) | (go_at_call 44; (with_reducible refine (spec_l01Next.calls g s0_0 t406 t407 (a1.size : Int) t409 t410 t411 w0 _ ?side1 ?side2 A11.out).mono ?_); (case side1 => exact IsS79.a); (case side2 => exact IsS79.b); rintro e w50 ⟨rfl, hi, hb, hk⟩; replace HO404 := Aside0.mk (Kd.R_mono (Kd.R_keep (IsS79.apart (IsS79.a : IsS79 w0 _ g s0_0 t406 t407) (by (with_reducible repeat (first | apply Kd.R_alloc | apply Kd.R_drewN | apply Kd.R_drew)); exact HO404.out) (by decide)) hk (fun _ h => h.2)) (fun _ h => h.1)); replace HK := Aside0.mk (KeepBut.trans (kl) hk (.inl rfl)); replace HI0 := Aside0.mk (hi); replace HB := Aside0.mk (hb); (try clear hb hk)) | (go_at_call 44; (with_reducible refine (spec_l01Next.calls g s0_0 t410 t411 3 t412 t413 t414 w0 _ ?side1 ?side2 A12.out).mono ?_); (case side1 => exact IsS79.a); (case side2 => exact IsS79.b); rintro e w51 ⟨rfl, hi, hb, hk⟩; replace HO404 := Aside0.mk (Kd.R_mono (Kd.R_keep (IsS79.apart (IsS79.a : IsS79 w0 _ g s0_0 t410 t411) (by (with_reducible repeat (first | apply Kd.R_alloc | apply Kd.R_drewN | apply Kd.R_drew)); exact HO404.out) (by decide)) hk (fun _ h => h.2)) (fun _ h => h.1)); replace HK := Aside0.mk (KeepBut.trans (kl) hk (.inl rfl)); replace HI0 := Aside0.mk (hi); replace HB := Aside0.mk (hb); (try clear hb hk))); try go_wp2_with (first | ((with_reducible refine zg 8 rfl ?_); refine Kd.R_lit Kd.string _ 9 ?hg (N := 8) ?hd (xs := ([(⟨#[48]⟩ : ByteArray), (⟨#[49]⟩ : ByteArray), (⟨#[55]⟩ : ByteArray), (⟨#[57]⟩ : ByteArray), (⟨#[46]⟩ : ByteArray), (⟨#[64]⟩ : ByteArray), (⟨#[47]⟩ : ByteArray), (⟨#[45]⟩ : ByteArray), (⟨#[32]⟩ : ByteArray), (⟨#[105]⟩ : ByteArray), (⟨#[10]⟩ : ByteArray)] : List ByteArray)) (inner := [.string (⟨#[48]⟩ : ByteArray), .string (⟨#[49]⟩ : ByteArray), .string (⟨#[55]⟩ : ByteArray), .string (⟨#[57]⟩ : ByteArray), .string (⟨#[46]⟩ : ByteArray), .string (⟨#[64]⟩ : ByteArray), .string (⟨#[47]⟩ : ByteArray), .string (⟨#[45]⟩ : ByteArray), .string (⟨#[32]⟩ : ByteArray), .string (⟨#[105]⟩ : ByteArray), .string (⟨#[10]⟩ : ByteArray)]) (ok := fun _ => True) (okp := fun _ => True) ?hr ?hp (fun _ hk => hk) trivial (Below.refl _ _) (Nat.le_refl _) (by simp) ?_; (case hd => rfl); (case hg => rfl); (case hr => first | (go_simp; done) | (go_simp; rfl)); (case hp => exact (Reps.one (show Kd.M Kd.string _ _ _ (⟨#[48]⟩ : ByteArray) [.string (⟨#[48]⟩ : ByteArray)] from rfl) (Reps.one (show Kd.M Kd.string _ _ _ (⟨#[49]⟩ : ByteArray) [.string (⟨#[49]⟩ : ByteArray)] from rfl) (Reps.one (show Kd.M Kd.string _ _ _ (⟨#[55]⟩ : ByteArray) [.string (⟨#[55]⟩ : ByteArray)] from rfl) (Reps.one (show Kd.M Kd.string _ _ _ (⟨#[57]⟩ : ByteArray) [.string (⟨#[57]⟩ : ByteArray)] from rfl) (Reps.one (show Kd.M Kd.string _ _ _ (⟨#[46]⟩ : ByteArray) [.string (⟨#[46]⟩ : ByteArray)] from rfl) (Reps.one (show Kd.M Kd.string _ _ _ (⟨#[64]⟩ : ByteArray) [.string (⟨#[64]⟩ : ByteArray)] from rfl) (Reps.one (show Kd.M Kd.string _ _ _ (⟨#[47]⟩ : ByteArray) [.string (⟨#[47]⟩ : ByteArray)] from rfl) (Reps.one (show Kd.M Kd.string _ _ _ (⟨#[45]⟩ : ByteArray) [.string (⟨#[45]⟩ : ByteArray)] from rfl) (Reps.one (show Kd.M Kd.string _ _ _ (⟨#[32]⟩ : ByteArray) [.string (⟨#[32]⟩ : ByteArray)] from rfl) (Reps.one (show Kd.M Kd.string _ _ _ (⟨#[105]⟩ : ByteArray) [.string (⟨#[105]⟩ : ByteArray)] from rfl) (Reps.one (show Kd.M Kd.string _ _ _ (⟨#[10]⟩ : ByteArray) [.string (⟨#[10]⟩ : ByteArray)] from rfl) (Reps.none _ _))))))))))))); intro v403 w46 ho47 hb hg_ hnew_; clear hg_ hnew_; (first | rw [← Ny402.out] at ho47 | (simp only [Int.reduceToNat] at ho47; rw [← Ny402.out] at ho47)); have HO404 := Aside0.mk (Kd.R_lower ho47 (keep_size (w := w) (g := g) (row := none) (kl))); replace HK := Aside0.mk (KeepBut.trans (kl) (KeepBut.of_below hb g none) (.inl rfl)); replace HB := Aside0.mk (below_step IsS79.b hb); replace HI0 := Aside0.mk (IsS79.below (IsS79.a) hb); clear hb ho47; obtain ⟨Ao48, co48, eo48⟩ := Kd.R_slice HO404.out; subst eo48) | (go_at_call 44; (with_reducible refine (spec_l01Next.calls g s0_0 s0_1 s0_2 (y402.length : Int) t405 t406 t407 w0 _ ?side1 ?side2 A3.out).mono ?_); (case side1 => exact IsS79.a); (case side2 => exact IsS79.b); rintro e w49 ⟨rfl, hi, hb, hk⟩; replace HO404 := Aside0.mk (Kd.R_mono (Kd.R_keep (IsS79.apart (IsS79.a : IsS79 w0 _ g s0_0 s0_1 s0_2) (by (with_reducible repeat (first | apply Kd.R_alloc | apply Kd.R_drewN | apply Kd.R_drew)); exact HO404.out) (by decide)) hk (fun _ h => h.2)) (fun _ h => h.1)); replace HK := Aside0.mk (KeepBut.trans (kl) hk (.inl rfl)); replace HI0 := Aside0.mk (hi); replace HB := Aside0.mk (hb); (try clear hb hk); have p408 : 0 ≤ (t405 : Int) := of_decide_eq_true (by first | (with_reducible assumption) | assumption); have q408 : t405 < (y402.length : Int) := of_decide_eq_true (by first | (with_reducible assumption) | assumption); obtain ⟨ad408, e408, hx408_0⟩ := Kd.at_string (Kd.R_reads' HO404.out).2.2 t405 p408 q408; cases e408; replace p408 := eq_true p408; replace q408 := eq_true q408) | (go_at_call 44; (with_reducible refine (spec_l01Next.calls g s0_0 t406 t407 (a1.size : Int) t409 t410 t411 w0 _ ?side1 ?side2 A11.out).mono ?_); (case side1 => exact IsS79.a); (case side2 => exact IsS79.b); rintro e w50 ⟨rfl, hi, hb, hk⟩; replace HO404 := Aside0.mk (Kd.R_mono (Kd.R_keep (IsS79.apart (IsS79.a : IsS79 w0 _ g s0_0 t406 t407) (by (with_reducible repeat (first | apply Kd.R_alloc | apply Kd.R_drewN | apply Kd.R_drew)); exact HO404.out) (by decide)) hk (fun _ h => h.2)) (fun _ h => h.1)); replace HK := Aside0.mk (KeepBut.trans (kl) hk (.inl rfl)); replace HI0 := Aside0.mk (hi); replace HB := Aside0.mk (hb); (try clear hb hk)) | (go_at_call 44; (with_reducible refine (spec_l01Next.calls g s0_0 t410 t411 3 t412 t413 t414 w0 _ ?side1 ?side2 A12.out).mono ?_); (case side1 => exact IsS79.a); (case side2 => exact IsS79.b); rintro e w51 ⟨rfl, hi, hb, hk⟩; replace HO404 := Aside0.mk (Kd.R_mono (Kd.R_keep (IsS79.apart (IsS79.a : IsS79 w0 _ g s0_0 t410 t411) (by (with_reducible repeat (first | apply Kd.R_alloc | apply Kd.R_drewN | apply Kd.R_drew)); exact HO404.out) (by decide)) hk (fun _ h => h.2)) (fun _ h => h.1)); replace HK := Aside0.mk (KeepBut.trans (kl) hk (.inl rfl)); replace HI0 := Aside0.mk (hi); replace HB := Aside0.mk (hb); (try clear hb hk))))
          go_ret
          exact ⟨er, IsS79.a, IsS79.b, kl⟩
         ·exact absurd H (by simp)
        ·exact absurd H (by simp)
       ·exact absurd H (by simp)
      ·exact absurd H (by simp)
  ·exact absurd H (by simp)
 ·exact absurd H (by simp)

/-! ### spec_DrawParseBall: function 15 -/
def spec_DrawParseBall.l0 : Nat → Int → ByteArray → List Int → Int → Int → Option (Int × ByteArray)
 | 0, _, _, _, _, _ => none
 | k + 1, x5, x7, x419000, x419001, x419002 => (spec_l01Next.f x419000 x419001 x419002 3).bind fun bt427 => (if bt427.1 = 0 then ((spec_l01Damage.f x419000 bt427.2.1 bt427.2.2 x7).bind fun bt430 => (spec_DrawParseBall.l0 k x5 bt430.1 x419000 bt430.2.1 bt430.2.2)) else (some (x5, x7)))
def spec_DrawParseBall.f (k : Nat) (l0 : List Int) : Option (Int × ByteArray) := (spec_l01From.f k l0).bind fun bt415 => ((spec_l01Spoil.f k bt415.1 bt415.2.1 bt415.2.2).bind fun bt419 => ((spec_l01Text.f k bt419.1 bt419.2.1 bt419.2.2.1 bt419.2.2.2.1).bind fun t426 => (spec_DrawParseBall.l0 k bt419.1 t426 bt415.1 bt419.2.2.2.2.1 bt419.2.2.2.2.2)))
set_option maxHeartbeats 8000000 in
set_option maxRecDepth 100000 in
theorem spec_DrawParseBall.calls (k : Nat) (A0 : Option Addr) (c0 : Nat) (l0 : List Int) (r1 : Int) (r2 : ByteArray) (w : World) (hr0 : Kd.C (Kd.int .u8) w A0 l0.length l0) (hc0 : l0.length ≤ c0) (h : spec_DrawParseBall.f k l0 = some (r1, r2)) :
  Calls Tryz.prog 15 #[.slice A0 l0.length c0] w fun e w' => e = .returned (.tuple #[.int .i64 r1, .string r2]) ∧ Below w.heap.size w w' := by
 have hu35 := Tryz.underlying35
 have HR0 := Aside0.mk hr0
 have HC0 := Aside0.mk hc0
 clear hr0 hc0
 have HB := Aside0.mk (Below.refl w.heap.size w)
 unfold spec_DrawParseBall.f at h
 have H := h
 clear h
 replace H := zi H
 obtain ⟨⟨t415, t416, t417⟩, A2, H⟩ := H
 try dsimp only at H
 replace H := zi H
 obtain ⟨⟨t419, t420, t421, t422, t423, t424⟩, A3, H⟩ := H
 try dsimp only at H
 replace H := zi H
 obtain ⟨t426, A4, H⟩ := H
 try dsimp only at H
 have H' := Aside0.mk H
 clear H
 go_enter Tryz.func15, Tryz.ntmps15
 go_wp2_with (first | ((with_reducible refine zf 26 rfl ?_); refine g1 (some 9) Tryz.func26 #[.slice A0 l0.length c0] ?_; (with_reducible refine (spec_l01From.calls k _ _ l0 t415 t416 t417 w _ ?side1 ?side2 ?side3 A2.out).mono ?_); (case side1 => exact bl); (case side2 => exact HR0.out); (case side3 => exact HC0.out); rintro e w5 ⟨g418, rfl, hi, hb, hb2⟩; refine ⟨_, rfl, ?_⟩; have HI418 := Aside0.mk (hi); replace HB := Aside0.mk (hb); (try clear hb); (try clear hb2); (try clear hk); (try clear hi)) | ((with_reducible refine zf 38 rfl ?_); refine g1 (some 12) Tryz.func38 #[.pointer (some ⟨g418, 0, none⟩)] ?_; (with_reducible refine (spec_l01Spoil.calls k g418 t415 t416 t417 t419 t420 t421 t422 t423 t424 w _ ?side1 ?side2 A3.out).mono ?_); (case side1 => repeat (first | (with_reducible first | exact HI418.out | apply IsS79.alloc | apply IsS79.drewN | apply IsS79.drew | apply IsS79.set_1 | apply IsS79.set_2) | exact HI418.out)); (case side2 => repeat (first | (with_reducible first | exact HB.out | apply below_alloc | apply pw_below_drewN | apply below_drew1 | refine below_set ?_ (IsS79.ge HI418.out)) | exact HB.out)); rintro e w6 ⟨rfl, hi, hb, hk⟩; refine ⟨_, rfl, ?_⟩; replace HI418 := Aside0.mk (hi); replace HB := Aside0.mk (hb); (try clear hb hk)) | ((with_reducible refine zg 6 rfl ?_); refine z3 6 35 0 0 0 ?_; intro gb425 hg w7 BK425 hb; have GW425 := Aside0.mk ((by rw [hg]; exact (below_size (by repeat (first | (with_reducible first | exact HB.out | apply below_alloc | apply pw_below_drewN | apply below_drew1 | refine below_set ?_ (IsS79.ge HI418.out)) | exact HB.out))) : w.heap.size ≤ gb425)); have GE425 := Aside0.mk ((by rw [hg]; exact (below_size (by repeat (first | (with_reducible first | exact HB.out | apply below_alloc | apply pw_below_drewN | apply below_drew1 | refine below_set ?_ (IsS79.ge HI418.out)) | exact HB.out))) : w.heap.size ≤ gb425)); have NB418_425 := Aside0.mk ((by rw [hg]; exact Nat.ne_of_lt (IsS79.lt (show IsS79 w _ g418 t415 t423 t424 from by repeat (first | (with_reducible first | exact HI418.out | apply IsS79.alloc | apply IsS79.drewN | apply IsS79.drew | apply IsS79.set_1 | apply IsS79.set_2) | exact HI418.out))) : g418 ≠ gb425)); have NB425_418 := Aside0.mk ((by rw [hg]; exact Nat.ne_of_gt (IsS79.lt (show IsS79 w _ g418 t415 t423 t424 from by repeat (first | (with_reducible first | exact HI418.out | apply IsS79.alloc | apply IsS79.drewN | apply IsS79.drew | apply IsS79.set_1 | apply IsS79.set_2) | exact HI418.out))) : gb425 ≠ g418)); replace HB := Aside0.mk (below_step (by repeat (first | (with_reducible first | exact HB.out | apply below_alloc | apply pw_below_drewN | apply below_drew1 | refine below_set ?_ (IsS79.ge HI418.out)) | exact HB.out)) hb); replace HI418 := Aside0.mk (IsS79.below (by repeat (first | (with_reducible first | exact HI418.out | apply IsS79.alloc | apply IsS79.drewN | apply IsS79.drew | apply IsS79.set_1 | apply IsS79.set_2) | exact HI418.out)) hb); clear hb hg; have hnb8 := NB425_418.out; have hnc8 := NB418_425.out; obtain ⟨hcz9_0, hcz9_1, hcz9_2, hfz9_0, hfz9_1, hfz9_2⟩ := cq3 BK425) | ((with_reducible refine zf 42 rfl ?_); refine g1 (some 17) Tryz.func42 #[.int .i64 t419, .agg #[.int .i64 t420, .int .i64 t421, .int .i64 t422]] ?_; (with_reducible refine (spec_l01Text.calls k t419 t420 t421 t422 t426 _ A4.out).mono ?_); rintro e w10 ⟨rfl, hb⟩; refine ⟨_, rfl, ?_⟩; replace BK425 := Aside0.mk (blk_below (g := gb425) (o := .cells #[.int .i64 t420, .int .i64 t421, .int .i64 t422] 35 (0, 0)) (bp) hb); replace HB := Aside0.mk (below_step (by repeat (first | (with_reducible first | exact HB.out | apply below_alloc | apply pw_below_drewN | apply below_drew1 | refine below_set ?_ (IsS79.ge HI418.out) | refine below_set ?_ GE425.out) | exact HB.out)) hb); replace HI418 := Aside0.mk (IsS79.below (show IsS79 w (((w7.setCell ⟨gb425, 0, none⟩ (.int .i64 t420)).setCell ⟨gb425, 1, none⟩ (.int .i64 t421)).setCell ⟨gb425, 2, none⟩ (.int .i64 t422)) g418 t415 t423 t424 from by repeat (first | (with_reducible first | exact HI418.out | apply IsS79.alloc | apply IsS79.drewN | apply IsS79.drew | apply IsS79.set_1 | apply IsS79.set_2 | refine IsS79.far ?_ NB418_425.out _) | exact HI418.out)) hb); (try clear hb)))
 go_loopg [7] k (fun kq v7 w' => ∃ (x7_1 : ByteArray) (x419001_1 : Int) (x419002_1 : Int), v7 = .string x7_1 ∧ Aside0 (spec_DrawParseBall.l0 kq t419 x7_1 t415 x419001_1 x419002_1 = some (r1, r2)) ∧ Aside0 (kq ≤ k) ∧ Aside0 (w'.heap[gb425]? = some (.cells #[.int .i64 t420, .int .i64 t421, .int .i64 t422] 35 (0, 0))) ∧ Aside0 (IsS79 w w' g418 t415 x419001_1 x419002_1) ∧ Aside0 (Below w.heap.size w w'))
 case atStart => exact ⟨(t426), (t423), (t424), (by first | rfl | (simp; done) | (simp [*]; done)), H', ⟨Nat.le_refl _⟩, ⟨be BK425⟩, ⟨by repeat (first | (with_reducible first | exact HI418.out | apply IsS79.alloc | apply IsS79.drewN | apply IsS79.drew | apply IsS79.set_1 | apply IsS79.set_2 | refine IsS79.far ?_ NB418_425.out _) | exact HI418.out)⟩, ⟨by repeat (first | (with_reducible first | exact HB.out | apply below_alloc | apply pw_below_drewN | apply below_drew1 | refine below_set ?_ (IsS79.ge HI418.out) | refine below_set ?_ GE425.out) | exact HB.out)⟩⟩
 case round =>
  clear H'
  obtain ⟨x7_1, x419001_1, x419002_1, rfl, HA, HK1, BK425, HI418, HB⟩ := hrel
  cases gk with
  | zero => exact absurd HA.out (by simp [spec_DrawParseBall.l0])
  | succ k1 =>
   have H := HA.out
   clear HA
   simp only [spec_DrawParseBall.l0] at H
   replace H := zi H
   obtain ⟨⟨t427, t428, t429⟩, A11, H⟩ := H
   try dsimp only at H
   replace H := ii H
   rcases H with ⟨c12, H⟩ | ⟨c12, H⟩
   ·obtain ⟨c12b0, c12b1⟩ := zz c12
    clear c12
    replace H := zi H
    obtain ⟨⟨t430, t431, t432⟩, A13, H⟩ := H
    try dsimp only at H
    have H' := Aside0.mk H
    clear H
    go_wp2_with (first | ((with_reducible refine zf 44 rfl ?_); refine g1 (some 19) Tryz.func44 #[.pointer (some ⟨g418, 0, none⟩), .int .i64 3] ?_; (with_reducible refine (spec_l01Next.calls g418 t415 x419001_1 x419002_1 3 t427 t428 t429 w _ ?side1 ?side2 A11.out).mono ?_); (case side1 => repeat (first | (with_reducible first | exact HI418.out | apply IsS79.alloc | apply IsS79.drewN | apply IsS79.drew | apply IsS79.set_1 | apply IsS79.set_2 | refine IsS79.far ?_ NB418_425.out _) | exact HI418.out)); (case side2 => repeat (first | (with_reducible first | exact HB.out | apply below_alloc | apply pw_below_drewN | apply below_drew1 | refine below_set ?_ (IsS79.ge HI418.out) | refine below_set ?_ GE425.out) | exact HB.out)); rintro e w14 ⟨rfl, hi, hb, hk⟩; refine ⟨_, rfl, ?_⟩; replace BK425 := kb hk BK425 NB425_418; replace HI418 := Aside0.mk (hi); replace HB := Aside0.mk (hb); (try clear hb hk)) | ((with_reducible refine zf 45 rfl ?_); refine g1 (some 23) Tryz.func45 #[.pointer (some ⟨g418, 0, none⟩), .string x7_1] ?_; (with_reducible refine (spec_l01Damage.calls g418 t415 t428 t429 x7_1 t430 t431 t432 w _ ?side1 ?side2 A13.out).mono ?_); (case side1 => repeat (first | (with_reducible first | exact HI418.out | apply IsS79.alloc | apply IsS79.drewN | apply IsS79.drew | apply IsS79.set_1 | apply IsS79.set_2 | refine IsS79.far ?_ NB418_425.out _) | exact HI418.out)); (case side2 => repeat (first | (with_reducible first | exact HB.out | apply below_alloc | apply pw_below_drewN | apply below_drew1 | refine below_set ?_ (IsS79.ge HI418.out) | refine below_set ?_ GE425.out) | exact HB.out)); rintro e w15 ⟨rfl, hi, hb, hk⟩; refine ⟨_, rfl, ?_⟩; replace BK425 := kb hk BK425 NB425_418; replace HI418 := Aside0.mk (hi); replace HB := Aside0.mk (hb); (try clear hb hk)))
    go_roundg k1
    case measure => have := HK1.out; omega
    case rel => exact ⟨(t430), (t431), (t432), (by first | rfl | (simp; done) | (simp [*]; done)), H', ⟨by have := HK1.out; omega⟩, ⟨be BK425⟩, ⟨by repeat (first | (with_reducible first | exact HI418.out | apply IsS79.alloc | apply IsS79.drewN | apply IsS79.drew | apply IsS79.set_1 | apply IsS79.set_2 | refine IsS79.far ?_ NB418_425.out _) | exact HI418.out)⟩, ⟨by repeat (first | (with_reducible first | exact HB.out | apply below_alloc | apply pw_below_drewN | apply below_drew1 | refine below_set ?_ (IsS79.ge HI418.out) | refine below_set ?_ GE425.out) | exact HB.out)⟩⟩
   ·obtain ⟨c12b0, c12b1⟩ := zy c12
    simp only [Option.some.injEq, Prod.mk.injEq] at H
    obtain ⟨rfl, rfl⟩ := H
    go_wp2_with (first | ((with_reducible refine zf 44 rfl ?_); refine g1 (some 19) Tryz.func44 #[.pointer (some ⟨g418, 0, none⟩), .int .i64 3] ?_; (with_reducible refine (spec_l01Next.calls g418 t415 x419001_1 x419002_1 3 t427 t428 t429 w _ ?side1 ?side2 A11.out).mono ?_); (case side1 => repeat (first | (with_reducible first | exact HI418.out | apply IsS79.alloc | apply IsS79.drewN | apply IsS79.drew | apply IsS79.set_1 | apply IsS79.set_2 | refine IsS79.far ?_ NB418_425.out _) | exact HI418.out)); (case side2 => repeat (first | (with_reducible first | exact HB.out | apply below_alloc | apply pw_below_drewN | apply below_drew1 | refine below_set ?_ (IsS79.ge HI418.out) | refine below_set ?_ GE425.out) | exact HB.out)); rintro e w16 ⟨rfl, hi, hb, hk⟩; refine ⟨_, rfl, ?_⟩; replace BK425 := kb hk BK425 NB425_418; replace HI418 := Aside0.mk (hi); replace HB := Aside0.mk (hb); (try clear hb hk)))
    go_ret2
    exact ⟨er, by repeat (first | (with_reducible first | exact HB.out | apply below_alloc | apply pw_below_drewN | apply below_drew1 | refine below_set ?_ (IsS79.ge HI418.out) | refine below_set ?_ GE425.out) | exact HB.out)⟩

/-! ### spec_l01Split: function 68 -/
def spec_l01Split.l0 : Nat → ByteArray → Int → List ByteArray → Int → Int → Option (List ByteArray)
 | 0, _, _, _, _, _ => none
 | k + 1, x0, x1, x5, x6, x7 => if x7 < (x0.size : Int) then (if 0 ≤ x7 then (if (bt x0 x7) = x1 then (if 0 ≤ x6 then (if x6 ≤ x7 then (if x7 ≤ (x0.size : Int) then (if x5.length < 8796093022208 then (spec_l01Split.l0 k x0 x1 (x5 ++ [x0.extract (x6 : Int).toNat (x7 : Int).toNat]) (wrap64 (x7 + 1)) (wrap64 (x7 + 1))) else (none)) else (none)) else (none)) else (none)) else (spec_l01Split.l0 k x0 x1 x5 x6 (wrap64 (x7 + 1)))) else (none)) else (if 0 ≤ x6 then (if x6 ≤ (x0.size : Int) then (if x5.length < 8796093022208 then (some (x5 ++ [x0.extract (x6 : Int).toNat x0.size])) else (none)) else (none)) else (none))
def spec_l01Split.f (k : Nat) (a0 : ByteArray) (a1 : Int) : Option (List ByteArray) := spec_l01Split.l0 k a0 a1 (([] : List ByteArray)) 0 0
set_option maxHeartbeats 8000000 in
set_option maxRecDepth 100000 in
theorem spec_l01Split.calls (k : Nat) (a0 : ByteArray) (a1 : Int) (r : List ByteArray) (w : World) (h : spec_l01Split.f k a0 a1 = some r) :
  Calls Tryz.prog 68 #[.string a0, .int .u8 a1] w fun e w' => ∃ v0_ : Value, e = .returned (v0_) ∧ Kd.R Kd.string 9 w' w.heap.size (fun _ => True) v0_ r ∧ Below w.heap.size w w' := by
 have HB := Aside0.mk (Below.refl w.heap.size w)
 unfold spec_l01Split.f at h
 have H := h
 clear h
 obtain ⟨y433, hy433⟩ : ∃ y_ : List ByteArray, y_ = (([] : List ByteArray)) := ⟨_, rfl⟩
 replace H : (spec_l01Split.l0 k a0 a1 y433 0 0) = some r := by first | exact hy433 ▸ H | exact H
 have Ny433 := Aside0.mk hy433
 clear hy433
 have H' := Aside0.mk H
 clear H
 go_enter Tryz.func68, Tryz.ntmps68
 go_wp2_with (first | ((with_reducible refine zg 8 rfl ?_); refine Kd.R_lit Kd.string _ 9 ?hg (N := 8) ?hd (xs := ([] : List ByteArray)) (inner := []) (ok := fun _ => True) (okp := fun _ => True) ?hr ?hp (fun _ hk => hk) trivial (Below.refl _ _) (Nat.le_refl _) (by simp) ?_; (case hd => rfl); (case hg => rfl); (case hr => first | (go_simp; done) | (go_simp; rfl)); (case hp => exact (Reps.none _ _)); intro v434 w3 ho4 hb hg_ hnew_; clear hg_ hnew_; (first | rw [← Ny433.out] at ho4 | (simp only [Int.reduceToNat] at ho4; rw [← Ny433.out] at ho4)); have HO435 := Aside0.mk (Kd.R_lower ho4 (below_size (bl))); replace HB := bs hb; clear hb ho4))
 go_loopg [5, 6, 7] k (fun kq v5 v6 v7 w' => ∃ (x5_1 : List ByteArray) (x6_1 : Int) (x7_1 : Int), v6 = .int .i64 x6_1 ∧ v7 = .int .i64 x7_1 ∧ Aside0 (spec_l01Split.l0 kq a0 a1 x5_1 x6_1 x7_1 = some r) ∧ Aside0 (kq ≤ k) ∧ Aside0 (Kd.R Kd.string 9 w' w.heap.size (fun _ => True) v5 x5_1) ∧ Aside0 (Below w.heap.size w w'))
 case atStart => exact ⟨(y433), (0), (0), (by first | rfl | (simp; done) | (simp [*]; done)), (by first | rfl | (simp; done) | (simp [*]; done)), H', ⟨Nat.le_refl _⟩, ⟨by (with_reducible repeat (first | apply Kd.R_alloc | apply Kd.R_drewN | apply Kd.R_drew)); exact HO435.out⟩, ⟨bl⟩⟩
 case round =>
  clear H'
  obtain ⟨x5_1, x6_1, x7_1, rfl, rfl, HA, HK1, HO_5, HB⟩ := hrel
  cases gk with
  | zero => exact absurd HA.out (by simp [spec_l01Split.l0])
  | succ k1 =>
   have H := HA.out
   clear HA
   simp only [spec_l01Split.l0] at H
   replace H := ii H
   rcases H with ⟨c5, H⟩ | ⟨c5, H⟩
   ·have c5b0 := decide_eq_true c5
    clear c5
    replace H := ii H
    rcases H with ⟨c6, H⟩ | ⟨c6, H⟩
    ·have c6b0 := decide_eq_true c6
     clear c6
     replace H := ii H
     rcases H with ⟨c8, H⟩ | ⟨c8, H⟩
     ·obtain ⟨c8b0, c8b1⟩ := zz c8
      clear c8
      replace H := ii H
      rcases H with ⟨c9, H⟩ | ⟨c9, H⟩
      ·have c9b0 := eq_true c9
       have c9b1 := decide_eq_true c9
       clear c9
       replace H := ii H
       rcases H with ⟨c10, H⟩ | ⟨c10, H⟩
       ·have c10b0 := eq_true c10
        have c10b1 := decide_eq_true c10
        clear c10
        replace H := ii H
        rcases H with ⟨c11, H⟩ | ⟨c11, H⟩
        ·have c11b0 := eq_true c11
         have c11b1 := decide_eq_true c11
         clear c11
         replace H := ii H
         rcases H with ⟨c12, H⟩ | ⟨c12, H⟩
         ·have LMc12 := Aside0.mk c12
          clear c12
          obtain ⟨y436, hy436⟩ : ∃ y_ : List ByteArray, y_ = (x5_1 ++ [a0.extract (x6_1 : Int).toNat (x7_1 : Int).toNat]) := ⟨_, rfl⟩
          replace H : (spec_l01Split.l0 k1 a0 a1 y436 (wrap64 (x7_1 + 1)) (wrap64 (x7_1 + 1))) = some r := by first | exact hy436 ▸ H | exact H
          have Ny436 := Aside0.mk hy436
          clear hy436
          have H' := Aside0.mk H
          clear H
          have p7 : 0 ≤ (x7_1 : Int) := za
          have q7 : x7_1 < (a0.size : Int) := za
          have hx7 := bt_at a0 x7_1
          replace p7 := eq_true p7
          replace q7 := eq_true q7
          go_wp2_with (first | ((with_reducible refine gate_builtin (b := .append) (xs := #[.tmp 20, .tmp 25]) rfl ?_); at_builtin; refine Kd.R_append Kd.string (w0 := w) w.heap.size rfl (.tmp 20) (.tmp 25) 89 9 (.string ⟨#[]⟩) 16 rfl Tryz.underlying89 info9 rfl (by decide) (by omega) u5 x5_1 (a0.extract (x6_1 : Int).toNat (x7_1 : Int).toNat) [.string (a0.extract (x6_1 : Int).toNat (x7_1 : Int).toNat)] (fun _ => True) (fun _ => False) rfl rfl ?aP (fun _ hk => hk.elim) ?aF ?aO ?aB ?aS ?aL ?_; (case aP => exact rfl); (case aB => exact (bl)); (case aF => exact (fun _ _ => trivial)); (case aO => exact (by (with_reducible repeat (first | apply Kd.R_alloc | apply Kd.R_drewN | apply Kd.R_drew)); exact HO_5.out)); (case aS => exact (below_size (bl))); (case aL => have := LMc12.out; omega); intro v437 w13 ho hb hg hat; rw [← Ny436.out] at ho; have n0_ := Aside0.mk (hb); have n1_ := Aside0.mk (ho); clear HB; clear HO_5; have HB := n0_; have HO438 := n1_; clear n0_ n1_; clear ho hb hg hat))
          go_roundg k1
          case measure => have := HK1.out; omega
          case rel => exact ⟨(y436), (wrap64 (x7_1 + 1)), (wrap64 (x7_1 + 1)), (by first | rfl | (simp; done) | (simp [*]; done)), (by first | rfl | (simp; done) | (simp [*]; done)), H', ⟨by have := HK1.out; omega⟩, ⟨by (with_reducible repeat (first | apply Kd.R_alloc | apply Kd.R_drewN | apply Kd.R_drew)); exact HO438.out⟩, ⟨bl⟩⟩
         ·exact absurd H (by simp)
        ·exact absurd H (by simp)
       ·exact absurd H (by simp)
      ·exact absurd H (by simp)
     ·obtain ⟨c8b0, c8b1⟩ := zy c8
      have H' := Aside0.mk H
      clear H
      have p7 : 0 ≤ (x7_1 : Int) := za
      have q7 : x7_1 < (a0.size : Int) := za
      have hx7 := bt_at a0 x7_1
      replace p7 := eq_true p7
      replace q7 := eq_true q7
      go_wp2
      go_roundg k1
      case measure => have := HK1.out; omega
      case rel => exact ⟨(x5_1), (x6_1), (wrap64 (x7_1 + 1)), (by first | rfl | (simp; done) | (simp [*]; done)), (by first | rfl | (simp; done) | (simp [*]; done)), H', ⟨by have := HK1.out; omega⟩, ⟨by (with_reducible repeat (first | apply Kd.R_alloc | apply Kd.R_drewN | apply Kd.R_drew)); exact HO_5.out⟩, ⟨bl⟩⟩
    ·exact absurd H (by simp)
   ·have c5b0 := decide_eq_false c5
    clear c5
    replace H := ii H
    rcases H with ⟨c14, H⟩ | ⟨c14, H⟩
    ·have c14b0 := eq_true c14
     have c14b1 := decide_eq_true c14
     clear c14
     replace H := ii H
     rcases H with ⟨c15, H⟩ | ⟨c15, H⟩
     ·have c15b0 := eq_true c15
      have c15b1 := decide_eq_true c15
      clear c15
      replace H := ii H
      rcases H with ⟨c16, H⟩ | ⟨c16, H⟩
      ·have LMc16 := Aside0.mk c16
       clear c16
       obtain ⟨y439, hy439⟩ : ∃ y_ : List ByteArray, y_ = (x5_1 ++ [a0.extract (x6_1 : Int).toNat a0.size]) := ⟨_, rfl⟩
       replace H : (some y439) = some r := by first | exact hy439 ▸ H | exact H
       have Ny439 := Aside0.mk hy439
       clear hy439
       obtain rfl := Option.some.inj H
       go_wp2_with (first | ((with_reducible refine gate_builtin (b := .append) (xs := #[.tmp 29, .tmp 33]) rfl ?_); at_builtin; refine Kd.R_append Kd.string (w0 := w) w.heap.size rfl (.tmp 29) (.tmp 33) 89 9 (.string ⟨#[]⟩) 16 rfl Tryz.underlying89 info9 rfl (by decide) (by omega) u5 x5_1 (a0.extract (x6_1 : Int).toNat a0.size) [.string (a0.extract (x6_1 : Int).toNat a0.size)] (fun _ => True) (fun _ => False) rfl rfl ?aP (fun _ hk => hk.elim) ?aF ?aO ?aB ?aS ?aL ?_; (case aP => exact rfl); (case aB => exact (bl)); (case aF => exact (fun _ _ => trivial)); (case aO => exact (by (with_reducible repeat (first | apply Kd.R_alloc | apply Kd.R_drewN | apply Kd.R_drew)); exact HO_5.out)); (case aS => exact (below_size (bl))); (case aL => have := LMc16.out; omega); intro v440 w17 ho hb hg hat; rw [← Ny439.out] at ho; have n0_ := Aside0.mk (hb); have n1_ := Aside0.mk (ho); clear HB; clear HO_5; have HB := n0_; have HO441 := n1_; clear n0_ n1_; clear ho hb hg hat))
       go_ret
       exact ⟨_, er, by (with_reducible repeat (first | apply Kd.R_alloc | apply Kd.R_drewN | apply Kd.R_drew)); exact HO441.out, bl⟩
      ·exact absurd H (by simp)
     ·exact absurd H (by simp)
    ·exact absurd H (by simp)

/-! ### spec_l01Number: function 70 -/
mutual
def spec_l01Number.j0 : Nat → ByteArray → Bool → Option (Int)
 | 0, _, _ => none
 | k + 1, x0, x22 => if x22 = true then (some (-1)) else (spec_l01Number.l0 k x0 0 0)
def spec_l01Number.l0 : Nat → ByteArray → Int → Int → Option (Int)
 | 0, _, _, _ => none
 | k + 1, x0, x3, x4 => if x4 < (x0.size : Int) then (if 0 ≤ x4 then (if (bt x0 x4) < 48 then (some (-1)) else (if (bt x0 x4) > 57 then (some (-1)) else (spec_l01Number.l0 k x0 (wrap64 ((wrap64 (x3 * 10)) + (((bt x0 x4) - 48) % 256))) (wrap64 (x4 + 1))))) else (none)) else (some x3)
end
def spec_l01Number.f (k : Nat) (a0 : ByteArray) : Option (Int) := if (a0.size : Int) = 0 then (spec_l01Number.j0 k a0 true) else (if (a0.size : Int) > 11 then (spec_l01Number.j0 k a0 true) else (if (a0.size : Int) > 1 then (if 0 < (a0.size : Int) then (spec_l01Number.j0 k a0 ((bt a0 0) == 48)) else (none)) else (spec_l01Number.j0 k a0 false)))
set_option maxHeartbeats 8000000 in
set_option maxRecDepth 100000 in
theorem spec_l01Number.calls (k : Nat) (a0 : ByteArray) (r : Int) (w : World) (h : spec_l01Number.f k a0 = some r) :
  Calls Tryz.prog 70 #[.string a0] w fun e w' => e = .returned (.int .i64 r) ∧ Drawn0 w w' := by
 unfold spec_l01Number.f at h
 have H := h
 clear h
 have HC2 := Aside0.mk H
 clear H
 go_enter Tryz.func70, Tryz.ntmps70
 go_upto_region 1 with (fail)
 go_cut [22] (fun v22 wc => ∃ (kq : Nat) (x22_1 : Bool), v22 = .bool x22_1 ∧ Aside0 (spec_l01Number.j0 kq a0 x22_1 = some r) ∧ Aside0 (kq ≤ k) ∧ Drawn0 w wc)
 case first =>
  have H := HC2.out
  clear HC2
  replace H := ii H
  rcases H with ⟨c3, H⟩ | ⟨c3, H⟩
  ·obtain ⟨c3b0, c3b1⟩ := zz c3
   clear c3
   (first | rw [c3b0] | (simp only [i64_w, i32_w]; rw [c3b0]) | skip)
   have H' := Aside0.mk H
   clear H
   go_wp2
   go_meet
   case rel => exact ⟨_, (true), (by first | rfl | (simp; done) | (simp [*]; done)), H', ⟨by first | omega | exact Nat.le_refl _⟩, by repeat (first | exact Drawn0.refl _ | apply Drawn0.step)⟩
  ·obtain ⟨c3b0, c3b1⟩ := zy c3
   (first | rw [c3b0] | (simp only [i64_w, i32_w]; rw [c3b0]) | skip)
   replace H := ii H
   rcases H with ⟨c4, H⟩ | ⟨c4, H⟩
   ·have c4b0 := decide_eq_true c4
    have c4b1 : decide (11 < a0.size) = true := decide_eq_true (by omega)
    clear c4
    have H' := Aside0.mk H
    clear H
    go_wp2
    go_meet
    case rel => exact ⟨_, (true), (by first | rfl | (simp; done) | (simp [*]; done)), H', ⟨by first | omega | exact Nat.le_refl _⟩, by repeat (first | exact Drawn0.refl _ | apply Drawn0.step)⟩
   ·have c4b0 := decide_eq_false c4
    have c4b1 : decide (11 < a0.size) = false := decide_eq_false (by omega)
    clear c4
    replace H := ii H
    rcases H with ⟨c5, H⟩ | ⟨c5, H⟩
    ·have c5b0 := decide_eq_true c5
     have c5b1 : decide (1 < a0.size) = true := decide_eq_true (by omega)
     clear c5
     replace H := ii H
     rcases H with ⟨c6, H⟩ | ⟨c6, H⟩
     ·have c6b0 := decide_eq_true c6
      have c6b1 : decide (0 < a0.size) = true := decide_eq_true (by omega)
      clear c6
      have H' := Aside0.mk H
      clear H
      have p7 : 0 ≤ (0 : Int) := (by omega)
      have q7 : 0 < a0.size := (by have : (0 : Int) < (a0.size : Int) := of_decide_eq_true (by first | (with_reducible assumption) | assumption); omega)
      have hx7 : ∀ h : 0 < a0.size, ((a0[0]'h).toNat : Int) = bt a0 0 := bt_at a0 0
      clear p7
      have qi7 : (0 < (a0.size : Int)) = True := eq_true (of_decide_eq_true (by first | (with_reducible assumption) | assumption))
      replace q7 := eq_true q7
      go_wp2
      go_meet
      case rel => exact ⟨_, (((bt a0 0) == 48)), (by first | rfl | (simp; done) | (simp [*]; done)), H', ⟨by first | omega | exact Nat.le_refl _⟩, by repeat (first | exact Drawn0.refl _ | apply Drawn0.step)⟩
     ·exact absurd H (by simp)
    ·have c5b0 := decide_eq_false c5
     have c5b1 : decide (1 < a0.size) = false := decide_eq_false (by omega)
     clear c5
     have H' := Aside0.mk H
     clear H
     go_wp2
     go_meet
     case rel => exact ⟨_, (false), (by first | rfl | (simp; done) | (simp [*]; done)), H', ⟨by first | omega | exact Nat.le_refl _⟩, by repeat (first | exact Drawn0.refl _ | apply Drawn0.step)⟩
 case rest =>
  clear HC2
  obtain ⟨kq, x22_1, rfl, HA, HJ1, ⟨mc1, rfl⟩⟩ := hcut
  cases kq with
  | zero => exact absurd HA.out (by simp [spec_l01Number.j0])
  | succ kj1 =>
   have H := HA.out
   clear HA
   simp only [spec_l01Number.j0] at H
   by_cases c8 : x22_1 = true
   ·subst c8
    rw [if_pos rfl] at H
    obtain rfl := Option.some.inj H
    go_wp2
    go_ret
    exact zx
   ·replace c8 := Bool.eq_false_iff.mpr c8
    subst c8
    have H1 : (spec_l01Number.l0 kj1 a0 0 0) = some r := by rw [if_neg (show ¬ (false = true) by decide)] at H; exact H
    clear H
    have H := H1
    clear H1
    have H' := Aside0.mk H
    clear H
    go_wp2
    go_loopg [3, 4] kj1 (fun kq v3 v4 w' => ∃ (x3_2 : Int) (x4_2 : Int), v3 = .int .i64 x3_2 ∧ v4 = .int .i64 x4_2 ∧ Aside0 (spec_l01Number.l0 kq a0 x3_2 x4_2 = some r) ∧ Aside0 (kq ≤ kj1) ∧ Drawn0 w w')
    case atStart => exact ⟨(0), (0), (by first | rfl | (simp; done) | (simp [*]; done)), (by first | rfl | (simp; done) | (simp [*]; done)), H', ⟨Nat.le_refl _⟩, by repeat (first | exact Drawn0.refl _ | apply Drawn0.step)⟩
    case round =>
     clear H'
     obtain ⟨x3_2, x4_2, rfl, rfl, HA, HK2, ⟨m2, rfl⟩⟩ := hrel
     cases gk with
     | zero => exact absurd HA.out (by simp [spec_l01Number.l0])
     | succ k2 =>
      have H := HA.out
      clear HA
      simp only [spec_l01Number.l0] at H
      replace H := ii H
      rcases H with ⟨c9, H⟩ | ⟨c9, H⟩
      ·have c9b0 := decide_eq_true c9
       clear c9
       replace H := ii H
       rcases H with ⟨c10, H⟩ | ⟨c10, H⟩
       ·have c10b0 := decide_eq_true c10
        clear c10
        replace H := ii H
        rcases H with ⟨c12, H⟩ | ⟨c12, H⟩
        ·have c12b0 := decide_eq_true c12
         clear c12
         obtain rfl := Option.some.inj H
         have p11 : 0 ≤ (x4_2 : Int) := za
         have q11 : x4_2 < (a0.size : Int) := za
         have hx11 := bt_at a0 x4_2
         replace p11 := eq_true p11
         replace q11 := eq_true q11
         go_wp2
         go_ret
         exact zx
        ·have c12b0 := decide_eq_false c12
         clear c12
         replace H := ii H
         rcases H with ⟨c14, H⟩ | ⟨c14, H⟩
         ·have c14b0 := decide_eq_true c14
          clear c14
          obtain rfl := Option.some.inj H
          have p11 : 0 ≤ (x4_2 : Int) := za
          have q11 : x4_2 < (a0.size : Int) := za
          have hx11 := bt_at a0 x4_2
          replace p11 := eq_true p11
          replace q11 := eq_true q11
          have p13 : 0 ≤ (x4_2 : Int) := za
          have q13 : x4_2 < (a0.size : Int) := za
          have hx13 := bt_at a0 x4_2
          replace p13 := eq_true p13
          replace q13 := eq_true q13
          go_wp2
          go_ret
          exact zx
         ·have c14b0 := decide_eq_false c14
          clear c14
          have H' := Aside0.mk H
          clear H
          have p11 : 0 ≤ (x4_2 : Int) := za
          have q11 : x4_2 < (a0.size : Int) := za
          have hx11 := bt_at a0 x4_2
          replace p11 := eq_true p11
          replace q11 := eq_true q11
          have p13 : 0 ≤ (x4_2 : Int) := za
          have q13 : x4_2 < (a0.size : Int) := za
          have hx13 := bt_at a0 x4_2
          replace p13 := eq_true p13
          replace q13 := eq_true q13
          have p15 : 0 ≤ (x4_2 : Int) := za
          have q15 : x4_2 < (a0.size : Int) := za
          have hx15 := bt_at a0 x4_2
          replace p15 := eq_true p15
          replace q15 := eq_true q15
          go_wp2
          go_roundg k2
          case measure => have := HJ1.out; have := HK2.out; omega
          case rel => exact ⟨(wrap64 ((wrap64 (x3_2 * 10)) + (((bt a0 x4_2) - 48) % 256))), (wrap64 (x4_2 + 1)), (by first | rfl | (simp; done) | (simp [*]; done)), (by first | rfl | (simp; done) | (simp [*]; done)), H', ⟨by have := HJ1.out; have := HK2.out; omega⟩, by repeat (first | exact Drawn0.refl _ | apply Drawn0.step)⟩
       ·exact absurd H (by simp)
      ·have c9b0 := decide_eq_false c9
       clear c9
       obtain rfl := Option.some.inj H
       go_wp2
       go_ret
       exact zx

end Go.Proofs.YtgdkmchphpjifaaGreatDoor.PFnEnds
