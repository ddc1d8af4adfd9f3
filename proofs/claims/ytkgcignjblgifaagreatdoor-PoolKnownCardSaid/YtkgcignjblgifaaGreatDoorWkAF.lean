import Derived.Test.YtkgcignjblgifaaGreatDoorWkAB
import Derived.Test.YtkgcignjblgifaaGreatDoorWkAC
import Derived.Test.YtkgcignjblgifaaGreatDoorWkAD
import Derived.Test.YtkgcignjblgifaaGreatDoorWkAE
set_option maxHeartbeats 8000000
set_option linter.unusedSimpArgs false
set_option linter.unusedVariables false
open Go Go.Proofs Go.RowKit
namespace HS
open Go.Ev
set_option maxRecDepth 1000000
theorem Fkl1_ok (B : Nat) : ∀ G ∈ Fkl1, XOk Tryz.prog B 62 G.fn := facts_cons (fact_ok (lk_ok _) (fun B => extOkD_of (tab0_ok B)) FkF1_ok (by rw [← evF_eq]; exact FkF1_run) B) ((fun _ h => by cases h))
theorem Fkt1_ok (B : Nat) : ∀ p ∈ Fkt1, XOk Tryz.prog B p.1 p.2 := tab_cons (facts_ok _ (Fkl1_ok B)) (tab0_ok B)
theorem Fkl2_ok (B : Nat) : ∀ G ∈ Fkl2, XOk Tryz.prog B 62 G.fn := facts_cons (fact_ok (lk_ok _) (fun B => extOkD_of (Fkt1_ok B)) FkF2_ok (by rw [← evF_eq]; exact FkF2_run) B) (Fkl1_ok B)
theorem Fkt2_ok (B : Nat) : ∀ p ∈ Fkt2, XOk Tryz.prog B p.1 p.2 := tab_cons (facts_ok _ (Fkl2_ok B)) (Fkt1_ok B)
theorem Fkl3_ok (B : Nat) : ∀ G ∈ Fkl3, XOk Tryz.prog B 211 G.fn := facts_cons (fact_ok (lk_ok _) (fun B => extOkD_of (Fkt2_ok B)) FkF3_ok (by rw [← evF_eq]; exact FkF3_run) B) ((fun _ h => by cases h))
theorem Fkt3_ok (B : Nat) : ∀ p ∈ Fkt3, XOk Tryz.prog B p.1 p.2 := tab_cons (facts_ok _ (Fkl3_ok B)) (Fkt2_ok B)
theorem Fkl4_ok (B : Nat) : ∀ G ∈ Fkl4, XOk Tryz.prog B 120 G.fn := facts_cons (fact_ok (lk_ok _) (fun B => extOkD_of (Fkt3_ok B)) FkF4_ok (by rw [← evF_eq]; exact FkF4_run) B) ((fun _ h => by cases h))
theorem Fkt4_ok (B : Nat) : ∀ p ∈ Fkt4, XOk Tryz.prog B p.1 p.2 := tab_cons (facts_ok _ (Fkl4_ok B)) (Fkt3_ok B)
theorem Fkl5_ok (B : Nat) : ∀ G ∈ Fkl5, XOk Tryz.prog B 120 G.fn := facts_cons (fact_ok (lk_ok _) (fun B => extOkD_of (Fkt4_ok B)) FkF5_ok (by rw [← evF_eq]; exact FkF5_run) B) (Fkl4_ok B)
theorem Fkt5_ok (B : Nat) : ∀ p ∈ Fkt5, XOk Tryz.prog B p.1 p.2 := tab_cons (facts_ok _ (Fkl5_ok B)) (Fkt4_ok B)
theorem Fkl6_ok (B : Nat) : ∀ G ∈ Fkl6, XOk Tryz.prog B 317 G.fn := facts_cons (fact_ok (lk_ok _) (fun B => extOkD_of (Fkt5_ok B)) FkF6_ok (by rw [← evF_eq]; exact FkF6_run) B) ((fun _ h => by cases h))
theorem Fkt6_ok (B : Nat) : ∀ p ∈ Fkt6, XOk Tryz.prog B p.1 p.2 := tab_cons (facts_ok _ (Fkl6_ok B)) (Fkt5_ok B)
theorem Fkl7_ok (B : Nat) : ∀ G ∈ Fkl7, XOk Tryz.prog B 162 G.fn := facts_cons (fact_ok (lk_ok _) (fun B => extOkD_of (Fkt6_ok B)) FkF7_ok (by rw [← evF_eq]; exact FkF7_run) B) ((fun _ h => by cases h))
theorem Fkt7_ok (B : Nat) : ∀ p ∈ Fkt7, XOk Tryz.prog B p.1 p.2 := tab_cons (facts_ok _ (Fkl7_ok B)) (Fkt6_ok B)
theorem Fkl8_ok (B : Nat) : ∀ G ∈ Fkl8, XOk Tryz.prog B 162 G.fn := facts_cons (fact_ok (lk_ok _) (fun B => extOkD_of (Fkt7_ok B)) FkF8_ok (by rw [← evF_eq]; exact FkF8_run) B) (Fkl7_ok B)
theorem Fkt8_ok (B : Nat) : ∀ p ∈ Fkt8, XOk Tryz.prog B p.1 p.2 := tab_cons (facts_ok _ (Fkl8_ok B)) (Fkt7_ok B)
theorem Fkl9_ok (B : Nat) : ∀ G ∈ Fkl9, XOk Tryz.prog B 162 G.fn := facts_cons (fact_ok (lk_ok _) (fun B => extOkD_of (Fkt8_ok B)) FkF9_ok (by rw [← evF_eq]; exact FkF9_run) B) (Fkl8_ok B)
theorem Fkt9_ok (B : Nat) : ∀ p ∈ Fkt9, XOk Tryz.prog B p.1 p.2 := tab_cons (facts_ok _ (Fkl9_ok B)) (Fkt8_ok B)
theorem Fkl10_ok (B : Nat) : ∀ G ∈ Fkl10, XOk Tryz.prog B 130 G.fn := facts_cons (fact_ok (lk_ok _) (fun B => extOkD_of (Fkt9_ok B)) FkF10_ok (by rw [← evF_eq]; exact FkF10_run) B) ((fun _ h => by cases h))
theorem Fkt10_ok (B : Nat) : ∀ p ∈ Fkt10, XOk Tryz.prog B p.1 p.2 := tab_cons (facts_ok _ (Fkl10_ok B)) (Fkt9_ok B)
theorem Fkl11_ok (B : Nat) : ∀ G ∈ Fkl11, XOk Tryz.prog B 308 G.fn := facts_cons (fact_ok (lk_ok _) (fun B => extOkD_of (Fkt10_ok B)) FkF11_ok (by rw [← evF_eq]; exact FkF11_run) B) ((fun _ h => by cases h))
theorem Fkt11_ok (B : Nat) : ∀ p ∈ Fkt11, XOk Tryz.prog B p.1 p.2 := tab_cons (facts_ok _ (Fkl11_ok B)) (Fkt10_ok B)
theorem Fkl12_ok (B : Nat) : ∀ G ∈ Fkl12, XOk Tryz.prog B 130 G.fn := facts_cons (fact_ok (lk_ok _) (fun B => extOkD_of (Fkt11_ok B)) FkF12_ok (by rw [← evF_eq]; exact FkF12_run) B) (Fkl10_ok B)
theorem Fkt12_ok (B : Nat) : ∀ p ∈ Fkt12, XOk Tryz.prog B p.1 p.2 := tab_cons (facts_ok _ (Fkl12_ok B)) (Fkt11_ok B)
theorem Fkl13_ok (B : Nat) : ∀ G ∈ Fkl13, XOk Tryz.prog B 308 G.fn := facts_cons (fact_ok (lk_ok _) (fun B => extOkD_of (Fkt12_ok B)) FkF13_ok (by rw [← evF_eq]; exact FkF13_run) B) (Fkl11_ok B)
theorem Fkt13_ok (B : Nat) : ∀ p ∈ Fkt13, XOk Tryz.prog B p.1 p.2 := tab_cons (facts_ok _ (Fkl13_ok B)) (Fkt12_ok B)
theorem Fkl14_ok (B : Nat) : ∀ G ∈ Fkl14, XOk Tryz.prog B 130 G.fn := facts_cons (fact_ok (lk_ok _) (fun B => extOkD_of (Fkt13_ok B)) FkF14_ok (by rw [← evF_eq]; exact FkF14_run) B) (Fkl12_ok B)
theorem Fkt14_ok (B : Nat) : ∀ p ∈ Fkt14, XOk Tryz.prog B p.1 p.2 := tab_cons (facts_ok _ (Fkl14_ok B)) (Fkt13_ok B)
theorem Fkl15_ok (B : Nat) : ∀ G ∈ Fkl15, XOk Tryz.prog B 308 G.fn := facts_cons (fact_ok (lk_ok _) (fun B => extOkD_of (Fkt14_ok B)) FkF15_ok (by rw [← evF_eq]; exact FkF15_run) B) (Fkl13_ok B)
theorem Fkt15_ok (B : Nat) : ∀ p ∈ Fkt15, XOk Tryz.prog B p.1 p.2 := tab_cons (facts_ok _ (Fkl15_ok B)) (Fkt14_ok B)
theorem Fkl16_ok (B : Nat) : ∀ G ∈ Fkl16, XOk Tryz.prog B 169 G.fn := facts_cons (fact_ok (lk_ok _) (fun B => extOkD_of (Fkt15_ok B)) FkF16_ok (by rw [← evF_eq]; exact FkF16_run) B) ((fun _ h => by cases h))
theorem Fkt16_ok (B : Nat) : ∀ p ∈ Fkt16, XOk Tryz.prog B p.1 p.2 := tab_cons (facts_ok _ (Fkl16_ok B)) (Fkt15_ok B)
theorem Fkl17_ok (B : Nat) : ∀ G ∈ Fkl17, XOk Tryz.prog B 96 G.fn := facts_cons (fact_ok (lk_ok _) (fun B => extOkD_of (Fkt16_ok B)) FkF17_ok (by rw [← evF_eq]; exact FkF17_run) B) ((fun _ h => by cases h))
theorem Fkt17_ok (B : Nat) : ∀ p ∈ Fkt17, XOk Tryz.prog B p.1 p.2 := tab_cons (facts_ok _ (Fkl17_ok B)) (Fkt16_ok B)
theorem Fkl18_ok (B : Nat) : ∀ G ∈ Fkl18, XOk Tryz.prog B 211 G.fn := facts_cons (fact_ok (lk_ok _) (fun B => extOkD_of (Fkt17_ok B)) FkF18_ok (by rw [← evF_eq]; exact FkF18_run) B) (Fkl3_ok B)
theorem Fkt18_ok (B : Nat) : ∀ p ∈ Fkt18, XOk Tryz.prog B p.1 p.2 := tab_cons (facts_ok _ (Fkl18_ok B)) (Fkt17_ok B)
theorem Fkl19_ok (B : Nat) : ∀ G ∈ Fkl19, XOk Tryz.prog B 12 G.fn := facts_cons (fact_ok (lk_ok _) (fun B => extOkD_of (Fkt18_ok B)) FkF19_ok (by rw [← evF_eq]; exact FkF19_run) B) ((fun _ h => by cases h))
theorem Fkt19_ok (B : Nat) : ∀ p ∈ Fkt19, XOk Tryz.prog B p.1 p.2 := tab_cons (facts_ok _ (Fkl19_ok B)) (Fkt18_ok B)
theorem Fkl20_ok (B : Nat) : ∀ G ∈ Fkl20, XOk Tryz.prog B 130 G.fn := facts_cons (fact_ok (lk_ok _) (fun B => extOkD_of (Fkt19_ok B)) FkF20_ok (by rw [← evF_eq]; exact FkF20_run) B) (Fkl14_ok B)
theorem Fkt20_ok (B : Nat) : ∀ p ∈ Fkt20, XOk Tryz.prog B p.1 p.2 := tab_cons (facts_ok _ (Fkl20_ok B)) (Fkt19_ok B)
theorem Fkl21_ok (B : Nat) : ∀ G ∈ Fkl21, XOk Tryz.prog B 130 G.fn := facts_cons (fact_ok (lk_ok _) (fun B => extOkD_of (Fkt20_ok B)) FkF21_ok (by rw [← evF_eq]; exact FkF21_run) B) (Fkl20_ok B)
theorem Fkt21_ok (B : Nat) : ∀ p ∈ Fkt21, XOk Tryz.prog B p.1 p.2 := tab_cons (facts_ok _ (Fkl21_ok B)) (Fkt20_ok B)
theorem Fkl22_ok (B : Nat) : ∀ G ∈ Fkl22, XOk Tryz.prog B 130 G.fn := facts_cons (fact_ok (lk_ok _) (fun B => extOkD_of (Fkt21_ok B)) FkF22_ok (by rw [← evF_eq]; exact FkF22_run) B) (Fkl21_ok B)
theorem Fkt22_ok (B : Nat) : ∀ p ∈ Fkt22, XOk Tryz.prog B p.1 p.2 := tab_cons (facts_ok _ (Fkl22_ok B)) (Fkt21_ok B)
theorem Fkl23_ok (B : Nat) : ∀ G ∈ Fkl23, XOk Tryz.prog B 6 G.fn := facts_cons (fact_ok (lk_ok _) (fun B => extOkD_of (Fkt22_ok B)) FkF23_ok (by rw [← evF_eq]; exact FkF23_run) B) ((fun _ h => by cases h))
theorem Fkt23_ok (B : Nat) : ∀ p ∈ Fkt23, XOk Tryz.prog B p.1 p.2 := tab_cons (facts_ok _ (Fkl23_ok B)) (Fkt22_ok B)
theorem Fkz_22awake (B : Nat) : XOk Tryz.prog B 6 xTrueZ := xTrueZ_ok (lk_ok _) (fun B => extOkD_of (Fkt23_ok B)) (by rw [← evF_eq]; exact Fkrun_22awake)
theorem Fkt24_ok (B : Nat) : ∀ p ∈ Fkt24, XOk Tryz.prog B p.1 p.2 := tab_cons (Fkz_22awake B) (Fkt23_ok B)
end HS
