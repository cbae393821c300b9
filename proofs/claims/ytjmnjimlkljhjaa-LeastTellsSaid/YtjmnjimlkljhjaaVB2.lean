/- The trees as a table, to be evaluated at given inputs. -/
import Derived.Test.YtjmnjimlkljhjaaVA3
import Derived.Test.YtjmnjimlkljhjaaVB1
set_option linter.unusedVariables false
set_option maxRecDepth 100000
namespace Go.Proofs.YtjmnjimlkljhjaaV
open Go Go.Proofs

noncomputable def e1100 : Entry Γ := ⟨1100, fun rec s => match s with | (((x0, x1), ()), ()) => evalT rec (t11 x0 x1)⟩
theorem e1100_ok : (e1100).Ok (SemR Try.prog Γ) := by
  intro rec hr s y h
  obtain ⟨⟨⟨x0, x1⟩, ⟨⟩⟩, ⟨⟩⟩ := s
  exact r1100 _ _ (evalT_ok hr h rfl)

noncomputable def e1101 : Entry Γ := ⟨1101, fun rec s => match s with | ((x0, x1, x2, ()), ()) => evalL rec (rec 1101) (l11_0 x0 x1 x2)⟩
theorem e1101_ok : (e1101).Ok (SemR Try.prog Γ) := by
  intro rec hr s y h
  obtain ⟨⟨x0, x1, x2, ⟨⟩⟩, ⟨⟩⟩ := s
  exact r1101 _ _ _ (evalL_ok hr (fun s y h => hr 1101 s y h) h)

noncomputable def e1200 : Entry Γ := ⟨1200, fun rec s => match s with | (((x0, x1), ()), ()) => evalT rec (t12 x0 x1)⟩
theorem e1200_ok : (e1200).Ok (SemR Try.prog Γ) := by
  intro rec hr s y h
  obtain ⟨⟨⟨x0, x1⟩, ⟨⟩⟩, ⟨⟩⟩ := s
  exact r1200 _ _ (evalT_ok hr h rfl)

noncomputable def e1201 : Entry Γ := ⟨1201, fun rec s => match s with | ((x0, x1, x2, ()), (x3, x4, ()), ()) => evalL rec (rec 1201) (l12_0 x0 x1 x2 x3 x4)⟩
theorem e1201_ok : (e1201).Ok (SemR Try.prog Γ) := by
  intro rec hr s y h
  obtain ⟨⟨x0, x1, x2, ⟨⟩⟩, ⟨x3, x4, ⟨⟩⟩, ⟨⟩⟩ := s
  exact r1201 _ _ _ _ _ (evalL_ok hr (fun s y h => hr 1201 s y h) h)

noncomputable def e1202 : Entry Γ := ⟨1202, fun rec s => match s with | ((x0, x1, x2, x3, x4, x5, x6, ()), (x7, x8, ()), ()) => evalL rec (rec 1202) (l12_1 x0 x1 x2 x3 x4 x5 x6 x7 x8)⟩
theorem e1202_ok : (e1202).Ok (SemR Try.prog Γ) := by
  intro rec hr s y h
  obtain ⟨⟨x0, x1, x2, x3, x4, x5, x6, ⟨⟩⟩, ⟨x7, x8, ⟨⟩⟩, ⟨⟩⟩ := s
  exact r1202 _ _ _ _ _ _ _ _ _ (evalL_ok hr (fun s y h => hr 1202 s y h) h)

noncomputable def e1500 : Entry Γ := ⟨1500, fun rec s => match s with | ((x0, x1, ()), ()) => evalT rec (t15 x0 x1)⟩
theorem e1500_ok : (e1500).Ok (SemR Try.prog Γ) := by
  intro rec hr s y h
  obtain ⟨⟨x0, x1, ⟨⟩⟩, ⟨⟩⟩ := s
  exact r1500 _ _ (evalT_ok hr h rfl)

noncomputable def e1501 : Entry Γ := ⟨1501, fun rec s => match s with | ((x0, x1, x2, x3, ()), ()) => evalL rec (rec 1501) (l15_0 x0 x1 x2 x3)⟩
theorem e1501_ok : (e1501).Ok (SemR Try.prog Γ) := by
  intro rec hr s y h
  obtain ⟨⟨x0, x1, x2, x3, ⟨⟩⟩, ⟨⟩⟩ := s
  exact r1501 _ _ _ _ (evalL_ok hr (fun s y h => hr 1501 s y h) h)

noncomputable def e2000 : Entry Γ := ⟨2000, fun rec s => match s with | (((x0, x1), (x2, x3), ()), ()) => evalT rec (t20 x0 x1 x2 x3)⟩
theorem e2000_ok : (e2000).Ok (SemR Try.prog Γ) := by
  intro rec hr s y h
  obtain ⟨⟨⟨x0, x1⟩, ⟨x2, x3⟩, ⟨⟩⟩, ⟨⟩⟩ := s
  exact r2000 _ _ _ _ (evalT_ok hr h rfl)

noncomputable def e2001 : Entry Γ := ⟨2001, fun rec s => match s with | ((x0, x1, ()), (x2, x3, ()), (x4, x5, ()), ()) => evalL rec (rec 2001) (l20_0 x0 x1 x2 x3 x4 x5)⟩
theorem e2001_ok : (e2001).Ok (SemR Try.prog Γ) := by
  intro rec hr s y h
  obtain ⟨⟨x0, x1, ⟨⟩⟩, ⟨x2, x3, ⟨⟩⟩, ⟨x4, x5, ⟨⟩⟩, ⟨⟩⟩ := s
  exact r2001 _ _ _ _ _ _ (evalL_ok hr (fun s y h => hr 2001 s y h) h)

noncomputable def e2002 : Entry Γ := ⟨2002, fun rec s => match s with | ((x0, x1, x2, x3, x4, ()), (x5, x6, ()), (x7, x8, ()), ()) => evalL rec (rec 2002) (l20_1 x0 x1 x2 x3 x4 x5 x6 x7 x8)⟩
theorem e2002_ok : (e2002).Ok (SemR Try.prog Γ) := by
  intro rec hr s y h
  obtain ⟨⟨x0, x1, x2, x3, x4, ⟨⟩⟩, ⟨x5, x6, ⟨⟩⟩, ⟨x7, x8, ⟨⟩⟩, ⟨⟩⟩ := s
  exact r2002 _ _ _ _ _ _ _ _ _ (evalL_ok hr (fun s y h => hr 2002 s y h) h)

noncomputable def e2300 : Entry Γ := ⟨2300, fun rec s => match s with | (((x0, x1), x2, ()), ()) => evalT rec (t23 x0 x1 x2)⟩
theorem e2300_ok : (e2300).Ok (SemR Try.prog Γ) := by
  intro rec hr s y h
  obtain ⟨⟨⟨x0, x1⟩, x2, ⟨⟩⟩, ⟨⟩⟩ := s
  exact r2300 _ _ _ (evalT_ok hr h rfl)

noncomputable def e2301 : Entry Γ := ⟨2301, fun rec s => match s with | ((x0, x1, x2, ()), (x3, x4, ()), ()) => evalL rec (rec 2301) (l23_0 x0 x1 x2 x3 x4)⟩
theorem e2301_ok : (e2301).Ok (SemR Try.prog Γ) := by
  intro rec hr s y h
  obtain ⟨⟨x0, x1, x2, ⟨⟩⟩, ⟨x3, x4, ⟨⟩⟩, ⟨⟩⟩ := s
  exact r2301 _ _ _ _ _ (evalL_ok hr (fun s y h => hr 2301 s y h) h)

noncomputable def e2600 : Entry Γ := ⟨2600, fun rec s => match s with | (((x0, x1), ()), ()) => evalT rec (t26 x0 x1)⟩
theorem e2600_ok : (e2600).Ok (SemR Try.prog Γ) := by
  intro rec hr s y h
  obtain ⟨⟨⟨x0, x1⟩, ⟨⟩⟩, ⟨⟩⟩ := s
  exact r2600 _ _ (evalT_ok hr h rfl)

noncomputable def e2601 : Entry Γ := ⟨2601, fun rec s => match s with | ((x0, x1, x2, ()), (x3, x4, ()), ()) => evalL rec (rec 2601) (l26_0 x0 x1 x2 x3 x4)⟩
theorem e2601_ok : (e2601).Ok (SemR Try.prog Γ) := by
  intro rec hr s y h
  obtain ⟨⟨x0, x1, x2, ⟨⟩⟩, ⟨x3, x4, ⟨⟩⟩, ⟨⟩⟩ := s
  exact r2601 _ _ _ _ _ (evalL_ok hr (fun s y h => hr 2601 s y h) h)

noncomputable def e2602 : Entry Γ := ⟨2602, fun rec s => match s with | ((x0, x1, x2, x3, x4, x5, x6, ()), (x7, x8, ()), (x9, x10, x11, ()), ()) => evalL rec (rec 2602) (l26_1 x0 x1 x2 x3 x4 x5 x6 x7 x8 x9 x10 x11)⟩
theorem e2602_ok : (e2602).Ok (SemR Try.prog Γ) := by
  intro rec hr s y h
  obtain ⟨⟨x0, x1, x2, x3, x4, x5, x6, ⟨⟩⟩, ⟨x7, x8, ⟨⟩⟩, ⟨x9, x10, x11, ⟨⟩⟩, ⟨⟩⟩ := s
  exact r2602 _ _ _ _ _ _ _ _ _ _ _ _ (evalL_ok hr (fun s y h => hr 2602 s y h) h)

noncomputable def e2700 : Entry Γ := ⟨2700, fun rec s => match s with | (((x0, x1), x2, x3, ()), ()) => evalT rec (t27 x0 x1 x2 x3)⟩
theorem e2700_ok : (e2700).Ok (SemR Try.prog Γ) := by
  intro rec hr s y h
  obtain ⟨⟨⟨x0, x1⟩, x2, x3, ⟨⟩⟩, ⟨⟩⟩ := s
  exact r2700 _ _ _ _ (evalT_ok hr h rfl)

noncomputable def e2701 : Entry Γ := ⟨2701, fun rec s => match s with | ((x0, x1, x2, x3, ()), ()) => evalL rec (rec 2701) (l27_0 x0 x1 x2 x3)⟩
theorem e2701_ok : (e2701).Ok (SemR Try.prog Γ) := by
  intro rec hr s y h
  obtain ⟨⟨x0, x1, x2, x3, ⟨⟩⟩, ⟨⟩⟩ := s
  exact r2701 _ _ _ _ (evalL_ok hr (fun s y h => hr 2701 s y h) h)

noncomputable def e2900 : Entry Γ := ⟨2900, fun rec s => match s with | (((x0, x1), x2, ()), ()) => evalT rec (t29 x0 x1 x2)⟩
theorem e2900_ok : (e2900).Ok (SemR Try.prog Γ) := by
  intro rec hr s y h
  obtain ⟨⟨⟨x0, x1⟩, x2, ⟨⟩⟩, ⟨⟩⟩ := s
  exact r2900 _ _ _ (evalT_ok hr h rfl)

noncomputable def e3100 : Entry Γ := ⟨3100, fun rec s => match s with | (((x0, x1), x2, ()), ()) => evalT rec (t31 x0 x1 x2)⟩
theorem e3100_ok : (e3100).Ok (SemR Try.prog Γ) := by
  intro rec hr s y h
  obtain ⟨⟨⟨x0, x1⟩, x2, ⟨⟩⟩, ⟨⟩⟩ := s
  exact r3100 _ _ _ (evalT_ok hr h rfl)

noncomputable def e3200 : Entry Γ := ⟨3200, fun rec s => match s with | (((x0, x1), x2, x3, x4, x5, ()), ()) => evalT rec (t32 x0 x1 x2 x3 x4 x5)⟩
theorem e3200_ok : (e3200).Ok (SemR Try.prog Γ) := by
  intro rec hr s y h
  obtain ⟨⟨⟨x0, x1⟩, x2, x3, x4, x5, ⟨⟩⟩, ⟨⟩⟩ := s
  exact r3200 _ _ _ _ _ _ (evalT_ok hr h rfl)

noncomputable def e3201 : Entry Γ := ⟨3201, fun rec s => match s with | ((x0, x1, x2, x3, x4, ()), (x5, x6, ()), ()) => evalL rec (rec 3201) (l32_0 x0 x1 x2 x3 x4 x5 x6)⟩
theorem e3201_ok : (e3201).Ok (SemR Try.prog Γ) := by
  intro rec hr s y h
  obtain ⟨⟨x0, x1, x2, x3, x4, ⟨⟩⟩, ⟨x5, x6, ⟨⟩⟩, ⟨⟩⟩ := s
  exact r3201 _ _ _ _ _ _ _ (evalL_ok hr (fun s y h => hr 3201 s y h) h)

noncomputable def e3300 : Entry Γ := ⟨3300, fun rec s => match s with | ((x0, ()), ()) => evalT rec (t33 x0)⟩
theorem e3300_ok : (e3300).Ok (SemR Try.prog Γ) := by
  intro rec hr s y h
  obtain ⟨⟨x0, ⟨⟩⟩, ⟨⟩⟩ := s
  exact r3300 _ (evalT_ok hr h rfl)

noncomputable def e3301 : Entry Γ := ⟨3301, fun rec s => match s with | ((x0, x1, x2, ()), ()) => evalL rec (rec 3301) (l33_0 x0 x1 x2)⟩
theorem e3301_ok : (e3301).Ok (SemR Try.prog Γ) := by
  intro rec hr s y h
  obtain ⟨⟨x0, x1, x2, ⟨⟩⟩, ⟨⟩⟩ := s
  exact r3301 _ _ _ (evalL_ok hr (fun s y h => hr 3301 s y h) h)

noncomputable def e3600 : Entry Γ := ⟨3600, fun rec s => match s with | ((x0, x1, x2, ()), ()) => evalT rec (t36 x0 x1 x2)⟩
theorem e3600_ok : (e3600).Ok (SemR Try.prog Γ) := by
  intro rec hr s y h
  obtain ⟨⟨x0, x1, x2, ⟨⟩⟩, ⟨⟩⟩ := s
  exact r3600 _ _ _ (evalT_ok hr h rfl)

noncomputable def e3500 : Entry Γ := ⟨3500, fun rec s => match s with | ((x0, ()), (x1, ()), (x2, ()), ()) => evalT rec (t35 x0 x1 x2)⟩
theorem e3500_ok : (e3500).Ok (SemR Try.prog Γ) := by
  intro rec hr s y h
  obtain ⟨⟨x0, ⟨⟩⟩, ⟨x1, ⟨⟩⟩, ⟨x2, ⟨⟩⟩, ⟨⟩⟩ := s
  exact r3500 _ _ _ (evalT_ok hr h rfl)

noncomputable def e3400 : Entry Γ := ⟨3400, fun rec s => match s with | ((x0, ()), (x1, ()), (x2, ()), ()) => evalT rec (t34 x0 x1 x2)⟩
theorem e3400_ok : (e3400).Ok (SemR Try.prog Γ) := by
  intro rec hr s y h
  obtain ⟨⟨x0, ⟨⟩⟩, ⟨x1, ⟨⟩⟩, ⟨x2, ⟨⟩⟩, ⟨⟩⟩ := s
  exact r3400 _ _ _ (evalT_ok hr h rfl)

noncomputable def e3401 : Entry Γ := ⟨3401, fun rec s => match s with | ((x0, x1, ()), (x2, ()), (x3, ()), ()) => evalL rec (rec 3401) (l34_0 x0 x1 x2 x3)⟩
theorem e3401_ok : (e3401).Ok (SemR Try.prog Γ) := by
  intro rec hr s y h
  obtain ⟨⟨x0, x1, ⟨⟩⟩, ⟨x2, ⟨⟩⟩, ⟨x3, ⟨⟩⟩, ⟨⟩⟩ := s
  exact r3401 _ _ _ _ (evalL_ok hr (fun s y h => hr 3401 s y h) h)

noncomputable def e3000 : Entry Γ := ⟨3000, fun rec s => match s with | (((x0, x1), x2, x3, ()), ()) => evalT rec (t30 x0 x1 x2 x3)⟩
theorem e3000_ok : (e3000).Ok (SemR Try.prog Γ) := by
  intro rec hr s y h
  obtain ⟨⟨⟨x0, x1⟩, x2, x3, ⟨⟩⟩, ⟨⟩⟩ := s
  exact r3000 _ _ _ _ (evalT_ok hr h rfl)

noncomputable def e2400 : Entry Γ := ⟨2400, fun rec s => match s with | ((x0, x1, ()), ()) => evalT rec (t24 x0 x1)⟩
theorem e2400_ok : (e2400).Ok (SemR Try.prog Γ) := by
  intro rec hr s y h
  obtain ⟨⟨x0, x1, ⟨⟩⟩, ⟨⟩⟩ := s
  exact r2400 _ _ (evalT_ok hr h rfl)

noncomputable def e2800 : Entry Γ := ⟨2800, fun rec s => match s with | ((x0, x1, ()), x2, ()) => evalT rec (t28 x0 x1 x2)⟩
theorem e2800_ok : (e2800).Ok (SemR Try.prog Γ) := by
  intro rec hr s y h
  obtain ⟨⟨x0, x1, ⟨⟩⟩, x2, ⟨⟩⟩ := s
  exact r2800 _ _ _ (evalT_ok hr h rfl)

noncomputable def e1300 : Entry Γ := ⟨1300, fun rec s => match s with | (((x0, x1), ()), ()) => evalT rec (t13 x0 x1)⟩
theorem e1300_ok : (e1300).Ok (SemR Try.prog Γ) := by
  intro rec hr s y h
  obtain ⟨⟨⟨x0, x1⟩, ⟨⟩⟩, ⟨⟩⟩ := s
  exact r1300 _ _ (evalT_ok hr h rfl)

noncomputable def e1301 : Entry Γ := ⟨1301, fun rec s => match s with | ((x0, x1, x2, ()), (x3, x4, ()), x5, x6, x7, ()) => evalL rec (rec 1301) (l13_0 x0 x1 x2 x3 x4 x5 x6 x7)⟩
theorem e1301_ok : (e1301).Ok (SemR Try.prog Γ) := by
  intro rec hr s y h
  obtain ⟨⟨x0, x1, x2, ⟨⟩⟩, ⟨x3, x4, ⟨⟩⟩, x5, x6, x7, ⟨⟩⟩ := s
  exact r1301 _ _ _ _ _ _ _ _ (evalL_ok hr (fun s y h => hr 1301 s y h) h)

noncomputable def e1302 : Entry Γ := ⟨1302, fun rec s => match s with | ((x0, x1, x2, x3, x4, x5, x6, ()), (x7, x8, ()), x9, x10, x11, ()) => evalL rec (rec 1302) (l13_1 x0 x1 x2 x3 x4 x5 x6 x7 x8 x9 x10 x11)⟩
theorem e1302_ok : (e1302).Ok (SemR Try.prog Γ) := by
  intro rec hr s y h
  obtain ⟨⟨x0, x1, x2, x3, x4, x5, x6, ⟨⟩⟩, ⟨x7, x8, ⟨⟩⟩, x9, x10, x11, ⟨⟩⟩ := s
  exact r1302 _ _ _ _ _ _ _ _ _ _ _ _ (evalL_ok hr (fun s y h => hr 1302 s y h) h)

noncomputable def e1303 : Entry Γ := ⟨1303, fun rec s => match s with | ((), x0, x1, x2, ()) => evalL rec (rec 1303) (l13_2 x0 x1 x2)⟩
theorem e1303_ok : (e1303).Ok (SemR Try.prog Γ) := by
  intro rec hr s y h
  obtain ⟨⟨⟩, x0, x1, x2, ⟨⟩⟩ := s
  exact r1303 _ _ _ (evalL_ok hr (fun s y h => hr 1303 s y h) h)

noncomputable def e1304 : Entry Γ := ⟨1304, fun rec s => match s with | ((x0, x1, x2, ()), x3, x4, x5, ()) => evalL rec (rec 1304) (l13_3 x0 x1 x2 x3 x4 x5)⟩
theorem e1304_ok : (e1304).Ok (SemR Try.prog Γ) := by
  intro rec hr s y h
  obtain ⟨⟨x0, x1, x2, ⟨⟩⟩, x3, x4, x5, ⟨⟩⟩ := s
  exact r1304 _ _ _ _ _ _ (evalL_ok hr (fun s y h => hr 1304 s y h) h)

noncomputable def e1400 : Entry Γ := ⟨1400, fun rec s => match s with | (((x0, x1), ()), ()) => evalT rec (t14 x0 x1)⟩
theorem e1400_ok : (e1400).Ok (SemR Try.prog Γ) := by
  intro rec hr s y h
  obtain ⟨⟨⟨x0, x1⟩, ⟨⟩⟩, ⟨⟩⟩ := s
  exact r1400 _ _ (evalT_ok hr h rfl)

noncomputable def e1401 : Entry Γ := ⟨1401, fun rec s => match s with | ((x0, x1, ()), (x2, x3, ()), x4, ()) => evalL rec (rec 1401) (l14_0 x0 x1 x2 x3 x4)⟩
theorem e1401_ok : (e1401).Ok (SemR Try.prog Γ) := by
  intro rec hr s y h
  obtain ⟨⟨x0, x1, ⟨⟩⟩, ⟨x2, x3, ⟨⟩⟩, x4, ⟨⟩⟩ := s
  exact r1401 _ _ _ _ _ (evalL_ok hr (fun s y h => hr 1401 s y h) h)

noncomputable def e1402 : Entry Γ := ⟨1402, fun rec s => match s with | ((x0, x1, ()), (x2, x3, ()), x4, ()) => evalL rec (rec 1402) (l14_1 x0 x1 x2 x3 x4)⟩
theorem e1402_ok : (e1402).Ok (SemR Try.prog Γ) := by
  intro rec hr s y h
  obtain ⟨⟨x0, x1, ⟨⟩⟩, ⟨x2, x3, ⟨⟩⟩, x4, ⟨⟩⟩ := s
  exact r1402 _ _ _ _ _ (evalL_ok hr (fun s y h => hr 1402 s y h) h)

noncomputable def e1403 : Entry Γ := ⟨1403, fun rec s => match s with | ((x0, x1, x2, x3, ()), (x4, x5, ()), x6, ()) => evalL rec (rec 1403) (l14_2 x0 x1 x2 x3 x4 x5 x6)⟩
theorem e1403_ok : (e1403).Ok (SemR Try.prog Γ) := by
  intro rec hr s y h
  obtain ⟨⟨x0, x1, x2, x3, ⟨⟩⟩, ⟨x4, x5, ⟨⟩⟩, x6, ⟨⟩⟩ := s
  exact r1403 _ _ _ _ _ _ _ (evalL_ok hr (fun s y h => hr 1403 s y h) h)

noncomputable def e1404 : Entry Γ := ⟨1404, fun rec s => match s with | ((x0, x1, x2, x3, x4, x5, x6, x7, ()), (x8, x9, ()), x10, ()) => evalL rec (rec 1404) (l14_3 x0 x1 x2 x3 x4 x5 x6 x7 x8 x9 x10)⟩
theorem e1404_ok : (e1404).Ok (SemR Try.prog Γ) := by
  intro rec hr s y h
  obtain ⟨⟨x0, x1, x2, x3, x4, x5, x6, x7, ⟨⟩⟩, ⟨x8, x9, ⟨⟩⟩, x10, ⟨⟩⟩ := s
  exact r1404 _ _ _ _ _ _ _ _ _ _ _ (evalL_ok hr (fun s y h => hr 1404 s y h) h)

noncomputable def e1600 : Entry Γ := ⟨1600, fun rec s => match s with | (((x0, x1), ()), ()) => evalT rec (t16 x0 x1)⟩
theorem e1600_ok : (e1600).Ok (SemR Try.prog Γ) := by
  intro rec hr s y h
  obtain ⟨⟨⟨x0, x1⟩, ⟨⟩⟩, ⟨⟩⟩ := s
  exact r1600 _ _ (evalT_ok hr h rfl)

noncomputable def e1601 : Entry Γ := ⟨1601, fun rec s => match s with | ((x0, x1, x2, ()), (x3, x4, ()), x5, ()) => evalL rec (rec 1601) (l16_0 x0 x1 x2 x3 x4 x5)⟩
theorem e1601_ok : (e1601).Ok (SemR Try.prog Γ) := by
  intro rec hr s y h
  obtain ⟨⟨x0, x1, x2, ⟨⟩⟩, ⟨x3, x4, ⟨⟩⟩, x5, ⟨⟩⟩ := s
  exact r1601 _ _ _ _ _ _ (evalL_ok hr (fun s y h => hr 1601 s y h) h)

noncomputable def e1602 : Entry Γ := ⟨1602, fun rec s => match s with | ((x0, x1, ()), (x2, x3, ()), x4, ()) => evalL rec (rec 1602) (l16_1 x0 x1 x2 x3 x4)⟩
theorem e1602_ok : (e1602).Ok (SemR Try.prog Γ) := by
  intro rec hr s y h
  obtain ⟨⟨x0, x1, ⟨⟩⟩, ⟨x2, x3, ⟨⟩⟩, x4, ⟨⟩⟩ := s
  exact r1602 _ _ _ _ _ (evalL_ok hr (fun s y h => hr 1602 s y h) h)

noncomputable def e1603 : Entry Γ := ⟨1603, fun rec s => match s with | ((x0, x1, x2, x3, x4, ()), (x5, x6, ()), x7, x8, x9, ()) => evalL rec (rec 1603) (l16_2 x0 x1 x2 x3 x4 x5 x6 x7 x8 x9)⟩
theorem e1603_ok : (e1603).Ok (SemR Try.prog Γ) := by
  intro rec hr s y h
  obtain ⟨⟨x0, x1, x2, x3, x4, ⟨⟩⟩, ⟨x5, x6, ⟨⟩⟩, x7, x8, x9, ⟨⟩⟩ := s
  exact r1603 _ _ _ _ _ _ _ _ _ _ (evalL_ok hr (fun s y h => hr 1603 s y h) h)

noncomputable def e1604 : Entry Γ := ⟨1604, fun rec s => match s with | ((x0, x1, x2, x3, x4, x5, x6, x7, x8, ()), (x9, x10, ()), x11, x12, x13, (x14, x15, ()), ()) => evalL rec (rec 1604) (l16_3 x0 x1 x2 x3 x4 x5 x6 x7 x8 x9 x10 x11 x12 x13 x14 x15)⟩
theorem e1604_ok : (e1604).Ok (SemR Try.prog Γ) := by
  intro rec hr s y h
  obtain ⟨⟨x0, x1, x2, x3, x4, x5, x6, x7, x8, ⟨⟩⟩, ⟨x9, x10, ⟨⟩⟩, x11, x12, x13, ⟨x14, x15, ⟨⟩⟩, ⟨⟩⟩ := s
  exact r1604 _ _ _ _ _ _ _ _ _ _ _ _ _ _ _ _ (evalL_ok hr (fun s y h => hr 1604 s y h) h)

noncomputable def e1605 : Entry Γ := ⟨1605, fun rec s => match s with | ((x0, x1, x2, x3, x4, x5, x6, x7, x8, x9, ()), (x10, x11, ()), x12, x13, x14, (x15, x16, ()), (x17, x18, x19, ()), ()) => evalL rec (rec 1605) (l16_4 x0 x1 x2 x3 x4 x5 x6 x7 x8 x9 x10 x11 x12 x13 x14 x15 x16 x17 x18 x19)⟩
theorem e1605_ok : (e1605).Ok (SemR Try.prog Γ) := by
  intro rec hr s y h
  obtain ⟨⟨x0, x1, x2, x3, x4, x5, x6, x7, x8, x9, ⟨⟩⟩, ⟨x10, x11, ⟨⟩⟩, x12, x13, x14, ⟨x15, x16, ⟨⟩⟩, ⟨x17, x18, x19, ⟨⟩⟩, ⟨⟩⟩ := s
  exact r1605 _ _ _ _ _ _ _ _ _ _ _ _ _ _ _ _ _ _ _ _ (evalL_ok hr (fun s y h => hr 1605 s y h) h)

noncomputable def e1606 : Entry Γ := ⟨1606, fun rec s => match s with | ((x0, x1, x2, x3, ()), (x4, x5, ()), x6, x7, ()) => evalL rec (rec 1606) (l16_5 x0 x1 x2 x3 x4 x5 x6 x7)⟩
theorem e1606_ok : (e1606).Ok (SemR Try.prog Γ) := by
  intro rec hr s y h
  obtain ⟨⟨x0, x1, x2, x3, ⟨⟩⟩, ⟨x4, x5, ⟨⟩⟩, x6, x7, ⟨⟩⟩ := s
  exact r1606 _ _ _ _ _ _ _ _ (evalL_ok hr (fun s y h => hr 1606 s y h) h)

noncomputable def e1700 : Entry Γ := ⟨1700, fun rec s => match s with | (((x0, x1), ()), ()) => evalT rec (t17 x0 x1)⟩
theorem e1700_ok : (e1700).Ok (SemR Try.prog Γ) := by
  intro rec hr s y h
  obtain ⟨⟨⟨x0, x1⟩, ⟨⟩⟩, ⟨⟩⟩ := s
  exact r1700 _ _ (evalT_ok hr h rfl)

noncomputable def e1701 : Entry Γ := ⟨1701, fun rec s => match s with | ((x0, x1, x2, ()), (x3, x4, ()), x5, ()) => evalL rec (rec 1701) (l17_0 x0 x1 x2 x3 x4 x5)⟩
theorem e1701_ok : (e1701).Ok (SemR Try.prog Γ) := by
  intro rec hr s y h
  obtain ⟨⟨x0, x1, x2, ⟨⟩⟩, ⟨x3, x4, ⟨⟩⟩, x5, ⟨⟩⟩ := s
  exact r1701 _ _ _ _ _ _ (evalL_ok hr (fun s y h => hr 1701 s y h) h)

noncomputable def e1702 : Entry Γ := ⟨1702, fun rec s => match s with | ((x0, x1, x2, x3, ()), (x4, x5, ()), ()) => evalL rec (rec 1702) (l17_1 x0 x1 x2 x3 x4 x5)⟩
theorem e1702_ok : (e1702).Ok (SemR Try.prog Γ) := by
  intro rec hr s y h
  obtain ⟨⟨x0, x1, x2, x3, ⟨⟩⟩, ⟨x4, x5, ⟨⟩⟩, ⟨⟩⟩ := s
  exact r1702 _ _ _ _ _ _ (evalL_ok hr (fun s y h => hr 1702 s y h) h)

noncomputable def e2500 : Entry Γ := ⟨2500, fun rec s => match s with | (((x0, x1), x2, x3, ()), ()) => evalT rec (t25 x0 x1 x2 x3)⟩
theorem e2500_ok : (e2500).Ok (SemR Try.prog Γ) := by
  intro rec hr s y h
  obtain ⟨⟨⟨x0, x1⟩, x2, x3, ⟨⟩⟩, ⟨⟩⟩ := s
  exact r2500 _ _ _ _ (evalT_ok hr h rfl)

noncomputable def e2501 : Entry Γ := ⟨2501, fun rec s => match s with | ((x0, x1, x2, x3, x4, ()), (x5, x6, ()), x7, ()) => evalL rec (rec 2501) (l25_0 x0 x1 x2 x3 x4 x5 x6 x7)⟩
theorem e2501_ok : (e2501).Ok (SemR Try.prog Γ) := by
  intro rec hr s y h
  obtain ⟨⟨x0, x1, x2, x3, x4, ⟨⟩⟩, ⟨x5, x6, ⟨⟩⟩, x7, ⟨⟩⟩ := s
  exact r2501 _ _ _ _ _ _ _ _ (evalL_ok hr (fun s y h => hr 2501 s y h) h)

noncomputable def e2502 : Entry Γ := ⟨2502, fun rec s => match s with | ((x0, x1, x2, x3, x4, x5, x6, ()), (x7, x8, ()), x9, ()) => evalL rec (rec 2502) (l25_1 x0 x1 x2 x3 x4 x5 x6 x7 x8 x9)⟩
theorem e2502_ok : (e2502).Ok (SemR Try.prog Γ) := by
  intro rec hr s y h
  obtain ⟨⟨x0, x1, x2, x3, x4, x5, x6, ⟨⟩⟩, ⟨x7, x8, ⟨⟩⟩, x9, ⟨⟩⟩ := s
  exact r2502 _ _ _ _ _ _ _ _ _ _ (evalL_ok hr (fun s y h => hr 2502 s y h) h)

noncomputable def e1800 : Entry Γ := ⟨1800, fun rec s => match s with | (((x0, x1), ()), ()) => evalT rec (t18 x0 x1)⟩
theorem e1800_ok : (e1800).Ok (SemR Try.prog Γ) := by
  intro rec hr s y h
  obtain ⟨⟨⟨x0, x1⟩, ⟨⟩⟩, ⟨⟩⟩ := s
  exact r1800 _ _ (evalT_ok hr h rfl)

noncomputable def e1801 : Entry Γ := ⟨1801, fun rec s => match s with | ((x0, x1, x2, ()), (x3, x4, ()), (), x5, x6, x7, x8, (), x9, x10, ()) => evalL rec (rec 1801) (l18_0 x0 x1 x2 x3 x4 x5 x6 x7 x8 x9 x10)⟩
theorem e1801_ok : (e1801).Ok (SemR Try.prog Γ) := by
  intro rec hr s y h
  obtain ⟨⟨x0, x1, x2, ⟨⟩⟩, ⟨x3, x4, ⟨⟩⟩, ⟨⟩, x5, x6, x7, x8, ⟨⟩, x9, x10, ⟨⟩⟩ := s
  exact r1801 _ _ _ _ _ _ _ _ _ _ _ (evalL_ok hr (fun s y h => hr 1801 s y h) h)

noncomputable def e1802 : Entry Γ := ⟨1802, fun rec s => match s with | ((x0, x1, x2, x3, x4, x5, x6, ()), (x7, x8, ()), (), x9, x10, x11, x12, (), x13, x14, x15, ()) => evalL rec (rec 1802) (l18_1 x0 x1 x2 x3 x4 x5 x6 x7 x8 x9 x10 x11 x12 x13 x14 x15)⟩
theorem e1802_ok : (e1802).Ok (SemR Try.prog Γ) := by
  intro rec hr s y h
  obtain ⟨⟨x0, x1, x2, x3, x4, x5, x6, ⟨⟩⟩, ⟨x7, x8, ⟨⟩⟩, ⟨⟩, x9, x10, x11, x12, ⟨⟩, x13, x14, x15, ⟨⟩⟩ := s
  exact r1802 _ _ _ _ _ _ _ _ _ _ _ _ _ _ _ _ (evalL_ok hr (fun s y h => hr 1802 s y h) h)

noncomputable def e1900 : Entry Γ := ⟨1900, fun rec s => match s with | (((x0, x1), ()), ()) => evalT rec (t19 x0 x1)⟩
theorem e1900_ok : (e1900).Ok (SemR Try.prog Γ) := by
  intro rec hr s y h
  obtain ⟨⟨⟨x0, x1⟩, ⟨⟩⟩, ⟨⟩⟩ := s
  exact r1900 _ _ (evalT_ok hr h rfl)

noncomputable def e1901 : Entry Γ := ⟨1901, fun rec s => match s with | ((x0, x1, x2, ()), (x3, x4, ()), (), x5, x6, x7, (), x8, x9, ()) => evalL rec (rec 1901) (l19_0 x0 x1 x2 x3 x4 x5 x6 x7 x8 x9)⟩
theorem e1901_ok : (e1901).Ok (SemR Try.prog Γ) := by
  intro rec hr s y h
  obtain ⟨⟨x0, x1, x2, ⟨⟩⟩, ⟨x3, x4, ⟨⟩⟩, ⟨⟩, x5, x6, x7, ⟨⟩, x8, x9, ⟨⟩⟩ := s
  exact r1901 _ _ _ _ _ _ _ _ _ _ (evalL_ok hr (fun s y h => hr 1901 s y h) h)

noncomputable def e1902 : Entry Γ := ⟨1902, fun rec s => match s with | ((x0, x1, x2, x3, ()), (x4, x5, ()), (), x6, x7, x8, (), x9, x10, x11, ()) => evalL rec (rec 1902) (l19_1 x0 x1 x2 x3 x4 x5 x6 x7 x8 x9 x10 x11)⟩
theorem e1902_ok : (e1902).Ok (SemR Try.prog Γ) := by
  intro rec hr s y h
  obtain ⟨⟨x0, x1, x2, x3, ⟨⟩⟩, ⟨x4, x5, ⟨⟩⟩, ⟨⟩, x6, x7, x8, ⟨⟩, x9, x10, x11, ⟨⟩⟩ := s
  exact r1902 _ _ _ _ _ _ _ _ _ _ _ _ (evalL_ok hr (fun s y h => hr 1902 s y h) h)

noncomputable def e1903 : Entry Γ := ⟨1903, fun rec s => match s with | ((x0, x1, x2, x3, x4, x5, x6, x7, ()), (x8, x9, ()), (), x10, x11, x12, (), x13, x14, x15, ()) => evalL rec (rec 1903) (l19_2 x0 x1 x2 x3 x4 x5 x6 x7 x8 x9 x10 x11 x12 x13 x14 x15)⟩
theorem e1903_ok : (e1903).Ok (SemR Try.prog Γ) := by
  intro rec hr s y h
  obtain ⟨⟨x0, x1, x2, x3, x4, x5, x6, x7, ⟨⟩⟩, ⟨x8, x9, ⟨⟩⟩, ⟨⟩, x10, x11, x12, ⟨⟩, x13, x14, x15, ⟨⟩⟩ := s
  exact r1903 _ _ _ _ _ _ _ _ _ _ _ _ _ _ _ _ (evalL_ok hr (fun s y h => hr 1903 s y h) h)

noncomputable def e2100 : Entry Γ := ⟨2100, fun rec s => match s with | (((x0, x1), (x2, x3), ()), ()) => evalT rec (t21 x0 x1 x2 x3)⟩
theorem e2100_ok : (e2100).Ok (SemR Try.prog Γ) := by
  intro rec hr s y h
  obtain ⟨⟨⟨x0, x1⟩, ⟨x2, x3⟩, ⟨⟩⟩, ⟨⟩⟩ := s
  exact r2100 _ _ _ _ (evalT_ok hr h rfl)

noncomputable def e2101 : Entry Γ := ⟨2101, fun rec s => match s with | ((x0, ()), (x1, x2, ()), (x3, x4, ()), x5, x6, x7, ()) => evalL rec (rec 2101) (l21_0 x0 x1 x2 x3 x4 x5 x6 x7)⟩
theorem e2101_ok : (e2101).Ok (SemR Try.prog Γ) := by
  intro rec hr s y h
  obtain ⟨⟨x0, ⟨⟩⟩, ⟨x1, x2, ⟨⟩⟩, ⟨x3, x4, ⟨⟩⟩, x5, x6, x7, ⟨⟩⟩ := s
  exact r2101 _ _ _ _ _ _ _ _ (evalL_ok hr (fun s y h => hr 2101 s y h) h)

noncomputable def e2102 : Entry Γ := ⟨2102, fun rec s => match s with | ((x0, ()), x1, x2, ()) => evalL rec (rec 2102) (l21_1 x0 x1 x2)⟩
theorem e2102_ok : (e2102).Ok (SemR Try.prog Γ) := by
  intro rec hr s y h
  obtain ⟨⟨x0, ⟨⟩⟩, x1, x2, ⟨⟩⟩ := s
  exact r2102 _ _ _ (evalL_ok hr (fun s y h => hr 2102 s y h) h)

noncomputable def e2103 : Entry Γ := ⟨2103, fun rec s => match s with | ((x0, x1, ()), (x2, x3, ()), (x4, x5, ()), x6, x7, x8, (x9, x10, ()), ()) => evalL rec (rec 2103) (l21_2 x0 x1 x2 x3 x4 x5 x6 x7 x8 x9 x10)⟩
theorem e2103_ok : (e2103).Ok (SemR Try.prog Γ) := by
  intro rec hr s y h
  obtain ⟨⟨x0, x1, ⟨⟩⟩, ⟨x2, x3, ⟨⟩⟩, ⟨x4, x5, ⟨⟩⟩, x6, x7, x8, ⟨x9, x10, ⟨⟩⟩, ⟨⟩⟩ := s
  exact r2103 _ _ _ _ _ _ _ _ _ _ _ (evalL_ok hr (fun s y h => hr 2103 s y h) h)

noncomputable def e2200 : Entry Γ := ⟨2200, fun rec s => match s with | (((x0, x1), (x2, x3), ()), ()) => evalT rec (t22 x0 x1 x2 x3)⟩
theorem e2200_ok : (e2200).Ok (SemR Try.prog Γ) := by
  intro rec hr s y h
  obtain ⟨⟨⟨x0, x1⟩, ⟨x2, x3⟩, ⟨⟩⟩, ⟨⟩⟩ := s
  exact r2200 _ _ _ _ (evalT_ok hr h rfl)

noncomputable def e2201 : Entry Γ := ⟨2201, fun rec s => match s with | ((x0, ()), (x1, x2, ()), (x3, x4, ()), x5, ()) => evalL rec (rec 2201) (l22_0 x0 x1 x2 x3 x4 x5)⟩
theorem e2201_ok : (e2201).Ok (SemR Try.prog Γ) := by
  intro rec hr s y h
  obtain ⟨⟨x0, ⟨⟩⟩, ⟨x1, x2, ⟨⟩⟩, ⟨x3, x4, ⟨⟩⟩, x5, ⟨⟩⟩ := s
  exact r2201 _ _ _ _ _ _ (evalL_ok hr (fun s y h => hr 2201 s y h) h)

noncomputable def e2202 : Entry Γ := ⟨2202, fun rec s => match s with | ((x0, x1, ()), (x2, x3, ()), (x4, x5, ()), x6, (x7, x8, x9, ()), ()) => evalL rec (rec 2202) (l22_1 x0 x1 x2 x3 x4 x5 x6 x7 x8 x9)⟩
theorem e2202_ok : (e2202).Ok (SemR Try.prog Γ) := by
  intro rec hr s y h
  obtain ⟨⟨x0, x1, ⟨⟩⟩, ⟨x2, x3, ⟨⟩⟩, ⟨x4, x5, ⟨⟩⟩, x6, ⟨x7, x8, x9, ⟨⟩⟩, ⟨⟩⟩ := s
  exact r2202 _ _ _ _ _ _ _ _ _ _ (evalL_ok hr (fun s y h => hr 2202 s y h) h)

noncomputable def e2203 : Entry Γ := ⟨2203, fun rec s => match s with | ((x0, x1, x2, x3, x4, ()), (x5, x6, ()), (x7, x8, ()), x9, (x10, x11, x12, ()), (x13, x14, x15, ()), ()) => evalL rec (rec 2203) (l22_2 x0 x1 x2 x3 x4 x5 x6 x7 x8 x9 x10 x11 x12 x13 x14 x15)⟩
theorem e2203_ok : (e2203).Ok (SemR Try.prog Γ) := by
  intro rec hr s y h
  obtain ⟨⟨x0, x1, x2, x3, x4, ⟨⟩⟩, ⟨x5, x6, ⟨⟩⟩, ⟨x7, x8, ⟨⟩⟩, x9, ⟨x10, x11, x12, ⟨⟩⟩, ⟨x13, x14, x15, ⟨⟩⟩, ⟨⟩⟩ := s
  exact r2203 _ _ _ _ _ _ _ _ _ _ _ _ _ _ _ _ (evalL_ok hr (fun s y h => hr 2203 s y h) h)

noncomputable def e300 : Entry Γ := ⟨300, fun rec s => match s with | (((x0, x1), ()), ()) => evalT rec (t3 x0 x1)⟩
theorem e300_ok : (e300).Ok (SemR Try.prog Γ) := by
  intro rec hr s y h
  obtain ⟨⟨⟨x0, x1⟩, ⟨⟩⟩, ⟨⟩⟩ := s
  exact r300 _ _ (evalT_ok hr h rfl)

noncomputable def e301 : Entry Γ := ⟨301, fun rec s => match s with | ((x0, x1, x2, x3, x4, ()), (x5, x6, ()), ()) => evalL rec (rec 301) (l3_0 x0 x1 x2 x3 x4 x5 x6)⟩
theorem e301_ok : (e301).Ok (SemR Try.prog Γ) := by
  intro rec hr s y h
  obtain ⟨⟨x0, x1, x2, x3, x4, ⟨⟩⟩, ⟨x5, x6, ⟨⟩⟩, ⟨⟩⟩ := s
  exact r301 _ _ _ _ _ _ _ (evalL_ok hr (fun s y h => hr 301 s y h) h)

noncomputable def e400 : Entry Γ := ⟨400, fun rec s => match s with | (((x0, x1), ()), ()) => evalT rec (t4 x0 x1)⟩
theorem e400_ok : (e400).Ok (SemR Try.prog Γ) := by
  intro rec hr s y h
  obtain ⟨⟨⟨x0, x1⟩, ⟨⟩⟩, ⟨⟩⟩ := s
  exact r400 _ _ (evalT_ok hr h rfl)

noncomputable def e500 : Entry Γ := ⟨500, fun rec s => match s with | (((x0, x1), (x2, x3), ()), ()) => evalT rec (t5 x0 x1 x2 x3)⟩
theorem e500_ok : (e500).Ok (SemR Try.prog Γ) := by
  intro rec hr s y h
  obtain ⟨⟨⟨x0, x1⟩, ⟨x2, x3⟩, ⟨⟩⟩, ⟨⟩⟩ := s
  exact r500 _ _ _ _ (evalT_ok hr h rfl)

noncomputable def e600 : Entry Γ := ⟨600, fun rec s => match s with | (((x0, x1), x2, ()), ()) => evalT rec (t6 x0 x1 x2)⟩
theorem e600_ok : (e600).Ok (SemR Try.prog Γ) := by
  intro rec hr s y h
  obtain ⟨⟨⟨x0, x1⟩, x2, ⟨⟩⟩, ⟨⟩⟩ := s
  exact r600 _ _ _ (evalT_ok hr h rfl)

noncomputable def e700 : Entry Γ := ⟨700, fun rec s => match s with | (((x0, x1), (x2, x3), ()), ()) => evalT rec (t7 x0 x1 x2 x3)⟩
theorem e700_ok : (e700).Ok (SemR Try.prog Γ) := by
  intro rec hr s y h
  obtain ⟨⟨⟨x0, x1⟩, ⟨x2, x3⟩, ⟨⟩⟩, ⟨⟩⟩ := s
  exact r700 _ _ _ _ (evalT_ok hr h rfl)

noncomputable def e800 : Entry Γ := ⟨800, fun rec s => match s with | (((x0, x1), ()), ()) => evalT rec (t8 x0 x1)⟩
theorem e800_ok : (e800).Ok (SemR Try.prog Γ) := by
  intro rec hr s y h
  obtain ⟨⟨⟨x0, x1⟩, ⟨⟩⟩, ⟨⟩⟩ := s
  exact r800 _ _ (evalT_ok hr h rfl)

noncomputable def e801 : Entry Γ := ⟨801, fun rec s => match s with | ((x0, x1, x2, x3, x4, ()), ()) => evalL rec (rec 801) (l8_0 x0 x1 x2 x3 x4)⟩
theorem e801_ok : (e801).Ok (SemR Try.prog Γ) := by
  intro rec hr s y h
  obtain ⟨⟨x0, x1, x2, x3, x4, ⟨⟩⟩, ⟨⟩⟩ := s
  exact r801 _ _ _ _ _ (evalL_ok hr (fun s y h => hr 801 s y h) h)

noncomputable def e900 : Entry Γ := ⟨900, fun rec s => match s with | (((x0, x1), (x2, x3), ()), ()) => evalT rec (t9 x0 x1 x2 x3)⟩
theorem e900_ok : (e900).Ok (SemR Try.prog Γ) := by
  intro rec hr s y h
  obtain ⟨⟨⟨x0, x1⟩, ⟨x2, x3⟩, ⟨⟩⟩, ⟨⟩⟩ := s
  exact r900 _ _ _ _ (evalT_ok hr h rfl)

noncomputable def e1000 : Entry Γ := ⟨1000, fun rec s => match s with | ((), ()) => evalT rec (t10)⟩
theorem e1000_ok : (e1000).Ok (SemR Try.prog Γ) := by
  intro rec hr s y h
  obtain ⟨⟨⟩, ⟨⟩⟩ := s
  exact r1000 (evalT_ok hr h rfl)

noncomputable def table : List (Entry Γ) := [e1100, e1101, e1200, e1201, e1202, e1500, e1501, e2000, e2001, e2002, e2300, e2301, e2600, e2601, e2602, e2700, e2701, e2900, e3100, e3200, e3201, e3300, e3301, e3600, e3500, e3400, e3401, e3000, e2400, e2800, e1300, e1301, e1302, e1303, e1304, e1400, e1401, e1402, e1403, e1404, e1600, e1601, e1602, e1603, e1604, e1605, e1606, e1700, e1701, e1702, e2500, e2501, e2502, e1800, e1801, e1802, e1900, e1901, e1902, e1903, e2100, e2101, e2102, e2103, e2200, e2201, e2202, e2203, e300, e301, e400, e500, e600, e700, e800, e801, e900, e1000]

theorem table_ok : ∀ e ∈ table, e.Ok (SemR Try.prog Γ) := by
  simp only [table, List.forall_mem_cons, List.not_mem_nil, false_implies, implies_true, and_true]
  exact ⟨e1100_ok, e1101_ok, e1200_ok, e1201_ok, e1202_ok, e1500_ok, e1501_ok, e2000_ok, e2001_ok, e2002_ok, e2300_ok, e2301_ok, e2600_ok, e2601_ok, e2602_ok, e2700_ok, e2701_ok, e2900_ok, e3100_ok, e3200_ok, e3201_ok, e3300_ok, e3301_ok, e3600_ok, e3500_ok, e3400_ok, e3401_ok, e3000_ok, e2400_ok, e2800_ok, e1300_ok, e1301_ok, e1302_ok, e1303_ok, e1304_ok, e1400_ok, e1401_ok, e1402_ok, e1403_ok, e1404_ok, e1600_ok, e1601_ok, e1602_ok, e1603_ok, e1604_ok, e1605_ok, e1606_ok, e1700_ok, e1701_ok, e1702_ok, e2500_ok, e2501_ok, e2502_ok, e1800_ok, e1801_ok, e1802_ok, e1900_ok, e1901_ok, e1902_ok, e1903_ok, e2100_ok, e2101_ok, e2102_ok, e2103_ok, e2200_ok, e2201_ok, e2202_ok, e2203_ok, e300_ok, e301_ok, e400_ok, e500_ok, e600_ok, e700_ok, e800_ok, e801_ok, e900_ok, e1000_ok⟩

end Go.Proofs.YtjmnjimlkljhjaaV
