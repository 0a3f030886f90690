/- The structs of package api that come in. -/
import Derived.Test.YthmnlkpikgglbaaGreatDoorStIn
import Derived.Test.YthmnlkpikgglbaaGreatDoorTrmIn
import Derived.MakeChecks
set_option linter.unusedVariables false
set_option linter.unusedSimpArgs false
namespace Go.Proofs.YthmnlkpikgglbaaGreatDoor
open Go.Px Go.ChangeShapes Go.WideShapes Go.ChangeAt Go.RowKit
set_option maxRecDepth 100000 in
theorem in_Envelope {H : Type} {enc : TypeId × Value → H} {w : World} {spare : Nat → Bool} {held : Bool} {r : Reach} {base : Nat} {v : Value} {d : DataW H} {p : List MemPlace} (hv : Value.okWide Tryz.prog w r base 59 v) (h : DataW.Trod enc Tryz.prog w 0 spare held 59 v d p) :
    ∃ (a0 : Int) (a1 : Int) (a2 : Int) (a3 : Int) (a4 : Value) (wa4 : List Nat) (a5 : Bool) (a6 : Value) (wa6 : List Nat) (a7 : Value) (wa7 : List Nat) (a8 : Value) (wa8 : List Nat) (a9 : Nat) (a10 : Bool) (a11 : Nat) (a12 : Value) (wa12 : List Nat) (a13 : Nat) (a14 : Nat) (a15 : Value) (wa15 : List Nat), v = .agg #[.int .i64 a0, .int .i64 a1, .int .i64 a2, .int .i64 a3, a4, .bool a5, a6, a7, a8, .int .u32 ((a9 : Nat) : Int), .bool a10, .int .u32 ((a11 : Nat) : Int), a12, .int .u32 ((a13 : Nat) : Int), .int .u32 ((a14 : Nat) : Int), a15] ∧ (Lit.int .i64 a0).wf = true ∧ (Lit.int .i64 a1).wf = true ∧ (Lit.int .i64 a2).wf = true ∧ (Lit.int .i64 a3).wf = true ∧ Px.Byi (Px.heapA w) a4 wa4 ∧ Px.Byi (Px.heapA w) a6 wa6 ∧ Px.Byi (Px.heapA w) a7 wa7 ∧ Px.Byi (Px.heapA w) a8 wa8 ∧ a9 < 2 ^ IntKind.bits .u32 ∧ a11 < 2 ^ IntKind.bits .u32 ∧ Px.Byi (Px.heapA w) a12 wa12 ∧ a13 < 2 ^ IntKind.bits .u32 ∧ a14 < 2 ^ IntKind.bits .u32 ∧ Px.Byi (Px.heapA w) a15 wa15 ∧ True := by
  obtain ⟨cs0, rfl, _⟩ := okWide_struct Tryz.underlying59 hv
  obtain ⟨fu, hm⟩ := h
  have hcs : (Value.agg cs0).cells.toList = cs0.toList := by simp [Value.cells]
  rw [hcs] at hm
  obtain ⟨l0, hl0⟩ : ∃ l, l = cs0.toList := ⟨_, rfl⟩
  rw [← hl0] at hm
  obtain ⟨_, _, _, _, h1, _, _⟩ := DataW.trod_struct Tryz.underlying59 hm
  rw [show Tryz.prog.cellsOf 59 = 16 from by kernel_rfl] at h1
  match l0, h1 with
  | [c0, c1, c2, c3, c4, c5, c6, c7, c8, c9, c10, c11, c12, c13, c14, c15], _ =>
    obtain ⟨me0, ye0, e0⟩ := Px.st_field Tryz.underlying59 hm 0 _ rfl (tf := 50) (o := 0) (c := 2) rfl rfl (by kernel_rfl)
    change DataW.trod enc Tryz.prog w 0 spare held _ 50 [c0, c1] = _ at e0
    obtain ⟨me1, ye1, e1⟩ := Px.st_field Tryz.underlying50 e0 0 _ rfl (tf := 3) (o := 0) (c := 1) rfl rfl (by kernel_rfl)
    change DataW.trod enc Tryz.prog w 0 spare held _ 3 [c0] = _ at e1
    obtain ⟨a0, q0, _, wfa0⟩ := DataW.trod_int Tryz.underlying3 e1
    obtain rfl : c0 = _ := (List.cons.inj q0).1
    obtain ⟨me2, ye2, e2⟩ := Px.st_field Tryz.underlying50 e0 1 _ rfl (tf := 3) (o := 1) (c := 1) rfl rfl (by kernel_rfl)
    change DataW.trod enc Tryz.prog w 0 spare held _ 3 [c1] = _ at e2
    obtain ⟨a1, q1, _, wfa1⟩ := DataW.trod_int Tryz.underlying3 e2
    obtain rfl : c1 = _ := (List.cons.inj q1).1
    obtain ⟨me3, ye3, e3⟩ := Px.st_field Tryz.underlying59 hm 1 _ rfl (tf := 50) (o := 2) (c := 2) rfl rfl (by kernel_rfl)
    change DataW.trod enc Tryz.prog w 0 spare held _ 50 [c2, c3] = _ at e3
    obtain ⟨me4, ye4, e4⟩ := Px.st_field Tryz.underlying50 e3 0 _ rfl (tf := 3) (o := 0) (c := 1) rfl rfl (by kernel_rfl)
    change DataW.trod enc Tryz.prog w 0 spare held _ 3 [c2] = _ at e4
    obtain ⟨a2, q2, _, wfa2⟩ := DataW.trod_int Tryz.underlying3 e4
    obtain rfl : c2 = _ := (List.cons.inj q2).1
    obtain ⟨me5, ye5, e5⟩ := Px.st_field Tryz.underlying50 e3 1 _ rfl (tf := 3) (o := 1) (c := 1) rfl rfl (by kernel_rfl)
    change DataW.trod enc Tryz.prog w 0 spare held _ 3 [c3] = _ at e5
    obtain ⟨a3, q3, _, wfa3⟩ := DataW.trod_int Tryz.underlying3 e5
    obtain rfl : c3 = _ := (List.cons.inj q3).1
    obtain ⟨me6, ye6, e6⟩ := Px.st_field Tryz.underlying59 hm 2 _ rfl (tf := 23) (o := 4) (c := 1) rfl rfl (by kernel_rfl)
    change DataW.trod enc Tryz.prog w 0 spare held _ 23 [c4] = _ at e6
    obtain ⟨a4, wa4, q4, bya4⟩ := Px.in_bytes Tryz.underlying23 Tryz.underlying5 (by kernel_rfl) e6
    obtain rfl : c4 = _ := (List.cons.inj q4).1
    obtain ⟨me7, ye7, e7⟩ := Px.st_field Tryz.underlying59 hm 3 _ rfl (tf := 4) (o := 5) (c := 1) rfl rfl (by kernel_rfl)
    change DataW.trod enc Tryz.prog w 0 spare held _ 4 [c5] = _ at e7
    obtain ⟨a5, q5, _⟩ := DataW.trod_bool Tryz.underlying4 e7
    obtain rfl : c5 = _ := (List.cons.inj q5).1
    obtain ⟨me8, ye8, e8⟩ := Px.st_field Tryz.underlying59 hm 4 _ rfl (tf := 55) (o := 6) (c := 6) rfl rfl (by kernel_rfl)
    change DataW.trod enc Tryz.prog w 0 spare held _ 55 [c6, c7, c8, c9, c10, c11] = _ at e8
    obtain ⟨me9, ye9, e9⟩ := Px.st_field Tryz.underlying55 e8 0 _ rfl (tf := 52) (o := 0) (c := 2) rfl rfl (by kernel_rfl)
    change DataW.trod enc Tryz.prog w 0 spare held _ 52 [c6, c7] = _ at e9
    obtain ⟨me10, ye10, e10⟩ := Px.st_field Tryz.underlying52 e9 0 _ rfl (tf := 23) (o := 0) (c := 1) rfl rfl (by kernel_rfl)
    change DataW.trod enc Tryz.prog w 0 spare held _ 23 [c6] = _ at e10
    obtain ⟨a6, wa6, q6, bya6⟩ := Px.in_bytes Tryz.underlying23 Tryz.underlying5 (by kernel_rfl) e10
    obtain rfl : c6 = _ := (List.cons.inj q6).1
    obtain ⟨me11, ye11, e11⟩ := Px.st_field Tryz.underlying52 e9 1 _ rfl (tf := 23) (o := 1) (c := 1) rfl rfl (by kernel_rfl)
    change DataW.trod enc Tryz.prog w 0 spare held _ 23 [c7] = _ at e11
    obtain ⟨a7, wa7, q7, bya7⟩ := Px.in_bytes Tryz.underlying23 Tryz.underlying5 (by kernel_rfl) e11
    obtain rfl : c7 = _ := (List.cons.inj q7).1
    obtain ⟨me12, ye12, e12⟩ := Px.st_field Tryz.underlying55 e8 1 _ rfl (tf := 23) (o := 2) (c := 1) rfl rfl (by kernel_rfl)
    change DataW.trod enc Tryz.prog w 0 spare held _ 23 [c8] = _ at e12
    obtain ⟨a8, wa8, q8, bya8⟩ := Px.in_bytes Tryz.underlying23 Tryz.underlying5 (by kernel_rfl) e12
    obtain rfl : c8 = _ := (List.cons.inj q8).1
    obtain ⟨me13, ye13, e13⟩ := Px.st_field Tryz.underlying55 e8 2 _ rfl (tf := 53) (o := 3) (c := 1) rfl rfl (by kernel_rfl)
    change DataW.trod enc Tryz.prog w 0 spare held _ 53 [c9] = _ at e13
    obtain ⟨za9, q9, _, z2a9⟩ := DataW.trod_int Tryz.underlying53 e13
    obtain ⟨a9, rfl, hua9⟩ := Px.nat_of_wf rfl z2a9
    obtain rfl : c9 = _ := (List.cons.inj q9).1
    obtain ⟨me14, ye14, e14⟩ := Px.st_field Tryz.underlying55 e8 3 _ rfl (tf := 4) (o := 4) (c := 1) rfl rfl (by kernel_rfl)
    change DataW.trod enc Tryz.prog w 0 spare held _ 4 [c10] = _ at e14
    obtain ⟨a10, q10, _⟩ := DataW.trod_bool Tryz.underlying4 e14
    obtain rfl : c10 = _ := (List.cons.inj q10).1
    obtain ⟨me15, ye15, e15⟩ := Px.st_field Tryz.underlying55 e8 4 _ rfl (tf := 53) (o := 5) (c := 1) rfl rfl (by kernel_rfl)
    change DataW.trod enc Tryz.prog w 0 spare held _ 53 [c11] = _ at e15
    obtain ⟨za11, q11, _, z2a11⟩ := DataW.trod_int Tryz.underlying53 e15
    obtain ⟨a11, rfl, hua11⟩ := Px.nat_of_wf rfl z2a11
    obtain rfl : c11 = _ := (List.cons.inj q11).1
    obtain ⟨me16, ye16, e16⟩ := Px.st_field Tryz.underlying59 hm 5 _ rfl (tf := 57) (o := 12) (c := 3) rfl rfl (by kernel_rfl)
    change DataW.trod enc Tryz.prog w 0 spare held _ 57 [c12, c13, c14] = _ at e16
    obtain ⟨me17, ye17, e17⟩ := Px.st_field Tryz.underlying57 e16 0 _ rfl (tf := 23) (o := 0) (c := 1) rfl rfl (by kernel_rfl)
    change DataW.trod enc Tryz.prog w 0 spare held _ 23 [c12] = _ at e17
    obtain ⟨a12, wa12, q12, bya12⟩ := Px.in_bytes Tryz.underlying23 Tryz.underlying5 (by kernel_rfl) e17
    obtain rfl : c12 = _ := (List.cons.inj q12).1
    obtain ⟨me18, ye18, e18⟩ := Px.st_field Tryz.underlying57 e16 1 _ rfl (tf := 53) (o := 1) (c := 1) rfl rfl (by kernel_rfl)
    change DataW.trod enc Tryz.prog w 0 spare held _ 53 [c13] = _ at e18
    obtain ⟨za13, q13, _, z2a13⟩ := DataW.trod_int Tryz.underlying53 e18
    obtain ⟨a13, rfl, hua13⟩ := Px.nat_of_wf rfl z2a13
    obtain rfl : c13 = _ := (List.cons.inj q13).1
    obtain ⟨me19, ye19, e19⟩ := Px.st_field Tryz.underlying57 e16 2 _ rfl (tf := 53) (o := 2) (c := 1) rfl rfl (by kernel_rfl)
    change DataW.trod enc Tryz.prog w 0 spare held _ 53 [c14] = _ at e19
    obtain ⟨za14, q14, _, z2a14⟩ := DataW.trod_int Tryz.underlying53 e19
    obtain ⟨a14, rfl, hua14⟩ := Px.nat_of_wf rfl z2a14
    obtain rfl : c14 = _ := (List.cons.inj q14).1
    obtain ⟨me20, ye20, e20⟩ := Px.st_field Tryz.underlying59 hm 6 _ rfl (tf := 23) (o := 15) (c := 1) rfl rfl (by kernel_rfl)
    change DataW.trod enc Tryz.prog w 0 spare held _ 23 [c15] = _ at e20
    obtain ⟨a15, wa15, q15, bya15⟩ := Px.in_bytes Tryz.underlying23 Tryz.underlying5 (by kernel_rfl) e20
    obtain rfl : c15 = _ := (List.cons.inj q15).1
    exact ⟨a0, a1, a2, a3, c4, wa4, a5, c6, wa6, c7, wa7, c8, wa8, a9, a10, a11, c12, wa12, a13, a14, c15, wa15, by rw [← Array.toArray_toList (xs := cs0), ← hl0], wfa0, wfa1, wfa2, wfa3, bya4, bya6, bya7, bya8, hua9, hua11, bya12, hua13, hua14, bya15, trivial⟩
set_option maxRecDepth 100000 in
theorem in_Hello {H : Type} {enc : TypeId × Value → H} {w : World} {spare : Nat → Bool} {held : Bool} {r : Reach} {base : Nat} {v : Value} {d : DataW H} {p : List MemPlace} (hv : Value.okWide Tryz.prog w r base 55 v) (h : DataW.Trod enc Tryz.prog w 0 spare held 55 v d p) :
    ∃ (a0 : Value) (wa0 : List Nat) (a1 : Value) (wa1 : List Nat) (a2 : Value) (wa2 : List Nat) (a3 : Nat) (a4 : Bool) (a5 : Nat), v = .agg #[a0, a1, a2, .int .u32 ((a3 : Nat) : Int), .bool a4, .int .u32 ((a5 : Nat) : Int)] ∧ Px.Byi (Px.heapA w) a0 wa0 ∧ Px.Byi (Px.heapA w) a1 wa1 ∧ Px.Byi (Px.heapA w) a2 wa2 ∧ a3 < 2 ^ IntKind.bits .u32 ∧ a5 < 2 ^ IntKind.bits .u32 ∧ True := by
  obtain ⟨cs0, rfl, _⟩ := okWide_struct Tryz.underlying55 hv
  obtain ⟨fu, hm⟩ := h
  have hcs : (Value.agg cs0).cells.toList = cs0.toList := by simp [Value.cells]
  rw [hcs] at hm
  obtain ⟨l0, hl0⟩ : ∃ l, l = cs0.toList := ⟨_, rfl⟩
  rw [← hl0] at hm
  obtain ⟨_, _, _, _, h1, _, _⟩ := DataW.trod_struct Tryz.underlying55 hm
  rw [show Tryz.prog.cellsOf 55 = 6 from by kernel_rfl] at h1
  match l0, h1 with
  | [c0, c1, c2, c3, c4, c5], _ =>
    obtain ⟨me0, ye0, e0⟩ := Px.st_field Tryz.underlying55 hm 0 _ rfl (tf := 52) (o := 0) (c := 2) rfl rfl (by kernel_rfl)
    change DataW.trod enc Tryz.prog w 0 spare held _ 52 [c0, c1] = _ at e0
    obtain ⟨me1, ye1, e1⟩ := Px.st_field Tryz.underlying52 e0 0 _ rfl (tf := 23) (o := 0) (c := 1) rfl rfl (by kernel_rfl)
    change DataW.trod enc Tryz.prog w 0 spare held _ 23 [c0] = _ at e1
    obtain ⟨a0, wa0, q0, bya0⟩ := Px.in_bytes Tryz.underlying23 Tryz.underlying5 (by kernel_rfl) e1
    obtain rfl : c0 = _ := (List.cons.inj q0).1
    obtain ⟨me2, ye2, e2⟩ := Px.st_field Tryz.underlying52 e0 1 _ rfl (tf := 23) (o := 1) (c := 1) rfl rfl (by kernel_rfl)
    change DataW.trod enc Tryz.prog w 0 spare held _ 23 [c1] = _ at e2
    obtain ⟨a1, wa1, q1, bya1⟩ := Px.in_bytes Tryz.underlying23 Tryz.underlying5 (by kernel_rfl) e2
    obtain rfl : c1 = _ := (List.cons.inj q1).1
    obtain ⟨me3, ye3, e3⟩ := Px.st_field Tryz.underlying55 hm 1 _ rfl (tf := 23) (o := 2) (c := 1) rfl rfl (by kernel_rfl)
    change DataW.trod enc Tryz.prog w 0 spare held _ 23 [c2] = _ at e3
    obtain ⟨a2, wa2, q2, bya2⟩ := Px.in_bytes Tryz.underlying23 Tryz.underlying5 (by kernel_rfl) e3
    obtain rfl : c2 = _ := (List.cons.inj q2).1
    obtain ⟨me4, ye4, e4⟩ := Px.st_field Tryz.underlying55 hm 2 _ rfl (tf := 53) (o := 3) (c := 1) rfl rfl (by kernel_rfl)
    change DataW.trod enc Tryz.prog w 0 spare held _ 53 [c3] = _ at e4
    obtain ⟨za3, q3, _, z2a3⟩ := DataW.trod_int Tryz.underlying53 e4
    obtain ⟨a3, rfl, hua3⟩ := Px.nat_of_wf rfl z2a3
    obtain rfl : c3 = _ := (List.cons.inj q3).1
    obtain ⟨me5, ye5, e5⟩ := Px.st_field Tryz.underlying55 hm 3 _ rfl (tf := 4) (o := 4) (c := 1) rfl rfl (by kernel_rfl)
    change DataW.trod enc Tryz.prog w 0 spare held _ 4 [c4] = _ at e5
    obtain ⟨a4, q4, _⟩ := DataW.trod_bool Tryz.underlying4 e5
    obtain rfl : c4 = _ := (List.cons.inj q4).1
    obtain ⟨me6, ye6, e6⟩ := Px.st_field Tryz.underlying55 hm 4 _ rfl (tf := 53) (o := 5) (c := 1) rfl rfl (by kernel_rfl)
    change DataW.trod enc Tryz.prog w 0 spare held _ 53 [c5] = _ at e6
    obtain ⟨za5, q5, _, z2a5⟩ := DataW.trod_int Tryz.underlying53 e6
    obtain ⟨a5, rfl, hua5⟩ := Px.nat_of_wf rfl z2a5
    obtain rfl : c5 = _ := (List.cons.inj q5).1
    exact ⟨c0, wa0, c1, wa1, c2, wa2, a3, a4, a5, by rw [← Array.toArray_toList (xs := cs0), ← hl0], bya0, bya1, bya2, hua3, hua5, trivial⟩
