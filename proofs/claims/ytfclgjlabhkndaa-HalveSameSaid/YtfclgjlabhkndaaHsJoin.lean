/- The statement HalveSame: what the conditions and their plain laws say of the program's functions, joined with the program. -/
import Derived.Test.YtfclgjlabhkndaaRows

import Derived.Test.YtfclgjlabhkndaaHsW5
import Derived.WalkKit
import Derived.ProofKit
import Derived.OpenShut
import Derived.ReadAgain
import Derived.ChangeBears






namespace Go.Proofs.Ytfclgjlabhkndaa.Hs
open Go Go.Pf Go.Pf.Vc Go.ChangeShapes Go.WideShapes Go.ChangeAt Go.RowKit
set_option maxRecDepth 100000
def fg_slices_stableCmpFunc_halve_half : List (Nat × List Nat) := [(16, [7, 9, 54, 61, 62]), (15, [7, 9, 54, 55, 56, 57, 58, 59, 60]), (14, [52, 53]), (13, [8, 35, 49, 50, 51]), (12, [45, 46, 47, 48]), (11, [44]), (10, [7, 35, 36, 37, 38, 39, 40, 41, 42, 43]), (9, [33, 34]), (8, [30, 31, 32]), (7, [28, 29]), (6, [7, 8, 13, 23, 24, 25, 26, 27]), (5, [20, 21, 22]), (4, [19]), (3, [7, 13, 14, 15, 16, 17, 18]), (2, [11, 12]), (1, [10])]
theorem c_slices_stableCmpFunc_halve_half : compFn Try.prog [] (fun i => (fg_slices_stableCmpFunc_halve_half.lookup i).getD []) Try.f46 = some t_slices_stableCmpFunc_halve_half.fn := by kernel_rfl
def fg_slices_pdqsortOrdered_int : List (Nat × List Nat) := [(30, [14, 133]), (29, [2, 127, 128, 129, 130, 131, 132]), (28, [16, 17, 18, 113, 124, 125, 126]), (27, [14, 122, 123]), (26, [1, 117, 118, 119, 120, 121]), (25, [16, 17, 18, 113, 114, 115, 116]), (24, [111, 112]), (23, [10, 109, 110]), (22, [103, 104, 105, 106, 107, 108]), (21, [15, 102]), (20, [8, 9, 11, 87, 94, 95, 96, 97, 98, 99, 100, 101]), (19, [13, 93]), (18, [1, 10, 11, 87, 88, 89, 90, 91, 92]), (17, [68, 72, 73, 74, 75, 76, 77, 78, 79, 80, 81, 82, 83, 84, 85, 86]), (16, [68, 69, 70, 71]), (15, [12, 50, 61, 62, 63, 64, 65, 66, 67]), (13, [55, 56, 57, 58, 59, 60]), (12, [12, 50, 51, 52, 53, 54]), (11, [49]), (10, [35, 42, 43, 44, 45, 46, 47, 48]), (9, [40, 41]), (8, [35, 36, 37, 38, 39]), (7, [29, 34]), (6, [0, 1, 2, 3, 8, 9, 10, 29, 30, 31, 32, 33]), (5, [23, 28]), (4, [0, 1, 2, 3, 8, 9, 10, 23, 24, 25, 26, 27]), (3, [22]), (2, [19, 20, 21])]
theorem c_slices_pdqsortOrdered_int : compFn Try.prog [] (fun i => (fg_slices_pdqsortOrdered_int.lookup i).getD []) Try.f47 = some t_slices_pdqsortOrdered_int.fn := by kernel_rfl
theorem tabOk : AllOk Try.prog tab := by
  unfold tab
  simp only [AllOk]
  exact ⟨⟨Try.f22, _, _, Try.func22, tl_fn (by kernel_rfl)⟩, ⟨Try.f10, _, _, Try.func10, tl_fn (by kernel_rfl)⟩, ⟨Try.f18, _, _, Try.func18, tl_fn (by kernel_rfl)⟩, ⟨Try.f11, _, _, Try.func11, tl_fn (by kernel_rfl)⟩, ⟨Try.f4, _, _, Try.func4, tl_fn (by kernel_rfl)⟩, ⟨Try.f12, _, _, Try.func12, tl_fn (by kernel_rfl)⟩, ⟨Try.f13, _, _, Try.func13, tl_fn (by kernel_rfl)⟩, ⟨Try.f51, _, _, Try.func51, tl_fn (by kernel_rfl)⟩, ⟨Try.f52, _, _, Try.func52, tl_fn (by kernel_rfl)⟩, ⟨Try.f33, _, _, Try.func33, tl_fn (by kernel_rfl)⟩, ⟨Try.f23, _, _, Try.func23, tl_fn (by kernel_rfl)⟩, ⟨Try.f50, _, _, Try.func50, tl_fn (by kernel_rfl)⟩, ⟨Try.f32, _, _, Try.func32, tl_fn (by kernel_rfl)⟩, ⟨Try.f19, _, _, Try.func19, tl_fn (by kernel_rfl)⟩, ⟨Try.f20, _, _, Try.func20, tl_fn (by kernel_rfl)⟩, ⟨Try.f37, _, _, Try.func37, tl_fn (by kernel_rfl)⟩, ⟨Try.f40, _, _, Try.func40, tl_fn (by kernel_rfl)⟩, ⟨Try.f54, _, _, Try.func54, tl_fn (by kernel_rfl)⟩, ⟨Try.f53, _, _, Try.func53, tl_fn (by kernel_rfl)⟩, ⟨Try.f34, _, _, Try.func34, tl_fn (by kernel_rfl)⟩, ⟨Try.f55, _, _, Try.func55, tl_fn (by kernel_rfl)⟩, ⟨Try.f35, _, _, Try.func35, tl_fn (by kernel_rfl)⟩, ⟨Try.f36, _, _, Try.func36, tl_fn (by kernel_rfl)⟩, ⟨Try.f56, _, _, Try.func56, tl_fn (by kernel_rfl)⟩, ⟨Try.f39, _, _, Try.func39, tl_fn (by kernel_rfl)⟩, ⟨Try.f38, _, _, Try.func38, tl_fn (by kernel_rfl)⟩, ⟨Try.f24, _, _, Try.func24, tl_fn (by kernel_rfl)⟩, ⟨Try.f25, _, _, Try.func25, tl_fn (by kernel_rfl)⟩, ⟨Try.f41, _, _, Try.func41, tl_fn (by kernel_rfl)⟩, ⟨Try.f26, _, _, Try.func26, tl_fn (by kernel_rfl)⟩, ⟨Try.f57, _, _, Try.func57, tl_fn (by kernel_rfl)⟩, ⟨Try.f58, _, _, Try.func58, tl_fn (by kernel_rfl)⟩, ⟨Try.f42, _, _, Try.func42, tl_fn (by kernel_rfl)⟩, ⟨Try.f84, _, _, Try.func84, tl_fn (by kernel_rfl)⟩, ⟨Try.f83, _, _, Try.func83, tl_fn (by kernel_rfl)⟩, ⟨Try.f82, _, _, Try.func82, tl_fn (by kernel_rfl)⟩, ⟨Try.f49, _, _, Try.func49, tl_fn (by kernel_rfl)⟩, ⟨Try.f96, _, _, Try.func96, tl_fn (by kernel_rfl)⟩, ⟨Try.f95, _, _, Try.func95, tl_fn (by kernel_rfl)⟩, ⟨Try.f94, _, _, Try.func94, tl_fn (by kernel_rfl)⟩, ⟨Try.f86, _, _, Try.func86, tl_fn (by kernel_rfl)⟩, ⟨Try.f85, _, _, Try.func85, tl_fn (by kernel_rfl)⟩, ⟨Try.f44, _, _, Try.func44, tl_fn (by kernel_rfl)⟩, ⟨Try.f73, _, _, Try.func73, tl_fn (by kernel_rfl)⟩, ⟨Try.f60, _, _, Try.func60, tl_fn (by kernel_rfl)⟩, ⟨Try.f59, _, _, Try.func59, tl_fn (by kernel_rfl)⟩, ⟨Try.f43, _, _, Try.func43, tl_fn (by kernel_rfl)⟩, ⟨Try.f89, _, _, Try.func89, tl_fn (by kernel_rfl)⟩, ⟨Try.f88, _, _, Try.func88, tl_fn (by kernel_rfl)⟩, ⟨Try.f87, _, _, Try.func87, tl_fn (by kernel_rfl)⟩, ⟨Try.f74, _, _, Try.func74, tl_fn (by kernel_rfl)⟩, ⟨Try.f61, _, _, Try.func61, tl_fn (by kernel_rfl)⟩, ⟨Try.f45, _, _, Try.func45, tl_fn (by kernel_rfl)⟩, ⟨Try.f27, _, _, Try.func27, tl_fn (by kernel_rfl)⟩, ⟨Try.f62, _, _, Try.func62, tl_fn (by kernel_rfl)⟩, ⟨Try.f46, _, _, Try.func46, c_slices_stableCmpFunc_halve_half⟩, ⟨Try.f28, _, _, Try.func28, tl_fn (by kernel_rfl)⟩, ⟨Try.f29, _, _, Try.func29, tl_fn (by kernel_rfl)⟩, ⟨Try.f48, _, _, Try.func48, tl_fn (by kernel_rfl)⟩, ⟨Try.f31, _, _, Try.func31, tl_fn (by kernel_rfl)⟩, ⟨Try.f81, _, _, Try.func81, tl_fn (by kernel_rfl)⟩, ⟨Try.f70, _, _, Try.func70, tl_fn (by kernel_rfl)⟩, ⟨Try.f64, _, _, Try.func64, tl_fn (by kernel_rfl)⟩, ⟨Try.f47, _, _, Try.func47, c_slices_pdqsortOrdered_int⟩, ⟨Try.f30, _, _, Try.func30, tl_fn (by kernel_rfl)⟩, ⟨Try.f14, _, _, Try.func14, tl_fn (by kernel_rfl)⟩, ⟨Try.f7, _, _, Try.func7, tl_fn (by kernel_rfl)⟩, ⟨Try.f15, _, _, Try.func15, tl_fn (by kernel_rfl)⟩, ⟨Try.f16, _, _, Try.func16, tl_fn (by kernel_rfl)⟩, ⟨Try.f21, _, _, Try.func21, tl_fn (by kernel_rfl)⟩, ⟨Try.f8, _, _, Try.func8, tl_fn (by kernel_rfl)⟩, ⟨Try.f17, _, _, Try.func17, tl_fn (by kernel_rfl)⟩, ⟨Try.f5, _, _, Try.func5, tl_fn (by kernel_rfl)⟩, ⟨Try.f6, _, _, Try.func6, tl_fn (by kernel_rfl)⟩, ⟨Try.f9, _, _, Try.func9, tl_fn (by kernel_rfl)⟩, ⟨Try.f3, _, _, Try.func3, tl_fn (by kernel_rfl)⟩, trivial⟩
theorem hm : Try.prog.follows .mixedOrders = true := by kernel_rfl
theorem isAdd : IsExtern Try.prog n_m_Add64 add64Entry := ⟨_, Try.func92, by kernel_rfl, by kernel_rfl, by kernel_rfl, by kernel_rfl⟩
theorem isSub : IsExtern Try.prog n_m_Sub64 sub64E := ⟨_, Try.func93, by kernel_rfl, by kernel_rfl, by kernel_rfl, by kernel_rfl⟩
theorem dnE : dnL quiL = [] := by kernel_rfl
theorem k0C : EnvOk Try.prog E0C := by
  refine baseC_ok hm isAdd isSub tabOk (fun n hn => by rw [dnE] at hn; cases hn) ?_
  intro n e b h
  simp only [cloL, List.mem_cons, Prod.mk.injEq, List.not_mem_nil, or_false] at h
  rcases h with ⟨rfl, rfl, rfl⟩
  exact ⟨(.int .i64 (0)), by kernel_rfl⟩
theorem kN : EnvOk Try.prog (E []) := baseS_ok k0C fun e h => by cases h
end Go.Proofs.Ytfclgjlabhkndaa.Hs
