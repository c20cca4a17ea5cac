/- The table of the functions' code: each is the program's. -/
import Derived.Test.YtanlmanifpknoaaE5
import Derived.Test.YtanlmanifpknoaaRows
import Derived.KernelRfl
namespace Go.Proofs.Ytanlmanifpknoaa.Ev
open Go Go.Proofs
set_option maxRecDepth 100000
theorem ok45 : RowOk Try.prog (45, .ir ir45) := rowOk_ir (mix := .no) Try.func45 rfl rfl rfl (by kernel_rfl)
theorem ok96 : RowOk Try.prog (96, .ir ir96) := rowOk_ir (mix := .no) Try.func96 rfl rfl rfl (by kernel_rfl)
theorem ok106 : RowOk Try.prog (106, .ir ir106) := rowOk_ir (mix := .no) Try.func106 rfl rfl rfl (by kernel_rfl)
theorem ok110 : RowOk Try.prog (110, .ir ir110) := rowOk_ir (mix := .no) Try.func110 rfl rfl rfl (by kernel_rfl)
theorem ok40 : RowOk Try.prog (40, .ir ir40) := rowOk_ir (mix := .no) Try.func40 rfl rfl rfl (by kernel_rfl)
theorem ok57 : RowOk Try.prog (57, .ir ir57) := rowOk_ir (mix := .no) Try.func57 rfl rfl rfl (by kernel_rfl)
theorem ok5 : RowOk Try.prog (5, .ir ir5) := rowOk_ir (mix := .no) Try.func5 rfl rfl rfl (by kernel_rfl)
theorem ok43 : RowOk Try.prog (43, .ir ir43) := rowOk_ir (mix := .no) Try.func43 rfl rfl rfl (by kernel_rfl)
theorem ok42 : RowOk Try.prog (42, .ir ir42) := rowOk_ir (mix := .no) Try.func42 rfl rfl rfl (by kernel_rfl)
theorem ok77 : RowOk Try.prog (77, .ir ir77) := rowOk_ir (mix := .no) Try.func77 rfl rfl rfl (by kernel_rfl)
theorem ok70 : RowOk Try.prog (70, .ir ir70) := rowOk_ir (mix := .no) Try.func70 rfl rfl rfl (by kernel_rfl)
theorem ok32 : RowOk Try.prog (32, .ir ir32) := rowOk_ir (mix := .no) Try.func32 rfl rfl rfl (by kernel_rfl)
theorem ok3 : RowOk Try.prog (3, .ir ir3) := rowOk_ir (mix := .no) Try.func3 rfl rfl rfl (by kernel_rfl)
theorem ok6 : RowOk Try.prog (6, .ir ir6) := rowOk_ir (mix := .fz) Try.func6 rfl rfl rfl (by kernel_rfl)
theorem ok34 : RowOk Try.prog (34, .ir ir34) := rowOk_ir (mix := .fz) Try.func34 rfl rfl rfl (by kernel_rfl)
theorem ok7 : RowOk Try.prog (7, .ir ir7) := rowOk_ir (mix := .no) Try.func7 rfl rfl rfl (by kernel_rfl)
theorem ok8 : RowOk Try.prog (8, .ir ir8) := rowOk_ir (mix := .no) Try.func8 rfl rfl rfl (by kernel_rfl)
theorem ok9 : RowOk Try.prog (9, .ir ir9) := rowOk_ir (mix := .no) Try.func9 rfl rfl rfl (by kernel_rfl)
theorem ok10 : RowOk Try.prog (10, .ir ir10) := rowOk_ir (mix := .no) Try.func10 rfl rfl rfl (by kernel_rfl)
theorem ok11 : RowOk Try.prog (11, .ir ir11) := rowOk_ir (mix := .no) Try.func11 rfl rfl rfl (by kernel_rfl)
theorem ok12 : RowOk Try.prog (12, .ir ir12) := rowOk_ir (mix := .no) Try.func12 rfl rfl rfl (by kernel_rfl)
theorem ok13 : RowOk Try.prog (13, .ir ir13) := rowOk_ir (mix := .fz) Try.func13 rfl rfl rfl (by kernel_rfl)
theorem ok14 : RowOk Try.prog (14, .ir ir14) := rowOk_ir (mix := .no) Try.func14 rfl rfl rfl (by kernel_rfl)
theorem ok15 : RowOk Try.prog (15, .ir ir15) := rowOk_ir (mix := .no) Try.func15 rfl rfl rfl (by kernel_rfl)
theorem ok16 : RowOk Try.prog (16, .ir ir16) := rowOk_ir (mix := .no) Try.func16 rfl rfl rfl (by kernel_rfl)
theorem ok35 : RowOk Try.prog (35, .ir ir35) := rowOk_ir (mix := .no) Try.func35 rfl rfl rfl (by kernel_rfl)
theorem ok36 : RowOk Try.prog (36, .ir ir36) := rowOk_ir (mix := .no) Try.func36 rfl rfl rfl (by kernel_rfl)
theorem ok37 : RowOk Try.prog (37, .ir ir37) := rowOk_ir (mix := .no) Try.func37 rfl rfl rfl (by kernel_rfl)
theorem ok38 : RowOk Try.prog (38, .ir ir38) := rowOk_ir (mix := .no) Try.func38 rfl rfl rfl (by kernel_rfl)
theorem ok39 : RowOk Try.prog (39, .ir ir39) := rowOk_ir (mix := .no) Try.func39 rfl rfl rfl (by kernel_rfl)
theorem ok41 : RowOk Try.prog (41, .ir ir41) := rowOk_ir (mix := .no) Try.func41 rfl rfl rfl (by kernel_rfl)
theorem ok44 : RowOk Try.prog (44, .ir ir44) := rowOk_ir (mix := .no) Try.func44 rfl rfl rfl (by kernel_rfl)
theorem ok46 : RowOk Try.prog (46, .ir ir46) := rowOk_ir (mix := .no) Try.func46 rfl rfl rfl (by kernel_rfl)
theorem ok47 : RowOk Try.prog (47, .ir ir47) := rowOk_ir (mix := .no) Try.func47 rfl rfl rfl (by kernel_rfl)
theorem ok73 : RowOk Try.prog (73, .ir ir73) := rowOk_ir (mix := .no) Try.func73 rfl rfl rfl (by kernel_rfl)
theorem ok74 : RowOk Try.prog (74, .ir ir74) := rowOk_ir (mix := .no) Try.func74 rfl rfl rfl (by kernel_rfl)
theorem ok75 : RowOk Try.prog (75, .ir ir75) := rowOk_ir (mix := .yes) Try.func75 rfl rfl rfl (by kernel_rfl)
theorem ok76 : RowOk Try.prog (76, .ir ir76) := rowOk_ir (mix := .no) Try.func76 rfl rfl rfl (by kernel_rfl)
theorem ok78 : RowOk Try.prog (78, .ir ir78) := rowOk_ir (mix := .no) Try.func78 rfl rfl rfl (by kernel_rfl)
theorem ok95 : RowOk Try.prog (95, .ir ir95) := rowOk_ir (mix := .no) Try.func95 rfl rfl rfl (by kernel_rfl)
theorem ok97 : RowOk Try.prog (97, .ir ir97) := rowOk_ir (mix := .no) Try.func97 rfl rfl rfl (by kernel_rfl)
theorem ok98 : RowOk Try.prog (98, .ir ir98) := rowOk_ir (mix := .no) Try.func98 rfl rfl rfl (by kernel_rfl)
theorem ok107 : RowOk Try.prog (107, .ir ir107) := rowOk_ir (mix := .no) Try.func107 rfl rfl rfl (by kernel_rfl)
theorem ok101 : RowOk Try.prog (101, .prim .own (cloneP 1)) := clone_row Try.func101 rfl rfl fun X ys hX hys =>
  clone_sound (z := .int .i64 0) (ty := 32) (te := 3) Try.func101 rfl rfl rfl (by kernel_rfl) (by kernel_rfl) rfl rfl rfl rfl Try.underlying32 (by kernel_rfl) (by kernel_rfl) X ys hX hys
theorem envOk : EnvOk Try.prog env := envOk_of tab (List.forall_mem_cons.2 ⟨ok45, List.forall_mem_cons.2 ⟨ok96, List.forall_mem_cons.2 ⟨ok106, List.forall_mem_cons.2 ⟨ok110, List.forall_mem_cons.2 ⟨ok40, List.forall_mem_cons.2 ⟨ok57, List.forall_mem_cons.2 ⟨ok5, List.forall_mem_cons.2 ⟨ok43, List.forall_mem_cons.2 ⟨ok42, List.forall_mem_cons.2 ⟨ok77, List.forall_mem_cons.2 ⟨ok70, List.forall_mem_cons.2 ⟨ok32, List.forall_mem_cons.2 ⟨ok3, List.forall_mem_cons.2 ⟨ok6, List.forall_mem_cons.2 ⟨ok34, List.forall_mem_cons.2 ⟨ok7, List.forall_mem_cons.2 ⟨ok8, List.forall_mem_cons.2 ⟨ok9, List.forall_mem_cons.2 ⟨ok10, List.forall_mem_cons.2 ⟨ok11, List.forall_mem_cons.2 ⟨ok12, List.forall_mem_cons.2 ⟨ok13, List.forall_mem_cons.2 ⟨ok14, List.forall_mem_cons.2 ⟨ok15, List.forall_mem_cons.2 ⟨ok16, List.forall_mem_cons.2 ⟨ok35, List.forall_mem_cons.2 ⟨ok36, List.forall_mem_cons.2 ⟨ok37, List.forall_mem_cons.2 ⟨ok38, List.forall_mem_cons.2 ⟨ok39, List.forall_mem_cons.2 ⟨ok41, List.forall_mem_cons.2 ⟨ok44, List.forall_mem_cons.2 ⟨ok46, List.forall_mem_cons.2 ⟨ok47, List.forall_mem_cons.2 ⟨ok73, List.forall_mem_cons.2 ⟨ok74, List.forall_mem_cons.2 ⟨ok75, List.forall_mem_cons.2 ⟨ok76, List.forall_mem_cons.2 ⟨ok78, List.forall_mem_cons.2 ⟨ok95, List.forall_mem_cons.2 ⟨ok97, List.forall_mem_cons.2 ⟨ok98, List.forall_mem_cons.2 ⟨ok107, List.forall_mem_cons.2 ⟨ok101, fun _ h => by cases h⟩⟩⟩⟩⟩⟩⟩⟩⟩⟩⟩⟩⟩⟩⟩⟩⟩⟩⟩⟩⟩⟩⟩⟩⟩⟩⟩⟩⟩⟩⟩⟩⟩⟩⟩⟩⟩⟩⟩⟩⟩⟩⟩⟩)
end Go.Proofs.Ytanlmanifpknoaa.Ev
