/- The table of this program's types. -/
import Derived.Test.YtbhigdljojlhnaaK4
import Derived.Test.YtbhigdljojlhnaaK3
import Derived.Test.YtbhigdljojlhnaaK5
import Derived.Test.YtbhigdljojlhnaaProg
import Derived.KernelRfl
import Derived.IntWalk
namespace Go.Proofs.Ytbhigdljojlhnaa
set_option linter.all false
open Go.Vc Go.Proofs
theorem all_some {l : List Field} (h : l.all (fun f => (Try.prog.info? f.type).isSome) = true) : ∀ f ∈ l, (Try.prog.info? f.type).isSome = true := List.all_eq_true.1 h
noncomputable def tab : Tab := fun t => match t with
  | 2 => { ld := some (false, 1), zero := some (.val (.int .i64 0)), int := some .i64 }
  | 3 => { ld := some (false, 1), zero := some (.val (.int .i64 0)), int := some .i64 }
  | 4 => { ld := some (false, 1), zero := some (.val (.bool false)), bool := true }
  | 5 => { ld := some (false, 1), zero := some (.val (.int .u8 0)), int := some .u8 }
  | 6 => { ld := some (false, 1), zero := some (.val (.int .u8 0)), int := some .u8 }
  | 7 => { ld := some (true, 4), zero := some (.agg (.cons (.val (.int .i64 0)) (.cons (.val (.int .i64 0)) (.cons (.val (.bool false)) (.cons (.val (.int .u8 0)) .nil))))), st := some [(0, 1), (1, 1), (2, 1), (3, 1)] }
  | 8 => { ld := some (true, 4), zero := some (.agg (.cons (.val (.int .i64 0)) (.cons (.val (.int .i64 0)) (.cons (.val (.bool false)) (.cons (.val (.int .u8 0)) .nil))))), st := some [(0, 1), (1, 1), (2, 1), (3, 1)] }
  | 9 => { ld := some (false, 1), zero := some (.val (.string ⟨#[]⟩)), str := true }
  | 10 => { ld := some (false, 1), zero := some (.val (.string ⟨#[]⟩)), str := true }
  | 11 => { ld := some (false, 1), zero := some (.val (.string ⟨#[]⟩)), str := true }
  | 12 => { ld := some (false, 1), zero := some (.val (.int .u64 0)), int := some .u64 }
  | 13 => { ld := some (true, 2), zero := some (.agg (.cons (.val (.string ⟨#[]⟩)) (.cons (.val (.int .u64 0)) .nil))), st := some [(0, 1), (1, 1)] }
  | 14 => { ld := some (true, 2), zero := some (.agg (.cons (.val (.string ⟨#[]⟩)) (.cons (.val (.int .u64 0)) .nil))), st := some [(0, 1), (1, 1)] }
  | 15 => { ld := some (false, 1), zero := some (.val (.pointer none)), ptr := true }
  | 16 => { ld := some (false, 1), zero := some (.val (.pointer none)), ptr := true }
  | 17 => { ld := some (false, 1), zero := some (.val (.pointer none)), ptr := true }
  | 18 => { ld := some (true, 1), zero := some (.agg (.cons (.val (.pointer none)) .nil)), st := some [(0, 1)] }
  | 19 => { ld := some (true, 1), zero := some (.agg (.cons (.val (.pointer none)) .nil)), st := some [(0, 1)] }
  | 21 => { ld := some (false, 1), zero := some (.val (.int .i32 0)), int := some .i32 }
  | 22 => { ld := some (false, 1), zero := some (.val (.pointer none)), ptr := true }
  | 23 => { ld := some (false, 1), zero := some (.val (.pointer none)), ptr := true }
  | 24 => { ld := some (false, 1), zero := some (.val (.map none)), mp := some (67, .two) }
  | 25 => { ld := some (false, 1), zero := some (.val (.map none)), mp := some (4, .int .i64) }
  | 26 => { ld := some (true, 3), zero := some (.agg (.cons (.val (.pointer none)) (.cons (.val (.map none)) (.cons (.val (.map none)) .nil)))), st := some [(0, 1), (1, 1), (2, 1)] }
  | 27 => { ld := some (true, 3), zero := some (.agg (.cons (.val (.pointer none)) (.cons (.val (.map none)) (.cons (.val (.map none)) .nil)))), st := some [(0, 1), (1, 1), (2, 1)] }
  | 28 => { ld := some (true, 4), zero := some (.agg (.cons (.val (.int .i64 0)) (.cons (.val (.int .i64 0)) (.cons (.val (.int .i64 0)) (.cons (.val (.string ⟨#[]⟩)) .nil))))), st := some [(0, 1), (1, 1), (2, 1), (3, 1)] }
  | 29 => { ld := some (true, 4), zero := some (.agg (.cons (.val (.int .i64 0)) (.cons (.val (.int .i64 0)) (.cons (.val (.int .i64 0)) (.cons (.val (.string ⟨#[]⟩)) .nil))))), st := some [(0, 1), (1, 1), (2, 1), (3, 1)] }
  | 30 => { ld := some (true, 6), zero := some (.agg (.cons (.agg (.cons (.val (.int .i64 0)) (.cons (.val (.int .i64 0)) (.cons (.val (.int .i64 0)) (.cons (.val (.string ⟨#[]⟩)) .nil))))) (.cons (.val (.int .i64 0)) (.cons (.val (.int .i64 0)) .nil)))), st := some [(0, 4), (4, 1), (5, 1)] }
  | 31 => { ld := some (true, 6), zero := some (.agg (.cons (.agg (.cons (.val (.int .i64 0)) (.cons (.val (.int .i64 0)) (.cons (.val (.int .i64 0)) (.cons (.val (.string ⟨#[]⟩)) .nil))))) (.cons (.val (.int .i64 0)) (.cons (.val (.int .i64 0)) .nil)))), st := some [(0, 4), (4, 1), (5, 1)] }
  | 32 => { ld := some (false, 1), zero := some (.val (.int .i64 0)), int := some .i64 }
  | 36 => { sl := some (31, 6, 56, (.agg #[.int .i64 0, .int .i64 0, .int .i64 0, .string ⟨#[]⟩, .int .i64 0, .int .i64 0])), ld := some (false, 1), zero := some (.sl true (.slice none 0 0) 6 .nil) }
  | 41 => { sl := some (9, 1, 16, (.string ⟨#[]⟩)), ld := some (false, 1), zero := some (.sl true (.slice none 0 0) 1 .nil) }
  | 51 => { sl := some (32, 1, 8, (.int .i64 0)), ld := some (false, 1), zero := some (.sl true (.slice none 0 0) 1 .nil) }
  | 58 => { sl := some (3, 1, 8, (.int .i64 0)), ld := some (false, 1), zero := some (.sl true (.slice none 0 0) 1 .nil) }
  | 67 => { ld := some (false, 1), zero := some (.val (.map none)), mp := some (29, .str) }
  | 68 => { ld := some (true, 2), zero := some (.agg (.cons (.val (.int .i64 0)) (.cons (.val (.int .i64 0)) .nil))), st := some [(0, 1), (1, 1)] }
  | 69 => { ld := some (true, 2), zero := some (.agg (.cons (.val (.int .i64 0)) (.cons (.val (.int .i64 0)) .nil))), st := some [(0, 1), (1, 1)] }
  | 74 => { ld := some (false, 1), zero := some (.val (.map none)), mp := some (4, .str) }
  | 75 => { sl := some (69, 2, 16, (.agg #[.int .i64 0, .int .i64 0])), ld := some (false, 1), zero := some (.sl true (.slice none 0 0) 2 .nil) }
  | 97 => { sl := some (100, 6, 80, (.agg #[.int .i64 0, .int .i64 0, .int .i64 0, .int .i64 0, .slice none 0 0, .slice none 0 0])), ld := some (false, 1), zero := some (.sl true (.slice none 0 0) 6 .nil) }
  | 99 => { ld := some (true, 6), zero := some (.agg (.cons (.val (.int .i64 0)) (.cons (.val (.int .i64 0)) (.cons (.val (.int .i64 0)) (.cons (.val (.int .i64 0)) (.cons (.sl true (.slice none 0 0) 1 .nil) (.cons (.sl true (.slice none 0 0) 1 .nil) .nil))))))), st := some [(0, 1), (1, 1), (2, 1), (3, 1), (4, 1), (5, 1)] }
  | 100 => { ld := some (true, 6), zero := some (.agg (.cons (.val (.int .i64 0)) (.cons (.val (.int .i64 0)) (.cons (.val (.int .i64 0)) (.cons (.val (.int .i64 0)) (.cons (.sl true (.slice none 0 0) 1 .nil) (.cons (.sl true (.slice none 0 0) 1 .nil) .nil))))))), st := some [(0, 1), (1, 1), (2, 1), (3, 1), (4, 1), (5, 1)] }
  | 101 => { ld := some (true, 1), zero := some (.agg (.cons (.sl true (.slice none 0 0) 6 .nil) .nil)), st := some [(0, 1)] }
  | 102 => { ld := some (true, 1), zero := some (.agg (.cons (.sl true (.slice none 0 0) 6 .nil) .nil)), st := some [(0, 1)] }
  | 110 => { ld := some (false, 1), zero := some (.val (.map none)), mp := some (58, .int .i64) }
  | 111 => { ld := some (false, 1), zero := some (.val (.map none)), mp := some (58, .int .i64) }
  | 116 => { ld := some (false, 1), zero := some (.val (.int .u64 0)), int := some .u64 }
  | 121 => { ld := some (false, 1), zero := some (.val (.int .i64 0)), int := some .i64 }
  | 130 => { ld := some (false, 1), zero := some (.val (.int .u32 0)), int := some .u32 }
  | 132 => { ld := some (false, 1), zero := some (.val (.int .u64 0)), int := some .u64 }
  | 133 => { sl := some (58, 1, 24, (.slice none 0 0)), ld := some (false, 1), zero := some (.sl true (.slice none 0 0) 1 .nil) }
  | 136 => { ld := some (false, 1), zero := some (.val (.int .u64 0)), int := some .u64 }
  | 140 => { ld := some (false, 1), zero := some (.val (.pointer none)), ptr := true }
  | 145 => { ld := some (false, 1), zero := some (.val (.pointer none)), ptr := true }
  | 149 => { ld := some (true, 4), zero := some (.agg (.cons (.val (.pointer none)) (.cons (.val (.pointer none)) (.cons (.val (.pointer none)) (.cons (.val (.string ⟨#[]⟩)) .nil))))), st := some [(0, 1), (1, 1), (2, 1), (3, 1)] }
  | 150 => { ld := some (true, 4), zero := some (.agg (.cons (.val (.pointer none)) (.cons (.val (.pointer none)) (.cons (.val (.pointer none)) (.cons (.val (.string ⟨#[]⟩)) .nil))))), st := some [(0, 1), (1, 1), (2, 1), (3, 1)] }
  | _ => {}
theorem tab_3 : tab 3 = { ld := some (false, 1), zero := some (.val (.int .i64 0)), int := some .i64 } := rfl
theorem tab_4 : tab 4 = { ld := some (false, 1), zero := some (.val (.bool false)), bool := true } := rfl
theorem tab_9 : tab 9 = { ld := some (false, 1), zero := some (.val (.string ⟨#[]⟩)), str := true } := rfl
theorem tab_22 : tab 22 = { ld := some (false, 1), zero := some (.val (.pointer none)), ptr := true } := rfl
theorem tab_23 : tab 23 = { ld := some (false, 1), zero := some (.val (.pointer none)), ptr := true } := rfl
theorem tab_24 : tab 24 = { ld := some (false, 1), zero := some (.val (.map none)), mp := some (67, .two) } := rfl
theorem tab_25 : tab 25 = { ld := some (false, 1), zero := some (.val (.map none)), mp := some (4, .int .i64) } := rfl
theorem tab_27 : tab 27 = { ld := some (true, 3), zero := some (.agg (.cons (.val (.pointer none)) (.cons (.val (.map none)) (.cons (.val (.map none)) .nil)))), st := some [(0, 1), (1, 1), (2, 1)] } := rfl
theorem tab_29 : tab 29 = { ld := some (true, 4), zero := some (.agg (.cons (.val (.int .i64 0)) (.cons (.val (.int .i64 0)) (.cons (.val (.int .i64 0)) (.cons (.val (.string ⟨#[]⟩)) .nil))))), st := some [(0, 1), (1, 1), (2, 1), (3, 1)] } := rfl
theorem tab_31 : tab 31 = { ld := some (true, 6), zero := some (.agg (.cons (.agg (.cons (.val (.int .i64 0)) (.cons (.val (.int .i64 0)) (.cons (.val (.int .i64 0)) (.cons (.val (.string ⟨#[]⟩)) .nil))))) (.cons (.val (.int .i64 0)) (.cons (.val (.int .i64 0)) .nil)))), st := some [(0, 4), (4, 1), (5, 1)] } := rfl
theorem tab_32 : tab 32 = { ld := some (false, 1), zero := some (.val (.int .i64 0)), int := some .i64 } := rfl
theorem tab_36 : tab 36 = { sl := some (31, 6, 56, (.agg #[.int .i64 0, .int .i64 0, .int .i64 0, .string ⟨#[]⟩, .int .i64 0, .int .i64 0])), ld := some (false, 1), zero := some (.sl true (.slice none 0 0) 6 .nil) } := rfl
theorem tab_41 : tab 41 = { sl := some (9, 1, 16, (.string ⟨#[]⟩)), ld := some (false, 1), zero := some (.sl true (.slice none 0 0) 1 .nil) } := rfl
theorem tab_51 : tab 51 = { sl := some (32, 1, 8, (.int .i64 0)), ld := some (false, 1), zero := some (.sl true (.slice none 0 0) 1 .nil) } := rfl
theorem tab_58 : tab 58 = { sl := some (3, 1, 8, (.int .i64 0)), ld := some (false, 1), zero := some (.sl true (.slice none 0 0) 1 .nil) } := rfl
theorem tab_67 : tab 67 = { ld := some (false, 1), zero := some (.val (.map none)), mp := some (29, .str) } := rfl
theorem tab_69 : tab 69 = { ld := some (true, 2), zero := some (.agg (.cons (.val (.int .i64 0)) (.cons (.val (.int .i64 0)) .nil))), st := some [(0, 1), (1, 1)] } := rfl
theorem tab_75 : tab 75 = { sl := some (69, 2, 16, (.agg #[.int .i64 0, .int .i64 0])), ld := some (false, 1), zero := some (.sl true (.slice none 0 0) 2 .nil) } := rfl
theorem tab_97 : tab 97 = { sl := some (100, 6, 80, (.agg #[.int .i64 0, .int .i64 0, .int .i64 0, .int .i64 0, .slice none 0 0, .slice none 0 0])), ld := some (false, 1), zero := some (.sl true (.slice none 0 0) 6 .nil) } := rfl
theorem tab_100 : tab 100 = { ld := some (true, 6), zero := some (.agg (.cons (.val (.int .i64 0)) (.cons (.val (.int .i64 0)) (.cons (.val (.int .i64 0)) (.cons (.val (.int .i64 0)) (.cons (.sl true (.slice none 0 0) 1 .nil) (.cons (.sl true (.slice none 0 0) 1 .nil) .nil))))))), st := some [(0, 1), (1, 1), (2, 1), (3, 1), (4, 1), (5, 1)] } := rfl
theorem tab_102 : tab 102 = { ld := some (true, 1), zero := some (.agg (.cons (.sl true (.slice none 0 0) 6 .nil) .nil)), st := some [(0, 1)] } := rfl
theorem tab_111 : tab 111 = { ld := some (false, 1), zero := some (.val (.map none)), mp := some (58, .int .i64) } := rfl
theorem tab_133 : tab 133 = { sl := some (58, 1, 24, (.slice none 0 0)), ld := some (false, 1), zero := some (.sl true (.slice none 0 0) 1 .nil) } := rfl
set_option linter.defProp false
def tabd_3 := @tab_3
def tabd_4 := @tab_4
def tabd_9 := @tab_9
def tabd_22 := @tab_22
def tabd_23 := @tab_23
def tabd_24 := @tab_24
def tabd_25 := @tab_25
def tabd_27 := @tab_27
def tabd_29 := @tab_29
def tabd_31 := @tab_31
def tabd_32 := @tab_32
def tabd_36 := @tab_36
def tabd_41 := @tab_41
def tabd_51 := @tab_51
def tabd_58 := @tab_58
def tabd_67 := @tab_67
def tabd_69 := @tab_69
def tabd_75 := @tab_75
def tabd_97 := @tab_97
def tabd_100 := @tab_100
def tabd_102 := @tab_102
def tabd_111 := @tab_111
def tabd_133 := @tab_133
attribute [simp] tabd_3 tabd_4 tabd_9 tabd_22 tabd_23 tabd_24 tabd_25 tabd_27 tabd_29 tabd_31 tabd_32 tabd_36 tabd_41 tabd_51 tabd_58 tabd_67 tabd_69 tabd_75 tabd_97 tabd_100 tabd_102 tabd_111 tabd_133
theorem tabOk_2 : (tab 2).Ok Try.prog 2 := .okI Try.t2 (.int .i64 0) rfl rfl (int := by intro k h; cases h; kernel_rfl)
theorem tabOk_3 : (tab 3).Ok Try.prog 3 := .okI Try.t3 (.int .i64 0) rfl rfl (int := by intro k h; cases h; kernel_rfl)
theorem tabOk_4 : (tab 4).Ok Try.prog 4 := .okI Try.t4 (.bool false) rfl rfl (bool := by intro _; kernel_rfl)
theorem tabOk_5 : (tab 5).Ok Try.prog 5 := .okI Try.t5 (.int .u8 0) rfl rfl (int := by intro k h; cases h; kernel_rfl)
theorem tabOk_6 : (tab 6).Ok Try.prog 6 := .okI Try.t6 (.int .u8 0) rfl rfl (int := by intro k h; cases h; kernel_rfl)
theorem tabOk_7 : (tab 7).Ok Try.prog 7 := .okI Try.t7 (.agg #[.int .i64 0, .int .i64 0, .bool false, .int .u8 0]) rfl rfl (st := by intro l h; cases h; exact ⟨_, Try.underlying7, by kernel_rfl, (by exact all_some (by kernel_rfl)), by kernel_rfl⟩)
theorem tabOk_8 : (tab 8).Ok Try.prog 8 := .okI Try.t8 (.agg #[.int .i64 0, .int .i64 0, .bool false, .int .u8 0]) rfl rfl (st := by intro l h; cases h; exact ⟨_, Try.underlying8, by kernel_rfl, (by exact all_some (by kernel_rfl)), by kernel_rfl⟩)
theorem tabOk_9 : (tab 9).Ok Try.prog 9 := .okI Try.t9 (.string ⟨#[]⟩) rfl rfl (str := by intro _; kernel_rfl)
theorem tabOk_10 : (tab 10).Ok Try.prog 10 := .okI Try.t10 (.string ⟨#[]⟩) rfl rfl (str := by intro _; kernel_rfl)
theorem tabOk_11 : (tab 11).Ok Try.prog 11 := .okI Try.t11 (.string ⟨#[]⟩) rfl rfl (str := by intro _; kernel_rfl)
theorem tabOk_12 : (tab 12).Ok Try.prog 12 := .okI Try.t12 (.int .u64 0) rfl rfl (int := by intro k h; cases h; kernel_rfl)
theorem tabOk_13 : (tab 13).Ok Try.prog 13 := .okI Try.t13 (.agg #[.string ⟨#[]⟩, .int .u64 0]) rfl rfl (st := by intro l h; cases h; exact ⟨_, Try.underlying13, by kernel_rfl, (by exact all_some (by kernel_rfl)), by kernel_rfl⟩)
theorem tabOk_14 : (tab 14).Ok Try.prog 14 := .okI Try.t14 (.agg #[.string ⟨#[]⟩, .int .u64 0]) rfl rfl (st := by intro l h; cases h; exact ⟨_, Try.underlying14, by kernel_rfl, (by exact all_some (by kernel_rfl)), by kernel_rfl⟩)
theorem tabOk_15 : (tab 15).Ok Try.prog 15 := .okI Try.t15 (.pointer none) rfl rfl (ptr := by intro _; exact ⟨150, by kernel_rfl⟩)
theorem tabOk_16 : (tab 16).Ok Try.prog 16 := .okI Try.t16 (.pointer none) rfl rfl (ptr := by intro _; exact ⟨153, by kernel_rfl⟩)
theorem tabOk_17 : (tab 17).Ok Try.prog 17 := .okI Try.t17 (.pointer none) rfl rfl (ptr := by intro _; exact ⟨161, by kernel_rfl⟩)
theorem tabOk_18 : (tab 18).Ok Try.prog 18 := .okI Try.t18 (.agg #[.pointer none]) rfl rfl (st := by intro l h; cases h; exact ⟨_, Try.underlying18, by kernel_rfl, (by exact all_some (by kernel_rfl)), by kernel_rfl⟩)
theorem tabOk_19 : (tab 19).Ok Try.prog 19 := .okI Try.t19 (.agg #[.pointer none]) rfl rfl (st := by intro l h; cases h; exact ⟨_, Try.underlying19, by kernel_rfl, (by exact all_some (by kernel_rfl)), by kernel_rfl⟩)
theorem tabOk_21 : (tab 21).Ok Try.prog 21 := .okI Try.t21 (.int .i32 0) rfl rfl (int := by intro k h; cases h; kernel_rfl)
theorem tabOk_22 : (tab 22).Ok Try.prog 22 := .okI Try.t22 (.pointer none) rfl rfl (ptr := by intro _; exact ⟨27, by kernel_rfl⟩)
theorem tabOk_23 : (tab 23).Ok Try.prog 23 := .okI Try.t23 (.pointer none) rfl rfl (ptr := by intro _; exact ⟨102, by kernel_rfl⟩)
theorem tabOk_24 : (tab 24).Ok Try.prog 24 := .okI Try.t24 (.map none) rfl rfl (mp := by intro e k h; cases h; exact ⟨69, by kernel_rfl, .two Try.underlying69 (by kernel_rfl) ⟨by decide, rfl, by kernel_rfl⟩ ⟨by decide, rfl, by kernel_rfl⟩⟩)
theorem tabOk_25 : (tab 25).Ok Try.prog 25 := .okI Try.t25 (.map none) rfl rfl (mp := by intro e k h; cases h; exact ⟨3, by kernel_rfl, .int (by kernel_rfl)⟩)
theorem tabOk_26 : (tab 26).Ok Try.prog 26 := .okI Try.t26 (.agg #[.pointer none, .map none, .map none]) rfl rfl (st := by intro l h; cases h; exact ⟨_, Try.underlying26, by kernel_rfl, (by exact all_some (by kernel_rfl)), by kernel_rfl⟩)
theorem tabOk_27 : (tab 27).Ok Try.prog 27 := .okI Try.t27 (.agg #[.pointer none, .map none, .map none]) rfl rfl (st := by intro l h; cases h; exact ⟨_, Try.underlying27, by kernel_rfl, (by exact all_some (by kernel_rfl)), by kernel_rfl⟩)
theorem tabOk_28 : (tab 28).Ok Try.prog 28 := .okI Try.t28 (.agg #[.int .i64 0, .int .i64 0, .int .i64 0, .string ⟨#[]⟩]) rfl rfl (st := by intro l h; cases h; exact ⟨_, Try.underlying28, by kernel_rfl, (by exact all_some (by kernel_rfl)), by kernel_rfl⟩)
theorem tabOk_29 : (tab 29).Ok Try.prog 29 := .okI Try.t29 (.agg #[.int .i64 0, .int .i64 0, .int .i64 0, .string ⟨#[]⟩]) rfl rfl (st := by intro l h; cases h; exact ⟨_, Try.underlying29, by kernel_rfl, (by exact all_some (by kernel_rfl)), by kernel_rfl⟩)
theorem tabOk_30 : (tab 30).Ok Try.prog 30 := .okI Try.t30 (.agg #[.int .i64 0, .int .i64 0, .int .i64 0, .string ⟨#[]⟩, .int .i64 0, .int .i64 0]) rfl rfl (st := by intro l h; cases h; exact ⟨_, Try.underlying30, by kernel_rfl, (by exact all_some (by kernel_rfl)), by kernel_rfl⟩)
theorem tabOk_31 : (tab 31).Ok Try.prog 31 := .okI Try.t31 (.agg #[.int .i64 0, .int .i64 0, .int .i64 0, .string ⟨#[]⟩, .int .i64 0, .int .i64 0]) rfl rfl (st := by intro l h; cases h; exact ⟨_, Try.underlying31, by kernel_rfl, (by exact all_some (by kernel_rfl)), by kernel_rfl⟩)
theorem tabOk_32 : (tab 32).Ok Try.prog 32 := .okI Try.t32 (.int .i64 0) rfl rfl (int := by intro k h; cases h; kernel_rfl)
theorem tabOk_36 : (tab 36).Ok Try.prog 36 := .okI Try.t36 (.slice none 0 0) rfl rfl (sl := by intro e z b v h; cases h; exact ⟨by kernel_rfl, Try.t31, by kernel_rfl, by kernel_rfl, by kernel_rfl, by kernel_rfl, by kernel_rfl⟩)
theorem tabOk_41 : (tab 41).Ok Try.prog 41 := .okI Try.t41 (.slice none 0 0) rfl rfl (sl := by intro e z b v h; cases h; exact ⟨by kernel_rfl, Try.t9, by kernel_rfl, by kernel_rfl, by kernel_rfl, by kernel_rfl, by kernel_rfl⟩)
theorem tabOk_51 : (tab 51).Ok Try.prog 51 := .okI Try.t51 (.slice none 0 0) rfl rfl (sl := by intro e z b v h; cases h; exact ⟨by kernel_rfl, Try.t32, by kernel_rfl, by kernel_rfl, by kernel_rfl, by kernel_rfl, by kernel_rfl⟩)
theorem tabOk_58 : (tab 58).Ok Try.prog 58 := .okI Try.t58 (.slice none 0 0) rfl rfl (sl := by intro e z b v h; cases h; exact ⟨by kernel_rfl, Try.t3, by kernel_rfl, by kernel_rfl, by kernel_rfl, by kernel_rfl, by kernel_rfl⟩)
theorem tabOk_67 : (tab 67).Ok Try.prog 67 := .okI Try.t67 (.map none) rfl rfl (mp := by intro e k h; cases h; exact ⟨9, by kernel_rfl, .str (by kernel_rfl)⟩)
theorem tabOk_68 : (tab 68).Ok Try.prog 68 := .okI Try.t68 (.agg #[.int .i64 0, .int .i64 0]) rfl rfl (st := by intro l h; cases h; exact ⟨_, Try.underlying68, by kernel_rfl, (by exact all_some (by kernel_rfl)), by kernel_rfl⟩)
theorem tabOk_69 : (tab 69).Ok Try.prog 69 := .okI Try.t69 (.agg #[.int .i64 0, .int .i64 0]) rfl rfl (st := by intro l h; cases h; exact ⟨_, Try.underlying69, by kernel_rfl, (by exact all_some (by kernel_rfl)), by kernel_rfl⟩)
theorem tabOk_74 : (tab 74).Ok Try.prog 74 := .okI Try.t74 (.map none) rfl rfl (mp := by intro e k h; cases h; exact ⟨9, by kernel_rfl, .str (by kernel_rfl)⟩)
theorem tabOk_75 : (tab 75).Ok Try.prog 75 := .okI Try.t75 (.slice none 0 0) rfl rfl (sl := by intro e z b v h; cases h; exact ⟨by kernel_rfl, Try.t69, by kernel_rfl, by kernel_rfl, by kernel_rfl, by kernel_rfl, by kernel_rfl⟩)
theorem tabOk_97 : (tab 97).Ok Try.prog 97 := .okI Try.t97 (.slice none 0 0) rfl rfl (sl := by intro e z b v h; cases h; exact ⟨by kernel_rfl, Try.t100, by kernel_rfl, by kernel_rfl, by kernel_rfl, by kernel_rfl, by kernel_rfl⟩)
theorem tabOk_99 : (tab 99).Ok Try.prog 99 := .okI Try.t99 (.agg #[.int .i64 0, .int .i64 0, .int .i64 0, .int .i64 0, .slice none 0 0, .slice none 0 0]) rfl rfl (st := by intro l h; cases h; exact ⟨_, Try.underlying99, by kernel_rfl, (by exact all_some (by kernel_rfl)), by kernel_rfl⟩)
theorem tabOk_100 : (tab 100).Ok Try.prog 100 := .okI Try.t100 (.agg #[.int .i64 0, .int .i64 0, .int .i64 0, .int .i64 0, .slice none 0 0, .slice none 0 0]) rfl rfl (st := by intro l h; cases h; exact ⟨_, Try.underlying100, by kernel_rfl, (by exact all_some (by kernel_rfl)), by kernel_rfl⟩)
theorem tabOk_101 : (tab 101).Ok Try.prog 101 := .okI Try.t101 (.agg #[.slice none 0 0]) rfl rfl (st := by intro l h; cases h; exact ⟨_, Try.underlying101, by kernel_rfl, (by exact all_some (by kernel_rfl)), by kernel_rfl⟩)
theorem tabOk_102 : (tab 102).Ok Try.prog 102 := .okI Try.t102 (.agg #[.slice none 0 0]) rfl rfl (st := by intro l h; cases h; exact ⟨_, Try.underlying102, by kernel_rfl, (by exact all_some (by kernel_rfl)), by kernel_rfl⟩)
theorem tabOk_110 : (tab 110).Ok Try.prog 110 := .okI Try.t110 (.map none) rfl rfl (mp := by intro e k h; cases h; exact ⟨3, by kernel_rfl, .int (by kernel_rfl)⟩)
theorem tabOk_111 : (tab 111).Ok Try.prog 111 := .okI Try.t111 (.map none) rfl rfl (mp := by intro e k h; cases h; exact ⟨3, by kernel_rfl, .int (by kernel_rfl)⟩)
theorem tabOk_116 : (tab 116).Ok Try.prog 116 := .okI Try.t116 (.int .u64 0) rfl rfl (int := by intro k h; cases h; kernel_rfl)
theorem tabOk_121 : (tab 121).Ok Try.prog 121 := .okI Try.t121 (.int .i64 0) rfl rfl (int := by intro k h; cases h; kernel_rfl)
theorem tabOk_130 : (tab 130).Ok Try.prog 130 := .okI Try.t130 (.int .u32 0) rfl rfl (int := by intro k h; cases h; kernel_rfl)
theorem tabOk_132 : (tab 132).Ok Try.prog 132 := .okI Try.t132 (.int .u64 0) rfl rfl (int := by intro k h; cases h; kernel_rfl)
theorem tabOk_133 : (tab 133).Ok Try.prog 133 := .okI Try.t133 (.slice none 0 0) rfl rfl (sl := by intro e z b v h; cases h; exact ⟨by kernel_rfl, Try.t58, by kernel_rfl, by kernel_rfl, by kernel_rfl, by kernel_rfl, by kernel_rfl⟩)
theorem tabOk_136 : (tab 136).Ok Try.prog 136 := .okI Try.t136 (.int .u64 0) rfl rfl (int := by intro k h; cases h; kernel_rfl)
theorem tabOk_140 : (tab 140).Ok Try.prog 140 := .okI Try.t140 (.pointer none) rfl rfl (ptr := by intro _; exact ⟨3, by kernel_rfl⟩)
theorem tabOk_145 : (tab 145).Ok Try.prog 145 := .okI Try.t145 (.pointer none) rfl rfl (ptr := by intro _; exact ⟨136, by kernel_rfl⟩)
theorem tabOk_149 : (tab 149).Ok Try.prog 149 := .okI Try.t149 (.agg #[.pointer none, .pointer none, .pointer none, .string ⟨#[]⟩]) rfl rfl (st := by intro l h; cases h; exact ⟨_, Try.underlying149, by kernel_rfl, (by exact all_some (by kernel_rfl)), by kernel_rfl⟩)
theorem tabOk_150 : (tab 150).Ok Try.prog 150 := .okI Try.t150 (.agg #[.pointer none, .pointer none, .pointer none, .string ⟨#[]⟩]) rfl rfl (st := by intro l h; cases h; exact ⟨_, Try.underlying150, by kernel_rfl, (by exact all_some (by kernel_rfl)), by kernel_rfl⟩)
theorem tabOk : Tab.Ok Try.prog tab := fun t => by
  unfold tab
  split
  · exact tabOk_2
  · exact tabOk_3
  · exact tabOk_4
  · exact tabOk_5
  · exact tabOk_6
  · exact tabOk_7
  · exact tabOk_8
  · exact tabOk_9
  · exact tabOk_10
  · exact tabOk_11
  · exact tabOk_12
  · exact tabOk_13
  · exact tabOk_14
  · exact tabOk_15
  · exact tabOk_16
  · exact tabOk_17
  · exact tabOk_18
  · exact tabOk_19
  · exact tabOk_21
  · exact tabOk_22
  · exact tabOk_23
  · exact tabOk_24
  · exact tabOk_25
  · exact tabOk_26
  · exact tabOk_27
  · exact tabOk_28
  · exact tabOk_29
  · exact tabOk_30
  · exact tabOk_31
  · exact tabOk_32
  · exact tabOk_36
  · exact tabOk_41
  · exact tabOk_51
  · exact tabOk_58
  · exact tabOk_67
  · exact tabOk_68
  · exact tabOk_69
  · exact tabOk_74
  · exact tabOk_75
  · exact tabOk_97
  · exact tabOk_99
  · exact tabOk_100
  · exact tabOk_101
  · exact tabOk_102
  · exact tabOk_110
  · exact tabOk_111
  · exact tabOk_116
  · exact tabOk_121
  · exact tabOk_130
  · exact tabOk_132
  · exact tabOk_133
  · exact tabOk_136
  · exact tabOk_140
  · exact tabOk_145
  · exact tabOk_149
  · exact tabOk_150
  · exact .okN
theorem mixedOk : Try.prog.follows .mixedOrders = true := by kernel_rfl
theorem fb {f : FuncId} {fn : Func} {body : Code} {Y : List D} {args : AV} {R : AV → List D → List (Nat × Path) → Prop} (hf : Try.prog.funcs[f]? = some fn) {nt : Nat} (hnt : fn.ntmps = nt) (rs : List ResultVar) {st : St}
    (h : ∀ w0 I0 F0, F0.length = Y.length → VS ⟨Try.prog, nt, w0, I0, F0⟩ [body] (endK Y.length tab rs R) st)
    (hb : fn.body = some body := by rfl) (hname : (fn.name == "runtime.NumGoroutine") = false := by kernel_rfl) (hrs : fn.results.toList = rs := by kernel_rfl)
    (hl : args.isList = true := by rfl) (hlen : args.len ≤ nt := by simp [AV.len]) (hst : ⟨envOf 0 args, Y, [], []⟩ = st := by simp only [envOf]; exact rfl) : Meets Try.prog f Y args R :=
  Meets.of_vs tabOk hf hb hname hnt hrs hl hlen hst h
theorem fbS {f : FuncId} {fn : Func} {body : Code} {Y : List D} {args : AV} {R : AV → List D → List (Nat × Path) → Prop} (hf : Try.prog.funcs[f]? = some fn) {nt : Nat} (hnt : fn.ntmps = nt) (rs : List ResultVar) {st : St}
    (h : ∀ w0 I0 F0, F0.length = Y.length → VS ⟨Try.prog, nt, w0, I0, F0⟩ [body] (endS ⟨Try.prog, nt, w0, I0, F0⟩ tab rs R) st)
    (hb : fn.body = some body := by rfl) (hname : (fn.name == "runtime.NumGoroutine") = false := by kernel_rfl) (hrs : fn.results.toList = rs := by kernel_rfl)
    (hl : args.isList = true := by rfl) (hlen : args.len ≤ nt := by simp [AV.len]) (hst : ⟨envOf 0 args, Y, [], []⟩ = st := by simp only [envOf]; exact rfl) : Meets Try.prog f Y args R :=
  Meets.of_vsS tabOk hf hb hname hnt hrs hl hlen hst h
theorem fbP {f : FuncId} {fn : Func} {body : Code} {Y : List D} {pl : List (Nat × Path × AV)} {args : AV} {R : AV → List D → List (Nat × Path) → Prop} (hf : Try.prog.funcs[f]? = some fn) {nt : Nat} (hnt : fn.ntmps = nt) (rs : List ResultVar) {st : St}
    (h : ∀ w0 I0 F0, F0.length = Y.length → VS ⟨Try.prog, nt, w0, I0, F0⟩ [body] (endK Y.length tab rs R) st)
    (hb : fn.body = some body := by rfl) (hname : (fn.name == "runtime.NumGoroutine") = false := by kernel_rfl) (hrs : fn.results.toList = rs := by kernel_rfl)
    (hl : args.isList = true := by rfl) (hlen : args.len ≤ nt := by simp [AV.len]) (hst : ⟨envOf 0 args, Y, [], pl⟩ = st := by simp only [envOf]; exact rfl) : MeetsP Try.prog f Y pl args R :=
  MeetsP.of_vs tabOk hf hb hname hnt hrs hl hlen hst h
section
variable {nt : Nat} {w0 : World} {I0 : Nat → Prop} {F0 : List G} {l : List Code} {K : Exit → St → Prop} {st : St}
theorem rg (id : Nat) {ops : List Oper} (pre post : List Tmp) (gs : List (Nat × Tmp)) (h : vcOps ⟨Try.prog, nt, w0, I0, F0⟩ tab gs ops 0 (st.keep pre) (VSk ⟨Try.prog, nt, w0, I0, F0⟩ l K post))
    (hd : regOk nt ops gs = true := by kernel_rfl) : VS ⟨Try.prog, nt, w0, I0, F0⟩ (.region id ops.toArray false :: l) K st := VS.rg tabOk id pre post gs h hd
theorem dr (id : Nat) {ops : List Oper} (EM : Nat) (pre post : List Tmp) (gs : List (Nat × Tmp)) (T : List Rw) (p : Plan) (o : OP)
    (h : opsVc ⟨Try.prog, nt, w0, I0, F0⟩ tab gs ops o (st.keep pre) (VSk ⟨Try.prog, nt, w0, I0, F0⟩ l K post))
    (hT : ops.map (rowOf ops.toArray) = T := by kernel_rfl) (hok : drawOk EM nt ops gs T p = true := by kernel_rfl) (ho : opOf EM p = o := by kernel_rfl) : VS ⟨Try.prog, nt, w0, I0, F0⟩ (.region id ops.toArray true :: l) K st := VS.dr tabOk mixedOk id EM pre post gs T p o h hT hok ho
end
end Go.Proofs.Ytbhigdljojlhnaa

/- How lists, things, lineages and maps of orders are laid. -/
namespace Go.Proofs.Ytbhigdljojlhnaa
set_option linter.all false
open Go.Vc Go.Proofs
open Go.Vc.T (keyT)
abbrev avInt (n : Int) : AV := .val (.int .i64 n)
abbrev avBool (b : Bool) : AV := .val (.bool b)
@[simp] theorem dInts_nil : dInts [] = .nil := rfl
theorem freeze_sq (l : List D) : (sq l).freeze = sq (l.map T.freeze) := by
 induction l with
 | nil => rfl
 | cons a l ih => simp [sq, T.freeze, ih]
@[simp] theorem freeze_ints (l : List Int) : (dInts l).freeze = dInts l := by
 rw [dInts, freeze_sq, List.map_map]; rfl
@[simp] theorem dInts_mid_all (l : List Int) : (dInts l).mid 0 l.length = dInts l := sq_mid_all _ _ (by simp)
theorem dInts_mid (l : List Int) (lo n : Nat) : (dInts l).mid lo n = dInts ((l.drop lo).take n) := by simp only [dInts, sq_mid, ← List.map_drop, ← List.map_take]
theorem dInts_app (l m : List Int) : (dInts l).app (dInts m) = dInts (l ++ m) := by simp only [dInts, sq_app, List.map_append]
theorem dInts_set (l : List Int) (i : Nat) (x : Int) : (dInts l).setN i (.val (.int .i64 x)) = dInts (l.set i x) := by simp only [dInts, sq_setN, List.map_set]; rfl
theorem zeros_ints (n : Nat) : (sq (List.replicate n (.val (.int .i64 0))) : D) = dInts (List.replicate n 0) := by simp [dInts, dInt]
def dLs (l : List (List Int)) : D := sq (l.map fun o => .sl false () 1 (dInts o))
@[simp] theorem dLs_len (l : List (List Int)) : (dLs l).len = l.length := by simp [dLs]
@[simp] theorem dLs_nil : dLs [] = .nil := rfl
@[simp] theorem dLs_free (l : List (List Int)) : (dLs l).free = true := sq_free fun x hx => by obtain ⟨n, _, rfl⟩ := List.mem_map.1 hx; simp
theorem dLs_nth {l : List (List Int)} {i : Nat} (h : i < l.length) : (dLs l).nth i = .sl false () 1 (dInts l[i]) := by
 rw [dLs, sq_nth_lt (by simpa using h)]; simp
theorem dLs_set (l : List (List Int)) (i : Nat) (x : List Int) : (dLs l).setN i (.sl false () 1 (dInts x)) = dLs (l.set i x) := by simp only [dLs, sq_setN, List.map_set]
theorem dLs_app (l m : List (List Int)) : (dLs l).app (dLs m) = dLs (l ++ m) := by simp only [dLs, sq_app, List.map_append]
theorem dLs_app1 (l : List (List Int)) (x : List Int) : (dLs l).app (.cons (.sl false () 1 (dInts x)) .nil) = dLs (l ++ [x]) := dLs_app l [x]
theorem dLs_mid (l : List (List Int)) (lo n : Nat) : (dLs l).mid lo n = dLs ((l.drop lo).take n) := by simp only [dLs, sq_mid, ← List.map_drop, ← List.map_take]
@[simp] theorem dLs_mid_all (l : List (List Int)) : (dLs l).mid 0 l.length = dLs l := sq_mid_all _ _ (by simp)
structure Th where
 kind : Int
 sup : Int
 obj : Int
 own : Int
 bef : List Int
 ins : List Int
def dTh (t : Th) : D := .agg (.cons (.val (.int .i64 t.kind)) (.cons (.val (.int .i64 t.sup)) (.cons (.val (.int .i64 t.obj)) (.cons (.val (.int .i64 t.own)) (.cons (.sl false () 1 (dInts t.bef)) (.cons (.sl false () 1 (dInts t.ins)) .nil))))))
def dThs (l : List Th) : D := sq (l.map dTh)
def dL (l : List Th) : D := .box true () (.agg (.cons (.sl true () 6 (dThs l)) .nil))
def avTh (t : Th) : AV := .agg (.cons (avInt t.kind) (.cons (avInt t.sup) (.cons (avInt t.obj) (.cons (avInt t.own) (.cons (.imm 1 (dInts t.bef) false) (.cons (.imm 1 (dInts t.ins) false) .nil))))))
@[simp high] theorem head_dL (l : List Th) : isHead (dL l) = true := by rw [dL, isHead]
@[simp] theorem dThs_len (l : List Th) : (dThs l).len = l.length := by simp [dThs]
@[simp] theorem dThs_free (l : List Th) : (dThs l).free = true := sq_free fun x hx => by obtain ⟨n, _, rfl⟩ := List.mem_map.1 hx; simp [dTh]
theorem dThs_nth {l : List Th} {i : Nat} (h : i < l.length) : (dThs l).nth i = .agg (.cons (.val (.int .i64 l[i].kind)) (.cons (.val (.int .i64 l[i].sup)) (.cons (.val (.int .i64 l[i].obj)) (.cons (.val (.int .i64 l[i].own)) (.cons (.sl false () 1 (dInts l[i].bef)) (.cons (.sl false () 1 (dInts l[i].ins)) .nil)))))) := by
 rw [dThs, sq_nth_lt (by simpa using h)]; simp; rfl
theorem dThs_set (l : List Th) (i : Nat) (t : Th) : (dThs l).setN i (.agg (.cons (.val (.int .i64 t.kind)) (.cons (.val (.int .i64 t.sup)) (.cons (.val (.int .i64 t.obj)) (.cons (.val (.int .i64 t.own)) (.cons (.sl false () 1 (dInts t.bef)) (.cons (.sl false () 1 (dInts t.ins)) .nil))))))) = dThs (l.set i t) := by
 simp only [dThs, sq_setN, List.map_set]; rfl
theorem dThs_push (l : List Th) (t : Th) : (dThs l).app (.cons (.agg (.cons (.val (.int .i64 t.kind)) (.cons (.val (.int .i64 t.sup)) (.cons (.val (.int .i64 t.obj)) (.cons (.val (.int .i64 t.own)) (.cons (.sl false () 1 (dInts t.bef)) (.cons (.sl false () 1 (dInts t.ins)) .nil))))))) .nil) = dThs (l ++ [t]) := by
 simp only [dThs, List.map_append, ← sq_app]; rfl
@[simp] theorem dThs_mid_all (l : List Th) : (dThs l).mid 0 l.length = dThs l := sq_mid_all _ _ (by simp)
def dEn (e : Int × List Int) : D := .agg (.cons (.val (.int .i64 e.1)) (.cons (.sl false () 1 (dInts e.2)) .nil))
def dEns (l : List (Int × List Int)) : D := sq (l.map dEn)
def dM (l : List (Int × List Int)) : D := .map true () (dEns l)
@[simp high] theorem head_dM (l : List (Int × List Int)) : isHead (dM l) = true := by rw [dM, isHead]
@[simp] theorem dEns_nil : dEns [] = .nil := rfl
theorem dEns_cons (e : Int × List Int) (l : List (Int × List Int)) : dEns (e :: l) = .cons (.agg (.cons (.val (.int .i64 e.1)) (.cons (.sl false () 1 (dInts e.2)) .nil))) (dEns l) := rfl
@[simp] theorem dEns_keys (l : List (Int × List Int)) : mkeysOk (.int .i64) (dEns l) = True := by
 refine eq_true ?_
 induction l with
 | nil => trivial
 | cons e l ih => rw [dEns_cons]; exact ⟨⟨.int .i64 e.1, rfl, rfl⟩, ih⟩
theorem keyT_int {α : Type} (k : IntKind) (n : Int) : (keyT (.int k n) : T α) = .val (.int k n) := rfl
theorem keyT_str {α : Type} (s : ByteArray) : (keyT (.string s) : T α) = .val (.string s) := rfl
def got (l : List (Int × List Int)) (k : Int) : Option (List Int) := (l.find? fun e => e.1 = k).map (·.2)
theorem dEns_find (l : List (Int × List Int)) (k : Int) : mfind (.int .i64 k) (dEns l) = (got l k).map fun o => .sl false () 1 (dInts o) := by
 induction l with
 | nil => rfl
 | cons e l ih =>
  rw [dEns_cons]
  unfold mfind
  by_cases h : e.1 = k
  ·rw [if_pos (by rw [h]; rfl)]; simp [got, h]
  ·rw [if_neg (by simpa [keyT_int] using h), ih]; simp [got, h]
end Go.Proofs.Ytbhigdljojlhnaa

/- Where something is in a list: slices.Index and Contains. -/
namespace Go.Proofs.Ytbhigdljojlhnaa
set_option linter.all false
open Go.Vc Go.Proofs
set_option linter.unusedSimpArgs false
set_option maxRecDepth 100000
set_option maxHeartbeats 4000000
attribute [local irreducible] CallW EqK
def ixF {α : Type} (p : α → Bool) (l : List α) : Int := if l.any p then (l.findIdx p : Int) else -1
theorem ixF_hit {α : Type} {p : α → Bool} {l : List α} {i : Nat} (hi : i < l.length) (hall : ∀ j, (h : j < i) → p (l[j]'(by omega)) = false) (hp : p l[i] = true) : ixF p l = i := by
 have h1 : l.any p = true := List.any_eq_true.2 ⟨_, List.getElem_mem hi, hp⟩
 have h2 : l.findIdx p = i := (List.findIdx_eq hi).2 ⟨hp, fun j hj => hall j hj⟩
 rw [ixF, if_pos h1, h2]
theorem ixF_miss {α : Type} {p : α → Bool} {l : List α} (hall : ∀ j, (h : j < l.length) → p l[j] = false) : ixF p l = -1 := by
 have h1 : ¬ l.any p = true := by
  rw [List.any_eq_true]
  rintro ⟨x, hx, hp⟩
  obtain ⟨i, hi, rfl⟩ := List.getElem_of_mem hx
  rw [hall i hi] at hp; cases hp
 rw [ixF, if_neg h1]
theorem ixF_ge {α : Type} {p : α → Bool} {l : List α} : (0 ≤ ixF p l) = (l.any p = true) := by
 unfold ixF
 by_cases h : l.any p = true
 ·rw [if_pos h]; simp [h]
 ·rw [if_neg h]; simp [h]
def hasN (l : List Int) (v : Int) : Bool := l.any fun x => decide (x = v)
theorem hasN_iff {l : List Int} {v : Int} : hasN l v = true ↔ v ∈ l := by simp [hasN]
theorem index_ok (ex : Bool) (l : List Int) (v : Int) (hl : l.length ≤ 100000000) : Meets Try.prog 68 [] (.cons (.imm 1 (dInts l) ex) (.cons (avInt v) .nil))
  fun av X κ => av = avInt (ixF (fun x => decide (x = v)) l) ∧ X = [] ∧ κ = [] := by
 refine fb Try.func68 Try.ntmps68 [.tmp 4] fun w0 I0 F0 hF => ?_
 repeat first|refine n1 ?_|refine n2 ?_|refine n3 ?_|refine n4 ?_|refine n5 ?_|refine n6 ?_|refine n7 ?_|refine n8 ?_|refine n9 ?_|refine n0 ?_|refine ⟨⟨by omega, by omega⟩, ?_⟩|((first|refine rg 0 [0, 1] [0, 1] [] ?_|refine rg 1 [0, 1] [0, 1, 7, 8] [] ?_|refine rg 2 [0, 1, 7, 8] [0, 1, 7, 8, 9] [] ?_|refine rg 3 [0, 1, 7, 8] [0, 1, 5, 7, 8] [] ?_|refine rg 4 [0, 1, 5, 7, 8] [0, 1, 5, 7, 8, 16] [] ?_|refine rg 5 [5] [4] [] ?_|refine rg 6 [0, 1, 7, 8] [0, 1, 7, 8] [] ?_|refine rg 7 [] [4] [] ?_|refine nc ?_);simp (maxSteps := 1000000) [hF])
 refine VS.rounds (fun m st => ∃ (i : Nat), i + m = l.length ∧ (∀ j, (h : j < l.length) → j < i → ¬ l[j] = v) ∧ st = ⟨[(0, .imm 1 (dInts l) ex), (1, avInt v), (7, avInt l.length), (8, avInt i)], [], [], []⟩) ⟨l.length, 0, by omega, by omega, by simp⟩ ?_
 rintro m st ⟨i, hi, hall, rfl⟩
 repeat first|refine n1 ?_|refine n2 ?_|refine n3 ?_|refine n4 ?_|refine n5 ?_|refine n6 ?_|refine n7 ?_|refine n8 ?_|refine n9 ?_|refine n0 ?_|refine ⟨⟨by omega, by omega⟩, ?_⟩|((first|refine rg 0 [0, 1] [0, 1] [] ?_|refine rg 1 [0, 1] [0, 1, 7, 8] [] ?_|refine rg 2 [0, 1, 7, 8] [0, 1, 7, 8, 9] [] ?_|refine rg 3 [0, 1, 7, 8] [0, 1, 5, 7, 8] [] ?_|refine rg 4 [0, 1, 5, 7, 8] [0, 1, 5, 7, 8, 16] [] ?_|refine rg 5 [5] [4] [] ?_|refine rg 6 [0, 1, 7, 8] [0, 1, 7, 8] [] ?_|refine rg 7 [] [4] [] ?_|refine nc ?_);simp (maxSteps := 1000000) [hF])
 refine ⟨fun hlt => ?_, fun hge => ?_⟩
 ·have hi' : i < l.length := by omega
  have hn := dInts_nth hi'
  repeat first|refine n1 ?_|refine n2 ?_|refine n3 ?_|refine n4 ?_|refine n5 ?_|refine n6 ?_|refine n7 ?_|refine n8 ?_|refine n9 ?_|refine n0 ?_|refine ⟨⟨by omega, by omega⟩, ?_⟩|((first|refine rg 0 [0, 1] [0, 1] [] ?_|refine rg 1 [0, 1] [0, 1, 7, 8] [] ?_|refine rg 2 [0, 1, 7, 8] [0, 1, 7, 8, 9] [] ?_|refine rg 3 [0, 1, 7, 8] [0, 1, 5, 7, 8] [] ?_|refine rg 4 [0, 1, 5, 7, 8] [0, 1, 5, 7, 8, 16] [] ?_|refine rg 5 [5] [4] [] ?_|refine rg 6 [0, 1, 7, 8] [0, 1, 7, 8] [] ?_|refine rg 7 [] [4] [] ?_|refine nc ?_);simp (maxSteps := 1000000) [hF, hn, hi'])
  refine ⟨fun he => ?_, fun he => ?_⟩
  ·have hr : ixF (fun x => decide (x = v)) l = i := ixF_hit hi' (fun j h => by simpa using hall j (by omega) h) (by simpa using he.symm)
   repeat first|refine n1 ?_|refine n2 ?_|refine n3 ?_|refine n4 ?_|refine n5 ?_|refine n6 ?_|refine n7 ?_|refine n8 ?_|refine n9 ?_|refine n0 ?_|refine ⟨⟨by omega, by omega⟩, ?_⟩|((first|refine rg 0 [0, 1] [0, 1] [] ?_|refine rg 1 [0, 1] [0, 1, 7, 8] [] ?_|refine rg 2 [0, 1, 7, 8] [0, 1, 7, 8, 9] [] ?_|refine rg 3 [0, 1, 7, 8] [0, 1, 5, 7, 8] [] ?_|refine rg 4 [0, 1, 5, 7, 8] [0, 1, 5, 7, 8, 16] [] ?_|refine rg 5 [5] [4] [] ?_|refine rg 6 [0, 1, 7, 8] [0, 1, 7, 8] [] ?_|refine rg 7 [] [4] [] ?_|refine nc ?_);simp (maxSteps := 1000000) [hF])
   (try refine nr ?_);(repeat first|refine nb_ ?_|refine nl_ ?_);refine endK.o [4] [] [] ?_;simp [hF, retK, covers, mpre, hr]
  ·repeat first|refine n1 ?_|refine n2 ?_|refine n3 ?_|refine n4 ?_|refine n5 ?_|refine n6 ?_|refine n7 ?_|refine n8 ?_|refine n9 ?_|refine n0 ?_|refine ⟨⟨by omega, by omega⟩, ?_⟩|((first|refine rg 0 [0, 1] [0, 1] [] ?_|refine rg 1 [0, 1] [0, 1, 7, 8] [] ?_|refine rg 2 [0, 1, 7, 8] [0, 1, 7, 8, 9] [] ?_|refine rg 3 [0, 1, 7, 8] [0, 1, 5, 7, 8] [] ?_|refine rg 4 [0, 1, 5, 7, 8] [0, 1, 5, 7, 8, 16] [] ?_|refine rg 5 [5] [4] [] ?_|refine rg 6 [0, 1, 7, 8] [0, 1, 7, 8] [] ?_|refine rg 7 [] [4] [] ?_|refine nc ?_);simp (maxSteps := 1000000) [hF])
   refine nextK.of [0, 1, 7, 8] [] (m - 1) (by omega) (by simp [hF]) ?_
   refine ⟨i + 1, by omega, ?_, ?_⟩
   ·intro j hj hji
    rcases Nat.lt_or_ge j i with h' | h'
    ·exact hall j hj h'
    ·obtain rfl : j = i := by omega
     exact fun e => he e.symm
   ·simp
    exact IntWalk.i64_in _ (by omega)
 ·have hr : ixF (fun x => decide (x = v)) l = -1 := ixF_miss (fun j h => by simpa using hall j h (by omega))
  repeat first|refine n1 ?_|refine n2 ?_|refine n3 ?_|refine n4 ?_|refine n5 ?_|refine n6 ?_|refine n7 ?_|refine n8 ?_|refine n9 ?_|refine n0 ?_|refine ⟨⟨by omega, by omega⟩, ?_⟩|((first|refine rg 0 [0, 1] [0, 1] [] ?_|refine rg 1 [0, 1] [0, 1, 7, 8] [] ?_|refine rg 2 [0, 1, 7, 8] [0, 1, 7, 8, 9] [] ?_|refine rg 3 [0, 1, 7, 8] [0, 1, 5, 7, 8] [] ?_|refine rg 4 [0, 1, 5, 7, 8] [0, 1, 5, 7, 8, 16] [] ?_|refine rg 5 [5] [4] [] ?_|refine rg 6 [0, 1, 7, 8] [0, 1, 7, 8] [] ?_|refine rg 7 [] [4] [] ?_|refine nc ?_);simp (maxSteps := 1000000) [hF])
  (try refine nr ?_);(repeat first|refine nb_ ?_|refine nl_ ?_);refine endK.o [4] [] [] ?_;simp [hF, retK, covers, mpre, hr]
theorem contains_ok (ex : Bool) (l : List Int) (v : Int) (hl : l.length ≤ 100000000) : Meets Try.prog 52 [] (.cons (.imm 1 (dInts l) ex) (.cons (avInt v) .nil))
  fun av X κ => av = avBool (hasN l v) ∧ X = [] ∧ κ = [] := by
 refine fb Try.func52 Try.ntmps52 [.tmp 4] fun w0 I0 F0 hF => ?_
 repeat first|refine n1 ?_|refine n2 ?_|refine n3 ?_|refine n4 ?_|refine n5 ?_|refine n6 ?_|refine n7 ?_|refine n8 ?_|refine n9 ?_|refine n0 ?_|refine ⟨⟨by omega, by omega⟩, ?_⟩|((first|refine rg 0 [0, 1] [0, 1] [] ?_|refine rg 1 [0, 1] [4] [] ?_|refine nc ?_);simp (maxSteps := 1000000) [hF])
 refine (index_ok ex l v hl).go [] (by simp (maxSteps := 1000000) [hF]) ?_;rintro av X κ ⟨rfl, rfl, rfl⟩;simp (maxSteps := 1000000) [hF]
 repeat first|refine n1 ?_|refine n2 ?_|refine n3 ?_|refine n4 ?_|refine n5 ?_|refine n6 ?_|refine n7 ?_|refine n8 ?_|refine n9 ?_|refine n0 ?_|refine ⟨⟨by omega, by omega⟩, ?_⟩|((first|refine rg 0 [0, 1] [0, 1] [] ?_|refine rg 1 [0, 1] [4] [] ?_|refine nc ?_);simp (maxSteps := 1000000) [hF])
 have h : decide (0 ≤ ixF (fun x => decide (x = v)) l) = hasN l v := by simp only [ixF_ge, hasN, Bool.decide_eq_true]
 (try refine nr ?_);(repeat first|refine nb_ ?_|refine nl_ ?_);refine endK.o [4] [] [] ?_;simp [hF, retK, covers, mpre, h]
def dBox (x : List Int) : D := .box true () (.sl false () 1 (dInts x))
def dBoxL (l : List (List Int)) : D := .box true () (.sl true () 1 (dLs l))
@[simp high] theorem head_dBox (l : List Int) : isHead (dBox l) = true := by rw [dBox, isHead]
@[simp high] theorem head_dBoxL (l : List (List Int)) : isHead (dBoxL l) = true := by rw [dBoxL, isHead]
theorem indexFunc_1 (ex : Bool) (ls : List (List Int)) (hl : ls.length ≤ 100000000) (p : List Int → Bool)
  (hg : ∀ i, (h : i < ls.length) → Meets Try.prog 96 [] (.cons (.imm 1 (dInts ls[i]) false) .nil) fun av X κ => av = avBool (p ls[i]) ∧ X = [] ∧ κ = []) :
  Meets Try.prog 97 [.sl true () 1 (dLs ls)] (.cons (.sub 0 [] 0 ls.length ex) (.cons (.fn 96 .nil) .nil))
  fun av X κ => av = avInt (ixF p ls) ∧ X = [.sl true () 1 (dLs ls)] ∧ κ = [] := by
 refine fb Try.func97 Try.ntmps97 [.tmp 4] fun w0 I0 F0 hF => ?_
 repeat first|refine n1 ?_|refine n2 ?_|refine n3 ?_|refine n4 ?_|refine n5 ?_|refine n6 ?_|refine n7 ?_|refine n8 ?_|refine n9 ?_|refine n0 ?_|refine ⟨⟨by omega, by omega⟩, ?_⟩|((first|refine rg 0 [0, 1] [0, 1] [] ?_|refine rg 1 [0, 1] [0, 1, 7, 8] [] ?_|refine rg 2 [0, 1, 7, 8] [0, 1, 7, 8, 9] [] ?_|refine rg 3 [0, 1, 7, 8] [0, 1, 5, 7, 8] [] ?_|refine rg 4 [0, 1, 5, 7, 8] [0, 1, 5, 7, 8, 16] [] ?_|refine rg 5 [5] [4] [] ?_|refine rg 6 [0, 1, 7, 8] [0, 1, 7, 8] [] ?_|refine rg 7 [] [4] [] ?_|refine nc ?_);simp (maxSteps := 1000000) [hF])
 refine VS.rounds (fun m st => ∃ (i : Nat), i + m = ls.length ∧ (∀ j, (h : j < ls.length) → j < i → p ls[j] = false) ∧ st = ⟨[(0, .sub 0 [] 0 ls.length ex), (1, .fn 96 .nil), (7, avInt ls.length), (8, avInt i)], [.sl true () 1 (dLs ls)], [], []⟩) ⟨ls.length, 0, by omega, by omega, by simp ⟩ ?_
 rintro m st ⟨i, hi, hall, rfl⟩
 repeat first|refine n1 ?_|refine n2 ?_|refine n3 ?_|refine n4 ?_|refine n5 ?_|refine n6 ?_|refine n7 ?_|refine n8 ?_|refine n9 ?_|refine n0 ?_|refine ⟨⟨by omega, by omega⟩, ?_⟩|((first|refine rg 0 [0, 1] [0, 1] [] ?_|refine rg 1 [0, 1] [0, 1, 7, 8] [] ?_|refine rg 2 [0, 1, 7, 8] [0, 1, 7, 8, 9] [] ?_|refine rg 3 [0, 1, 7, 8] [0, 1, 5, 7, 8] [] ?_|refine rg 4 [0, 1, 5, 7, 8] [0, 1, 5, 7, 8, 16] [] ?_|refine rg 5 [5] [4] [] ?_|refine rg 6 [0, 1, 7, 8] [0, 1, 7, 8] [] ?_|refine rg 7 [] [4] [] ?_|refine nc ?_);simp (maxSteps := 1000000) [hF])
 refine ⟨fun hlt => ?_, fun hge => ?_⟩
 ·have hi' : i < ls.length := by omega
  have hn := dLs_nth hi'
  repeat first|refine n1 ?_|refine n2 ?_|refine n3 ?_|refine n4 ?_|refine n5 ?_|refine n6 ?_|refine n7 ?_|refine n8 ?_|refine n9 ?_|refine n0 ?_|refine ⟨⟨by omega, by omega⟩, ?_⟩|((first|refine rg 0 [0, 1] [0, 1] [] ?_|refine rg 1 [0, 1] [0, 1, 7, 8] [] ?_|refine rg 2 [0, 1, 7, 8] [0, 1, 7, 8, 9] [] ?_|refine rg 3 [0, 1, 7, 8] [0, 1, 5, 7, 8] [] ?_|refine rg 4 [0, 1, 5, 7, 8] [0, 1, 5, 7, 8, 16] [] ?_|refine rg 5 [5] [4] [] ?_|refine rg 6 [0, 1, 7, 8] [0, 1, 7, 8] [] ?_|refine rg 7 [] [4] [] ?_|refine nc ?_);simp (maxSteps := 1000000) [hF, hn, hi'])
  refine (hg i hi').go [] (by simp (maxSteps := 1000000) [hF]) ?_;rintro av X κ ⟨rfl, rfl, rfl⟩;simp (maxSteps := 1000000) [hF]
  cases hp : p ls[i] with
  | true =>
   have hr : ixF p ls = i := ixF_hit hi' (fun j h => hall j (by omega) h) hp
   repeat first|refine n1 ?_|refine n2 ?_|refine n3 ?_|refine n4 ?_|refine n5 ?_|refine n6 ?_|refine n7 ?_|refine n8 ?_|refine n9 ?_|refine n0 ?_|refine ⟨⟨by omega, by omega⟩, ?_⟩|((first|refine rg 0 [0, 1] [0, 1] [] ?_|refine rg 1 [0, 1] [0, 1, 7, 8] [] ?_|refine rg 2 [0, 1, 7, 8] [0, 1, 7, 8, 9] [] ?_|refine rg 3 [0, 1, 7, 8] [0, 1, 5, 7, 8] [] ?_|refine rg 4 [0, 1, 5, 7, 8] [0, 1, 5, 7, 8, 16] [] ?_|refine rg 5 [5] [4] [] ?_|refine rg 6 [0, 1, 7, 8] [0, 1, 7, 8] [] ?_|refine rg 7 [] [4] [] ?_|refine nc ?_);simp (maxSteps := 1000000) [hF, hp])
   (try refine nr ?_);(repeat first|refine nb_ ?_|refine nl_ ?_);refine endK.o [4] [0] [] ?_;simp [hF, retK, covers, mpre, hr]
  | false =>
   repeat first|refine n1 ?_|refine n2 ?_|refine n3 ?_|refine n4 ?_|refine n5 ?_|refine n6 ?_|refine n7 ?_|refine n8 ?_|refine n9 ?_|refine n0 ?_|refine ⟨⟨by omega, by omega⟩, ?_⟩|((first|refine rg 0 [0, 1] [0, 1] [] ?_|refine rg 1 [0, 1] [0, 1, 7, 8] [] ?_|refine rg 2 [0, 1, 7, 8] [0, 1, 7, 8, 9] [] ?_|refine rg 3 [0, 1, 7, 8] [0, 1, 5, 7, 8] [] ?_|refine rg 4 [0, 1, 5, 7, 8] [0, 1, 5, 7, 8, 16] [] ?_|refine rg 5 [5] [4] [] ?_|refine rg 6 [0, 1, 7, 8] [0, 1, 7, 8] [] ?_|refine rg 7 [] [4] [] ?_|refine nc ?_);simp (maxSteps := 1000000) [hF, hp])
   refine nextK.of [0, 1, 7, 8] [0] (m - 1) (by omega) (by simp [hF]) ?_
   refine ⟨i + 1, by omega, ?_, ?_⟩
   ·intro j hj hji
    rcases Nat.lt_or_ge j i with h' | h'
    ·exact hall j hj h'
    ·obtain rfl : j = i := by omega
     exact hp
   ·simp 
    exact IntWalk.i64_in _ (by omega)
 ·have hr : ixF p ls = -1 := ixF_miss (fun j h => hall j h (by omega))
  repeat first|refine n1 ?_|refine n2 ?_|refine n3 ?_|refine n4 ?_|refine n5 ?_|refine n6 ?_|refine n7 ?_|refine n8 ?_|refine n9 ?_|refine n0 ?_|refine ⟨⟨by omega, by omega⟩, ?_⟩|((first|refine rg 0 [0, 1] [0, 1] [] ?_|refine rg 1 [0, 1] [0, 1, 7, 8] [] ?_|refine rg 2 [0, 1, 7, 8] [0, 1, 7, 8, 9] [] ?_|refine rg 3 [0, 1, 7, 8] [0, 1, 5, 7, 8] [] ?_|refine rg 4 [0, 1, 5, 7, 8] [0, 1, 5, 7, 8, 16] [] ?_|refine rg 5 [5] [4] [] ?_|refine rg 6 [0, 1, 7, 8] [0, 1, 7, 8] [] ?_|refine rg 7 [] [4] [] ?_|refine nc ?_);simp (maxSteps := 1000000) [hF])
  (try refine nr ?_);(repeat first|refine nb_ ?_|refine nl_ ?_);refine endK.o [4] [0] [] ?_;simp [hF, retK, covers, mpre, hr]
theorem indexFunc_2 (ex : Bool) (ls : List (List Int)) (hl : ls.length ≤ 100000000) (p : List Int → Bool)
  (hg : ∀ i, (h : i < ls.length) → Meets Try.prog 98 [dBoxL ls] (.cons (.imm 1 (dInts ls[i]) false) (.cons (.ptr 0 [.d]) .nil)) fun av X κ => av = avBool (p ls[i]) ∧ X = [dBoxL ls] ∧ κ = []) :
  Meets Try.prog 97 [dBoxL ls] (.cons (.sub 0 [.d] 0 ls.length ex) (.cons (.fn 98 (.cons (.ptr 0 [.d]) .nil)) .nil))
  fun av X κ => av = avInt (ixF p ls) ∧ X = [dBoxL ls] ∧ κ = [] := by
 refine fb Try.func97 Try.ntmps97 [.tmp 4] fun w0 I0 F0 hF => ?_
 repeat first|refine n1 ?_|refine n2 ?_|refine n3 ?_|refine n4 ?_|refine n5 ?_|refine n6 ?_|refine n7 ?_|refine n8 ?_|refine n9 ?_|refine n0 ?_|refine ⟨⟨by omega, by omega⟩, ?_⟩|((first|refine rg 0 [0, 1] [0, 1] [] ?_|refine rg 1 [0, 1] [0, 1, 7, 8] [] ?_|refine rg 2 [0, 1, 7, 8] [0, 1, 7, 8, 9] [] ?_|refine rg 3 [0, 1, 7, 8] [0, 1, 5, 7, 8] [] ?_|refine rg 4 [0, 1, 5, 7, 8] [0, 1, 5, 7, 8, 16] [] ?_|refine rg 5 [5] [4] [] ?_|refine rg 6 [0, 1, 7, 8] [0, 1, 7, 8] [] ?_|refine rg 7 [] [4] [] ?_|refine nc ?_);simp (maxSteps := 1000000) [hF, dBoxL])
 refine VS.rounds (fun m st => ∃ (i : Nat), i + m = ls.length ∧ (∀ j, (h : j < ls.length) → j < i → p ls[j] = false) ∧ st = ⟨[(0, .sub 0 [.d] 0 ls.length ex), (1, .fn 98 (.cons (.ptr 0 [.d]) .nil)), (7, avInt ls.length), (8, avInt i)], [dBoxL ls], [], []⟩) ⟨ls.length, 0, by omega, by omega, by simp [dBoxL]⟩ ?_
 rintro m st ⟨i, hi, hall, rfl⟩
 repeat first|refine n1 ?_|refine n2 ?_|refine n3 ?_|refine n4 ?_|refine n5 ?_|refine n6 ?_|refine n7 ?_|refine n8 ?_|refine n9 ?_|refine n0 ?_|refine ⟨⟨by omega, by omega⟩, ?_⟩|((first|refine rg 0 [0, 1] [0, 1] [] ?_|refine rg 1 [0, 1] [0, 1, 7, 8] [] ?_|refine rg 2 [0, 1, 7, 8] [0, 1, 7, 8, 9] [] ?_|refine rg 3 [0, 1, 7, 8] [0, 1, 5, 7, 8] [] ?_|refine rg 4 [0, 1, 5, 7, 8] [0, 1, 5, 7, 8, 16] [] ?_|refine rg 5 [5] [4] [] ?_|refine rg 6 [0, 1, 7, 8] [0, 1, 7, 8] [] ?_|refine rg 7 [] [4] [] ?_|refine nc ?_);simp (maxSteps := 1000000) [hF, dBoxL])
 refine ⟨fun hlt => ?_, fun hge => ?_⟩
 ·have hi' : i < ls.length := by omega
  have hn := dLs_nth hi'
  repeat first|refine n1 ?_|refine n2 ?_|refine n3 ?_|refine n4 ?_|refine n5 ?_|refine n6 ?_|refine n7 ?_|refine n8 ?_|refine n9 ?_|refine n0 ?_|refine ⟨⟨by omega, by omega⟩, ?_⟩|((first|refine rg 0 [0, 1] [0, 1] [] ?_|refine rg 1 [0, 1] [0, 1, 7, 8] [] ?_|refine rg 2 [0, 1, 7, 8] [0, 1, 7, 8, 9] [] ?_|refine rg 3 [0, 1, 7, 8] [0, 1, 5, 7, 8] [] ?_|refine rg 4 [0, 1, 5, 7, 8] [0, 1, 5, 7, 8, 16] [] ?_|refine rg 5 [5] [4] [] ?_|refine rg 6 [0, 1, 7, 8] [0, 1, 7, 8] [] ?_|refine rg 7 [] [4] [] ?_|refine nc ?_);simp (maxSteps := 1000000) [hF, dBoxL, hn, hi'])
  refine (hg i hi').go [(0, [])] (by simp (maxSteps := 1000000) [hF, dBoxL]) ?_;rintro av X κ ⟨rfl, rfl, rfl⟩;simp (maxSteps := 1000000) [hF, dBoxL]
  cases hp : p ls[i] with
  | true =>
   have hr : ixF p ls = i := ixF_hit hi' (fun j h => hall j (by omega) h) hp
   repeat first|refine n1 ?_|refine n2 ?_|refine n3 ?_|refine n4 ?_|refine n5 ?_|refine n6 ?_|refine n7 ?_|refine n8 ?_|refine n9 ?_|refine n0 ?_|refine ⟨⟨by omega, by omega⟩, ?_⟩|((first|refine rg 0 [0, 1] [0, 1] [] ?_|refine rg 1 [0, 1] [0, 1, 7, 8] [] ?_|refine rg 2 [0, 1, 7, 8] [0, 1, 7, 8, 9] [] ?_|refine rg 3 [0, 1, 7, 8] [0, 1, 5, 7, 8] [] ?_|refine rg 4 [0, 1, 5, 7, 8] [0, 1, 5, 7, 8, 16] [] ?_|refine rg 5 [5] [4] [] ?_|refine rg 6 [0, 1, 7, 8] [0, 1, 7, 8] [] ?_|refine rg 7 [] [4] [] ?_|refine nc ?_);simp (maxSteps := 1000000) [hF, hp])
   (try refine nr ?_);(repeat first|refine nb_ ?_|refine nl_ ?_);refine endK.o [4] [0] [] ?_;simp [hF, retK, covers, mpre, dBoxL, hr]
  | false =>
   repeat first|refine n1 ?_|refine n2 ?_|refine n3 ?_|refine n4 ?_|refine n5 ?_|refine n6 ?_|refine n7 ?_|refine n8 ?_|refine n9 ?_|refine n0 ?_|refine ⟨⟨by omega, by omega⟩, ?_⟩|((first|refine rg 0 [0, 1] [0, 1] [] ?_|refine rg 1 [0, 1] [0, 1, 7, 8] [] ?_|refine rg 2 [0, 1, 7, 8] [0, 1, 7, 8, 9] [] ?_|refine rg 3 [0, 1, 7, 8] [0, 1, 5, 7, 8] [] ?_|refine rg 4 [0, 1, 5, 7, 8] [0, 1, 5, 7, 8, 16] [] ?_|refine rg 5 [5] [4] [] ?_|refine rg 6 [0, 1, 7, 8] [0, 1, 7, 8] [] ?_|refine rg 7 [] [4] [] ?_|refine nc ?_);simp (maxSteps := 1000000) [hF, hp])
   refine nextK.of [0, 1, 7, 8] [0] (m - 1) (by omega) (by simp [hF]) ?_
   refine ⟨i + 1, by omega, ?_, ?_⟩
   ·intro j hj hji
    rcases Nat.lt_or_ge j i with h' | h'
    ·exact hall j hj h'
    ·obtain rfl : j = i := by omega
     exact hp
   ·simp [dBoxL]
    exact IntWalk.i64_in _ (by omega)
 ·have hr : ixF p ls = -1 := ixF_miss (fun j h => hall j h (by omega))
  repeat first|refine n1 ?_|refine n2 ?_|refine n3 ?_|refine n4 ?_|refine n5 ?_|refine n6 ?_|refine n7 ?_|refine n8 ?_|refine n9 ?_|refine n0 ?_|refine ⟨⟨by omega, by omega⟩, ?_⟩|((first|refine rg 0 [0, 1] [0, 1] [] ?_|refine rg 1 [0, 1] [0, 1, 7, 8] [] ?_|refine rg 2 [0, 1, 7, 8] [0, 1, 7, 8, 9] [] ?_|refine rg 3 [0, 1, 7, 8] [0, 1, 5, 7, 8] [] ?_|refine rg 4 [0, 1, 5, 7, 8] [0, 1, 5, 7, 8, 16] [] ?_|refine rg 5 [5] [4] [] ?_|refine rg 6 [0, 1, 7, 8] [0, 1, 7, 8] [] ?_|refine rg 7 [] [4] [] ?_|refine nc ?_);simp (maxSteps := 1000000) [hF])
  (try refine nr ?_);(repeat first|refine nb_ ?_|refine nl_ ?_);refine endK.o [4] [0] [] ?_;simp [hF, retK, covers, mpre, dBoxL, hr]
theorem indexFunc_3 (ex : Bool) (ls : List (List Int)) (x : List Int) (hl : ls.length ≤ 100000000) (p : List Int → Bool)
  (hg : ∀ i, (h : i < ls.length) → Meets Try.prog 100 [dBox x] (.cons (.imm 1 (dInts ls[i]) false) (.cons (.ptr 0 [.d]) .nil)) fun av X κ => av = avBool (p ls[i]) ∧ X = [dBox x] ∧ κ = []) :
  Meets Try.prog 97 [dBoxL ls, dBox x] (.cons (.sub 0 [.d] 0 ls.length ex) (.cons (.fn 100 (.cons (.ptr 1 [.d]) .nil)) .nil))
  fun av X κ => av = avInt (ixF p ls) ∧ X = [dBoxL ls, dBox x] ∧ κ = [] := by
 refine fb Try.func97 Try.ntmps97 [.tmp 4] fun w0 I0 F0 hF => ?_
 repeat first|refine n1 ?_|refine n2 ?_|refine n3 ?_|refine n4 ?_|refine n5 ?_|refine n6 ?_|refine n7 ?_|refine n8 ?_|refine n9 ?_|refine n0 ?_|refine ⟨⟨by omega, by omega⟩, ?_⟩|((first|refine rg 0 [0, 1] [0, 1] [] ?_|refine rg 1 [0, 1] [0, 1, 7, 8] [] ?_|refine rg 2 [0, 1, 7, 8] [0, 1, 7, 8, 9] [] ?_|refine rg 3 [0, 1, 7, 8] [0, 1, 5, 7, 8] [] ?_|refine rg 4 [0, 1, 5, 7, 8] [0, 1, 5, 7, 8, 16] [] ?_|refine rg 5 [5] [4] [] ?_|refine rg 6 [0, 1, 7, 8] [0, 1, 7, 8] [] ?_|refine rg 7 [] [4] [] ?_|refine nc ?_);simp (maxSteps := 1000000) [hF, dBoxL, dBox])
 refine VS.rounds (fun m st => ∃ (i : Nat), i + m = ls.length ∧ (∀ j, (h : j < ls.length) → j < i → p ls[j] = false) ∧ st = ⟨[(0, .sub 0 [.d] 0 ls.length ex), (1, .fn 100 (.cons (.ptr 1 [.d]) .nil)), (7, avInt ls.length), (8, avInt i)], [dBoxL ls, dBox x], [], []⟩) ⟨ls.length, 0, by omega, by omega, by simp [dBoxL, dBox]⟩ ?_
 rintro m st ⟨i, hi, hall, rfl⟩
 repeat first|refine n1 ?_|refine n2 ?_|refine n3 ?_|refine n4 ?_|refine n5 ?_|refine n6 ?_|refine n7 ?_|refine n8 ?_|refine n9 ?_|refine n0 ?_|refine ⟨⟨by omega, by omega⟩, ?_⟩|((first|refine rg 0 [0, 1] [0, 1] [] ?_|refine rg 1 [0, 1] [0, 1, 7, 8] [] ?_|refine rg 2 [0, 1, 7, 8] [0, 1, 7, 8, 9] [] ?_|refine rg 3 [0, 1, 7, 8] [0, 1, 5, 7, 8] [] ?_|refine rg 4 [0, 1, 5, 7, 8] [0, 1, 5, 7, 8, 16] [] ?_|refine rg 5 [5] [4] [] ?_|refine rg 6 [0, 1, 7, 8] [0, 1, 7, 8] [] ?_|refine rg 7 [] [4] [] ?_|refine nc ?_);simp (maxSteps := 1000000) [hF, dBoxL, dBox])
 refine ⟨fun hlt => ?_, fun hge => ?_⟩
 ·have hi' : i < ls.length := by omega
  have hn := dLs_nth hi'
  repeat first|refine n1 ?_|refine n2 ?_|refine n3 ?_|refine n4 ?_|refine n5 ?_|refine n6 ?_|refine n7 ?_|refine n8 ?_|refine n9 ?_|refine n0 ?_|refine ⟨⟨by omega, by omega⟩, ?_⟩|((first|refine rg 0 [0, 1] [0, 1] [] ?_|refine rg 1 [0, 1] [0, 1, 7, 8] [] ?_|refine rg 2 [0, 1, 7, 8] [0, 1, 7, 8, 9] [] ?_|refine rg 3 [0, 1, 7, 8] [0, 1, 5, 7, 8] [] ?_|refine rg 4 [0, 1, 5, 7, 8] [0, 1, 5, 7, 8, 16] [] ?_|refine rg 5 [5] [4] [] ?_|refine rg 6 [0, 1, 7, 8] [0, 1, 7, 8] [] ?_|refine rg 7 [] [4] [] ?_|refine nc ?_);simp (maxSteps := 1000000) [hF, dBoxL, dBox, hn, hi'])
  refine (hg i hi').go [(1, [])] (by simp (maxSteps := 1000000) [hF, dBoxL, dBox]) ?_;rintro av X κ ⟨rfl, rfl, rfl⟩;simp (maxSteps := 1000000) [hF, dBoxL, dBox]
  cases hp : p ls[i] with
  | true =>
   have hr : ixF p ls = i := ixF_hit hi' (fun j h => hall j (by omega) h) hp
   repeat first|refine n1 ?_|refine n2 ?_|refine n3 ?_|refine n4 ?_|refine n5 ?_|refine n6 ?_|refine n7 ?_|refine n8 ?_|refine n9 ?_|refine n0 ?_|refine ⟨⟨by omega, by omega⟩, ?_⟩|((first|refine rg 0 [0, 1] [0, 1] [] ?_|refine rg 1 [0, 1] [0, 1, 7, 8] [] ?_|refine rg 2 [0, 1, 7, 8] [0, 1, 7, 8, 9] [] ?_|refine rg 3 [0, 1, 7, 8] [0, 1, 5, 7, 8] [] ?_|refine rg 4 [0, 1, 5, 7, 8] [0, 1, 5, 7, 8, 16] [] ?_|refine rg 5 [5] [4] [] ?_|refine rg 6 [0, 1, 7, 8] [0, 1, 7, 8] [] ?_|refine rg 7 [] [4] [] ?_|refine nc ?_);simp (maxSteps := 1000000) [hF, hp])
   (try refine nr ?_);(repeat first|refine nb_ ?_|refine nl_ ?_);refine endK.o [4] [0, 1] [] ?_;simp [hF, retK, covers, mpre, dBoxL, dBox, hr]
  | false =>
   repeat first|refine n1 ?_|refine n2 ?_|refine n3 ?_|refine n4 ?_|refine n5 ?_|refine n6 ?_|refine n7 ?_|refine n8 ?_|refine n9 ?_|refine n0 ?_|refine ⟨⟨by omega, by omega⟩, ?_⟩|((first|refine rg 0 [0, 1] [0, 1] [] ?_|refine rg 1 [0, 1] [0, 1, 7, 8] [] ?_|refine rg 2 [0, 1, 7, 8] [0, 1, 7, 8, 9] [] ?_|refine rg 3 [0, 1, 7, 8] [0, 1, 5, 7, 8] [] ?_|refine rg 4 [0, 1, 5, 7, 8] [0, 1, 5, 7, 8, 16] [] ?_|refine rg 5 [5] [4] [] ?_|refine rg 6 [0, 1, 7, 8] [0, 1, 7, 8] [] ?_|refine rg 7 [] [4] [] ?_|refine nc ?_);simp (maxSteps := 1000000) [hF, hp])
   refine nextK.of [0, 1, 7, 8] [0, 1] (m - 1) (by omega) (by simp [hF]) ?_
   refine ⟨i + 1, by omega, ?_, ?_⟩
   ·intro j hj hji
    rcases Nat.lt_or_ge j i with h' | h'
    ·exact hall j hj h'
    ·obtain rfl : j = i := by omega
     exact hp
   ·simp [dBoxL, dBox]
    exact IntWalk.i64_in _ (by omega)
 ·have hr : ixF p ls = -1 := ixF_miss (fun j h => hall j h (by omega))
  repeat first|refine n1 ?_|refine n2 ?_|refine n3 ?_|refine n4 ?_|refine n5 ?_|refine n6 ?_|refine n7 ?_|refine n8 ?_|refine n9 ?_|refine n0 ?_|refine ⟨⟨by omega, by omega⟩, ?_⟩|((first|refine rg 0 [0, 1] [0, 1] [] ?_|refine rg 1 [0, 1] [0, 1, 7, 8] [] ?_|refine rg 2 [0, 1, 7, 8] [0, 1, 7, 8, 9] [] ?_|refine rg 3 [0, 1, 7, 8] [0, 1, 5, 7, 8] [] ?_|refine rg 4 [0, 1, 5, 7, 8] [0, 1, 5, 7, 8, 16] [] ?_|refine rg 5 [5] [4] [] ?_|refine rg 6 [0, 1, 7, 8] [0, 1, 7, 8] [] ?_|refine rg 7 [] [4] [] ?_|refine nc ?_);simp (maxSteps := 1000000) [hF])
  (try refine nr ?_);(repeat first|refine nb_ ?_|refine nl_ ?_);refine endK.o [4] [0, 1] [] ?_;simp [hF, retK, covers, mpre, dBoxL, dBox, hr]
theorem dInts_tail (y : List Int) : (dInts y).mid 1 (y.length - 1) = dInts y.tail := by
 rw [dInts_mid, List.take_of_length_le (by simp), List.drop_one]
def nul (x : List Int) : Bool := decide (x.length = 0)
theorem m1_ok (ex : Bool) (x : List Int) : Meets Try.prog 96 [] (.cons (.imm 1 (dInts x) ex) .nil) fun av X κ => av = avBool (nul x) ∧ X = [] ∧ κ = [] := by
 refine fb Try.func96 Try.ntmps96 [.tmp 2] fun w0 I0 F0 hF => ?_
 repeat first|refine n1 ?_|refine n2 ?_|refine n3 ?_|refine n4 ?_|refine n5 ?_|refine n6 ?_|refine n7 ?_|refine n8 ?_|refine n9 ?_|refine n0 ?_|refine ⟨⟨by omega, by omega⟩, ?_⟩|((first|refine rg 0 [0] [0] [] ?_|refine rg 1 [0] [2] [] ?_|refine nc ?_);simp (maxSteps := 1000000) [hF])
 (try refine nr ?_);(repeat first|refine nb_ ?_|refine nl_ ?_);refine endK.o [2] [] [] ?_;simp [hF, retK, covers, mpre, nul]
theorem m21_ok (ex : Bool) (y x : List Int) (hy : 0 < y.length) (hy2 : y.length ≤ 100000000) (hx : 0 < x.length) : Meets Try.prog 100 [dBox x] (.cons (.imm 1 (dInts y) ex) (.cons (.ptr 0 [.d]) .nil))
  fun av X κ => av = avBool (hasN y.tail x[0]) ∧ X = [dBox x] ∧ κ = [] := by
 have hn := dInts_nth hx
 have h1 : 1 ≤ y.length := hy
 have h2 : (1 : Int) ≤ y.length := by omega
 refine fb Try.func100 Try.ntmps100 [.tmp 3] fun w0 I0 F0 hF => ?_
 repeat first|refine n1 ?_|refine n2 ?_|refine n3 ?_|refine n4 ?_|refine n5 ?_|refine n6 ?_|refine n7 ?_|refine n8 ?_|refine n9 ?_|refine n0 ?_|refine ⟨⟨by omega, by omega⟩, ?_⟩|((first|refine rg 0 [0, 1] [0, 1] [] ?_|(refine dr 1 0 [0, 1] [3] [] [⟨0, 1, 16, 5⟩, ⟨1, 16, 32, 5⟩, ⟨0, 2, 64, 6⟩, ⟨4, 64, 128, 5⟩, ⟨8, 128, 256, 6⟩, ⟨18, 288, 512, 0⟩, ⟨63, 512, 8, 5⟩] (.take 0 (.take 1 (.take 2 (.take 3 (.take 4 (.fork (.alt 5 (.take 6 (.done)) (.nil)))))))) (.run [0, 1, 2, 3, 4, 5, 6] (.done)) ?_;simp only [drs])|refine nc ?_);simp (maxSteps := 1000000) [hF, dBox, hn, hx, h1, h2, dInts_tail])
 refine (contains_ok ex y.tail x[0] (by simp; omega)).go [] (by simp (maxSteps := 1000000) [hF]) ?_;rintro av X κ ⟨rfl, rfl, rfl⟩;simp (maxSteps := 1000000) [hF]
 repeat first|refine n1 ?_|refine n2 ?_|refine n3 ?_|refine n4 ?_|refine n5 ?_|refine n6 ?_|refine n7 ?_|refine n8 ?_|refine n9 ?_|refine n0 ?_|refine ⟨⟨by omega, by omega⟩, ?_⟩|((first|refine rg 0 [0, 1] [0, 1] [] ?_|(refine dr 1 0 [0, 1] [3] [] [⟨0, 1, 16, 5⟩, ⟨1, 16, 32, 5⟩, ⟨0, 2, 64, 6⟩, ⟨4, 64, 128, 5⟩, ⟨8, 128, 256, 6⟩, ⟨18, 288, 512, 0⟩, ⟨63, 512, 8, 5⟩] (.take 0 (.take 1 (.take 2 (.take 3 (.take 4 (.fork (.alt 5 (.take 6 (.done)) (.nil)))))))) (.run [0, 1, 2, 3, 4, 5, 6] (.done)) ?_;simp only [drs])|refine nc ?_);simp (maxSteps := 1000000) [hF])
 (try refine nr ?_);(repeat first|refine nb_ ?_|refine nl_ ?_);refine endK.o [3] [0] [] ?_;simp [hF, retK, covers, mpre, dBox]
def inTails (ls : List (List Int)) (v : Int) : Bool := ls.any fun y => hasN y.tail v
theorem containsFunc_ok (ex : Bool) (ls : List (List Int)) (x : List Int) (hl : ls.length ≤ 100000000) (hne : ∀ y ∈ ls, 0 < y.length) (hle : ∀ y ∈ ls, y.length ≤ 100000000) (hx : 0 < x.length) :
  Meets Try.prog 99 [dBoxL ls, dBox x] (.cons (.sub 0 [.d] 0 ls.length ex) (.cons (.fn 100 (.cons (.ptr 1 [.d]) .nil)) .nil))
  fun av X κ => av = avBool (inTails ls x[0]) ∧ X = [dBoxL ls, dBox x] ∧ κ = [] := by
 refine fb Try.func99 Try.ntmps99 [.tmp 4] fun w0 I0 F0 hF => ?_
 repeat first|refine n1 ?_|refine n2 ?_|refine n3 ?_|refine n4 ?_|refine n5 ?_|refine n6 ?_|refine n7 ?_|refine n8 ?_|refine n9 ?_|refine n0 ?_|refine ⟨⟨by omega, by omega⟩, ?_⟩|((first|refine rg 0 [0, 1] [0, 1] [] ?_|refine rg 1 [0, 1] [4] [] ?_|refine nc ?_);simp (maxSteps := 1000000) [hF])
 refine (indexFunc_3 ex ls x hl (fun y => hasN y.tail x[0]) (fun i h => m21_ok false ls[i] x (hne _ (List.getElem_mem h)) (hle _ (List.getElem_mem h)) hx)).go [(0, []), (1, [])] (by simp (maxSteps := 1000000) [hF, dBoxL, dBox]) ?_;rintro av X κ ⟨rfl, rfl, rfl⟩;simp (maxSteps := 1000000) [hF, dBoxL, dBox]
 repeat first|refine n1 ?_|refine n2 ?_|refine n3 ?_|refine n4 ?_|refine n5 ?_|refine n6 ?_|refine n7 ?_|refine n8 ?_|refine n9 ?_|refine n0 ?_|refine ⟨⟨by omega, by omega⟩, ?_⟩|((first|refine rg 0 [0, 1] [0, 1] [] ?_|refine rg 1 [0, 1] [4] [] ?_|refine nc ?_);simp (maxSteps := 1000000) [hF])
 have h : decide ((0 : Int) ≤ ixF (fun y => hasN y.tail x[0]) ls) = inTails ls x[0] := by simp only [ixF_ge, inTails, Bool.decide_eq_true]
 (try refine nr ?_);(repeat first|refine nb_ ?_|refine nl_ ?_);refine endK.o [4] [0, 1] [] ?_;simp [hF, retK, covers, mpre, h, dBoxL, dBox]
theorem m2_ok (ex : Bool) (ls : List (List Int)) (x : List Int) (hl : ls.length ≤ 100000000) (hne : ∀ y ∈ ls, 0 < y.length) (hle : ∀ y ∈ ls, y.length ≤ 100000000) (hx : 0 < x.length) :
  Meets Try.prog 98 [dBoxL ls] (.cons (.imm 1 (dInts x) ex) (.cons (.ptr 0 [.d]) .nil))
  fun av X κ => av = avBool (!inTails ls x[0]) ∧ X = [dBoxL ls] ∧ κ = [] := by
 refine fb Try.func98 Try.ntmps98 [.tmp 3] fun w0 I0 F0 hF => ?_
 repeat first|refine n1 ?_|refine n2 ?_|refine n3 ?_|refine n4 ?_|refine n5 ?_|refine n6 ?_|refine n7 ?_|refine n8 ?_|refine n9 ?_|refine n0 ?_|refine ⟨⟨by omega, by omega⟩, ?_⟩|((first|refine rg 0 [0, 1] [1, 2] [] ?_|refine rg 1 [1, 2] [3] [] ?_|refine nc ?_);simp (maxSteps := 1000000) [hF, dBoxL])
 refine (containsFunc_ok false ls x hl hne hle hx).go [(0, []), (1, [])] (by simp (maxSteps := 1000000) [hF, dBoxL, dBox]) ?_;rintro av X κ ⟨rfl, rfl, rfl⟩;simp (maxSteps := 1000000) [hF, dBoxL, dBox]
 repeat first|refine n1 ?_|refine n2 ?_|refine n3 ?_|refine n4 ?_|refine n5 ?_|refine n6 ?_|refine n7 ?_|refine n8 ?_|refine n9 ?_|refine n0 ?_|refine ⟨⟨by omega, by omega⟩, ?_⟩|((first|refine rg 0 [0, 1] [1, 2] [] ?_|refine rg 1 [1, 2] [3] [] ?_|refine nc ?_);simp (maxSteps := 1000000) [hF])
 (try refine nr ?_);(repeat first|refine nb_ ?_|refine nl_ ?_);refine endK.o [3] [0] [] ?_;simp [hF, retK, covers, mpre, dBoxL]
end Go.Proofs.Ytbhigdljojlhnaa

/- slices.DeleteFunc of lists of lists: the empty ones go. -/
namespace Go.Proofs.Ytbhigdljojlhnaa
set_option linter.all false
open Go.Vc Go.Proofs
set_option linter.unusedSimpArgs false
set_option maxRecDepth 100000
set_option maxHeartbeats 4000000
attribute [local irreducible] CallW EqK
section
variable {α : Type} {q : α → Bool} {cur ls : List α} {i j : Nat}
theorem del_init (hi : i < ls.length) (hall : ∀ k, (h : k < i) → q (ls[k]'(by omega)) = true) (hq : q ls[i] = false) : ls.take i = (ls.take (i + 1)).filter q := by
 rw [List.take_add_one, List.getElem?_eq_getElem hi, List.filter_append]
 simp only [Option.toList_some, List.filter_cons, hq, List.filter_nil, Bool.false_eq_true, if_false, List.append_nil]
 refine (List.filter_eq_self.2 fun x hx => ?_).symm
 obtain ⟨k, hk, rfl⟩ := List.getElem_of_mem hx
 rw [List.length_take] at hk
 rw [List.getElem_take]
 exact hall k (by omega)
theorem del_at (hl : cur.length = ls.length) (hj : j < ls.length) (hd : cur.drop j = ls.drop j) : cur[j]'(by omega) = ls[j] := by
 have h1 : (cur.drop j)[0]? = (ls.drop j)[0]? := by rw [hd]
 simp only [List.getElem?_drop, Nat.add_zero] at h1
 rw [List.getElem?_eq_getElem (by omega), List.getElem?_eq_getElem hj] at h1
 exact Option.some.inj h1
theorem del_gone (hj : j < ls.length) (ht : cur.take i = (ls.take j).filter q) (hd : cur.drop j = ls.drop j) (hq : q ls[j] = false) : cur.take i = (ls.take (j + 1)).filter q ∧ cur.drop (j + 1) = ls.drop (j + 1) := by
 constructor
 ·rw [ht, List.take_add_one, List.getElem?_eq_getElem hj, List.filter_append]
  simp [hq]
 ·have : (cur.drop j).drop 1 = (ls.drop j).drop 1 := by rw [hd]
  simpa [List.drop_drop, Nat.add_comm] using this
theorem del_stays (hl : cur.length = ls.length) (hi : i < j) (hj : j < ls.length) (ht : cur.take i = (ls.take j).filter q) (hd : cur.drop j = ls.drop j) (hq : q ls[j] = true) :
  (cur.set i ls[j]).take (i + 1) = (ls.take (j + 1)).filter q ∧ (cur.set i ls[j]).drop (j + 1) = ls.drop (j + 1) := by
 constructor
 ·rw [List.take_add_one, List.getElem?_set_self (by omega), List.take_set_of_le (by omega), ht, List.take_add_one, List.getElem?_eq_getElem hj, List.filter_append]
  simp [hq]
 ·rw [List.drop_set_of_lt (by omega)]
  have : (cur.drop j).drop 1 = (ls.drop j).drop 1 := by rw [hd]
  simpa [List.drop_drop, Nat.add_comm] using this
end
theorem ixF_none {α : Type} {p : α → Bool} {l : List α} (h : ixF p l = -1) : l.filter (fun x => !p x) = l := by
 refine List.filter_eq_self.2 fun x hx => ?_
 have : ¬ (l.any p = true) := by rw [← ixF_ge, h]; omega
 rw [List.any_eq_true] at this
 cases hp : p x with
 | true => exact absurd ⟨x, hx, hp⟩ this
 | false => rfl
theorem ixF_some {α : Type} {p : α → Bool} {l : List α} (h : ¬ ixF p l = -1) : ∃ (i : Nat) (hi : i < l.length), ixF p l = i ∧ p l[i] = true ∧ ∀ k, (hk : k < i) → p (l[k]'(by omega)) = false := by
 by_cases ha : l.any p = true
 ·have h1 := List.findIdx_lt_length_of_exists (p := p) (xs := l) (by simpa using ha)
  refine ⟨l.findIdx p, h1, by rw [ixF, if_pos ha], List.findIdx_getElem, fun k hk => ?_⟩
  have := List.not_of_lt_findIdx hk
  simpa using this
 ·exact absurd (by rw [ixF, if_neg ha]) h
theorem tail_mid {l : List D} {i n : Nat} {x : D} (hi : i ≤ l.length) : (((sq l).take i).app (sq (List.replicate n x))).mid 0 i = sq (l.take i) := by
 rw [sq_take, sq_app, sq_mid, List.drop_zero, List.take_append_of_le_length (by simp; omega), List.take_of_length_le (by simp; omega)]
theorem delLs_ok (ls : List (List Int)) (hl : ls.length ≤ 100000000) : Meets Try.prog 95 [.sl true () 1 (dLs ls)] (.cons (.sub 0 [] 0 ls.length false) (.cons (.fn 96 .nil) .nil))
  fun av X κ => ∃ s m, av = .sub 1 [] 0 m false ∧ X = [.junk (), .sl true () 1 s] ∧ κ = [(0, [])] ∧ s.mid 0 m = dLs (ls.filter fun x => !nul x) ∧ m = (ls.filter fun x => !nul x).length := by
 refine fb Try.func95 Try.ntmps95 [.tmp 4] fun w0 I0 F0 hF => ?_
 repeat first|refine n1 ?_|refine n2 ?_|refine n3 ?_|refine n4 ?_|refine n5 ?_|refine n6 ?_|refine n7 ?_|refine n8 ?_|refine n9 ?_|refine n0 ?_|refine ⟨⟨by omega, by omega⟩, ?_⟩|((first|refine rg 0 [0, 1] [0, 1] [] ?_|refine rg 2 [0, 1, 5] [0, 1, 5, 12] [] ?_|refine rg 3 [0] [4] [] ?_|refine rg 4 [0, 1, 5] [0, 1, 5, 6] [] ?_|refine rg 5 [0, 1, 5, 6] [0, 1, 5, 6, 19] [] ?_|refine rg 6 [0, 1, 5, 6] [0, 1, 5, 6] [] ?_|refine rg 7 [0, 1, 5, 6] [0, 1, 5, 6, 7] [] ?_|refine rg 8 [0, 1, 5, 6, 7] [0, 1, 5, 6, 7, 29] [] ?_|refine rg 9 [0, 1, 5, 6, 7] [0, 1, 5, 6] [] ?_|refine rg 10 [0, 1, 5, 6] [0, 1, 5, 6] [] ?_|refine rg 11 [0, 5] [0, 5] [] ?_|refine rg 12 [0, 5] [4] [] ?_|refine nc ?_);simp (maxSteps := 1000000) [hF])
 refine ghostL 0 [] ?_;simp (maxSteps := 1000000) [hF, St.lift, AV.lift, liftPl, stripP, nodeAV, isNode]
 repeat first|refine n1 ?_|refine n2 ?_|refine n3 ?_|refine n4 ?_|refine n5 ?_|refine n6 ?_|refine n7 ?_|refine n8 ?_|refine n9 ?_|refine n0 ?_|refine ⟨⟨by omega, by omega⟩, ?_⟩|((first|refine rg 0 [0, 1] [0, 1] [] ?_|refine rg 1 [0, 1] [0, 1, 5] [] ?_|refine rg 2 [0, 1, 5] [0, 1, 5, 12] [] ?_|refine rg 3 [0] [4] [] ?_|refine rg 4 [0, 1, 5] [0, 1, 5, 6] [] ?_|refine rg 5 [0, 1, 5, 6] [0, 1, 5, 6, 19] [] ?_|refine rg 6 [0, 1, 5, 6] [0, 1, 5, 6] [] ?_|refine rg 7 [0, 1, 5, 6] [0, 1, 5, 6, 7] [] ?_|refine rg 8 [0, 1, 5, 6, 7] [0, 1, 5, 6, 7, 29] [] ?_|refine rg 9 [0, 1, 5, 6, 7] [0, 1, 5, 6] [] ?_|refine rg 10 [0, 1, 5, 6] [0, 1, 5, 6] [] ?_|refine rg 11 [0, 5] [0, 5] [] ?_|refine rg 12 [0, 5] [4] [] ?_|refine nc ?_);simp (maxSteps := 1000000) [hF])
 refine (indexFunc_1 false ls hl nul (fun i h => m1_ok false ls[i])).go [(1, [])] (by simp (maxSteps := 1000000) [hF]) ?_;rintro av X κ ⟨rfl, rfl, rfl⟩;simp (maxSteps := 1000000) [hF]
 repeat first|refine n1 ?_|refine n2 ?_|refine n3 ?_|refine n4 ?_|refine n5 ?_|refine n6 ?_|refine n7 ?_|refine n8 ?_|refine n9 ?_|refine n0 ?_|refine ⟨⟨by omega, by omega⟩, ?_⟩|((first|refine rg 0 [0, 1] [0, 1] [] ?_|refine rg 1 [0, 1] [0, 1, 5] [] ?_|refine rg 2 [0, 1, 5] [0, 1, 5, 12] [] ?_|refine rg 3 [0] [4] [] ?_|refine rg 4 [0, 1, 5] [0, 1, 5, 6] [] ?_|refine rg 5 [0, 1, 5, 6] [0, 1, 5, 6, 19] [] ?_|refine rg 6 [0, 1, 5, 6] [0, 1, 5, 6] [] ?_|refine rg 7 [0, 1, 5, 6] [0, 1, 5, 6, 7] [] ?_|refine rg 8 [0, 1, 5, 6, 7] [0, 1, 5, 6, 7, 29] [] ?_|refine rg 9 [0, 1, 5, 6, 7] [0, 1, 5, 6] [] ?_|refine rg 10 [0, 1, 5, 6] [0, 1, 5, 6] [] ?_|refine rg 11 [0, 5] [0, 5] [] ?_|refine rg 12 [0, 5] [4] [] ?_|refine nc ?_);simp (maxSteps := 1000000) [hF])
 refine ⟨fun hm => ?_, fun hm => ?_⟩
 ·have hf := ixF_none hm
  repeat first|refine n1 ?_|refine n2 ?_|refine n3 ?_|refine n4 ?_|refine n5 ?_|refine n6 ?_|refine n7 ?_|refine n8 ?_|refine n9 ?_|refine n0 ?_|refine ⟨⟨by omega, by omega⟩, ?_⟩|((first|refine rg 0 [0, 1] [0, 1] [] ?_|refine rg 1 [0, 1] [0, 1, 5] [] ?_|refine rg 2 [0, 1, 5] [0, 1, 5, 12] [] ?_|refine rg 3 [0] [4] [] ?_|refine rg 4 [0, 1, 5] [0, 1, 5, 6] [] ?_|refine rg 5 [0, 1, 5, 6] [0, 1, 5, 6, 19] [] ?_|refine rg 6 [0, 1, 5, 6] [0, 1, 5, 6] [] ?_|refine rg 7 [0, 1, 5, 6] [0, 1, 5, 6, 7] [] ?_|refine rg 8 [0, 1, 5, 6, 7] [0, 1, 5, 6, 7, 29] [] ?_|refine rg 9 [0, 1, 5, 6, 7] [0, 1, 5, 6] [] ?_|refine rg 10 [0, 1, 5, 6] [0, 1, 5, 6] [] ?_|refine rg 11 [0, 5] [0, 5] [] ?_|refine rg 12 [0, 5] [4] [] ?_|refine nc ?_);simp (maxSteps := 1000000) [hF])
  (try refine nr ?_);(repeat first|refine nb_ ?_|refine nl_ ?_);refine endK.o [4] [0, 1] [(0, [])] ?_;simp [hF, retK, covers, mpre, hf]
 ·obtain ⟨i0, hi0, he, hp0, hall⟩ := ixF_some hm
  repeat first|refine n1 ?_|refine n2 ?_|refine n3 ?_|refine n4 ?_|refine n5 ?_|refine n6 ?_|refine n7 ?_|refine n8 ?_|refine n9 ?_|refine n0 ?_|refine ⟨⟨by omega, by omega⟩, ?_⟩|((first|refine rg 0 [0, 1] [0, 1] [] ?_|refine rg 1 [0, 1] [0, 1, 5] [] ?_|refine rg 2 [0, 1, 5] [0, 1, 5, 12] [] ?_|refine rg 3 [0] [4] [] ?_|refine rg 4 [0, 1, 5] [0, 1, 5, 6] [] ?_|refine rg 5 [0, 1, 5, 6] [0, 1, 5, 6, 19] [] ?_|refine rg 6 [0, 1, 5, 6] [0, 1, 5, 6] [] ?_|refine rg 7 [0, 1, 5, 6] [0, 1, 5, 6, 7] [] ?_|refine rg 8 [0, 1, 5, 6, 7] [0, 1, 5, 6, 7, 29] [] ?_|refine rg 9 [0, 1, 5, 6, 7] [0, 1, 5, 6] [] ?_|refine rg 10 [0, 1, 5, 6] [0, 1, 5, 6] [] ?_|refine rg 11 [0, 5] [0, 5] [] ?_|refine rg 12 [0, 5] [4] [] ?_|refine nc ?_);simp (maxSteps := 1000000) [hF, he])
  refine VS.forget ?_;simp [hF, St.forget]
  refine VS.rounds (fun m st => ∃ (cur : List (List Int)) (i j : Nat), j + m = ls.length ∧ i < j ∧ cur.length = ls.length ∧ cur.take i = (ls.take j).filter (fun x => !nul x) ∧ cur.drop j = ls.drop j ∧
   st = ⟨[(0, .sub 1 [] 0 ls.length false), (1, .fn 96 .nil), (5, avInt i), (6, avInt j)], [.junk (), .sl true () 1 (dLs cur)], [(0, [])], []⟩)
   ⟨ls.length - (i0 + 1), ls, i0, i0 + 1, by omega, by omega, rfl, del_init hi0 (fun k hk => by simp [hall k hk]) (by simp [hp0]), rfl, ?_⟩ ?_
  ·simp [he]
   exact IntWalk.i64_in _ (by omega)
  rintro m st ⟨cur, i, j, hjm, hij, hcl, htk, hdr, rfl⟩
  repeat first|refine n1 ?_|refine n2 ?_|refine n3 ?_|refine n4 ?_|refine n5 ?_|refine n6 ?_|refine n7 ?_|refine n8 ?_|refine n9 ?_|refine n0 ?_|refine ⟨⟨by omega, by omega⟩, ?_⟩|((first|refine rg 0 [0, 1] [0, 1] [] ?_|refine rg 1 [0, 1] [0, 1, 5] [] ?_|refine rg 2 [0, 1, 5] [0, 1, 5, 12] [] ?_|refine rg 3 [0] [4] [] ?_|refine rg 4 [0, 1, 5] [0, 1, 5, 6] [] ?_|refine rg 5 [0, 1, 5, 6] [0, 1, 5, 6, 19] [] ?_|refine rg 6 [0, 1, 5, 6] [0, 1, 5, 6] [] ?_|refine rg 7 [0, 1, 5, 6] [0, 1, 5, 6, 7] [] ?_|refine rg 8 [0, 1, 5, 6, 7] [0, 1, 5, 6, 7, 29] [] ?_|refine rg 9 [0, 1, 5, 6, 7] [0, 1, 5, 6] [] ?_|refine rg 10 [0, 1, 5, 6] [0, 1, 5, 6] [] ?_|refine rg 11 [0, 5] [0, 5] [] ?_|refine rg 12 [0, 5] [4] [] ?_|refine nc ?_);simp (maxSteps := 1000000) [hF])
  refine ⟨fun hlt => ?_, fun hge => ?_⟩
  ·have hj : j < ls.length := by omega
   have hjc : j < cur.length := by omega
   have hn := dLs_nth hjc
   have hat := del_at hcl hj hdr
   repeat first|refine n1 ?_|refine n2 ?_|refine n3 ?_|refine n4 ?_|refine n5 ?_|refine n6 ?_|refine n7 ?_|refine n8 ?_|refine n9 ?_|refine n0 ?_|refine ⟨⟨by omega, by omega⟩, ?_⟩|((first|refine rg 0 [0, 1] [0, 1] [] ?_|refine rg 1 [0, 1] [0, 1, 5] [] ?_|refine rg 2 [0, 1, 5] [0, 1, 5, 12] [] ?_|refine rg 3 [0] [4] [] ?_|refine rg 4 [0, 1, 5] [0, 1, 5, 6] [] ?_|refine rg 5 [0, 1, 5, 6] [0, 1, 5, 6, 19] [] ?_|refine rg 6 [0, 1, 5, 6] [0, 1, 5, 6] [] ?_|refine rg 7 [0, 1, 5, 6] [0, 1, 5, 6, 7] [] ?_|refine rg 8 [0, 1, 5, 6, 7] [0, 1, 5, 6, 7, 29] [] ?_|refine rg 9 [0, 1, 5, 6, 7] [0, 1, 5, 6] [] ?_|refine rg 10 [0, 1, 5, 6] [0, 1, 5, 6] [] ?_|refine rg 11 [0, 5] [0, 5] [] ?_|refine rg 12 [0, 5] [4] [] ?_|refine nc ?_);simp (maxSteps := 1000000) [hF, hn, hjc, hj])
   refine (m1_ok false cur[j]).go [] (by simp (maxSteps := 1000000) [hF]) ?_;rintro av X κ ⟨rfl, rfl, rfl⟩;simp (maxSteps := 1000000) [hF]
   cases hp : nul cur[j] with
   | true =>
    repeat first|refine n1 ?_|refine n2 ?_|refine n3 ?_|refine n4 ?_|refine n5 ?_|refine n6 ?_|refine n7 ?_|refine n8 ?_|refine n9 ?_|refine n0 ?_|refine ⟨⟨by omega, by omega⟩, ?_⟩|((first|refine rg 0 [0, 1] [0, 1] [] ?_|refine rg 1 [0, 1] [0, 1, 5] [] ?_|refine rg 2 [0, 1, 5] [0, 1, 5, 12] [] ?_|refine rg 3 [0] [4] [] ?_|refine rg 4 [0, 1, 5] [0, 1, 5, 6] [] ?_|refine rg 5 [0, 1, 5, 6] [0, 1, 5, 6, 19] [] ?_|refine rg 6 [0, 1, 5, 6] [0, 1, 5, 6] [] ?_|refine rg 7 [0, 1, 5, 6] [0, 1, 5, 6, 7] [] ?_|refine rg 8 [0, 1, 5, 6, 7] [0, 1, 5, 6, 7, 29] [] ?_|refine rg 9 [0, 1, 5, 6, 7] [0, 1, 5, 6] [] ?_|refine rg 10 [0, 1, 5, 6] [0, 1, 5, 6] [] ?_|refine rg 11 [0, 5] [0, 5] [] ?_|refine rg 12 [0, 5] [4] [] ?_|refine nc ?_);simp (maxSteps := 1000000) [hF, hp])
    obtain ⟨n1, n2⟩ := del_gone (q := fun x => !nul x) hj htk hdr (by rw [← hat]; simp [hp])
    refine nextK.of [0, 1, 5, 6] [0, 1] (m - 1) (by omega) (by simp [hF]) ?_
    refine ⟨cur, i, j + 1, by omega, by omega, hcl, n1, n2, ?_⟩
    simp
    exact IntWalk.i64_in _ (by omega)
   | false =>
    have hi : i < ls.length := by omega
    have hic : i < cur.length := by omega
    have hset := dLs_set cur i cur[j]
    have hni := dLs_nth hic
    repeat first|refine n1 ?_|refine n2 ?_|refine n3 ?_|refine n4 ?_|refine n5 ?_|refine n6 ?_|refine n7 ?_|refine n8 ?_|refine n9 ?_|refine n0 ?_|refine ⟨⟨by omega, by omega⟩, ?_⟩|((first|refine rg 0 [0, 1] [0, 1] [] ?_|refine rg 1 [0, 1] [0, 1, 5] [] ?_|refine rg 2 [0, 1, 5] [0, 1, 5, 12] [] ?_|refine rg 3 [0] [4] [] ?_|refine rg 4 [0, 1, 5] [0, 1, 5, 6] [] ?_|refine rg 5 [0, 1, 5, 6] [0, 1, 5, 6, 19] [] ?_|refine rg 6 [0, 1, 5, 6] [0, 1, 5, 6] [] ?_|refine rg 7 [0, 1, 5, 6] [0, 1, 5, 6, 7] [] ?_|refine rg 8 [0, 1, 5, 6, 7] [0, 1, 5, 6, 7, 29] [] ?_|refine rg 9 [0, 1, 5, 6, 7] [0, 1, 5, 6] [] ?_|refine rg 10 [0, 1, 5, 6] [0, 1, 5, 6] [] ?_|refine rg 11 [0, 5] [0, 5] [] ?_|refine rg 12 [0, 5] [4] [] ?_|refine nc ?_);simp (maxSteps := 1000000) [hF, hp, hi, hic, hset, hni, hcl])
    obtain ⟨n1, n2⟩ := del_stays (q := fun x => !nul x) hcl hij hj htk hdr (by rw [← hat]; simp [hp])
    refine nextK.of [0, 1, 5, 6] [0, 1] (m - 1) (by omega) (by simp [hF]) ?_
    refine ⟨cur.set i cur[j], i + 1, j + 1, by omega, by omega, by simpa using hcl, by rw [hat]; exact n1, by rw [hat]; exact n2, ?_⟩
    simp
    exact ⟨IntWalk.i64_in _ (by omega), IntWalk.i64_in _ (by omega)⟩
  ·obtain rfl : j = ls.length := by omega
   have hil : i ≤ ls.length := by omega
   have hil2 : (i : Int) ≤ ls.length := by omega
   rw [List.take_length] at htk
   have hlen : (ls.filter fun x => !nul x).length = i := by rw [← htk, List.length_take]; omega
   have hfin : ∀ n x, (((dLs cur).take i).app (sq (List.replicate n x))).mid 0 i = dLs (ls.filter fun x => !nul x) := fun n x => by
    rw [← htk, dLs, tail_mid (by simp; omega), ← List.map_take, ← dLs]
   repeat first|refine n1 ?_|refine n2 ?_|refine n3 ?_|refine n4 ?_|refine n5 ?_|refine n6 ?_|refine n7 ?_|refine n8 ?_|refine n9 ?_|refine n0 ?_|refine ⟨⟨by omega, by omega⟩, ?_⟩|((first|refine rg 0 [0, 1] [0, 1] [] ?_|refine rg 1 [0, 1] [0, 1, 5] [] ?_|refine rg 2 [0, 1, 5] [0, 1, 5, 12] [] ?_|refine rg 3 [0] [4] [] ?_|refine rg 4 [0, 1, 5] [0, 1, 5, 6] [] ?_|refine rg 5 [0, 1, 5, 6] [0, 1, 5, 6, 19] [] ?_|refine rg 6 [0, 1, 5, 6] [0, 1, 5, 6] [] ?_|refine rg 7 [0, 1, 5, 6] [0, 1, 5, 6, 7] [] ?_|refine rg 8 [0, 1, 5, 6, 7] [0, 1, 5, 6, 7, 29] [] ?_|refine rg 9 [0, 1, 5, 6, 7] [0, 1, 5, 6] [] ?_|refine rg 10 [0, 1, 5, 6] [0, 1, 5, 6] [] ?_|refine rg 11 [0, 5] [0, 5] [] ?_|refine rg 12 [0, 5] [4] [] ?_|refine nc ?_);simp (maxSteps := 1000000) [hF, hil, hil2, hcl])
   (try refine nr ?_);(repeat first|refine nb_ ?_|refine nl_ ?_);refine endK.o [4] [0, 1] [(0, [])] ?_;simp [hF, retK, covers, mpre, hfin, hlen]
end Go.Proofs.Ytbhigdljojlhnaa

/- slices.IndexFunc and DeleteFunc of numbers: those of another list go. -/
namespace Go.Proofs.Ytbhigdljojlhnaa
set_option linter.all false
open Go.Vc Go.Proofs
set_option linter.unusedSimpArgs false
set_option maxRecDepth 100000
set_option maxHeartbeats 4000000
attribute [local irreducible] CallW EqK
theorem f1_ok (fr : List Int) (hf : fr.length ≤ 100000000) (n : Int) : Meets Try.prog 74 [dBox fr] (.cons (avInt n) (.cons (.ptr 0 [.d]) .nil)) fun av X κ => av = avBool (hasN fr n) ∧ X = [dBox fr] ∧ κ = [] := by
 refine fb Try.func74 Try.ntmps74 [.tmp 3] fun w0 I0 F0 hF => ?_
 repeat first|refine n1 ?_|refine n2 ?_|refine n3 ?_|refine n4 ?_|refine n5 ?_|refine n6 ?_|refine n7 ?_|refine n8 ?_|refine n9 ?_|refine n0 ?_|refine ⟨⟨by omega, by omega⟩, ?_⟩|((first|refine rg 0 [0, 1] [0, 1] [] ?_|refine rg 1 [0, 1] [3] [] ?_|refine nc ?_);simp (maxSteps := 1000000) [hF, dBox])
 refine (contains_ok false fr n hf).go [] (by simp (maxSteps := 1000000) [hF]) ?_;rintro av X κ ⟨rfl, rfl, rfl⟩;simp (maxSteps := 1000000) [hF]
 repeat first|refine n1 ?_|refine n2 ?_|refine n3 ?_|refine n4 ?_|refine n5 ?_|refine n6 ?_|refine n7 ?_|refine n8 ?_|refine n9 ?_|refine n0 ?_|refine ⟨⟨by omega, by omega⟩, ?_⟩|((first|refine rg 0 [0, 1] [0, 1] [] ?_|refine rg 1 [0, 1] [3] [] ?_|refine nc ?_);simp (maxSteps := 1000000) [hF])
 (try refine nr ?_);(repeat first|refine nb_ ?_|refine nl_ ?_);refine endK.o [3] [0] [] ?_;simp [hF, retK, covers, mpre, dBox]
theorem indexFunc_i (ex : Bool) (ls x : List Int) (hl : ls.length ≤ 100000000) (p : Int → Bool)
  (hg : ∀ i, (h : i < ls.length) → Meets Try.prog 74 [dBox x] (.cons (avInt ls[i]) (.cons (.ptr 0 [.d]) .nil)) fun av X κ => av = avBool (p ls[i]) ∧ X = [dBox x] ∧ κ = []) :
  Meets Try.prog 66 [.sl true () 1 (dInts ls), dBox x] (.cons (.sub 0 [] 0 ls.length ex) (.cons (.fn 74 (.cons (.ptr 1 [.d]) .nil)) .nil))
  fun av X κ => av = avInt (ixF p ls) ∧ X = [.sl true () 1 (dInts ls), dBox x] ∧ κ = [] := by
 refine fb Try.func66 Try.ntmps66 [.tmp 4] fun w0 I0 F0 hF => ?_
 repeat first|refine n1 ?_|refine n2 ?_|refine n3 ?_|refine n4 ?_|refine n5 ?_|refine n6 ?_|refine n7 ?_|refine n8 ?_|refine n9 ?_|refine n0 ?_|refine ⟨⟨by omega, by omega⟩, ?_⟩|((first|refine rg 0 [0, 1] [0, 1] [] ?_|refine rg 1 [0, 1] [0, 1, 7, 8] [] ?_|refine rg 2 [0, 1, 7, 8] [0, 1, 7, 8, 9] [] ?_|refine rg 3 [0, 1, 7, 8] [0, 1, 5, 7, 8] [] ?_|refine rg 4 [0, 1, 5, 7, 8] [0, 1, 5, 7, 8, 16] [] ?_|refine rg 5 [5] [4] [] ?_|refine rg 6 [0, 1, 7, 8] [0, 1, 7, 8] [] ?_|refine rg 7 [] [4] [] ?_|refine nc ?_);simp (maxSteps := 1000000) [hF, dBox])
 refine VS.rounds (fun m st => ∃ (i : Nat), i + m = ls.length ∧ (∀ j, (h : j < ls.length) → j < i → p ls[j] = false) ∧ st = ⟨[(0, .sub 0 [] 0 ls.length ex), (1, .fn 74 (.cons (.ptr 1 [.d]) .nil)), (7, avInt ls.length), (8, avInt i)], [.sl true () 1 (dInts ls), dBox x], [], []⟩) ⟨ls.length, 0, by omega, by omega, by simp [dBox]⟩ ?_
 rintro m st ⟨i, hi, hall, rfl⟩
 repeat first|refine n1 ?_|refine n2 ?_|refine n3 ?_|refine n4 ?_|refine n5 ?_|refine n6 ?_|refine n7 ?_|refine n8 ?_|refine n9 ?_|refine n0 ?_|refine ⟨⟨by omega, by omega⟩, ?_⟩|((first|refine rg 0 [0, 1] [0, 1] [] ?_|refine rg 1 [0, 1] [0, 1, 7, 8] [] ?_|refine rg 2 [0, 1, 7, 8] [0, 1, 7, 8, 9] [] ?_|refine rg 3 [0, 1, 7, 8] [0, 1, 5, 7, 8] [] ?_|refine rg 4 [0, 1, 5, 7, 8] [0, 1, 5, 7, 8, 16] [] ?_|refine rg 5 [5] [4] [] ?_|refine rg 6 [0, 1, 7, 8] [0, 1, 7, 8] [] ?_|refine rg 7 [] [4] [] ?_|refine nc ?_);simp (maxSteps := 1000000) [hF, dBox])
 refine ⟨fun hlt => ?_, fun hge => ?_⟩
 ·have hi' : i < ls.length := by omega
  have hn := dInts_nth hi'
  repeat first|refine n1 ?_|refine n2 ?_|refine n3 ?_|refine n4 ?_|refine n5 ?_|refine n6 ?_|refine n7 ?_|refine n8 ?_|refine n9 ?_|refine n0 ?_|refine ⟨⟨by omega, by omega⟩, ?_⟩|((first|refine rg 0 [0, 1] [0, 1] [] ?_|refine rg 1 [0, 1] [0, 1, 7, 8] [] ?_|refine rg 2 [0, 1, 7, 8] [0, 1, 7, 8, 9] [] ?_|refine rg 3 [0, 1, 7, 8] [0, 1, 5, 7, 8] [] ?_|refine rg 4 [0, 1, 5, 7, 8] [0, 1, 5, 7, 8, 16] [] ?_|refine rg 5 [5] [4] [] ?_|refine rg 6 [0, 1, 7, 8] [0, 1, 7, 8] [] ?_|refine rg 7 [] [4] [] ?_|refine nc ?_);simp (maxSteps := 1000000) [hF, dBox, hn, hi'])
  refine (hg i hi').go [(1, [])] (by simp (maxSteps := 1000000) [hF, dBox]) ?_;rintro av X κ ⟨rfl, rfl, rfl⟩;simp (maxSteps := 1000000) [hF, dBox]
  cases hp : p ls[i] with
  | true =>
   have hr : ixF p ls = i := ixF_hit hi' (fun j h => hall j (by omega) h) hp
   repeat first|refine n1 ?_|refine n2 ?_|refine n3 ?_|refine n4 ?_|refine n5 ?_|refine n6 ?_|refine n7 ?_|refine n8 ?_|refine n9 ?_|refine n0 ?_|refine ⟨⟨by omega, by omega⟩, ?_⟩|((first|refine rg 0 [0, 1] [0, 1] [] ?_|refine rg 1 [0, 1] [0, 1, 7, 8] [] ?_|refine rg 2 [0, 1, 7, 8] [0, 1, 7, 8, 9] [] ?_|refine rg 3 [0, 1, 7, 8] [0, 1, 5, 7, 8] [] ?_|refine rg 4 [0, 1, 5, 7, 8] [0, 1, 5, 7, 8, 16] [] ?_|refine rg 5 [5] [4] [] ?_|refine rg 6 [0, 1, 7, 8] [0, 1, 7, 8] [] ?_|refine rg 7 [] [4] [] ?_|refine nc ?_);simp (maxSteps := 1000000) [hF, hp])
   (try refine nr ?_);(repeat first|refine nb_ ?_|refine nl_ ?_);refine endK.o [4] [0, 1] [] ?_;simp [hF, retK, covers, mpre, dBox, hr]
  | false =>
   repeat first|refine n1 ?_|refine n2 ?_|refine n3 ?_|refine n4 ?_|refine n5 ?_|refine n6 ?_|refine n7 ?_|refine n8 ?_|refine n9 ?_|refine n0 ?_|refine ⟨⟨by omega, by omega⟩, ?_⟩|((first|refine rg 0 [0, 1] [0, 1] [] ?_|refine rg 1 [0, 1] [0, 1, 7, 8] [] ?_|refine rg 2 [0, 1, 7, 8] [0, 1, 7, 8, 9] [] ?_|refine rg 3 [0, 1, 7, 8] [0, 1, 5, 7, 8] [] ?_|refine rg 4 [0, 1, 5, 7, 8] [0, 1, 5, 7, 8, 16] [] ?_|refine rg 5 [5] [4] [] ?_|refine rg 6 [0, 1, 7, 8] [0, 1, 7, 8] [] ?_|refine rg 7 [] [4] [] ?_|refine nc ?_);simp (maxSteps := 1000000) [hF, hp])
   refine nextK.of [0, 1, 7, 8] [0, 1] (m - 1) (by omega) (by simp [hF]) ?_
   refine ⟨i + 1, by omega, ?_, ?_⟩
   ·intro j hj hji
    rcases Nat.lt_or_ge j i with h' | h'
    ·exact hall j hj h'
    ·obtain rfl : j = i := by omega
     exact hp
   ·simp [dBox]
    exact IntWalk.i64_in _ (by omega)
 ·have hr : ixF p ls = -1 := ixF_miss (fun j h => hall j h (by omega))
  repeat first|refine n1 ?_|refine n2 ?_|refine n3 ?_|refine n4 ?_|refine n5 ?_|refine n6 ?_|refine n7 ?_|refine n8 ?_|refine n9 ?_|refine n0 ?_|refine ⟨⟨by omega, by omega⟩, ?_⟩|((first|refine rg 0 [0, 1] [0, 1] [] ?_|refine rg 1 [0, 1] [0, 1, 7, 8] [] ?_|refine rg 2 [0, 1, 7, 8] [0, 1, 7, 8, 9] [] ?_|refine rg 3 [0, 1, 7, 8] [0, 1, 5, 7, 8] [] ?_|refine rg 4 [0, 1, 5, 7, 8] [0, 1, 5, 7, 8, 16] [] ?_|refine rg 5 [5] [4] [] ?_|refine rg 6 [0, 1, 7, 8] [0, 1, 7, 8] [] ?_|refine rg 7 [] [4] [] ?_|refine nc ?_);simp (maxSteps := 1000000) [hF])
  (try refine nr ?_);(repeat first|refine nb_ ?_|refine nl_ ?_);refine endK.o [4] [0, 1] [] ?_;simp [hF, retK, covers, mpre, dBox, hr]
theorem delIs_ok (ls fr : List Int) (hfr : fr.length ≤ 100000000) (hl : ls.length ≤ 100000000) : Meets Try.prog 73 [.sl true () 1 (dInts ls), dBox fr] (.cons (.sub 0 [] 0 ls.length false) (.cons (.fn 74 (.cons (.ptr 1 [.d]) .nil)) .nil))
  fun av X κ => ∃ s m, av = .sub 2 [] 0 m false ∧ X = [.junk (), dBox fr, .sl true () 1 s] ∧ κ = [(0, [])] ∧ s.mid 0 m = dInts (ls.filter fun x => !hasN fr x) ∧ m = (ls.filter fun x => !hasN fr x).length := by
 refine fb Try.func73 Try.ntmps73 [.tmp 4] fun w0 I0 F0 hF => ?_
 repeat first|refine n1 ?_|refine n2 ?_|refine n3 ?_|refine n4 ?_|refine n5 ?_|refine n6 ?_|refine n7 ?_|refine n8 ?_|refine n9 ?_|refine n0 ?_|refine ⟨⟨by omega, by omega⟩, ?_⟩|((first|refine rg 0 [0, 1] [0, 1] [] ?_|refine rg 2 [0, 1, 5] [0, 1, 5, 12] [] ?_|refine rg 3 [0] [4] [] ?_|refine rg 4 [0, 1, 5] [0, 1, 5, 6] [] ?_|refine rg 5 [0, 1, 5, 6] [0, 1, 5, 6, 19] [] ?_|refine rg 6 [0, 1, 5, 6] [0, 1, 5, 6] [] ?_|refine rg 7 [0, 1, 5, 6] [0, 1, 5, 6, 7] [] ?_|refine rg 8 [0, 1, 5, 6, 7] [0, 1, 5, 6, 7, 29] [] ?_|refine rg 9 [0, 1, 5, 6, 7] [0, 1, 5, 6] [] ?_|refine rg 10 [0, 1, 5, 6] [0, 1, 5, 6] [] ?_|refine rg 11 [0, 5] [0, 5] [] ?_|refine rg 12 [0, 5] [4] [] ?_|refine nc ?_);simp (maxSteps := 1000000) [hF])
 refine ghostL 0 [] ?_;simp (maxSteps := 1000000) [hF, St.lift, AV.lift, liftPl, stripP, nodeAV, isNode, dBox]
 repeat first|refine n1 ?_|refine n2 ?_|refine n3 ?_|refine n4 ?_|refine n5 ?_|refine n6 ?_|refine n7 ?_|refine n8 ?_|refine n9 ?_|refine n0 ?_|refine ⟨⟨by omega, by omega⟩, ?_⟩|((first|refine rg 0 [0, 1] [0, 1] [] ?_|refine rg 1 [0, 1] [0, 1, 5] [] ?_|refine rg 2 [0, 1, 5] [0, 1, 5, 12] [] ?_|refine rg 3 [0] [4] [] ?_|refine rg 4 [0, 1, 5] [0, 1, 5, 6] [] ?_|refine rg 5 [0, 1, 5, 6] [0, 1, 5, 6, 19] [] ?_|refine rg 6 [0, 1, 5, 6] [0, 1, 5, 6] [] ?_|refine rg 7 [0, 1, 5, 6] [0, 1, 5, 6, 7] [] ?_|refine rg 8 [0, 1, 5, 6, 7] [0, 1, 5, 6, 7, 29] [] ?_|refine rg 9 [0, 1, 5, 6, 7] [0, 1, 5, 6] [] ?_|refine rg 10 [0, 1, 5, 6] [0, 1, 5, 6] [] ?_|refine rg 11 [0, 5] [0, 5] [] ?_|refine rg 12 [0, 5] [4] [] ?_|refine nc ?_);simp (maxSteps := 1000000) [hF])
 refine (indexFunc_i false ls fr hl (hasN fr) (fun i h => f1_ok fr hfr ls[i])).go [(2, []), (1, [])] (by simp (maxSteps := 1000000) [hF, dBox]) ?_;rintro av X κ ⟨rfl, rfl, rfl⟩;simp (maxSteps := 1000000) [hF, dBox]
 repeat first|refine n1 ?_|refine n2 ?_|refine n3 ?_|refine n4 ?_|refine n5 ?_|refine n6 ?_|refine n7 ?_|refine n8 ?_|refine n9 ?_|refine n0 ?_|refine ⟨⟨by omega, by omega⟩, ?_⟩|((first|refine rg 0 [0, 1] [0, 1] [] ?_|refine rg 1 [0, 1] [0, 1, 5] [] ?_|refine rg 2 [0, 1, 5] [0, 1, 5, 12] [] ?_|refine rg 3 [0] [4] [] ?_|refine rg 4 [0, 1, 5] [0, 1, 5, 6] [] ?_|refine rg 5 [0, 1, 5, 6] [0, 1, 5, 6, 19] [] ?_|refine rg 6 [0, 1, 5, 6] [0, 1, 5, 6] [] ?_|refine rg 7 [0, 1, 5, 6] [0, 1, 5, 6, 7] [] ?_|refine rg 8 [0, 1, 5, 6, 7] [0, 1, 5, 6, 7, 29] [] ?_|refine rg 9 [0, 1, 5, 6, 7] [0, 1, 5, 6] [] ?_|refine rg 10 [0, 1, 5, 6] [0, 1, 5, 6] [] ?_|refine rg 11 [0, 5] [0, 5] [] ?_|refine rg 12 [0, 5] [4] [] ?_|refine nc ?_);simp (maxSteps := 1000000) [hF])
 refine ⟨fun hm => ?_, fun hm => ?_⟩
 ·have hf := ixF_none hm
  repeat first|refine n1 ?_|refine n2 ?_|refine n3 ?_|refine n4 ?_|refine n5 ?_|refine n6 ?_|refine n7 ?_|refine n8 ?_|refine n9 ?_|refine n0 ?_|refine ⟨⟨by omega, by omega⟩, ?_⟩|((first|refine rg 0 [0, 1] [0, 1] [] ?_|refine rg 1 [0, 1] [0, 1, 5] [] ?_|refine rg 2 [0, 1, 5] [0, 1, 5, 12] [] ?_|refine rg 3 [0] [4] [] ?_|refine rg 4 [0, 1, 5] [0, 1, 5, 6] [] ?_|refine rg 5 [0, 1, 5, 6] [0, 1, 5, 6, 19] [] ?_|refine rg 6 [0, 1, 5, 6] [0, 1, 5, 6] [] ?_|refine rg 7 [0, 1, 5, 6] [0, 1, 5, 6, 7] [] ?_|refine rg 8 [0, 1, 5, 6, 7] [0, 1, 5, 6, 7, 29] [] ?_|refine rg 9 [0, 1, 5, 6, 7] [0, 1, 5, 6] [] ?_|refine rg 10 [0, 1, 5, 6] [0, 1, 5, 6] [] ?_|refine rg 11 [0, 5] [0, 5] [] ?_|refine rg 12 [0, 5] [4] [] ?_|refine nc ?_);simp (maxSteps := 1000000) [hF])
  (try refine nr ?_);(repeat first|refine nb_ ?_|refine nl_ ?_);refine endK.o [4] [0, 1, 2] [(0, [])] ?_;simp [hF, retK, covers, mpre, dBox, hf]
 ·obtain ⟨i0, hi0, he, hp0, hall⟩ := ixF_some hm
  repeat first|refine n1 ?_|refine n2 ?_|refine n3 ?_|refine n4 ?_|refine n5 ?_|refine n6 ?_|refine n7 ?_|refine n8 ?_|refine n9 ?_|refine n0 ?_|refine ⟨⟨by omega, by omega⟩, ?_⟩|((first|refine rg 0 [0, 1] [0, 1] [] ?_|refine rg 1 [0, 1] [0, 1, 5] [] ?_|refine rg 2 [0, 1, 5] [0, 1, 5, 12] [] ?_|refine rg 3 [0] [4] [] ?_|refine rg 4 [0, 1, 5] [0, 1, 5, 6] [] ?_|refine rg 5 [0, 1, 5, 6] [0, 1, 5, 6, 19] [] ?_|refine rg 6 [0, 1, 5, 6] [0, 1, 5, 6] [] ?_|refine rg 7 [0, 1, 5, 6] [0, 1, 5, 6, 7] [] ?_|refine rg 8 [0, 1, 5, 6, 7] [0, 1, 5, 6, 7, 29] [] ?_|refine rg 9 [0, 1, 5, 6, 7] [0, 1, 5, 6] [] ?_|refine rg 10 [0, 1, 5, 6] [0, 1, 5, 6] [] ?_|refine rg 11 [0, 5] [0, 5] [] ?_|refine rg 12 [0, 5] [4] [] ?_|refine nc ?_);simp (maxSteps := 1000000) [hF, he])
  refine VS.forget ?_;simp [hF, St.forget]
  refine VS.rounds (fun m st => ∃ (cur : List Int) (i j : Nat), j + m = ls.length ∧ i < j ∧ cur.length = ls.length ∧ cur.take i = (ls.take j).filter (fun x => !hasN fr x) ∧ cur.drop j = ls.drop j ∧
   st = ⟨[(0, .sub 2 [] 0 ls.length false), (1, .fn 74 (.cons (.ptr 1 [.d]) .nil)), (5, avInt i), (6, avInt j)], [.junk (), dBox fr, .sl true () 1 (dInts cur)], [(0, [])], []⟩)
   ⟨ls.length - (i0 + 1), ls, i0, i0 + 1, by omega, by omega, rfl, del_init hi0 (fun k hk => by simp [hall k hk]) (by simp [hp0]), rfl, ?_⟩ ?_
  ·simp [he, dBox]
   exact IntWalk.i64_in _ (by omega)
  rintro m st ⟨cur, i, j, hjm, hij, hcl, htk, hdr, rfl⟩
  repeat first|refine n1 ?_|refine n2 ?_|refine n3 ?_|refine n4 ?_|refine n5 ?_|refine n6 ?_|refine n7 ?_|refine n8 ?_|refine n9 ?_|refine n0 ?_|refine ⟨⟨by omega, by omega⟩, ?_⟩|((first|refine rg 0 [0, 1] [0, 1] [] ?_|refine rg 1 [0, 1] [0, 1, 5] [] ?_|refine rg 2 [0, 1, 5] [0, 1, 5, 12] [] ?_|refine rg 3 [0] [4] [] ?_|refine rg 4 [0, 1, 5] [0, 1, 5, 6] [] ?_|refine rg 5 [0, 1, 5, 6] [0, 1, 5, 6, 19] [] ?_|refine rg 6 [0, 1, 5, 6] [0, 1, 5, 6] [] ?_|refine rg 7 [0, 1, 5, 6] [0, 1, 5, 6, 7] [] ?_|refine rg 8 [0, 1, 5, 6, 7] [0, 1, 5, 6, 7, 29] [] ?_|refine rg 9 [0, 1, 5, 6, 7] [0, 1, 5, 6] [] ?_|refine rg 10 [0, 1, 5, 6] [0, 1, 5, 6] [] ?_|refine rg 11 [0, 5] [0, 5] [] ?_|refine rg 12 [0, 5] [4] [] ?_|refine nc ?_);simp (maxSteps := 1000000) [hF])
  refine ⟨fun hlt => ?_, fun hge => ?_⟩
  ·have hj : j < ls.length := by omega
   have hjc : j < cur.length := by omega
   have hn := dInts_nth hjc
   have hat := del_at hcl hj hdr
   repeat first|refine n1 ?_|refine n2 ?_|refine n3 ?_|refine n4 ?_|refine n5 ?_|refine n6 ?_|refine n7 ?_|refine n8 ?_|refine n9 ?_|refine n0 ?_|refine ⟨⟨by omega, by omega⟩, ?_⟩|((first|refine rg 0 [0, 1] [0, 1] [] ?_|refine rg 1 [0, 1] [0, 1, 5] [] ?_|refine rg 2 [0, 1, 5] [0, 1, 5, 12] [] ?_|refine rg 3 [0] [4] [] ?_|refine rg 4 [0, 1, 5] [0, 1, 5, 6] [] ?_|refine rg 5 [0, 1, 5, 6] [0, 1, 5, 6, 19] [] ?_|refine rg 6 [0, 1, 5, 6] [0, 1, 5, 6] [] ?_|refine rg 7 [0, 1, 5, 6] [0, 1, 5, 6, 7] [] ?_|refine rg 8 [0, 1, 5, 6, 7] [0, 1, 5, 6, 7, 29] [] ?_|refine rg 9 [0, 1, 5, 6, 7] [0, 1, 5, 6] [] ?_|refine rg 10 [0, 1, 5, 6] [0, 1, 5, 6] [] ?_|refine rg 11 [0, 5] [0, 5] [] ?_|refine rg 12 [0, 5] [4] [] ?_|refine nc ?_);simp (maxSteps := 1000000) [hF, hn, hjc, hj])
   refine (f1_ok fr hfr cur[j]).go [(1, [])] (by simp (maxSteps := 1000000) [hF, dBox]) ?_;rintro av X κ ⟨rfl, rfl, rfl⟩;simp (maxSteps := 1000000) [hF, dBox]
   cases hp : hasN fr cur[j] with
   | true =>
    repeat first|refine n1 ?_|refine n2 ?_|refine n3 ?_|refine n4 ?_|refine n5 ?_|refine n6 ?_|refine n7 ?_|refine n8 ?_|refine n9 ?_|refine n0 ?_|refine ⟨⟨by omega, by omega⟩, ?_⟩|((first|refine rg 0 [0, 1] [0, 1] [] ?_|refine rg 1 [0, 1] [0, 1, 5] [] ?_|refine rg 2 [0, 1, 5] [0, 1, 5, 12] [] ?_|refine rg 3 [0] [4] [] ?_|refine rg 4 [0, 1, 5] [0, 1, 5, 6] [] ?_|refine rg 5 [0, 1, 5, 6] [0, 1, 5, 6, 19] [] ?_|refine rg 6 [0, 1, 5, 6] [0, 1, 5, 6] [] ?_|refine rg 7 [0, 1, 5, 6] [0, 1, 5, 6, 7] [] ?_|refine rg 8 [0, 1, 5, 6, 7] [0, 1, 5, 6, 7, 29] [] ?_|refine rg 9 [0, 1, 5, 6, 7] [0, 1, 5, 6] [] ?_|refine rg 10 [0, 1, 5, 6] [0, 1, 5, 6] [] ?_|refine rg 11 [0, 5] [0, 5] [] ?_|refine rg 12 [0, 5] [4] [] ?_|refine nc ?_);simp (maxSteps := 1000000) [hF, hp])
    obtain ⟨n1, n2⟩ := del_gone (q := fun x => !hasN fr x) hj htk hdr (by rw [← hat]; simp [hp])
    refine nextK.of [0, 1, 5, 6] [0, 1, 2] (m - 1) (by omega) (by simp [hF]) ?_
    refine ⟨cur, i, j + 1, by omega, by omega, hcl, n1, n2, ?_⟩
    simp [dBox]
    exact IntWalk.i64_in _ (by omega)
   | false =>
    have hi : i < ls.length := by omega
    have hic : i < cur.length := by omega
    have hset := dInts_set cur i cur[j]
    have hni := dInts_nth hic
    repeat first|refine n1 ?_|refine n2 ?_|refine n3 ?_|refine n4 ?_|refine n5 ?_|refine n6 ?_|refine n7 ?_|refine n8 ?_|refine n9 ?_|refine n0 ?_|refine ⟨⟨by omega, by omega⟩, ?_⟩|((first|refine rg 0 [0, 1] [0, 1] [] ?_|refine rg 1 [0, 1] [0, 1, 5] [] ?_|refine rg 2 [0, 1, 5] [0, 1, 5, 12] [] ?_|refine rg 3 [0] [4] [] ?_|refine rg 4 [0, 1, 5] [0, 1, 5, 6] [] ?_|refine rg 5 [0, 1, 5, 6] [0, 1, 5, 6, 19] [] ?_|refine rg 6 [0, 1, 5, 6] [0, 1, 5, 6] [] ?_|refine rg 7 [0, 1, 5, 6] [0, 1, 5, 6, 7] [] ?_|refine rg 8 [0, 1, 5, 6, 7] [0, 1, 5, 6, 7, 29] [] ?_|refine rg 9 [0, 1, 5, 6, 7] [0, 1, 5, 6] [] ?_|refine rg 10 [0, 1, 5, 6] [0, 1, 5, 6] [] ?_|refine rg 11 [0, 5] [0, 5] [] ?_|refine rg 12 [0, 5] [4] [] ?_|refine nc ?_);simp (maxSteps := 1000000) [hF, hp, hi, hic, hset, hni, hcl])
    obtain ⟨n1, n2⟩ := del_stays (q := fun x => !hasN fr x) hcl hij hj htk hdr (by rw [← hat]; simp [hp])
    refine nextK.of [0, 1, 5, 6] [0, 1, 2] (m - 1) (by omega) (by simp [hF]) ?_
    refine ⟨cur.set i cur[j], i + 1, j + 1, by omega, by omega, by simpa using hcl, by rw [hat]; exact n1, by rw [hat]; exact n2, ?_⟩
    simp [dBox]
    exact ⟨IntWalk.i64_in _ (by omega), IntWalk.i64_in _ (by omega)⟩
  ·obtain rfl : j = ls.length := by omega
   have hil : i ≤ ls.length := by omega
   have hil2 : (i : Int) ≤ ls.length := by omega
   rw [List.take_length] at htk
   have hlen : (ls.filter fun x => !hasN fr x).length = i := by rw [← htk, List.length_take]; omega
   have hfin : ∀ n x, (((dInts cur).take i).app (sq (List.replicate n x))).mid 0 i = dInts (ls.filter fun x => !hasN fr x) := fun n x => by
    rw [← htk, dInts, tail_mid (by simp; omega), ← List.map_take, ← dInts]
   repeat first|refine n1 ?_|refine n2 ?_|refine n3 ?_|refine n4 ?_|refine n5 ?_|refine n6 ?_|refine n7 ?_|refine n8 ?_|refine n9 ?_|refine n0 ?_|refine ⟨⟨by omega, by omega⟩, ?_⟩|((first|refine rg 0 [0, 1] [0, 1] [] ?_|refine rg 1 [0, 1] [0, 1, 5] [] ?_|refine rg 2 [0, 1, 5] [0, 1, 5, 12] [] ?_|refine rg 3 [0] [4] [] ?_|refine rg 4 [0, 1, 5] [0, 1, 5, 6] [] ?_|refine rg 5 [0, 1, 5, 6] [0, 1, 5, 6, 19] [] ?_|refine rg 6 [0, 1, 5, 6] [0, 1, 5, 6] [] ?_|refine rg 7 [0, 1, 5, 6] [0, 1, 5, 6, 7] [] ?_|refine rg 8 [0, 1, 5, 6, 7] [0, 1, 5, 6, 7, 29] [] ?_|refine rg 9 [0, 1, 5, 6, 7] [0, 1, 5, 6] [] ?_|refine rg 10 [0, 1, 5, 6] [0, 1, 5, 6] [] ?_|refine rg 11 [0, 5] [0, 5] [] ?_|refine rg 12 [0, 5] [4] [] ?_|refine nc ?_);simp (maxSteps := 1000000) [hF, hil, hil2, hcl])
   (try refine nr ?_);(repeat first|refine nb_ ?_|refine nl_ ?_);refine endK.o [4] [0, 1, 2] [(0, [])] ?_;simp [hF, retK, covers, mpre, dBox, hfin, hlen]
theorem grow_ok (n : Nat) (h1 : 1 ≤ n) (h2 : n ≤ 100000000) : Meets Try.prog 88 [] (.cons (.nils 1) (.cons (avInt n) .nil))
  fun av X κ => av = .sub 0 [] 0 0 false ∧ X = [.sl true () 1 (dInts (List.replicate n 0))] ∧ κ = [] := by
 have b1 : ¬ (n : Int) < 0 := by omega
 have b2 : (0 : Int) < n := by omega
 have b3 : IntKind.i64.wrap (n : Int) = n := IntWalk.i64_in _ (by omega)
 have b4 : IntKind.i64.wrap 0 = 0 := by decide
 have b5 : 0 < n := h1
 have b6 : (n : Int) * 8 ≤ 140737488355328 := by omega
 have b7 : (n : Int) ≤ 9223372036854775807 := by omega
 refine fb Try.func88 Try.ntmps88 [.tmp 4] fun w0 I0 F0 hF => ?_
 repeat first|refine n1 ?_|refine n2 ?_|refine n3 ?_|refine n4 ?_|refine n5 ?_|refine n6 ?_|refine n7 ?_|refine n8 ?_|refine n9 ?_|refine n0 ?_|refine ⟨⟨by omega, by omega⟩, ?_⟩|((first|refine rg 0 [0, 1] [0, 1] [] ?_|refine rg 1 [0, 1] [0, 1, 6] [] ?_|refine rg 2 [0, 1] [0, 1] [] ?_|refine rg 3 [0, 1] [0, 1] [] ?_|refine rg 4 [0, 1] [0, 1, 16] [] ?_|refine rg 5 [0, 1] [0] [] ?_|refine rg 6 [0] [4] [] ?_|refine nc ?_);simp (maxSteps := 1000000) [hF, b1, b2, b3, b4, b5, b6, b7, zeros_ints])
 (try refine nr ?_);(repeat first|refine nb_ ?_|refine nl_ ?_);refine endK.o [4] [0] [] ?_;simp [hF, retK, covers, mpre]
def dOs (l : List (Bool × List Int)) : D := sq (l.map fun o => .sl o.1 () 1 (dInts o.2))
@[simp] theorem dOs_len (l : List (Bool × List Int)) : (dOs l).len = l.length := by simp [dOs]
theorem dOs_nth {l : List (Bool × List Int)} {i : Nat} (h : i < l.length) : (dOs l).nth i = .sl l[i].1 () 1 (dInts l[i].2) := by
 rw [dOs, sq_nth_lt (by simpa using h)]; simp
def sizeOs : List (Bool × List Int) → Nat
 | [] => 0
 | o :: l => o.2.length + sizeOs l
def flatOs : List (Bool × List Int) → List Int
 | [] => []
 | o :: l => o.2 ++ flatOs l
theorem sizeOs_take : ∀ {l : List (Bool × List Int)} {i : Nat} (h : i < l.length), sizeOs (l.take (i + 1)) = sizeOs (l.take i) + l[i].2.length
 | o :: l, 0, _ => by simp [sizeOs]
 | o :: l, i + 1, h => by
  have := sizeOs_take (l := l) (i := i) (by simpa using h)
  simp only [List.take_succ_cons, sizeOs, List.getElem_cons_succ] at this ⊢
  omega
theorem flatOs_take : ∀ {l : List (Bool × List Int)} {i : Nat} (h : i < l.length), flatOs (l.take (i + 1)) = flatOs (l.take i) ++ l[i].2
 | o :: l, 0, _ => by simp [flatOs]
 | o :: l, i + 1, h => by
  have := flatOs_take (l := l) (i := i) (by simpa using h)
  simp only [List.take_succ_cons, flatOs, List.getElem_cons_succ] at this ⊢
  rw [this, List.append_assoc]
theorem flatOs_len : ∀ l : List (Bool × List Int), (flatOs l).length = sizeOs l
 | [] => rfl
 | o :: l => by simp [flatOs, sizeOs, flatOs_len l]
theorem sizeOs_le : ∀ (l : List (Bool × List Int)) (i : Nat), sizeOs (l.take i) ≤ sizeOs l
 | [], i => by simp [sizeOs]
 | o :: l, 0 => by simp [sizeOs]
 | o :: l, i + 1 => by
  have := sizeOs_le l i
  simp only [List.take_succ_cons, sizeOs]
  omega
theorem concat_ok (ex : Bool) (l : List (Bool × List Int)) (hl : l.length ≤ 1000) (h1 : 1 ≤ sizeOs l) (h2 : sizeOs l ≤ 100000000) : Meets Try.prog 75 [.sl true () 1 (dOs l)] (.cons (.sub 0 [] 0 l.length ex) .nil)
  fun av X κ => av = .imm 1 (dInts (flatOs l)) false ∧ X = [.sl true () 1 (dOs l)] ∧ κ = [] := by
 refine fb Try.func75 Try.ntmps75 [.tmp 2] fun w0 I0 F0 hF => ?_
 repeat first|refine n1 ?_|refine n2 ?_|refine n3 ?_|refine n4 ?_|refine n5 ?_|refine n6 ?_|refine n7 ?_|refine n8 ?_|refine n9 ?_|refine n0 ?_|refine ⟨⟨by omega, by omega⟩, ?_⟩|((first|refine rg 0 [0] [0] [] ?_|refine rg 1 [0] [0, 3] [] ?_|refine rg 2 [0, 3] [0, 3, 9, 10, 11] [] ?_|refine rg 3 [0, 3, 9, 10, 11] [0, 3, 9, 10, 11, 12] [] ?_|refine rg 4 [0, 3, 9, 10, 11] [0, 3, 5, 9, 10, 11] [] ?_|refine rg 5 [0, 3, 5, 9, 10, 11] [0, 3, 9, 10, 11] [] ?_|refine rg 6 [0, 3, 9, 10, 11] [0, 3, 9, 10, 11, 20] [] ?_|refine rg 7 [0, 3, 9, 10, 11] [0, 3, 9, 10, 11] [] ?_|refine rg 8 [0, 3, 9, 10, 11] [0, 3, 9, 10, 11] [] ?_|refine rg 9 [0, 3] [0, 6] [] ?_|refine rg 10 [0, 6] [6, 25, 26, 27] [] ?_|refine rg 11 [6, 25, 26, 27] [6, 25, 26, 27, 28] [] ?_|refine rg 12 [6, 25, 26, 27] [6, 8, 25, 26, 27] [] ?_|refine rg 13 [6, 8, 25, 26, 27] [6, 25, 26, 27] [] ?_|refine rg 14 [6, 25, 26, 27] [6, 25, 26, 27] [] ?_|refine rg 15 [6] [2] [] ?_|refine nc ?_);simp (maxSteps := 1000000) [hF])
 refine VS.rounds (fun m st => ∃ (i : Nat), i + m = l.length ∧ st = ⟨[(0, .sub 0 [] 0 l.length ex), (3, avInt (sizeOs (l.take i))), (9, .sub 0 [] 0 l.length ex), (10, avInt l.length), (11, avInt i)], [.sl true () 1 (dOs l)], [], []⟩) ⟨l.length, 0, by omega, by simp [sizeOs]⟩ ?_
 rintro m st ⟨i, hi, rfl⟩
 repeat first|refine n1 ?_|refine n2 ?_|refine n3 ?_|refine n4 ?_|refine n5 ?_|refine n6 ?_|refine n7 ?_|refine n8 ?_|refine n9 ?_|refine n0 ?_|refine ⟨⟨by omega, by omega⟩, ?_⟩|((first|refine rg 0 [0] [0] [] ?_|refine rg 1 [0] [0, 3] [] ?_|refine rg 2 [0, 3] [0, 3, 9, 10, 11] [] ?_|refine rg 3 [0, 3, 9, 10, 11] [0, 3, 9, 10, 11, 12] [] ?_|refine rg 4 [0, 3, 9, 10, 11] [0, 3, 5, 9, 10, 11] [] ?_|refine rg 5 [0, 3, 5, 9, 10, 11] [0, 3, 9, 10, 11] [] ?_|refine rg 6 [0, 3, 9, 10, 11] [0, 3, 9, 10, 11, 20] [] ?_|refine rg 7 [0, 3, 9, 10, 11] [0, 3, 9, 10, 11] [] ?_|refine rg 8 [0, 3, 9, 10, 11] [0, 3, 9, 10, 11] [] ?_|refine rg 9 [0, 3] [0, 6] [] ?_|refine rg 10 [0, 6] [6, 25, 26, 27] [] ?_|refine rg 11 [6, 25, 26, 27] [6, 25, 26, 27, 28] [] ?_|refine rg 12 [6, 25, 26, 27] [6, 8, 25, 26, 27] [] ?_|refine rg 13 [6, 8, 25, 26, 27] [6, 25, 26, 27] [] ?_|refine rg 14 [6, 25, 26, 27] [6, 25, 26, 27] [] ?_|refine rg 15 [6] [2] [] ?_|refine nc ?_);simp (maxSteps := 1000000) [hF])
 refine ⟨fun hlt => ?_, fun hge => ?_⟩
 ·have hi' : i < l.length := by omega
  have hn := dOs_nth hi'
  have hs := sizeOs_take hi'
  have hle := sizeOs_le l (i + 1)
  have hw : IntKind.i64.wrap ((sizeOs (l.take i) : Int) + (l[i].2.length : Int)) = ((sizeOs (l.take (i + 1)) : Nat) : Int) := by rw [IntWalk.i64_in _ (by omega)]; omega
  have hneg : ¬ ((sizeOs (l.take (i + 1)) : Nat) : Int) < 0 := by omega
  cases ho : l[i].1 with
  | true =>
   rw [ho] at hn
   repeat first|refine n1 ?_|refine n2 ?_|refine n3 ?_|refine n4 ?_|refine n5 ?_|refine n6 ?_|refine n7 ?_|refine n8 ?_|refine n9 ?_|refine n0 ?_|refine ⟨⟨by omega, by omega⟩, ?_⟩|((first|refine rg 0 [0] [0] [] ?_|refine rg 1 [0] [0, 3] [] ?_|refine rg 2 [0, 3] [0, 3, 9, 10, 11] [] ?_|refine rg 3 [0, 3, 9, 10, 11] [0, 3, 9, 10, 11, 12] [] ?_|refine rg 4 [0, 3, 9, 10, 11] [0, 3, 5, 9, 10, 11] [] ?_|refine rg 5 [0, 3, 5, 9, 10, 11] [0, 3, 9, 10, 11] [] ?_|refine rg 6 [0, 3, 9, 10, 11] [0, 3, 9, 10, 11, 20] [] ?_|refine rg 7 [0, 3, 9, 10, 11] [0, 3, 9, 10, 11] [] ?_|refine rg 8 [0, 3, 9, 10, 11] [0, 3, 9, 10, 11] [] ?_|refine rg 9 [0, 3] [0, 6] [] ?_|refine rg 10 [0, 6] [6, 25, 26, 27] [] ?_|refine rg 11 [6, 25, 26, 27] [6, 25, 26, 27, 28] [] ?_|refine rg 12 [6, 25, 26, 27] [6, 8, 25, 26, 27] [] ?_|refine rg 13 [6, 8, 25, 26, 27] [6, 25, 26, 27] [] ?_|refine rg 14 [6, 25, 26, 27] [6, 25, 26, 27] [] ?_|refine rg 15 [6] [2] [] ?_|refine nc ?_);simp (maxSteps := 1000000) [hF, hn, hi', hw, hneg])
   refine nextK.of [0, 3, 9, 10, 11] [0] (m - 1) (by omega) (by simp [hF]) ?_
   refine ⟨i + 1, by omega, ?_⟩
   simp
   exact IntWalk.i64_in _ (by omega)
  | false =>
   rw [ho] at hn
   repeat first|refine n1 ?_|refine n2 ?_|refine n3 ?_|refine n4 ?_|refine n5 ?_|refine n6 ?_|refine n7 ?_|refine n8 ?_|refine n9 ?_|refine n0 ?_|refine ⟨⟨by omega, by omega⟩, ?_⟩|((first|refine rg 0 [0] [0] [] ?_|refine rg 1 [0] [0, 3] [] ?_|refine rg 2 [0, 3] [0, 3, 9, 10, 11] [] ?_|refine rg 3 [0, 3, 9, 10, 11] [0, 3, 9, 10, 11, 12] [] ?_|refine rg 4 [0, 3, 9, 10, 11] [0, 3, 5, 9, 10, 11] [] ?_|refine rg 5 [0, 3, 5, 9, 10, 11] [0, 3, 9, 10, 11] [] ?_|refine rg 6 [0, 3, 9, 10, 11] [0, 3, 9, 10, 11, 20] [] ?_|refine rg 7 [0, 3, 9, 10, 11] [0, 3, 9, 10, 11] [] ?_|refine rg 8 [0, 3, 9, 10, 11] [0, 3, 9, 10, 11] [] ?_|refine rg 9 [0, 3] [0, 6] [] ?_|refine rg 10 [0, 6] [6, 25, 26, 27] [] ?_|refine rg 11 [6, 25, 26, 27] [6, 25, 26, 27, 28] [] ?_|refine rg 12 [6, 25, 26, 27] [6, 8, 25, 26, 27] [] ?_|refine rg 13 [6, 8, 25, 26, 27] [6, 25, 26, 27] [] ?_|refine rg 14 [6, 25, 26, 27] [6, 25, 26, 27] [] ?_|refine rg 15 [6] [2] [] ?_|refine nc ?_);simp (maxSteps := 1000000) [hF, hn, hi', hw, hneg])
   refine nextK.of [0, 3, 9, 10, 11] [0] (m - 1) (by omega) (by simp [hF]) ?_
   refine ⟨i + 1, by omega, ?_⟩
   simp
   exact IntWalk.i64_in _ (by omega)
 ·obtain rfl : i = l.length := by omega
  rw [List.take_length]
  repeat first|refine n1 ?_|refine n2 ?_|refine n3 ?_|refine n4 ?_|refine n5 ?_|refine n6 ?_|refine n7 ?_|refine n8 ?_|refine n9 ?_|refine n0 ?_|refine ⟨⟨by omega, by omega⟩, ?_⟩|((first|refine rg 0 [0] [0] [] ?_|refine rg 1 [0] [0, 3] [] ?_|refine rg 2 [0, 3] [0, 3, 9, 10, 11] [] ?_|refine rg 3 [0, 3, 9, 10, 11] [0, 3, 9, 10, 11, 12] [] ?_|refine rg 4 [0, 3, 9, 10, 11] [0, 3, 5, 9, 10, 11] [] ?_|refine rg 5 [0, 3, 5, 9, 10, 11] [0, 3, 9, 10, 11] [] ?_|refine rg 6 [0, 3, 9, 10, 11] [0, 3, 9, 10, 11, 20] [] ?_|refine rg 7 [0, 3, 9, 10, 11] [0, 3, 9, 10, 11] [] ?_|refine rg 8 [0, 3, 9, 10, 11] [0, 3, 9, 10, 11] [] ?_|refine rg 9 [0, 3] [0, 6] [] ?_|refine rg 10 [0, 6] [6, 25, 26, 27] [] ?_|refine rg 11 [6, 25, 26, 27] [6, 25, 26, 27, 28] [] ?_|refine rg 12 [6, 25, 26, 27] [6, 8, 25, 26, 27] [] ?_|refine rg 13 [6, 8, 25, 26, 27] [6, 25, 26, 27] [] ?_|refine rg 14 [6, 25, 26, 27] [6, 25, 26, 27] [] ?_|refine rg 15 [6] [2] [] ?_|refine nc ?_);simp (maxSteps := 1000000) [hF])
  refine (grow_ok (sizeOs l) h1 h2).go [] (by simp (maxSteps := 1000000) [hF]) ?_;rintro av X κ ⟨rfl, rfl, rfl⟩;simp (maxSteps := 1000000) [hF]
  repeat first|refine n1 ?_|refine n2 ?_|refine n3 ?_|refine n4 ?_|refine n5 ?_|refine n6 ?_|refine n7 ?_|refine n8 ?_|refine n9 ?_|refine n0 ?_|refine ⟨⟨by omega, by omega⟩, ?_⟩|((first|refine rg 0 [0] [0] [] ?_|refine rg 1 [0] [0, 3] [] ?_|refine rg 2 [0, 3] [0, 3, 9, 10, 11] [] ?_|refine rg 3 [0, 3, 9, 10, 11] [0, 3, 9, 10, 11, 12] [] ?_|refine rg 4 [0, 3, 9, 10, 11] [0, 3, 5, 9, 10, 11] [] ?_|refine rg 5 [0, 3, 5, 9, 10, 11] [0, 3, 9, 10, 11] [] ?_|refine rg 6 [0, 3, 9, 10, 11] [0, 3, 9, 10, 11, 20] [] ?_|refine rg 7 [0, 3, 9, 10, 11] [0, 3, 9, 10, 11] [] ?_|refine rg 8 [0, 3, 9, 10, 11] [0, 3, 9, 10, 11] [] ?_|refine rg 9 [0, 3] [0, 6] [] ?_|refine rg 10 [0, 6] [6, 25, 26, 27] [] ?_|refine rg 11 [6, 25, 26, 27] [6, 25, 26, 27, 28] [] ?_|refine rg 12 [6, 25, 26, 27] [6, 8, 25, 26, 27] [] ?_|refine rg 13 [6, 8, 25, 26, 27] [6, 25, 26, 27] [] ?_|refine rg 14 [6, 25, 26, 27] [6, 25, 26, 27] [] ?_|refine rg 15 [6] [2] [] ?_|refine nc ?_);simp (maxSteps := 1000000) [hF])
  refine VS.rounds (fun m st => ∃ (i : Nat) (s : D), i + m = l.length ∧ s.mid 0 (sizeOs (l.take i)) = dInts (flatOs (l.take i)) ∧ st = ⟨[(6, .sub 1 [] 0 (sizeOs (l.take i)) false), (25, .sub 0 [] 0 l.length ex), (26, avInt l.length), (27, avInt i)], [.sl true () 1 (dOs l), .sl true () 1 s], [], []⟩) ⟨l.length, 0, dInts (List.replicate (sizeOs l) 0), by omega, ?_, ?_⟩ ?_
  ·simp [sizeOs, flatOs, dInts_mid]
  ·simp [sizeOs]
  rintro m st ⟨i, s, hi, hs0, rfl⟩
  repeat first|refine n1 ?_|refine n2 ?_|refine n3 ?_|refine n4 ?_|refine n5 ?_|refine n6 ?_|refine n7 ?_|refine n8 ?_|refine n9 ?_|refine n0 ?_|refine ⟨⟨by omega, by omega⟩, ?_⟩|((first|refine rg 0 [0] [0] [] ?_|refine rg 1 [0] [0, 3] [] ?_|refine rg 2 [0, 3] [0, 3, 9, 10, 11] [] ?_|refine rg 3 [0, 3, 9, 10, 11] [0, 3, 9, 10, 11, 12] [] ?_|refine rg 4 [0, 3, 9, 10, 11] [0, 3, 5, 9, 10, 11] [] ?_|refine rg 5 [0, 3, 5, 9, 10, 11] [0, 3, 9, 10, 11] [] ?_|refine rg 6 [0, 3, 9, 10, 11] [0, 3, 9, 10, 11, 20] [] ?_|refine rg 7 [0, 3, 9, 10, 11] [0, 3, 9, 10, 11] [] ?_|refine rg 8 [0, 3, 9, 10, 11] [0, 3, 9, 10, 11] [] ?_|refine rg 9 [0, 3] [0, 6] [] ?_|refine rg 10 [0, 6] [6, 25, 26, 27] [] ?_|refine rg 11 [6, 25, 26, 27] [6, 25, 26, 27, 28] [] ?_|refine rg 12 [6, 25, 26, 27] [6, 8, 25, 26, 27] [] ?_|refine rg 13 [6, 8, 25, 26, 27] [6, 25, 26, 27] [] ?_|refine rg 14 [6, 25, 26, 27] [6, 25, 26, 27] [] ?_|refine rg 15 [6] [2] [] ?_|refine nc ?_);simp (maxSteps := 1000000) [hF])
  refine ⟨fun hlt => ?_, fun hge => ?_⟩
  ·have hi' : i < l.length := by omega
   have hn := dOs_nth hi'
   have hs := sizeOs_take hi'
   have hf := flatOs_take hi'
   have hle := sizeOs_le l (i + 1)
   have ha := dInts_app (flatOs (l.take i)) l[i].2
   have b1 : (sizeOs (l.take i) + l[i].2.length) * 8 ≤ 140737488355328 := by omega
   have b2 : sizeOs (l.take i) + l[i].2.length ≤ 9223372036854775807 := by omega
   have hfin : (dInts (flatOs (l.take i) ++ l[i].2)).mid 0 (sizeOs (l.take i) + l[i].2.length) = dInts (flatOs (l.take i) ++ l[i].2) := by
    rw [← hf, ← hs, ← flatOs_len]; simp
   cases ho : l[i].1 with
   | true =>
    rw [ho] at hn
    repeat first|refine n1 ?_|refine n2 ?_|refine n3 ?_|refine n4 ?_|refine n5 ?_|refine n6 ?_|refine n7 ?_|refine n8 ?_|refine n9 ?_|refine n0 ?_|refine ⟨⟨by omega, by omega⟩, ?_⟩|((first|refine rg 0 [0] [0] [] ?_|refine rg 1 [0] [0, 3] [] ?_|refine rg 2 [0, 3] [0, 3, 9, 10, 11] [] ?_|refine rg 3 [0, 3, 9, 10, 11] [0, 3, 9, 10, 11, 12] [] ?_|refine rg 4 [0, 3, 9, 10, 11] [0, 3, 5, 9, 10, 11] [] ?_|refine rg 5 [0, 3, 5, 9, 10, 11] [0, 3, 9, 10, 11] [] ?_|refine rg 6 [0, 3, 9, 10, 11] [0, 3, 9, 10, 11, 20] [] ?_|refine rg 7 [0, 3, 9, 10, 11] [0, 3, 9, 10, 11] [] ?_|refine rg 8 [0, 3, 9, 10, 11] [0, 3, 9, 10, 11] [] ?_|refine rg 9 [0, 3] [0, 6] [] ?_|refine rg 10 [0, 6] [6, 25, 26, 27] [] ?_|refine rg 11 [6, 25, 26, 27] [6, 25, 26, 27, 28] [] ?_|refine rg 12 [6, 25, 26, 27] [6, 8, 25, 26, 27] [] ?_|refine rg 13 [6, 8, 25, 26, 27] [6, 25, 26, 27] [] ?_|refine rg 14 [6, 25, 26, 27] [6, 25, 26, 27] [] ?_|refine rg 15 [6] [2] [] ?_|refine nc ?_);simp (maxSteps := 1000000) [hF, hn, hi', hs0, ha, b1, b2])
    refine nextK.of [6, 25, 26, 27] [0, 1] (m - 1) (by omega) (by simp [hF]) ?_
    refine ⟨i + 1, dInts (flatOs (l.take i) ++ l[i].2), by omega, by rw [hs, hf]; exact hfin, ?_⟩
    simp [hs]
    exact IntWalk.i64_in _ (by omega)
   | false =>
    rw [ho] at hn
    repeat first|refine n1 ?_|refine n2 ?_|refine n3 ?_|refine n4 ?_|refine n5 ?_|refine n6 ?_|refine n7 ?_|refine n8 ?_|refine n9 ?_|refine n0 ?_|refine ⟨⟨by omega, by omega⟩, ?_⟩|((first|refine rg 0 [0] [0] [] ?_|refine rg 1 [0] [0, 3] [] ?_|refine rg 2 [0, 3] [0, 3, 9, 10, 11] [] ?_|refine rg 3 [0, 3, 9, 10, 11] [0, 3, 9, 10, 11, 12] [] ?_|refine rg 4 [0, 3, 9, 10, 11] [0, 3, 5, 9, 10, 11] [] ?_|refine rg 5 [0, 3, 5, 9, 10, 11] [0, 3, 9, 10, 11] [] ?_|refine rg 6 [0, 3, 9, 10, 11] [0, 3, 9, 10, 11, 20] [] ?_|refine rg 7 [0, 3, 9, 10, 11] [0, 3, 9, 10, 11] [] ?_|refine rg 8 [0, 3, 9, 10, 11] [0, 3, 9, 10, 11] [] ?_|refine rg 9 [0, 3] [0, 6] [] ?_|refine rg 10 [0, 6] [6, 25, 26, 27] [] ?_|refine rg 11 [6, 25, 26, 27] [6, 25, 26, 27, 28] [] ?_|refine rg 12 [6, 25, 26, 27] [6, 8, 25, 26, 27] [] ?_|refine rg 13 [6, 8, 25, 26, 27] [6, 25, 26, 27] [] ?_|refine rg 14 [6, 25, 26, 27] [6, 25, 26, 27] [] ?_|refine rg 15 [6] [2] [] ?_|refine nc ?_);simp (maxSteps := 1000000) [hF, hn, hi', hs0, ha, b1, b2])
    refine nextK.of [6, 25, 26, 27] [0, 1] (m - 1) (by omega) (by simp [hF]) ?_
    refine ⟨i + 1, dInts (flatOs (l.take i) ++ l[i].2), by omega, by rw [hs, hf]; exact hfin, ?_⟩
    simp [hs]
    exact IntWalk.i64_in _ (by omega)
  ·obtain rfl : i = l.length := by omega
   rw [List.take_length] at hs0
   repeat first|refine n1 ?_|refine n2 ?_|refine n3 ?_|refine n4 ?_|refine n5 ?_|refine n6 ?_|refine n7 ?_|refine n8 ?_|refine n9 ?_|refine n0 ?_|refine ⟨⟨by omega, by omega⟩, ?_⟩|((first|refine rg 0 [0] [0] [] ?_|refine rg 1 [0] [0, 3] [] ?_|refine rg 2 [0, 3] [0, 3, 9, 10, 11] [] ?_|refine rg 3 [0, 3, 9, 10, 11] [0, 3, 9, 10, 11, 12] [] ?_|refine rg 4 [0, 3, 9, 10, 11] [0, 3, 5, 9, 10, 11] [] ?_|refine rg 5 [0, 3, 5, 9, 10, 11] [0, 3, 9, 10, 11] [] ?_|refine rg 6 [0, 3, 9, 10, 11] [0, 3, 9, 10, 11, 20] [] ?_|refine rg 7 [0, 3, 9, 10, 11] [0, 3, 9, 10, 11] [] ?_|refine rg 8 [0, 3, 9, 10, 11] [0, 3, 9, 10, 11] [] ?_|refine rg 9 [0, 3] [0, 6] [] ?_|refine rg 10 [0, 6] [6, 25, 26, 27] [] ?_|refine rg 11 [6, 25, 26, 27] [6, 25, 26, 27, 28] [] ?_|refine rg 12 [6, 25, 26, 27] [6, 8, 25, 26, 27] [] ?_|refine rg 13 [6, 8, 25, 26, 27] [6, 25, 26, 27] [] ?_|refine rg 14 [6, 25, 26, 27] [6, 25, 26, 27] [] ?_|refine rg 15 [6] [2] [] ?_|refine nc ?_);simp (maxSteps := 1000000) [hF])
   refine VS.cool 2 (by simp (maxSteps := 1000000) [hF, hs0]) ?_;simp [hF, St.cool, hs0]
   (try refine nr ?_);(repeat first|refine nb_ ?_|refine nl_ ?_);refine endK.o [2] [0] [] ?_;simp [hF, retK, covers, mpre]
theorem clone_ok (ex : Bool) (l : List Int) (hl : l.length ≤ 100000000) : Meets Try.prog 60 [] (.cons (.imm 1 (dInts l) ex) .nil)
  fun av X κ => av = .sub 0 [] 0 l.length false ∧ X = [.sl true () 1 (dInts l)] ∧ κ = [] := by
 refine fb Try.func60 Try.ntmps60 [.tmp 2] fun w0 I0 F0 hF => ?_
 repeat first|refine n1 ?_|refine n2 ?_|refine n3 ?_|refine n4 ?_|refine n5 ?_|refine n6 ?_|refine n7 ?_|refine n8 ?_|refine n9 ?_|refine n0 ?_|refine ⟨⟨by omega, by omega⟩, ?_⟩|((first|refine rg 0 [0] [0] [] ?_|refine rg 1 [0] [0, 4] [] ?_|refine rg 2 [] [2] [] ?_|refine rg 3 [0] [2] [] ?_|refine nc ?_);simp (maxSteps := 1000000) [hF])
 refine ⟨?_, fun h0 => ?_⟩
 ·repeat first|refine n1 ?_|refine n2 ?_|refine n3 ?_|refine n4 ?_|refine n5 ?_|refine n6 ?_|refine n7 ?_|refine n8 ?_|refine n9 ?_|refine n0 ?_|refine ⟨⟨by omega, by omega⟩, ?_⟩|((first|refine rg 0 [0] [0] [] ?_|refine rg 1 [0] [0, 4] [] ?_|refine rg 2 [] [2] [] ?_|refine rg 3 [0] [2] [] ?_|refine nc ?_);simp (maxSteps := 1000000) [hF])
  (try refine nr ?_);(repeat first|refine nb_ ?_|refine nl_ ?_);refine endK.o [2] [0] [] ?_;simp [hF, retK, covers, mpre]
 ·repeat first|refine n1 ?_|refine n2 ?_|refine n3 ?_|refine n4 ?_|refine n5 ?_|refine n6 ?_|refine n7 ?_|refine n8 ?_|refine n9 ?_|refine n0 ?_|refine ⟨⟨by omega, by omega⟩, ?_⟩|((first|refine rg 0 [0] [0] [] ?_|refine rg 1 [0] [0, 4] [] ?_|refine rg 2 [] [2] [] ?_|refine rg 3 [0] [2] [] ?_|refine nc ?_);simp (maxSteps := 1000000) [hF])
  refine VS.hold0 2 1 (by simp) ?_
  subst h0
  (try refine nr ?_);(repeat first|refine nb_ ?_|refine nl_ ?_);refine endK.o [2] [0] [] ?_;simp [hF, retK, covers, mpre, dInts]
theorem cloneI_ok (ex : Bool) (l : List Int) (hl : l.length ≤ 100000000) : Meets Try.prog 60 [] (.cons (.imm 1 (dInts l) ex) .nil)
  fun av X κ => av = .imm 1 (dInts l) false ∧ X = [] ∧ κ = [] := by
 refine fb Try.func60 Try.ntmps60 [.tmp 2] fun w0 I0 F0 hF => ?_
 repeat first|refine n1 ?_|refine n2 ?_|refine n3 ?_|refine n4 ?_|refine n5 ?_|refine n6 ?_|refine n7 ?_|refine n8 ?_|refine n9 ?_|refine n0 ?_|refine ⟨⟨by omega, by omega⟩, ?_⟩|((first|refine rg 0 [0] [0] [] ?_|refine rg 1 [0] [0, 4] [] ?_|refine rg 2 [] [2] [] ?_|refine rg 3 [0] [2] [] ?_|refine nc ?_);simp (maxSteps := 1000000) [hF])
 refine ⟨?_, fun h0 => ?_⟩
 ·repeat first|refine n1 ?_|refine n2 ?_|refine n3 ?_|refine n4 ?_|refine n5 ?_|refine n6 ?_|refine n7 ?_|refine n8 ?_|refine n9 ?_|refine n0 ?_|refine ⟨⟨by omega, by omega⟩, ?_⟩|((first|refine rg 0 [0] [0] [] ?_|refine rg 1 [0] [0, 4] [] ?_|refine rg 2 [] [2] [] ?_|refine rg 3 [0] [2] [] ?_|refine nc ?_);simp (maxSteps := 1000000) [hF])
  refine VS.cool 2 (by simp (maxSteps := 1000000) [hF]) ?_;simp [hF, St.cool]
  (try refine nr ?_);(repeat first|refine nb_ ?_|refine nl_ ?_);refine endK.o [2] [] [] ?_;simp [hF, retK, covers, mpre]
 ·repeat first|refine n1 ?_|refine n2 ?_|refine n3 ?_|refine n4 ?_|refine n5 ?_|refine n6 ?_|refine n7 ?_|refine n8 ?_|refine n9 ?_|refine n0 ?_|refine ⟨⟨by omega, by omega⟩, ?_⟩|((first|refine rg 0 [0] [0] [] ?_|refine rg 1 [0] [0, 4] [] ?_|refine rg 2 [] [2] [] ?_|refine rg 3 [0] [2] [] ?_|refine nc ?_);simp (maxSteps := 1000000) [hF])
  refine VS.hold0 2 1 (by simp) ?_
  subst h0
  refine VS.cool 2 (by simp (maxSteps := 1000000) [hF, T.freeze, T.mid, T.drop, T.take]) ?_;simp [hF, St.cool, T.freeze, T.mid, T.drop, T.take]
  (try refine nr ?_);(repeat first|refine nb_ ?_|refine nl_ ?_);refine endK.o [2] [] [] ?_;simp [hF, retK, covers, mpre]
def hd (x : List Int) : Int := x.headD 0
def total : List (List Int) → Nat
 | [] => 0
 | x :: l => x.length + total l
def dropHd (v : Int) (y : List Int) : List Int := if hd y = v then y.tail else y
def mergeF : Nat → List (List Int) → List Int → Option (List Int)
 | 0, _, _ => none
 | n + 1, ls, out =>
  if (ls.filter fun x => !nul x) = [] then some out
  else match (ls.filter fun x => !nul x).find? fun x => !inTails (ls.filter fun x => !nul x) (hd x) with
   | none => none
   | some x => mergeF n ((ls.filter fun x => !nul x).map (dropHd (hd x))) (out ++ [hd x])
def mergeOf (ls : List (List Int)) : Option (List Int) := mergeF (total ls + 1) ls []
theorem hd_eq {x : List Int} (h : 0 < x.length) : hd x = x[0] := by
 cases x with
 | nil => cases h
 | cons a l => rfl
theorem dInts_app1 (l : List Int) (x : Int) : (dInts l).app (.cons (.val (.int .i64 x)) .nil) = dInts (l ++ [x]) := dInts_app l [x]
theorem total_len {ls : List (List Int)} (h : ∀ y ∈ ls, 0 < y.length) : ls.length ≤ total ls := by
 induction ls with
 | nil => exact Nat.le_refl _
 | cons x l ih =>
  have h1 := h x List.mem_cons_self
  have h2 := ih fun y hy => h y (List.mem_cons_of_mem _ hy)
  simp only [List.length_cons, total]; omega
theorem total_filter (ls : List (List Int)) : total (ls.filter fun x => !nul x) = total ls := by
 induction ls with
 | nil => rfl
 | cons x l ih =>
  by_cases h : nul x = true
  ·have : x.length = 0 := by simpa [nul] using h
   simp [h, total, ih, this]
  ·simp [h, total, ih]
theorem total_drop_le (v : Int) (ls : List (List Int)) : total (ls.map (dropHd v)) ≤ total ls := by
 induction ls with
 | nil => exact Nat.le_refl _
 | cons x l ih =>
  have : (dropHd v x).length ≤ x.length := by unfold dropHd; split <;> simp
  simp only [List.map_cons, total]; omega
theorem total_drop_lt {v : Int} {ls : List (List Int)} {x : List Int} (hx : x ∈ ls) (h0 : 0 < x.length) (hv : hd x = v) : total (ls.map (dropHd v)) < total ls := by
 induction ls with
 | nil => cases hx
 | cons y l ih =>
  have hy : (dropHd v y).length ≤ y.length := by unfold dropHd; split <;> simp
  have hl := total_drop_le v l
  simp only [List.map_cons, total]
  rcases List.mem_cons.1 hx with rfl | hx
  ·have : (dropHd v x).length < x.length := by unfold dropHd; rw [if_pos hv]; simp; omega
   omega
  ·have := ih hx; omega
theorem filter_pos {ls : List (List Int)} {y : List Int} (h : y ∈ ls.filter fun x => !nul x) : 0 < y.length := by
 have := (List.mem_filter.1 h).2
 simp [nul] at this
 exact List.length_pos_iff.2 this
theorem total_mem {ls : List (List Int)} {y : List Int} (h : y ∈ ls) : y.length ≤ total ls := by
 induction ls with
 | nil => cases h
 | cons x l ih =>
  simp only [total]
  rcases List.mem_cons.1 h with rfl | h
  ·omega
  ·have := ih h; omega
theorem merge_ok (ls : List (List Int)) (hl : ls.length ≤ 10000) (ht : total ls ≤ 100000000) : Meets Try.prog 87 [.sl true () 1 (dLs ls)] (.cons (.sub 0 [] 0 ls.length false) .nil)
  fun av X κ => match mergeOf ls with
   | some o => av = .tup (.cons (.sub 1 [] 0 o.length false) (.cons (avBool true) .nil)) ∧ X = [.junk (), .sl true () 1 (dInts o)] ∧ κ = [(0, [])]
   | none => av = .tup (.cons (.nils 1) (.cons (avBool false) .nil)) ∧ X = [.junk ()] ∧ κ = [(0, [])] := by
 refine fb Try.func87 Try.ntmps87 [.tmp 2, .tmp 3] fun w0 I0 F0 hF => ?_
 repeat first|refine n1 ?_|refine n2 ?_|refine n3 ?_|refine n4 ?_|refine n5 ?_|refine n6 ?_|refine n7 ?_|refine n8 ?_|refine n9 ?_|refine n0 ?_|refine ⟨⟨by omega, by omega⟩, ?_⟩|((first|refine rg 1 [1] [1, 4] [] ?_|refine rg 2 [1, 4] [1, 4] [] ?_|refine rg 3 [1, 4] [1, 4, 13] [] ?_|refine rg 4 [4] [2, 3] [] ?_|refine rg 5 [1, 4] [1, 4, 5] [] ?_|refine rg 6 [1, 4, 5] [1, 4, 5, 19] [] ?_|refine rg 7 [] [2, 3] [] ?_|refine rg 8 [1, 4, 5] [1, 4, 6] [] ?_|refine rg 9 [1, 4, 6] [1, 4, 6] [] ?_|refine rg 10 [1, 4, 6] [1, 4, 6, 30, 31, 32] [] ?_|refine rg 11 [1, 4, 6, 30, 31, 32] [1, 4, 6, 30, 31, 32, 33] [] ?_|refine rg 12 [1, 4, 6, 30, 31, 32] [1, 4, 6, 7, 8, 30, 31, 32] [] ?_|refine rg 13 [1, 4, 6, 7, 8, 30, 31, 32] [1, 4, 6, 7, 8, 30, 31, 32, 41] [] ?_|(refine dr 14 0 [1, 4, 6, 7, 8, 30, 31, 32] [1, 4, 6, 30, 31, 32] [] [⟨0, 2, 4398046511104, 6⟩, ⟨0, 128, 8796093022208, 5⟩, ⟨0, 256, 17592186044416, 5⟩, ⟨4, 17592186044416, 35184372088832, 5⟩, ⟨15, 13194139533312, 70368744177664, 5⟩, ⟨31, 105553116266496, 0, 0⟩] (.take 0 (.take 1 (.take 2 (.take 3 (.take 4 (.fork (.alt 5 (.done) (.nil)))))))) (.run [0, 1, 2, 3, 4, 5] (.done)) ?_;simp only [drs])|refine rg 15 [1, 4, 6, 30, 31, 32] [1, 4, 6, 30, 31, 32] [] ?_|refine nc ?_);simp (maxSteps := 1000000) [hF])
 refine ghostL 0 [] ?_;simp (maxSteps := 1000000) [hF, St.lift, AV.lift, liftPl, stripP, nodeAV, isNode]
 refine VS.forget ?_;simp [hF, St.forget]
 repeat first|refine n1 ?_|refine n2 ?_|refine n3 ?_|refine n4 ?_|refine n5 ?_|refine n6 ?_|refine n7 ?_|refine n8 ?_|refine n9 ?_|refine n0 ?_|refine ⟨⟨by omega, by omega⟩, ?_⟩|((first|refine rg 0 [0] [1] [] ?_|refine rg 1 [1] [1, 4] [] ?_|refine rg 2 [1, 4] [1, 4] [] ?_|refine rg 3 [1, 4] [1, 4, 13] [] ?_|refine rg 4 [4] [2, 3] [] ?_|refine rg 5 [1, 4] [1, 4, 5] [] ?_|refine rg 6 [1, 4, 5] [1, 4, 5, 19] [] ?_|refine rg 7 [] [2, 3] [] ?_|refine rg 8 [1, 4, 5] [1, 4, 6] [] ?_|refine rg 9 [1, 4, 6] [1, 4, 6] [] ?_|refine rg 10 [1, 4, 6] [1, 4, 6, 30, 31, 32] [] ?_|refine rg 11 [1, 4, 6, 30, 31, 32] [1, 4, 6, 30, 31, 32, 33] [] ?_|refine rg 12 [1, 4, 6, 30, 31, 32] [1, 4, 6, 7, 8, 30, 31, 32] [] ?_|refine rg 13 [1, 4, 6, 7, 8, 30, 31, 32] [1, 4, 6, 7, 8, 30, 31, 32, 41] [] ?_|(refine dr 14 0 [1, 4, 6, 7, 8, 30, 31, 32] [1, 4, 6, 30, 31, 32] [] [⟨0, 2, 4398046511104, 6⟩, ⟨0, 128, 8796093022208, 5⟩, ⟨0, 256, 17592186044416, 5⟩, ⟨4, 17592186044416, 35184372088832, 5⟩, ⟨15, 13194139533312, 70368744177664, 5⟩, ⟨31, 105553116266496, 0, 0⟩] (.take 0 (.take 1 (.take 2 (.take 3 (.take 4 (.fork (.alt 5 (.done) (.nil)))))))) (.run [0, 1, 2, 3, 4, 5] (.done)) ?_;simp only [drs])|refine rg 15 [1, 4, 6, 30, 31, 32] [1, 4, 6, 30, 31, 32] [] ?_|refine nc ?_);simp (maxSteps := 1000000) [hF])
 refine VS.hold0 4 1 (by simp) ?_
 refine VS.pick [1, 4] [0, 2, 3] (by simp [hF]) ?_;simp [hF]
 refine VS.rounds (fun m st => ∃ (cur : List (List Int)) (out : List Int) (f : Nat), m = total cur ∧ total cur < f ∧ mergeF f cur out = mergeOf ls ∧ cur.length ≤ ls.length ∧ total cur + out.length ≤ total ls ∧
  st = ⟨[(1, .ptr 1 [.d]), (4, .sub 2 [] 0 out.length false)], [.junk (), dBoxL cur, .sl true () 1 (dInts out)], [(0, [])], []⟩)
  ⟨total ls, ls, [], total ls + 1, rfl, by omega, rfl, Nat.le_refl _, by simp, by simp [dBoxL]⟩ ?_
 rintro m st ⟨cur, out, f, rfl, hf, hmo, hcl, htot, rfl⟩
 obtain ⟨f, rfl⟩ : ∃ f', f = f' + 1 := ⟨f - 1, by omega⟩
 have hpos : ∀ y ∈ (cur.filter fun x => !nul x), 0 < y.length := fun y hy => filter_pos hy
 have htf := total_filter cur
 have hll := total_len hpos
 have hfl : (cur.filter fun x => !nul x).length ≤ cur.length := List.length_filter_le _ _
 have hle : ∀ y ∈ (cur.filter fun x => !nul x), y.length ≤ 100000000 := fun y hy => by have := total_mem hy; omega
 unfold mergeF at hmo
 repeat first|refine n1 ?_|refine n2 ?_|refine n3 ?_|refine n4 ?_|refine n5 ?_|refine n6 ?_|refine n7 ?_|refine n8 ?_|refine n9 ?_|refine n0 ?_|refine ⟨⟨by omega, by omega⟩, ?_⟩|((first|refine rg 0 [0] [1] [] ?_|refine rg 1 [1] [1, 4] [] ?_|refine rg 2 [1, 4] [1, 4] [] ?_|refine rg 3 [1, 4] [1, 4, 13] [] ?_|refine rg 4 [4] [2, 3] [] ?_|refine rg 5 [1, 4] [1, 4, 5] [] ?_|refine rg 6 [1, 4, 5] [1, 4, 5, 19] [] ?_|refine rg 7 [] [2, 3] [] ?_|refine rg 8 [1, 4, 5] [1, 4, 6] [] ?_|refine rg 9 [1, 4, 6] [1, 4, 6] [] ?_|refine rg 10 [1, 4, 6] [1, 4, 6, 30, 31, 32] [] ?_|refine rg 11 [1, 4, 6, 30, 31, 32] [1, 4, 6, 30, 31, 32, 33] [] ?_|refine rg 12 [1, 4, 6, 30, 31, 32] [1, 4, 6, 7, 8, 30, 31, 32] [] ?_|refine rg 13 [1, 4, 6, 7, 8, 30, 31, 32] [1, 4, 6, 7, 8, 30, 31, 32, 41] [] ?_|(refine dr 14 0 [1, 4, 6, 7, 8, 30, 31, 32] [1, 4, 6, 30, 31, 32] [] [⟨0, 2, 4398046511104, 6⟩, ⟨0, 128, 8796093022208, 5⟩, ⟨0, 256, 17592186044416, 5⟩, ⟨4, 17592186044416, 35184372088832, 5⟩, ⟨15, 13194139533312, 70368744177664, 5⟩, ⟨31, 105553116266496, 0, 0⟩] (.take 0 (.take 1 (.take 2 (.take 3 (.take 4 (.fork (.alt 5 (.done) (.nil)))))))) (.run [0, 1, 2, 3, 4, 5] (.done)) ?_;simp only [drs])|refine rg 15 [1, 4, 6, 30, 31, 32] [1, 4, 6, 30, 31, 32] [] ?_|refine nc ?_);simp (maxSteps := 1000000) [hF, dBoxL])
 refine (delLs_ok cur (by omega)).go [(1, [.d])] (by simp (maxSteps := 1000000) [hF, dBoxL]) ?_;rintro av X κ ⟨s1, m1, rfl, rfl, rfl, hs1, hm1⟩;simp (maxSteps := 1000000) [hF, dBoxL]
 generalize (cur.filter fun x => !nul x) = l at *
 subst hm1
 repeat first|refine n1 ?_|refine n2 ?_|refine n3 ?_|refine n4 ?_|refine n5 ?_|refine n6 ?_|refine n7 ?_|refine n8 ?_|refine n9 ?_|refine n0 ?_|refine ⟨⟨by omega, by omega⟩, ?_⟩|((first|refine rg 0 [0] [1] [] ?_|refine rg 1 [1] [1, 4] [] ?_|refine rg 2 [1, 4] [1, 4] [] ?_|refine rg 3 [1, 4] [1, 4, 13] [] ?_|refine rg 4 [4] [2, 3] [] ?_|refine rg 5 [1, 4] [1, 4, 5] [] ?_|refine rg 6 [1, 4, 5] [1, 4, 5, 19] [] ?_|refine rg 7 [] [2, 3] [] ?_|refine rg 8 [1, 4, 5] [1, 4, 6] [] ?_|refine rg 9 [1, 4, 6] [1, 4, 6] [] ?_|refine rg 10 [1, 4, 6] [1, 4, 6, 30, 31, 32] [] ?_|refine rg 11 [1, 4, 6, 30, 31, 32] [1, 4, 6, 30, 31, 32, 33] [] ?_|refine rg 12 [1, 4, 6, 30, 31, 32] [1, 4, 6, 7, 8, 30, 31, 32] [] ?_|refine rg 13 [1, 4, 6, 7, 8, 30, 31, 32] [1, 4, 6, 7, 8, 30, 31, 32, 41] [] ?_|(refine dr 14 0 [1, 4, 6, 7, 8, 30, 31, 32] [1, 4, 6, 30, 31, 32] [] [⟨0, 2, 4398046511104, 6⟩, ⟨0, 128, 8796093022208, 5⟩, ⟨0, 256, 17592186044416, 5⟩, ⟨4, 17592186044416, 35184372088832, 5⟩, ⟨15, 13194139533312, 70368744177664, 5⟩, ⟨31, 105553116266496, 0, 0⟩] (.take 0 (.take 1 (.take 2 (.take 3 (.take 4 (.fork (.alt 5 (.done) (.nil)))))))) (.run [0, 1, 2, 3, 4, 5] (.done)) ?_;simp only [drs])|refine rg 15 [1, 4, 6, 30, 31, 32] [1, 4, 6, 30, 31, 32] [] ?_|refine nc ?_);simp (maxSteps := 1000000) [hF, hs1])
 refine ⟨fun hl0 => ?_, fun hl0 => ?_⟩
 ·rw [if_pos hl0] at hmo
  rw [← hmo]
  repeat first|refine n1 ?_|refine n2 ?_|refine n3 ?_|refine n4 ?_|refine n5 ?_|refine n6 ?_|refine n7 ?_|refine n8 ?_|refine n9 ?_|refine n0 ?_|refine ⟨⟨by omega, by omega⟩, ?_⟩|((first|refine rg 0 [0] [1] [] ?_|refine rg 1 [1] [1, 4] [] ?_|refine rg 2 [1, 4] [1, 4] [] ?_|refine rg 3 [1, 4] [1, 4, 13] [] ?_|refine rg 4 [4] [2, 3] [] ?_|refine rg 5 [1, 4] [1, 4, 5] [] ?_|refine rg 6 [1, 4, 5] [1, 4, 5, 19] [] ?_|refine rg 7 [] [2, 3] [] ?_|refine rg 8 [1, 4, 5] [1, 4, 6] [] ?_|refine rg 9 [1, 4, 6] [1, 4, 6] [] ?_|refine rg 10 [1, 4, 6] [1, 4, 6, 30, 31, 32] [] ?_|refine rg 11 [1, 4, 6, 30, 31, 32] [1, 4, 6, 30, 31, 32, 33] [] ?_|refine rg 12 [1, 4, 6, 30, 31, 32] [1, 4, 6, 7, 8, 30, 31, 32] [] ?_|refine rg 13 [1, 4, 6, 7, 8, 30, 31, 32] [1, 4, 6, 7, 8, 30, 31, 32, 41] [] ?_|(refine dr 14 0 [1, 4, 6, 7, 8, 30, 31, 32] [1, 4, 6, 30, 31, 32] [] [⟨0, 2, 4398046511104, 6⟩, ⟨0, 128, 8796093022208, 5⟩, ⟨0, 256, 17592186044416, 5⟩, ⟨4, 17592186044416, 35184372088832, 5⟩, ⟨15, 13194139533312, 70368744177664, 5⟩, ⟨31, 105553116266496, 0, 0⟩] (.take 0 (.take 1 (.take 2 (.take 3 (.take 4 (.fork (.alt 5 (.done) (.nil)))))))) (.run [0, 1, 2, 3, 4, 5] (.done)) ?_;simp only [drs])|refine rg 15 [1, 4, 6, 30, 31, 32] [1, 4, 6, 30, 31, 32] [] ?_|refine nc ?_);simp (maxSteps := 1000000) [hF])
  (try refine nr ?_);(repeat first|refine nb_ ?_|refine nl_ ?_);refine endK.o [2, 3] [0, 2] [(0, [])] ?_;simp [hF, retK, covers, mpre]
 ·rw [if_neg hl0] at hmo
  refine VS.pick [1, 4] [0, 1, 2] (by simp [hF]) ?_;simp [hF]
  repeat first|refine n1 ?_|refine n2 ?_|refine n3 ?_|refine n4 ?_|refine n5 ?_|refine n6 ?_|refine n7 ?_|refine n8 ?_|refine n9 ?_|refine n0 ?_|refine ⟨⟨by omega, by omega⟩, ?_⟩|((first|refine rg 0 [0] [1] [] ?_|refine rg 1 [1] [1, 4] [] ?_|refine rg 2 [1, 4] [1, 4] [] ?_|refine rg 3 [1, 4] [1, 4, 13] [] ?_|refine rg 4 [4] [2, 3] [] ?_|refine rg 5 [1, 4] [1, 4, 5] [] ?_|refine rg 6 [1, 4, 5] [1, 4, 5, 19] [] ?_|refine rg 7 [] [2, 3] [] ?_|refine rg 8 [1, 4, 5] [1, 4, 6] [] ?_|refine rg 9 [1, 4, 6] [1, 4, 6] [] ?_|refine rg 10 [1, 4, 6] [1, 4, 6, 30, 31, 32] [] ?_|refine rg 11 [1, 4, 6, 30, 31, 32] [1, 4, 6, 30, 31, 32, 33] [] ?_|refine rg 12 [1, 4, 6, 30, 31, 32] [1, 4, 6, 7, 8, 30, 31, 32] [] ?_|refine rg 13 [1, 4, 6, 7, 8, 30, 31, 32] [1, 4, 6, 7, 8, 30, 31, 32, 41] [] ?_|(refine dr 14 0 [1, 4, 6, 7, 8, 30, 31, 32] [1, 4, 6, 30, 31, 32] [] [⟨0, 2, 4398046511104, 6⟩, ⟨0, 128, 8796093022208, 5⟩, ⟨0, 256, 17592186044416, 5⟩, ⟨4, 17592186044416, 35184372088832, 5⟩, ⟨15, 13194139533312, 70368744177664, 5⟩, ⟨31, 105553116266496, 0, 0⟩] (.take 0 (.take 1 (.take 2 (.take 3 (.take 4 (.fork (.alt 5 (.done) (.nil)))))))) (.run [0, 1, 2, 3, 4, 5] (.done)) ?_;simp only [drs])|refine rg 15 [1, 4, 6, 30, 31, 32] [1, 4, 6, 30, 31, 32] [] ?_|refine nc ?_);simp (maxSteps := 1000000) [hF])
  refine (indexFunc_2 false l (by omega) (fun x => !inTails l (hd x)) (fun i h => by have hp := hpos _ (List.getElem_mem h); rw [hd_eq hp]; exact m2_ok false l l[i] (by omega) hpos hle hp)).go [(1, [])] (by simp (maxSteps := 1000000) [hF, dBoxL]) ?_;rintro av X κ ⟨rfl, rfl, rfl⟩;simp (maxSteps := 1000000) [hF, dBoxL]
  by_cases hat : ixF (fun x => !inTails l (hd x)) l = -1
  ·have hfind : l.find? (fun x => !inTails l (hd x)) = none := by
    rw [List.find?_eq_none]
    intro x hx
    have := ixF_none hat
    rw [List.filter_eq_self] at this
    have := this x hx
    simpa using this
   rw [hfind] at hmo
   simp only at hmo
   rw [← hmo]
   repeat first|refine n1 ?_|refine n2 ?_|refine n3 ?_|refine n4 ?_|refine n5 ?_|refine n6 ?_|refine n7 ?_|refine n8 ?_|refine n9 ?_|refine n0 ?_|refine ⟨⟨by omega, by omega⟩, ?_⟩|((first|refine rg 0 [0] [1] [] ?_|refine rg 1 [1] [1, 4] [] ?_|refine rg 2 [1, 4] [1, 4] [] ?_|refine rg 3 [1, 4] [1, 4, 13] [] ?_|refine rg 4 [4] [2, 3] [] ?_|refine rg 5 [1, 4] [1, 4, 5] [] ?_|refine rg 6 [1, 4, 5] [1, 4, 5, 19] [] ?_|refine rg 7 [] [2, 3] [] ?_|refine rg 8 [1, 4, 5] [1, 4, 6] [] ?_|refine rg 9 [1, 4, 6] [1, 4, 6] [] ?_|refine rg 10 [1, 4, 6] [1, 4, 6, 30, 31, 32] [] ?_|refine rg 11 [1, 4, 6, 30, 31, 32] [1, 4, 6, 30, 31, 32, 33] [] ?_|refine rg 12 [1, 4, 6, 30, 31, 32] [1, 4, 6, 7, 8, 30, 31, 32] [] ?_|refine rg 13 [1, 4, 6, 7, 8, 30, 31, 32] [1, 4, 6, 7, 8, 30, 31, 32, 41] [] ?_|(refine dr 14 0 [1, 4, 6, 7, 8, 30, 31, 32] [1, 4, 6, 30, 31, 32] [] [⟨0, 2, 4398046511104, 6⟩, ⟨0, 128, 8796093022208, 5⟩, ⟨0, 256, 17592186044416, 5⟩, ⟨4, 17592186044416, 35184372088832, 5⟩, ⟨15, 13194139533312, 70368744177664, 5⟩, ⟨31, 105553116266496, 0, 0⟩] (.take 0 (.take 1 (.take 2 (.take 3 (.take 4 (.fork (.alt 5 (.done) (.nil)))))))) (.run [0, 1, 2, 3, 4, 5] (.done)) ?_;simp only [drs])|refine rg 15 [1, 4, 6, 30, 31, 32] [1, 4, 6, 30, 31, 32] [] ?_|refine nc ?_);simp (maxSteps := 1000000) [hF, hat])
   (try refine nr ?_);(repeat first|refine nb_ ?_|refine nl_ ?_);refine endK.o [2, 3] [0] [(0, [])] ?_;simp [hF, retK, covers, mpre]
  ·obtain ⟨i0, hi0, he, hp0, hall⟩ := ixF_some hat
   have hfind : l.find? (fun x => !inTails l (hd x)) = some l[i0] := by
    rw [List.find?_eq_some_iff_getElem]
    exact ⟨hp0, i0, hi0, rfl, fun j hj => by simpa using hall j hj⟩
   rw [hfind] at hmo
   simp only at hmo
   have hn := dLs_nth hi0
   have hx0 := hpos _ (List.getElem_mem hi0)
   have hn0 := dInts_nth hx0
   have hhd := hd_eq hx0
   have hlt := total_drop_lt (List.getElem_mem hi0) hx0 rfl
   rw [hhd] at hmo hlt
   have happ := dInts_app1 out l[i0][0]
   have b1 : (out.length + 1) * 8 ≤ 140737488355328 := by omega
   have b2 : out.length + 1 ≤ 9223372036854775807 := by omega
   have hneg : ¬ (i0 : Int) < 0 := by omega
   repeat first|refine n1 ?_|refine n2 ?_|refine n3 ?_|refine n4 ?_|refine n5 ?_|refine n6 ?_|refine n7 ?_|refine n8 ?_|refine n9 ?_|refine n0 ?_|refine ⟨⟨by omega, by omega⟩, ?_⟩|((first|refine rg 0 [0] [1] [] ?_|refine rg 1 [1] [1, 4] [] ?_|refine rg 2 [1, 4] [1, 4] [] ?_|refine rg 3 [1, 4] [1, 4, 13] [] ?_|refine rg 4 [4] [2, 3] [] ?_|refine rg 5 [1, 4] [1, 4, 5] [] ?_|refine rg 6 [1, 4, 5] [1, 4, 5, 19] [] ?_|refine rg 7 [] [2, 3] [] ?_|refine rg 8 [1, 4, 5] [1, 4, 6] [] ?_|refine rg 9 [1, 4, 6] [1, 4, 6] [] ?_|refine rg 10 [1, 4, 6] [1, 4, 6, 30, 31, 32] [] ?_|refine rg 11 [1, 4, 6, 30, 31, 32] [1, 4, 6, 30, 31, 32, 33] [] ?_|refine rg 12 [1, 4, 6, 30, 31, 32] [1, 4, 6, 7, 8, 30, 31, 32] [] ?_|refine rg 13 [1, 4, 6, 7, 8, 30, 31, 32] [1, 4, 6, 7, 8, 30, 31, 32, 41] [] ?_|(refine dr 14 0 [1, 4, 6, 7, 8, 30, 31, 32] [1, 4, 6, 30, 31, 32] [] [⟨0, 2, 4398046511104, 6⟩, ⟨0, 128, 8796093022208, 5⟩, ⟨0, 256, 17592186044416, 5⟩, ⟨4, 17592186044416, 35184372088832, 5⟩, ⟨15, 13194139533312, 70368744177664, 5⟩, ⟨31, 105553116266496, 0, 0⟩] (.take 0 (.take 1 (.take 2 (.take 3 (.take 4 (.fork (.alt 5 (.done) (.nil)))))))) (.run [0, 1, 2, 3, 4, 5] (.done)) ?_;simp only [drs])|refine rg 15 [1, 4, 6, 30, 31, 32] [1, 4, 6, 30, 31, 32] [] ?_|refine nc ?_);simp (maxSteps := 1000000) [hF, he, hn, hx0, hn0, hi0, happ, b1, b2, hneg, dBoxL])
   have hdone : ((dInts (out ++ [l[i0][0]])).mid 0 (out.length + 1)) = dInts (out ++ [l[i0][0]]) := sq_mid_all _ _ (by simp)
   generalize l[i0][0] = v at *
   refine VS.pick [1, 4, 6, 30, 31, 32] [0, 1, 2] (by simp [hF]) ?_;simp [hF]
   refine VS.rounds (fun m2 st => ∃ (k : Nat), k + m2 = l.length ∧ st = ⟨[(1, .ptr 1 [.d]), (4, .sub 2 [] 0 (out.length + 1) false), (6, avInt v), (30, .sub 1 [.d] 0 l.length false), (31, avInt l.length), (32, avInt k)],
    [.junk (), dBoxL ((l.map (dropHd v)).take k ++ l.drop k), .sl true () 1 (dInts (out ++ [v]))], [(0, [])], []⟩) ⟨l.length, 0, by omega, by simp [dBoxL]⟩ ?_
   rintro m2 st ⟨k, hk, rfl⟩
   repeat first|refine n1 ?_|refine n2 ?_|refine n3 ?_|refine n4 ?_|refine n5 ?_|refine n6 ?_|refine n7 ?_|refine n8 ?_|refine n9 ?_|refine n0 ?_|refine ⟨⟨by omega, by omega⟩, ?_⟩|((first|refine rg 0 [0] [1] [] ?_|refine rg 1 [1] [1, 4] [] ?_|refine rg 2 [1, 4] [1, 4] [] ?_|refine rg 3 [1, 4] [1, 4, 13] [] ?_|refine rg 4 [4] [2, 3] [] ?_|refine rg 5 [1, 4] [1, 4, 5] [] ?_|refine rg 6 [1, 4, 5] [1, 4, 5, 19] [] ?_|refine rg 7 [] [2, 3] [] ?_|refine rg 8 [1, 4, 5] [1, 4, 6] [] ?_|refine rg 9 [1, 4, 6] [1, 4, 6] [] ?_|refine rg 10 [1, 4, 6] [1, 4, 6, 30, 31, 32] [] ?_|refine rg 11 [1, 4, 6, 30, 31, 32] [1, 4, 6, 30, 31, 32, 33] [] ?_|refine rg 12 [1, 4, 6, 30, 31, 32] [1, 4, 6, 7, 8, 30, 31, 32] [] ?_|refine rg 13 [1, 4, 6, 7, 8, 30, 31, 32] [1, 4, 6, 7, 8, 30, 31, 32, 41] [] ?_|(refine dr 14 0 [1, 4, 6, 7, 8, 30, 31, 32] [1, 4, 6, 30, 31, 32] [] [⟨0, 2, 4398046511104, 6⟩, ⟨0, 128, 8796093022208, 5⟩, ⟨0, 256, 17592186044416, 5⟩, ⟨4, 17592186044416, 35184372088832, 5⟩, ⟨15, 13194139533312, 70368744177664, 5⟩, ⟨31, 105553116266496, 0, 0⟩] (.take 0 (.take 1 (.take 2 (.take 3 (.take 4 (.fork (.alt 5 (.done) (.nil)))))))) (.run [0, 1, 2, 3, 4, 5] (.done)) ?_;simp only [drs])|refine rg 15 [1, 4, 6, 30, 31, 32] [1, 4, 6, 30, 31, 32] [] ?_|refine nc ?_);simp (maxSteps := 1000000) [hF, dBoxL])
   refine ⟨fun hlt2 => ?_, fun hge2 => ?_⟩
   ·have hkl : k < l.length := by omega
    have hclen : ((l.map (dropHd v)).take k ++ l.drop k).length = l.length := by simp; omega
    have hkl2 : k < ((l.map (dropHd v)).take k ++ l.drop k).length := by omega
    have hcur : ((l.map (dropHd v)).take k ++ l.drop k)[k] = l[k] := by
     rw [List.getElem_append_right (by simp; omega)]
     simp [Nat.min_eq_left (Nat.le_of_lt hkl)]
    have hnk := dLs_nth hkl2
    rw [hcur] at hnk
    have hx1 := hpos _ (List.getElem_mem hkl)
    have hn1 := dInts_nth hx1
    have hhk := hd_eq hx1
    have hnext : ∀ y, y = dropHd v l[k] → ((l.map (dropHd v)).take k ++ l.drop k).set k y = (l.map (dropHd v)).take (k + 1) ++ l.drop (k + 1) := fun y hy => by
     subst hy
     rw [List.set_append_right _ _ (by simp; omega)]
     simp only [List.length_map, List.length_take, Nat.min_eq_left (Nat.le_of_lt hkl), Nat.sub_self]
     rw [List.drop_eq_getElem_cons hkl, List.set_cons_zero, List.take_add_one, List.getElem?_map, List.getElem?_eq_getElem hkl]
     simp
    have hsetk := dLs_set ((l.map (dropHd v)).take k ++ l.drop k) k l[k].tail
    have htl := dInts_tail l[k]
    have hx1' : (1 : Int) ≤ l[k].length := by omega
    have hx1'' : 1 ≤ l[k].length := by omega
    repeat first|refine n1 ?_|refine n2 ?_|refine n3 ?_|refine n4 ?_|refine n5 ?_|refine n6 ?_|refine n7 ?_|refine n8 ?_|refine n9 ?_|refine n0 ?_|refine ⟨⟨by omega, by omega⟩, ?_⟩|((first|refine rg 0 [0] [1] [] ?_|refine rg 1 [1] [1, 4] [] ?_|refine rg 2 [1, 4] [1, 4] [] ?_|refine rg 3 [1, 4] [1, 4, 13] [] ?_|refine rg 4 [4] [2, 3] [] ?_|refine rg 5 [1, 4] [1, 4, 5] [] ?_|refine rg 6 [1, 4, 5] [1, 4, 5, 19] [] ?_|refine rg 7 [] [2, 3] [] ?_|refine rg 8 [1, 4, 5] [1, 4, 6] [] ?_|refine rg 9 [1, 4, 6] [1, 4, 6] [] ?_|refine rg 10 [1, 4, 6] [1, 4, 6, 30, 31, 32] [] ?_|refine rg 11 [1, 4, 6, 30, 31, 32] [1, 4, 6, 30, 31, 32, 33] [] ?_|refine rg 12 [1, 4, 6, 30, 31, 32] [1, 4, 6, 7, 8, 30, 31, 32] [] ?_|refine rg 13 [1, 4, 6, 7, 8, 30, 31, 32] [1, 4, 6, 7, 8, 30, 31, 32, 41] [] ?_|(refine dr 14 0 [1, 4, 6, 7, 8, 30, 31, 32] [1, 4, 6, 30, 31, 32] [] [⟨0, 2, 4398046511104, 6⟩, ⟨0, 128, 8796093022208, 5⟩, ⟨0, 256, 17592186044416, 5⟩, ⟨4, 17592186044416, 35184372088832, 5⟩, ⟨15, 13194139533312, 70368744177664, 5⟩, ⟨31, 105553116266496, 0, 0⟩] (.take 0 (.take 1 (.take 2 (.take 3 (.take 4 (.fork (.alt 5 (.done) (.nil)))))))) (.run [0, 1, 2, 3, 4, 5] (.done)) ?_;simp only [drs])|refine rg 15 [1, 4, 6, 30, 31, 32] [1, 4, 6, 30, 31, 32] [] ?_|refine nc ?_);simp (maxSteps := 1000000) [hF, hkl, hkl2, hclen, hnk, hx1, hn1, dBoxL])
    refine ⟨fun hv => ?_, fun hv => ?_⟩
    ·have hd1 := hnext l[k].tail (by unfold dropHd; rw [if_pos (by rw [hhk, hv])])
     repeat first|refine n1 ?_|refine n2 ?_|refine n3 ?_|refine n4 ?_|refine n5 ?_|refine n6 ?_|refine n7 ?_|refine n8 ?_|refine n9 ?_|refine n0 ?_|refine ⟨⟨by omega, by omega⟩, ?_⟩|((first|refine rg 0 [0] [1] [] ?_|refine rg 1 [1] [1, 4] [] ?_|refine rg 2 [1, 4] [1, 4] [] ?_|refine rg 3 [1, 4] [1, 4, 13] [] ?_|refine rg 4 [4] [2, 3] [] ?_|refine rg 5 [1, 4] [1, 4, 5] [] ?_|refine rg 6 [1, 4, 5] [1, 4, 5, 19] [] ?_|refine rg 7 [] [2, 3] [] ?_|refine rg 8 [1, 4, 5] [1, 4, 6] [] ?_|refine rg 9 [1, 4, 6] [1, 4, 6] [] ?_|refine rg 10 [1, 4, 6] [1, 4, 6, 30, 31, 32] [] ?_|refine rg 11 [1, 4, 6, 30, 31, 32] [1, 4, 6, 30, 31, 32, 33] [] ?_|refine rg 12 [1, 4, 6, 30, 31, 32] [1, 4, 6, 7, 8, 30, 31, 32] [] ?_|refine rg 13 [1, 4, 6, 7, 8, 30, 31, 32] [1, 4, 6, 7, 8, 30, 31, 32, 41] [] ?_|(refine dr 14 0 [1, 4, 6, 7, 8, 30, 31, 32] [1, 4, 6, 30, 31, 32] [] [⟨0, 2, 4398046511104, 6⟩, ⟨0, 128, 8796093022208, 5⟩, ⟨0, 256, 17592186044416, 5⟩, ⟨4, 17592186044416, 35184372088832, 5⟩, ⟨15, 13194139533312, 70368744177664, 5⟩, ⟨31, 105553116266496, 0, 0⟩] (.take 0 (.take 1 (.take 2 (.take 3 (.take 4 (.fork (.alt 5 (.done) (.nil)))))))) (.run [0, 1, 2, 3, 4, 5] (.done)) ?_;simp only [drs])|refine rg 15 [1, 4, 6, 30, 31, 32] [1, 4, 6, 30, 31, 32] [] ?_|refine nc ?_);simp (maxSteps := 1000000) [hF, hkl, hkl2, hclen, hnk, hx1, hn1, htl, hsetk, hx1', hx1'', dBoxL])
     refine nextK.of [1, 4, 6, 30, 31, 32] [0, 1, 2] (m2 - 1) (by omega) (by simp [hF]) ?_
     refine ⟨k + 1, by omega, ?_⟩
     rw [← hd1]
     simp [dBoxL]
     exact IntWalk.i64_in _ (by omega)
    ·have hd1 := hnext l[k] (by unfold dropHd; rw [if_neg (by rw [hhk]; exact hv)])
     have hself : ((l.map (dropHd v)).take k ++ l.drop k).set k l[k] = (l.map (dropHd v)).take k ++ l.drop k := by
      rw [← hcur]; exact List.set_getElem_self _
     rw [hself] at hd1
     repeat first|refine n1 ?_|refine n2 ?_|refine n3 ?_|refine n4 ?_|refine n5 ?_|refine n6 ?_|refine n7 ?_|refine n8 ?_|refine n9 ?_|refine n0 ?_|refine ⟨⟨by omega, by omega⟩, ?_⟩|((first|refine rg 0 [0] [1] [] ?_|refine rg 1 [1] [1, 4] [] ?_|refine rg 2 [1, 4] [1, 4] [] ?_|refine rg 3 [1, 4] [1, 4, 13] [] ?_|refine rg 4 [4] [2, 3] [] ?_|refine rg 5 [1, 4] [1, 4, 5] [] ?_|refine rg 6 [1, 4, 5] [1, 4, 5, 19] [] ?_|refine rg 7 [] [2, 3] [] ?_|refine rg 8 [1, 4, 5] [1, 4, 6] [] ?_|refine rg 9 [1, 4, 6] [1, 4, 6] [] ?_|refine rg 10 [1, 4, 6] [1, 4, 6, 30, 31, 32] [] ?_|refine rg 11 [1, 4, 6, 30, 31, 32] [1, 4, 6, 30, 31, 32, 33] [] ?_|refine rg 12 [1, 4, 6, 30, 31, 32] [1, 4, 6, 7, 8, 30, 31, 32] [] ?_|refine rg 13 [1, 4, 6, 7, 8, 30, 31, 32] [1, 4, 6, 7, 8, 30, 31, 32, 41] [] ?_|(refine dr 14 0 [1, 4, 6, 7, 8, 30, 31, 32] [1, 4, 6, 30, 31, 32] [] [⟨0, 2, 4398046511104, 6⟩, ⟨0, 128, 8796093022208, 5⟩, ⟨0, 256, 17592186044416, 5⟩, ⟨4, 17592186044416, 35184372088832, 5⟩, ⟨15, 13194139533312, 70368744177664, 5⟩, ⟨31, 105553116266496, 0, 0⟩] (.take 0 (.take 1 (.take 2 (.take 3 (.take 4 (.fork (.alt 5 (.done) (.nil)))))))) (.run [0, 1, 2, 3, 4, 5] (.done)) ?_;simp only [drs])|refine rg 15 [1, 4, 6, 30, 31, 32] [1, 4, 6, 30, 31, 32] [] ?_|refine nc ?_);simp (maxSteps := 1000000) [hF])
     refine nextK.of [1, 4, 6, 30, 31, 32] [0, 1, 2] (m2 - 1) (by omega) (by simp [hF]) ?_
     refine ⟨k + 1, by omega, ?_⟩
     rw [← hd1]
     simp [dBoxL]
     exact IntWalk.i64_in _ (by omega)
   ·obtain rfl : k = l.length := by omega
    have hall2 : (l.map (dropHd v)).take l.length = l.map (dropHd v) := List.take_of_length_le (by simp)
    repeat first|refine n1 ?_|refine n2 ?_|refine n3 ?_|refine n4 ?_|refine n5 ?_|refine n6 ?_|refine n7 ?_|refine n8 ?_|refine n9 ?_|refine n0 ?_|refine ⟨⟨by omega, by omega⟩, ?_⟩|((first|refine rg 0 [0] [1] [] ?_|refine rg 1 [1] [1, 4] [] ?_|refine rg 2 [1, 4] [1, 4] [] ?_|refine rg 3 [1, 4] [1, 4, 13] [] ?_|refine rg 4 [4] [2, 3] [] ?_|refine rg 5 [1, 4] [1, 4, 5] [] ?_|refine rg 6 [1, 4, 5] [1, 4, 5, 19] [] ?_|refine rg 7 [] [2, 3] [] ?_|refine rg 8 [1, 4, 5] [1, 4, 6] [] ?_|refine rg 9 [1, 4, 6] [1, 4, 6] [] ?_|refine rg 10 [1, 4, 6] [1, 4, 6, 30, 31, 32] [] ?_|refine rg 11 [1, 4, 6, 30, 31, 32] [1, 4, 6, 30, 31, 32, 33] [] ?_|refine rg 12 [1, 4, 6, 30, 31, 32] [1, 4, 6, 7, 8, 30, 31, 32] [] ?_|refine rg 13 [1, 4, 6, 7, 8, 30, 31, 32] [1, 4, 6, 7, 8, 30, 31, 32, 41] [] ?_|(refine dr 14 0 [1, 4, 6, 7, 8, 30, 31, 32] [1, 4, 6, 30, 31, 32] [] [⟨0, 2, 4398046511104, 6⟩, ⟨0, 128, 8796093022208, 5⟩, ⟨0, 256, 17592186044416, 5⟩, ⟨4, 17592186044416, 35184372088832, 5⟩, ⟨15, 13194139533312, 70368744177664, 5⟩, ⟨31, 105553116266496, 0, 0⟩] (.take 0 (.take 1 (.take 2 (.take 3 (.take 4 (.fork (.alt 5 (.done) (.nil)))))))) (.run [0, 1, 2, 3, 4, 5] (.done)) ?_;simp only [drs])|refine rg 15 [1, 4, 6, 30, 31, 32] [1, 4, 6, 30, 31, 32] [] ?_|refine nc ?_);simp (maxSteps := 1000000) [hF])
    refine nextK.of [1, 4] [0, 1, 2] (total (l.map (dropHd v))) (by omega) (by simp [hF]) ?_
    refine ⟨l.map (dropHd v), out ++ [v], f, rfl, by omega, hmo, by simp; omega, by simp; omega, ?_⟩
    simp [dBoxL, hall2]
end Go.Proofs.Ytbhigdljojlhnaa

/- The orders of things: plain facts, no program in sight. -/
namespace Go.Proofs.Ytbhigdljojlhnaa
set_option linter.all false
open Go.Vc Go.Proofs
theorem mem_dropHd {v u : Int} {y : List Int} (h : u ∈ dropHd v y) : u ∈ y := by
 unfold dropHd at h
 split at h
 ·exact List.mem_of_mem_tail h
 ·exact h
theorem inTails_false {ls : List (List Int)} {v : Int} (h : inTails ls v = false) : ∀ y ∈ ls, v ∉ y.tail := by
 intro y hy hv
 have : inTails ls v = true := List.any_eq_true.2 ⟨y, hy, hasN_iff.2 hv⟩
 rw [h] at this; cases this
theorem not_mem_dropHd {v : Int} {y : List Int} (h : v ∉ y.tail) : v ∉ dropHd v y := by
 unfold dropHd
 split
 ·exact h
 ·rename_i hh
  cases y with
  | nil => simp
  | cons a l =>
   intro hm
   rcases List.mem_cons.1 hm with rfl | hm
   ·exact hh rfl
   ·exact h hm
theorem dropHd_sub {v : Int} {y rest : List Int} (h0 : 0 < y.length) (h : (dropHd v y).Sublist rest) : y.Sublist (v :: rest) := by
 unfold dropHd at h
 split at h
 ·rename_i hh
  cases y with
  | nil => cases h0
  | cons a l => obtain rfl : a = v := hh; exact h.cons₂ _
 ·exact h.cons _
theorem merge_spec : ∀ (f : Nat) (ls : List (List Int)) (out o : List Int), mergeF f ls out = some o → (∀ y ∈ ls, y.Nodup) →
  ∃ rest, o = out ++ rest ∧ rest.Nodup ∧ (∀ y ∈ ls, y.Sublist rest) ∧ ∀ v ∈ rest, ∃ y ∈ ls, v ∈ y
 | 0, _, _, _, h, _ => by cases h
 | f + 1, ls, out, o, h, hn => by
  unfold mergeF at h
  have hnil : ∀ y ∈ ls, y ∉ (ls.filter fun x => !nul x) → y = [] := fun y hy hm => by
   have : ¬ (!nul y) = true := fun h => hm (List.mem_filter.2 ⟨hy, h⟩)
   simpa [nul] using this
  split at h
  ·rename_i h0
   cases h
   refine ⟨[], by simp, List.nodup_nil, fun y hy => ?_, fun v hv => by cases hv⟩
   rw [hnil y hy (by rw [h0]; simp)]
   exact List.Sublist.slnil
  ·split at h
   ·cases h
   ·rename_i x hx
    have hxm := List.mem_of_find?_eq_some hx
    have hxp := List.find?_some hx
    have hxt := inTails_false (by simpa using hxp)
    have hfl : ∀ y ∈ (ls.filter fun x => !nul x), y ∈ ls := fun y hy => (List.mem_filter.1 hy).1
    have hsub : ∀ y ∈ (ls.filter fun x => !nul x).map (dropHd (hd x)), y.Nodup := fun y hy => by
     obtain ⟨z, hz, rfl⟩ := List.mem_map.1 hy
     have := hn z (hfl z hz)
     unfold dropHd
     split
     ·exact this.sublist (List.tail_sublist _)
     ·exact this
    obtain ⟨rest, ho, hr, hs, hm⟩ := merge_spec f _ _ _ h hsub
    have hall : ∀ z ∈ rest, ∃ y ∈ ls, z ∈ y := fun z hz => by
     obtain ⟨y, hy, hzy⟩ := hm z hz
     obtain ⟨u, hu, rfl⟩ := List.mem_map.1 hy
     exact ⟨u, hfl u hu, mem_dropHd hzy⟩
    refine ⟨hd x :: rest, by rw [ho]; simp, List.nodup_cons.2 ⟨fun hz => ?_, hr⟩, fun y hy => ?_, fun v hv => ?_⟩
    ·obtain ⟨y, hy, hzy⟩ := hm _ hz
     obtain ⟨u, hu, rfl⟩ := List.mem_map.1 hy
     exact not_mem_dropHd (hxt u hu) hzy
    ·by_cases hyf : y ∈ (ls.filter fun x => !nul x)
     ·exact dropHd_sub (filter_pos hyf) (hs _ (List.mem_map.2 ⟨y, hyf, rfl⟩))
     ·rw [hnil y hy hyf]; exact List.nil_sublist _
    ·rcases List.mem_cons.1 hv with rfl | hv
     ·refine ⟨x, hfl x hxm, ?_⟩
      have := filter_pos hxm
      rw [hd_eq this]; exact List.getElem_mem _
     ·exact hall v hv
def ordersOf (g : Int → Option (List Int)) : List Int → Option (List (List Int))
 | [] => some []
 | t :: l => match g t with
  | none => none
  | some o => (ordersOf g l).map fun r => o :: r
def mergedF (g : Int → Option (List Int)) (things : List Int) : Option (List Int) := (ordersOf g things).bind fun ls => mergeOf (ls ++ [things])
theorem ordersOf_mem {g : Int → Option (List Int)} : ∀ {l : List Int} {ls : List (List Int)}, ordersOf g l = some ls → (∀ o ∈ ls, ∃ t ∈ l, g t = some o) ∧ (∀ t ∈ l, ∃ o ∈ ls, g t = some o) ∧ ls.length = l.length
 | [], ls, h => by cases h; exact ⟨(fun o h => by cases h), (fun o h => by cases h), rfl⟩
 | t :: l, ls, h => by
  unfold ordersOf at h
  split at h
  ·cases h
  ·rename_i o ho
   cases hr : ordersOf g l with
   | none => rw [hr] at h; cases h
   | some r =>
    rw [hr] at h
    cases h
    obtain ⟨h1, h2, h3⟩ := ordersOf_mem hr
    refine ⟨fun o' ho' => ?_, fun t' ht' => ?_, by simp [h3]⟩
    ·rcases List.mem_cons.1 ho' with rfl | ho'
     ·exact ⟨t, List.mem_cons_self, ho⟩
     ·obtain ⟨t', q1, q2⟩ := h1 o' ho'; exact ⟨t', List.mem_cons_of_mem _ q1, q2⟩
    ·rcases List.mem_cons.1 ht' with rfl | ht'
     ·exact ⟨o, List.mem_cons_self, ho⟩
     ·obtain ⟨o', q1, q2⟩ := h2 t' ht'; exact ⟨o', List.mem_cons_of_mem _ q1, q2⟩
theorem ordersOf_congr {g g' : Int → Option (List Int)} : ∀ {l : List Int}, (∀ t ∈ l, g t = g' t) → ordersOf g l = ordersOf g' l
 | [], _ => rfl
 | t :: l, h => by
  unfold ordersOf
  rw [h t List.mem_cons_self, ordersOf_congr fun t ht => h t (List.mem_cons_of_mem _ ht)]
theorem ordersOf_mono {g g' : Int → Option (List Int)} (hg : ∀ t o, g t = some o → g' t = some o) : ∀ {l : List Int} {ls : List (List Int)}, ordersOf g l = some ls → ordersOf g' l = some ls
 | [], _, h => h
 | t :: l, ls, h => by
  unfold ordersOf at h ⊢
  split at h
  ·cases h
  ·rename_i o ho
   rw [hg t o ho]
   cases hr : ordersOf g l with
   | none => rw [hr] at h; cases h
   | some r => rw [hr] at h; simp only; rw [ordersOf_mono hg hr]; exact h
theorem mergedF_congr {g g' : Int → Option (List Int)} {l : List Int} (h : ∀ t ∈ l, g t = g' t) : mergedF g l = mergedF g' l := by
 unfold mergedF; rw [ordersOf_congr h]
theorem mergedF_mono {g g' : Int → Option (List Int)} (hg : ∀ t o, g t = some o → g' t = some o) {l o : List Int} (h : mergedF g l = some o) : mergedF g' l = some o := by
 unfold mergedF at *
 cases hr : ordersOf g l with
 | none => rw [hr] at h; cases h
 | some r => rw [hr] at h; rw [ordersOf_mono hg hr]; exact h
theorem merged_spec {g : Int → Option (List Int)} {l o : List Int} (h : mergedF g l = some o) (hl : l.Nodup) (hg : ∀ t ∈ l, ∀ ot, g t = some ot → ot.Nodup) :
  o.Nodup ∧ l.Sublist o ∧ (∀ t ∈ l, ∃ ot, g t = some ot ∧ ot.Sublist o) ∧ ∀ v ∈ o, v ∈ l ∨ ∃ t ∈ l, ∃ ot, g t = some ot ∧ v ∈ ot := by
 unfold mergedF at h
 cases hr : ordersOf g l with
 | none => rw [hr] at h; cases h
 | some ls =>
  rw [hr] at h
  simp only [Option.bind_some] at h
  obtain ⟨h1, h2, _⟩ := ordersOf_mem hr
  obtain ⟨rest, ho, hn, hs, hm⟩ := merge_spec _ _ _ _ h (fun y hy => by
   rcases List.mem_append.1 hy with hy | hy
   ·obtain ⟨t, ht, he⟩ := h1 y hy; exact hg t ht y he
   ·simp only [List.mem_singleton] at hy; subst hy; exact hl)
  simp only [List.nil_append] at ho
  subst ho
  refine ⟨hn, hs _ (by simp), fun t ht => ?_, fun v hv => ?_⟩
  ·obtain ⟨ot, q1, q2⟩ := h2 t ht
   exact ⟨ot, q2, hs _ (by simp [q1])⟩
  ·obtain ⟨y, hy, hvy⟩ := hm v hv
   rcases List.mem_append.1 hy with hy | hy
   ·obtain ⟨t, ht, he⟩ := h1 y hy; exact .inr ⟨t, ht, y, he, hvy⟩
   ·simp only [List.mem_singleton] at hy; subst hy; exact .inl hvy
def parents (x : Th) : List Int := x.ins ++ if 0 ≤ x.sup then [x.sup] else []
def ordF : Nat → List Th → Int → Option (List Int)
 | 0, _, _ => none
 | n + 1, L, t => match L[t.toNat]? with
  | none => none
  | some x => match mergedF (ordF n L) x.bef with
   | none => none
   | some front => match mergedF (ordF n L) (parents x) with
    | none => none
    | some behind => some (front ++ [t] ++ behind.filter fun v => !hasN front v)
theorem ordF_succ {L : List Th} : ∀ {n : Nat} {t : Int} {o : List Int}, ordF n L t = some o → ordF (n + 1) L t = some o
 | 0, _, _, h => by cases h
 | n + 1, t, o, h => by
  unfold ordF at h ⊢
  split at h
  ·cases h
  ·split at h
   ·cases h
   ·rename_i front hf
    split at h
    ·cases h
    ·rename_i behind hb
     rw [mergedF_mono (fun t o => ordF_succ (n := n)) hf]
     simp only
     rw [mergedF_mono (fun t o => ordF_succ (n := n)) hb]
     exact h
theorem ordF_mono {L : List Th} {n m : Nat} (h : n ≤ m) {t : Int} {o : List Int} (ho : ordF n L t = some o) : ordF m L t = some o := by
 induction h with
 | refl => exact ho
 | step _ ih => exact ordF_succ ih
structure Base (L : List Th) (r : Int → Nat) : Prop where
 edge : ∀ (t : Nat) (x : Th), L[t]? = some x → ∀ u, u ∈ x.bef ∨ u ∈ parents x → 0 ≤ u ∧ u < L.length ∧ r u < r t
 nb : ∀ (t : Nat) (x : Th), L[t]? = some x → x.bef.Nodup
 np : ∀ (t : Nat) (x : Th), L[t]? = some x → (parents x).Nodup
 len : L.length ≤ 1000
theorem ordF_stable {L : List Th} {r : Int → Nat} (B : Base L r) : ∀ {n m : Nat} {t : Int}, 0 ≤ t → r t < n → r t < m → ordF n L t = ordF m L t
 | 0, _, _, _, h, _ => by omega
 | _, 0, _, _, _, h => by omega
 | n + 1, m + 1, t, h0, hn, hm => by
  unfold ordF
  cases hx : L[t.toNat]? with
  | none => rfl
  | some x =>
   have hg : ∀ u, u ∈ x.bef ∨ u ∈ parents x → ordF n L u = ordF m L u := fun u hu => by
    obtain ⟨q1, q2, q3⟩ := B.edge _ _ hx u hu
    have ht : ((t.toNat : Nat) : Int) = t := by omega
    rw [ht] at q3
    exact ordF_stable B q1 (by omega) (by omega)
   simp only
   rw [mergedF_congr fun u hu => hg u (.inl hu), mergedF_congr fun u hu => hg u (.inr hu)]
open Classical in
noncomputable def ordOf (L : List Th) (t : Int) : Option (List Int) := if h : ∃ o n, ordF n L t = some o then some (Classical.choose h) else none
theorem ordOf_of {L : List Th} {n : Nat} {t : Int} {o : List Int} (h : ordF n L t = some o) : ordOf L t = some o := by
 have hex : ∃ o n, ordF n L t = some o := ⟨o, n, h⟩
 unfold ordOf
 rw [dif_pos hex]
 obtain ⟨m, hm⟩ := Classical.choose_spec hex
 have h1 := ordF_mono (Nat.le_max_left n m) h
 have h2 := ordF_mono (Nat.le_max_right n m) hm
 rw [h1] at h2
 exact h2.symm
theorem ordOf_eq {L : List Th} {r : Int → Nat} (B : Base L r) {n : Nat} {t : Int} (h0 : 0 ≤ t) (hn : r t < n) : ordOf L t = ordF n L t := by
 cases h : ordF n L t with
 | some o => exact ordOf_of h
 | none =>
  unfold ordOf
  rw [dif_neg]
  rintro ⟨o, m, hm⟩
  have h2 := ordF_mono (Nat.le_max_right n m) hm
  have h3 := ordF_stable B h0 hn (show r t < max n m by omega)
  rw [h, h2] at h3
  cases h3
theorem ordOf_step {L : List Th} {r : Int → Nat} (B : Base L r) {t : Nat} {x : Th} (hx : L[t]? = some x) :
  ordOf L t = match mergedF (ordOf L) x.bef with
   | none => none
   | some front => match mergedF (ordOf L) (parents x) with
    | none => none
    | some behind => some (front ++ [(t : Int)] ++ behind.filter fun v => !hasN front v) := by
 have hg : ∀ u, u ∈ x.bef ∨ u ∈ parents x → ordF (r t) L u = ordOf L u := fun u hu => by
  obtain ⟨q1, q2, q3⟩ := B.edge _ _ hx u hu
  exact (ordOf_eq B q1 q3).symm
 rw [ordOf_eq B (n := r t + 1) (by omega) (by omega)]
 unfold ordF
 simp only [Int.toNat_natCast, hx]
 rw [mergedF_congr fun u hu => hg u (.inl hu), mergedF_congr fun u hu => hg u (.inr hu)]
theorem ordF_spec {L : List Th} {r : Int → Nat} (B : Base L r) : ∀ {n t : Nat} {o : List Int}, t < L.length → ordF n L t = some o →
  o.Nodup ∧ (t : Int) ∈ o ∧ ∀ v ∈ o, 0 ≤ v ∧ v < L.length ∧ (v = t ∨ r v < r t)
 | 0, _, _, _, h => by cases h
 | n + 1, t, o, ht, h => by
  unfold ordF at h
  simp only [Int.toNat_natCast] at h
  cases hx : L[t]? with
  | none => rw [hx] at h; cases h
  | some x =>
   rw [hx] at h
   simp only at h
   split at h
   ·cases h
   ·rename_i front hf
    split at h
    ·cases h
    ·rename_i behind hb
     cases h
     have each : ∀ u, u ∈ x.bef ∨ u ∈ parents x → ∀ ou, ordF n L u = some ou → ou.Nodup ∧ ∀ v ∈ ou, 0 ≤ v ∧ v < L.length ∧ r v < r t := fun u hu ou hou => by
      obtain ⟨q1, q2, q3⟩ := B.edge _ _ hx u hu
      obtain ⟨k, rfl⟩ : ∃ k : Nat, u = k := ⟨u.toNat, by omega⟩
      obtain ⟨s1, s2, s3⟩ := ordF_spec B (n := n) (by omega) hou
      refine ⟨s1, fun v hv => ?_⟩
      obtain ⟨w1, w2, w3⟩ := s3 v hv
      refine ⟨w1, w2, ?_⟩
      rcases w3 with rfl | w3 <;> omega
     obtain ⟨f1, f2, f3, f4⟩ := merged_spec hf (B.nb _ _ hx) (fun u hu ou ho => (each u (.inl hu) ou ho).1)
     obtain ⟨b1, b2, b3, b4⟩ := merged_spec hb (B.np _ _ hx) (fun u hu ou ho => (each u (.inr hu) ou ho).1)
     have hfv : ∀ v ∈ front, 0 ≤ v ∧ v < L.length ∧ r v < r t := fun v hv => by
      rcases f4 v hv with h | ⟨u, hu, ou, ho, hv⟩
      ·exact B.edge _ _ hx v (.inl h)
      ·exact (each u (.inl hu) ou ho).2 v hv
     have hbv : ∀ v ∈ behind, 0 ≤ v ∧ v < L.length ∧ r v < r t := fun v hv => by
      rcases b4 v hv with h | ⟨u, hu, ou, ho, hv⟩
      ·exact B.edge _ _ hx v (.inr h)
      ·exact (each u (.inr hu) ou ho).2 v hv
     have hne : ∀ v, r v < r t → v ≠ t := fun v hv e => by subst e; omega
     refine ⟨?_, by simp, fun v hv => ?_⟩
     ·rw [List.nodup_append, List.nodup_append]
      refine ⟨⟨f1, by simp, fun a ha b hb => ?_⟩, b1.filter _, fun a ha b hb => ?_⟩
      ·simp only [List.mem_singleton] at hb; subst hb
       exact hne a (hfv a ha).2.2
      ·obtain ⟨hb1, hb2⟩ := List.mem_filter.1 hb
       rcases List.mem_append.1 ha with ha | ha
       ·intro e; subst e
        simp [hasN_iff.2 ha] at hb2
       ·simp only [List.mem_singleton] at ha; subst ha
        exact (hne b (hbv b hb1).2.2).symm
     ·rcases List.mem_append.1 hv with hv | hv
      ·rcases List.mem_append.1 hv with hv | hv
       ·obtain ⟨q1, q2, q3⟩ := hfv v hv; exact ⟨q1, q2, .inr q3⟩
       ·simp only [List.mem_singleton] at hv; subst hv
        exact ⟨by omega, by omega, .inl rfl⟩
      ·obtain ⟨q1, q2, q3⟩ := hbv v (List.mem_filter.1 hv).1; exact ⟨q1, q2, .inr q3⟩
theorem ordOf_some {L : List Th} {t : Int} {o : List Int} (h : ordOf L t = some o) : ∃ n, ordF n L t = some o := by
 unfold ordOf at h
 split at h
 ·rename_i hex
  cases h
  exact Classical.choose_spec hex
 ·cases h
theorem ordOf_spec {L : List Th} {r : Int → Nat} (B : Base L r) {t : Nat} {o : List Int} (ht : t < L.length) (h : ordOf L t = some o) :
  o.Nodup ∧ (t : Int) ∈ o ∧ ∀ v ∈ o, 0 ≤ v ∧ v < L.length ∧ (v = t ∨ r v < r t) := by
 obtain ⟨n, hn⟩ := ordOf_some h
 exact ordF_spec B ht hn
theorem nodup_bound : ∀ (N : Nat) (l : List Int), l.Nodup → (∀ x ∈ l, 0 ≤ x ∧ x < N) → l.length ≤ N
 | 0, l, _, h => by
  cases l with
  | nil => exact Nat.le_refl _
  | cons a l => have := h a List.mem_cons_self; omega
 | N + 1, l, hn, h => by
  have h1 := nodup_bound N (l.erase (N : Int)) (hn.erase _) (fun x hx => by
   have h2 := h x (List.mem_of_mem_erase hx)
   have h3 : x ≠ N := fun e => by subst e; exact (hn.not_mem_erase) hx
   omega)
  by_cases hm : (N : Int) ∈ l
  ·rw [List.length_erase_of_mem hm] at h1; omega
  ·rw [List.erase_of_not_mem hm] at h1; omega
def putE : List (Int × List Int) → Int → List Int → List (Int × List Int)
 | [], k, o => [(k, o)]
 | e :: l, k, o => if e.1 = k then (k, o) :: l else e :: putE l k o
theorem dEns_putE (l : List (Int × List Int)) (k : Int) (o : List Int) : mput (.int .i64 k) (.sl false () 1 (dInts o)) (dEns l) = dEns (putE l k o) := by
 induction l with
 | nil => rfl
 | cons e l ih =>
  rw [dEns_cons]
  unfold mput putE
  by_cases h : e.1 = k
  ·rw [if_pos (by rw [h]; rfl), if_pos h, dEns_cons, h]
  ·rw [if_neg (by simpa [keyT_int] using h), if_neg h, dEns_cons, ih]
theorem got_putE (l : List (Int × List Int)) (k k' : Int) (o : List Int) : got (putE l k o) k' = if k' = k then some o else got l k' := by
 induction l with
 | nil =>
  by_cases h : k' = k
  ·simp [putE, got, h]
  ·simp [putE, got, h, Ne.symm h]
 | cons e l ih =>
  unfold putE
  by_cases h : e.1 = k
  ·rw [if_pos h]
   by_cases h' : k' = k
   ·simp [got, h']
   ·simp [got, h, h', Ne.symm h']
  ·rw [if_neg h]
   by_cases h2 : e.1 = k'
   ·have : ¬ k' = k := fun e' => h (h2.trans e')
    simp [got, h2, this]
   ·have : got (e :: putE l k o) k' = got (putE l k o) k' := by simp [got, h2]
    rw [this, ih]
    have : got (e :: l) k' = got l k' := by simp [got, h2]
    rw [this]
end Go.Proofs.Ytbhigdljojlhnaa

/- merged and find. -/
namespace Go.Proofs.Ytbhigdljojlhnaa
set_option linter.all false
open Go.Vc Go.Proofs
set_option linter.unusedSimpArgs false
set_option maxRecDepth 100000
set_option maxHeartbeats 4000000
attribute [local irreducible] CallW EqK
def MemoOk (L : List Th) (M : List (Int × List Int)) : Prop := ∀ k o, got M k = some o → ordOf L k = some o
def FindR (L : List Th) (t : Int) (av : AV) (X : List D) (κ : List (Nat × Path)) : Prop :=
 ∃ M, MemoOk L M ∧ X = [dL L, dM M] ∧ κ = [(1, [.i 0])] ∧ av = match ordOf L t with
  | some o => .tup (.cons (.imm 1 (dInts o) false) (.cons (avBool true) .nil))
  | none => .tup (.cons (.nils 1) (.cons (avBool false) .nil))
def FindOk (L : List Th) (r : Int → Nat) (n : Nat) : Prop := ∀ t : Nat, t < L.length → r t < n → ∀ M, MemoOk L M →
 Meets Try.prog 67 [dL L, dM M] (.cons (.ptr 0 [.d]) (.cons (avInt t) (.cons (.mp 1 []) .nil))) (FindR L t)
section
variable {L : List Th} {r : Int → Nat} {n t : Nat} {M : List (Int × List Int)}
theorem FindOk.yes (h : FindOk L r n) (ht : t < L.length) (hr : r t < n) (hM : MemoOk L M) {o : List Int} (ho : ordOf L t = some o) :
  Meets Try.prog 67 [dL L, dM M] (.cons (.ptr 0 [.d]) (.cons (avInt t) (.cons (.mp 1 []) .nil)))
  fun av X κ => ∃ M, MemoOk L M ∧ X = [dL L, dM M] ∧ κ = [(1, [.i 0])] ∧ av = .tup (.cons (.imm 1 (dInts o) false) (.cons (avBool true) .nil)) :=
 Meets.mono (h t ht hr M hM) fun av X κ ⟨M, h1, h2, h3, h4⟩ => ⟨M, h1, h2, h3, by rw [ho] at h4; exact h4⟩
theorem FindOk.no (h : FindOk L r n) (ht : t < L.length) (hr : r t < n) (hM : MemoOk L M) (ho : ordOf L t = none) :
  Meets Try.prog 67 [dL L, dM M] (.cons (.ptr 0 [.d]) (.cons (avInt t) (.cons (.mp 1 []) .nil)))
  fun av X κ => ∃ M, MemoOk L M ∧ X = [dL L, dM M] ∧ κ = [(1, [.i 0])] ∧ av = .tup (.cons (.nils 1) (.cons (avBool false) .nil)) :=
 Meets.mono (h t ht hr M hM) fun av X κ ⟨M, h1, h2, h3, h4⟩ => ⟨M, h1, h2, h3, by rw [ho] at h4; exact h4⟩
end
theorem ordersOf_cons (g : Int → Option (List Int)) (t : Int) (l : List Int) : ordersOf g (t :: l) = match g t with
  | none => none
  | some o => (ordersOf g l).map fun r => o :: r := rfl
theorem ord_len {L : List Th} {r : Int → Nat} (B : Base L r) {t : Nat} {o : List Int} (ht : t < L.length) (h : ordOf L t = some o) : o.length ≤ 1000 := by
 obtain ⟨h1, _, h3⟩ := ordOf_spec B ht h
 have := nodup_bound L.length o h1 fun x hx => ⟨(h3 x hx).1, (h3 x hx).2.1⟩
 have := B.len
 omega
theorem merged_len {L : List Th} {r : Int → Nat} (B : Base L r) {things o : List Int} (hth : ∀ u ∈ things, 0 ≤ u ∧ u < L.length) (hnd : things.Nodup) (h : mergedF (ordOf L) things = some o) :
  o.Nodup ∧ (∀ v ∈ o, 0 ≤ v ∧ v < L.length) ∧ o.length ≤ 1000 := by
 have each : ∀ u ∈ things, ∀ ou, ordOf L u = some ou → ou.Nodup ∧ ∀ v ∈ ou, 0 ≤ v ∧ v < L.length := fun u hu ou ho => by
  have := hth u hu
  obtain ⟨k, rfl⟩ : ∃ k : Nat, u = k := ⟨u.toNat, by omega⟩
  obtain ⟨h1, _, h3⟩ := ordOf_spec B (by omega) ho
  exact ⟨h1, fun v hv => ⟨(h3 v hv).1, (h3 v hv).2.1⟩⟩
 obtain ⟨f1, f2, f3, f4⟩ := merged_spec h hnd fun u hu ou ho => (each u hu ou ho).1
 have hv : ∀ v ∈ o, 0 ≤ v ∧ v < L.length := fun v hv => by
  rcases f4 v hv with h | ⟨u, hu, ou, ho, hv⟩
  ·exact hth v h
  ·exact (each u hu ou ho).2 v hv
 have := nodup_bound L.length o f1 hv
 have := B.len
 exact ⟨f1, hv, by omega⟩
theorem dInts_one (x : Int) : dInts [x] = .cons (.val (.int .i64 x)) .nil := rfl
theorem total_bound {ls : List (List Int)} (h : ∀ y ∈ ls, y.length ≤ 1000) : total ls ≤ 1000 * ls.length := by
 induction ls with
 | nil => simp [total]
 | cons x l ih =>
  have h1 := h x List.mem_cons_self
  have h2 := ih fun y hy => h y (List.mem_cons_of_mem _ hy)
  simp only [total, List.length_cons]; omega
theorem merged_ok {L : List Th} {r : Int → Nat} (B : Base L r) {n : Nat} (hF : FindOk L r n) (things : List Int) (hth : ∀ u ∈ things, 0 ≤ u ∧ u < L.length ∧ r u < n) (hnd : things.Nodup) (M : List (Int × List Int)) (hM : MemoOk L M) (ex : Bool) :
  Meets Try.prog 72 [dL L, dM M] (.cons (.ptr 0 [.d]) (.cons (.imm 1 (dInts things) ex) (.cons (.mp 1 []) .nil)))
  fun av X κ => ∃ M, MemoOk L M ∧ κ = [(1, [.i 0])] ∧ match mergedF (ordOf L) things with
   | some o => av = .tup (.cons (.sub 2 [] 0 o.length false) (.cons (avBool true) .nil)) ∧ X = [dL L, dM M, .sl true () 1 (dInts o)]
   | none => av = .tup (.cons (.nils 1) (.cons (avBool false) .nil)) ∧ X = [dL L, dM M] := by
 have hfind := hF
 clear hF
 have hlen := nodup_bound L.length things hnd fun x hx => ⟨(hth x hx).1, (hth x hx).2.1⟩
 have hL := B.len
 refine fb Try.func72 Try.ntmps72 [.tmp 6, .tmp 7] fun w0 I0 F0 hF => ?_
 repeat first|refine n1 ?_|refine n2 ?_|refine n3 ?_|refine n4 ?_|refine n5 ?_|refine n6 ?_|refine n7 ?_|refine n8 ?_|refine n9 ?_|refine n0 ?_|refine ⟨⟨by omega, by omega⟩, ?_⟩|((first|refine rg 0 [0, 1, 2] [0, 1, 2] [] ?_|refine rg 1 [0, 1, 2] [0, 1, 2, 8] [] ?_|refine rg 2 [0, 1, 2, 8] [0, 1, 2, 8, 13, 14, 15] [] ?_|refine rg 3 [0, 1, 2, 8, 13, 14, 15] [0, 1, 2, 8, 13, 14, 15, 16] [] ?_|refine rg 4 [0, 1, 2, 8, 13, 14, 15] [0, 1, 2, 8, 10, 13, 14, 15] [] ?_|refine rg 5 [0, 1, 2, 8, 10, 13, 14, 15] [0, 1, 2, 8, 11, 12, 13, 14, 15] [] ?_|refine rg 6 [0, 1, 2, 8, 11, 12, 13, 14, 15] [0, 1, 2, 8, 11, 13, 14, 15, 27] [] ?_|refine rg 7 [] [6, 7] [] ?_|refine rg 8 [0, 1, 2, 8, 11, 13, 14, 15] [0, 1, 2, 8, 13, 14, 15] [] ?_|refine rg 9 [0, 1, 2, 8, 13, 14, 15] [0, 1, 2, 8, 13, 14, 15] [] ?_|refine rg 10 [1, 8] [6, 7] [] ?_|refine nc ?_);simp (maxSteps := 1000000) [hF])
 refine VS.hold0 8 1 (by simp) ?_
 refine VS.widen [(1, [.i 0])] (by simp [covers, mpre]) ?_
 refine VS.pick [0, 1, 2, 8, 13, 14, 15] [0, 1, 2] (by simp [hF]) ?_;simp [hF]
 refine VS.rounds (fun m st => ∃ (i : Nat) (acc : List (List Int)) (s : D) (M : List (Int × List Int)), i + m = things.length ∧ acc.length = i ∧ (∀ y ∈ acc, y.length ≤ 1000) ∧ MemoOk L M ∧ ordersOf (ordOf L) things = (ordersOf (ordOf L) (things.drop i)).map (fun r => acc ++ r) ∧
  s.mid 0 i = dLs acc ∧ st = ⟨[(0, .ptr 0 [.d]), (1, .imm 1 (dInts things) ex), (2, .mp 1 []), (8, .sub 2 [] 0 i false), (13, .imm 1 (dInts things) ex), (14, avInt things.length), (15, avInt i)], [dL L, dM M, .sl true () 1 s], [(1, [.i 0])], []⟩)
  ⟨things.length, 0, [], .nil, M, by omega, rfl, (fun y hy => by cases hy), hM, by simp, by simp [T.mid, T.drop, T.take], by simp [dL, dM]⟩ ?_
 rintro m st ⟨i, acc, s, M, hi, hal, hacc, hM, hord, hs0, rfl⟩
 repeat first|refine n1 ?_|refine n2 ?_|refine n3 ?_|refine n4 ?_|refine n5 ?_|refine n6 ?_|refine n7 ?_|refine n8 ?_|refine n9 ?_|refine n0 ?_|refine ⟨⟨by omega, by omega⟩, ?_⟩|((first|refine rg 0 [0, 1, 2] [0, 1, 2] [] ?_|refine rg 1 [0, 1, 2] [0, 1, 2, 8] [] ?_|refine rg 2 [0, 1, 2, 8] [0, 1, 2, 8, 13, 14, 15] [] ?_|refine rg 3 [0, 1, 2, 8, 13, 14, 15] [0, 1, 2, 8, 13, 14, 15, 16] [] ?_|refine rg 4 [0, 1, 2, 8, 13, 14, 15] [0, 1, 2, 8, 10, 13, 14, 15] [] ?_|refine rg 5 [0, 1, 2, 8, 10, 13, 14, 15] [0, 1, 2, 8, 11, 12, 13, 14, 15] [] ?_|refine rg 6 [0, 1, 2, 8, 11, 12, 13, 14, 15] [0, 1, 2, 8, 11, 13, 14, 15, 27] [] ?_|refine rg 7 [] [6, 7] [] ?_|refine rg 8 [0, 1, 2, 8, 11, 13, 14, 15] [0, 1, 2, 8, 13, 14, 15] [] ?_|refine rg 9 [0, 1, 2, 8, 13, 14, 15] [0, 1, 2, 8, 13, 14, 15] [] ?_|refine rg 10 [1, 8] [6, 7] [] ?_|refine nc ?_);simp (maxSteps := 1000000) [hF])
 refine ⟨fun hlt => ?_, fun hge => ?_⟩
 ·have hi' : i < things.length := by omega
  have hn := dInts_nth hi'
  obtain ⟨u0, u1, u2⟩ := hth _ (List.getElem_mem hi')
  have hdrop := List.drop_eq_getElem_cons hi'
  rw [hdrop, ordersOf_cons] at hord
  repeat first|refine n1 ?_|refine n2 ?_|refine n3 ?_|refine n4 ?_|refine n5 ?_|refine n6 ?_|refine n7 ?_|refine n8 ?_|refine n9 ?_|refine n0 ?_|refine ⟨⟨by omega, by omega⟩, ?_⟩|((first|refine rg 0 [0, 1, 2] [0, 1, 2] [] ?_|refine rg 1 [0, 1, 2] [0, 1, 2, 8] [] ?_|refine rg 2 [0, 1, 2, 8] [0, 1, 2, 8, 13, 14, 15] [] ?_|refine rg 3 [0, 1, 2, 8, 13, 14, 15] [0, 1, 2, 8, 13, 14, 15, 16] [] ?_|refine rg 4 [0, 1, 2, 8, 13, 14, 15] [0, 1, 2, 8, 10, 13, 14, 15] [] ?_|refine rg 5 [0, 1, 2, 8, 10, 13, 14, 15] [0, 1, 2, 8, 11, 12, 13, 14, 15] [] ?_|refine rg 6 [0, 1, 2, 8, 11, 12, 13, 14, 15] [0, 1, 2, 8, 11, 13, 14, 15, 27] [] ?_|refine rg 7 [] [6, 7] [] ?_|refine rg 8 [0, 1, 2, 8, 11, 13, 14, 15] [0, 1, 2, 8, 13, 14, 15] [] ?_|refine rg 9 [0, 1, 2, 8, 13, 14, 15] [0, 1, 2, 8, 13, 14, 15] [] ?_|refine rg 10 [1, 8] [6, 7] [] ?_|refine nc ?_);simp (maxSteps := 1000000) [hF, hn, hi'])
  generalize things[i] = u at *
  obtain ⟨u, rfl⟩ : ∃ k : Nat, u = k := ⟨u.toNat, by omega⟩
  have hul : u < L.length := by omega
  cases ho : ordOf L u with
  | none =>
   rw [ho] at hord
   have hmf : mergedF (ordOf L) things = none := by unfold mergedF; rw [hord]; rfl
   rw [hmf]
   refine (hfind.no hul u2 hM ho).go [(0, []), (1, [])] (by simp (maxSteps := 1000000) [hF, dL, dM]) ?_;rintro av X κ ⟨M, hM, rfl, rfl, rfl⟩;simp (maxSteps := 1000000) [hF, dL, dM]
   repeat first|refine n1 ?_|refine n2 ?_|refine n3 ?_|refine n4 ?_|refine n5 ?_|refine n6 ?_|refine n7 ?_|refine n8 ?_|refine n9 ?_|refine n0 ?_|refine ⟨⟨by omega, by omega⟩, ?_⟩|((first|refine rg 0 [0, 1, 2] [0, 1, 2] [] ?_|refine rg 1 [0, 1, 2] [0, 1, 2, 8] [] ?_|refine rg 2 [0, 1, 2, 8] [0, 1, 2, 8, 13, 14, 15] [] ?_|refine rg 3 [0, 1, 2, 8, 13, 14, 15] [0, 1, 2, 8, 13, 14, 15, 16] [] ?_|refine rg 4 [0, 1, 2, 8, 13, 14, 15] [0, 1, 2, 8, 10, 13, 14, 15] [] ?_|refine rg 5 [0, 1, 2, 8, 10, 13, 14, 15] [0, 1, 2, 8, 11, 12, 13, 14, 15] [] ?_|refine rg 6 [0, 1, 2, 8, 11, 12, 13, 14, 15] [0, 1, 2, 8, 11, 13, 14, 15, 27] [] ?_|refine rg 7 [] [6, 7] [] ?_|refine rg 8 [0, 1, 2, 8, 11, 13, 14, 15] [0, 1, 2, 8, 13, 14, 15] [] ?_|refine rg 9 [0, 1, 2, 8, 13, 14, 15] [0, 1, 2, 8, 13, 14, 15] [] ?_|refine rg 10 [1, 8] [6, 7] [] ?_|refine nc ?_);simp (maxSteps := 1000000) [hF])
   (try refine nr ?_);(repeat first|refine nb_ ?_|refine nl_ ?_);refine endK.o [6, 7] [0, 1] [(1, [.i 0])] ?_;simp [hF, retK, covers, mpre, dL, dM]
   exact ⟨M, hM, rfl⟩
  | some o =>
   rw [ho] at hord
   have hol := ord_len B hul ho
   have happ := dLs_app1 acc o
   have b1 : (i + 1) * 24 ≤ 140737488355328 := by omega
   have b2 : i + 1 ≤ 9223372036854775807 := by omega
   refine (hfind.yes hul u2 hM ho).go [(0, []), (1, [])] (by simp (maxSteps := 1000000) [hF, dL, dM]) ?_;rintro av X κ ⟨M, hM, rfl, rfl, rfl⟩;simp (maxSteps := 1000000) [hF, dL, dM]
   repeat first|refine n1 ?_|refine n2 ?_|refine n3 ?_|refine n4 ?_|refine n5 ?_|refine n6 ?_|refine n7 ?_|refine n8 ?_|refine n9 ?_|refine n0 ?_|refine ⟨⟨by omega, by omega⟩, ?_⟩|((first|refine rg 0 [0, 1, 2] [0, 1, 2] [] ?_|refine rg 1 [0, 1, 2] [0, 1, 2, 8] [] ?_|refine rg 2 [0, 1, 2, 8] [0, 1, 2, 8, 13, 14, 15] [] ?_|refine rg 3 [0, 1, 2, 8, 13, 14, 15] [0, 1, 2, 8, 13, 14, 15, 16] [] ?_|refine rg 4 [0, 1, 2, 8, 13, 14, 15] [0, 1, 2, 8, 10, 13, 14, 15] [] ?_|refine rg 5 [0, 1, 2, 8, 10, 13, 14, 15] [0, 1, 2, 8, 11, 12, 13, 14, 15] [] ?_|refine rg 6 [0, 1, 2, 8, 11, 12, 13, 14, 15] [0, 1, 2, 8, 11, 13, 14, 15, 27] [] ?_|refine rg 7 [] [6, 7] [] ?_|refine rg 8 [0, 1, 2, 8, 11, 13, 14, 15] [0, 1, 2, 8, 13, 14, 15] [] ?_|refine rg 10 [1, 8] [6, 7] [] ?_|refine nc ?_);simp (maxSteps := 1000000) [hF, hs0, happ, b1, b2])
   refine VS.widen [(1, [.i 0])] (by simp [covers, mpre]) ?_
   repeat first|refine n1 ?_|refine n2 ?_|refine n3 ?_|refine n4 ?_|refine n5 ?_|refine n6 ?_|refine n7 ?_|refine n8 ?_|refine n9 ?_|refine n0 ?_|refine ⟨⟨by omega, by omega⟩, ?_⟩|((first|refine rg 0 [0, 1, 2] [0, 1, 2] [] ?_|refine rg 1 [0, 1, 2] [0, 1, 2, 8] [] ?_|refine rg 2 [0, 1, 2, 8] [0, 1, 2, 8, 13, 14, 15] [] ?_|refine rg 3 [0, 1, 2, 8, 13, 14, 15] [0, 1, 2, 8, 13, 14, 15, 16] [] ?_|refine rg 4 [0, 1, 2, 8, 13, 14, 15] [0, 1, 2, 8, 10, 13, 14, 15] [] ?_|refine rg 5 [0, 1, 2, 8, 10, 13, 14, 15] [0, 1, 2, 8, 11, 12, 13, 14, 15] [] ?_|refine rg 6 [0, 1, 2, 8, 11, 12, 13, 14, 15] [0, 1, 2, 8, 11, 13, 14, 15, 27] [] ?_|refine rg 7 [] [6, 7] [] ?_|refine rg 8 [0, 1, 2, 8, 11, 13, 14, 15] [0, 1, 2, 8, 13, 14, 15] [] ?_|refine rg 9 [0, 1, 2, 8, 13, 14, 15] [0, 1, 2, 8, 13, 14, 15] [] ?_|refine rg 10 [1, 8] [6, 7] [] ?_|refine nc ?_);simp (maxSteps := 1000000) [hF])
   refine nextK.of [0, 1, 2, 8, 13, 14, 15] [0, 1, 2] (m - 1) (by omega) (by simp [hF]) ?_
   refine ⟨i + 1, acc ++ [o], dLs (acc ++ [o]), M, by omega, by simp [hal], fun y hy => ?_, hM, ?_, ?_, ?_⟩
   ·rcases List.mem_append.1 hy with hy | hy
    ·exact hacc y hy
    ·simp only [List.mem_singleton] at hy; subst hy; exact hol
   ·rw [hord]; simp [Option.map_map, Function.comp_def]
   ·exact sq_mid_all _ _ (by simp [hal])
   ·simp [dL, dM]
    exact IntWalk.i64_in _ (by omega)
 ·obtain rfl : i = things.length := by omega
  have hord2 : ordersOf (ordOf L) things = some acc := by rw [hord, List.drop_length]; simp [ordersOf]
  have hmf : mergedF (ordOf L) things = mergeOf (acc ++ [things]) := by unfold mergedF; rw [hord2]; rfl
  rw [hmf]
  have happ := dLs_app1 acc things
  have b1 : (things.length + 1) * 24 ≤ 140737488355328 := by omega
  have b2 : things.length + 1 ≤ 9223372036854775807 := by omega
  have hlen2 : (acc ++ [things]).length = things.length + 1 := by simp [hal]
  have htot : total (acc ++ [things]) ≤ 100000000 := by
   have := total_bound (ls := acc ++ [things]) (fun y hy => by
    rcases List.mem_append.1 hy with hy | hy
    ·exact hacc y hy
    ·simp only [List.mem_singleton] at hy; subst hy; omega)
   omega
  have hmg := merge_ok (acc ++ [things]) (by omega) htot
  rw [hlen2] at hmg
  repeat first|refine n1 ?_|refine n2 ?_|refine n3 ?_|refine n4 ?_|refine n5 ?_|refine n6 ?_|refine n7 ?_|refine n8 ?_|refine n9 ?_|refine n0 ?_|refine ⟨⟨by omega, by omega⟩, ?_⟩|((first|refine rg 0 [0, 1, 2] [0, 1, 2] [] ?_|refine rg 1 [0, 1, 2] [0, 1, 2, 8] [] ?_|refine rg 2 [0, 1, 2, 8] [0, 1, 2, 8, 13, 14, 15] [] ?_|refine rg 3 [0, 1, 2, 8, 13, 14, 15] [0, 1, 2, 8, 13, 14, 15, 16] [] ?_|refine rg 4 [0, 1, 2, 8, 13, 14, 15] [0, 1, 2, 8, 10, 13, 14, 15] [] ?_|refine rg 5 [0, 1, 2, 8, 10, 13, 14, 15] [0, 1, 2, 8, 11, 12, 13, 14, 15] [] ?_|refine rg 6 [0, 1, 2, 8, 11, 12, 13, 14, 15] [0, 1, 2, 8, 11, 13, 14, 15, 27] [] ?_|refine rg 7 [] [6, 7] [] ?_|refine rg 8 [0, 1, 2, 8, 11, 13, 14, 15] [0, 1, 2, 8, 13, 14, 15] [] ?_|refine rg 9 [0, 1, 2, 8, 13, 14, 15] [0, 1, 2, 8, 13, 14, 15] [] ?_|refine rg 10 [1, 8] [6, 7] [] ?_|refine nc ?_);simp (maxSteps := 1000000) [hF])
  refine (cloneI_ok ex things (by omega)).go [] (by simp (maxSteps := 1000000) [hF, hs0, happ, b1, b2]) ?_;rintro av X κ ⟨rfl, rfl, rfl⟩;simp (maxSteps := 1000000) [hF, hs0, happ, b1, b2]
  cases hmo : mergeOf (acc ++ [things]) with
  | none =>
   rw [hmo] at hmg
   refine (hmg).go [(2, [])] (by simp (maxSteps := 1000000) [hF, hs0, happ]) ?_;rintro av X κ ⟨rfl, rfl, rfl⟩;simp (maxSteps := 1000000) [hF, hs0, happ]
   repeat first|refine n1 ?_|refine n2 ?_|refine n3 ?_|refine n4 ?_|refine n5 ?_|refine n6 ?_|refine n7 ?_|refine n8 ?_|refine n9 ?_|refine n0 ?_|refine ⟨⟨by omega, by omega⟩, ?_⟩|((first|refine rg 0 [0, 1, 2] [0, 1, 2] [] ?_|refine rg 1 [0, 1, 2] [0, 1, 2, 8] [] ?_|refine rg 2 [0, 1, 2, 8] [0, 1, 2, 8, 13, 14, 15] [] ?_|refine rg 3 [0, 1, 2, 8, 13, 14, 15] [0, 1, 2, 8, 13, 14, 15, 16] [] ?_|refine rg 4 [0, 1, 2, 8, 13, 14, 15] [0, 1, 2, 8, 10, 13, 14, 15] [] ?_|refine rg 5 [0, 1, 2, 8, 10, 13, 14, 15] [0, 1, 2, 8, 11, 12, 13, 14, 15] [] ?_|refine rg 6 [0, 1, 2, 8, 11, 12, 13, 14, 15] [0, 1, 2, 8, 11, 13, 14, 15, 27] [] ?_|refine rg 7 [] [6, 7] [] ?_|refine rg 8 [0, 1, 2, 8, 11, 13, 14, 15] [0, 1, 2, 8, 13, 14, 15] [] ?_|refine rg 9 [0, 1, 2, 8, 13, 14, 15] [0, 1, 2, 8, 13, 14, 15] [] ?_|refine rg 10 [1, 8] [6, 7] [] ?_|refine nc ?_);simp (maxSteps := 1000000) [hF])
   (try refine nr ?_);(repeat first|refine nb_ ?_|refine nl_ ?_);refine endK.o [6, 7] [0, 1] [(1, [.i 0])] ?_;simp [hF, retK, covers, mpre, dL, dM]
   exact ⟨M, hM, rfl⟩
  | some o =>
   rw [hmo] at hmg
   refine (hmg).go [(2, [])] (by simp (maxSteps := 1000000) [hF, hs0, happ]) ?_;rintro av X κ ⟨rfl, rfl, rfl⟩;simp (maxSteps := 1000000) [hF, hs0, happ]
   repeat first|refine n1 ?_|refine n2 ?_|refine n3 ?_|refine n4 ?_|refine n5 ?_|refine n6 ?_|refine n7 ?_|refine n8 ?_|refine n9 ?_|refine n0 ?_|refine ⟨⟨by omega, by omega⟩, ?_⟩|((first|refine rg 0 [0, 1, 2] [0, 1, 2] [] ?_|refine rg 1 [0, 1, 2] [0, 1, 2, 8] [] ?_|refine rg 2 [0, 1, 2, 8] [0, 1, 2, 8, 13, 14, 15] [] ?_|refine rg 3 [0, 1, 2, 8, 13, 14, 15] [0, 1, 2, 8, 13, 14, 15, 16] [] ?_|refine rg 4 [0, 1, 2, 8, 13, 14, 15] [0, 1, 2, 8, 10, 13, 14, 15] [] ?_|refine rg 5 [0, 1, 2, 8, 10, 13, 14, 15] [0, 1, 2, 8, 11, 12, 13, 14, 15] [] ?_|refine rg 6 [0, 1, 2, 8, 11, 12, 13, 14, 15] [0, 1, 2, 8, 11, 13, 14, 15, 27] [] ?_|refine rg 7 [] [6, 7] [] ?_|refine rg 8 [0, 1, 2, 8, 11, 13, 14, 15] [0, 1, 2, 8, 13, 14, 15] [] ?_|refine rg 9 [0, 1, 2, 8, 13, 14, 15] [0, 1, 2, 8, 13, 14, 15] [] ?_|refine rg 10 [1, 8] [6, 7] [] ?_|refine nc ?_);simp (maxSteps := 1000000) [hF])
   (try refine nr ?_);(repeat first|refine nb_ ?_|refine nl_ ?_);refine endK.o [6, 7] [0, 1, 4] [(1, [.i 0])] ?_;simp [hF, retK, covers, mpre, dL, dM]
   exact ⟨M, hM, rfl⟩
section
variable {L : List Th} {r : Int → Nat} (B : Base L r) {n : Nat} (hF : FindOk L r n) (things : List Int) (hth : ∀ u ∈ things, 0 ≤ u ∧ u < L.length ∧ r u < n) (hnd : things.Nodup) (M : List (Int × List Int)) (hM : MemoOk L M) (ex : Bool)
include B hF hth hnd hM
theorem merged_no (h : mergedF (ordOf L) things = none) : Meets Try.prog 72 [dL L, dM M] (.cons (.ptr 0 [.d]) (.cons (.imm 1 (dInts things) ex) (.cons (.mp 1 []) .nil)))
  fun av X κ => ∃ M, MemoOk L M ∧ av = .tup (.cons (.nils 1) (.cons (avBool false) .nil)) ∧ X = [dL L, dM M] ∧ κ = [(1, [.i 0])] :=
 Meets.mono (merged_ok B hF things hth hnd M hM ex) fun av X κ ⟨M, h1, h2, h3⟩ => by rw [h] at h3; exact ⟨M, h1, h3.1, h3.2, h2⟩
theorem merged_yes {o : List Int} (h : mergedF (ordOf L) things = some o) : Meets Try.prog 72 [dL L, dM M] (.cons (.ptr 0 [.d]) (.cons (.imm 1 (dInts things) ex) (.cons (.mp 1 []) .nil)))
  fun av X κ => ∃ M, MemoOk L M ∧ av = .tup (.cons (.sub 2 [] 0 o.length false) (.cons (avBool true) .nil)) ∧ X = [dL L, dM M, .sl true () 1 (dInts o)] ∧ κ = [(1, [.i 0])] :=
 Meets.mono (merged_ok B hF things hth hnd M hM ex) fun av X κ ⟨M, h1, h2, h3⟩ => by rw [h] at h3; exact ⟨M, h1, h3.1, h3.2, h2⟩
end
theorem find_step {L : List Th} {r : Int → Nat} (B : Base L r) {n : Nat} (hF : FindOk L r n) (t : Nat) (ht : t < L.length) (hr : r t < n + 1) (M : List (Int × List Int)) (hM : MemoOk L M) :
  Meets Try.prog 67 [dL L, dM M] (.cons (.ptr 0 [.d]) (.cons (avInt t) (.cons (.mp 1 []) .nil))) (FindR L t) := by
 have hfind := hF
 clear hF
 unfold FindR
 have hL := B.len
 have hx : L[t]? = some L[t] := List.getElem?_eq_getElem ht
 have hstep := ordOf_step B hx
 have hn := dThs_nth ht
 have hedge := B.edge _ _ hx
 have hnb := B.nb _ _ hx
 have hnp := B.np _ _ hx
 have hlb := nodup_bound L.length _ hnb fun x hx => ⟨(hedge x (.inl hx)).1, (hedge x (.inl hx)).2.1⟩
 have hlp := nodup_bound L.length _ hnp fun x hx => ⟨(hedge x (.inr hx)).1, (hedge x (.inr hx)).2.1⟩
 generalize L[t] = x at *
 have hfnd := dEns_find M t
 cases hg : got M t with
 | some o =>
  have ho := hM _ _ hg
  rw [hg] at hfnd
  simp only [Option.map_some] at hfnd
  rw [ho]
  refine fb Try.func67 Try.ntmps67 [.tmp 6, .tmp 7] fun w0 I0 F0 hF => ?_
  repeat first|refine n1 ?_|refine n2 ?_|refine n3 ?_|refine n4 ?_|refine n5 ?_|refine n6 ?_|refine n7 ?_|refine n8 ?_|refine n9 ?_|refine n0 ?_|refine ⟨⟨by omega, by omega⟩, ?_⟩|((first|refine rg 0 [0, 1, 2] [0, 1, 2] [] ?_|refine rg 1 [0, 1, 2] [0, 1, 2, 8, 9] [] ?_|refine rg 2 [0, 1, 2, 8, 9] [0, 1, 2, 8, 21] [] ?_|refine rg 3 [8] [6, 7] [] ?_|refine rg 4 [0, 1, 2] [0, 1, 2, 10] [] ?_|refine rg 5 [0, 1, 2, 10] [0, 1, 2, 10, 11, 12] [] ?_|refine rg 6 [0, 1, 2, 10, 11, 12] [0, 1, 2, 10, 11, 39] [] ?_|refine rg 7 [] [6, 7] [] ?_|refine rg 8 [0, 1, 2, 10, 11] [0, 1, 2, 10, 11, 13] [] ?_|refine rg 9 [0, 1, 2, 10, 11, 13] [0, 1, 2, 10, 11, 13, 45] [] ?_|refine rg 10 [0, 1, 2, 10, 11, 13] [0, 1, 2, 11, 13] [] ?_|refine rg 11 [0, 1, 2, 11, 13] [1, 2, 11, 12, 14] [] ?_|refine rg 12 [1, 2, 11, 12, 14] [1, 2, 11, 14, 59] [] ?_|refine rg 13 [] [6, 7] [] ?_|refine rg 14 [1, 2, 11, 14] [1, 2, 11, 14] [] ?_|refine rg 15 [1, 2, 11, 14] [1, 2] [] ?_|refine rg 16 [1, 2] [6, 7] [] ?_|refine nc ?_);simp (maxSteps := 1000000) [hF, dM, hfnd])
  (try refine nr ?_);(repeat first|refine nb_ ?_|refine nl_ ?_);refine endK.o [6, 7] [0, 1] [(1, [.i 0])] ?_;simp [hF, retK, covers, mpre, dL, dM]
  exact ⟨M, hM, rfl⟩
 | none =>
  rw [hg] at hfnd
  simp only [Option.map_none] at hfnd
  refine fb Try.func67 Try.ntmps67 [.tmp 6, .tmp 7] fun w0 I0 F0 hF => ?_
  repeat first|refine n1 ?_|refine n2 ?_|refine n3 ?_|refine n4 ?_|refine n5 ?_|refine n6 ?_|refine n7 ?_|refine n8 ?_|refine n9 ?_|refine n0 ?_|refine ⟨⟨by omega, by omega⟩, ?_⟩|((first|refine rg 0 [0, 1, 2] [0, 1, 2] [] ?_|refine rg 1 [0, 1, 2] [0, 1, 2, 8, 9] [] ?_|refine rg 2 [0, 1, 2, 8, 9] [0, 1, 2, 8, 21] [] ?_|refine rg 3 [8] [6, 7] [] ?_|refine rg 4 [0, 1, 2] [0, 1, 2, 10] [] ?_|refine rg 5 [0, 1, 2, 10] [0, 1, 2, 10, 11, 12] [] ?_|refine rg 6 [0, 1, 2, 10, 11, 12] [0, 1, 2, 10, 11, 39] [] ?_|refine rg 7 [] [6, 7] [] ?_|refine rg 8 [0, 1, 2, 10, 11] [0, 1, 2, 10, 11, 13] [] ?_|refine rg 9 [0, 1, 2, 10, 11, 13] [0, 1, 2, 10, 11, 13, 45] [] ?_|refine rg 10 [0, 1, 2, 10, 11, 13] [0, 1, 2, 11, 13] [] ?_|refine rg 11 [0, 1, 2, 11, 13] [1, 2, 11, 12, 14] [] ?_|refine rg 12 [1, 2, 11, 12, 14] [1, 2, 11, 14, 59] [] ?_|refine rg 13 [] [6, 7] [] ?_|refine rg 14 [1, 2, 11, 14] [1, 2, 11, 14] [] ?_|refine rg 15 [1, 2, 11, 14] [1, 2] [] ?_|refine rg 16 [1, 2] [6, 7] [] ?_|refine nc ?_);simp (maxSteps := 1000000) [hF, dM, hfnd, dL, hn, ht])
  have hthb : ∀ u ∈ x.bef, 0 ≤ u ∧ u < L.length ∧ r u < n := fun u hu => by have := hedge u (.inl hu); omega
  have hthp : ∀ u ∈ parents x, 0 ≤ u ∧ u < L.length ∧ r u < n := fun u hu => by have := hedge u (.inr hu); omega
  cases hf : mergedF (ordOf L) x.bef with
  | none =>
   rw [hf] at hstep
   simp only at hstep
   rw [hstep]
   refine (merged_no B hfind x.bef hthb hnb M hM false hf).go [(0, []), (1, [])] (by simp (maxSteps := 1000000) [hF, dL, dM]) ?_;rintro av X κ ⟨M, hM, rfl, rfl, rfl⟩;simp (maxSteps := 1000000) [hF, dL, dM]
   repeat first|refine n1 ?_|refine n2 ?_|refine n3 ?_|refine n4 ?_|refine n5 ?_|refine n6 ?_|refine n7 ?_|refine n8 ?_|refine n9 ?_|refine n0 ?_|refine ⟨⟨by omega, by omega⟩, ?_⟩|((first|refine rg 0 [0, 1, 2] [0, 1, 2] [] ?_|refine rg 1 [0, 1, 2] [0, 1, 2, 8, 9] [] ?_|refine rg 2 [0, 1, 2, 8, 9] [0, 1, 2, 8, 21] [] ?_|refine rg 3 [8] [6, 7] [] ?_|refine rg 4 [0, 1, 2] [0, 1, 2, 10] [] ?_|refine rg 5 [0, 1, 2, 10] [0, 1, 2, 10, 11, 12] [] ?_|refine rg 6 [0, 1, 2, 10, 11, 12] [0, 1, 2, 10, 11, 39] [] ?_|refine rg 7 [] [6, 7] [] ?_|refine rg 8 [0, 1, 2, 10, 11] [0, 1, 2, 10, 11, 13] [] ?_|refine rg 9 [0, 1, 2, 10, 11, 13] [0, 1, 2, 10, 11, 13, 45] [] ?_|refine rg 10 [0, 1, 2, 10, 11, 13] [0, 1, 2, 11, 13] [] ?_|refine rg 11 [0, 1, 2, 11, 13] [1, 2, 11, 12, 14] [] ?_|refine rg 12 [1, 2, 11, 12, 14] [1, 2, 11, 14, 59] [] ?_|refine rg 13 [] [6, 7] [] ?_|refine rg 14 [1, 2, 11, 14] [1, 2, 11, 14] [] ?_|refine rg 15 [1, 2, 11, 14] [1, 2] [] ?_|refine rg 16 [1, 2] [6, 7] [] ?_|refine nc ?_);simp (maxSteps := 1000000) [hF])
   (try refine nr ?_);(repeat first|refine nb_ ?_|refine nl_ ?_);refine endK.o [6, 7] [0, 1] [(1, [.i 0])] ?_;simp [hF, retK, covers, mpre, dL, dM]
   exact ⟨M, hM, rfl⟩
  | some front =>
   rw [hf] at hstep
   simp only at hstep
   refine (merged_yes B hfind x.bef hthb hnb M hM false hf).go [(0, []), (1, [])] (by simp (maxSteps := 1000000) [hF, dL, dM]) ?_;rintro av X κ ⟨M, hM, rfl, rfl, rfl⟩;simp (maxSteps := 1000000) [hF, dL, dM]
   repeat first|refine n1 ?_|refine n2 ?_|refine n3 ?_|refine n4 ?_|refine n5 ?_|refine n6 ?_|refine n7 ?_|refine n8 ?_|refine n9 ?_|refine n0 ?_|refine ⟨⟨by omega, by omega⟩, ?_⟩|((first|refine rg 0 [0, 1, 2] [0, 1, 2] [] ?_|refine rg 1 [0, 1, 2] [0, 1, 2, 8, 9] [] ?_|refine rg 2 [0, 1, 2, 8, 9] [0, 1, 2, 8, 21] [] ?_|refine rg 3 [8] [6, 7] [] ?_|refine rg 4 [0, 1, 2] [0, 1, 2, 10] [] ?_|refine rg 5 [0, 1, 2, 10] [0, 1, 2, 10, 11, 12] [] ?_|refine rg 6 [0, 1, 2, 10, 11, 12] [0, 1, 2, 10, 11, 39] [] ?_|refine rg 7 [] [6, 7] [] ?_|refine rg 9 [0, 1, 2, 10, 11, 13] [0, 1, 2, 10, 11, 13, 45] [] ?_|refine rg 10 [0, 1, 2, 10, 11, 13] [0, 1, 2, 11, 13] [] ?_|refine rg 11 [0, 1, 2, 11, 13] [1, 2, 11, 12, 14] [] ?_|refine rg 12 [1, 2, 11, 12, 14] [1, 2, 11, 14, 59] [] ?_|refine rg 13 [] [6, 7] [] ?_|refine rg 14 [1, 2, 11, 14] [1, 2, 11, 14] [] ?_|refine rg 15 [1, 2, 11, 14] [1, 2] [] ?_|refine rg 16 [1, 2] [6, 7] [] ?_|refine nc ?_);simp (maxSteps := 1000000) [hF])
   obtain ⟨_, _, hfl⟩ := merged_len B (fun u hu => by have := hedge u (.inl hu); omega) hnb hf
   refine VS.cold 4 [.d] (by simp (maxSteps := 1000000) [hF, T.freeze]) (by simp (maxSteps := 1000000) [hF, T.freeze]) (by simp (maxSteps := 1000000) [hF, T.freeze]) ?_;simp [hF, St.cold, T.freeze]
   have hil : x.ins.length ≤ L.length := by
    have : x.ins.length ≤ (parents x).length := by simp [parents]
    omega
   repeat first|refine n1 ?_|refine n2 ?_|refine n3 ?_|refine n4 ?_|refine n5 ?_|refine n6 ?_|refine n7 ?_|refine n8 ?_|refine n9 ?_|refine n0 ?_|refine ⟨⟨by omega, by omega⟩, ?_⟩|((first|refine rg 0 [0, 1, 2] [0, 1, 2] [] ?_|refine rg 1 [0, 1, 2] [0, 1, 2, 8, 9] [] ?_|refine rg 2 [0, 1, 2, 8, 9] [0, 1, 2, 8, 21] [] ?_|refine rg 3 [8] [6, 7] [] ?_|refine rg 4 [0, 1, 2] [0, 1, 2, 10] [] ?_|refine rg 5 [0, 1, 2, 10] [0, 1, 2, 10, 11, 12] [] ?_|refine rg 6 [0, 1, 2, 10, 11, 12] [0, 1, 2, 10, 11, 39] [] ?_|refine rg 7 [] [6, 7] [] ?_|refine rg 8 [0, 1, 2, 10, 11] [0, 1, 2, 10, 11, 13] [] ?_|refine rg 9 [0, 1, 2, 10, 11, 13] [0, 1, 2, 10, 11, 13, 45] [] ?_|refine rg 10 [0, 1, 2, 10, 11, 13] [0, 1, 2, 11, 13] [] ?_|refine rg 11 [0, 1, 2, 11, 13] [1, 2, 11, 12, 14] [] ?_|refine rg 12 [1, 2, 11, 12, 14] [1, 2, 11, 14, 59] [] ?_|refine rg 13 [] [6, 7] [] ?_|refine rg 14 [1, 2, 11, 14] [1, 2, 11, 14] [] ?_|refine rg 15 [1, 2, 11, 14] [1, 2] [] ?_|refine rg 16 [1, 2] [6, 7] [] ?_|refine nc ?_);simp (maxSteps := 1000000) [hF])
   refine (clone_ok false x.ins (by omega)).go [] (by simp (maxSteps := 1000000) [hF]) ?_;rintro av X κ ⟨rfl, rfl, rfl⟩;simp (maxSteps := 1000000) [hF]
   by_cases hs : 0 ≤ x.sup
   ·have hpar : parents x = x.ins ++ [x.sup] := by simp [parents, hs]
    have happ := dInts_app1 x.ins x.sup
    have b1 : (x.ins.length + 1) * 8 ≤ 140737488355328 := by omega
    have b2 : x.ins.length + 1 ≤ 9223372036854775807 := by omega
    have hmid : (dInts (x.ins ++ [x.sup])).mid 0 (x.ins.length + 1) = dInts (x.ins ++ [x.sup]) := sq_mid_all _ _ (by simp)
    repeat first|refine n1 ?_|refine n2 ?_|refine n3 ?_|refine n4 ?_|refine n5 ?_|refine n6 ?_|refine n7 ?_|refine n8 ?_|refine n9 ?_|refine n0 ?_|refine ⟨⟨by omega, by omega⟩, ?_⟩|((first|refine rg 0 [0, 1, 2] [0, 1, 2] [] ?_|refine rg 1 [0, 1, 2] [0, 1, 2, 8, 9] [] ?_|refine rg 2 [0, 1, 2, 8, 9] [0, 1, 2, 8, 21] [] ?_|refine rg 3 [8] [6, 7] [] ?_|refine rg 4 [0, 1, 2] [0, 1, 2, 10] [] ?_|refine rg 5 [0, 1, 2, 10] [0, 1, 2, 10, 11, 12] [] ?_|refine rg 6 [0, 1, 2, 10, 11, 12] [0, 1, 2, 10, 11, 39] [] ?_|refine rg 7 [] [6, 7] [] ?_|refine rg 8 [0, 1, 2, 10, 11] [0, 1, 2, 10, 11, 13] [] ?_|refine rg 9 [0, 1, 2, 10, 11, 13] [0, 1, 2, 10, 11, 13, 45] [] ?_|refine rg 10 [0, 1, 2, 10, 11, 13] [0, 1, 2, 11, 13] [] ?_|refine rg 12 [1, 2, 11, 12, 14] [1, 2, 11, 14, 59] [] ?_|refine rg 13 [] [6, 7] [] ?_|refine rg 14 [1, 2, 11, 14] [1, 2, 11, 14] [] ?_|refine rg 15 [1, 2, 11, 14] [1, 2] [] ?_|refine rg 16 [1, 2] [6, 7] [] ?_|refine nc ?_);simp (maxSteps := 1000000) [hF, hs, happ, b1, b2])
    refine VS.cool 13 (by simp (maxSteps := 1000000) [hF, hmid]) ?_;simp [hF, St.cool, hmid]
    rw [← hpar]
    refine VS.pick [0, 1, 2, 11, 13] [0, 1, 4] (by simp [hF]) ?_;simp [hF]
    repeat first|refine n1 ?_|refine n2 ?_|refine n3 ?_|refine n4 ?_|refine n5 ?_|refine n6 ?_|refine n7 ?_|refine n8 ?_|refine n9 ?_|refine n0 ?_|refine ⟨⟨by omega, by omega⟩, ?_⟩|((first|refine rg 0 [0, 1, 2] [0, 1, 2] [] ?_|refine rg 1 [0, 1, 2] [0, 1, 2, 8, 9] [] ?_|refine rg 2 [0, 1, 2, 8, 9] [0, 1, 2, 8, 21] [] ?_|refine rg 3 [8] [6, 7] [] ?_|refine rg 4 [0, 1, 2] [0, 1, 2, 10] [] ?_|refine rg 5 [0, 1, 2, 10] [0, 1, 2, 10, 11, 12] [] ?_|refine rg 6 [0, 1, 2, 10, 11, 12] [0, 1, 2, 10, 11, 39] [] ?_|refine rg 7 [] [6, 7] [] ?_|refine rg 8 [0, 1, 2, 10, 11] [0, 1, 2, 10, 11, 13] [] ?_|refine rg 9 [0, 1, 2, 10, 11, 13] [0, 1, 2, 10, 11, 13, 45] [] ?_|refine rg 10 [0, 1, 2, 10, 11, 13] [0, 1, 2, 11, 13] [] ?_|refine rg 11 [0, 1, 2, 11, 13] [1, 2, 11, 12, 14] [] ?_|refine rg 12 [1, 2, 11, 12, 14] [1, 2, 11, 14, 59] [] ?_|refine rg 13 [] [6, 7] [] ?_|refine rg 14 [1, 2, 11, 14] [1, 2, 11, 14] [] ?_|refine rg 15 [1, 2, 11, 14] [1, 2] [] ?_|refine rg 16 [1, 2] [6, 7] [] ?_|refine nc ?_);simp (maxSteps := 1000000) [hF])
    cases hb : mergedF (ordOf L) (parents x) with
    | none =>
     rw [hb] at hstep
     simp only at hstep
     rw [hstep]
     refine (merged_no B hfind (parents x) hthp hnp M hM false hb).go [(0, []), (1, [])] (by simp (maxSteps := 1000000) [hF, dL, dM]) ?_;rintro av X κ ⟨M, hM, rfl, rfl, rfl⟩;simp (maxSteps := 1000000) [hF, dL, dM]
     repeat first|refine n1 ?_|refine n2 ?_|refine n3 ?_|refine n4 ?_|refine n5 ?_|refine n6 ?_|refine n7 ?_|refine n8 ?_|refine n9 ?_|refine n0 ?_|refine ⟨⟨by omega, by omega⟩, ?_⟩|((first|refine rg 0 [0, 1, 2] [0, 1, 2] [] ?_|refine rg 1 [0, 1, 2] [0, 1, 2, 8, 9] [] ?_|refine rg 2 [0, 1, 2, 8, 9] [0, 1, 2, 8, 21] [] ?_|refine rg 3 [8] [6, 7] [] ?_|refine rg 4 [0, 1, 2] [0, 1, 2, 10] [] ?_|refine rg 5 [0, 1, 2, 10] [0, 1, 2, 10, 11, 12] [] ?_|refine rg 6 [0, 1, 2, 10, 11, 12] [0, 1, 2, 10, 11, 39] [] ?_|refine rg 7 [] [6, 7] [] ?_|refine rg 8 [0, 1, 2, 10, 11] [0, 1, 2, 10, 11, 13] [] ?_|refine rg 9 [0, 1, 2, 10, 11, 13] [0, 1, 2, 10, 11, 13, 45] [] ?_|refine rg 10 [0, 1, 2, 10, 11, 13] [0, 1, 2, 11, 13] [] ?_|refine rg 11 [0, 1, 2, 11, 13] [1, 2, 11, 12, 14] [] ?_|refine rg 12 [1, 2, 11, 12, 14] [1, 2, 11, 14, 59] [] ?_|refine rg 13 [] [6, 7] [] ?_|refine rg 14 [1, 2, 11, 14] [1, 2, 11, 14] [] ?_|refine rg 15 [1, 2, 11, 14] [1, 2] [] ?_|refine rg 16 [1, 2] [6, 7] [] ?_|refine nc ?_);simp (maxSteps := 1000000) [hF])
     (try refine nr ?_);(repeat first|refine nb_ ?_|refine nl_ ?_);refine endK.o [6, 7] [0, 1] [(1, [.i 0])] ?_;simp [hF, retK, covers, mpre, dL, dM]
     exact ⟨M, hM, rfl⟩
    | some behind =>
     rw [hb] at hstep
     simp only at hstep
     obtain ⟨_, _, hbl⟩ := merged_len B (fun u hu => by have := hedge u (.inr hu); omega) hnp hb
     refine (merged_yes B hfind (parents x) hthp hnp M hM false hb).go [(0, []), (1, [])] (by simp (maxSteps := 1000000) [hF, dL, dM]) ?_;rintro av X κ ⟨M, hM, rfl, rfl, rfl⟩;simp (maxSteps := 1000000) [hF, dL, dM]
     repeat first|refine n1 ?_|refine n2 ?_|refine n3 ?_|refine n4 ?_|refine n5 ?_|refine n6 ?_|refine n7 ?_|refine n8 ?_|refine n9 ?_|refine n0 ?_|refine ⟨⟨by omega, by omega⟩, ?_⟩|((first|refine rg 0 [0, 1, 2] [0, 1, 2] [] ?_|refine rg 1 [0, 1, 2] [0, 1, 2, 8, 9] [] ?_|refine rg 2 [0, 1, 2, 8, 9] [0, 1, 2, 8, 21] [] ?_|refine rg 3 [8] [6, 7] [] ?_|refine rg 4 [0, 1, 2] [0, 1, 2, 10] [] ?_|refine rg 5 [0, 1, 2, 10] [0, 1, 2, 10, 11, 12] [] ?_|refine rg 6 [0, 1, 2, 10, 11, 12] [0, 1, 2, 10, 11, 39] [] ?_|refine rg 7 [] [6, 7] [] ?_|refine rg 8 [0, 1, 2, 10, 11] [0, 1, 2, 10, 11, 13] [] ?_|refine rg 9 [0, 1, 2, 10, 11, 13] [0, 1, 2, 10, 11, 13, 45] [] ?_|refine rg 10 [0, 1, 2, 10, 11, 13] [0, 1, 2, 11, 13] [] ?_|refine rg 11 [0, 1, 2, 11, 13] [1, 2, 11, 12, 14] [] ?_|refine rg 12 [1, 2, 11, 12, 14] [1, 2, 11, 14, 59] [] ?_|refine rg 13 [] [6, 7] [] ?_|refine rg 14 [1, 2, 11, 14] [1, 2, 11, 14] [] ?_|refine rg 15 [1, 2, 11, 14] [1, 2] [] ?_|refine rg 16 [1, 2] [6, 7] [] ?_|refine nc ?_);simp (maxSteps := 1000000) [hF])
     refine (delIs_ok behind front (by omega) (by omega)).go [(3, []), (2, [])] (by simp (maxSteps := 1000000) [hF, dBox]) ?_;rintro av X κ ⟨s3, m3, rfl, rfl, rfl, hs3, hm3⟩;simp (maxSteps := 1000000) [hF, dBox]
     generalize hkept : (behind.filter fun v => !hasN front v) = kept at *
     subst hm3
     have hkl : kept.length ≤ 1000 := by
      have : kept.length ≤ behind.length := by rw [← hkept]; exact List.length_filter_le _ _
      omega
     repeat first|refine n1 ?_|refine n2 ?_|refine n3 ?_|refine n4 ?_|refine n5 ?_|refine n6 ?_|refine n7 ?_|refine n8 ?_|refine n9 ?_|refine n0 ?_|refine ⟨⟨by omega, by omega⟩, ?_⟩|((first|refine rg 0 [0, 1, 2] [0, 1, 2] [] ?_|refine rg 1 [0, 1, 2] [0, 1, 2, 8, 9] [] ?_|refine rg 2 [0, 1, 2, 8, 9] [0, 1, 2, 8, 21] [] ?_|refine rg 3 [8] [6, 7] [] ?_|refine rg 4 [0, 1, 2] [0, 1, 2, 10] [] ?_|refine rg 5 [0, 1, 2, 10] [0, 1, 2, 10, 11, 12] [] ?_|refine rg 6 [0, 1, 2, 10, 11, 12] [0, 1, 2, 10, 11, 39] [] ?_|refine rg 7 [] [6, 7] [] ?_|refine rg 8 [0, 1, 2, 10, 11] [0, 1, 2, 10, 11, 13] [] ?_|refine rg 9 [0, 1, 2, 10, 11, 13] [0, 1, 2, 10, 11, 13, 45] [] ?_|refine rg 10 [0, 1, 2, 10, 11, 13] [0, 1, 2, 11, 13] [] ?_|refine rg 11 [0, 1, 2, 11, 13] [1, 2, 11, 12, 14] [] ?_|refine rg 12 [1, 2, 11, 12, 14] [1, 2, 11, 14, 59] [] ?_|refine rg 13 [] [6, 7] [] ?_|refine rg 14 [1, 2, 11, 14] [1, 2, 11, 14] [] ?_|refine rg 15 [1, 2, 11, 14] [1, 2] [] ?_|refine rg 16 [1, 2] [6, 7] [] ?_|refine nc ?_);simp (maxSteps := 1000000) [hF, dBox, hs3])
     refine (concat_ok true [(false, front), (true, [(t : Int)]), (true, kept)] (by simp) (by simp [sizeOs]; omega) (by simp [sizeOs]; omega)).go [(6, [])] (by simp (maxSteps := 1000000) [hF, dOs, sq, dInts_one]) ?_;rintro av X κ ⟨rfl, rfl, rfl⟩;simp (maxSteps := 1000000) [hF, dOs, sq, dInts_one]
     have hfind2 := dEns_find (putE M t (front ++ (t : Int) :: kept)) t
     rw [got_putE, if_pos rfl] at hfind2
     have hput := dEns_putE M t (front ++ (t : Int) :: kept)
     have hfl2 : flatOs [(false, front), (true, [(t : Int)]), (true, kept)] = front ++ (t : Int) :: kept := by simp [flatOs]
     repeat first|refine n1 ?_|refine n2 ?_|refine n3 ?_|refine n4 ?_|refine n5 ?_|refine n6 ?_|refine n7 ?_|refine n8 ?_|refine n9 ?_|refine n0 ?_|refine ⟨⟨by omega, by omega⟩, ?_⟩|((first|refine rg 0 [0, 1, 2] [0, 1, 2] [] ?_|refine rg 1 [0, 1, 2] [0, 1, 2, 8, 9] [] ?_|refine rg 2 [0, 1, 2, 8, 9] [0, 1, 2, 8, 21] [] ?_|refine rg 3 [8] [6, 7] [] ?_|refine rg 4 [0, 1, 2] [0, 1, 2, 10] [] ?_|refine rg 5 [0, 1, 2, 10] [0, 1, 2, 10, 11, 12] [] ?_|refine rg 6 [0, 1, 2, 10, 11, 12] [0, 1, 2, 10, 11, 39] [] ?_|refine rg 7 [] [6, 7] [] ?_|refine rg 8 [0, 1, 2, 10, 11] [0, 1, 2, 10, 11, 13] [] ?_|refine rg 9 [0, 1, 2, 10, 11, 13] [0, 1, 2, 10, 11, 13, 45] [] ?_|refine rg 10 [0, 1, 2, 10, 11, 13] [0, 1, 2, 11, 13] [] ?_|refine rg 11 [0, 1, 2, 11, 13] [1, 2, 11, 12, 14] [] ?_|refine rg 12 [1, 2, 11, 12, 14] [1, 2, 11, 14, 59] [] ?_|refine rg 13 [] [6, 7] [] ?_|refine rg 14 [1, 2, 11, 14] [1, 2, 11, 14] [] ?_|refine rg 15 [1, 2, 11, 14] [1, 2] [] ?_|refine rg 16 [1, 2] [6, 7] [] ?_|refine nc ?_);simp (maxSteps := 1000000) [hF, hfl2, hput, hfind2])
     (try refine nr ?_);(repeat first|refine nb_ ?_|refine nl_ ?_);refine endK.o [6, 7] [0, 1] [(1, [.i 0])] ?_;simp [hF, retK, covers, mpre, dL, dM, hstep]
     refine ⟨_, fun k o hk => ?_, rfl⟩
     rw [got_putE] at hk
     split at hk
     ·rename_i e
      subst e
      cases hk
      rw [hstep]; simp
     ·exact hM k o hk
   ·have hpar : parents x = x.ins := by simp [parents, hs]
    repeat first|refine n1 ?_|refine n2 ?_|refine n3 ?_|refine n4 ?_|refine n5 ?_|refine n6 ?_|refine n7 ?_|refine n8 ?_|refine n9 ?_|refine n0 ?_|refine ⟨⟨by omega, by omega⟩, ?_⟩|((first|refine rg 0 [0, 1, 2] [0, 1, 2] [] ?_|refine rg 1 [0, 1, 2] [0, 1, 2, 8, 9] [] ?_|refine rg 2 [0, 1, 2, 8, 9] [0, 1, 2, 8, 21] [] ?_|refine rg 3 [8] [6, 7] [] ?_|refine rg 4 [0, 1, 2] [0, 1, 2, 10] [] ?_|refine rg 5 [0, 1, 2, 10] [0, 1, 2, 10, 11, 12] [] ?_|refine rg 6 [0, 1, 2, 10, 11, 12] [0, 1, 2, 10, 11, 39] [] ?_|refine rg 7 [] [6, 7] [] ?_|refine rg 8 [0, 1, 2, 10, 11] [0, 1, 2, 10, 11, 13] [] ?_|refine rg 9 [0, 1, 2, 10, 11, 13] [0, 1, 2, 10, 11, 13, 45] [] ?_|refine rg 10 [0, 1, 2, 10, 11, 13] [0, 1, 2, 11, 13] [] ?_|refine rg 12 [1, 2, 11, 12, 14] [1, 2, 11, 14, 59] [] ?_|refine rg 13 [] [6, 7] [] ?_|refine rg 14 [1, 2, 11, 14] [1, 2, 11, 14] [] ?_|refine rg 15 [1, 2, 11, 14] [1, 2] [] ?_|refine rg 16 [1, 2] [6, 7] [] ?_|refine nc ?_);simp (maxSteps := 1000000) [hF, hs])
    refine VS.cool 13 (by simp (maxSteps := 1000000) [hF]) ?_;simp [hF, St.cool]
    rw [← hpar]
    refine VS.pick [0, 1, 2, 11, 13] [0, 1, 4] (by simp [hF]) ?_;simp [hF]
    repeat first|refine n1 ?_|refine n2 ?_|refine n3 ?_|refine n4 ?_|refine n5 ?_|refine n6 ?_|refine n7 ?_|refine n8 ?_|refine n9 ?_|refine n0 ?_|refine ⟨⟨by omega, by omega⟩, ?_⟩|((first|refine rg 0 [0, 1, 2] [0, 1, 2] [] ?_|refine rg 1 [0, 1, 2] [0, 1, 2, 8, 9] [] ?_|refine rg 2 [0, 1, 2, 8, 9] [0, 1, 2, 8, 21] [] ?_|refine rg 3 [8] [6, 7] [] ?_|refine rg 4 [0, 1, 2] [0, 1, 2, 10] [] ?_|refine rg 5 [0, 1, 2, 10] [0, 1, 2, 10, 11, 12] [] ?_|refine rg 6 [0, 1, 2, 10, 11, 12] [0, 1, 2, 10, 11, 39] [] ?_|refine rg 7 [] [6, 7] [] ?_|refine rg 8 [0, 1, 2, 10, 11] [0, 1, 2, 10, 11, 13] [] ?_|refine rg 9 [0, 1, 2, 10, 11, 13] [0, 1, 2, 10, 11, 13, 45] [] ?_|refine rg 10 [0, 1, 2, 10, 11, 13] [0, 1, 2, 11, 13] [] ?_|refine rg 11 [0, 1, 2, 11, 13] [1, 2, 11, 12, 14] [] ?_|refine rg 12 [1, 2, 11, 12, 14] [1, 2, 11, 14, 59] [] ?_|refine rg 13 [] [6, 7] [] ?_|refine rg 14 [1, 2, 11, 14] [1, 2, 11, 14] [] ?_|refine rg 15 [1, 2, 11, 14] [1, 2] [] ?_|refine rg 16 [1, 2] [6, 7] [] ?_|refine nc ?_);simp (maxSteps := 1000000) [hF])
    cases hb : mergedF (ordOf L) (parents x) with
    | none =>
     rw [hb] at hstep
     simp only at hstep
     rw [hstep]
     refine (merged_no B hfind (parents x) hthp hnp M hM false hb).go [(0, []), (1, [])] (by simp (maxSteps := 1000000) [hF, dL, dM]) ?_;rintro av X κ ⟨M, hM, rfl, rfl, rfl⟩;simp (maxSteps := 1000000) [hF, dL, dM]
     repeat first|refine n1 ?_|refine n2 ?_|refine n3 ?_|refine n4 ?_|refine n5 ?_|refine n6 ?_|refine n7 ?_|refine n8 ?_|refine n9 ?_|refine n0 ?_|refine ⟨⟨by omega, by omega⟩, ?_⟩|((first|refine rg 0 [0, 1, 2] [0, 1, 2] [] ?_|refine rg 1 [0, 1, 2] [0, 1, 2, 8, 9] [] ?_|refine rg 2 [0, 1, 2, 8, 9] [0, 1, 2, 8, 21] [] ?_|refine rg 3 [8] [6, 7] [] ?_|refine rg 4 [0, 1, 2] [0, 1, 2, 10] [] ?_|refine rg 5 [0, 1, 2, 10] [0, 1, 2, 10, 11, 12] [] ?_|refine rg 6 [0, 1, 2, 10, 11, 12] [0, 1, 2, 10, 11, 39] [] ?_|refine rg 7 [] [6, 7] [] ?_|refine rg 8 [0, 1, 2, 10, 11] [0, 1, 2, 10, 11, 13] [] ?_|refine rg 9 [0, 1, 2, 10, 11, 13] [0, 1, 2, 10, 11, 13, 45] [] ?_|refine rg 10 [0, 1, 2, 10, 11, 13] [0, 1, 2, 11, 13] [] ?_|refine rg 11 [0, 1, 2, 11, 13] [1, 2, 11, 12, 14] [] ?_|refine rg 12 [1, 2, 11, 12, 14] [1, 2, 11, 14, 59] [] ?_|refine rg 13 [] [6, 7] [] ?_|refine rg 14 [1, 2, 11, 14] [1, 2, 11, 14] [] ?_|refine rg 15 [1, 2, 11, 14] [1, 2] [] ?_|refine rg 16 [1, 2] [6, 7] [] ?_|refine nc ?_);simp (maxSteps := 1000000) [hF])
     (try refine nr ?_);(repeat first|refine nb_ ?_|refine nl_ ?_);refine endK.o [6, 7] [0, 1] [(1, [.i 0])] ?_;simp [hF, retK, covers, mpre, dL, dM]
     exact ⟨M, hM, rfl⟩
    | some behind =>
     rw [hb] at hstep
     simp only at hstep
     obtain ⟨_, _, hbl⟩ := merged_len B (fun u hu => by have := hedge u (.inr hu); omega) hnp hb
     refine (merged_yes B hfind (parents x) hthp hnp M hM false hb).go [(0, []), (1, [])] (by simp (maxSteps := 1000000) [hF, dL, dM]) ?_;rintro av X κ ⟨M, hM, rfl, rfl, rfl⟩;simp (maxSteps := 1000000) [hF, dL, dM]
     repeat first|refine n1 ?_|refine n2 ?_|refine n3 ?_|refine n4 ?_|refine n5 ?_|refine n6 ?_|refine n7 ?_|refine n8 ?_|refine n9 ?_|refine n0 ?_|refine ⟨⟨by omega, by omega⟩, ?_⟩|((first|refine rg 0 [0, 1, 2] [0, 1, 2] [] ?_|refine rg 1 [0, 1, 2] [0, 1, 2, 8, 9] [] ?_|refine rg 2 [0, 1, 2, 8, 9] [0, 1, 2, 8, 21] [] ?_|refine rg 3 [8] [6, 7] [] ?_|refine rg 4 [0, 1, 2] [0, 1, 2, 10] [] ?_|refine rg 5 [0, 1, 2, 10] [0, 1, 2, 10, 11, 12] [] ?_|refine rg 6 [0, 1, 2, 10, 11, 12] [0, 1, 2, 10, 11, 39] [] ?_|refine rg 7 [] [6, 7] [] ?_|refine rg 8 [0, 1, 2, 10, 11] [0, 1, 2, 10, 11, 13] [] ?_|refine rg 9 [0, 1, 2, 10, 11, 13] [0, 1, 2, 10, 11, 13, 45] [] ?_|refine rg 10 [0, 1, 2, 10, 11, 13] [0, 1, 2, 11, 13] [] ?_|refine rg 11 [0, 1, 2, 11, 13] [1, 2, 11, 12, 14] [] ?_|refine rg 12 [1, 2, 11, 12, 14] [1, 2, 11, 14, 59] [] ?_|refine rg 13 [] [6, 7] [] ?_|refine rg 14 [1, 2, 11, 14] [1, 2, 11, 14] [] ?_|refine rg 15 [1, 2, 11, 14] [1, 2] [] ?_|refine rg 16 [1, 2] [6, 7] [] ?_|refine nc ?_);simp (maxSteps := 1000000) [hF])
     refine (delIs_ok behind front (by omega) (by omega)).go [(3, []), (2, [])] (by simp (maxSteps := 1000000) [hF, dBox]) ?_;rintro av X κ ⟨s3, m3, rfl, rfl, rfl, hs3, hm3⟩;simp (maxSteps := 1000000) [hF, dBox]
     generalize hkept : (behind.filter fun v => !hasN front v) = kept at *
     subst hm3
     have hkl : kept.length ≤ 1000 := by
      have : kept.length ≤ behind.length := by rw [← hkept]; exact List.length_filter_le _ _
      omega
     repeat first|refine n1 ?_|refine n2 ?_|refine n3 ?_|refine n4 ?_|refine n5 ?_|refine n6 ?_|refine n7 ?_|refine n8 ?_|refine n9 ?_|refine n0 ?_|refine ⟨⟨by omega, by omega⟩, ?_⟩|((first|refine rg 0 [0, 1, 2] [0, 1, 2] [] ?_|refine rg 1 [0, 1, 2] [0, 1, 2, 8, 9] [] ?_|refine rg 2 [0, 1, 2, 8, 9] [0, 1, 2, 8, 21] [] ?_|refine rg 3 [8] [6, 7] [] ?_|refine rg 4 [0, 1, 2] [0, 1, 2, 10] [] ?_|refine rg 5 [0, 1, 2, 10] [0, 1, 2, 10, 11, 12] [] ?_|refine rg 6 [0, 1, 2, 10, 11, 12] [0, 1, 2, 10, 11, 39] [] ?_|refine rg 7 [] [6, 7] [] ?_|refine rg 8 [0, 1, 2, 10, 11] [0, 1, 2, 10, 11, 13] [] ?_|refine rg 9 [0, 1, 2, 10, 11, 13] [0, 1, 2, 10, 11, 13, 45] [] ?_|refine rg 10 [0, 1, 2, 10, 11, 13] [0, 1, 2, 11, 13] [] ?_|refine rg 11 [0, 1, 2, 11, 13] [1, 2, 11, 12, 14] [] ?_|refine rg 12 [1, 2, 11, 12, 14] [1, 2, 11, 14, 59] [] ?_|refine rg 13 [] [6, 7] [] ?_|refine rg 14 [1, 2, 11, 14] [1, 2, 11, 14] [] ?_|refine rg 15 [1, 2, 11, 14] [1, 2] [] ?_|refine rg 16 [1, 2] [6, 7] [] ?_|refine nc ?_);simp (maxSteps := 1000000) [hF, dBox, hs3])
     refine (concat_ok true [(false, front), (true, [(t : Int)]), (true, kept)] (by simp) (by simp [sizeOs]; omega) (by simp [sizeOs]; omega)).go [(6, [])] (by simp (maxSteps := 1000000) [hF, dOs, sq, dInts_one]) ?_;rintro av X κ ⟨rfl, rfl, rfl⟩;simp (maxSteps := 1000000) [hF, dOs, sq, dInts_one]
     have hfind2 := dEns_find (putE M t (front ++ (t : Int) :: kept)) t
     rw [got_putE, if_pos rfl] at hfind2
     have hput := dEns_putE M t (front ++ (t : Int) :: kept)
     have hfl2 : flatOs [(false, front), (true, [(t : Int)]), (true, kept)] = front ++ (t : Int) :: kept := by simp [flatOs]
     repeat first|refine n1 ?_|refine n2 ?_|refine n3 ?_|refine n4 ?_|refine n5 ?_|refine n6 ?_|refine n7 ?_|refine n8 ?_|refine n9 ?_|refine n0 ?_|refine ⟨⟨by omega, by omega⟩, ?_⟩|((first|refine rg 0 [0, 1, 2] [0, 1, 2] [] ?_|refine rg 1 [0, 1, 2] [0, 1, 2, 8, 9] [] ?_|refine rg 2 [0, 1, 2, 8, 9] [0, 1, 2, 8, 21] [] ?_|refine rg 3 [8] [6, 7] [] ?_|refine rg 4 [0, 1, 2] [0, 1, 2, 10] [] ?_|refine rg 5 [0, 1, 2, 10] [0, 1, 2, 10, 11, 12] [] ?_|refine rg 6 [0, 1, 2, 10, 11, 12] [0, 1, 2, 10, 11, 39] [] ?_|refine rg 7 [] [6, 7] [] ?_|refine rg 8 [0, 1, 2, 10, 11] [0, 1, 2, 10, 11, 13] [] ?_|refine rg 9 [0, 1, 2, 10, 11, 13] [0, 1, 2, 10, 11, 13, 45] [] ?_|refine rg 10 [0, 1, 2, 10, 11, 13] [0, 1, 2, 11, 13] [] ?_|refine rg 11 [0, 1, 2, 11, 13] [1, 2, 11, 12, 14] [] ?_|refine rg 12 [1, 2, 11, 12, 14] [1, 2, 11, 14, 59] [] ?_|refine rg 13 [] [6, 7] [] ?_|refine rg 14 [1, 2, 11, 14] [1, 2, 11, 14] [] ?_|refine rg 15 [1, 2, 11, 14] [1, 2] [] ?_|refine rg 16 [1, 2] [6, 7] [] ?_|refine nc ?_);simp (maxSteps := 1000000) [hF, hfl2, hput, hfind2])
     (try refine nr ?_);(repeat first|refine nb_ ?_|refine nl_ ?_);refine endK.o [6, 7] [0, 1] [(1, [.i 0])] ?_;simp [hF, retK, covers, mpre, dL, dM, hstep]
     refine ⟨_, fun k o hk => ?_, rfl⟩
     rw [got_putE] at hk
     split at hk
     ·rename_i e
      subst e
      cases hk
      rw [hstep]; simp
     ·exact hM k o hk
theorem find_all {L : List Th} {r : Int → Nat} (B : Base L r) : ∀ n, FindOk L r n
 | 0 => fun _ _ h => by omega
 | n + 1 => fun t ht hr M hM => find_step B (find_all B n) t ht hr M hM
theorem find_ok {L : List Th} {r : Int → Nat} (B : Base L r) (t : Nat) (ht : t < L.length) (M : List (Int × List Int)) (hM : MemoOk L M) :
  Meets Try.prog 67 [dL L, dM M] (.cons (.ptr 0 [.d]) (.cons (avInt t) (.cons (.mp 1 []) .nil))) (FindR L t) := find_all B (r t + 1) t ht (by omega) M hM
end Go.Proofs.Ytbhigdljojlhnaa

/- What is asked of a lineage. -/
namespace Go.Proofs.Ytbhigdljojlhnaa
set_option linter.all false
open Go.Vc Go.Proofs
set_option linter.unusedSimpArgs false
set_option maxRecDepth 100000
set_option maxHeartbeats 4000000
attribute [local irreducible] CallW EqK
abbrev avTwo (a : AV) (e : Int) : AV := .tup (.cons a (.cons (avInt e) .nil))
def val (L : List Th) (t : Int) : Bool := decide (0 ≤ t ∧ t < L.length)
noncomputable def ordL (L : List Th) (t : Int) : List Int := match ordOf L t with | some o => o | none => []
def thAt (L : List Th) (t : Int) : Th := L.getD t.toNat ⟨0, -1, -1, -1, [], []⟩
theorem thAt_eq {L : List Th} {t : Nat} (h : t < L.length) : thAt L t = L[t] := by simp [thAt, h]
theorem val_nat {L : List Th} {t : Int} (h : val L t = true) : ∃ k : Nat, t = k ∧ k < L.length := by
 simp only [val, decide_eq_true_eq] at h
 exact ⟨t.toNat, by omega, by omega⟩
structure WFL (L : List Th) : Prop where
 base : ∃ r, Base L r
 full : ∀ t : Nat, t < L.length → ∃ o, ordOf L t = some o
theorem WFL.ord {L : List Th} (W : WFL L) {t : Nat} (h : t < L.length) : ordOf L t = some (ordL L t) := by
 obtain ⟨o, ho⟩ := W.full t h
 unfold ordL; rw [ho]
theorem len_ok (L : List Th) (hl : L.length ≤ 1000) : Meets Try.prog 39 [dL L] (.cons (.ptr 0 [.d]) .nil) fun av X κ => av = avInt L.length ∧ X = [dL L] ∧ κ = [] := by
 refine fb Try.func39 Try.ntmps39 [.tmp 2] fun w0 I0 F0 hF => ?_
 repeat first|refine n1 ?_|refine n2 ?_|refine n3 ?_|refine n4 ?_|refine n5 ?_|refine n6 ?_|refine n7 ?_|refine n8 ?_|refine n9 ?_|refine n0 ?_|refine ⟨⟨by omega, by omega⟩, ?_⟩|((first|refine rg 0 [0] [0] [] ?_|refine rg 1 [0] [0, 4] [] ?_|refine rg 2 [] [2] [] ?_|refine rg 3 [0] [2] [] ?_|refine nc ?_);simp (maxSteps := 1000000) [hF, dL])
 (try refine nr ?_);(repeat first|refine nb_ ?_|refine nl_ ?_);refine endK.o [2] [0] [] ?_;simp [hF, retK, covers, mpre, dL]
theorem is_ok (L : List Th) (hl : L.length ≤ 1000) (t : Int) : Meets Try.prog 50 [dL L] (.cons (.ptr 0 [.d]) (.cons (avInt t) .nil)) fun av X κ => av = avBool (val L t) ∧ X = [dL L] ∧ κ = [] := by
 refine fb Try.func50 Try.ntmps50 [.tmp 4] fun w0 I0 F0 hF => ?_
 by_cases h1 : 0 ≤ t
 ·by_cases h2 : t < L.length
  ·repeat first|refine n1 ?_|refine n2 ?_|refine n3 ?_|refine n4 ?_|refine n5 ?_|refine n6 ?_|refine n7 ?_|refine n8 ?_|refine n9 ?_|refine n0 ?_|refine ⟨⟨by omega, by omega⟩, ?_⟩|((first|refine rg 0 [0, 1] [0, 1] [] ?_|refine rg 1 [0, 1] [4] [(2, 7), (6, 11)] ?_|refine nc ?_);simp (maxSteps := 1000000) [hF, dL, h1, h2])
   (try refine nr ?_);(repeat first|refine nb_ ?_|refine nl_ ?_);refine endK.o [4] [0] [] ?_;simp [hF, retK, covers, mpre, dL, val, h1, h2]
  ·repeat first|refine n1 ?_|refine n2 ?_|refine n3 ?_|refine n4 ?_|refine n5 ?_|refine n6 ?_|refine n7 ?_|refine n8 ?_|refine n9 ?_|refine n0 ?_|refine ⟨⟨by omega, by omega⟩, ?_⟩|((first|refine rg 0 [0, 1] [0, 1] [] ?_|refine rg 1 [0, 1] [4] [(2, 7), (6, 11)] ?_|refine nc ?_);simp (maxSteps := 1000000) [hF, dL, h1, h2])
   (try refine nr ?_);(repeat first|refine nb_ ?_|refine nl_ ?_);refine endK.o [4] [0] [] ?_;simp [hF, retK, covers, mpre, dL, val, h1, h2]
 ·repeat first|refine n1 ?_|refine n2 ?_|refine n3 ?_|refine n4 ?_|refine n5 ?_|refine n6 ?_|refine n7 ?_|refine n8 ?_|refine n9 ?_|refine n0 ?_|refine ⟨⟨by omega, by omega⟩, ?_⟩|((first|refine rg 0 [0, 1] [0, 1] [] ?_|refine rg 1 [0, 1] [4] [(2, 7), (6, 11)] ?_|refine nc ?_);simp (maxSteps := 1000000) [hF, dL, h1])
  (try refine nr ?_);(repeat first|refine nb_ ?_|refine nl_ ?_);refine endK.o [4] [0] [] ?_;simp [hF, retK, covers, mpre, dL, val, h1]
theorem kind_ok (L : List Th) (hl : L.length ≤ 1000) (t k : Int) : Meets Try.prog 62 [dL L] (.cons (.ptr 0 [.d]) (.cons (avInt t) (.cons (avInt k) .nil))) fun av X κ => av = avBool (val L t && decide ((thAt L t).kind = k)) ∧ X = [dL L] ∧ κ = [] := by
 refine fb Try.func62 Try.ntmps62 [.tmp 6] fun w0 I0 F0 hF => ?_
 repeat first|refine n1 ?_|refine n2 ?_|refine n3 ?_|refine n4 ?_|refine n5 ?_|refine n6 ?_|refine n7 ?_|refine n8 ?_|refine n9 ?_|refine n0 ?_|refine ⟨⟨by omega, by omega⟩, ?_⟩|((first|refine rg 0 [0, 1, 2] [0, 1, 2] [] ?_|refine rg 1 [0, 1, 2] [6] [(3, 10)] ?_|refine nc ?_);simp (maxSteps := 1000000) [hF])
 cases hv : val L t with
 | true =>
  obtain ⟨t, rfl, ht⟩ := val_nat hv
  have hn := dThs_nth ht
  have hth := thAt_eq ht
  refine (is_ok L hl t).go [(0, [])] (by simp (maxSteps := 1000000) [hF, dL, dL, hv, hn, ht]) ?_;rintro av X κ ⟨rfl, rfl, rfl⟩;simp (maxSteps := 1000000) [hF, dL, dL, hv, hn, ht]
  repeat first|refine n1 ?_|refine n2 ?_|refine n3 ?_|refine n4 ?_|refine n5 ?_|refine n6 ?_|refine n7 ?_|refine n8 ?_|refine n9 ?_|refine n0 ?_|refine ⟨⟨by omega, by omega⟩, ?_⟩|((first|refine rg 0 [0, 1, 2] [0, 1, 2] [] ?_|refine rg 1 [0, 1, 2] [6] [(3, 10)] ?_|refine nc ?_);simp (maxSteps := 1000000) [hF])
  (try refine nr ?_);(repeat first|refine nb_ ?_|refine nl_ ?_);refine endK.o [6] [0] [] ?_;simp [hF, retK, covers, mpre, dL, hth]
 | false =>
  refine (is_ok L hl t).go [(0, [])] (by simp (maxSteps := 1000000) [hF, dL, dL, hv]) ?_;rintro av X κ ⟨rfl, rfl, rfl⟩;simp (maxSteps := 1000000) [hF, dL, dL, hv]
  repeat first|refine n1 ?_|refine n2 ?_|refine n3 ?_|refine n4 ?_|refine n5 ?_|refine n6 ?_|refine n7 ?_|refine n8 ?_|refine n9 ?_|refine n0 ?_|refine ⟨⟨by omega, by omega⟩, ?_⟩|((first|refine rg 0 [0, 1, 2] [0, 1, 2] [] ?_|refine rg 1 [0, 1, 2] [6] [(3, 10)] ?_|refine nc ?_);simp (maxSteps := 1000000) [hF])
  (try refine nr ?_);(repeat first|refine nb_ ?_|refine nl_ ?_);refine endK.o [6] [0] [] ?_;simp [hF, retK, covers, mpre, dL]
theorem room_ok (L : List Th) (hl : L.length ≤ 1000) (n : Nat) (hn : n ≤ 10000) : Meets Try.prog 63 [dL L] (.cons (.ptr 0 [.d]) (.cons (avInt n) .nil)) fun av X κ => av = avInt (if 1000 < L.length + n then 9 else 0) ∧ X = [dL L] ∧ κ = [] := by
 have hw : IntKind.i64.wrap ((L.length : Int) + (n : Int)) = (L.length : Int) + n := IntWalk.i64_in _ (by omega)
 refine fb Try.func63 Try.ntmps63 [.tmp 4] fun w0 I0 F0 hF => ?_
 by_cases h : 1000 < L.length + n
 ·have h' : (1000 : Int) < (L.length : Int) + n := by omega
  repeat first|refine n1 ?_|refine n2 ?_|refine n3 ?_|refine n4 ?_|refine n5 ?_|refine n6 ?_|refine n7 ?_|refine n8 ?_|refine n9 ?_|refine n0 ?_|refine ⟨⟨by omega, by omega⟩, ?_⟩|((first|refine rg 0 [0, 1] [0, 1] [] ?_|refine rg 1 [0, 1] [12] [] ?_|refine rg 2 [] [4] [] ?_|refine rg 3 [] [4] [] ?_|refine nc ?_);simp (maxSteps := 1000000) [hF, dL, hw, h'])
  (try refine nr ?_);(repeat first|refine nb_ ?_|refine nl_ ?_);refine endK.o [4] [0] [] ?_;simp [hF, retK, covers, mpre, dL, h]
 ·have h' : ¬ (1000 : Int) < (L.length : Int) + n := by omega
  repeat first|refine n1 ?_|refine n2 ?_|refine n3 ?_|refine n4 ?_|refine n5 ?_|refine n6 ?_|refine n7 ?_|refine n8 ?_|refine n9 ?_|refine n0 ?_|refine ⟨⟨by omega, by omega⟩, ?_⟩|((first|refine rg 0 [0, 1] [0, 1] [] ?_|refine rg 1 [0, 1] [12] [] ?_|refine rg 2 [] [4] [] ?_|refine rg 3 [] [4] [] ?_|refine nc ?_);simp (maxSteps := 1000000) [hF, dL, hw, h'])
  (try refine nr ?_);(repeat first|refine nb_ ?_|refine nl_ ?_);refine endK.o [4] [0] [] ?_;simp [hF, retK, covers, mpre, dL, h]
theorem order_ok {L : List Th} (W : WFL L) (t : Nat) (ht : t < L.length) : Meets Try.prog 51 [dL L] (.cons (.ptr 0 [.d]) (.cons (avInt t) .nil))
  fun av X κ => av = .tup (.cons (.imm 1 (dInts (ordL L t)) false) (.cons (avBool true) .nil)) ∧ X = [dL L] ∧ κ = [] := by
 obtain ⟨r, B⟩ := W.base
 have ho := W.ord ht
 have hf := Meets.mono (find_ok B t ht [] (fun k o h => by cases h)) (R' := fun av X κ => ∃ M, av = .tup (.cons (.imm 1 (dInts (ordL L t)) false) (.cons (avBool true) .nil)) ∧ X = [dL L, dM M] ∧ κ = [(1, [.i 0])])
  fun av X κ ⟨M, _, h2, h3, h4⟩ => ⟨M, by rw [ho] at h4; exact h4, h2, h3⟩
 refine fb Try.func51 Try.ntmps51 [.tmp 4, .tmp 5] fun w0 I0 F0 hF => ?_
 repeat first|refine n1 ?_|refine n2 ?_|refine n3 ?_|refine n4 ?_|refine n5 ?_|refine n6 ?_|refine n7 ?_|refine n8 ?_|refine n9 ?_|refine n0 ?_|refine ⟨⟨by omega, by omega⟩, ?_⟩|((first|refine rg 0 [0, 1] [0, 1] [] ?_|refine rg 1 [0, 1] [4, 5] [] ?_|refine nc ?_);simp (maxSteps := 1000000) [hF])
 refine (hf).go [(0, []), (1, [])] (by simp (maxSteps := 1000000) [hF, dL, dM]) ?_;rintro av X κ ⟨M, rfl, rfl, rfl⟩;simp (maxSteps := 1000000) [hF, dL, dM]
 repeat first|refine n1 ?_|refine n2 ?_|refine n3 ?_|refine n4 ?_|refine n5 ?_|refine n6 ?_|refine n7 ?_|refine n8 ?_|refine n9 ?_|refine n0 ?_|refine ⟨⟨by omega, by omega⟩, ?_⟩|((first|refine rg 0 [0, 1] [0, 1] [] ?_|refine rg 1 [0, 1] [4, 5] [] ?_|refine nc ?_);simp (maxSteps := 1000000) [hF])
 (try refine nr ?_);(repeat first|refine nb_ ?_|refine nl_ ?_);refine endK.o [4, 5] [0] [] ?_;simp [hF, retK, covers, mpre, dL]
theorem Order_yes {L : List Th} (W : WFL L) (t : Nat) (ht : t < L.length) : Meets Try.prog 56 [dL L] (.cons (.ptr 0 [.d]) (.cons (avInt t) .nil))
  fun av X κ => av = avTwo (.imm 1 (dInts (ordL L t)) false) 0 ∧ X = [dL L] ∧ κ = [] := by
 have hl : L.length ≤ 1000 := W.base.elim fun _ B => B.len
 have hv : val L t = true := by simp [val, ht]
 refine fb Try.func56 Try.ntmps56 [.tmp 4, .tmp 5] fun w0 I0 F0 hF => ?_
 repeat first|refine n1 ?_|refine n2 ?_|refine n3 ?_|refine n4 ?_|refine n5 ?_|refine n6 ?_|refine n7 ?_|refine n8 ?_|refine n9 ?_|refine n0 ?_|refine ⟨⟨by omega, by omega⟩, ?_⟩|((first|refine rg 0 [0, 1] [0, 1] [] ?_|refine rg 1 [0, 1] [0, 1, 11] [] ?_|refine rg 2 [] [4, 5] [] ?_|refine rg 3 [0, 1] [6] [] ?_|refine rg 4 [6] [4, 5] [] ?_|refine nc ?_);simp (maxSteps := 1000000) [hF])
 refine (is_ok L hl t).go [(0, [])] (by simp (maxSteps := 1000000) [hF, dL, hv]) ?_;rintro av X κ ⟨rfl, rfl, rfl⟩;simp (maxSteps := 1000000) [hF, dL, hv]
 repeat first|refine n1 ?_|refine n2 ?_|refine n3 ?_|refine n4 ?_|refine n5 ?_|refine n6 ?_|refine n7 ?_|refine n8 ?_|refine n9 ?_|refine n0 ?_|refine ⟨⟨by omega, by omega⟩, ?_⟩|((first|refine rg 0 [0, 1] [0, 1] [] ?_|refine rg 1 [0, 1] [0, 1, 11] [] ?_|refine rg 2 [] [4, 5] [] ?_|refine rg 3 [0, 1] [6] [] ?_|refine rg 4 [6] [4, 5] [] ?_|refine nc ?_);simp (maxSteps := 1000000) [hF])
 refine (order_ok W t ht).go [(0, [])] (by simp (maxSteps := 1000000) [hF, dL]) ?_;rintro av X κ ⟨rfl, rfl, rfl⟩;simp (maxSteps := 1000000) [hF, dL]
 repeat first|refine n1 ?_|refine n2 ?_|refine n3 ?_|refine n4 ?_|refine n5 ?_|refine n6 ?_|refine n7 ?_|refine n8 ?_|refine n9 ?_|refine n0 ?_|refine ⟨⟨by omega, by omega⟩, ?_⟩|((first|refine rg 0 [0, 1] [0, 1] [] ?_|refine rg 1 [0, 1] [0, 1, 11] [] ?_|refine rg 2 [] [4, 5] [] ?_|refine rg 3 [0, 1] [6] [] ?_|refine rg 4 [6] [4, 5] [] ?_|refine nc ?_);simp (maxSteps := 1000000) [hF])
 (try refine nr ?_);(repeat first|refine nb_ ?_|refine nl_ ?_);refine endK.o [4, 5] [0] [] ?_;simp [hF, retK, covers, mpre, dL]
theorem Kind_yes {L : List Th} (hl : L.length ≤ 1000) (t : Nat) (ht : t < L.length) : Meets Try.prog 58 [dL L] (.cons (.ptr 0 [.d]) (.cons (avInt t) .nil))
  fun av X κ => av = avTwo (avInt (L[t]).kind) 0 ∧ X = [dL L] ∧ κ = [] := by
 have hv : val L t = true := by simp [val, ht]
 have hn := dThs_nth ht
 refine fb Try.func58 Try.ntmps58 [.tmp 4, .tmp 5] fun w0 I0 F0 hF => ?_
 repeat first|refine n1 ?_|refine n2 ?_|refine n3 ?_|refine n4 ?_|refine n5 ?_|refine n6 ?_|refine n7 ?_|refine n8 ?_|refine n9 ?_|refine n0 ?_|refine ⟨⟨by omega, by omega⟩, ?_⟩|((first|refine rg 0 [0, 1] [0, 1] [] ?_|refine rg 1 [0, 1] [0, 1, 9] [] ?_|refine rg 2 [] [4, 5] [] ?_|refine rg 3 [0, 1] [4, 5] [] ?_|refine nc ?_);simp (maxSteps := 1000000) [hF])
 refine (is_ok L hl t).go [(0, [])] (by simp (maxSteps := 1000000) [hF, dL, hv]) ?_;rintro av X κ ⟨rfl, rfl, rfl⟩;simp (maxSteps := 1000000) [hF, dL, hv]
 repeat first|refine n1 ?_|refine n2 ?_|refine n3 ?_|refine n4 ?_|refine n5 ?_|refine n6 ?_|refine n7 ?_|refine n8 ?_|refine n9 ?_|refine n0 ?_|refine ⟨⟨by omega, by omega⟩, ?_⟩|((first|refine rg 0 [0, 1] [0, 1] [] ?_|refine rg 1 [0, 1] [0, 1, 9] [] ?_|refine rg 2 [] [4, 5] [] ?_|refine rg 3 [0, 1] [4, 5] [] ?_|refine nc ?_);simp (maxSteps := 1000000) [hF, dL, hn, ht])
 (try refine nr ?_);(repeat first|refine nb_ ?_|refine nl_ ?_);refine endK.o [4, 5] [0] [] ?_;simp [hF, retK, covers, mpre, dL]
end Go.Proofs.Ytbhigdljojlhnaa

/- Things are made. -/
namespace Go.Proofs.Ytbhigdljojlhnaa
set_option linter.all false
open Go.Vc Go.Proofs
set_option linter.unusedSimpArgs false
set_option linter.unusedVariables false
set_option maxRecDepth 100000
set_option maxHeartbeats 4000000
attribute [local irreducible] CallW EqK
def L0 : List Th := [⟨0, -1, -1, -1, [], []⟩]
theorem new_ok : Meets Try.prog 40 [] .nil fun av X κ => av = .ptr 0 [.d] ∧ X = [dL L0] ∧ κ = [] := by
 refine fb Try.func40 Try.ntmps40 [.tmp 0] fun w0 I0 F0 hF => ?_
 repeat first|refine n1 ?_|refine n2 ?_|refine n3 ?_|refine n4 ?_|refine n5 ?_|refine n6 ?_|refine n7 ?_|refine n8 ?_|refine n9 ?_|refine n0 ?_|refine ⟨⟨by omega, by omega⟩, ?_⟩|((first|refine rg 0 [] [] [] ?_|refine rg 1 [] [0] [] ?_|refine nc ?_);simp (maxSteps := 1000000) [hF])
 refine VS.cold 1 [.d, .f 0, .i 0, .f 4] (by simp (maxSteps := 1000000) [hF, T.freeze]) (by simp (maxSteps := 1000000) [hF, T.freeze]) (by simp (maxSteps := 1000000) [hF, T.freeze]) ?_;simp [hF, St.cold, T.freeze]
 refine VS.cold 1 [.d, .f 0, .i 0, .f 5] (by simp (maxSteps := 1000000) [hF, T.freeze]) (by simp (maxSteps := 1000000) [hF, T.freeze]) (by simp (maxSteps := 1000000) [hF, T.freeze]) ?_;simp [hF, St.cold, T.freeze]
 (try refine nr ?_);(repeat first|refine nb_ ?_|refine nl_ ?_);refine endK.o [0] [1] [] ?_;simp [hF, retK, covers, mpre, dL, L0, dThs, dTh, sq]
abbrev avNew (k s o w : Int) : AV := .agg (.cons (avInt k) (.cons (avInt s) (.cons (avInt o) (.cons (avInt w) (.cons (.nils 1) (.cons (.nils 1) .nil))))))
theorem add_ok (L : List Th) (hl : L.length ≤ 5000) (k s o w : Int) : Meets Try.prog 64 [dL L] (.cons (.ptr 0 [.d]) (.cons (avNew k s o w) .nil))
  fun av X κ => av = avInt L.length ∧ X = [dL (L ++ [⟨k, s, o, w, [], []⟩])] ∧ κ = [(0, [.d])] := by
 have hpush := dThs_push L ⟨k, s, o, w, [], []⟩
 simp only [dInts_nil] at hpush
 have hmid : (dThs (L ++ [⟨k, s, o, w, [], []⟩])).mid 0 (L.length + 1) = dThs (L ++ [⟨k, s, o, w, [], []⟩]) := sq_mid_all _ _ (by simp)
 have hw : IntKind.i64.wrap (L.length : Int) = L.length := IntWalk.i64_in _ (by omega)
 have hw2 : IntKind.i64.wrap (((L.length + 1 : Nat) : Int) - 1) = L.length := by
  have : (((L.length + 1 : Nat) : Int) - 1) = L.length := by omega
  rw [this]; exact hw
 have b1 : (L.length + 1) * 80 ≤ 140737488355328 := by omega
 have b2 : L.length + 1 ≤ 9223372036854775807 := by omega
 refine fb Try.func64 Try.ntmps64 [.tmp 4] fun w0 I0 F0 hF => ?_
 repeat first|refine n1 ?_|refine n2 ?_|refine n3 ?_|refine n4 ?_|refine n5 ?_|refine n6 ?_|refine n7 ?_|refine n8 ?_|refine n9 ?_|refine n0 ?_|refine ⟨⟨by omega, by omega⟩, ?_⟩|((first|(refine dr 1 0 [0, 3] [0] [] [⟨0, 1, 32, 5⟩, ⟨0, 1, 64, 5⟩, ⟨2, 64, 128, 5⟩, ⟨4, 128, 256, 5⟩, ⟨8, 256, 512, 6⟩, ⟨0, 8, 1024, 6⟩, ⟨32, 1024, 2048, 4⟩, ⟨80, 2560, 4096, 0⟩, ⟨255, 32, 8192, 5⟩, ⟨511, 8192, 16384, 5⟩, ⟨767, 20480, 0, 0⟩] (.take 0 (.take 1 (.take 2 (.take 3 (.take 4 (.take 5 (.fork (.alt 6 (.fork (.alt 7 (.take 8 (.take 9 (.fork (.alt 10 (.done) (.nil))))) (.nil))) (.nil))))))))) (.run [0, 1, 2, 3, 4, 5, 6, 7, 8, 9, 10] (.done)) ?_;simp only [drs])|refine rg 2 [0] [4] [] ?_|refine nc ?_);simp (maxSteps := 1000000) [hF])
 refine VS.chill 1 ?_;simp [hF, St.chill]
 repeat first|refine n1 ?_|refine n2 ?_|refine n3 ?_|refine n4 ?_|refine n5 ?_|refine n6 ?_|refine n7 ?_|refine n8 ?_|refine n9 ?_|refine n0 ?_|refine ⟨⟨by omega, by omega⟩, ?_⟩|((first|refine rg 0 [0, 1] [0, 3] [] ?_|refine rg 2 [0] [4] [] ?_|refine nc ?_);simp (maxSteps := 1000000) [hF])
 refine ghostL 0 [.d, .f 0] ?_;simp (maxSteps := 1000000) [hF, St.lift, AV.lift, liftPl, stripP, nodeAV, isNode, dL]
 repeat first|refine n1 ?_|refine n2 ?_|refine n3 ?_|refine n4 ?_|refine n5 ?_|refine n6 ?_|refine n7 ?_|refine n8 ?_|refine n9 ?_|refine n0 ?_|refine ⟨⟨by omega, by omega⟩, ?_⟩|((first|refine rg 0 [0, 1] [0, 3] [] ?_|(refine dr 1 0 [0, 3] [0] [] [⟨0, 1, 32, 5⟩, ⟨0, 1, 64, 5⟩, ⟨2, 64, 128, 5⟩, ⟨4, 128, 256, 5⟩, ⟨8, 256, 512, 6⟩, ⟨0, 8, 1024, 6⟩, ⟨32, 1024, 2048, 4⟩, ⟨80, 2560, 4096, 0⟩, ⟨255, 32, 8192, 5⟩, ⟨511, 8192, 16384, 5⟩, ⟨767, 20480, 0, 0⟩] (.take 0 (.take 1 (.take 2 (.take 3 (.take 4 (.take 5 (.fork (.alt 6 (.fork (.alt 7 (.take 8 (.take 9 (.fork (.alt 10 (.done) (.nil))))) (.nil))) (.nil))))))))) (.run [0, 1, 2, 3, 4, 5, 6, 7, 8, 9, 10] (.done)) ?_;simp only [drs])|refine rg 2 [0] [4] [] ?_|refine nc ?_);simp (maxSteps := 1000000) [hF, hpush, hmid, b1, b2, hw, hw2])
 (try refine nr ?_);(repeat first|refine nb_ ?_|refine nl_ ?_);refine endK.o [4] [0] [(0, [.d])] ?_;simp [hF, retK, covers, mpre, dL]
def newTh (k s o : Int) : Th := ⟨k, s, o, -1, [], []⟩
def classOf (L : List Th) (s : Int) : List Th × Int × Int :=
 if (val L s && decide ((thAt L s).kind = 0)) = false then (L, 0, 1) else if 1000 < L.length + 1 then (L, 0, 9) else (L ++ [newTh 0 s (-1)], (L.length : Int), 0)
def moduleOf (L : List Th) : List Th × Int × Int :=
 if L.length = 0 then (L, 0, 1) else if 1000 < L.length + 1 then (L, 0, 9) else (L ++ [newTh 1 (-1) (-1)], (L.length : Int), 0)
abbrev two (x : Int × Int) : AV := avTwo (avInt x.1) x.2
theorem class_ok (L : List Th) (hl : L.length ≤ 1000) (s : Int) : Meets Try.prog 41 [dL L] (.cons (.ptr 0 [.d]) (.cons (avInt s) .nil))
  fun av X κ => av = two (classOf L s).2 ∧ X = [dL (classOf L s).1] ∧ κ = [(0, [.d])] := by
 refine fb Try.func41 Try.ntmps41 [.tmp 4, .tmp 5] fun w0 I0 F0 hF => ?_
 repeat first|refine n1 ?_|refine n2 ?_|refine n3 ?_|refine n4 ?_|refine n5 ?_|refine n6 ?_|refine n7 ?_|refine n8 ?_|refine n9 ?_|refine n0 ?_|refine ⟨⟨by omega, by omega⟩, ?_⟩|((first|refine rg 0 [0, 1] [0, 1] [] ?_|refine rg 1 [0, 1] [0, 1, 10] [] ?_|refine rg 2 [] [4, 5] [] ?_|refine rg 3 [0, 1] [0, 1, 6] [] ?_|refine rg 4 [0, 1, 6] [0, 1, 6, 14] [] ?_|refine rg 5 [6] [4, 5] [] ?_|refine rg 6 [0, 1] [4, 5] [] ?_|refine nc ?_);simp (maxSteps := 1000000) [hF])
 cases hk : (val L s && decide ((thAt L s).kind = 0)) with
 | false =>
  have hc : classOf L s = (L, 0, 1) := by unfold classOf; rw [if_pos hk]
  refine (kind_ok L hl s 0).go [(0, [])] (by simp (maxSteps := 1000000) [hF, dL, hk]) ?_;rintro av X κ ⟨rfl, rfl, rfl⟩;simp (maxSteps := 1000000) [hF, dL, hk]
  repeat first|refine n1 ?_|refine n2 ?_|refine n3 ?_|refine n4 ?_|refine n5 ?_|refine n6 ?_|refine n7 ?_|refine n8 ?_|refine n9 ?_|refine n0 ?_|refine ⟨⟨by omega, by omega⟩, ?_⟩|((first|refine rg 0 [0, 1] [0, 1] [] ?_|refine rg 1 [0, 1] [0, 1, 10] [] ?_|refine rg 2 [] [4, 5] [] ?_|refine rg 3 [0, 1] [0, 1, 6] [] ?_|refine rg 4 [0, 1, 6] [0, 1, 6, 14] [] ?_|refine rg 5 [6] [4, 5] [] ?_|refine rg 6 [0, 1] [4, 5] [] ?_|refine nc ?_);simp (maxSteps := 1000000) [hF])
  (try refine nr ?_);(repeat first|refine nb_ ?_|refine nl_ ?_);refine endK.o [4, 5] [0] [(0, [.d])] ?_;simp [hF, retK, covers, mpre, dL, hc]
 | true =>
  refine (kind_ok L hl s 0).go [(0, [])] (by simp (maxSteps := 1000000) [hF, dL, hk]) ?_;rintro av X κ ⟨rfl, rfl, rfl⟩;simp (maxSteps := 1000000) [hF, dL, hk]
  repeat first|refine n1 ?_|refine n2 ?_|refine n3 ?_|refine n4 ?_|refine n5 ?_|refine n6 ?_|refine n7 ?_|refine n8 ?_|refine n9 ?_|refine n0 ?_|refine ⟨⟨by omega, by omega⟩, ?_⟩|((first|refine rg 0 [0, 1] [0, 1] [] ?_|refine rg 1 [0, 1] [0, 1, 10] [] ?_|refine rg 2 [] [4, 5] [] ?_|refine rg 3 [0, 1] [0, 1, 6] [] ?_|refine rg 4 [0, 1, 6] [0, 1, 6, 14] [] ?_|refine rg 5 [6] [4, 5] [] ?_|refine rg 6 [0, 1] [4, 5] [] ?_|refine nc ?_);simp (maxSteps := 1000000) [hF])
  refine (room_ok L hl 1 (by omega)).go [(0, [])] (by simp (maxSteps := 1000000) [hF, dL]) ?_;rintro av X κ ⟨rfl, rfl, rfl⟩;simp (maxSteps := 1000000) [hF, dL]
  by_cases hf : 1000 < L.length + 1
  ·have hc : classOf L s = (L, 0, 9) := by unfold classOf; rw [if_neg (by simp [hk]), if_pos hf]
   repeat first|refine n1 ?_|refine n2 ?_|refine n3 ?_|refine n4 ?_|refine n5 ?_|refine n6 ?_|refine n7 ?_|refine n8 ?_|refine n9 ?_|refine n0 ?_|refine ⟨⟨by omega, by omega⟩, ?_⟩|((first|refine rg 0 [0, 1] [0, 1] [] ?_|refine rg 1 [0, 1] [0, 1, 10] [] ?_|refine rg 2 [] [4, 5] [] ?_|refine rg 3 [0, 1] [0, 1, 6] [] ?_|refine rg 4 [0, 1, 6] [0, 1, 6, 14] [] ?_|refine rg 5 [6] [4, 5] [] ?_|refine rg 6 [0, 1] [4, 5] [] ?_|refine nc ?_);simp (maxSteps := 1000000) [hF, hf])
   (try refine nr ?_);(repeat first|refine nb_ ?_|refine nl_ ?_);refine endK.o [4, 5] [0] [(0, [.d])] ?_;simp [hF, retK, covers, mpre, dL, hc]
  ·have hc : classOf L s = (L ++ [newTh 0 s (-1)], (L.length : Int), 0) := by unfold classOf; rw [if_neg (by simp [hk]), if_neg hf]
   repeat first|refine n1 ?_|refine n2 ?_|refine n3 ?_|refine n4 ?_|refine n5 ?_|refine n6 ?_|refine n7 ?_|refine n8 ?_|refine n9 ?_|refine n0 ?_|refine ⟨⟨by omega, by omega⟩, ?_⟩|((first|refine rg 0 [0, 1] [0, 1] [] ?_|refine rg 1 [0, 1] [0, 1, 10] [] ?_|refine rg 2 [] [4, 5] [] ?_|refine rg 3 [0, 1] [0, 1, 6] [] ?_|refine rg 4 [0, 1, 6] [0, 1, 6, 14] [] ?_|refine rg 5 [6] [4, 5] [] ?_|refine rg 6 [0, 1] [4, 5] [] ?_|refine nc ?_);simp (maxSteps := 1000000) [hF, hf])
   refine (add_ok L (by omega) 0 s (-1) (-1)).go [(0, [])] (by simp (maxSteps := 1000000) [hF, dL]) ?_;rintro av X κ ⟨rfl, rfl, rfl⟩;simp (maxSteps := 1000000) [hF, dL]
   repeat first|refine n1 ?_|refine n2 ?_|refine n3 ?_|refine n4 ?_|refine n5 ?_|refine n6 ?_|refine n7 ?_|refine n8 ?_|refine n9 ?_|refine n0 ?_|refine ⟨⟨by omega, by omega⟩, ?_⟩|((first|refine rg 0 [0, 1] [0, 1] [] ?_|refine rg 1 [0, 1] [0, 1, 10] [] ?_|refine rg 2 [] [4, 5] [] ?_|refine rg 3 [0, 1] [0, 1, 6] [] ?_|refine rg 4 [0, 1, 6] [0, 1, 6, 14] [] ?_|refine rg 5 [6] [4, 5] [] ?_|refine rg 6 [0, 1] [4, 5] [] ?_|refine nc ?_);simp (maxSteps := 1000000) [hF])
   (try refine nr ?_);(repeat first|refine nb_ ?_|refine nl_ ?_);refine endK.o [4, 5] [0] [(0, [.d])] ?_;simp [hF, retK, covers, mpre, dL, hc, newTh]
theorem module_ok (L : List Th) (hl : L.length ≤ 1000) : Meets Try.prog 42 [dL L] (.cons (.ptr 0 [.d]) .nil)
  fun av X κ => av = two (moduleOf L).2 ∧ X = [dL (moduleOf L).1] ∧ κ = [(0, [.d])] := by
 refine fb Try.func42 Try.ntmps42 [.tmp 2, .tmp 3] fun w0 I0 F0 hF => ?_
 repeat first|refine n1 ?_|refine n2 ?_|refine n3 ?_|refine n4 ?_|refine n5 ?_|refine n6 ?_|refine n7 ?_|refine n8 ?_|refine n9 ?_|refine n0 ?_|refine ⟨⟨by omega, by omega⟩, ?_⟩|((first|refine rg 0 [0] [0] [] ?_|refine rg 1 [0] [0, 7] [] ?_|refine rg 2 [] [2, 3] [] ?_|refine rg 3 [0] [0, 4] [] ?_|refine rg 4 [0, 4] [0, 4, 11] [] ?_|refine rg 5 [4] [2, 3] [] ?_|refine rg 6 [0] [2, 3] [] ?_|refine nc ?_);simp (maxSteps := 1000000) [hF])
 refine (len_ok L hl).go [(0, [])] (by simp (maxSteps := 1000000) [hF, dL]) ?_;rintro av X κ ⟨rfl, rfl, rfl⟩;simp (maxSteps := 1000000) [hF, dL]
 by_cases h0 : L = []
 ·subst h0
  have hc : moduleOf [] = ([], 0, 1) := by unfold moduleOf; rw [if_pos (by simp)]
  repeat first|refine n1 ?_|refine n2 ?_|refine n3 ?_|refine n4 ?_|refine n5 ?_|refine n6 ?_|refine n7 ?_|refine n8 ?_|refine n9 ?_|refine n0 ?_|refine ⟨⟨by omega, by omega⟩, ?_⟩|((first|refine rg 0 [0] [0] [] ?_|refine rg 1 [0] [0, 7] [] ?_|refine rg 2 [] [2, 3] [] ?_|refine rg 3 [0] [0, 4] [] ?_|refine rg 4 [0, 4] [0, 4, 11] [] ?_|refine rg 5 [4] [2, 3] [] ?_|refine rg 6 [0] [2, 3] [] ?_|refine nc ?_);simp (maxSteps := 1000000) [hF])
  (try refine nr ?_);(repeat first|refine nb_ ?_|refine nl_ ?_);refine endK.o [2, 3] [0] [(0, [.d])] ?_;simp [hF, retK, covers, mpre, dL, hc]
 ·repeat first|refine n1 ?_|refine n2 ?_|refine n3 ?_|refine n4 ?_|refine n5 ?_|refine n6 ?_|refine n7 ?_|refine n8 ?_|refine n9 ?_|refine n0 ?_|refine ⟨⟨by omega, by omega⟩, ?_⟩|((first|refine rg 0 [0] [0] [] ?_|refine rg 1 [0] [0, 7] [] ?_|refine rg 2 [] [2, 3] [] ?_|refine rg 3 [0] [0, 4] [] ?_|refine rg 4 [0, 4] [0, 4, 11] [] ?_|refine rg 5 [4] [2, 3] [] ?_|refine rg 6 [0] [2, 3] [] ?_|refine nc ?_);simp (maxSteps := 1000000) [hF, h0])
  refine (room_ok L hl 1 (by omega)).go [(0, [])] (by simp (maxSteps := 1000000) [hF, dL]) ?_;rintro av X κ ⟨rfl, rfl, rfl⟩;simp (maxSteps := 1000000) [hF, dL]
  by_cases hf : 1000 < L.length + 1
  ·have hc : moduleOf L = (L, 0, 9) := by unfold moduleOf; rw [if_neg (by simp [h0]), if_pos hf]
   repeat first|refine n1 ?_|refine n2 ?_|refine n3 ?_|refine n4 ?_|refine n5 ?_|refine n6 ?_|refine n7 ?_|refine n8 ?_|refine n9 ?_|refine n0 ?_|refine ⟨⟨by omega, by omega⟩, ?_⟩|((first|refine rg 0 [0] [0] [] ?_|refine rg 1 [0] [0, 7] [] ?_|refine rg 2 [] [2, 3] [] ?_|refine rg 3 [0] [0, 4] [] ?_|refine rg 4 [0, 4] [0, 4, 11] [] ?_|refine rg 5 [4] [2, 3] [] ?_|refine rg 6 [0] [2, 3] [] ?_|refine nc ?_);simp (maxSteps := 1000000) [hF, hf])
   (try refine nr ?_);(repeat first|refine nb_ ?_|refine nl_ ?_);refine endK.o [2, 3] [0] [(0, [.d])] ?_;simp [hF, retK, covers, mpre, dL, hc]
  ·have hc : moduleOf L = (L ++ [newTh 1 (-1) (-1)], (L.length : Int), 0) := by unfold moduleOf; rw [if_neg (by simp [h0]), if_neg hf]
   repeat first|refine n1 ?_|refine n2 ?_|refine n3 ?_|refine n4 ?_|refine n5 ?_|refine n6 ?_|refine n7 ?_|refine n8 ?_|refine n9 ?_|refine n0 ?_|refine ⟨⟨by omega, by omega⟩, ?_⟩|((first|refine rg 0 [0] [0] [] ?_|refine rg 1 [0] [0, 7] [] ?_|refine rg 2 [] [2, 3] [] ?_|refine rg 3 [0] [0, 4] [] ?_|refine rg 4 [0, 4] [0, 4, 11] [] ?_|refine rg 5 [4] [2, 3] [] ?_|refine rg 6 [0] [2, 3] [] ?_|refine nc ?_);simp (maxSteps := 1000000) [hF, hf])
   refine (add_ok L (by omega) 1 (-1) (-1) (-1)).go [(0, [])] (by simp (maxSteps := 1000000) [hF, dL]) ?_;rintro av X κ ⟨rfl, rfl, rfl⟩;simp (maxSteps := 1000000) [hF, dL]
   repeat first|refine n1 ?_|refine n2 ?_|refine n3 ?_|refine n4 ?_|refine n5 ?_|refine n6 ?_|refine n7 ?_|refine n8 ?_|refine n9 ?_|refine n0 ?_|refine ⟨⟨by omega, by omega⟩, ?_⟩|((first|refine rg 0 [0] [0] [] ?_|refine rg 1 [0] [0, 7] [] ?_|refine rg 2 [] [2, 3] [] ?_|refine rg 3 [0] [0, 4] [] ?_|refine rg 4 [0, 4] [0, 4, 11] [] ?_|refine rg 5 [4] [2, 3] [] ?_|refine rg 6 [0] [2, 3] [] ?_|refine nc ?_);simp (maxSteps := 1000000) [hF])
   (try refine nr ?_);(repeat first|refine nb_ ?_|refine nl_ ?_);refine endK.o [2, 3] [0] [(0, [.d])] ?_;simp [hF, retK, covers, mpre, dL, hc, newTh]
def dObj (o : Int) : D := .box true () (.val (.int .i64 o))
@[simp high] theorem head_dObj (o : Int) : isHead (dObj o) = true := by rw [dObj, isHead]
structure Ups (L : List Th) (r : Int → Nat) : Prop where
 up : ∀ (t : Nat) (x : Th), L[t]? = some x → 0 ≤ x.sup → x.sup < L.length ∧ r x.sup < r t
 len : L.length ≤ 1000
end Go.Proofs.Ytbhigdljojlhnaa

/- A lineage's laws, plainly. -/
namespace Go.Proofs.Ytbhigdljojlhnaa
set_option linter.all false
open Go.Vc Go.Proofs
def edge (x : Th) (u : Int) : Prop := u ∈ x.bef ∨ u ∈ parents x
inductive Reach (L : List Th) : Int → Int → Prop
 | refl (t : Int) : Reach L t t
 | step {t : Nat} {x : Th} {u v : Int} : L[t]? = some x → edge x u → Reach L u v → Reach L t v
theorem ord_parts {L : List Th} {r : Int → Nat} (B : Base L r) {t : Nat} {x : Th} (hx : L[t]? = some x) {o : List Int} (h : ordOf L t = some o) :
  ∃ front behind, mergedF (ordOf L) x.bef = some front ∧ mergedF (ordOf L) (parents x) = some behind ∧ o = front ++ [(t : Int)] ++ behind.filter fun v => !hasN front v := by
 rw [ordOf_step B hx] at h
 split at h
 ·cases h
 ·rename_i front hf
  split at h
  ·cases h
  ·rename_i behind hb
   cases h
   exact ⟨front, behind, hf, hb, rfl⟩
section
variable {L : List Th} (W : WFL L)
include W
theorem ordL_spec {t : Nat} (ht : t < L.length) : (ordL L t).Nodup ∧ (t : Int) ∈ ordL L t ∧ ∀ v ∈ ordL L t, 0 ≤ v ∧ v < L.length := by
 obtain ⟨r, B⟩ := W.base
 obtain ⟨h1, h2, h3⟩ := ordOf_spec B ht (W.ord ht)
 exact ⟨h1, h2, fun v hv => ⟨(h3 v hv).1, (h3 v hv).2.1⟩⟩
theorem parts {t : Nat} {x : Th} (hx : L[t]? = some x) : ∃ front behind, mergedF (ordOf L) x.bef = some front ∧ mergedF (ordOf L) (parents x) = some behind ∧ ordL L t = front ++ [(t : Int)] ++ behind.filter fun v => !hasN front v := by
 obtain ⟨r, B⟩ := W.base
 exact ord_parts B hx (W.ord (List.getElem?_eq_some_iff.1 hx).1)
theorem merged_of {l o : List Int} (h : mergedF (ordOf L) l = some o) (hl : l.Nodup) (hv : ∀ u ∈ l, 0 ≤ u ∧ u < L.length) :
  o.Nodup ∧ l.Sublist o ∧ (∀ t ∈ l, (ordL L t).Sublist o) ∧ ∀ v ∈ o, v ∈ l ∨ ∃ t ∈ l, v ∈ ordL L t := by
 have ho : ∀ u ∈ l, ordOf L u = some (ordL L u) := fun u hu => by
  have := hv u hu
  obtain ⟨k, rfl⟩ : ∃ k : Nat, u = k := ⟨u.toNat, by omega⟩
  exact W.ord (by omega)
 obtain ⟨h1, h2, h3, h4⟩ := merged_spec h hl fun u hu ou hou => by
  rw [ho u hu] at hou; cases hou
  have := hv u hu
  obtain ⟨k, rfl⟩ : ∃ k : Nat, u = k := ⟨u.toNat, by omega⟩
  exact (ordL_spec W (by omega)).1
 refine ⟨h1, h2, fun t ht => ?_, fun v hvo => ?_⟩
 ·obtain ⟨ot, q1, q2⟩ := h3 t ht
  rw [ho t ht] at q1; cases q1; exact q2
 ·rcases h4 v hvo with h | ⟨t, ht, ot, q1, q2⟩
  ·exact .inl h
  ·rw [ho t ht] at q1; cases q1; exact .inr ⟨t, ht, q2⟩
theorem edge_val {t : Nat} {x : Th} (hx : L[t]? = some x) {u : Int} (hu : edge x u) : 0 ≤ u ∧ u < L.length := by
 obtain ⟨r, B⟩ := W.base
 have := B.edge _ _ hx u hu
 exact ⟨this.1, this.2.1⟩
theorem mem_ordL {t : Nat} {x : Th} (hx : L[t]? = some x) (v : Int) : v ∈ ordL L t ↔ v = t ∨ ∃ u, edge x u ∧ v ∈ ordL L u := by
 obtain ⟨r, B⟩ := W.base
 obtain ⟨front, behind, hf, hb, ho⟩ := parts W hx
 obtain ⟨f1, f2, f3, f4⟩ := merged_of W hf (B.nb _ _ hx) (fun u hu => edge_val W hx (.inl hu))
 obtain ⟨b1, b2, b3, b4⟩ := merged_of W hb (B.np _ _ hx) (fun u hu => edge_val W hx (.inr hu))
 have self : ∀ u, edge x u → u ∈ ordL L u := fun u hu => by
  have := edge_val W hx hu
  obtain ⟨k, rfl⟩ : ∃ k : Nat, u = k := ⟨u.toNat, by omega⟩
  exact (ordL_spec W (by omega)).2.1
 have inF : ∀ w, w ∈ front ∨ w ∈ behind → w ∈ ordL L t := fun w hw => by
  rw [ho]
  by_cases hwf : w ∈ front
  ·simp [hwf]
  ·have hwb : w ∈ behind := hw.resolve_left hwf
   have : hasN front w = false := by
    cases h : hasN front w with
    | false => rfl
    | true => exact absurd (hasN_iff.1 h) hwf
   simp [hwb, this]
 constructor
 ·intro hv
  rw [ho] at hv
  simp only [List.mem_append, List.mem_singleton, List.mem_filter] at hv
  rcases hv with (hv | hv) | ⟨hv, _⟩
  ·rcases f4 v hv with h | ⟨u, hu, h⟩
   ·exact .inr ⟨v, .inl h, self v (.inl h)⟩
   ·exact .inr ⟨u, .inl hu, h⟩
  ·exact .inl hv
  ·rcases b4 v hv with h | ⟨u, hu, h⟩
   ·exact .inr ⟨v, .inr h, self v (.inr h)⟩
   ·exact .inr ⟨u, .inr hu, h⟩
 ·rintro (rfl | ⟨u, hu, hv⟩)
  ·rw [ho]; simp
  ·rcases hu with hu | hu
   ·exact inF v (.inl ((f3 u hu).subset hv))
   ·exact inF v (.inr ((b3 u hu).subset hv))
end
theorem ordOf_iff {L : List Th} {t : Int} {o : List Int} : ordOf L t = some o ↔ ∃ n, ordF n L t = some o := ⟨ordOf_some, fun ⟨_, h⟩ => ordOf_of h⟩
theorem ordF_same {L L' : List Th} {r : Int → Nat} (B : Base L r) (hs : ∀ (t : Nat) (x : Th), L[t]? = some x → ∃ x', L'[t]? = some x' ∧ x'.bef = x.bef ∧ parents x' = parents x) :
  ∀ (n : Nat) (t : Nat), t < L.length → ordF n L' t = ordF n L t
 | 0, _, _ => rfl
 | n + 1, t, ht => by
  have hx : L[t]? = some L[t] := List.getElem?_eq_getElem ht
  obtain ⟨x', hx', e1, e2⟩ := hs t _ hx
  have hg : ∀ u, edge L[t] u → ordF n L' u = ordF n L u := fun u hu => by
   have := B.edge _ _ hx u hu
   obtain ⟨k, rfl⟩ : ∃ k : Nat, u = k := ⟨u.toNat, by omega⟩
   exact ordF_same B hs n k (by omega)
  unfold ordF
  simp only [Int.toNat_natCast, hx, hx', e1, e2]
  rw [mergedF_congr fun u hu => hg u (.inl hu), mergedF_congr fun u hu => hg u (.inr hu)]
theorem ordOf_same {L L' : List Th} {r : Int → Nat} (B : Base L r) (hs : ∀ (t : Nat) (x : Th), L[t]? = some x → ∃ x', L'[t]? = some x' ∧ x'.bef = x.bef ∧ parents x' = parents x) {t : Nat} (ht : t < L.length) : ordOf L' t = ordOf L t := by
 have h := fun n => ordF_same B hs n t ht
 apply Option.ext
 intro o
 rw [ordOf_iff, ordOf_iff]
 exact ⟨fun ⟨n, hn⟩ => ⟨n, by rw [← h n]; exact hn⟩, fun ⟨n, hn⟩ => ⟨n, by rw [h n]; exact hn⟩⟩
theorem merge_one {s : Int} : ∀ (o : List Int) (f : Nat) (out : List Int) (l2 : List Int), o.Nodup → s ∈ o → l2 = [s] → o.length + 1 < f → mergeF f [o, l2] out = some (out ++ o)
 | [], _, _, _, _, h, _, _ => by cases h
 | a :: o, 0, _, _, _, _, _, hf => by omega
 | a :: o, f + 1, out, l2, hn, hs, h2, hf => by
  subst h2
  have hna := (List.nodup_cons.1 hn).1
  have hf1 : ([a :: o, [s]] : List (List Int)).filter (fun x => !nul x) = [a :: o, [s]] := by simp [nul]
  unfold mergeF
  rw [hf1, if_neg (by simp)]
  have hit : inTails [a :: o, [s]] a = false := by
   simp only [inTails, List.any_cons, List.tail_cons, List.any_nil, Bool.or_false]
   have : hasN o a = false := by
    cases h : hasN o a with
    | false => rfl
    | true => exact absurd (hasN_iff.1 h) hna
   rw [this]; rfl
  have hfind : ([a :: o, [s]] : List (List Int)).find? (fun x => !inTails [a :: o, [s]] (hd x)) = some (a :: o) := by
   rw [List.find?_cons_of_pos]; simp [hd, hit]
  rw [hfind]
  have hha : hd (a :: o) = a := rfl
  have hd1 : dropHd a (a :: o) = o := if_pos hha
  simp only [hha, List.map_cons, List.map_nil, hd1]
  by_cases h : s = a
  ·subst h
   have hd2 : dropHd s [s] = [] := if_pos (show hd [s] = s from rfl)
   rw [hd2]
   have hrest : ∀ (p : List Int) (g : Nat) (w : List Int), p.Nodup → p.length < g → mergeF g [p, []] w = some (w ++ p) := by
    intro p
    induction p with
    | nil =>
     intro g w _ hg
     obtain ⟨g, rfl⟩ : ∃ g', g = g' + 1 := ⟨g - 1, by omega⟩
     simp [mergeF, nul]
    | cons b p ih =>
     intro g w hp hg
     obtain ⟨g, rfl⟩ : ∃ g', g = g' + 1 := ⟨g - 1, by omega⟩
     have hnb := (List.nodup_cons.1 hp).1
     have hf2 : ([b :: p, []] : List (List Int)).filter (fun x => !nul x) = [b :: p] := by simp [nul]
     have hit2 : inTails [b :: p] b = false := by
      simp only [inTails, List.any_cons, List.tail_cons, List.any_nil, Bool.or_false]
      cases h : hasN p b with
      | false => rfl
      | true => exact absurd (hasN_iff.1 h) hnb
     unfold mergeF
     rw [hf2, if_neg (by simp)]
     have hfind2 : ([b :: p] : List (List Int)).find? (fun x => !inTails [b :: p] (hd x)) = some (b :: p) := by
      rw [List.find?_cons_of_pos]; simp [hd, hit2]
     rw [hfind2]
     simp only [hd, List.headD_cons, List.map_cons, List.map_nil, dropHd, if_true, List.tail_cons]
     have hone : ∀ (q : List Int) (g : Nat) (w : List Int), q.Nodup → q.length < g → mergeF g [q] w = some (w ++ q) := by
      intro q
      induction q with
      | nil =>
       intro g w _ hg
       obtain ⟨g, rfl⟩ : ∃ g', g = g' + 1 := ⟨g - 1, by omega⟩
       simp [mergeF, nul]
      | cons c q ih2 =>
       intro g w hq hg
       obtain ⟨g, rfl⟩ : ∃ g', g = g' + 1 := ⟨g - 1, by omega⟩
       have hnc := (List.nodup_cons.1 hq).1
       have hf3 : ([c :: q] : List (List Int)).filter (fun x => !nul x) = [c :: q] := by simp [nul]
       have hit3 : inTails [c :: q] c = false := by
        simp only [inTails, List.any_cons, List.tail_cons, List.any_nil, Bool.or_false]
        cases h : hasN q c with
        | false => rfl
        | true => exact absurd (hasN_iff.1 h) hnc
       unfold mergeF
       rw [hf3, if_neg (by simp)]
       have hfind3 : ([c :: q] : List (List Int)).find? (fun x => !inTails [c :: q] (hd x)) = some (c :: q) := by
        rw [List.find?_cons_of_pos]; simp [hd, hit3]
       rw [hfind3]
       simp only [hd, List.headD_cons, List.map_cons, List.map_nil, dropHd, if_true, List.tail_cons]
       rw [ih2 g (w ++ [c]) (List.nodup_cons.1 hq).2 (by simp at hg; omega)]
       simp
     rw [hone p g (w ++ [b]) (List.nodup_cons.1 hp).2 (by simp at hg; omega)]
     simp
   rw [hrest o f (out ++ [s]) (List.nodup_cons.1 hn).2 (by simp at hf; omega)]
   simp
  ·have hso : s ∈ o := by
    rcases List.mem_cons.1 hs with h' | h'
    ·exact absurd h' h
    ·exact h'
   have hd2 : dropHd a [s] = [s] := if_neg (show ¬ hd [s] = a from h)
   rw [hd2]
   rw [merge_one o f (out ++ [a]) [s] (List.nodup_cons.1 hn).2 hso rfl (by simp at hf; omega)]
   simp
theorem mergeOf_one {o : List Int} {s : Int} (hn : o.Nodup) (hs : s ∈ o) : mergeOf [o, [s]] = some o := by
 unfold mergeOf
 rw [merge_one o _ [] [s] hn hs rfl (by simp [total])]
 rfl
theorem mergeOf_nil : mergeOf [[]] = some [] := by
 simp [mergeOf, mergeF, total, nul]
end Go.Proofs.Ytbhigdljojlhnaa

/- What is kept by all deeds. -/
namespace Go.Proofs.Ytbhigdljojlhnaa
set_option linter.all false
open Go.Vc Go.Proofs
structure OK (L : List Th) : Prop where
 wf : WFL L
 root : ∀ x, L[0]? = some x → x.kind = 0 ∧ x.sup < 0
 sup : ∀ (t : Nat) (x : Th), L[t]? = some x → 0 ≤ x.sup → x.sup < L.length ∧ (thAt L x.sup).kind ≠ 1
 ins : ∀ (t : Nat) (x : Th), L[t]? = some x → ∀ u, u ∈ x.ins ∨ u ∈ x.bef → (thAt L u).kind = 1
 own : ∀ (t : Nat) (x : Th), L[t]? = some x → 0 ≤ x.own → x.own < L.length ∧ (thAt L x.own).kind = 2 ∧
  (0 ≤ x.sup → 0 ≤ (thAt L x.sup).own ∧ (thAt L x.own).sup = (thAt L x.sup).own) ∧ (x.sup < 0 → (thAt L x.own).sup = 0)
 mod : ∀ (t : Nat) (x : Th), L[t]? = some x → x.kind = 1 → x.sup < 0
theorem OK.len {L : List Th} (h : OK L) : L.length ≤ 1000 := h.wf.base.elim fun _ B => B.len
theorem get_thAt {L : List Th} {u : Int} (h0 : 0 ≤ u) (h1 : u < L.length) : L[u.toNat]? = some (thAt L u) := by
 obtain ⟨k, rfl⟩ : ∃ k : Nat, u = k := ⟨u.toNat, by omega⟩
 rw [thAt_eq (by omega)]
 exact List.getElem?_eq_getElem (by omega)
theorem nodup_len : ∀ (l m : List Int), l.Nodup → (∀ x ∈ l, x ∈ m) → l.length ≤ m.length
 | [], _, _, _ => by simp
 | a :: l, m, hn, h => by
  have h1 := nodup_len l (m.erase a) (List.nodup_cons.1 hn).2 fun x hx => by
   have hne : x ≠ a := fun e => by subst e; exact (List.nodup_cons.1 hn).1 hx
   exact (List.mem_erase_of_ne hne).2 (h x (List.mem_cons_of_mem _ hx))
  have hm := h a List.mem_cons_self
  rw [List.length_erase_of_mem hm] at h1
  have := List.length_pos_of_mem hm
  simp only [List.length_cons]; omega
noncomputable def rk (L : List Th) (t : Int) : Nat := if val L t = true then (ordL L t).length else 0
theorem rk_eq {L : List Th} {t : Int} (h0 : 0 ≤ t) (h1 : t < L.length) : rk L t = (ordL L t).length := by
 unfold rk; rw [if_pos (by simp [val, h0, h1])]
theorem rk_base {L : List Th} (W : WFL L) : Base L (rk L) := by
 obtain ⟨r, B⟩ := W.base
 refine ⟨fun t x hx u hu => ?_, B.nb, B.np, B.len⟩
 have ht := (List.getElem?_eq_some_iff.1 hx).1
 have hb := B.edge _ _ hx u hu
 refine ⟨hb.1, hb.2.1, ?_⟩
 obtain ⟨k, rfl⟩ : ∃ k : Nat, u = k := ⟨u.toNat, by omega⟩
 rw [rk_eq (by omega) (by omega), rk_eq (by omega) (by omega)]
 obtain ⟨h1, h2, h3⟩ := ordOf_spec B (t := k) (by omega) (W.ord (by omega))
 have hnt : (t : Int) ∉ ordL L k := fun hm => by
  rcases (h3 _ hm).2.2 with h | h
  ·have := hb.2.2
   rw [h] at this; omega
  ·have := hb.2.2
   omega
 have := nodup_len ((t : Int) :: ordL L k) (ordL L t) (List.nodup_cons.2 ⟨hnt, h1⟩) fun v hv => by
  rcases List.mem_cons.1 hv with rfl | hv
  ·exact (ordL_spec W ht).2.1
  ·exact (mem_ordL W hx v).2 (.inr ⟨k, hu, hv⟩)
 simp only [List.length_cons] at this; omega
theorem rk_le {L : List Th} (W : WFL L) (t : Int) : rk L t ≤ 1000 := by
 unfold rk
 split
 ·rename_i h
  obtain ⟨k, rfl, hk⟩ := val_nat h
  obtain ⟨r, B⟩ := W.base
  exact ord_len B hk (W.ord hk)
 ·omega
theorem grow_wf {L M : List Th} (h : OK L) (hl : M.length = L.length) (hs : ∀ (t : Nat) (x : Th), L[t]? = some x → ∃ x', M[t]? = some x' ∧ x'.bef = x.bef ∧ x'.ins = x.ins ∧ x'.sup = x.sup ∧ x'.kind = x.kind) {x : Th} (hb : x.bef = []) (hi : x.ins = [])
  (hroom : L.length + 1 ≤ 1000) (hsup : 0 ≤ x.sup → x.sup < L.length) : WFL (M ++ [x]) ∧ ∀ t : Nat, t < L.length → ordOf (M ++ [x]) t = ordOf L t := by
 have B := rk_base h.wf
 have hsame : ∀ (t : Nat) (y : Th), L[t]? = some y → ∃ y', (M ++ [x])[t]? = some y' ∧ y'.bef = y.bef ∧ parents y' = parents y := fun t y hy => by
  obtain ⟨y', e1, e2, e3, e4, _⟩ := hs t y hy
  refine ⟨y', ?_, e2, by simp only [parents, e3, e4]⟩
  rw [List.getElem?_append_left (List.getElem?_eq_some_iff.1 e1).1]; exact e1
 have hord : ∀ t : Nat, t < L.length → ordOf (M ++ [x]) t = ordOf L t := fun t ht => ordOf_same B hsame ht
 have hnew : (M ++ [x])[L.length]? = some x := by rw [← hl]; simp
 have hget : ∀ (t : Nat) (y : Th), (M ++ [x])[t]? = some y → (t < L.length ∧ ∃ z, L[t]? = some z ∧ y.bef = z.bef ∧ parents y = parents z) ∨ (t = L.length ∧ y = x) := fun t y hy => by
  rcases Nat.lt_or_ge t L.length with ht | ht
  ·obtain ⟨y', e1, e2, e3⟩ := hsame t _ (List.getElem?_eq_getElem ht)
   rw [hy] at e1; cases e1
   exact .inl ⟨ht, _, List.getElem?_eq_getElem ht, e2, e3⟩
  ·have h1 := (List.getElem?_eq_some_iff.1 hy).1
   simp only [List.length_append, List.length_singleton] at h1
   obtain rfl : t = L.length := by omega
   rw [hnew] at hy
   exact .inr ⟨rfl, (Option.some.inj hy).symm⟩
 let r' : Int → Nat := fun u => if u = L.length then 1001 else rk L u
 have hr' : ∀ u : Int, 0 ≤ u → u < L.length → r' u = rk L u := fun u h0 h1 => by simp only [r']; rw [if_neg (by omega)]
 have B' : Base (M ++ [x]) r' := by
  refine ⟨fun t y hy u hu => ?_, fun t y hy => ?_, fun t y hy => ?_, by simp; omega⟩
  ·rcases hget t y hy with ⟨ht, z, hz, e1, e2⟩ | ⟨rfl, rfl⟩
   ·have := B.edge t z hz u (by rw [← e1, ← e2]; exact hu)
    refine ⟨this.1, by simp; omega, ?_⟩
    rw [hr' u this.1 this.2.1, hr' t (by omega) (by omega)]
    exact this.2.2
   ·have hu' : u = y.sup ∧ 0 ≤ y.sup := by
     rcases hu with hu | hu
     ·rw [hb] at hu; cases hu
     ·simp only [parents, hi, List.nil_append] at hu
      split at hu
      ·rename_i h0; exact ⟨by simpa using hu, h0⟩
      ·cases hu
    obtain ⟨rfl, h0⟩ := hu'
    have h1 := hsup h0
    refine ⟨h0, by simp; omega, ?_⟩
    rw [hr' _ h0 h1]
    have := rk_le h.wf y.sup
    simp only [r', if_true]; omega
  ·rcases hget t y hy with ⟨ht, z, hz, e1, e2⟩ | ⟨rfl, rfl⟩
   ·rw [e1]; exact B.nb t z hz
   ·rw [hb]; exact List.nodup_nil
  ·rcases hget t y hy with ⟨ht, z, hz, e1, e2⟩ | ⟨rfl, rfl⟩
   ·rw [e2]; exact B.np t z hz
   ·simp only [parents, hi, List.nil_append]; split <;> simp
 refine ⟨⟨⟨r', B'⟩, fun t ht => ?_⟩, hord⟩
 simp only [List.length_append, List.length_singleton] at ht
 rcases Nat.lt_or_ge t L.length with h1 | h1
 ·rw [hord t h1]; exact h.wf.full t h1
 ·obtain rfl : t = L.length := by omega
  rw [ordOf_step B' hnew, hb]
  have e1 : mergedF (ordOf (M ++ [x])) [] = some [] := by
   show mergeOf ([] ++ [[]]) = some []
   exact mergeOf_nil
  rw [e1]
  simp only
  by_cases h0 : 0 ≤ x.sup
  ·have h1 := hsup h0
   obtain ⟨k, hk⟩ : ∃ k : Nat, x.sup = k := ⟨x.sup.toNat, by omega⟩
   have hkl : k < L.length := by omega
   have hp : parents x = [(k : Int)] := by simp [parents, hi, h0, hk]
   have hok := h.wf.ord hkl
   obtain ⟨s1, s2, _⟩ := ordL_spec h.wf hkl
   have e2 : mergedF (ordOf (M ++ [x])) [(k : Int)] = some (ordL L k) := by
    unfold mergedF ordersOf
    rw [hord k hkl, hok]
    show mergeOf [ordL L k, [(k : Int)]] = _
    exact mergeOf_one s1 s2
   rw [hp, e2]
   exact ⟨_, rfl⟩
  ·have hp : parents x = [] := by simp [parents, hi, h0]
   rw [hp, e1]
   exact ⟨_, rfl⟩
theorem add_OK {L : List Th} (h : OK L) (hpos : 0 < L.length) {k s o : Int} (hroom : L.length + 1 ≤ 1000) (hs : 0 ≤ s → s < L.length ∧ (thAt L s).kind ≠ 1) (hk : k = 1 → s < 0) :
  OK (L ++ [newTh k s o]) ∧ ∀ t : Nat, t < L.length → ordOf (L ++ [newTh k s o]) t = ordOf L t := by
 obtain ⟨W, hord⟩ := grow_wf h rfl (fun t x hx => ⟨x, hx, rfl, rfl, rfl, rfl⟩) (x := newTh k s o) rfl rfl hroom (fun h0 => (hs h0).1)
 have hth : ∀ u : Int, 0 ≤ u → u < L.length → thAt (L ++ [newTh k s o]) u = thAt L u := fun u h0 h1 => by
  obtain ⟨j, rfl⟩ : ∃ j : Nat, u = j := ⟨u.toNat, by omega⟩
  rw [thAt_eq (L := L) (by omega), thAt_eq (L := L ++ [newTh k s o]) (by simp; omega), List.getElem_append_left]
 have hget : ∀ (t : Nat) (y : Th), (L ++ [newTh k s o])[t]? = some y → (t < L.length ∧ L[t]? = some y) ∨ (t = L.length ∧ y = newTh k s o) := fun t y hy => by
  rcases Nat.lt_or_ge t L.length with ht | ht
  ·rw [List.getElem?_append_left ht] at hy; exact .inl ⟨ht, hy⟩
  ·have h1 := (List.getElem?_eq_some_iff.1 hy).1
   simp only [List.length_append, List.length_singleton] at h1
   obtain rfl : t = L.length := by omega
   simp at hy
   exact .inr ⟨rfl, hy.symm⟩
 have hval : ∀ (t : Nat) (y : Th), L[t]? = some y → ∀ u, u ∈ y.ins ∨ u ∈ y.bef → 0 ≤ u ∧ u < L.length := fun t y hy u hu => edge_val h.wf hy (by
  rcases hu with hu | hu
  ·exact .inr (by simp [parents, hu])
  ·exact .inl hu)
 refine ⟨⟨W, fun x hx => ?_, fun t x hx h0 => ?_, fun t x hx u hu => ?_, fun t x hx h0 => ?_, fun t x hx h1 => ?_⟩, hord⟩
 ·rcases hget 0 x hx with ⟨_, hx⟩ | ⟨h0, _⟩
  ·exact h.root x hx
  ·omega
 ·rcases hget t x hx with ⟨_, hx⟩ | ⟨_, rfl⟩
  ·have := h.sup t x hx h0
   exact ⟨by simp; omega, by rw [hth _ h0 this.1]; exact this.2⟩
  ·have h0' : 0 ≤ s := h0
   have := hs h0'
   exact ⟨by simp [newTh]; omega, by rw [show (newTh k s o).sup = s from rfl, hth s h0' this.1]; exact this.2⟩
 ·rcases hget t x hx with ⟨_, hx⟩ | ⟨_, rfl⟩
  ·have hv := hval t x hx u hu
   rw [hth u hv.1 hv.2]; exact h.ins t x hx u hu
  ·rcases hu with hu | hu <;> cases hu
 ·rcases hget t x hx with ⟨_, hx⟩ | ⟨_, rfl⟩
  ·obtain ⟨q1, q2, q3, q4⟩ := h.own t x hx h0
   refine ⟨by simp; omega, by rw [hth _ h0 q1]; exact q2, fun h1 => ?_, fun h1 => ?_⟩
   ·have hsv := (h.sup t x hx h1).1
    rw [hth _ h1 hsv, hth _ h0 q1]; exact q3 h1
   ·rw [hth _ h0 q1]; exact q4 h1
  ·simp only [newTh] at h0; omega
 ·rcases hget t x hx with ⟨_, hx⟩ | ⟨_, rfl⟩
  ·exact h.mod t x hx h1
  ·exact hk h1
theorem L0_OK : OK L0 := by
 have hx : ∀ (t : Nat) (x : Th), L0[t]? = some x → t = 0 ∧ x = ⟨0, -1, -1, -1, [], []⟩ := fun t x h => by
  cases t with
  | zero => simp [L0] at h; exact ⟨rfl, h.symm⟩
  | succ t => simp [L0] at h
 have B : Base L0 (fun _ => 0) := ⟨fun t x h u hu => by obtain ⟨rfl, rfl⟩ := hx t x h; simp [parents] at hu, fun t x h => by obtain ⟨rfl, rfl⟩ := hx t x h; simp, fun t x h => by obtain ⟨rfl, rfl⟩ := hx t x h; simp [parents], by simp [L0]⟩
 refine ⟨⟨⟨_, B⟩, fun t ht => ?_⟩, fun x h => ?_, fun t x h h0 => ?_, fun t x h u hu => ?_, fun t x h h0 => ?_, fun t x h h1 => ?_⟩
 ·have ht0 : t = 0 := by simp [L0] at ht; exact ht
  subst ht0
  refine ⟨[0], ordOf_of (n := 1) ?_⟩
  unfold ordF
  simp only [L0]
  have e1 : ∀ g, mergedF g [] = some [] := fun g => by
   show mergeOf ([] ++ [[]]) = some []
   exact mergeOf_nil
  simp [e1, parents]
 ·obtain ⟨_, rfl⟩ := hx 0 x h; exact ⟨rfl, by decide⟩
 ·obtain ⟨_, rfl⟩ := hx t x h; simp at h0
 ·obtain ⟨_, rfl⟩ := hx t x h; simp at hu
 ·obtain ⟨_, rfl⟩ := hx t x h; simp at h0
 ·obtain ⟨_, rfl⟩ := hx t x h; simp at h1
end Go.Proofs.Ytbhigdljojlhnaa
