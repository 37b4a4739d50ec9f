/- The table of this program's types. -/
import Derived.Test.YtipokdbfdingmaaK4
import Derived.Test.YtipokdbfdingmaaK3
import Derived.Test.YtipokdbfdingmaaProg
import Derived.KernelRfl
import Derived.ChangeArms
import Derived.ChangeSlices
import Derived.Carry
namespace Go.Proofs.Ytipokdbfdingmaa
set_option linter.all false
open Go.Vc Go.Proofs
theorem all_some {l : List Field} (h : l.all (fun f => (Try.prog.info? f.type).isSome) = true) : ∀ f ∈ l, (Try.prog.info? f.type).isSome = true := List.all_eq_true.1 h
noncomputable def tab : Tab := fun t => match t with
  | 1 => { ld := some (false, 1), zero := some (.val (.nilFunc)) }
  | 2 => { ld := some (false, 1), zero := some (.val (.int .i64 0)), int := some .i64 }
  | 3 => { ld := some (false, 1), zero := some (.val (.int .i64 0)), int := some .i64 }
  | 4 => { ld := some (false, 1), zero := some (.val (.bool false)), bool := true }
  | 5 => { ld := some (false, 1), zero := some (.val (.int .u8 0)), int := some .u8 }
  | 6 => { ld := some (false, 1), zero := some (.val (.int .u8 0)), int := some .u8 }
  | 7 => { ld := some (true, 4), zero := some (.agg (.cons (.val (.int .i64 0)) (.cons (.val (.int .i64 0)) (.cons (.val (.bool false)) (.cons (.val (.int .u8 0)) .nil))))), st := some [(0, 1), (1, 1), (2, 1), (3, 1)] }
  | 8 => { ld := some (true, 4), zero := some (.agg (.cons (.val (.int .i64 0)) (.cons (.val (.int .i64 0)) (.cons (.val (.bool false)) (.cons (.val (.int .u8 0)) .nil))))), st := some [(0, 1), (1, 1), (2, 1), (3, 1)] }
  | 9 => { ld := some (false, 1), zero := some (.val (.string ⟨#[]⟩)), str := true }
  | 10 => { ld := some (false, 1), zero := some (.val (.string ⟨#[]⟩)), str := true }
  | 11 => { ld := some (false, 1), zero := some (.val (.string ⟨#[]⟩)), str := true }
  | 12 => { ld := some (false, 1), zero := some (.val (.int .u64 0)), int := some .u64 }
  | 13 => { ld := some (true, 2), zero := some (.agg (.cons (.val (.string ⟨#[]⟩)) (.cons (.val (.int .u64 0)) .nil))), st := some [(0, 1), (1, 1)] }
  | 14 => { ld := some (true, 2), zero := some (.agg (.cons (.val (.string ⟨#[]⟩)) (.cons (.val (.int .u64 0)) .nil))), st := some [(0, 1), (1, 1)] }
  | 15 => { ld := some (false, 1), zero := some (.val (.pointer none)), ptr := true }
  | 16 => { ld := some (false, 1), zero := some (.val (.pointer none)), ptr := true }
  | 17 => { ld := some (false, 1), zero := some (.val (.pointer none)), ptr := true }
  | 18 => { ld := some (true, 1), zero := some (.agg (.cons (.val (.pointer none)) .nil)), st := some [(0, 1)] }
  | 19 => { ld := some (true, 1), zero := some (.agg (.cons (.val (.pointer none)) .nil)), st := some [(0, 1)] }
  | 21 => { ld := some (false, 1), zero := some (.val (.int .i32 0)), int := some .i32 }
  | 22 => { sl := some (29, 6, 72, (.agg #[.int .i64 0, .int .i64 0, .int .i64 0, .int .i64 0, .string ⟨#[]⟩, .slice none 0 0])), ld := some (false, 1), zero := some (.sl true (.slice none 0 0) 6 .nil) }
  | 23 => { ld := some (false, 1), zero := some (.val (.pointer none)), ptr := true }
  | 24 => { ld := some (false, 1), zero := some (.val (.nilFunc)) }
  | 25 => { sl := some (3, 1, 8, (.int .i64 0)), ld := some (false, 1), zero := some (.sl true (.slice none 0 0) 1 .nil) }
  | 26 => { sl := some (35, 4, 32, (.agg #[.int .i64 0, .int .i64 0, .int .i64 0, .int .i64 0])), ld := some (false, 1), zero := some (.sl true (.slice none 0 0) 4 .nil) }
  | 27 => { sl := some (9, 1, 16, (.string ⟨#[]⟩)), ld := some (false, 1), zero := some (.sl true (.slice none 0 0) 1 .nil) }
  | 28 => { ld := some (true, 6), zero := some (.agg (.cons (.val (.int .i64 0)) (.cons (.val (.int .i64 0)) (.cons (.val (.int .i64 0)) (.cons (.val (.int .i64 0)) (.cons (.val (.string ⟨#[]⟩)) (.cons (.sl true (.slice none 0 0) 1 .nil) .nil))))))), st := some [(0, 1), (1, 1), (2, 1), (3, 1), (4, 1), (5, 1)] }
  | 29 => { ld := some (true, 6), zero := some (.agg (.cons (.val (.int .i64 0)) (.cons (.val (.int .i64 0)) (.cons (.val (.int .i64 0)) (.cons (.val (.int .i64 0)) (.cons (.val (.string ⟨#[]⟩)) (.cons (.sl true (.slice none 0 0) 1 .nil) .nil))))))), st := some [(0, 1), (1, 1), (2, 1), (3, 1), (4, 1), (5, 1)] }
  | 30 => { ld := some (false, 1), zero := some (.val (.int .u64 0)), int := some .u64 }
  | 31 => { ld := some (false, 1), zero := some (.val (.nilFunc)) }
  | 32 => { ld := some (false, 1), zero := some (.val (.int .i64 0)), int := some .i64 }
  | 34 => { ld := some (false, 1), zero := some (.val (.nilFunc)) }
  | 35 => { ld := some (true, 4), zero := some (.agg (.cons (.val (.int .i64 0)) (.cons (.val (.int .i64 0)) (.cons (.val (.int .i64 0)) (.cons (.val (.int .i64 0)) .nil))))), ar := some (4, 1), ae := true }
  | 36 => { ld := some (false, 1), zero := some (.val (.nilFunc)) }
  | 37 => { ld := some (false, 1), zero := some (.val (.nilFunc)) }
  | 39 => { ld := some (false, 1), zero := some (.val (.nilFunc)) }
  | 40 => { ld := some (false, 1), zero := some (.val (.nilFunc)) }
  | 42 => { ld := some (false, 1), zero := some (.val (.nilFunc)) }
  | 44 => { ld := some (false, 1), zero := some (.val (.nilFunc)) }
  | 45 => { ld := some (false, 1), zero := some (.val (.nilFunc)) }
  | 46 => { ld := some (false, 1), zero := some (.val (.nilFunc)) }
  | 47 => { sl := some (52, 4, 40, (.agg #[.int .i64 0, .int .i64 0, .int .i64 0, .string ⟨#[]⟩])), ld := some (false, 1), zero := some (.sl true (.slice none 0 0) 4 .nil) }
  | 48 => { sl := some (25, 1, 24, (.slice none 0 0)), ld := some (false, 1), zero := some (.sl true (.slice none 0 0) 1 .nil) }
  | 50 => { ld := some (false, 1), zero := some (.val (.nilFunc)) }
  | 51 => { ld := some (true, 4), zero := some (.agg (.cons (.val (.int .i64 0)) (.cons (.val (.int .i64 0)) (.cons (.val (.int .i64 0)) (.cons (.val (.string ⟨#[]⟩)) .nil))))), st := some [(0, 1), (1, 1), (2, 1), (3, 1)] }
  | 52 => { ld := some (true, 4), zero := some (.agg (.cons (.val (.int .i64 0)) (.cons (.val (.int .i64 0)) (.cons (.val (.int .i64 0)) (.cons (.val (.string ⟨#[]⟩)) .nil))))), st := some [(0, 1), (1, 1), (2, 1), (3, 1)] }
  | 53 => { ld := some (false, 1), zero := some (.val (.pointer none)), ptr := true }
  | 54 => { ld := some (false, 1), zero := some (.val (.nilFunc)) }
  | 55 => { ld := some (false, 1), zero := some (.val (.nilFunc)) }
  | 56 => { ld := some (false, 1), zero := some (.val (.nilFunc)) }
  | 57 => { ld := some (true, 4), zero := some (.agg (.cons (.val (.int .i64 0)) (.cons (.val (.int .i64 0)) (.cons (.val (.int .i64 0)) (.cons (.val (.string ⟨#[]⟩)) .nil))))), st := some [(0, 1), (1, 1), (2, 1), (3, 1)] }
  | 58 => { ld := some (false, 1), zero := some (.val (.nilFunc)) }
  | 60 => { ld := some (false, 1), zero := some (.val (.nilFunc)) }
  | 61 => { sl := some (113, 3, 56, (.agg #[.bool false, .slice none 0 0, .slice none 0 0])), ld := some (false, 1), zero := some (.sl true (.slice none 0 0) 3 .nil) }
  | 62 => { ld := some (true, 4), zero := some (.agg (.cons (.val (.bool false)) (.cons (.sl true (.slice none 0 0) 3 .nil) (.cons (.sl true (.slice none 0 0) 1 .nil) (.cons (.sl true (.slice none 0 0) 1 .nil) .nil))))), st := some [(0, 1), (1, 1), (2, 1), (3, 1)] }
  | 63 => { ld := some (true, 4), zero := some (.agg (.cons (.val (.bool false)) (.cons (.sl true (.slice none 0 0) 3 .nil) (.cons (.sl true (.slice none 0 0) 1 .nil) (.cons (.sl true (.slice none 0 0) 1 .nil) .nil))))), st := some [(0, 1), (1, 1), (2, 1), (3, 1)] }
  | 64 => { ld := some (false, 1), zero := some (.val (.nilFunc)) }
  | 65 => { ld := some (false, 1), zero := some (.val (.nilFunc)) }
  | 66 => { ld := some (false, 1), zero := some (.val (.nilFunc)) }
  | 67 => { ld := some (false, 1), zero := some (.val (.nilFunc)) }
  | 68 => { ld := some (false, 1), zero := some (.val (.nilFunc)) }
  | 69 => { sl := some (81, 3, 56, (.agg #[.bool false, .slice none 0 0, .slice none 0 0])), ld := some (false, 1), zero := some (.sl true (.slice none 0 0) 3 .nil) }
  | 70 => { ld := some (false, 1), zero := some (.val (.map none)), mp := some (3, none) }
  | 71 => { ld := some (true, 2), zero := some (.agg (.cons (.sl true (.slice none 0 0) 3 .nil) (.cons (.val (.map none)) .nil))), st := some [(0, 1), (1, 1)] }
  | 72 => { ld := some (true, 2), zero := some (.agg (.cons (.sl true (.slice none 0 0) 3 .nil) (.cons (.val (.map none)) .nil))), st := some [(0, 1), (1, 1)] }
  | 73 => { ld := some (false, 1), zero := some (.val (.nilFunc)) }
  | 74 => { ld := some (false, 1), zero := some (.val (.nilFunc)) }
  | 75 => { sl := some (32, 1, 8, (.int .i64 0)), ld := some (false, 1), zero := some (.sl true (.slice none 0 0) 1 .nil) }
  | 76 => { ld := some (false, 1), zero := some (.val (.nilFunc)) }
  | 77 => { ld := some (false, 1), zero := some (.val (.nilFunc)) }
  | 79 => { ld := some (false, 1), zero := some (.val (.nilFunc)) }
  | 80 => { ld := some (true, 3), zero := some (.agg (.cons (.val (.bool false)) (.cons (.sl true (.slice none 0 0) 1 .nil) (.cons (.sl true (.slice none 0 0) 1 .nil) .nil)))), st := some [(0, 1), (1, 1), (2, 1)] }
  | 81 => { ld := some (true, 3), zero := some (.agg (.cons (.val (.bool false)) (.cons (.sl true (.slice none 0 0) 1 .nil) (.cons (.sl true (.slice none 0 0) 1 .nil) .nil)))), st := some [(0, 1), (1, 1), (2, 1)] }
  | 82 => { ld := some (false, 1), zero := some (.val (.nilFunc)) }
  | 83 => { ld := some (false, 1), zero := some (.val (.nilFunc)) }
  | 84 => { ld := some (false, 1), zero := some (.val (.pointer none)), ptr := true }
  | 86 => { ld := some (false, 1), zero := some (.val (.nilFunc)) }
  | 87 => { ld := some (false, 1), zero := some (.val (.nilFunc)) }
  | 88 => { ld := some (false, 1), zero := some (.val (.nilFunc)) }
  | 89 => { sl := some (4, 1, 1, (.bool false)), ld := some (false, 1), zero := some (.sl true (.slice none 0 0) 1 .nil) }
  | 90 => { ld := some (false, 1), zero := some (.val (.nilFunc)) }
  | 91 => { ld := some (false, 1), zero := some (.val (.nilFunc)) }
  | 92 => { ld := some (false, 1), zero := some (.val (.nilFunc)) }
  | 93 => { ld := some (false, 1), zero := some (.val (.nilFunc)) }
  | 94 => { ld := some (false, 1), zero := some (.val (.nilFunc)) }
  | 95 => { ld := some (false, 1), zero := some (.val (.nilFunc)) }
  | 96 => { ld := some (false, 1), zero := some (.val (.map none)), mp := some (4, none) }
  | 97 => { ld := some (false, 1), zero := some (.val (.nilFunc)) }
  | 98 => { ld := some (false, 1), zero := some (.val (.nilFunc)) }
  | 99 => { ld := some (false, 1), zero := some (.val (.nilFunc)) }
  | 100 => { ld := some (false, 1), zero := some (.val (.nilFunc)) }
  | 101 => { ld := some (false, 1), zero := some (.val (.nilFunc)) }
  | 102 => { ld := some (false, 1), zero := some (.val (.nilFunc)) }
  | 103 => { ld := some (false, 1), zero := some (.val (.nilFunc)) }
  | 104 => { ld := some (false, 1), zero := some (.val (.nilFunc)) }
  | 105 => { ld := some (false, 1), zero := some (.val (.nilFunc)) }
  | 106 => { ld := some (false, 1), zero := some (.val (.nilFunc)) }
  | 107 => { ld := some (false, 1), zero := some (.val (.nilFunc)) }
  | 108 => { ld := some (false, 1), zero := some (.val (.nilFunc)) }
  | 109 => { ld := some (false, 1), zero := some (.val (.nilFunc)) }
  | 110 => { ld := some (false, 1), zero := some (.val (.nilFunc)) }
  | 111 => { ld := some (false, 1), zero := some (.val (.nilFunc)) }
  | 112 => { ld := some (true, 3), zero := some (.agg (.cons (.val (.bool false)) (.cons (.sl true (.slice none 0 0) 1 .nil) (.cons (.sl true (.slice none 0 0) 1 .nil) .nil)))), st := some [(0, 1), (1, 1), (2, 1)] }
  | 113 => { ld := some (true, 3), zero := some (.agg (.cons (.val (.bool false)) (.cons (.sl true (.slice none 0 0) 1 .nil) (.cons (.sl true (.slice none 0 0) 1 .nil) .nil)))), st := some [(0, 1), (1, 1), (2, 1)] }
  | 114 => { ld := some (false, 1), zero := some (.val (.nilFunc)) }
  | 115 => { ld := some (false, 1), zero := some (.val (.nilFunc)) }
  | 116 => { ld := some (false, 1), zero := some (.val (.nilFunc)) }
  | 117 => { ld := some (false, 1), zero := some (.val (.nilFunc)) }
  | 118 => { ld := some (false, 1), zero := some (.val (.nilFunc)) }
  | 119 => { ld := some (false, 1), zero := some (.val (.nilFunc)) }
  | 120 => { ld := some (false, 1), zero := some (.val (.nilFunc)) }
  | 121 => { ld := some (false, 1), zero := some (.val (.nilFunc)) }
  | 122 => { ld := some (false, 1), zero := some (.val (.nilFunc)) }
  | 123 => { ld := some (false, 1), zero := some (.val (.nilFunc)) }
  | 124 => { ld := some (false, 1), zero := some (.val (.nilFunc)) }
  | 125 => { ld := some (false, 1), zero := some (.val (.nilFunc)) }
  | 126 => { ld := some (false, 1), zero := some (.val (.nilFunc)) }
  | 127 => { ld := some (false, 1), zero := some (.val (.nilFunc)) }
  | 128 => { ld := some (false, 1), zero := some (.val (.nilFunc)) }
  | 129 => { ld := some (false, 1), zero := some (.val (.int .i64 0)), int := some .i64 }
  | _ => {}
theorem tab_3 : tab 3 = { ld := some (false, 1), zero := some (.val (.int .i64 0)), int := some .i64 } := rfl
theorem tab_4 : tab 4 = { ld := some (false, 1), zero := some (.val (.bool false)), bool := true } := rfl
theorem tab_9 : tab 9 = { ld := some (false, 1), zero := some (.val (.string ⟨#[]⟩)), str := true } := rfl
theorem tab_22 : tab 22 = { sl := some (29, 6, 72, (.agg #[.int .i64 0, .int .i64 0, .int .i64 0, .int .i64 0, .string ⟨#[]⟩, .slice none 0 0])), ld := some (false, 1), zero := some (.sl true (.slice none 0 0) 6 .nil) } := rfl
theorem tab_23 : tab 23 = { ld := some (false, 1), zero := some (.val (.pointer none)), ptr := true } := rfl
theorem tab_25 : tab 25 = { sl := some (3, 1, 8, (.int .i64 0)), ld := some (false, 1), zero := some (.sl true (.slice none 0 0) 1 .nil) } := rfl
theorem tab_26 : tab 26 = { sl := some (35, 4, 32, (.agg #[.int .i64 0, .int .i64 0, .int .i64 0, .int .i64 0])), ld := some (false, 1), zero := some (.sl true (.slice none 0 0) 4 .nil) } := rfl
theorem tab_27 : tab 27 = { sl := some (9, 1, 16, (.string ⟨#[]⟩)), ld := some (false, 1), zero := some (.sl true (.slice none 0 0) 1 .nil) } := rfl
theorem tab_29 : tab 29 = { ld := some (true, 6), zero := some (.agg (.cons (.val (.int .i64 0)) (.cons (.val (.int .i64 0)) (.cons (.val (.int .i64 0)) (.cons (.val (.int .i64 0)) (.cons (.val (.string ⟨#[]⟩)) (.cons (.sl true (.slice none 0 0) 1 .nil) .nil))))))), st := some [(0, 1), (1, 1), (2, 1), (3, 1), (4, 1), (5, 1)] } := rfl
theorem tab_30 : tab 30 = { ld := some (false, 1), zero := some (.val (.int .u64 0)), int := some .u64 } := rfl
theorem tab_35 : tab 35 = { ld := some (true, 4), zero := some (.agg (.cons (.val (.int .i64 0)) (.cons (.val (.int .i64 0)) (.cons (.val (.int .i64 0)) (.cons (.val (.int .i64 0)) .nil))))), ar := some (4, 1), ae := true } := rfl
theorem tab_69 : tab 69 = { sl := some (81, 3, 56, (.agg #[.bool false, .slice none 0 0, .slice none 0 0])), ld := some (false, 1), zero := some (.sl true (.slice none 0 0) 3 .nil) } := rfl
theorem tab_70 : tab 70 = { ld := some (false, 1), zero := some (.val (.map none)), mp := some (3, none) } := rfl
theorem tab_72 : tab 72 = { ld := some (true, 2), zero := some (.agg (.cons (.sl true (.slice none 0 0) 3 .nil) (.cons (.val (.map none)) .nil))), st := some [(0, 1), (1, 1)] } := rfl
theorem tab_81 : tab 81 = { ld := some (true, 3), zero := some (.agg (.cons (.val (.bool false)) (.cons (.sl true (.slice none 0 0) 1 .nil) (.cons (.sl true (.slice none 0 0) 1 .nil) .nil)))), st := some [(0, 1), (1, 1), (2, 1)] } := rfl
theorem tab_89 : tab 89 = { sl := some (4, 1, 1, (.bool false)), ld := some (false, 1), zero := some (.sl true (.slice none 0 0) 1 .nil) } := rfl
set_option linter.defProp false
def tabd_3 := @tab_3
def tabd_4 := @tab_4
def tabd_9 := @tab_9
def tabd_22 := @tab_22
def tabd_23 := @tab_23
def tabd_25 := @tab_25
def tabd_26 := @tab_26
def tabd_27 := @tab_27
def tabd_29 := @tab_29
def tabd_30 := @tab_30
def tabd_35 := @tab_35
def tabd_69 := @tab_69
def tabd_70 := @tab_70
def tabd_72 := @tab_72
def tabd_81 := @tab_81
def tabd_89 := @tab_89
attribute [simp] tabd_3 tabd_4 tabd_9 tabd_22 tabd_23 tabd_25 tabd_26 tabd_27 tabd_29 tabd_30 tabd_35 tabd_69 tabd_70 tabd_72 tabd_81 tabd_89
theorem tabOk_1 : (tab 1).Ok Try.prog 1 := .okI Try.t1 (.nilFunc) rfl rfl
theorem tabOk_2 : (tab 2).Ok Try.prog 2 := .okI Try.t2 (.int .i64 0) rfl rfl (int := by intro k h; cases h; kernel_rfl)
theorem tabOk_3 : (tab 3).Ok Try.prog 3 := .okI Try.t3 (.int .i64 0) rfl rfl (int := by intro k h; cases h; kernel_rfl)
theorem tabOk_4 : (tab 4).Ok Try.prog 4 := .okI Try.t4 (.bool false) rfl rfl (bool := by intro _; kernel_rfl)
theorem tabOk_5 : (tab 5).Ok Try.prog 5 := .okI Try.t5 (.int .u8 0) rfl rfl (int := by intro k h; cases h; kernel_rfl)
theorem tabOk_6 : (tab 6).Ok Try.prog 6 := .okI Try.t6 (.int .u8 0) rfl rfl (int := by intro k h; cases h; kernel_rfl)
theorem tabOk_7 : (tab 7).Ok Try.prog 7 := .okI Try.t7 (.agg #[.int .i64 0, .int .i64 0, .bool false, .int .u8 0]) rfl rfl (st := by intro l h; cases h; exact ⟨_, Try.underlying7, by kernel_rfl, (by exact all_some (by kernel_rfl)), by kernel_rfl⟩)
theorem tabOk_8 : (tab 8).Ok Try.prog 8 := .okI Try.t8 (.agg #[.int .i64 0, .int .i64 0, .bool false, .int .u8 0]) rfl rfl (st := by intro l h; cases h; exact ⟨_, Try.underlying8, by kernel_rfl, (by exact all_some (by kernel_rfl)), by kernel_rfl⟩)
theorem tabOk_9 : (tab 9).Ok Try.prog 9 := .okI Try.t9 (.string ⟨#[]⟩) rfl rfl (str := by intro _; kernel_rfl)
theorem tabOk_10 : (tab 10).Ok Try.prog 10 := .okI Try.t10 (.string ⟨#[]⟩) rfl rfl (str := by intro _; kernel_rfl)
theorem tabOk_11 : (tab 11).Ok Try.prog 11 := .okI Try.t11 (.string ⟨#[]⟩) rfl rfl (str := by intro _; kernel_rfl)
theorem tabOk_12 : (tab 12).Ok Try.prog 12 := .okI Try.t12 (.int .u64 0) rfl rfl (int := by intro k h; cases h; kernel_rfl)
theorem tabOk_13 : (tab 13).Ok Try.prog 13 := .okI Try.t13 (.agg #[.string ⟨#[]⟩, .int .u64 0]) rfl rfl (st := by intro l h; cases h; exact ⟨_, Try.underlying13, by kernel_rfl, (by exact all_some (by kernel_rfl)), by kernel_rfl⟩)
theorem tabOk_14 : (tab 14).Ok Try.prog 14 := .okI Try.t14 (.agg #[.string ⟨#[]⟩, .int .u64 0]) rfl rfl (st := by intro l h; cases h; exact ⟨_, Try.underlying14, by kernel_rfl, (by exact all_some (by kernel_rfl)), by kernel_rfl⟩)
theorem tabOk_15 : (tab 15).Ok Try.prog 15 := .okI Try.t15 (.pointer none) rfl rfl (ptr := by intro _; exact ⟨150, by kernel_rfl⟩)
theorem tabOk_16 : (tab 16).Ok Try.prog 16 := .okI Try.t16 (.pointer none) rfl rfl (ptr := by intro _; exact ⟨153, by kernel_rfl⟩)
theorem tabOk_17 : (tab 17).Ok Try.prog 17 := .okI Try.t17 (.pointer none) rfl rfl (ptr := by intro _; exact ⟨162, by kernel_rfl⟩)
theorem tabOk_18 : (tab 18).Ok Try.prog 18 := .okI Try.t18 (.agg #[.pointer none]) rfl rfl (st := by intro l h; cases h; exact ⟨_, Try.underlying18, by kernel_rfl, (by exact all_some (by kernel_rfl)), by kernel_rfl⟩)
theorem tabOk_19 : (tab 19).Ok Try.prog 19 := .okI Try.t19 (.agg #[.pointer none]) rfl rfl (st := by intro l h; cases h; exact ⟨_, Try.underlying19, by kernel_rfl, (by exact all_some (by kernel_rfl)), by kernel_rfl⟩)
theorem tabOk_21 : (tab 21).Ok Try.prog 21 := .okI Try.t21 (.int .i32 0) rfl rfl (int := by intro k h; cases h; kernel_rfl)
theorem tabOk_22 : (tab 22).Ok Try.prog 22 := .okI Try.t22 (.slice none 0 0) rfl rfl (sl := by intro e z b v h; cases h; exact ⟨by kernel_rfl, Try.t29, by kernel_rfl, by kernel_rfl, by kernel_rfl, by kernel_rfl, by kernel_rfl⟩)
theorem tabOk_23 : (tab 23).Ok Try.prog 23 := .okI Try.t23 (.pointer none) rfl rfl (ptr := by intro _; exact ⟨72, by kernel_rfl⟩)
theorem tabOk_24 : (tab 24).Ok Try.prog 24 := .okI Try.t24 (.nilFunc) rfl rfl
theorem tabOk_25 : (tab 25).Ok Try.prog 25 := .okI Try.t25 (.slice none 0 0) rfl rfl (sl := by intro e z b v h; cases h; exact ⟨by kernel_rfl, Try.t3, by kernel_rfl, by kernel_rfl, by kernel_rfl, by kernel_rfl, by kernel_rfl⟩)
theorem tabOk_26 : (tab 26).Ok Try.prog 26 := .okI Try.t26 (.slice none 0 0) rfl rfl (sl := by intro e z b v h; cases h; exact ⟨by kernel_rfl, Try.t35, by kernel_rfl, by kernel_rfl, by kernel_rfl, by kernel_rfl, by kernel_rfl⟩)
theorem tabOk_27 : (tab 27).Ok Try.prog 27 := .okI Try.t27 (.slice none 0 0) rfl rfl (sl := by intro e z b v h; cases h; exact ⟨by kernel_rfl, Try.t9, by kernel_rfl, by kernel_rfl, by kernel_rfl, by kernel_rfl, by kernel_rfl⟩)
theorem tabOk_28 : (tab 28).Ok Try.prog 28 := .okI Try.t28 (.agg #[.int .i64 0, .int .i64 0, .int .i64 0, .int .i64 0, .string ⟨#[]⟩, .slice none 0 0]) rfl rfl (st := by intro l h; cases h; exact ⟨_, Try.underlying28, by kernel_rfl, (by exact all_some (by kernel_rfl)), by kernel_rfl⟩)
theorem tabOk_29 : (tab 29).Ok Try.prog 29 := .okI Try.t29 (.agg #[.int .i64 0, .int .i64 0, .int .i64 0, .int .i64 0, .string ⟨#[]⟩, .slice none 0 0]) rfl rfl (st := by intro l h; cases h; exact ⟨_, Try.underlying29, by kernel_rfl, (by exact all_some (by kernel_rfl)), by kernel_rfl⟩)
theorem tabOk_30 : (tab 30).Ok Try.prog 30 := .okI Try.t30 (.int .u64 0) rfl rfl (int := by intro k h; cases h; kernel_rfl)
theorem tabOk_31 : (tab 31).Ok Try.prog 31 := .okI Try.t31 (.nilFunc) rfl rfl
theorem tabOk_32 : (tab 32).Ok Try.prog 32 := .okI Try.t32 (.int .i64 0) rfl rfl (int := by intro k h; cases h; kernel_rfl)
theorem tabOk_34 : (tab 34).Ok Try.prog 34 := .okI Try.t34 (.nilFunc) rfl rfl
theorem tabOk_35 : (tab 35).Ok Try.prog 35 := .okI Try.t35 (.agg #[.int .i64 0, .int .i64 0, .int .i64 0, .int .i64 0]) rfl rfl (ar := by intro n z h; cases h; exact ⟨3, by kernel_rfl, Try.t3, by kernel_rfl, by kernel_rfl⟩) (ae := by intro _; exact ⟨4, 3, by kernel_rfl, by kernel_rfl, by kernel_rfl⟩)
theorem tabOk_36 : (tab 36).Ok Try.prog 36 := .okI Try.t36 (.nilFunc) rfl rfl
theorem tabOk_37 : (tab 37).Ok Try.prog 37 := .okI Try.t37 (.nilFunc) rfl rfl
theorem tabOk_39 : (tab 39).Ok Try.prog 39 := .okI Try.t39 (.nilFunc) rfl rfl
theorem tabOk_40 : (tab 40).Ok Try.prog 40 := .okI Try.t40 (.nilFunc) rfl rfl
theorem tabOk_42 : (tab 42).Ok Try.prog 42 := .okI Try.t42 (.nilFunc) rfl rfl
theorem tabOk_44 : (tab 44).Ok Try.prog 44 := .okI Try.t44 (.nilFunc) rfl rfl
theorem tabOk_45 : (tab 45).Ok Try.prog 45 := .okI Try.t45 (.nilFunc) rfl rfl
theorem tabOk_46 : (tab 46).Ok Try.prog 46 := .okI Try.t46 (.nilFunc) rfl rfl
theorem tabOk_47 : (tab 47).Ok Try.prog 47 := .okI Try.t47 (.slice none 0 0) rfl rfl (sl := by intro e z b v h; cases h; exact ⟨by kernel_rfl, Try.t52, by kernel_rfl, by kernel_rfl, by kernel_rfl, by kernel_rfl, by kernel_rfl⟩)
theorem tabOk_48 : (tab 48).Ok Try.prog 48 := .okI Try.t48 (.slice none 0 0) rfl rfl (sl := by intro e z b v h; cases h; exact ⟨by kernel_rfl, Try.t25, by kernel_rfl, by kernel_rfl, by kernel_rfl, by kernel_rfl, by kernel_rfl⟩)
theorem tabOk_50 : (tab 50).Ok Try.prog 50 := .okI Try.t50 (.nilFunc) rfl rfl
theorem tabOk_51 : (tab 51).Ok Try.prog 51 := .okI Try.t51 (.agg #[.int .i64 0, .int .i64 0, .int .i64 0, .string ⟨#[]⟩]) rfl rfl (st := by intro l h; cases h; exact ⟨_, Try.underlying51, by kernel_rfl, (by exact all_some (by kernel_rfl)), by kernel_rfl⟩)
theorem tabOk_52 : (tab 52).Ok Try.prog 52 := .okI Try.t52 (.agg #[.int .i64 0, .int .i64 0, .int .i64 0, .string ⟨#[]⟩]) rfl rfl (st := by intro l h; cases h; exact ⟨_, Try.underlying52, by kernel_rfl, (by exact all_some (by kernel_rfl)), by kernel_rfl⟩)
theorem tabOk_53 : (tab 53).Ok Try.prog 53 := .okI Try.t53 (.pointer none) rfl rfl (ptr := by intro _; exact ⟨63, by kernel_rfl⟩)
theorem tabOk_54 : (tab 54).Ok Try.prog 54 := .okI Try.t54 (.nilFunc) rfl rfl
theorem tabOk_55 : (tab 55).Ok Try.prog 55 := .okI Try.t55 (.nilFunc) rfl rfl
theorem tabOk_56 : (tab 56).Ok Try.prog 56 := .okI Try.t56 (.nilFunc) rfl rfl
theorem tabOk_57 : (tab 57).Ok Try.prog 57 := .okI Try.t57 (.agg #[.int .i64 0, .int .i64 0, .int .i64 0, .string ⟨#[]⟩]) rfl rfl (st := by intro l h; cases h; exact ⟨_, Try.underlying57, by kernel_rfl, (by exact all_some (by kernel_rfl)), by kernel_rfl⟩)
theorem tabOk_58 : (tab 58).Ok Try.prog 58 := .okI Try.t58 (.nilFunc) rfl rfl
theorem tabOk_60 : (tab 60).Ok Try.prog 60 := .okI Try.t60 (.nilFunc) rfl rfl
theorem tabOk_61 : (tab 61).Ok Try.prog 61 := .okI Try.t61 (.slice none 0 0) rfl rfl (sl := by intro e z b v h; cases h; exact ⟨by kernel_rfl, Try.t113, by kernel_rfl, by kernel_rfl, by kernel_rfl, by kernel_rfl, by kernel_rfl⟩)
theorem tabOk_62 : (tab 62).Ok Try.prog 62 := .okI Try.t62 (.agg #[.bool false, .slice none 0 0, .slice none 0 0, .slice none 0 0]) rfl rfl (st := by intro l h; cases h; exact ⟨_, Try.underlying62, by kernel_rfl, (by exact all_some (by kernel_rfl)), by kernel_rfl⟩)
theorem tabOk_63 : (tab 63).Ok Try.prog 63 := .okI Try.t63 (.agg #[.bool false, .slice none 0 0, .slice none 0 0, .slice none 0 0]) rfl rfl (st := by intro l h; cases h; exact ⟨_, Try.underlying63, by kernel_rfl, (by exact all_some (by kernel_rfl)), by kernel_rfl⟩)
theorem tabOk_64 : (tab 64).Ok Try.prog 64 := .okI Try.t64 (.nilFunc) rfl rfl
theorem tabOk_65 : (tab 65).Ok Try.prog 65 := .okI Try.t65 (.nilFunc) rfl rfl
theorem tabOk_66 : (tab 66).Ok Try.prog 66 := .okI Try.t66 (.nilFunc) rfl rfl
theorem tabOk_67 : (tab 67).Ok Try.prog 67 := .okI Try.t67 (.nilFunc) rfl rfl
theorem tabOk_68 : (tab 68).Ok Try.prog 68 := .okI Try.t68 (.nilFunc) rfl rfl
theorem tabOk_69 : (tab 69).Ok Try.prog 69 := .okI Try.t69 (.slice none 0 0) rfl rfl (sl := by intro e z b v h; cases h; exact ⟨by kernel_rfl, Try.t81, by kernel_rfl, by kernel_rfl, by kernel_rfl, by kernel_rfl, by kernel_rfl⟩)
theorem tabOk_70 : (tab 70).Ok Try.prog 70 := .okI Try.t70 (.map none) rfl rfl (mp := by intro e k h; cases h; exact ⟨9, by kernel_rfl, by kernel_rfl⟩)
theorem tabOk_71 : (tab 71).Ok Try.prog 71 := .okI Try.t71 (.agg #[.slice none 0 0, .map none]) rfl rfl (st := by intro l h; cases h; exact ⟨_, Try.underlying71, by kernel_rfl, (by exact all_some (by kernel_rfl)), by kernel_rfl⟩)
theorem tabOk_72 : (tab 72).Ok Try.prog 72 := .okI Try.t72 (.agg #[.slice none 0 0, .map none]) rfl rfl (st := by intro l h; cases h; exact ⟨_, Try.underlying72, by kernel_rfl, (by exact all_some (by kernel_rfl)), by kernel_rfl⟩)
theorem tabOk_73 : (tab 73).Ok Try.prog 73 := .okI Try.t73 (.nilFunc) rfl rfl
theorem tabOk_74 : (tab 74).Ok Try.prog 74 := .okI Try.t74 (.nilFunc) rfl rfl
theorem tabOk_75 : (tab 75).Ok Try.prog 75 := .okI Try.t75 (.slice none 0 0) rfl rfl (sl := by intro e z b v h; cases h; exact ⟨by kernel_rfl, Try.t32, by kernel_rfl, by kernel_rfl, by kernel_rfl, by kernel_rfl, by kernel_rfl⟩)
theorem tabOk_76 : (tab 76).Ok Try.prog 76 := .okI Try.t76 (.nilFunc) rfl rfl
theorem tabOk_77 : (tab 77).Ok Try.prog 77 := .okI Try.t77 (.nilFunc) rfl rfl
theorem tabOk_79 : (tab 79).Ok Try.prog 79 := .okI Try.t79 (.nilFunc) rfl rfl
theorem tabOk_80 : (tab 80).Ok Try.prog 80 := .okI Try.t80 (.agg #[.bool false, .slice none 0 0, .slice none 0 0]) rfl rfl (st := by intro l h; cases h; exact ⟨_, Try.underlying80, by kernel_rfl, (by exact all_some (by kernel_rfl)), by kernel_rfl⟩)
theorem tabOk_81 : (tab 81).Ok Try.prog 81 := .okI Try.t81 (.agg #[.bool false, .slice none 0 0, .slice none 0 0]) rfl rfl (st := by intro l h; cases h; exact ⟨_, Try.underlying81, by kernel_rfl, (by exact all_some (by kernel_rfl)), by kernel_rfl⟩)
theorem tabOk_82 : (tab 82).Ok Try.prog 82 := .okI Try.t82 (.nilFunc) rfl rfl
theorem tabOk_83 : (tab 83).Ok Try.prog 83 := .okI Try.t83 (.nilFunc) rfl rfl
theorem tabOk_84 : (tab 84).Ok Try.prog 84 := .okI Try.t84 (.pointer none) rfl rfl (ptr := by intro _; exact ⟨81, by kernel_rfl⟩)
theorem tabOk_86 : (tab 86).Ok Try.prog 86 := .okI Try.t86 (.nilFunc) rfl rfl
theorem tabOk_87 : (tab 87).Ok Try.prog 87 := .okI Try.t87 (.nilFunc) rfl rfl
theorem tabOk_88 : (tab 88).Ok Try.prog 88 := .okI Try.t88 (.nilFunc) rfl rfl
theorem tabOk_89 : (tab 89).Ok Try.prog 89 := .okI Try.t89 (.slice none 0 0) rfl rfl (sl := by intro e z b v h; cases h; exact ⟨by kernel_rfl, Try.t4, by kernel_rfl, by kernel_rfl, by kernel_rfl, by kernel_rfl, by kernel_rfl⟩)
theorem tabOk_90 : (tab 90).Ok Try.prog 90 := .okI Try.t90 (.nilFunc) rfl rfl
theorem tabOk_91 : (tab 91).Ok Try.prog 91 := .okI Try.t91 (.nilFunc) rfl rfl
theorem tabOk_92 : (tab 92).Ok Try.prog 92 := .okI Try.t92 (.nilFunc) rfl rfl
theorem tabOk_93 : (tab 93).Ok Try.prog 93 := .okI Try.t93 (.nilFunc) rfl rfl
theorem tabOk_94 : (tab 94).Ok Try.prog 94 := .okI Try.t94 (.nilFunc) rfl rfl
theorem tabOk_95 : (tab 95).Ok Try.prog 95 := .okI Try.t95 (.nilFunc) rfl rfl
theorem tabOk_96 : (tab 96).Ok Try.prog 96 := .okI Try.t96 (.map none) rfl rfl (mp := by intro e k h; cases h; exact ⟨9, by kernel_rfl, by kernel_rfl⟩)
theorem tabOk_97 : (tab 97).Ok Try.prog 97 := .okI Try.t97 (.nilFunc) rfl rfl
theorem tabOk_98 : (tab 98).Ok Try.prog 98 := .okI Try.t98 (.nilFunc) rfl rfl
theorem tabOk_99 : (tab 99).Ok Try.prog 99 := .okI Try.t99 (.nilFunc) rfl rfl
theorem tabOk_100 : (tab 100).Ok Try.prog 100 := .okI Try.t100 (.nilFunc) rfl rfl
theorem tabOk_101 : (tab 101).Ok Try.prog 101 := .okI Try.t101 (.nilFunc) rfl rfl
theorem tabOk_102 : (tab 102).Ok Try.prog 102 := .okI Try.t102 (.nilFunc) rfl rfl
theorem tabOk_103 : (tab 103).Ok Try.prog 103 := .okI Try.t103 (.nilFunc) rfl rfl
theorem tabOk_104 : (tab 104).Ok Try.prog 104 := .okI Try.t104 (.nilFunc) rfl rfl
theorem tabOk_105 : (tab 105).Ok Try.prog 105 := .okI Try.t105 (.nilFunc) rfl rfl
theorem tabOk_106 : (tab 106).Ok Try.prog 106 := .okI Try.t106 (.nilFunc) rfl rfl
theorem tabOk_107 : (tab 107).Ok Try.prog 107 := .okI Try.t107 (.nilFunc) rfl rfl
theorem tabOk_108 : (tab 108).Ok Try.prog 108 := .okI Try.t108 (.nilFunc) rfl rfl
theorem tabOk_109 : (tab 109).Ok Try.prog 109 := .okI Try.t109 (.nilFunc) rfl rfl
theorem tabOk_110 : (tab 110).Ok Try.prog 110 := .okI Try.t110 (.nilFunc) rfl rfl
theorem tabOk_111 : (tab 111).Ok Try.prog 111 := .okI Try.t111 (.nilFunc) rfl rfl
theorem tabOk_112 : (tab 112).Ok Try.prog 112 := .okI Try.t112 (.agg #[.bool false, .slice none 0 0, .slice none 0 0]) rfl rfl (st := by intro l h; cases h; exact ⟨_, Try.underlying112, by kernel_rfl, (by exact all_some (by kernel_rfl)), by kernel_rfl⟩)
theorem tabOk_113 : (tab 113).Ok Try.prog 113 := .okI Try.t113 (.agg #[.bool false, .slice none 0 0, .slice none 0 0]) rfl rfl (st := by intro l h; cases h; exact ⟨_, Try.underlying113, by kernel_rfl, (by exact all_some (by kernel_rfl)), by kernel_rfl⟩)
theorem tabOk_114 : (tab 114).Ok Try.prog 114 := .okI Try.t114 (.nilFunc) rfl rfl
theorem tabOk_115 : (tab 115).Ok Try.prog 115 := .okI Try.t115 (.nilFunc) rfl rfl
theorem tabOk_116 : (tab 116).Ok Try.prog 116 := .okI Try.t116 (.nilFunc) rfl rfl
theorem tabOk_117 : (tab 117).Ok Try.prog 117 := .okI Try.t117 (.nilFunc) rfl rfl
theorem tabOk_118 : (tab 118).Ok Try.prog 118 := .okI Try.t118 (.nilFunc) rfl rfl
theorem tabOk_119 : (tab 119).Ok Try.prog 119 := .okI Try.t119 (.nilFunc) rfl rfl
theorem tabOk_120 : (tab 120).Ok Try.prog 120 := .okI Try.t120 (.nilFunc) rfl rfl
theorem tabOk_121 : (tab 121).Ok Try.prog 121 := .okI Try.t121 (.nilFunc) rfl rfl
theorem tabOk_122 : (tab 122).Ok Try.prog 122 := .okI Try.t122 (.nilFunc) rfl rfl
theorem tabOk_123 : (tab 123).Ok Try.prog 123 := .okI Try.t123 (.nilFunc) rfl rfl
theorem tabOk_124 : (tab 124).Ok Try.prog 124 := .okI Try.t124 (.nilFunc) rfl rfl
theorem tabOk_125 : (tab 125).Ok Try.prog 125 := .okI Try.t125 (.nilFunc) rfl rfl
theorem tabOk_126 : (tab 126).Ok Try.prog 126 := .okI Try.t126 (.nilFunc) rfl rfl
theorem tabOk_127 : (tab 127).Ok Try.prog 127 := .okI Try.t127 (.nilFunc) rfl rfl
theorem tabOk_128 : (tab 128).Ok Try.prog 128 := .okI Try.t128 (.nilFunc) rfl rfl
theorem tabOk_129 : (tab 129).Ok Try.prog 129 := .okI Try.t129 (.int .i64 0) rfl rfl (int := by intro k h; cases h; kernel_rfl)
theorem tabOk : Tab.Ok Try.prog tab := fun t => by
  unfold tab
  split
  · exact tabOk_1
  · exact tabOk_2
  · exact tabOk_3
  · exact tabOk_4
  · exact tabOk_5
  · exact tabOk_6
  · exact tabOk_7
  · exact tabOk_8
  · exact tabOk_9
  · exact tabOk_10
  · exact tabOk_11
  · exact tabOk_12
  · exact tabOk_13
  · exact tabOk_14
  · exact tabOk_15
  · exact tabOk_16
  · exact tabOk_17
  · exact tabOk_18
  · exact tabOk_19
  · exact tabOk_21
  · exact tabOk_22
  · exact tabOk_23
  · exact tabOk_24
  · exact tabOk_25
  · exact tabOk_26
  · exact tabOk_27
  · exact tabOk_28
  · exact tabOk_29
  · exact tabOk_30
  · exact tabOk_31
  · exact tabOk_32
  · exact tabOk_34
  · exact tabOk_35
  · exact tabOk_36
  · exact tabOk_37
  · exact tabOk_39
  · exact tabOk_40
  · exact tabOk_42
  · exact tabOk_44
  · exact tabOk_45
  · exact tabOk_46
  · exact tabOk_47
  · exact tabOk_48
  · exact tabOk_50
  · exact tabOk_51
  · exact tabOk_52
  · exact tabOk_53
  · exact tabOk_54
  · exact tabOk_55
  · exact tabOk_56
  · exact tabOk_57
  · exact tabOk_58
  · exact tabOk_60
  · exact tabOk_61
  · exact tabOk_62
  · exact tabOk_63
  · exact tabOk_64
  · exact tabOk_65
  · exact tabOk_66
  · exact tabOk_67
  · exact tabOk_68
  · exact tabOk_69
  · exact tabOk_70
  · exact tabOk_71
  · exact tabOk_72
  · exact tabOk_73
  · exact tabOk_74
  · exact tabOk_75
  · exact tabOk_76
  · exact tabOk_77
  · exact tabOk_79
  · exact tabOk_80
  · exact tabOk_81
  · exact tabOk_82
  · exact tabOk_83
  · exact tabOk_84
  · exact tabOk_86
  · exact tabOk_87
  · exact tabOk_88
  · exact tabOk_89
  · exact tabOk_90
  · exact tabOk_91
  · exact tabOk_92
  · exact tabOk_93
  · exact tabOk_94
  · exact tabOk_95
  · exact tabOk_96
  · exact tabOk_97
  · exact tabOk_98
  · exact tabOk_99
  · exact tabOk_100
  · exact tabOk_101
  · exact tabOk_102
  · exact tabOk_103
  · exact tabOk_104
  · exact tabOk_105
  · exact tabOk_106
  · exact tabOk_107
  · exact tabOk_108
  · exact tabOk_109
  · exact tabOk_110
  · exact tabOk_111
  · exact tabOk_112
  · exact tabOk_113
  · exact tabOk_114
  · exact tabOk_115
  · exact tabOk_116
  · exact tabOk_117
  · exact tabOk_118
  · exact tabOk_119
  · exact tabOk_120
  · exact tabOk_121
  · exact tabOk_122
  · exact tabOk_123
  · exact tabOk_124
  · exact tabOk_125
  · exact tabOk_126
  · exact tabOk_127
  · exact tabOk_128
  · exact tabOk_129
  · exact .okN
theorem mixedOk : Try.prog.follows .mixedOrders = true := by kernel_rfl
theorem fb {f : FuncId} {fn : Func} {body : Code} {Y : List D} {args : AV} {R : AV → List D → List (Nat × Path) → Prop} (hf : Try.prog.funcs[f]? = some fn) {nt : Nat} (hnt : fn.ntmps = nt) (rs : List ResultVar) {st : St}
    (h : ∀ w0 I0 F0, F0.length = Y.length → VS ⟨Try.prog, nt, w0, I0, F0⟩ [body] (endK Y.length tab rs R) st)
    (hb : fn.body = some body := by rfl) (hname : (fn.name == "runtime.NumGoroutine") = false := by kernel_rfl) (hrs : fn.results.toList = rs := by kernel_rfl)
    (hl : args.isList = true := by rfl) (hlen : args.len ≤ nt := by simp [AV.len]) (hst : ⟨envOf 0 args, Y, [], []⟩ = st := by simp only [envOf]; exact rfl) : Meets Try.prog f Y args R :=
  Meets.of_vs tabOk hf hb hname hnt hrs hl hlen hst h
section
variable {nt : Nat} {w0 : World} {I0 : Nat → Prop} {F0 : List G} {l : List Code} {K : Exit → St → Prop} {st : St}
theorem rg (id : Nat) {ops : List Oper} (pre post : List Tmp) (gs : List (Nat × Tmp)) (h : vcOps ⟨Try.prog, nt, w0, I0, F0⟩ tab gs ops 0 (st.keep pre) (VSk ⟨Try.prog, nt, w0, I0, F0⟩ l K post))
    (hd : regOk nt ops gs = true := by kernel_rfl) : VS ⟨Try.prog, nt, w0, I0, F0⟩ (.region id ops.toArray false :: l) K st := VS.rg tabOk id pre post gs h hd
theorem dr (id : Nat) {ops : List Oper} (EM : Nat) (pre post : List Tmp) (gs : List (Nat × Tmp)) (T : List Rw) (p : Plan) (o : OP)
    (h : opsVc ⟨Try.prog, nt, w0, I0, F0⟩ tab gs ops o (st.keep pre) (VSk ⟨Try.prog, nt, w0, I0, F0⟩ l K post))
    (hT : ops.map (rowOf ops.toArray) = T := by kernel_rfl) (hok : drawOk EM nt ops gs T p = true := by kernel_rfl) (ho : opOf EM p = o := by kernel_rfl) : VS ⟨Try.prog, nt, w0, I0, F0⟩ (.region id ops.toArray true :: l) K st := VS.dr tabOk mixedOk id EM pre post gs T p o h hT hok ho
end
end Go.Proofs.Ytipokdbfdingmaa

/- From what a row's argument reads as to trees that cannot change. -/
namespace Go.Vc
set_option linter.all false
open T (hdr blk)
abbrev allB (w : World) : Nat → Prop := fun b => b < w.heap.size
def Reads (P : Program) (t : TypeId) (z : Nat) (good : D → Prop) : Prop :=
  ∀ (H : Type) (enc : TypeId × Value → H) (w : World) (fuel : Nat) (cs : List Value) (x : DataW H × List MemPlace), DataW.trod enc P w 0 (fun _ => true) true fuel t cs = some x →
    ∃ g : G, T.Holds w.heap (allB w) g ∧ g.free = true ∧ g.cells = cs ∧ g.width = z ∧ good g.erase
theorem reads_int {P : Program} {t : TypeId} {k : IntKind} (ht : P.underlying t = some (.int k)) : Reads P t 1 fun d => ∃ n, d = .val (.int k n) := fun H enc w fuel cs x h => by
  obtain ⟨n, rfl, _, _⟩ := DataW.trod_int ht h
  exact ⟨.val (.int k n), rfl, rfl, rfl, rfl, n, rfl⟩
theorem reads_str {P : Program} {t : TypeId} (ht : P.underlying t = some .string) : Reads P t 1 fun d => ∃ s, d = .val (.string s) := fun H enc w fuel cs x h => by
  obtain ⟨s, rfl, _, _⟩ := DataW.trod_string ht h
  exact ⟨.val (.string s), rfl, rfl, rfl, rfl, s, rfl⟩
def FieldsRead (P : Program) : List Field → List (Nat × (D → Prop)) → Nat → Prop
  | [], [], _ => True
  | f :: fs, (z, good) :: r, o => Reads P f.type z good ∧ P.cellsOf f.type = z ∧ f.offset = o ∧ FieldsRead P fs r (o + z)
  | _, _, _ => False
def fieldsGood : List (Nat × (D → Prop)) → D → Prop
  | [], d => d = .nil
  | (_, good) :: r, d => ∃ a t, d = .cons a t ∧ good a ∧ fieldsGood r t
def fieldsSize : List (Nat × (D → Prop)) → Nat
  | [] => 0
  | (z, _) :: r => z + fieldsSize r
theorem reads_struct {P : Program} {t : TypeId} {fs : Array Field} (ht : P.underlying t = some (.struct fs)) {gs : List (Nat × (D → Prop))} (hf : FieldsRead P fs.toList gs 0) (hz : P.cellsOf t = fieldsSize gs) :
    Reads P t (fieldsSize gs) fun d => ∃ s, d = .agg s ∧ fieldsGood gs s := fun H enc w fuel cs x h => by
  obtain ⟨xs, n, _, _, hl, hlen, he⟩ := DataW.trod_struct ht h
  have each : ∀ f ∈ fs.toList, ∃ y, DataW.trod enc P w 0 (fun _ => true) true n f.type ((cs.drop f.offset).take (P.cellsOf f.type)) = some y := fun f hm => by
    obtain ⟨i, hi, rfl⟩ := List.getElem_of_mem hm
    have h1 := he i fs[i] (by simp at hi; simp [hi])
    rw [List.getElem?_eq_getElem (by simp at hi; omega)] at h1
    exact ⟨_, h1⟩
  have key : ∀ (l : List Field) (gs : List (Nat × (D → Prop))) (o : Nat), FieldsRead P l gs o → (∀ f ∈ l, f ∈ fs.toList) → cs.length = o + fieldsSize gs →
      ∃ s : G, T.Holds w.heap (allB w) s ∧ s.free = true ∧ s.cells = cs.drop o ∧ s.width = fieldsSize gs ∧ fieldsGood gs s.erase := by
    intro l
    induction l with
    | nil =>
      intro gs o h1 _ h2
      cases gs with
      | nil => exact ⟨.nil, trivial, rfl, by simp only [fieldsSize] at h2; simp [T.cells, h2], rfl, rfl⟩
      | cons _ _ => exact h1.elim
    | cons f l ih =>
      intro gs o h1 hm h2
      cases gs with
      | nil => exact h1.elim
      | cons p r =>
        obtain ⟨z, good⟩ := p
        obtain ⟨k1, k2, k3, k4⟩ := h1
        simp only [fieldsSize] at h2
        obtain ⟨s, s1, s2, s3, s4, s5⟩ := ih r (o + z) k4 (fun f hf => hm f (by simp [hf])) (by omega)
        obtain ⟨y, hy⟩ := each f (hm f (by simp))
        obtain ⟨g, g1, g2, g3, g4, g5⟩ := k1 H enc w n _ y hy
        refine ⟨.cons g s, ⟨g1, s1⟩, by simp [T.free, g2, s2], ?_, by simp [T.width, g4, s4, fieldsSize], _, _, rfl, g5, s5⟩
        simp only [T.cells, g3, s3, k2, k3]
        rw [← List.drop_drop, List.take_append_drop]
  obtain ⟨s, s1, s2, s3, s4, s5⟩ := key fs.toList gs 0 hf (fun _ h => h) (by rw [hl, hz]; omega)
  exact ⟨.agg s, s1, s2, by simpa [T.cells] using s3, s4, _, rfl, s5⟩
theorem erase_cons {g : G} {a t : D} (h : g.erase = .cons a t) : ∃ a' t', g = .cons a' t' ∧ a'.erase = a ∧ t'.erase = t := by
  cases g <;> simp only [T.erase] at h <;> cases h
  exact ⟨_, _, rfl, rfl, rfl⟩
theorem erase_val {g : G} {v : Value} (h : g.erase = .val v) : g = .val v := by
  cases g <;> simp only [T.erase] at h <;> cases h
  rfl
theorem erase_nil {g : G} (h : g.erase = .nil) : g = .nil := by
  cases g <;> simp only [T.erase] at h <;> cases h
  rfl
theorem map_of {α β : Type} {f : β → α} : ∀ {l : List α}, (∀ x ∈ l, ∃ y, x = f y) → ∃ ys : List β, l = ys.map f
  | [], _ => ⟨[], rfl⟩
  | x :: l, h => by
    obtain ⟨y, hy⟩ := h x (by simp)
    obtain ⟨ys, hys⟩ := map_of (l := l) (f := f) fun x hx => h x (List.mem_cons_of_mem _ hx)
    exact ⟨y :: ys, by rw [hy, hys]; rfl⟩
theorem cells?_at {w : World} {a : Addr} {n : Nat} {cs : List Value} (h : w.cells? 0 a n = some cs) : cs.length = n ∧ ∀ r v, cs[r]? = some v → w.cell? (a.add r) = some v := by
  obtain ⟨_, h1, h2⟩ := World.cells?_some h
  refine ⟨h1, fun r v hv => ?_⟩
  have hr : r < n := by rw [← h1]; exact (List.getElem?_eq_some_iff.1 hv).1
  have := h2 r hr
  rw [this, hv]
theorem reads_elems {P : Program} {e : TypeId} {z : Nat} {good : D → Prop} (he : Reads P e z good) {H : Type} {enc : TypeId × Value → H} {w : World} {n : Nat} {at_ : Nat → List Value} : ∀ (len i0 : Nat),
    (∀ i, i < len → ∃ y, DataW.trod enc P w 0 (fun _ => true) true n e (at_ (i0 + i)) = some y) →
    ∃ s : G, ∃ l : List D, T.Holds w.heap (allB w) s ∧ s.free = true ∧ s.uni z ∧ s.len = len ∧ s.erase = sq l ∧ l.length = len ∧ (∀ d ∈ l, good d) ∧ s.cells = ((List.range len).map fun i => at_ (i0 + i)).flatten
  | 0, i0, _ => ⟨.nil, [], trivial, rfl, trivial, rfl, rfl, rfl, by simp, rfl⟩
  | len + 1, i0, h => by
    obtain ⟨y, hy⟩ := h 0 (by omega)
    obtain ⟨g, g1, g2, g3, g4, g5⟩ := he H enc w n _ y hy
    obtain ⟨s, l, s1, s2, s3, s4, s5, s6, s7, s8⟩ := reads_elems he len (i0 + 1) fun i hi => by
      have := h (i + 1) (by omega)
      rwa [show i0 + (i + 1) = i0 + 1 + i by omega] at this
    refine ⟨.cons g s, g.erase :: l, ⟨g1, s1⟩, by simp [T.free, g2, s2], ⟨g4, s3⟩, by simp [T.len, s4], by simp [T.erase, sq, s5], by simp [s6], fun d hd => ?_, ?_⟩
    · rcases List.mem_cons.1 hd with rfl | hd
      · exact g5
      · exact s7 d hd
    · rw [List.range_succ_eq_map]
      simp only [T.cells, g3, s8, List.map_cons, List.flatten_cons, List.map_map, Nat.add_zero]
      congr 3
      funext i
      simp only [Function.comp]
      congr 1; omega
theorem flat_at {α : Type} {z : Nat} (hz : 0 < z) : ∀ (l : List (List α)) (_ : ∀ c ∈ l, c.length = z) (j : Nat) (v : α), l.flatten[j]? = some v → ∃ c, l[j / z]? = some c ∧ c[j % z]? = some v
  | [], _, j, v, h => by simp at h
  | c :: l, hl, j, v, h => by
    have hc := hl c (by simp)
    simp only [List.flatten_cons] at h
    rcases Nat.lt_or_ge j z with hj | hj
    · rw [List.getElem?_append_left (by omega)] at h
      exact ⟨c, by rw [Nat.div_eq_of_lt hj]; rfl, by rw [Nat.mod_eq_of_lt hj]; exact h⟩
    · rw [List.getElem?_append_right (by omega), hc] at h
      obtain ⟨c', h1, h2⟩ := flat_at hz l (fun c hc => hl c (by simp [hc])) (j - z) v h
      refine ⟨c', ?_, ?_⟩
      · rw [show j / z = (j - z) / z + 1 by rw [Nat.div_eq_sub_div hz hj]]; simpa using h1
      · rw [Nat.mod_eq_sub_mod hj]; exact h2
theorem reads_slice {P : Program} {t e : TypeId} {z : Nat} {good : D → Prop} (ht : P.underlying t = some (.slice e)) (he : Reads P e z good) (hc : P.cellsOf e = z) (hz : 0 < z) :
    Reads P t 1 fun d => ∃ l : List D, (∀ x ∈ l, good x) ∧ l.length ≤ 2 ^ 63 - 1 ∧ d = .sl false () z (sq l) := fun H enc w fuel cs x h => by
  rcases DataW.trod_slice ht h with ⟨rfl, _⟩ | ⟨a, len, cap, elems, rest, n, _, rfl, _, hb, hlc, hm, hlen, hel, hsp, _⟩
  · exact ⟨.sl false (.slice none 0 0) z .nil, ⟨trivial, trivial, fun _ => rfl, rfl, rfl, rfl⟩, rfl, rfl, rfl, [], by simp, by simp, rfl⟩
  · obtain ⟨b, o, sp⟩ := a
    have hcm' : cap ≤ 2 ^ 63 - 1 := by
      have : maxLen = 2 ^ 63 - 1 := by decide
      omega
    rcases cap with _ | cap
    · obtain rfl : len = 0 := by omega
      exact ⟨.sl false (.slice (some ⟨b, o, sp⟩) 0 0) z .nil, ⟨trivial, trivial, fun _ => rfl, rfl, (fun h => by cases h), rfl⟩, rfl, rfl, rfl, [], by simp, by simp, rfl⟩
    · obtain ⟨hsp1, hsp2⟩ := hsp rfl
      rw [hc] at hel hsp2
      have each : ∀ i, i < cap + 1 → ∃ cs, w.cells? 0 ((⟨b, o, sp⟩ : Addr).add (i * z)) z = some cs ∧ ∃ y, DataW.trod enc P w 0 (fun _ => true) true n e cs = some y := fun i hi => by
        by_cases h1 : i < len
        · have h2 := hel i h1
          rw [List.getElem?_eq_getElem (by omega)] at h2
          obtain ⟨cs, h3, h4⟩ := Option.bind_eq_some_iff.1 h2
          exact ⟨cs, h3, _, h4⟩
        · have h2 := hsp2 (i - len) (by omega)
          rw [List.getElem?_eq_getElem (by omega), show len + (i - len) = i by omega] at h2
          obtain ⟨cs, h3, h4⟩ := Option.bind_eq_some_iff.1 h2
          exact ⟨cs, h3, _, h4⟩
      have hspot : sp = none := by
        obtain ⟨cs0, h1, _⟩ := each 0 (by omega)
        obtain ⟨h2, h3⟩ := cells?_at h1
        have h4 := h3 0 _ (List.getElem?_eq_getElem (by omega))
        have e0 : ((⟨b, o, sp⟩ : Addr).add (0 * z)).add 0 = ⟨b, o, sp⟩ := by simp [Addr.add]
        rw [e0] at h4
        unfold World.cell? at h4
        split at h4
        · cases sp with
          | none => rfl
          | some _ => simp at h4
        · cases h4
      subst hspot
      have hadd : ∀ k, (⟨b, o, none⟩ : Addr).add k = ⟨b, o + k, none⟩ := fun k => by unfold Addr.add; split <;> simp_all
      obtain ⟨csl, hl1, _⟩ := each cap (by omega)
      obtain ⟨hl2, hl3⟩ := cells?_at hl1
      have hl4 := hl3 (z - 1) _ (List.getElem?_eq_getElem (by omega))
      rw [hadd] at hl4
      have hadd2 : ∀ (o' k : Nat), (⟨b, o', none⟩ : Addr).add k = ⟨b, o' + k, none⟩ := fun o' k => by unfold Addr.add; split <;> simp_all
      rw [hadd2] at hl4
      obtain ⟨row, e', fr, hrow⟩ : ∃ row e' fr, w.heap[b]? = some (.cells row e' fr) := by
        unfold World.cell? at hl4
        split at hl4
        · rename_i c _ _ heq; exact ⟨_, _, _, heq⟩
        · cases hl4
      have cell : ∀ k v, w.cell? ⟨b, k, none⟩ = some v → row[k]? = some v := fun k v hk => by
        unfold World.cell? at hk
        simp only [hrow] at hk
        simpa using hk
      have hblt : b < w.heap.size := by
        rcases Nat.lt_or_ge b w.heap.size with h' | h'
        · exact h'
        · rw [Array.getElem?_eq_none h'] at hrow; cases hrow
      have hsz : o + (cap + 1) * z ≤ row.size := by
        have h5 := cell _ _ hl4
        have h6 := (Array.getElem?_eq_some_iff.1 h5).1
        rw [Nat.add_mul]; omega
      obtain ⟨s, l, s1, s2, s3, s4, s5, s6, s7, s8⟩ := reads_elems (enc := enc) (w := w) (n := n) (at_ := fun i => (w.cells? 0 ((⟨b, o, none⟩ : Addr).add (i * z)) z).getD []) he len 0 fun i hi => by
        obtain ⟨cs, h1, h2⟩ := each (0 + i) (by omega)
        rw [h1]; exact h2
      refine ⟨.sl false (.slice (some ⟨b, o, none⟩) len (cap + 1)) z s, ⟨s1, s3, fun _ => s2, rfl, s4.symm, hlc, hcm', fun _ => hblt, row, e', fr, hrow, (fun h => by cases h), hsz, fun j v hj => ?_⟩, by simp [T.free, s2], rfl, rfl, l, s7, by omega, by simp [T.erase, s5]⟩
      rw [s8] at hj
      obtain ⟨c, c1, c2⟩ := flat_at hz _ (fun c hcm => by
        obtain ⟨i, hi, rfl⟩ := List.mem_map.1 hcm
        obtain ⟨cs, h1, _⟩ := each (0 + i) (by have := List.mem_range.1 hi; omega)
        rw [h1]; exact (cells?_at h1).1) j v hj
      rw [List.getElem?_map] at c1
      cases hr : (List.range len)[j / z]? with
      | none => rw [hr] at c1; cases c1
      | some i =>
        rw [hr] at c1
        obtain ⟨hi1, hi2⟩ := List.getElem?_eq_some_iff.1 hr
        simp only [List.length_range] at hi1
        simp only [List.getElem_range] at hi2
        subst hi2
        obtain ⟨cs, h1, _⟩ := each (0 + j / z) (by omega)
        simp only [Option.map_some, Option.some.injEq, h1, Option.getD_some] at c1
        subst c1
        have h2 := (cells?_at h1).2 _ _ c2
        rw [hadd, hadd2] at h2
        have h3 := cell _ _ h2
        rw [← h3]
        congr 1
        have := Nat.div_add_mod j z
        rw [Nat.mul_comm] at this
        simp only [Nat.zero_add]
        omega
theorem imm_of_trod {P : Program} {t e : TypeId} {z : Nat} {good : D → Prop} (ht : P.underlying t = some (.slice e)) (he : Reads P e z good) (hc : P.cellsOf e = z) (hz : 0 < z) {H : Type} {enc : TypeId × Value → H} {w : World}
    {r : Reach} {b0 : Nat} {v : Value} {d : DataW H} {ps : List MemPlace} (hv : Value.okWide P w r b0 t v) (h : DataW.Trod enc P w 0 (fun _ => true) true t v d ps) :
    ∃ l : List D, (∀ d ∈ l, good d) ∧ l.length ≤ 2 ^ 63 - 1 ∧ Rl w.heap (allB w) [] (.imm z (sq l) false) true [v] := by
  obtain ⟨fuel, h⟩ := h
  have hok : Cell.ok P w r b0 t v := by
    unfold Value.okWide at hv
    rw [ht] at hv
    simp only [Cell.okWide, ht] at hv
    exact hv
  have hform : v = .slice none 0 0 ∨ ∃ a len cap, v = .slice (some a) len cap := by
    unfold Cell.ok at hok
    rw [ht] at hok
    split at hok <;> try exact hok.elim
    all_goals first
      | (rename_i heq; cases heq; done)
      | skip
    · exact .inl rfl
    · exact .inr ⟨_, _, _, rfl⟩
  obtain ⟨g, g1, g2, g3, g4, l, l1, l2, l3⟩ := reads_slice ht he hc hz H enc w fuel _ _ h
  have hg : ∃ s, g = .sl false v z s ∧ s.erase = sq l := by
    cases g <;> simp only [T.erase, reduceCtorEq] at l3
    rename_i o a z' s
    simp only [T.sl.injEq, true_and] at l3
    obtain ⟨rfl, rfl, l3⟩ := l3
    have e : [a] = v.cells.toList := g3
    rcases hform with rfl | ⟨_, _, _, rfl⟩ <;> (simp [Value.cells] at e; subst e; exact ⟨s, rfl, l3⟩)
  obtain ⟨s, rfl, hs⟩ := hg
  exact ⟨l, l1, l2, v, rfl, s, hs, g1, fun h => by cases h⟩
end Go.Vc
