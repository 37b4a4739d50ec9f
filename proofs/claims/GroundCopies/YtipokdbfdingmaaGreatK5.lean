/- The table of this program's types. -/
import Derived.Test.YtipokdbfdingmaaGreatK4
import Derived.Test.YtipokdbfdingmaaGreatK3
import Derived.Test.YtipokdbfdingmaaGreatProg
import Derived.KernelRfl
import Derived.ChangeArms
import Derived.ChangeSlices
import Derived.Carry
namespace Go.Proofs.YtipokdbfdingmaaGreat
set_option linter.all false
open Go.Vc Go.Proofs
theorem all_some {l : List Field} (h : l.all (fun f => (Tryz.prog.info? f.type).isSome) = true) : ∀ f ∈ l, (Tryz.prog.info? f.type).isSome = true := List.all_eq_true.1 h
noncomputable def tab : Tab := fun t => match t with
  | 1 => { ld := some (false, 1), zero := some (.val (.nilFunc)) }
  | 2 => { ld := some (false, 1), zero := some (.val (.int .i64 0)), int := some .i64 }
  | 3 => { ld := some (false, 1), zero := some (.val (.int .i64 0)), int := some .i64 }
  | 4 => { ld := some (false, 1), zero := some (.val (.bool false)), bool := true }
  | 5 => { ld := some (false, 1), zero := some (.val (.int .u8 0)), int := some .u8 }
  | 6 => { ld := some (false, 1), zero := some (.val (.int .u8 0)), int := some .u8 }
  | 7 => { ld := some (true, 4), zero := some (.agg (.cons (.val (.int .i64 0)) (.cons (.val (.int .i64 0)) (.cons (.val (.bool false)) (.cons (.val (.int .u8 0)) .nil))))), st := some [(0, 1), (1, 1), (2, 1), (3, 1)] }
  | 8 => { ld := some (true, 4), zero := some (.agg (.cons (.val (.int .i64 0)) (.cons (.val (.int .i64 0)) (.cons (.val (.bool false)) (.cons (.val (.int .u8 0)) .nil))))), st := some [(0, 1), (1, 1), (2, 1), (3, 1)] }
  | 9 => { ld := some (false, 1), zero := some (.val (.string ⟨#[]⟩)), str := true }
  | 10 => { ld := some (false, 1), zero := some (.val (.string ⟨#[]⟩)), str := true }
  | 11 => { ld := some (false, 1), zero := some (.val (.string ⟨#[]⟩)), str := true }
  | 12 => { ld := some (false, 1), zero := some (.val (.int .u64 0)), int := some .u64 }
  | 13 => { ld := some (true, 2), zero := some (.agg (.cons (.val (.string ⟨#[]⟩)) (.cons (.val (.int .u64 0)) .nil))), st := some [(0, 1), (1, 1)] }
  | 14 => { ld := some (true, 2), zero := some (.agg (.cons (.val (.string ⟨#[]⟩)) (.cons (.val (.int .u64 0)) .nil))), st := some [(0, 1), (1, 1)] }
  | 15 => { ld := some (false, 1), zero := some (.val (.pointer none)), ptr := true }
  | 16 => { ld := some (false, 1), zero := some (.val (.pointer none)), ptr := true }
  | 17 => { ld := some (false, 1), zero := some (.val (.pointer none)), ptr := true }
  | 18 => { ld := some (true, 1), zero := some (.agg (.cons (.val (.pointer none)) .nil)), st := some [(0, 1)] }
  | 19 => { ld := some (true, 1), zero := some (.agg (.cons (.val (.pointer none)) .nil)), st := some [(0, 1)] }
  | 21 => { ld := some (false, 1), zero := some (.val (.int .i32 0)), int := some .i32 }
  | 22 => { sl := some (35, 6, 72, (.agg #[.int .i64 0, .int .i64 0, .int .i64 0, .int .i64 0, .string ⟨#[]⟩, .slice none 0 0])), ld := some (false, 1), zero := some (.sl true (.slice none 0 0) 6 .nil) }
  | 23 => { ld := some (false, 1), zero := some (.val (.pointer none)), ptr := true }
  | 24 => { ld := some (false, 1), zero := some (.val (.pointer none)), ptr := true }
  | 26 => { ld := some (false, 1), zero := some (.val (.nilFunc)) }
  | 27 => { ld := some (false, 1), zero := some (.val (.nilFunc)) }
  | 28 => { ld := some (false, 1), zero := some (.val (.nilFunc)) }
  | 29 => { ld := some (false, 1), zero := some (.val (.nilFunc)) }
  | 30 => { ld := some (false, 1), zero := some (.val (.nilFunc)) }
  | 31 => { ld := some (false, 1), zero := some (.val (.nilFunc)) }
  | 32 => { ld := some (false, 1), zero := some (.val (.nilFunc)) }
  | 33 => { sl := some (9, 1, 16, (.string ⟨#[]⟩)), ld := some (false, 1), zero := some (.sl true (.slice none 0 0) 1 .nil) }
  | 34 => { ld := some (true, 6), zero := some (.agg (.cons (.val (.int .i64 0)) (.cons (.val (.int .i64 0)) (.cons (.val (.int .i64 0)) (.cons (.val (.int .i64 0)) (.cons (.val (.string ⟨#[]⟩)) (.cons (.sl true (.slice none 0 0) 1 .nil) .nil))))))), st := some [(0, 1), (1, 1), (2, 1), (3, 1), (4, 1), (5, 1)] }
  | 35 => { ld := some (true, 6), zero := some (.agg (.cons (.val (.int .i64 0)) (.cons (.val (.int .i64 0)) (.cons (.val (.int .i64 0)) (.cons (.val (.int .i64 0)) (.cons (.val (.string ⟨#[]⟩)) (.cons (.sl true (.slice none 0 0) 1 .nil) .nil))))))), st := some [(0, 1), (1, 1), (2, 1), (3, 1), (4, 1), (5, 1)] }
  | 36 => { ld := some (false, 1), zero := some (.val (.nilFunc)) }
  | 37 => { sl := some (64, 3, 56, (.agg #[.bool false, .slice none 0 0, .slice none 0 0])), ld := some (false, 1), zero := some (.sl true (.slice none 0 0) 3 .nil) }
  | 38 => { sl := some (3, 1, 8, (.int .i64 0)), ld := some (false, 1), zero := some (.sl true (.slice none 0 0) 1 .nil) }
  | 39 => { ld := some (true, 4), zero := some (.agg (.cons (.val (.bool false)) (.cons (.sl true (.slice none 0 0) 3 .nil) (.cons (.sl true (.slice none 0 0) 1 .nil) (.cons (.sl true (.slice none 0 0) 1 .nil) .nil))))), st := some [(0, 1), (1, 1), (2, 1), (3, 1)] }
  | 40 => { ld := some (true, 4), zero := some (.agg (.cons (.val (.bool false)) (.cons (.sl true (.slice none 0 0) 3 .nil) (.cons (.sl true (.slice none 0 0) 1 .nil) (.cons (.sl true (.slice none 0 0) 1 .nil) .nil))))), st := some [(0, 1), (1, 1), (2, 1), (3, 1)] }
  | 41 => { ld := some (false, 1), zero := some (.val (.nilFunc)) }
  | 42 => { ld := some (false, 1), zero := some (.val (.nilFunc)) }
  | 43 => { ld := some (false, 1), zero := some (.val (.nilFunc)) }
  | 44 => { ld := some (false, 1), zero := some (.val (.nilFunc)) }
  | 45 => { ld := some (false, 1), zero := some (.val (.nilFunc)) }
  | 46 => { ld := some (false, 1), zero := some (.val (.int .i64 0)), int := some .i64 }
  | 48 => { ld := some (false, 1), zero := some (.val (.nilFunc)) }
  | 49 => { ld := some (false, 1), zero := some (.val (.nilFunc)) }
  | 51 => { ld := some (false, 1), zero := some (.val (.nilFunc)) }
  | 52 => { ld := some (false, 1), zero := some (.val (.nilFunc)) }
  | 53 => { sl := some (56, 3, 56, (.agg #[.bool false, .slice none 0 0, .slice none 0 0])), ld := some (false, 1), zero := some (.sl true (.slice none 0 0) 3 .nil) }
  | 54 => { ld := some (false, 1), zero := some (.val (.nilFunc)) }
  | 55 => { ld := some (true, 3), zero := some (.agg (.cons (.val (.bool false)) (.cons (.sl true (.slice none 0 0) 1 .nil) (.cons (.sl true (.slice none 0 0) 1 .nil) .nil)))), st := some [(0, 1), (1, 1), (2, 1)] }
  | 56 => { ld := some (true, 3), zero := some (.agg (.cons (.val (.bool false)) (.cons (.sl true (.slice none 0 0) 1 .nil) (.cons (.sl true (.slice none 0 0) 1 .nil) .nil)))), st := some [(0, 1), (1, 1), (2, 1)] }
  | 57 => { ld := some (false, 1), zero := some (.val (.map none)), mp := some (3, none) }
  | 58 => { ld := some (true, 2), zero := some (.agg (.cons (.sl true (.slice none 0 0) 3 .nil) (.cons (.val (.map none)) .nil))), st := some [(0, 1), (1, 1)] }
  | 59 => { ld := some (true, 2), zero := some (.agg (.cons (.sl true (.slice none 0 0) 3 .nil) (.cons (.val (.map none)) .nil))), st := some [(0, 1), (1, 1)] }
  | 60 => { ld := some (false, 1), zero := some (.val (.nilFunc)) }
  | 61 => { ld := some (false, 1), zero := some (.val (.nilFunc)) }
  | 62 => { ld := some (false, 1), zero := some (.val (.nilFunc)) }
  | 63 => { ld := some (true, 3), zero := some (.agg (.cons (.val (.bool false)) (.cons (.sl true (.slice none 0 0) 1 .nil) (.cons (.sl true (.slice none 0 0) 1 .nil) .nil)))), st := some [(0, 1), (1, 1), (2, 1)] }
  | 64 => { ld := some (true, 3), zero := some (.agg (.cons (.val (.bool false)) (.cons (.sl true (.slice none 0 0) 1 .nil) (.cons (.sl true (.slice none 0 0) 1 .nil) .nil)))), st := some [(0, 1), (1, 1), (2, 1)] }
  | 65 => { ld := some (false, 1), zero := some (.val (.nilFunc)) }
  | 66 => { ld := some (false, 1), zero := some (.val (.nilFunc)) }
  | 67 => { ld := some (false, 1), zero := some (.val (.nilFunc)) }
  | 68 => { ld := some (false, 1), zero := some (.val (.nilFunc)) }
  | 70 => { ld := some (false, 1), zero := some (.val (.nilFunc)) }
  | 72 => { ld := some (false, 1), zero := some (.val (.nilFunc)) }
  | 73 => { ld := some (false, 1), zero := some (.val (.nilFunc)) }
  | 74 => { ld := some (false, 1), zero := some (.val (.int .u64 0)), int := some .u64 }
  | 75 => { ld := some (false, 1), zero := some (.val (.nilFunc)) }
  | 76 => { ld := some (false, 1), zero := some (.val (.nilFunc)) }
  | 77 => { ld := some (false, 1), zero := some (.val (.nilFunc)) }
  | 78 => { ld := some (false, 1), zero := some (.val (.nilFunc)) }
  | 80 => { ld := some (false, 1), zero := some (.val (.nilFunc)) }
  | 81 => { ld := some (false, 1), zero := some (.val (.nilFunc)) }
  | 82 => { sl := some (4, 1, 1, (.bool false)), ld := some (false, 1), zero := some (.sl true (.slice none 0 0) 1 .nil) }
  | 83 => { ld := some (false, 1), zero := some (.val (.nilFunc)) }
  | 84 => { ld := some (false, 1), zero := some (.val (.pointer none)), ptr := true }
  | 85 => { ld := some (false, 1), zero := some (.val (.nilFunc)) }
  | 86 => { ld := some (false, 1), zero := some (.val (.nilFunc)) }
  | 87 => { ld := some (false, 1), zero := some (.val (.nilFunc)) }
  | 88 => { ld := some (false, 1), zero := some (.val (.nilFunc)) }
  | 89 => { ld := some (false, 1), zero := some (.val (.nilFunc)) }
  | 91 => { ld := some (false, 1), zero := some (.val (.nilFunc)) }
  | 92 => { ld := some (false, 1), zero := some (.val (.nilFunc)) }
  | 93 => { ld := some (false, 1), zero := some (.val (.nilFunc)) }
  | 94 => { ld := some (false, 1), zero := some (.val (.nilFunc)) }
  | 95 => { ld := some (false, 1), zero := some (.val (.nilFunc)) }
  | 96 => { ld := some (false, 1), zero := some (.val (.nilFunc)) }
  | 97 => { ld := some (false, 1), zero := some (.val (.nilFunc)) }
  | 98 => { ld := some (false, 1), zero := some (.val (.nilFunc)) }
  | 99 => { ld := some (false, 1), zero := some (.val (.nilFunc)) }
  | 100 => { ld := some (false, 1), zero := some (.val (.map none)), mp := some (4, none) }
  | 101 => { ld := some (false, 1), zero := some (.val (.nilFunc)) }
  | 102 => { ld := some (false, 1), zero := some (.val (.nilFunc)) }
  | 103 => { ld := some (false, 1), zero := some (.val (.nilFunc)) }
  | 104 => { ld := some (false, 1), zero := some (.val (.nilFunc)) }
  | 105 => { ld := some (false, 1), zero := some (.val (.nilFunc)) }
  | 106 => { ld := some (false, 1), zero := some (.val (.nilFunc)) }
  | 107 => { ld := some (false, 1), zero := some (.val (.nilFunc)) }
  | 108 => { ld := some (false, 1), zero := some (.val (.nilFunc)) }
  | 109 => { ld := some (false, 1), zero := some (.val (.nilFunc)) }
  | 110 => { ld := some (false, 1), zero := some (.val (.nilFunc)) }
  | 111 => { ld := some (false, 1), zero := some (.val (.nilFunc)) }
  | 112 => { ld := some (false, 1), zero := some (.val (.nilFunc)) }
  | 113 => { ld := some (false, 1), zero := some (.val (.nilFunc)) }
  | 114 => { ld := some (false, 1), zero := some (.val (.nilFunc)) }
  | 115 => { ld := some (false, 1), zero := some (.val (.nilFunc)) }
  | 116 => { ld := some (false, 1), zero := some (.val (.int .i64 0)), int := some .i64 }
  | 118 => { ld := some (false, 1), zero := some (.val (.nilFunc)) }
  | 119 => { ld := some (false, 1), zero := some (.val (.nilFunc)) }
  | 120 => { ld := some (false, 1), zero := some (.val (.nilFunc)) }
  | 121 => { ld := some (false, 1), zero := some (.val (.nilFunc)) }
  | 122 => { ld := some (false, 1), zero := some (.val (.nilFunc)) }
  | 123 => { ld := some (false, 1), zero := some (.val (.int .u32 0)), int := some .u32 }
  | 124 => { ld := some (false, 1), zero := some (.val (.nilFunc)) }
  | 125 => { ld := some (false, 1), zero := some (.val (.int .u64 0)), int := some .u64 }
  | 126 => { ld := some (false, 1), zero := some (.val (.int .u64 0)), int := some .u64 }
  | 127 => { ld := some (false, 1), zero := some (.val (.nilFunc)) }
  | 128 => { ld := some (false, 1), zero := some (.val (.nilFunc)) }
  | 129 => { ld := some (false, 1), zero := some (.val (.nilFunc)) }
  | 130 => { ld := some (false, 1), zero := some (.val (.pointer none)), ptr := true }
  | _ => {}
theorem tab_3 : tab 3 = { ld := some (false, 1), zero := some (.val (.int .i64 0)), int := some .i64 } := rfl
theorem tab_4 : tab 4 = { ld := some (false, 1), zero := some (.val (.bool false)), bool := true } := rfl
theorem tab_9 : tab 9 = { ld := some (false, 1), zero := some (.val (.string ⟨#[]⟩)), str := true } := rfl
theorem tab_22 : tab 22 = { sl := some (35, 6, 72, (.agg #[.int .i64 0, .int .i64 0, .int .i64 0, .int .i64 0, .string ⟨#[]⟩, .slice none 0 0])), ld := some (false, 1), zero := some (.sl true (.slice none 0 0) 6 .nil) } := rfl
theorem tab_23 : tab 23 = { ld := some (false, 1), zero := some (.val (.pointer none)), ptr := true } := rfl
theorem tab_24 : tab 24 = { ld := some (false, 1), zero := some (.val (.pointer none)), ptr := true } := rfl
theorem tab_33 : tab 33 = { sl := some (9, 1, 16, (.string ⟨#[]⟩)), ld := some (false, 1), zero := some (.sl true (.slice none 0 0) 1 .nil) } := rfl
theorem tab_35 : tab 35 = { ld := some (true, 6), zero := some (.agg (.cons (.val (.int .i64 0)) (.cons (.val (.int .i64 0)) (.cons (.val (.int .i64 0)) (.cons (.val (.int .i64 0)) (.cons (.val (.string ⟨#[]⟩)) (.cons (.sl true (.slice none 0 0) 1 .nil) .nil))))))), st := some [(0, 1), (1, 1), (2, 1), (3, 1), (4, 1), (5, 1)] } := rfl
theorem tab_37 : tab 37 = { sl := some (64, 3, 56, (.agg #[.bool false, .slice none 0 0, .slice none 0 0])), ld := some (false, 1), zero := some (.sl true (.slice none 0 0) 3 .nil) } := rfl
theorem tab_38 : tab 38 = { sl := some (3, 1, 8, (.int .i64 0)), ld := some (false, 1), zero := some (.sl true (.slice none 0 0) 1 .nil) } := rfl
theorem tab_40 : tab 40 = { ld := some (true, 4), zero := some (.agg (.cons (.val (.bool false)) (.cons (.sl true (.slice none 0 0) 3 .nil) (.cons (.sl true (.slice none 0 0) 1 .nil) (.cons (.sl true (.slice none 0 0) 1 .nil) .nil))))), st := some [(0, 1), (1, 1), (2, 1), (3, 1)] } := rfl
theorem tab_53 : tab 53 = { sl := some (56, 3, 56, (.agg #[.bool false, .slice none 0 0, .slice none 0 0])), ld := some (false, 1), zero := some (.sl true (.slice none 0 0) 3 .nil) } := rfl
theorem tab_56 : tab 56 = { ld := some (true, 3), zero := some (.agg (.cons (.val (.bool false)) (.cons (.sl true (.slice none 0 0) 1 .nil) (.cons (.sl true (.slice none 0 0) 1 .nil) .nil)))), st := some [(0, 1), (1, 1), (2, 1)] } := rfl
theorem tab_57 : tab 57 = { ld := some (false, 1), zero := some (.val (.map none)), mp := some (3, none) } := rfl
theorem tab_59 : tab 59 = { ld := some (true, 2), zero := some (.agg (.cons (.sl true (.slice none 0 0) 3 .nil) (.cons (.val (.map none)) .nil))), st := some [(0, 1), (1, 1)] } := rfl
theorem tab_64 : tab 64 = { ld := some (true, 3), zero := some (.agg (.cons (.val (.bool false)) (.cons (.sl true (.slice none 0 0) 1 .nil) (.cons (.sl true (.slice none 0 0) 1 .nil) .nil)))), st := some [(0, 1), (1, 1), (2, 1)] } := rfl
theorem tab_74 : tab 74 = { ld := some (false, 1), zero := some (.val (.int .u64 0)), int := some .u64 } := rfl
theorem tab_82 : tab 82 = { sl := some (4, 1, 1, (.bool false)), ld := some (false, 1), zero := some (.sl true (.slice none 0 0) 1 .nil) } := rfl
theorem tab_100 : tab 100 = { ld := some (false, 1), zero := some (.val (.map none)), mp := some (4, none) } := rfl
set_option linter.defProp false
def tabd_3 := @tab_3
def tabd_4 := @tab_4
def tabd_9 := @tab_9
def tabd_22 := @tab_22
def tabd_23 := @tab_23
def tabd_24 := @tab_24
def tabd_33 := @tab_33
def tabd_35 := @tab_35
def tabd_37 := @tab_37
def tabd_38 := @tab_38
def tabd_40 := @tab_40
def tabd_53 := @tab_53
def tabd_56 := @tab_56
def tabd_57 := @tab_57
def tabd_59 := @tab_59
def tabd_64 := @tab_64
def tabd_74 := @tab_74
def tabd_82 := @tab_82
def tabd_100 := @tab_100
attribute [simp] tabd_3 tabd_4 tabd_9 tabd_22 tabd_23 tabd_24 tabd_33 tabd_35 tabd_37 tabd_38 tabd_40 tabd_53 tabd_56 tabd_57 tabd_59 tabd_64 tabd_74 tabd_82 tabd_100
theorem tabOk_1 : (tab 1).Ok Tryz.prog 1 := .okI Tryz.t1 (.nilFunc) rfl rfl
theorem tabOk_2 : (tab 2).Ok Tryz.prog 2 := .okI Tryz.t2 (.int .i64 0) rfl rfl (int := by intro k h; cases h; kernel_rfl)
theorem tabOk_3 : (tab 3).Ok Tryz.prog 3 := .okI Tryz.t3 (.int .i64 0) rfl rfl (int := by intro k h; cases h; kernel_rfl)
theorem tabOk_4 : (tab 4).Ok Tryz.prog 4 := .okI Tryz.t4 (.bool false) rfl rfl (bool := by intro _; kernel_rfl)
theorem tabOk_5 : (tab 5).Ok Tryz.prog 5 := .okI Tryz.t5 (.int .u8 0) rfl rfl (int := by intro k h; cases h; kernel_rfl)
theorem tabOk_6 : (tab 6).Ok Tryz.prog 6 := .okI Tryz.t6 (.int .u8 0) rfl rfl (int := by intro k h; cases h; kernel_rfl)
theorem tabOk_7 : (tab 7).Ok Tryz.prog 7 := .okI Tryz.t7 (.agg #[.int .i64 0, .int .i64 0, .bool false, .int .u8 0]) rfl rfl (st := by intro l h; cases h; exact ⟨_, Tryz.underlying7, by kernel_rfl, (by exact all_some (by kernel_rfl)), by kernel_rfl⟩)
theorem tabOk_8 : (tab 8).Ok Tryz.prog 8 := .okI Tryz.t8 (.agg #[.int .i64 0, .int .i64 0, .bool false, .int .u8 0]) rfl rfl (st := by intro l h; cases h; exact ⟨_, Tryz.underlying8, by kernel_rfl, (by exact all_some (by kernel_rfl)), by kernel_rfl⟩)
theorem tabOk_9 : (tab 9).Ok Tryz.prog 9 := .okI Tryz.t9 (.string ⟨#[]⟩) rfl rfl (str := by intro _; kernel_rfl)
theorem tabOk_10 : (tab 10).Ok Tryz.prog 10 := .okI Tryz.t10 (.string ⟨#[]⟩) rfl rfl (str := by intro _; kernel_rfl)
theorem tabOk_11 : (tab 11).Ok Tryz.prog 11 := .okI Tryz.t11 (.string ⟨#[]⟩) rfl rfl (str := by intro _; kernel_rfl)
theorem tabOk_12 : (tab 12).Ok Tryz.prog 12 := .okI Tryz.t12 (.int .u64 0) rfl rfl (int := by intro k h; cases h; kernel_rfl)
theorem tabOk_13 : (tab 13).Ok Tryz.prog 13 := .okI Tryz.t13 (.agg #[.string ⟨#[]⟩, .int .u64 0]) rfl rfl (st := by intro l h; cases h; exact ⟨_, Tryz.underlying13, by kernel_rfl, (by exact all_some (by kernel_rfl)), by kernel_rfl⟩)
theorem tabOk_14 : (tab 14).Ok Tryz.prog 14 := .okI Tryz.t14 (.agg #[.string ⟨#[]⟩, .int .u64 0]) rfl rfl (st := by intro l h; cases h; exact ⟨_, Tryz.underlying14, by kernel_rfl, (by exact all_some (by kernel_rfl)), by kernel_rfl⟩)
theorem tabOk_15 : (tab 15).Ok Tryz.prog 15 := .okI Tryz.t15 (.pointer none) rfl rfl (ptr := by intro _; exact ⟨137, by kernel_rfl⟩)
theorem tabOk_16 : (tab 16).Ok Tryz.prog 16 := .okI Tryz.t16 (.pointer none) rfl rfl (ptr := by intro _; exact ⟨140, by kernel_rfl⟩)
theorem tabOk_17 : (tab 17).Ok Tryz.prog 17 := .okI Tryz.t17 (.pointer none) rfl rfl (ptr := by intro _; exact ⟨149, by kernel_rfl⟩)
theorem tabOk_18 : (tab 18).Ok Tryz.prog 18 := .okI Tryz.t18 (.agg #[.pointer none]) rfl rfl (st := by intro l h; cases h; exact ⟨_, Tryz.underlying18, by kernel_rfl, (by exact all_some (by kernel_rfl)), by kernel_rfl⟩)
theorem tabOk_19 : (tab 19).Ok Tryz.prog 19 := .okI Tryz.t19 (.agg #[.pointer none]) rfl rfl (st := by intro l h; cases h; exact ⟨_, Tryz.underlying19, by kernel_rfl, (by exact all_some (by kernel_rfl)), by kernel_rfl⟩)
theorem tabOk_21 : (tab 21).Ok Tryz.prog 21 := .okI Tryz.t21 (.int .i32 0) rfl rfl (int := by intro k h; cases h; kernel_rfl)
theorem tabOk_22 : (tab 22).Ok Tryz.prog 22 := .okI Tryz.t22 (.slice none 0 0) rfl rfl (sl := by intro e z b v h; cases h; exact ⟨by kernel_rfl, Tryz.t35, by kernel_rfl, by kernel_rfl, by kernel_rfl, by kernel_rfl, by kernel_rfl⟩)
theorem tabOk_23 : (tab 23).Ok Tryz.prog 23 := .okI Tryz.t23 (.pointer none) rfl rfl (ptr := by intro _; exact ⟨59, by kernel_rfl⟩)
theorem tabOk_24 : (tab 24).Ok Tryz.prog 24 := .okI Tryz.t24 (.pointer none) rfl rfl (ptr := by intro _; exact ⟨40, by kernel_rfl⟩)
theorem tabOk_26 : (tab 26).Ok Tryz.prog 26 := .okI Tryz.t26 (.nilFunc) rfl rfl
theorem tabOk_27 : (tab 27).Ok Tryz.prog 27 := .okI Tryz.t27 (.nilFunc) rfl rfl
theorem tabOk_28 : (tab 28).Ok Tryz.prog 28 := .okI Tryz.t28 (.nilFunc) rfl rfl
theorem tabOk_29 : (tab 29).Ok Tryz.prog 29 := .okI Tryz.t29 (.nilFunc) rfl rfl
theorem tabOk_30 : (tab 30).Ok Tryz.prog 30 := .okI Tryz.t30 (.nilFunc) rfl rfl
theorem tabOk_31 : (tab 31).Ok Tryz.prog 31 := .okI Tryz.t31 (.nilFunc) rfl rfl
theorem tabOk_32 : (tab 32).Ok Tryz.prog 32 := .okI Tryz.t32 (.nilFunc) rfl rfl
theorem tabOk_33 : (tab 33).Ok Tryz.prog 33 := .okI Tryz.t33 (.slice none 0 0) rfl rfl (sl := by intro e z b v h; cases h; exact ⟨by kernel_rfl, Tryz.t9, by kernel_rfl, by kernel_rfl, by kernel_rfl, by kernel_rfl, by kernel_rfl⟩)
theorem tabOk_34 : (tab 34).Ok Tryz.prog 34 := .okI Tryz.t34 (.agg #[.int .i64 0, .int .i64 0, .int .i64 0, .int .i64 0, .string ⟨#[]⟩, .slice none 0 0]) rfl rfl (st := by intro l h; cases h; exact ⟨_, Tryz.underlying34, by kernel_rfl, (by exact all_some (by kernel_rfl)), by kernel_rfl⟩)
theorem tabOk_35 : (tab 35).Ok Tryz.prog 35 := .okI Tryz.t35 (.agg #[.int .i64 0, .int .i64 0, .int .i64 0, .int .i64 0, .string ⟨#[]⟩, .slice none 0 0]) rfl rfl (st := by intro l h; cases h; exact ⟨_, Tryz.underlying35, by kernel_rfl, (by exact all_some (by kernel_rfl)), by kernel_rfl⟩)
theorem tabOk_36 : (tab 36).Ok Tryz.prog 36 := .okI Tryz.t36 (.nilFunc) rfl rfl
theorem tabOk_37 : (tab 37).Ok Tryz.prog 37 := .okI Tryz.t37 (.slice none 0 0) rfl rfl (sl := by intro e z b v h; cases h; exact ⟨by kernel_rfl, Tryz.t64, by kernel_rfl, by kernel_rfl, by kernel_rfl, by kernel_rfl, by kernel_rfl⟩)
theorem tabOk_38 : (tab 38).Ok Tryz.prog 38 := .okI Tryz.t38 (.slice none 0 0) rfl rfl (sl := by intro e z b v h; cases h; exact ⟨by kernel_rfl, Tryz.t3, by kernel_rfl, by kernel_rfl, by kernel_rfl, by kernel_rfl, by kernel_rfl⟩)
theorem tabOk_39 : (tab 39).Ok Tryz.prog 39 := .okI Tryz.t39 (.agg #[.bool false, .slice none 0 0, .slice none 0 0, .slice none 0 0]) rfl rfl (st := by intro l h; cases h; exact ⟨_, Tryz.underlying39, by kernel_rfl, (by exact all_some (by kernel_rfl)), by kernel_rfl⟩)
theorem tabOk_40 : (tab 40).Ok Tryz.prog 40 := .okI Tryz.t40 (.agg #[.bool false, .slice none 0 0, .slice none 0 0, .slice none 0 0]) rfl rfl (st := by intro l h; cases h; exact ⟨_, Tryz.underlying40, by kernel_rfl, (by exact all_some (by kernel_rfl)), by kernel_rfl⟩)
theorem tabOk_41 : (tab 41).Ok Tryz.prog 41 := .okI Tryz.t41 (.nilFunc) rfl rfl
theorem tabOk_42 : (tab 42).Ok Tryz.prog 42 := .okI Tryz.t42 (.nilFunc) rfl rfl
theorem tabOk_43 : (tab 43).Ok Tryz.prog 43 := .okI Tryz.t43 (.nilFunc) rfl rfl
theorem tabOk_44 : (tab 44).Ok Tryz.prog 44 := .okI Tryz.t44 (.nilFunc) rfl rfl
theorem tabOk_45 : (tab 45).Ok Tryz.prog 45 := .okI Tryz.t45 (.nilFunc) rfl rfl
theorem tabOk_46 : (tab 46).Ok Tryz.prog 46 := .okI Tryz.t46 (.int .i64 0) rfl rfl (int := by intro k h; cases h; kernel_rfl)
theorem tabOk_48 : (tab 48).Ok Tryz.prog 48 := .okI Tryz.t48 (.nilFunc) rfl rfl
theorem tabOk_49 : (tab 49).Ok Tryz.prog 49 := .okI Tryz.t49 (.nilFunc) rfl rfl
theorem tabOk_51 : (tab 51).Ok Tryz.prog 51 := .okI Tryz.t51 (.nilFunc) rfl rfl
theorem tabOk_52 : (tab 52).Ok Tryz.prog 52 := .okI Tryz.t52 (.nilFunc) rfl rfl
theorem tabOk_53 : (tab 53).Ok Tryz.prog 53 := .okI Tryz.t53 (.slice none 0 0) rfl rfl (sl := by intro e z b v h; cases h; exact ⟨by kernel_rfl, Tryz.t56, by kernel_rfl, by kernel_rfl, by kernel_rfl, by kernel_rfl, by kernel_rfl⟩)
theorem tabOk_54 : (tab 54).Ok Tryz.prog 54 := .okI Tryz.t54 (.nilFunc) rfl rfl
theorem tabOk_55 : (tab 55).Ok Tryz.prog 55 := .okI Tryz.t55 (.agg #[.bool false, .slice none 0 0, .slice none 0 0]) rfl rfl (st := by intro l h; cases h; exact ⟨_, Tryz.underlying55, by kernel_rfl, (by exact all_some (by kernel_rfl)), by kernel_rfl⟩)
theorem tabOk_56 : (tab 56).Ok Tryz.prog 56 := .okI Tryz.t56 (.agg #[.bool false, .slice none 0 0, .slice none 0 0]) rfl rfl (st := by intro l h; cases h; exact ⟨_, Tryz.underlying56, by kernel_rfl, (by exact all_some (by kernel_rfl)), by kernel_rfl⟩)
theorem tabOk_57 : (tab 57).Ok Tryz.prog 57 := .okI Tryz.t57 (.map none) rfl rfl (mp := by intro e k h; cases h; exact ⟨9, by kernel_rfl, by kernel_rfl⟩)
theorem tabOk_58 : (tab 58).Ok Tryz.prog 58 := .okI Tryz.t58 (.agg #[.slice none 0 0, .map none]) rfl rfl (st := by intro l h; cases h; exact ⟨_, Tryz.underlying58, by kernel_rfl, (by exact all_some (by kernel_rfl)), by kernel_rfl⟩)
theorem tabOk_59 : (tab 59).Ok Tryz.prog 59 := .okI Tryz.t59 (.agg #[.slice none 0 0, .map none]) rfl rfl (st := by intro l h; cases h; exact ⟨_, Tryz.underlying59, by kernel_rfl, (by exact all_some (by kernel_rfl)), by kernel_rfl⟩)
theorem tabOk_60 : (tab 60).Ok Tryz.prog 60 := .okI Tryz.t60 (.nilFunc) rfl rfl
theorem tabOk_61 : (tab 61).Ok Tryz.prog 61 := .okI Tryz.t61 (.nilFunc) rfl rfl
theorem tabOk_62 : (tab 62).Ok Tryz.prog 62 := .okI Tryz.t62 (.nilFunc) rfl rfl
theorem tabOk_63 : (tab 63).Ok Tryz.prog 63 := .okI Tryz.t63 (.agg #[.bool false, .slice none 0 0, .slice none 0 0]) rfl rfl (st := by intro l h; cases h; exact ⟨_, Tryz.underlying63, by kernel_rfl, (by exact all_some (by kernel_rfl)), by kernel_rfl⟩)
theorem tabOk_64 : (tab 64).Ok Tryz.prog 64 := .okI Tryz.t64 (.agg #[.bool false, .slice none 0 0, .slice none 0 0]) rfl rfl (st := by intro l h; cases h; exact ⟨_, Tryz.underlying64, by kernel_rfl, (by exact all_some (by kernel_rfl)), by kernel_rfl⟩)
theorem tabOk_65 : (tab 65).Ok Tryz.prog 65 := .okI Tryz.t65 (.nilFunc) rfl rfl
theorem tabOk_66 : (tab 66).Ok Tryz.prog 66 := .okI Tryz.t66 (.nilFunc) rfl rfl
theorem tabOk_67 : (tab 67).Ok Tryz.prog 67 := .okI Tryz.t67 (.nilFunc) rfl rfl
theorem tabOk_68 : (tab 68).Ok Tryz.prog 68 := .okI Tryz.t68 (.nilFunc) rfl rfl
theorem tabOk_70 : (tab 70).Ok Tryz.prog 70 := .okI Tryz.t70 (.nilFunc) rfl rfl
theorem tabOk_72 : (tab 72).Ok Tryz.prog 72 := .okI Tryz.t72 (.nilFunc) rfl rfl
theorem tabOk_73 : (tab 73).Ok Tryz.prog 73 := .okI Tryz.t73 (.nilFunc) rfl rfl
theorem tabOk_74 : (tab 74).Ok Tryz.prog 74 := .okI Tryz.t74 (.int .u64 0) rfl rfl (int := by intro k h; cases h; kernel_rfl)
theorem tabOk_75 : (tab 75).Ok Tryz.prog 75 := .okI Tryz.t75 (.nilFunc) rfl rfl
theorem tabOk_76 : (tab 76).Ok Tryz.prog 76 := .okI Tryz.t76 (.nilFunc) rfl rfl
theorem tabOk_77 : (tab 77).Ok Tryz.prog 77 := .okI Tryz.t77 (.nilFunc) rfl rfl
theorem tabOk_78 : (tab 78).Ok Tryz.prog 78 := .okI Tryz.t78 (.nilFunc) rfl rfl
theorem tabOk_80 : (tab 80).Ok Tryz.prog 80 := .okI Tryz.t80 (.nilFunc) rfl rfl
theorem tabOk_81 : (tab 81).Ok Tryz.prog 81 := .okI Tryz.t81 (.nilFunc) rfl rfl
theorem tabOk_82 : (tab 82).Ok Tryz.prog 82 := .okI Tryz.t82 (.slice none 0 0) rfl rfl (sl := by intro e z b v h; cases h; exact ⟨by kernel_rfl, Tryz.t4, by kernel_rfl, by kernel_rfl, by kernel_rfl, by kernel_rfl, by kernel_rfl⟩)
theorem tabOk_83 : (tab 83).Ok Tryz.prog 83 := .okI Tryz.t83 (.nilFunc) rfl rfl
theorem tabOk_84 : (tab 84).Ok Tryz.prog 84 := .okI Tryz.t84 (.pointer none) rfl rfl (ptr := by intro _; exact ⟨56, by kernel_rfl⟩)
theorem tabOk_85 : (tab 85).Ok Tryz.prog 85 := .okI Tryz.t85 (.nilFunc) rfl rfl
theorem tabOk_86 : (tab 86).Ok Tryz.prog 86 := .okI Tryz.t86 (.nilFunc) rfl rfl
theorem tabOk_87 : (tab 87).Ok Tryz.prog 87 := .okI Tryz.t87 (.nilFunc) rfl rfl
theorem tabOk_88 : (tab 88).Ok Tryz.prog 88 := .okI Tryz.t88 (.nilFunc) rfl rfl
theorem tabOk_89 : (tab 89).Ok Tryz.prog 89 := .okI Tryz.t89 (.nilFunc) rfl rfl
theorem tabOk_91 : (tab 91).Ok Tryz.prog 91 := .okI Tryz.t91 (.nilFunc) rfl rfl
theorem tabOk_92 : (tab 92).Ok Tryz.prog 92 := .okI Tryz.t92 (.nilFunc) rfl rfl
theorem tabOk_93 : (tab 93).Ok Tryz.prog 93 := .okI Tryz.t93 (.nilFunc) rfl rfl
theorem tabOk_94 : (tab 94).Ok Tryz.prog 94 := .okI Tryz.t94 (.nilFunc) rfl rfl
theorem tabOk_95 : (tab 95).Ok Tryz.prog 95 := .okI Tryz.t95 (.nilFunc) rfl rfl
theorem tabOk_96 : (tab 96).Ok Tryz.prog 96 := .okI Tryz.t96 (.nilFunc) rfl rfl
theorem tabOk_97 : (tab 97).Ok Tryz.prog 97 := .okI Tryz.t97 (.nilFunc) rfl rfl
theorem tabOk_98 : (tab 98).Ok Tryz.prog 98 := .okI Tryz.t98 (.nilFunc) rfl rfl
theorem tabOk_99 : (tab 99).Ok Tryz.prog 99 := .okI Tryz.t99 (.nilFunc) rfl rfl
theorem tabOk_100 : (tab 100).Ok Tryz.prog 100 := .okI Tryz.t100 (.map none) rfl rfl (mp := by intro e k h; cases h; exact ⟨9, by kernel_rfl, by kernel_rfl⟩)
theorem tabOk_101 : (tab 101).Ok Tryz.prog 101 := .okI Tryz.t101 (.nilFunc) rfl rfl
theorem tabOk_102 : (tab 102).Ok Tryz.prog 102 := .okI Tryz.t102 (.nilFunc) rfl rfl
theorem tabOk_103 : (tab 103).Ok Tryz.prog 103 := .okI Tryz.t103 (.nilFunc) rfl rfl
theorem tabOk_104 : (tab 104).Ok Tryz.prog 104 := .okI Tryz.t104 (.nilFunc) rfl rfl
theorem tabOk_105 : (tab 105).Ok Tryz.prog 105 := .okI Tryz.t105 (.nilFunc) rfl rfl
theorem tabOk_106 : (tab 106).Ok Tryz.prog 106 := .okI Tryz.t106 (.nilFunc) rfl rfl
theorem tabOk_107 : (tab 107).Ok Tryz.prog 107 := .okI Tryz.t107 (.nilFunc) rfl rfl
theorem tabOk_108 : (tab 108).Ok Tryz.prog 108 := .okI Tryz.t108 (.nilFunc) rfl rfl
theorem tabOk_109 : (tab 109).Ok Tryz.prog 109 := .okI Tryz.t109 (.nilFunc) rfl rfl
theorem tabOk_110 : (tab 110).Ok Tryz.prog 110 := .okI Tryz.t110 (.nilFunc) rfl rfl
theorem tabOk_111 : (tab 111).Ok Tryz.prog 111 := .okI Tryz.t111 (.nilFunc) rfl rfl
theorem tabOk_112 : (tab 112).Ok Tryz.prog 112 := .okI Tryz.t112 (.nilFunc) rfl rfl
theorem tabOk_113 : (tab 113).Ok Tryz.prog 113 := .okI Tryz.t113 (.nilFunc) rfl rfl
theorem tabOk_114 : (tab 114).Ok Tryz.prog 114 := .okI Tryz.t114 (.nilFunc) rfl rfl
theorem tabOk_115 : (tab 115).Ok Tryz.prog 115 := .okI Tryz.t115 (.nilFunc) rfl rfl
theorem tabOk_116 : (tab 116).Ok Tryz.prog 116 := .okI Tryz.t116 (.int .i64 0) rfl rfl (int := by intro k h; cases h; kernel_rfl)
theorem tabOk_118 : (tab 118).Ok Tryz.prog 118 := .okI Tryz.t118 (.nilFunc) rfl rfl
theorem tabOk_119 : (tab 119).Ok Tryz.prog 119 := .okI Tryz.t119 (.nilFunc) rfl rfl
theorem tabOk_120 : (tab 120).Ok Tryz.prog 120 := .okI Tryz.t120 (.nilFunc) rfl rfl
theorem tabOk_121 : (tab 121).Ok Tryz.prog 121 := .okI Tryz.t121 (.nilFunc) rfl rfl
theorem tabOk_122 : (tab 122).Ok Tryz.prog 122 := .okI Tryz.t122 (.nilFunc) rfl rfl
theorem tabOk_123 : (tab 123).Ok Tryz.prog 123 := .okI Tryz.t123 (.int .u32 0) rfl rfl (int := by intro k h; cases h; kernel_rfl)
theorem tabOk_124 : (tab 124).Ok Tryz.prog 124 := .okI Tryz.t124 (.nilFunc) rfl rfl
theorem tabOk_125 : (tab 125).Ok Tryz.prog 125 := .okI Tryz.t125 (.int .u64 0) rfl rfl (int := by intro k h; cases h; kernel_rfl)
theorem tabOk_126 : (tab 126).Ok Tryz.prog 126 := .okI Tryz.t126 (.int .u64 0) rfl rfl (int := by intro k h; cases h; kernel_rfl)
theorem tabOk_127 : (tab 127).Ok Tryz.prog 127 := .okI Tryz.t127 (.nilFunc) rfl rfl
theorem tabOk_128 : (tab 128).Ok Tryz.prog 128 := .okI Tryz.t128 (.nilFunc) rfl rfl
theorem tabOk_129 : (tab 129).Ok Tryz.prog 129 := .okI Tryz.t129 (.nilFunc) rfl rfl
theorem tabOk_130 : (tab 130).Ok Tryz.prog 130 := .okI Tryz.t130 (.pointer none) rfl rfl (ptr := by intro _; exact ⟨3, by kernel_rfl⟩)
theorem tabOk : Tab.Ok Tryz.prog tab := fun t => by
  unfold tab
  split
  · exact tabOk_1
  · exact tabOk_2
  · exact tabOk_3
  · exact tabOk_4
  · exact tabOk_5
  · exact tabOk_6
  · exact tabOk_7
  · exact tabOk_8
  · exact tabOk_9
  · exact tabOk_10
  · exact tabOk_11
  · exact tabOk_12
  · exact tabOk_13
  · exact tabOk_14
  · exact tabOk_15
  · exact tabOk_16
  · exact tabOk_17
  · exact tabOk_18
  · exact tabOk_19
  · exact tabOk_21
  · exact tabOk_22
  · exact tabOk_23
  · exact tabOk_24
  · exact tabOk_26
  · exact tabOk_27
  · exact tabOk_28
  · exact tabOk_29
  · exact tabOk_30
  · exact tabOk_31
  · exact tabOk_32
  · exact tabOk_33
  · exact tabOk_34
  · exact tabOk_35
  · exact tabOk_36
  · exact tabOk_37
  · exact tabOk_38
  · exact tabOk_39
  · exact tabOk_40
  · exact tabOk_41
  · exact tabOk_42
  · exact tabOk_43
  · exact tabOk_44
  · exact tabOk_45
  · exact tabOk_46
  · exact tabOk_48
  · exact tabOk_49
  · exact tabOk_51
  · exact tabOk_52
  · exact tabOk_53
  · exact tabOk_54
  · exact tabOk_55
  · exact tabOk_56
  · exact tabOk_57
  · exact tabOk_58
  · exact tabOk_59
  · exact tabOk_60
  · exact tabOk_61
  · exact tabOk_62
  · exact tabOk_63
  · exact tabOk_64
  · exact tabOk_65
  · exact tabOk_66
  · exact tabOk_67
  · exact tabOk_68
  · exact tabOk_70
  · exact tabOk_72
  · exact tabOk_73
  · exact tabOk_74
  · exact tabOk_75
  · exact tabOk_76
  · exact tabOk_77
  · exact tabOk_78
  · exact tabOk_80
  · exact tabOk_81
  · exact tabOk_82
  · exact tabOk_83
  · exact tabOk_84
  · exact tabOk_85
  · exact tabOk_86
  · exact tabOk_87
  · exact tabOk_88
  · exact tabOk_89
  · exact tabOk_91
  · exact tabOk_92
  · exact tabOk_93
  · exact tabOk_94
  · exact tabOk_95
  · exact tabOk_96
  · exact tabOk_97
  · exact tabOk_98
  · exact tabOk_99
  · exact tabOk_100
  · exact tabOk_101
  · exact tabOk_102
  · exact tabOk_103
  · exact tabOk_104
  · exact tabOk_105
  · exact tabOk_106
  · exact tabOk_107
  · exact tabOk_108
  · exact tabOk_109
  · exact tabOk_110
  · exact tabOk_111
  · exact tabOk_112
  · exact tabOk_113
  · exact tabOk_114
  · exact tabOk_115
  · exact tabOk_116
  · exact tabOk_118
  · exact tabOk_119
  · exact tabOk_120
  · exact tabOk_121
  · exact tabOk_122
  · exact tabOk_123
  · exact tabOk_124
  · exact tabOk_125
  · exact tabOk_126
  · exact tabOk_127
  · exact tabOk_128
  · exact tabOk_129
  · exact tabOk_130
  · exact .okN
theorem mixedOk : Tryz.prog.follows .mixedOrders = true := by kernel_rfl
theorem fb {f : FuncId} {fn : Func} {body : Code} {Y : List D} {args : AV} {R : AV → List D → List (Nat × Path) → Prop} (hf : Tryz.prog.funcs[f]? = some fn) {nt : Nat} (hnt : fn.ntmps = nt) (rs : List ResultVar) {st : St}
    (h : ∀ w0 I0 F0, F0.length = Y.length → VS ⟨Tryz.prog, nt, w0, I0, F0⟩ [body] (endK Y.length tab rs R) st)
    (hb : fn.body = some body := by rfl) (hname : (fn.name == "runtime.NumGoroutine") = false := by kernel_rfl) (hrs : fn.results.toList = rs := by kernel_rfl)
    (hl : args.isList = true := by rfl) (hlen : args.len ≤ nt := by simp [AV.len]) (hst : ⟨envOf 0 args, Y, [], []⟩ = st := by simp only [envOf]; exact rfl) : Meets Tryz.prog f Y args R :=
  Meets.of_vs tabOk hf hb hname hnt hrs hl hlen hst h
theorem fbP {f : FuncId} {fn : Func} {body : Code} {Y : List D} {pl : List (Nat × Path × AV)} {args : AV} {R : AV → List D → List (Nat × Path) → Prop} (hf : Tryz.prog.funcs[f]? = some fn) {nt : Nat} (hnt : fn.ntmps = nt) (rs : List ResultVar) {st : St}
    (h : ∀ w0 I0 F0, F0.length = Y.length → VS ⟨Tryz.prog, nt, w0, I0, F0⟩ [body] (endK Y.length tab rs R) st)
    (hb : fn.body = some body := by rfl) (hname : (fn.name == "runtime.NumGoroutine") = false := by kernel_rfl) (hrs : fn.results.toList = rs := by kernel_rfl)
    (hl : args.isList = true := by rfl) (hlen : args.len ≤ nt := by simp [AV.len]) (hst : ⟨envOf 0 args, Y, [], pl⟩ = st := by simp only [envOf]; exact rfl) : MeetsP Tryz.prog f Y pl args R :=
  MeetsP.of_vs tabOk hf hb hname hnt hrs hl hlen hst h
section
variable {nt : Nat} {w0 : World} {I0 : Nat → Prop} {F0 : List G} {l : List Code} {K : Exit → St → Prop} {st : St}
theorem rg (id : Nat) {ops : List Oper} (pre post : List Tmp) (gs : List (Nat × Tmp)) (h : vcOps ⟨Tryz.prog, nt, w0, I0, F0⟩ tab gs ops 0 (st.keep pre) (VSk ⟨Tryz.prog, nt, w0, I0, F0⟩ l K post))
    (hd : regOk nt ops gs = true := by kernel_rfl) : VS ⟨Tryz.prog, nt, w0, I0, F0⟩ (.region id ops.toArray false :: l) K st := VS.rg tabOk id pre post gs h hd
theorem dr (id : Nat) {ops : List Oper} (EM : Nat) (pre post : List Tmp) (gs : List (Nat × Tmp)) (T : List Rw) (p : Plan) (o : OP)
    (h : opsVc ⟨Tryz.prog, nt, w0, I0, F0⟩ tab gs ops o (st.keep pre) (VSk ⟨Tryz.prog, nt, w0, I0, F0⟩ l K post))
    (hT : ops.map (rowOf ops.toArray) = T := by kernel_rfl) (hok : drawOk EM nt ops gs T p = true := by kernel_rfl) (ho : opOf EM p = o := by kernel_rfl) : VS ⟨Tryz.prog, nt, w0, I0, F0⟩ (.region id ops.toArray true :: l) K st := VS.dr tabOk mixedOk id EM pre post gs T p o h hT hok ho
end
end Go.Proofs.YtipokdbfdingmaaGreat

/- From what a row's argument reads as to trees that cannot change. -/
namespace Go.Vc
set_option linter.all false
open T (hdr blk)
abbrev allB (w : World) : Nat → Prop := fun b => b < w.heap.size
def Reads (P : Program) (t : TypeId) (z : Nat) (good : D → Prop) : Prop :=
  ∀ (H : Type) (enc : TypeId × Value → H) (w : World) (fuel : Nat) (cs : List Value) (x : DataW H × List MemPlace), DataW.trod enc P w 0 (fun _ => true) true fuel t cs = some x →
    ∃ g : G, T.Holds w.heap (allB w) g ∧ g.free = true ∧ g.cells = cs ∧ g.width = z ∧ good g.erase
theorem reads_int {P : Program} {t : TypeId} {k : IntKind} (ht : P.underlying t = some (.int k)) : Reads P t 1 fun d => ∃ n, d = .val (.int k n) := fun H enc w fuel cs x h => by
  obtain ⟨n, rfl, _, _⟩ := DataW.trod_int ht h
  exact ⟨.val (.int k n), rfl, rfl, rfl, rfl, n, rfl⟩
theorem reads_str {P : Program} {t : TypeId} (ht : P.underlying t = some .string) : Reads P t 1 fun d => ∃ s, d = .val (.string s) := fun H enc w fuel cs x h => by
  obtain ⟨s, rfl, _, _⟩ := DataW.trod_string ht h
  exact ⟨.val (.string s), rfl, rfl, rfl, rfl, s, rfl⟩
def FieldsRead (P : Program) : List Field → List (Nat × (D → Prop)) → Nat → Prop
  | [], [], _ => True
  | f :: fs, (z, good) :: r, o => Reads P f.type z good ∧ P.cellsOf f.type = z ∧ f.offset = o ∧ FieldsRead P fs r (o + z)
  | _, _, _ => False
def fieldsGood : List (Nat × (D → Prop)) → D → Prop
  | [], d => d = .nil
  | (_, good) :: r, d => ∃ a t, d = .cons a t ∧ good a ∧ fieldsGood r t
def fieldsSize : List (Nat × (D → Prop)) → Nat
  | [] => 0
  | (z, _) :: r => z + fieldsSize r
theorem reads_struct {P : Program} {t : TypeId} {fs : Array Field} (ht : P.underlying t = some (.struct fs)) {gs : List (Nat × (D → Prop))} (hf : FieldsRead P fs.toList gs 0) (hz : P.cellsOf t = fieldsSize gs) :
    Reads P t (fieldsSize gs) fun d => ∃ s, d = .agg s ∧ fieldsGood gs s := fun H enc w fuel cs x h => by
  obtain ⟨xs, n, _, _, hl, hlen, he⟩ := DataW.trod_struct ht h
  have each : ∀ f ∈ fs.toList, ∃ y, DataW.trod enc P w 0 (fun _ => true) true n f.type ((cs.drop f.offset).take (P.cellsOf f.type)) = some y := fun f hm => by
    obtain ⟨i, hi, rfl⟩ := List.getElem_of_mem hm
    have h1 := he i fs[i] (by simp at hi; simp [hi])
    rw [List.getElem?_eq_getElem (by simp at hi; omega)] at h1
    exact ⟨_, h1⟩
  have key : ∀ (l : List Field) (gs : List (Nat × (D → Prop))) (o : Nat), FieldsRead P l gs o → (∀ f ∈ l, f ∈ fs.toList) → cs.length = o + fieldsSize gs →
      ∃ s : G, T.Holds w.heap (allB w) s ∧ s.free = true ∧ s.cells = cs.drop o ∧ s.width = fieldsSize gs ∧ fieldsGood gs s.erase := by
    intro l
    induction l with
    | nil =>
      intro gs o h1 _ h2
      cases gs with
      | nil => exact ⟨.nil, trivial, rfl, by simp only [fieldsSize] at h2; simp [T.cells, h2], rfl, rfl⟩
      | cons _ _ => exact h1.elim
    | cons f l ih =>
      intro gs o h1 hm h2
      cases gs with
      | nil => exact h1.elim
      | cons p r =>
        obtain ⟨z, good⟩ := p
        obtain ⟨k1, k2, k3, k4⟩ := h1
        simp only [fieldsSize] at h2
        obtain ⟨s, s1, s2, s3, s4, s5⟩ := ih r (o + z) k4 (fun f hf => hm f (by simp [hf])) (by omega)
        obtain ⟨y, hy⟩ := each f (hm f (by simp))
        obtain ⟨g, g1, g2, g3, g4, g5⟩ := k1 H enc w n _ y hy
        refine ⟨.cons g s, ⟨g1, s1⟩, by simp [T.free, g2, s2], ?_, by simp [T.width, g4, s4, fieldsSize], _, _, rfl, g5, s5⟩
        simp only [T.cells, g3, s3, k2, k3]
        rw [← List.drop_drop, List.take_append_drop]
  obtain ⟨s, s1, s2, s3, s4, s5⟩ := key fs.toList gs 0 hf (fun _ h => h) (by rw [hl, hz]; omega)
  exact ⟨.agg s, s1, s2, by simpa [T.cells] using s3, s4, _, rfl, s5⟩
theorem erase_cons {g : G} {a t : D} (h : g.erase = .cons a t) : ∃ a' t', g = .cons a' t' ∧ a'.erase = a ∧ t'.erase = t := by
  cases g <;> simp only [T.erase] at h <;> cases h
  exact ⟨_, _, rfl, rfl, rfl⟩
theorem erase_val {g : G} {v : Value} (h : g.erase = .val v) : g = .val v := by
  cases g <;> simp only [T.erase] at h <;> cases h
  rfl
theorem erase_nil {g : G} (h : g.erase = .nil) : g = .nil := by
  cases g <;> simp only [T.erase] at h <;> cases h
  rfl
theorem map_of {α β : Type} {f : β → α} : ∀ {l : List α}, (∀ x ∈ l, ∃ y, x = f y) → ∃ ys : List β, l = ys.map f
  | [], _ => ⟨[], rfl⟩
  | x :: l, h => by
    obtain ⟨y, hy⟩ := h x (by simp)
    obtain ⟨ys, hys⟩ := map_of (l := l) (f := f) fun x hx => h x (List.mem_cons_of_mem _ hx)
    exact ⟨y :: ys, by rw [hy, hys]; rfl⟩
theorem cells?_at {w : World} {a : Addr} {n : Nat} {cs : List Value} (h : w.cells? 0 a n = some cs) : cs.length = n ∧ ∀ r v, cs[r]? = some v → w.cell? (a.add r) = some v := by
  obtain ⟨_, h1, h2⟩ := World.cells?_some h
  refine ⟨h1, fun r v hv => ?_⟩
  have hr : r < n := by rw [← h1]; exact (List.getElem?_eq_some_iff.1 hv).1
  have := h2 r hr
  rw [this, hv]
theorem reads_elems {P : Program} {e : TypeId} {z : Nat} {good : D → Prop} (he : Reads P e z good) {H : Type} {enc : TypeId × Value → H} {w : World} {n : Nat} {at_ : Nat → List Value} : ∀ (len i0 : Nat),
    (∀ i, i < len → ∃ y, DataW.trod enc P w 0 (fun _ => true) true n e (at_ (i0 + i)) = some y) →
    ∃ s : G, ∃ l : List D, T.Holds w.heap (allB w) s ∧ s.free = true ∧ s.uni z ∧ s.len = len ∧ s.erase = sq l ∧ l.length = len ∧ (∀ d ∈ l, good d) ∧ s.cells = ((List.range len).map fun i => at_ (i0 + i)).flatten
  | 0, i0, _ => ⟨.nil, [], trivial, rfl, trivial, rfl, rfl, rfl, by simp, rfl⟩
  | len + 1, i0, h => by
    obtain ⟨y, hy⟩ := h 0 (by omega)
    obtain ⟨g, g1, g2, g3, g4, g5⟩ := he H enc w n _ y hy
    obtain ⟨s, l, s1, s2, s3, s4, s5, s6, s7, s8⟩ := reads_elems he len (i0 + 1) fun i hi => by
      have := h (i + 1) (by omega)
      rwa [show i0 + (i + 1) = i0 + 1 + i by omega] at this
    refine ⟨.cons g s, g.erase :: l, ⟨g1, s1⟩, by simp [T.free, g2, s2], ⟨g4, s3⟩, by simp [T.len, s4], by simp [T.erase, sq, s5], by simp [s6], fun d hd => ?_, ?_⟩
    · rcases List.mem_cons.1 hd with rfl | hd
      · exact g5
      · exact s7 d hd
    · rw [List.range_succ_eq_map]
      simp only [T.cells, g3, s8, List.map_cons, List.flatten_cons, List.map_map, Nat.add_zero]
      congr 3
      funext i
      simp only [Function.comp]
      congr 1; omega
theorem flat_at {α : Type} {z : Nat} (hz : 0 < z) : ∀ (l : List (List α)) (_ : ∀ c ∈ l, c.length = z) (j : Nat) (v : α), l.flatten[j]? = some v → ∃ c, l[j / z]? = some c ∧ c[j % z]? = some v
  | [], _, j, v, h => by simp at h
  | c :: l, hl, j, v, h => by
    have hc := hl c (by simp)
    simp only [List.flatten_cons] at h
    rcases Nat.lt_or_ge j z with hj | hj
    · rw [List.getElem?_append_left (by omega)] at h
      exact ⟨c, by rw [Nat.div_eq_of_lt hj]; rfl, by rw [Nat.mod_eq_of_lt hj]; exact h⟩
    · rw [List.getElem?_append_right (by omega), hc] at h
      obtain ⟨c', h1, h2⟩ := flat_at hz l (fun c hc => hl c (by simp [hc])) (j - z) v h
      refine ⟨c', ?_, ?_⟩
      · rw [show j / z = (j - z) / z + 1 by rw [Nat.div_eq_sub_div hz hj]]; simpa using h1
      · rw [Nat.mod_eq_sub_mod hj]; exact h2
theorem reads_slice {P : Program} {t e : TypeId} {z : Nat} {good : D → Prop} (ht : P.underlying t = some (.slice e)) (he : Reads P e z good) (hc : P.cellsOf e = z) (hz : 0 < z) :
    Reads P t 1 fun d => ∃ l : List D, (∀ x ∈ l, good x) ∧ l.length ≤ 2 ^ 63 - 1 ∧ d = .sl false () z (sq l) := fun H enc w fuel cs x h => by
  rcases DataW.trod_slice ht h with ⟨rfl, _⟩ | ⟨a, len, cap, elems, rest, n, _, rfl, _, hb, hlc, hm, hlen, hel, hsp, _⟩
  · exact ⟨.sl false (.slice none 0 0) z .nil, ⟨trivial, trivial, fun _ => rfl, rfl, rfl, rfl⟩, rfl, rfl, rfl, [], by simp, by simp, rfl⟩
  · obtain ⟨b, o, sp⟩ := a
    have hcm' : cap ≤ 2 ^ 63 - 1 := by
      have : maxLen = 2 ^ 63 - 1 := by decide
      omega
    rcases cap with _ | cap
    · obtain rfl : len = 0 := by omega
      exact ⟨.sl false (.slice (some ⟨b, o, sp⟩) 0 0) z .nil, ⟨trivial, trivial, fun _ => rfl, rfl, (fun h => by cases h), rfl⟩, rfl, rfl, rfl, [], by simp, by simp, rfl⟩
    · obtain ⟨hsp1, hsp2⟩ := hsp rfl
      rw [hc] at hel hsp2
      have each : ∀ i, i < cap + 1 → ∃ cs, w.cells? 0 ((⟨b, o, sp⟩ : Addr).add (i * z)) z = some cs ∧ ∃ y, DataW.trod enc P w 0 (fun _ => true) true n e cs = some y := fun i hi => by
        by_cases h1 : i < len
        · have h2 := hel i h1
          rw [List.getElem?_eq_getElem (by omega)] at h2
          obtain ⟨cs, h3, h4⟩ := Option.bind_eq_some_iff.1 h2
          exact ⟨cs, h3, _, h4⟩
        · have h2 := hsp2 (i - len) (by omega)
          rw [List.getElem?_eq_getElem (by omega), show len + (i - len) = i by omega] at h2
          obtain ⟨cs, h3, h4⟩ := Option.bind_eq_some_iff.1 h2
          exact ⟨cs, h3, _, h4⟩
      have hspot : sp = none := by
        obtain ⟨cs0, h1, _⟩ := each 0 (by omega)
        obtain ⟨h2, h3⟩ := cells?_at h1
        have h4 := h3 0 _ (List.getElem?_eq_getElem (by omega))
        have e0 : ((⟨b, o, sp⟩ : Addr).add (0 * z)).add 0 = ⟨b, o, sp⟩ := by simp [Addr.add]
        rw [e0] at h4
        unfold World.cell? at h4
        split at h4
        · cases sp with
          | none => rfl
          | some _ => simp at h4
        · cases h4
      subst hspot
      have hadd : ∀ k, (⟨b, o, none⟩ : Addr).add k = ⟨b, o + k, none⟩ := fun k => by unfold Addr.add; split <;> simp_all
      obtain ⟨csl, hl1, _⟩ := each cap (by omega)
      obtain ⟨hl2, hl3⟩ := cells?_at hl1
      have hl4 := hl3 (z - 1) _ (List.getElem?_eq_getElem (by omega))
      rw [hadd] at hl4
      have hadd2 : ∀ (o' k : Nat), (⟨b, o', none⟩ : Addr).add k = ⟨b, o' + k, none⟩ := fun o' k => by unfold Addr.add; split <;> simp_all
      rw [hadd2] at hl4
      obtain ⟨row, e', fr, hrow⟩ : ∃ row e' fr, w.heap[b]? = some (.cells row e' fr) := by
        unfold World.cell? at hl4
        split at hl4
        · rename_i c _ _ heq; exact ⟨_, _, _, heq⟩
        · cases hl4
      have cell : ∀ k v, w.cell? ⟨b, k, none⟩ = some v → row[k]? = some v := fun k v hk => by
        unfold World.cell? at hk
        simp only [hrow] at hk
        simpa using hk
      have hblt : b < w.heap.size := by
        rcases Nat.lt_or_ge b w.heap.size with h' | h'
        · exact h'
        · rw [Array.getElem?_eq_none h'] at hrow; cases hrow
      have hsz : o + (cap + 1) * z ≤ row.size := by
        have h5 := cell _ _ hl4
        have h6 := (Array.getElem?_eq_some_iff.1 h5).1
        rw [Nat.add_mul]; omega
      obtain ⟨s, l, s1, s2, s3, s4, s5, s6, s7, s8⟩ := reads_elems (enc := enc) (w := w) (n := n) (at_ := fun i => (w.cells? 0 ((⟨b, o, none⟩ : Addr).add (i * z)) z).getD []) he len 0 fun i hi => by
        obtain ⟨cs, h1, h2⟩ := each (0 + i) (by omega)
        rw [h1]; exact h2
      refine ⟨.sl false (.slice (some ⟨b, o, none⟩) len (cap + 1)) z s, ⟨s1, s3, fun _ => s2, rfl, s4.symm, hlc, hcm', fun _ => hblt, row, e', fr, hrow, (fun h => by cases h), hsz, fun j v hj => ?_⟩, by simp [T.free, s2], rfl, rfl, l, s7, by omega, by simp [T.erase, s5]⟩
      rw [s8] at hj
      obtain ⟨c, c1, c2⟩ := flat_at hz _ (fun c hcm => by
        obtain ⟨i, hi, rfl⟩ := List.mem_map.1 hcm
        obtain ⟨cs, h1, _⟩ := each (0 + i) (by have := List.mem_range.1 hi; omega)
        rw [h1]; exact (cells?_at h1).1) j v hj
      rw [List.getElem?_map] at c1
      cases hr : (List.range len)[j / z]? with
      | none => rw [hr] at c1; cases c1
      | some i =>
        rw [hr] at c1
        obtain ⟨hi1, hi2⟩ := List.getElem?_eq_some_iff.1 hr
        simp only [List.length_range] at hi1
        simp only [List.getElem_range] at hi2
        subst hi2
        obtain ⟨cs, h1, _⟩ := each (0 + j / z) (by omega)
        simp only [Option.map_some, Option.some.injEq, h1, Option.getD_some] at c1
        subst c1
        have h2 := (cells?_at h1).2 _ _ c2
        rw [hadd, hadd2] at h2
        have h3 := cell _ _ h2
        rw [← h3]
        congr 1
        have := Nat.div_add_mod j z
        rw [Nat.mul_comm] at this
        simp only [Nat.zero_add]
        omega
theorem imm_of_trod {P : Program} {t e : TypeId} {z : Nat} {good : D → Prop} (ht : P.underlying t = some (.slice e)) (he : Reads P e z good) (hc : P.cellsOf e = z) (hz : 0 < z) {H : Type} {enc : TypeId × Value → H} {w : World}
    {r : Reach} {b0 : Nat} {v : Value} {d : DataW H} {ps : List MemPlace} (hv : Value.okWide P w r b0 t v) (h : DataW.Trod enc P w 0 (fun _ => true) true t v d ps) :
    ∃ l : List D, (∀ d ∈ l, good d) ∧ l.length ≤ 2 ^ 63 - 1 ∧ Rl w.heap (allB w) [] (.imm z (sq l) false) true [v] := by
  obtain ⟨fuel, h⟩ := h
  have hok : Cell.ok P w r b0 t v := by
    unfold Value.okWide at hv
    rw [ht] at hv
    simp only [Cell.okWide, ht] at hv
    exact hv
  have hform : v = .slice none 0 0 ∨ ∃ a len cap, v = .slice (some a) len cap := by
    unfold Cell.ok at hok
    rw [ht] at hok
    split at hok <;> try exact hok.elim
    all_goals first
      | (rename_i heq; cases heq; done)
      | skip
    · exact .inl rfl
    · exact .inr ⟨_, _, _, rfl⟩
  obtain ⟨g, g1, g2, g3, g4, l, l1, l2, l3⟩ := reads_slice ht he hc hz H enc w fuel _ _ h
  have hg : ∃ s, g = .sl false v z s ∧ s.erase = sq l := by
    cases g <;> simp only [T.erase, reduceCtorEq] at l3
    rename_i o a z' s
    simp only [T.sl.injEq, true_and] at l3
    obtain ⟨rfl, rfl, l3⟩ := l3
    have e : [a] = v.cells.toList := g3
    rcases hform with rfl | ⟨_, _, _, rfl⟩ <;> (simp [Value.cells] at e; subst e; exact ⟨s, rfl, l3⟩)
  obtain ⟨s, rfl, hs⟩ := hg
  exact ⟨l, l1, l2, v, rfl, s, hs, g1, fun h => by cases h⟩
end Go.Vc
