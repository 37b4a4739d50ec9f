/- The table of this program's types. -/
import Derived.Test.YthcndkpkkaphoaaW
import Derived.Test.YthcndkpkkaphoaaProg
import Derived.KernelRfl
namespace Go.Proofs.Ythcndkpkkaphoaa
set_option linter.all false
open Go.Vc Go.Proofs

theorem all_some {l : List Field} (h : l.all (fun f => (Try.prog.info? f.type).isSome) = true) : ∀ f ∈ l, (Try.prog.info? f.type).isSome = true := List.all_eq_true.1 h


noncomputable def tab : Tab := fun t => match t with
  | 1 => { ld := some (false, 1), zero := some (.val (.nilFunc)) }
  | 2 => { ld := some (false, 1), zero := some (.val (.int .i64 0)), int := some .i64 }
  | 3 => { ld := some (false, 1), zero := some (.val (.int .i64 0)), int := some .i64 }
  | 4 => { ld := some (false, 1), zero := some (.val (.bool false)), bool := true }
  | 9 => { ld := some (false, 1), zero := some (.val (.string ⟨#[]⟩)), str := true }
  | 15 => { ld := some (false, 1), zero := some (.val (.pointer none)), ptr := true }
  | 22 => { ld := some (false, 1), zero := some (.val (.pointer none)), ptr := true }
  | 24 => { ld := some (false, 1), zero := some (.val (.pointer none)), ptr := true }
  | 26 => { sl := some (9, 1, 16, (.string ⟨#[]⟩)), ld := some (false, 1), zero := some (.sl true (.slice none 0 0) 1 .nil) }
  | 28 => { ld := some (false, 1), zero := some (.val (.int .u64 0)), int := some .u64 }
  | 29 => { ld := some (false, 1), zero := some (.val (.int .i64 0)), int := some .i64 }
  | 37 => { sl := some (40, 4, 40, (.agg #[.int .i64 0, .int .i64 0, .string ⟨#[]⟩, .int .i64 0])), ld := some (false, 1), zero := some (.sl true (.slice none 0 0) 4 .nil) }
  | 38 => { sl := some (45, 3, 56, (.agg #[.slice none 0 0, .slice none 0 0, .bool false])), ld := some (false, 1), zero := some (.sl true (.slice none 0 0) 3 .nil) }
  | 40 => { ld := some (true, 4), zero := some (.agg (.cons (.val (.int .i64 0)) (.cons (.val (.int .i64 0)) (.cons (.val (.string ⟨#[]⟩)) (.cons (.val (.int .i64 0)) .nil))))), st := some [(0, 1), (1, 1), (2, 1), (3, 1)] }
  | 43 => { sl := some (3, 1, 8, (.int .i64 0)), ld := some (false, 1), zero := some (.sl true (.slice none 0 0) 1 .nil) }
  | 45 => { ld := some (true, 3), zero := some (.agg (.cons (.sl true (.slice none 0 0) 1 .nil) (.cons (.sl true (.slice none 0 0) 1 .nil) (.cons (.val (.bool false)) .nil)))), st := some [(0, 1), (1, 1), (2, 1)] }
  | 47 => { ld := some (false, 1), zero := some (.val (.pointer none)), ptr := true }
  | 60 => { sl := some (70, 2, 24, (.agg #[.int .i64 0, .string ⟨#[]⟩])), ld := some (false, 1), zero := some (.sl true (.slice none 0 0) 2 .nil) }
  | 61 => { sl := some (78, 4, 64, (.agg #[.int .i64 0, .slice none 0 0, .slice none 0 0, .bool false])), ld := some (false, 1), zero := some (.sl true (.slice none 0 0) 4 .nil) }
  | 63 => { ld := some (true, 2), zero := some (.agg (.cons (.sl true (.slice none 0 0) 2 .nil) (.cons (.sl true (.slice none 0 0) 4 .nil) .nil))), st := some [(0, 1), (1, 1)] }
  | 64 => { sl := some (22, 1, 8, (.pointer none)), ld := some (false, 1), zero := some (.sl true (.slice none 0 0) 1 .nil) }
  | 70 => { ld := some (true, 2), zero := some (.agg (.cons (.val (.int .i64 0)) (.cons (.val (.string ⟨#[]⟩)) .nil))), st := some [(0, 1), (1, 1)] }
  | 72 => { ld := some (true, 2), zero := some (.agg (.cons (.val (.int .i64 0)) (.cons (.sl true (.slice none 0 0) 1 .nil) .nil))), st := some [(0, 1), (1, 1)] }
  | 73 => { sl := some (72, 2, 32, (.agg #[.int .i64 0, .slice none 0 0])), ld := some (false, 1), zero := some (.sl true (.slice none 0 0) 2 .nil) }
  | 74 => { sl := some (80, 4, 64, (.agg #[.int .i64 0, .slice none 0 0, .slice none 0 0, .bool false])), ld := some (false, 1), zero := some (.sl true (.slice none 0 0) 4 .nil) }
  | 76 => { ld := some (true, 3), zero := some (.agg (.cons (.val (.bool false)) (.cons (.sl true (.slice none 0 0) 2 .nil) (.cons (.sl true (.slice none 0 0) 4 .nil) .nil)))), st := some [(0, 1), (1, 1), (2, 1)] }
  | 78 => { ld := some (true, 4), zero := some (.agg (.cons (.val (.int .i64 0)) (.cons (.sl true (.slice none 0 0) 1 .nil) (.cons (.sl true (.slice none 0 0) 1 .nil) (.cons (.val (.bool false)) .nil))))), st := some [(0, 1), (1, 1), (2, 1), (3, 1)] }
  | 80 => { ld := some (true, 4), zero := some (.agg (.cons (.val (.int .i64 0)) (.cons (.sl true (.slice none 0 0) 1 .nil) (.cons (.sl true (.slice none 0 0) 1 .nil) (.cons (.val (.bool false)) .nil))))), st := some [(0, 1), (1, 1), (2, 1), (3, 1)] }
  | 82 => { ld := some (false, 1), zero := some (.val (.pointer none)), ptr := true }
  | 87 => { ld := some (false, 1), zero := some (.val (.pointer none)), ptr := true }
  | _ => {}

theorem tab_1 : tab 1 = { ld := some (false, 1), zero := some (.val (.nilFunc)) } := rfl
theorem tab_2 : tab 2 = { ld := some (false, 1), zero := some (.val (.int .i64 0)), int := some .i64 } := rfl
theorem tab_3 : tab 3 = { ld := some (false, 1), zero := some (.val (.int .i64 0)), int := some .i64 } := rfl
theorem tab_4 : tab 4 = { ld := some (false, 1), zero := some (.val (.bool false)), bool := true } := rfl
theorem tab_9 : tab 9 = { ld := some (false, 1), zero := some (.val (.string ⟨#[]⟩)), str := true } := rfl
theorem tab_15 : tab 15 = { ld := some (false, 1), zero := some (.val (.pointer none)), ptr := true } := rfl
theorem tab_22 : tab 22 = { ld := some (false, 1), zero := some (.val (.pointer none)), ptr := true } := rfl
theorem tab_24 : tab 24 = { ld := some (false, 1), zero := some (.val (.pointer none)), ptr := true } := rfl
theorem tab_26 : tab 26 = { sl := some (9, 1, 16, (.string ⟨#[]⟩)), ld := some (false, 1), zero := some (.sl true (.slice none 0 0) 1 .nil) } := rfl
theorem tab_28 : tab 28 = { ld := some (false, 1), zero := some (.val (.int .u64 0)), int := some .u64 } := rfl
theorem tab_29 : tab 29 = { ld := some (false, 1), zero := some (.val (.int .i64 0)), int := some .i64 } := rfl
theorem tab_37 : tab 37 = { sl := some (40, 4, 40, (.agg #[.int .i64 0, .int .i64 0, .string ⟨#[]⟩, .int .i64 0])), ld := some (false, 1), zero := some (.sl true (.slice none 0 0) 4 .nil) } := rfl
theorem tab_38 : tab 38 = { sl := some (45, 3, 56, (.agg #[.slice none 0 0, .slice none 0 0, .bool false])), ld := some (false, 1), zero := some (.sl true (.slice none 0 0) 3 .nil) } := rfl
theorem tab_40 : tab 40 = { ld := some (true, 4), zero := some (.agg (.cons (.val (.int .i64 0)) (.cons (.val (.int .i64 0)) (.cons (.val (.string ⟨#[]⟩)) (.cons (.val (.int .i64 0)) .nil))))), st := some [(0, 1), (1, 1), (2, 1), (3, 1)] } := rfl
theorem tab_43 : tab 43 = { sl := some (3, 1, 8, (.int .i64 0)), ld := some (false, 1), zero := some (.sl true (.slice none 0 0) 1 .nil) } := rfl
theorem tab_45 : tab 45 = { ld := some (true, 3), zero := some (.agg (.cons (.sl true (.slice none 0 0) 1 .nil) (.cons (.sl true (.slice none 0 0) 1 .nil) (.cons (.val (.bool false)) .nil)))), st := some [(0, 1), (1, 1), (2, 1)] } := rfl
theorem tab_47 : tab 47 = { ld := some (false, 1), zero := some (.val (.pointer none)), ptr := true } := rfl
theorem tab_60 : tab 60 = { sl := some (70, 2, 24, (.agg #[.int .i64 0, .string ⟨#[]⟩])), ld := some (false, 1), zero := some (.sl true (.slice none 0 0) 2 .nil) } := rfl
theorem tab_61 : tab 61 = { sl := some (78, 4, 64, (.agg #[.int .i64 0, .slice none 0 0, .slice none 0 0, .bool false])), ld := some (false, 1), zero := some (.sl true (.slice none 0 0) 4 .nil) } := rfl
theorem tab_63 : tab 63 = { ld := some (true, 2), zero := some (.agg (.cons (.sl true (.slice none 0 0) 2 .nil) (.cons (.sl true (.slice none 0 0) 4 .nil) .nil))), st := some [(0, 1), (1, 1)] } := rfl
theorem tab_64 : tab 64 = { sl := some (22, 1, 8, (.pointer none)), ld := some (false, 1), zero := some (.sl true (.slice none 0 0) 1 .nil) } := rfl
theorem tab_70 : tab 70 = { ld := some (true, 2), zero := some (.agg (.cons (.val (.int .i64 0)) (.cons (.val (.string ⟨#[]⟩)) .nil))), st := some [(0, 1), (1, 1)] } := rfl
theorem tab_72 : tab 72 = { ld := some (true, 2), zero := some (.agg (.cons (.val (.int .i64 0)) (.cons (.sl true (.slice none 0 0) 1 .nil) .nil))), st := some [(0, 1), (1, 1)] } := rfl
theorem tab_73 : tab 73 = { sl := some (72, 2, 32, (.agg #[.int .i64 0, .slice none 0 0])), ld := some (false, 1), zero := some (.sl true (.slice none 0 0) 2 .nil) } := rfl
theorem tab_74 : tab 74 = { sl := some (80, 4, 64, (.agg #[.int .i64 0, .slice none 0 0, .slice none 0 0, .bool false])), ld := some (false, 1), zero := some (.sl true (.slice none 0 0) 4 .nil) } := rfl
theorem tab_76 : tab 76 = { ld := some (true, 3), zero := some (.agg (.cons (.val (.bool false)) (.cons (.sl true (.slice none 0 0) 2 .nil) (.cons (.sl true (.slice none 0 0) 4 .nil) .nil)))), st := some [(0, 1), (1, 1), (2, 1)] } := rfl
theorem tab_78 : tab 78 = { ld := some (true, 4), zero := some (.agg (.cons (.val (.int .i64 0)) (.cons (.sl true (.slice none 0 0) 1 .nil) (.cons (.sl true (.slice none 0 0) 1 .nil) (.cons (.val (.bool false)) .nil))))), st := some [(0, 1), (1, 1), (2, 1), (3, 1)] } := rfl
theorem tab_80 : tab 80 = { ld := some (true, 4), zero := some (.agg (.cons (.val (.int .i64 0)) (.cons (.sl true (.slice none 0 0) 1 .nil) (.cons (.sl true (.slice none 0 0) 1 .nil) (.cons (.val (.bool false)) .nil))))), st := some [(0, 1), (1, 1), (2, 1), (3, 1)] } := rfl
theorem tab_82 : tab 82 = { ld := some (false, 1), zero := some (.val (.pointer none)), ptr := true } := rfl
theorem tab_87 : tab 87 = { ld := some (false, 1), zero := some (.val (.pointer none)), ptr := true } := rfl
set_option linter.defProp false
def tabd_1 := @tab_1
def tabd_2 := @tab_2
def tabd_3 := @tab_3
def tabd_4 := @tab_4
def tabd_9 := @tab_9
def tabd_15 := @tab_15
def tabd_22 := @tab_22
def tabd_24 := @tab_24
def tabd_26 := @tab_26
def tabd_28 := @tab_28
def tabd_29 := @tab_29
def tabd_37 := @tab_37
def tabd_38 := @tab_38
def tabd_40 := @tab_40
def tabd_43 := @tab_43
def tabd_45 := @tab_45
def tabd_47 := @tab_47
def tabd_60 := @tab_60
def tabd_61 := @tab_61
def tabd_63 := @tab_63
def tabd_64 := @tab_64
def tabd_70 := @tab_70
def tabd_72 := @tab_72
def tabd_73 := @tab_73
def tabd_74 := @tab_74
def tabd_76 := @tab_76
def tabd_78 := @tab_78
def tabd_80 := @tab_80
def tabd_82 := @tab_82
def tabd_87 := @tab_87
attribute [simp] tabd_1 tabd_2 tabd_3 tabd_4 tabd_9 tabd_15 tabd_22 tabd_24 tabd_26 tabd_28 tabd_29 tabd_37 tabd_38 tabd_40 tabd_43 tabd_45 tabd_47 tabd_60 tabd_61 tabd_63 tabd_64 tabd_70 tabd_72 tabd_73 tabd_74 tabd_76 tabd_78 tabd_80 tabd_82 tabd_87

theorem tabOk_1 : (tab 1).Ok Try.prog 1 where
  sl := by intro e z b v h; cases h
  ld := by intro b n h; cases h; exact ⟨by kernel_rfl, by kernel_rfl, Try.t1, by kernel_rfl, by kernel_rfl⟩
  zero := by intro g h; cases h; exact ⟨by kernel_rfl, Try.t1, (.nilFunc), by kernel_rfl, by kernel_rfl, by kernel_rfl⟩
  st := by intro l h; cases h
  ar := by intro n z h; cases h
  int := by intro k h; cases h
  ptr := by intro h; cases h
  str := by intro h; cases h
  bool := by intro h; cases h
theorem tabOk_2 : (tab 2).Ok Try.prog 2 where
  sl := by intro e z b v h; cases h
  ld := by intro b n h; cases h; exact ⟨by kernel_rfl, by kernel_rfl, Try.t2, by kernel_rfl, by kernel_rfl⟩
  zero := by intro g h; cases h; exact ⟨by kernel_rfl, Try.t2, (.int .i64 0), by kernel_rfl, by kernel_rfl, by kernel_rfl⟩
  st := by intro l h; cases h
  ar := by intro n z h; cases h
  int := by intro k h; cases h; kernel_rfl
  ptr := by intro h; cases h
  str := by intro h; cases h
  bool := by intro h; cases h
theorem tabOk_3 : (tab 3).Ok Try.prog 3 where
  sl := by intro e z b v h; cases h
  ld := by intro b n h; cases h; exact ⟨by kernel_rfl, by kernel_rfl, Try.t3, by kernel_rfl, by kernel_rfl⟩
  zero := by intro g h; cases h; exact ⟨by kernel_rfl, Try.t3, (.int .i64 0), by kernel_rfl, by kernel_rfl, by kernel_rfl⟩
  st := by intro l h; cases h
  ar := by intro n z h; cases h
  int := by intro k h; cases h; kernel_rfl
  ptr := by intro h; cases h
  str := by intro h; cases h
  bool := by intro h; cases h
theorem tabOk_4 : (tab 4).Ok Try.prog 4 where
  sl := by intro e z b v h; cases h
  ld := by intro b n h; cases h; exact ⟨by kernel_rfl, by kernel_rfl, Try.t4, by kernel_rfl, by kernel_rfl⟩
  zero := by intro g h; cases h; exact ⟨by kernel_rfl, Try.t4, (.bool false), by kernel_rfl, by kernel_rfl, by kernel_rfl⟩
  st := by intro l h; cases h
  ar := by intro n z h; cases h
  int := by intro k h; cases h
  ptr := by intro h; cases h
  str := by intro h; cases h
  bool := by intro _; kernel_rfl
theorem tabOk_9 : (tab 9).Ok Try.prog 9 where
  sl := by intro e z b v h; cases h
  ld := by intro b n h; cases h; exact ⟨by kernel_rfl, by kernel_rfl, Try.t9, by kernel_rfl, by kernel_rfl⟩
  zero := by intro g h; cases h; exact ⟨by kernel_rfl, Try.t9, (.string ⟨#[]⟩), by kernel_rfl, by kernel_rfl, by kernel_rfl⟩
  st := by intro l h; cases h
  ar := by intro n z h; cases h
  int := by intro k h; cases h
  ptr := by intro h; cases h
  str := by intro _; kernel_rfl
  bool := by intro h; cases h
theorem tabOk_15 : (tab 15).Ok Try.prog 15 where
  sl := by intro e z b v h; cases h
  ld := by intro b n h; cases h; exact ⟨by kernel_rfl, by kernel_rfl, Try.t15, by kernel_rfl, by kernel_rfl⟩
  zero := by intro g h; cases h; exact ⟨by kernel_rfl, Try.t15, (.pointer none), by kernel_rfl, by kernel_rfl, by kernel_rfl⟩
  st := by intro l h; cases h
  ar := by intro n z h; cases h
  int := by intro k h; cases h
  ptr := by intro _; exact ⟨100, by kernel_rfl⟩
  str := by intro h; cases h
  bool := by intro h; cases h
theorem tabOk_22 : (tab 22).Ok Try.prog 22 where
  sl := by intro e z b v h; cases h
  ld := by intro b n h; cases h; exact ⟨by kernel_rfl, by kernel_rfl, Try.t22, by kernel_rfl, by kernel_rfl⟩
  zero := by intro g h; cases h; exact ⟨by kernel_rfl, Try.t22, (.pointer none), by kernel_rfl, by kernel_rfl, by kernel_rfl⟩
  st := by intro l h; cases h
  ar := by intro n z h; cases h
  int := by intro k h; cases h
  ptr := by intro _; exact ⟨63, by kernel_rfl⟩
  str := by intro h; cases h
  bool := by intro h; cases h
theorem tabOk_24 : (tab 24).Ok Try.prog 24 where
  sl := by intro e z b v h; cases h
  ld := by intro b n h; cases h; exact ⟨by kernel_rfl, by kernel_rfl, Try.t24, by kernel_rfl, by kernel_rfl⟩
  zero := by intro g h; cases h; exact ⟨by kernel_rfl, Try.t24, (.pointer none), by kernel_rfl, by kernel_rfl, by kernel_rfl⟩
  st := by intro l h; cases h
  ar := by intro n z h; cases h
  int := by intro k h; cases h
  ptr := by intro _; exact ⟨76, by kernel_rfl⟩
  str := by intro h; cases h
  bool := by intro h; cases h
theorem tabOk_26 : (tab 26).Ok Try.prog 26 where
  sl := by intro e z b v h; cases h; exact ⟨by kernel_rfl, Try.t9, by kernel_rfl, by kernel_rfl, by kernel_rfl, by kernel_rfl, by kernel_rfl⟩
  ld := by intro b n h; cases h; exact ⟨by kernel_rfl, by kernel_rfl, Try.t26, by kernel_rfl, by kernel_rfl⟩
  zero := by intro g h; cases h; exact ⟨by kernel_rfl, Try.t26, (.slice none 0 0), by kernel_rfl, by kernel_rfl, by kernel_rfl⟩
  st := by intro l h; cases h
  ar := by intro n z h; cases h
  int := by intro k h; cases h
  ptr := by intro h; cases h
  str := by intro h; cases h
  bool := by intro h; cases h
theorem tabOk_28 : (tab 28).Ok Try.prog 28 where
  sl := by intro e z b v h; cases h
  ld := by intro b n h; cases h; exact ⟨by kernel_rfl, by kernel_rfl, Try.t28, by kernel_rfl, by kernel_rfl⟩
  zero := by intro g h; cases h; exact ⟨by kernel_rfl, Try.t28, (.int .u64 0), by kernel_rfl, by kernel_rfl, by kernel_rfl⟩
  st := by intro l h; cases h
  ar := by intro n z h; cases h
  int := by intro k h; cases h; kernel_rfl
  ptr := by intro h; cases h
  str := by intro h; cases h
  bool := by intro h; cases h
theorem tabOk_29 : (tab 29).Ok Try.prog 29 where
  sl := by intro e z b v h; cases h
  ld := by intro b n h; cases h; exact ⟨by kernel_rfl, by kernel_rfl, Try.t29, by kernel_rfl, by kernel_rfl⟩
  zero := by intro g h; cases h; exact ⟨by kernel_rfl, Try.t29, (.int .i64 0), by kernel_rfl, by kernel_rfl, by kernel_rfl⟩
  st := by intro l h; cases h
  ar := by intro n z h; cases h
  int := by intro k h; cases h; kernel_rfl
  ptr := by intro h; cases h
  str := by intro h; cases h
  bool := by intro h; cases h
theorem tabOk_37 : (tab 37).Ok Try.prog 37 where
  sl := by intro e z b v h; cases h; exact ⟨by kernel_rfl, Try.t40, by kernel_rfl, by kernel_rfl, by kernel_rfl, by kernel_rfl, by kernel_rfl⟩
  ld := by intro b n h; cases h; exact ⟨by kernel_rfl, by kernel_rfl, Try.t37, by kernel_rfl, by kernel_rfl⟩
  zero := by intro g h; cases h; exact ⟨by kernel_rfl, Try.t37, (.slice none 0 0), by kernel_rfl, by kernel_rfl, by kernel_rfl⟩
  st := by intro l h; cases h
  ar := by intro n z h; cases h
  int := by intro k h; cases h
  ptr := by intro h; cases h
  str := by intro h; cases h
  bool := by intro h; cases h
theorem tabOk_38 : (tab 38).Ok Try.prog 38 where
  sl := by intro e z b v h; cases h; exact ⟨by kernel_rfl, Try.t45, by kernel_rfl, by kernel_rfl, by kernel_rfl, by kernel_rfl, by kernel_rfl⟩
  ld := by intro b n h; cases h; exact ⟨by kernel_rfl, by kernel_rfl, Try.t38, by kernel_rfl, by kernel_rfl⟩
  zero := by intro g h; cases h; exact ⟨by kernel_rfl, Try.t38, (.slice none 0 0), by kernel_rfl, by kernel_rfl, by kernel_rfl⟩
  st := by intro l h; cases h
  ar := by intro n z h; cases h
  int := by intro k h; cases h
  ptr := by intro h; cases h
  str := by intro h; cases h
  bool := by intro h; cases h
theorem tabOk_40 : (tab 40).Ok Try.prog 40 where
  sl := by intro e z b v h; cases h
  ld := by intro b n h; cases h; exact ⟨by kernel_rfl, by kernel_rfl, Try.t40, by kernel_rfl, by kernel_rfl⟩
  zero := by intro g h; cases h; exact ⟨by kernel_rfl, Try.t40, (.agg #[.int .i64 0, .int .i64 0, .string ⟨#[]⟩, .int .i64 0]), by kernel_rfl, by kernel_rfl, by kernel_rfl⟩
  st := by intro l h; cases h; exact ⟨_, Try.underlying40, by kernel_rfl, (by exact all_some (by kernel_rfl)), by kernel_rfl⟩
  ar := by intro n z h; cases h
  int := by intro k h; cases h
  ptr := by intro h; cases h
  str := by intro h; cases h
  bool := by intro h; cases h
theorem tabOk_43 : (tab 43).Ok Try.prog 43 where
  sl := by intro e z b v h; cases h; exact ⟨by kernel_rfl, Try.t3, by kernel_rfl, by kernel_rfl, by kernel_rfl, by kernel_rfl, by kernel_rfl⟩
  ld := by intro b n h; cases h; exact ⟨by kernel_rfl, by kernel_rfl, Try.t43, by kernel_rfl, by kernel_rfl⟩
  zero := by intro g h; cases h; exact ⟨by kernel_rfl, Try.t43, (.slice none 0 0), by kernel_rfl, by kernel_rfl, by kernel_rfl⟩
  st := by intro l h; cases h
  ar := by intro n z h; cases h
  int := by intro k h; cases h
  ptr := by intro h; cases h
  str := by intro h; cases h
  bool := by intro h; cases h
theorem tabOk_45 : (tab 45).Ok Try.prog 45 where
  sl := by intro e z b v h; cases h
  ld := by intro b n h; cases h; exact ⟨by kernel_rfl, by kernel_rfl, Try.t45, by kernel_rfl, by kernel_rfl⟩
  zero := by intro g h; cases h; exact ⟨by kernel_rfl, Try.t45, (.agg #[.slice none 0 0, .slice none 0 0, .bool false]), by kernel_rfl, by kernel_rfl, by kernel_rfl⟩
  st := by intro l h; cases h; exact ⟨_, Try.underlying45, by kernel_rfl, (by exact all_some (by kernel_rfl)), by kernel_rfl⟩
  ar := by intro n z h; cases h
  int := by intro k h; cases h
  ptr := by intro h; cases h
  str := by intro h; cases h
  bool := by intro h; cases h
theorem tabOk_47 : (tab 47).Ok Try.prog 47 where
  sl := by intro e z b v h; cases h
  ld := by intro b n h; cases h; exact ⟨by kernel_rfl, by kernel_rfl, Try.t47, by kernel_rfl, by kernel_rfl⟩
  zero := by intro g h; cases h; exact ⟨by kernel_rfl, Try.t47, (.pointer none), by kernel_rfl, by kernel_rfl, by kernel_rfl⟩
  st := by intro l h; cases h
  ar := by intro n z h; cases h
  int := by intro k h; cases h
  ptr := by intro _; exact ⟨38, by kernel_rfl⟩
  str := by intro h; cases h
  bool := by intro h; cases h
theorem tabOk_60 : (tab 60).Ok Try.prog 60 where
  sl := by intro e z b v h; cases h; exact ⟨by kernel_rfl, Try.t70, by kernel_rfl, by kernel_rfl, by kernel_rfl, by kernel_rfl, by kernel_rfl⟩
  ld := by intro b n h; cases h; exact ⟨by kernel_rfl, by kernel_rfl, Try.t60, by kernel_rfl, by kernel_rfl⟩
  zero := by intro g h; cases h; exact ⟨by kernel_rfl, Try.t60, (.slice none 0 0), by kernel_rfl, by kernel_rfl, by kernel_rfl⟩
  st := by intro l h; cases h
  ar := by intro n z h; cases h
  int := by intro k h; cases h
  ptr := by intro h; cases h
  str := by intro h; cases h
  bool := by intro h; cases h
theorem tabOk_61 : (tab 61).Ok Try.prog 61 where
  sl := by intro e z b v h; cases h; exact ⟨by kernel_rfl, Try.t78, by kernel_rfl, by kernel_rfl, by kernel_rfl, by kernel_rfl, by kernel_rfl⟩
  ld := by intro b n h; cases h; exact ⟨by kernel_rfl, by kernel_rfl, Try.t61, by kernel_rfl, by kernel_rfl⟩
  zero := by intro g h; cases h; exact ⟨by kernel_rfl, Try.t61, (.slice none 0 0), by kernel_rfl, by kernel_rfl, by kernel_rfl⟩
  st := by intro l h; cases h
  ar := by intro n z h; cases h
  int := by intro k h; cases h
  ptr := by intro h; cases h
  str := by intro h; cases h
  bool := by intro h; cases h
theorem tabOk_63 : (tab 63).Ok Try.prog 63 where
  sl := by intro e z b v h; cases h
  ld := by intro b n h; cases h; exact ⟨by kernel_rfl, by kernel_rfl, Try.t63, by kernel_rfl, by kernel_rfl⟩
  zero := by intro g h; cases h; exact ⟨by kernel_rfl, Try.t63, (.agg #[.slice none 0 0, .slice none 0 0]), by kernel_rfl, by kernel_rfl, by kernel_rfl⟩
  st := by intro l h; cases h; exact ⟨_, Try.underlying63, by kernel_rfl, (by exact all_some (by kernel_rfl)), by kernel_rfl⟩
  ar := by intro n z h; cases h
  int := by intro k h; cases h
  ptr := by intro h; cases h
  str := by intro h; cases h
  bool := by intro h; cases h
theorem tabOk_64 : (tab 64).Ok Try.prog 64 where
  sl := by intro e z b v h; cases h; exact ⟨by kernel_rfl, Try.t22, by kernel_rfl, by kernel_rfl, by kernel_rfl, by kernel_rfl, by kernel_rfl⟩
  ld := by intro b n h; cases h; exact ⟨by kernel_rfl, by kernel_rfl, Try.t64, by kernel_rfl, by kernel_rfl⟩
  zero := by intro g h; cases h; exact ⟨by kernel_rfl, Try.t64, (.slice none 0 0), by kernel_rfl, by kernel_rfl, by kernel_rfl⟩
  st := by intro l h; cases h
  ar := by intro n z h; cases h
  int := by intro k h; cases h
  ptr := by intro h; cases h
  str := by intro h; cases h
  bool := by intro h; cases h
theorem tabOk_70 : (tab 70).Ok Try.prog 70 where
  sl := by intro e z b v h; cases h
  ld := by intro b n h; cases h; exact ⟨by kernel_rfl, by kernel_rfl, Try.t70, by kernel_rfl, by kernel_rfl⟩
  zero := by intro g h; cases h; exact ⟨by kernel_rfl, Try.t70, (.agg #[.int .i64 0, .string ⟨#[]⟩]), by kernel_rfl, by kernel_rfl, by kernel_rfl⟩
  st := by intro l h; cases h; exact ⟨_, Try.underlying70, by kernel_rfl, (by exact all_some (by kernel_rfl)), by kernel_rfl⟩
  ar := by intro n z h; cases h
  int := by intro k h; cases h
  ptr := by intro h; cases h
  str := by intro h; cases h
  bool := by intro h; cases h
theorem tabOk_72 : (tab 72).Ok Try.prog 72 where
  sl := by intro e z b v h; cases h
  ld := by intro b n h; cases h; exact ⟨by kernel_rfl, by kernel_rfl, Try.t72, by kernel_rfl, by kernel_rfl⟩
  zero := by intro g h; cases h; exact ⟨by kernel_rfl, Try.t72, (.agg #[.int .i64 0, .slice none 0 0]), by kernel_rfl, by kernel_rfl, by kernel_rfl⟩
  st := by intro l h; cases h; exact ⟨_, Try.underlying72, by kernel_rfl, (by exact all_some (by kernel_rfl)), by kernel_rfl⟩
  ar := by intro n z h; cases h
  int := by intro k h; cases h
  ptr := by intro h; cases h
  str := by intro h; cases h
  bool := by intro h; cases h
theorem tabOk_73 : (tab 73).Ok Try.prog 73 where
  sl := by intro e z b v h; cases h; exact ⟨by kernel_rfl, Try.t72, by kernel_rfl, by kernel_rfl, by kernel_rfl, by kernel_rfl, by kernel_rfl⟩
  ld := by intro b n h; cases h; exact ⟨by kernel_rfl, by kernel_rfl, Try.t73, by kernel_rfl, by kernel_rfl⟩
  zero := by intro g h; cases h; exact ⟨by kernel_rfl, Try.t73, (.slice none 0 0), by kernel_rfl, by kernel_rfl, by kernel_rfl⟩
  st := by intro l h; cases h
  ar := by intro n z h; cases h
  int := by intro k h; cases h
  ptr := by intro h; cases h
  str := by intro h; cases h
  bool := by intro h; cases h
theorem tabOk_74 : (tab 74).Ok Try.prog 74 where
  sl := by intro e z b v h; cases h; exact ⟨by kernel_rfl, Try.t80, by kernel_rfl, by kernel_rfl, by kernel_rfl, by kernel_rfl, by kernel_rfl⟩
  ld := by intro b n h; cases h; exact ⟨by kernel_rfl, by kernel_rfl, Try.t74, by kernel_rfl, by kernel_rfl⟩
  zero := by intro g h; cases h; exact ⟨by kernel_rfl, Try.t74, (.slice none 0 0), by kernel_rfl, by kernel_rfl, by kernel_rfl⟩
  st := by intro l h; cases h
  ar := by intro n z h; cases h
  int := by intro k h; cases h
  ptr := by intro h; cases h
  str := by intro h; cases h
  bool := by intro h; cases h
theorem tabOk_76 : (tab 76).Ok Try.prog 76 where
  sl := by intro e z b v h; cases h
  ld := by intro b n h; cases h; exact ⟨by kernel_rfl, by kernel_rfl, Try.t76, by kernel_rfl, by kernel_rfl⟩
  zero := by intro g h; cases h; exact ⟨by kernel_rfl, Try.t76, (.agg #[.bool false, .slice none 0 0, .slice none 0 0]), by kernel_rfl, by kernel_rfl, by kernel_rfl⟩
  st := by intro l h; cases h; exact ⟨_, Try.underlying76, by kernel_rfl, (by exact all_some (by kernel_rfl)), by kernel_rfl⟩
  ar := by intro n z h; cases h
  int := by intro k h; cases h
  ptr := by intro h; cases h
  str := by intro h; cases h
  bool := by intro h; cases h
theorem tabOk_78 : (tab 78).Ok Try.prog 78 where
  sl := by intro e z b v h; cases h
  ld := by intro b n h; cases h; exact ⟨by kernel_rfl, by kernel_rfl, Try.t78, by kernel_rfl, by kernel_rfl⟩
  zero := by intro g h; cases h; exact ⟨by kernel_rfl, Try.t78, (.agg #[.int .i64 0, .slice none 0 0, .slice none 0 0, .bool false]), by kernel_rfl, by kernel_rfl, by kernel_rfl⟩
  st := by intro l h; cases h; exact ⟨_, Try.underlying78, by kernel_rfl, (by exact all_some (by kernel_rfl)), by kernel_rfl⟩
  ar := by intro n z h; cases h
  int := by intro k h; cases h
  ptr := by intro h; cases h
  str := by intro h; cases h
  bool := by intro h; cases h
theorem tabOk_80 : (tab 80).Ok Try.prog 80 where
  sl := by intro e z b v h; cases h
  ld := by intro b n h; cases h; exact ⟨by kernel_rfl, by kernel_rfl, Try.t80, by kernel_rfl, by kernel_rfl⟩
  zero := by intro g h; cases h; exact ⟨by kernel_rfl, Try.t80, (.agg #[.int .i64 0, .slice none 0 0, .slice none 0 0, .bool false]), by kernel_rfl, by kernel_rfl, by kernel_rfl⟩
  st := by intro l h; cases h; exact ⟨_, Try.underlying80, by kernel_rfl, (by exact all_some (by kernel_rfl)), by kernel_rfl⟩
  ar := by intro n z h; cases h
  int := by intro k h; cases h
  ptr := by intro h; cases h
  str := by intro h; cases h
  bool := by intro h; cases h
theorem tabOk_82 : (tab 82).Ok Try.prog 82 where
  sl := by intro e z b v h; cases h
  ld := by intro b n h; cases h; exact ⟨by kernel_rfl, by kernel_rfl, Try.t82, by kernel_rfl, by kernel_rfl⟩
  zero := by intro g h; cases h; exact ⟨by kernel_rfl, Try.t82, (.pointer none), by kernel_rfl, by kernel_rfl, by kernel_rfl⟩
  st := by intro l h; cases h
  ar := by intro n z h; cases h
  int := by intro k h; cases h
  ptr := by intro _; exact ⟨78, by kernel_rfl⟩
  str := by intro h; cases h
  bool := by intro h; cases h
theorem tabOk_87 : (tab 87).Ok Try.prog 87 where
  sl := by intro e z b v h; cases h
  ld := by intro b n h; cases h; exact ⟨by kernel_rfl, by kernel_rfl, Try.t87, by kernel_rfl, by kernel_rfl⟩
  zero := by intro g h; cases h; exact ⟨by kernel_rfl, Try.t87, (.pointer none), by kernel_rfl, by kernel_rfl, by kernel_rfl⟩
  st := by intro l h; cases h
  ar := by intro n z h; cases h
  int := by intro k h; cases h
  ptr := by intro _; exact ⟨80, by kernel_rfl⟩
  str := by intro h; cases h
  bool := by intro h; cases h

theorem tabOk : Tab.Ok Try.prog tab := fun t => by
  unfold tab
  split
  · exact tabOk_1
  · exact tabOk_2
  · exact tabOk_3
  · exact tabOk_4
  · exact tabOk_9
  · exact tabOk_15
  · exact tabOk_22
  · exact tabOk_24
  · exact tabOk_26
  · exact tabOk_28
  · exact tabOk_29
  · exact tabOk_37
  · exact tabOk_38
  · exact tabOk_40
  · exact tabOk_43
  · exact tabOk_45
  · exact tabOk_47
  · exact tabOk_60
  · exact tabOk_61
  · exact tabOk_63
  · exact tabOk_64
  · exact tabOk_70
  · exact tabOk_72
  · exact tabOk_73
  · exact tabOk_74
  · exact tabOk_76
  · exact tabOk_78
  · exact tabOk_80
  · exact tabOk_82
  · exact tabOk_87
  · exact ⟨(by intro e z b v h; cases h), (by intro b n h; cases h), (by intro g h; cases h), (by intro l h; cases h), (by intro n z h; cases h), (by intro k h; cases h), (by intro h; cases h), (by intro h; cases h), (by intro h; cases h)⟩

theorem mixedOk : Try.prog.follows .mixedOrders = true := by kernel_rfl

end Go.Proofs.Ythcndkpkkaphoaa
