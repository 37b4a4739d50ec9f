/- The table of this program's types. -/
import Derived.Test.YthcndkpkkaphoaaK3
import Derived.Test.YthcndkpkkaphoaaProg
import Derived.KernelRfl
namespace Go.Proofs.Ythcndkpkkaphoaa
set_option linter.all false
open Go.Vc Go.Proofs

theorem all_some {l : List Field} (h : l.all (fun f => (Try.prog.info? f.type).isSome) = true) : ∀ f ∈ l, (Try.prog.info? f.type).isSome = true := List.all_eq_true.1 h


noncomputable def tab : Tab := fun t => match t with
  | 1 => { ld := some (false, 1), zero := some (.val (.nilFunc)) }
  | 2 => { ld := some (false, 1), zero := some (.val (.int .i64 0)), int := some .i64 }
  | 3 => { ld := some (false, 1), zero := some (.val (.int .i64 0)), int := some .i64 }
  | 4 => { ld := some (false, 1), zero := some (.val (.bool false)), bool := true }
  | 9 => { ld := some (false, 1), zero := some (.val (.string ⟨#[]⟩)), str := true }
  | 15 => { ld := some (false, 1), zero := some (.val (.pointer none)), ptr := true }
  | 22 => { ld := some (false, 1), zero := some (.val (.pointer none)), ptr := true }
  | 24 => { ld := some (false, 1), zero := some (.val (.pointer none)), ptr := true }
  | 26 => { sl := some (9, 1, 16, (.string ⟨#[]⟩)), ld := some (false, 1), zero := some (.sl true (.slice none 0 0) 1 .nil) }
  | 28 => { ld := some (false, 1), zero := some (.val (.int .u64 0)), int := some .u64 }
  | 29 => { ld := some (false, 1), zero := some (.val (.int .i64 0)), int := some .i64 }
  | 37 => { sl := some (40, 4, 40, (.agg #[.int .i64 0, .int .i64 0, .string ⟨#[]⟩, .int .i64 0])), ld := some (false, 1), zero := some (.sl true (.slice none 0 0) 4 .nil) }
  | 38 => { sl := some (45, 3, 56, (.agg #[.slice none 0 0, .slice none 0 0, .bool false])), ld := some (false, 1), zero := some (.sl true (.slice none 0 0) 3 .nil) }
  | 40 => { ld := some (true, 4), zero := some (.agg (.cons (.val (.int .i64 0)) (.cons (.val (.int .i64 0)) (.cons (.val (.string ⟨#[]⟩)) (.cons (.val (.int .i64 0)) .nil))))), st := some [(0, 1), (1, 1), (2, 1), (3, 1)] }
  | 43 => { sl := some (3, 1, 8, (.int .i64 0)), ld := some (false, 1), zero := some (.sl true (.slice none 0 0) 1 .nil) }
  | 45 => { ld := some (true, 3), zero := some (.agg (.cons (.sl true (.slice none 0 0) 1 .nil) (.cons (.sl true (.slice none 0 0) 1 .nil) (.cons (.val (.bool false)) .nil)))), st := some [(0, 1), (1, 1), (2, 1)] }
  | 47 => { ld := some (false, 1), zero := some (.val (.pointer none)), ptr := true }
  | 60 => { sl := some (70, 2, 24, (.agg #[.int .i64 0, .string ⟨#[]⟩])), ld := some (false, 1), zero := some (.sl true (.slice none 0 0) 2 .nil) }
  | 61 => { sl := some (78, 4, 64, (.agg #[.int .i64 0, .slice none 0 0, .slice none 0 0, .bool false])), ld := some (false, 1), zero := some (.sl true (.slice none 0 0) 4 .nil) }
  | 63 => { ld := some (true, 2), zero := some (.agg (.cons (.sl true (.slice none 0 0) 2 .nil) (.cons (.sl true (.slice none 0 0) 4 .nil) .nil))), st := some [(0, 1), (1, 1)] }
  | 64 => { sl := some (22, 1, 8, (.pointer none)), ld := some (false, 1), zero := some (.sl true (.slice none 0 0) 1 .nil) }
  | 70 => { ld := some (true, 2), zero := some (.agg (.cons (.val (.int .i64 0)) (.cons (.val (.string ⟨#[]⟩)) .nil))), st := some [(0, 1), (1, 1)] }
  | 72 => { ld := some (true, 2), zero := some (.agg (.cons (.val (.int .i64 0)) (.cons (.sl true (.slice none 0 0) 1 .nil) .nil))), st := some [(0, 1), (1, 1)] }
  | 73 => { sl := some (72, 2, 32, (.agg #[.int .i64 0, .slice none 0 0])), ld := some (false, 1), zero := some (.sl true (.slice none 0 0) 2 .nil) }
  | 74 => { sl := some (80, 4, 64, (.agg #[.int .i64 0, .slice none 0 0, .slice none 0 0, .bool false])), ld := some (false, 1), zero := some (.sl true (.slice none 0 0) 4 .nil) }
  | 76 => { ld := some (true, 3), zero := some (.agg (.cons (.val (.bool false)) (.cons (.sl true (.slice none 0 0) 2 .nil) (.cons (.sl true (.slice none 0 0) 4 .nil) .nil)))), st := some [(0, 1), (1, 1), (2, 1)] }
  | 78 => { ld := some (true, 4), zero := some (.agg (.cons (.val (.int .i64 0)) (.cons (.sl true (.slice none 0 0) 1 .nil) (.cons (.sl true (.slice none 0 0) 1 .nil) (.cons (.val (.bool false)) .nil))))), st := some [(0, 1), (1, 1), (2, 1), (3, 1)] }
  | 80 => { ld := some (true, 4), zero := some (.agg (.cons (.val (.int .i64 0)) (.cons (.sl true (.slice none 0 0) 1 .nil) (.cons (.sl true (.slice none 0 0) 1 .nil) (.cons (.val (.bool false)) .nil))))), st := some [(0, 1), (1, 1), (2, 1), (3, 1)] }
  | 82 => { ld := some (false, 1), zero := some (.val (.pointer none)), ptr := true }
  | 87 => { ld := some (false, 1), zero := some (.val (.pointer none)), ptr := true }
  | _ => {}

theorem tab_1 : tab 1 = { ld := some (false, 1), zero := some (.val (.nilFunc)) } := rfl
theorem tab_2 : tab 2 = { ld := some (false, 1), zero := some (.val (.int .i64 0)), int := some .i64 } := rfl
theorem tab_3 : tab 3 = { ld := some (false, 1), zero := some (.val (.int .i64 0)), int := some .i64 } := rfl
theorem tab_4 : tab 4 = { ld := some (false, 1), zero := some (.val (.bool false)), bool := true } := rfl
theorem tab_9 : tab 9 = { ld := some (false, 1), zero := some (.val (.string ⟨#[]⟩)), str := true } := rfl
theorem tab_15 : tab 15 = { ld := some (false, 1), zero := some (.val (.pointer none)), ptr := true } := rfl
theorem tab_22 : tab 22 = { ld := some (false, 1), zero := some (.val (.pointer none)), ptr := true } := rfl
theorem tab_24 : tab 24 = { ld := some (false, 1), zero := some (.val (.pointer none)), ptr := true } := rfl
theorem tab_26 : tab 26 = { sl := some (9, 1, 16, (.string ⟨#[]⟩)), ld := some (false, 1), zero := some (.sl true (.slice none 0 0) 1 .nil) } := rfl
theorem tab_28 : tab 28 = { ld := some (false, 1), zero := some (.val (.int .u64 0)), int := some .u64 } := rfl
theorem tab_29 : tab 29 = { ld := some (false, 1), zero := some (.val (.int .i64 0)), int := some .i64 } := rfl
theorem tab_37 : tab 37 = { sl := some (40, 4, 40, (.agg #[.int .i64 0, .int .i64 0, .string ⟨#[]⟩, .int .i64 0])), ld := some (false, 1), zero := some (.sl true (.slice none 0 0) 4 .nil) } := rfl
theorem tab_38 : tab 38 = { sl := some (45, 3, 56, (.agg #[.slice none 0 0, .slice none 0 0, .bool false])), ld := some (false, 1), zero := some (.sl true (.slice none 0 0) 3 .nil) } := rfl
theorem tab_40 : tab 40 = { ld := some (true, 4), zero := some (.agg (.cons (.val (.int .i64 0)) (.cons (.val (.int .i64 0)) (.cons (.val (.string ⟨#[]⟩)) (.cons (.val (.int .i64 0)) .nil))))), st := some [(0, 1), (1, 1), (2, 1), (3, 1)] } := rfl
theorem tab_43 : tab 43 = { sl := some (3, 1, 8, (.int .i64 0)), ld := some (false, 1), zero := some (.sl true (.slice none 0 0) 1 .nil) } := rfl
theorem tab_45 : tab 45 = { ld := some (true, 3), zero := some (.agg (.cons (.sl true (.slice none 0 0) 1 .nil) (.cons (.sl true (.slice none 0 0) 1 .nil) (.cons (.val (.bool false)) .nil)))), st := some [(0, 1), (1, 1), (2, 1)] } := rfl
theorem tab_47 : tab 47 = { ld := some (false, 1), zero := some (.val (.pointer none)), ptr := true } := rfl
theorem tab_60 : tab 60 = { sl := some (70, 2, 24, (.agg #[.int .i64 0, .string ⟨#[]⟩])), ld := some (false, 1), zero := some (.sl true (.slice none 0 0) 2 .nil) } := rfl
theorem tab_61 : tab 61 = { sl := some (78, 4, 64, (.agg #[.int .i64 0, .slice none 0 0, .slice none 0 0, .bool false])), ld := some (false, 1), zero := some (.sl true (.slice none 0 0) 4 .nil) } := rfl
theorem tab_63 : tab 63 = { ld := some (true, 2), zero := some (.agg (.cons (.sl true (.slice none 0 0) 2 .nil) (.cons (.sl true (.slice none 0 0) 4 .nil) .nil))), st := some [(0, 1), (1, 1)] } := rfl
theorem tab_64 : tab 64 = { sl := some (22, 1, 8, (.pointer none)), ld := some (false, 1), zero := some (.sl true (.slice none 0 0) 1 .nil) } := rfl
theorem tab_70 : tab 70 = { ld := some (true, 2), zero := some (.agg (.cons (.val (.int .i64 0)) (.cons (.val (.string ⟨#[]⟩)) .nil))), st := some [(0, 1), (1, 1)] } := rfl
theorem tab_72 : tab 72 = { ld := some (true, 2), zero := some (.agg (.cons (.val (.int .i64 0)) (.cons (.sl true (.slice none 0 0) 1 .nil) .nil))), st := some [(0, 1), (1, 1)] } := rfl
theorem tab_73 : tab 73 = { sl := some (72, 2, 32, (.agg #[.int .i64 0, .slice none 0 0])), ld := some (false, 1), zero := some (.sl true (.slice none 0 0) 2 .nil) } := rfl
theorem tab_74 : tab 74 = { sl := some (80, 4, 64, (.agg #[.int .i64 0, .slice none 0 0, .slice none 0 0, .bool false])), ld := some (false, 1), zero := some (.sl true (.slice none 0 0) 4 .nil) } := rfl
theorem tab_76 : tab 76 = { ld := some (true, 3), zero := some (.agg (.cons (.val (.bool false)) (.cons (.sl true (.slice none 0 0) 2 .nil) (.cons (.sl true (.slice none 0 0) 4 .nil) .nil)))), st := some [(0, 1), (1, 1), (2, 1)] } := rfl
theorem tab_78 : tab 78 = { ld := some (true, 4), zero := some (.agg (.cons (.val (.int .i64 0)) (.cons (.sl true (.slice none 0 0) 1 .nil) (.cons (.sl true (.slice none 0 0) 1 .nil) (.cons (.val (.bool false)) .nil))))), st := some [(0, 1), (1, 1), (2, 1), (3, 1)] } := rfl
theorem tab_80 : tab 80 = { ld := some (true, 4), zero := some (.agg (.cons (.val (.int .i64 0)) (.cons (.sl true (.slice none 0 0) 1 .nil) (.cons (.sl true (.slice none 0 0) 1 .nil) (.cons (.val (.bool false)) .nil))))), st := some [(0, 1), (1, 1), (2, 1), (3, 1)] } := rfl
theorem tab_82 : tab 82 = { ld := some (false, 1), zero := some (.val (.pointer none)), ptr := true } := rfl
theorem tab_87 : tab 87 = { ld := some (false, 1), zero := some (.val (.pointer none)), ptr := true } := rfl
set_option linter.defProp false
def tabd_1 := @tab_1
def tabd_2 := @tab_2
def tabd_3 := @tab_3
def tabd_4 := @tab_4
def tabd_9 := @tab_9
def tabd_15 := @tab_15
def tabd_22 := @tab_22
def tabd_24 := @tab_24
def tabd_26 := @tab_26
def tabd_28 := @tab_28
def tabd_29 := @tab_29
def tabd_37 := @tab_37
def tabd_38 := @tab_38
def tabd_40 := @tab_40
def tabd_43 := @tab_43
def tabd_45 := @tab_45
def tabd_47 := @tab_47
def tabd_60 := @tab_60
def tabd_61 := @tab_61
def tabd_63 := @tab_63
def tabd_64 := @tab_64
def tabd_70 := @tab_70
def tabd_72 := @tab_72
def tabd_73 := @tab_73
def tabd_74 := @tab_74
def tabd_76 := @tab_76
def tabd_78 := @tab_78
def tabd_80 := @tab_80
def tabd_82 := @tab_82
def tabd_87 := @tab_87
attribute [simp] tabd_1 tabd_2 tabd_3 tabd_4 tabd_9 tabd_15 tabd_22 tabd_24 tabd_26 tabd_28 tabd_29 tabd_37 tabd_38 tabd_40 tabd_43 tabd_45 tabd_47 tabd_60 tabd_61 tabd_63 tabd_64 tabd_70 tabd_72 tabd_73 tabd_74 tabd_76 tabd_78 tabd_80 tabd_82 tabd_87

theorem tabOk_1 : (tab 1).Ok Try.prog 1 where
  sl := by intro e z b v h; cases h
  ld := by intro b n h; cases h; exact ⟨by kernel_rfl, by kernel_rfl, Try.t1, by kernel_rfl, by kernel_rfl⟩
  zero := by intro g h; cases h; exact ⟨by kernel_rfl, Try.t1, (.nilFunc), by kernel_rfl, by kernel_rfl, by kernel_rfl⟩
  st := by intro l h; cases h
  ar := by intro n z h; cases h
  int := by intro k h; cases h
  ptr := by intro h; cases h
  str := by intro h; cases h
  bool := by intro h; cases h
theorem tabOk_2 : (tab 2).Ok Try.prog 2 where
  sl := by intro e z b v h; cases h
  ld := by intro b n h; cases h; exact ⟨by kernel_rfl, by kernel_rfl, Try.t2, by kernel_rfl, by kernel_rfl⟩
  zero := by intro g h; cases h; exact ⟨by kernel_rfl, Try.t2, (.int .i64 0), by kernel_rfl, by kernel_rfl, by kernel_rfl⟩
  st := by intro l h; cases h
  ar := by intro n z h; cases h
  int := by intro k h; cases h; kernel_rfl
  ptr := by intro h; cases h
  str := by intro h; cases h
  bool := by intro h; cases h
theorem tabOk_3 : (tab 3).Ok Try.prog 3 where
  sl := by intro e z b v h; cases h
  ld := by intro b n h; cases h; exact ⟨by kernel_rfl, by kernel_rfl, Try.t3, by kernel_rfl, by kernel_rfl⟩
  zero := by intro g h; cases h; exact ⟨by kernel_rfl, Try.t3, (.int .i64 0), by kernel_rfl, by kernel_rfl, by kernel_rfl⟩
  st := by intro l h; cases h
  ar := by intro n z h; cases h
  int := by intro k h; cases h; kernel_rfl
  ptr := by intro h; cases h
  str := by intro h; cases h
  bool := by intro h; cases h
theorem tabOk_4 : (tab 4).Ok Try.prog 4 where
  sl := by intro e z b v h; cases h
  ld := by intro b n h; cases h; exact ⟨by kernel_rfl, by kernel_rfl, Try.t4, by kernel_rfl, by kernel_rfl⟩
  zero := by intro g h; cases h; exact ⟨by kernel_rfl, Try.t4, (.bool false), by kernel_rfl, by kernel_rfl, by kernel_rfl⟩
  st := by intro l h; cases h
  ar := by intro n z h; cases h
  int := by intro k h; cases h
  ptr := by intro h; cases h
  str := by intro h; cases h
  bool := by intro _; kernel_rfl
theorem tabOk_9 : (tab 9).Ok Try.prog 9 where
  sl := by intro e z b v h; cases h
  ld := by intro b n h; cases h; exact ⟨by kernel_rfl, by kernel_rfl, Try.t9, by kernel_rfl, by kernel_rfl⟩
  zero := by intro g h; cases h; exact ⟨by kernel_rfl, Try.t9, (.string ⟨#[]⟩), by kernel_rfl, by kernel_rfl, by kernel_rfl⟩
  st := by intro l h; cases h
  ar := by intro n z h; cases h
  int := by intro k h; cases h
  ptr := by intro h; cases h
  str := by intro _; kernel_rfl
  bool := by intro h; cases h
theorem tabOk_15 : (tab 15).Ok Try.prog 15 where
  sl := by intro e z b v h; cases h
  ld := by intro b n h; cases h; exact ⟨by kernel_rfl, by kernel_rfl, Try.t15, by kernel_rfl, by kernel_rfl⟩
  zero := by intro g h; cases h; exact ⟨by kernel_rfl, Try.t15, (.pointer none), by kernel_rfl, by kernel_rfl, by kernel_rfl⟩
  st := by intro l h; cases h
  ar := by intro n z h; cases h
  int := by intro k h; cases h
  ptr := by intro _; exact ⟨100, by kernel_rfl⟩
  str := by intro h; cases h
  bool := by intro h; cases h
theorem tabOk_22 : (tab 22).Ok Try.prog 22 where
  sl := by intro e z b v h; cases h
  ld := by intro b n h; cases h; exact ⟨by kernel_rfl, by kernel_rfl, Try.t22, by kernel_rfl, by kernel_rfl⟩
  zero := by intro g h; cases h; exact ⟨by kernel_rfl, Try.t22, (.pointer none), by kernel_rfl, by kernel_rfl, by kernel_rfl⟩
  st := by intro l h; cases h
  ar := by intro n z h; cases h
  int := by intro k h; cases h
  ptr := by intro _; exact ⟨63, by kernel_rfl⟩
  str := by intro h; cases h
  bool := by intro h; cases h
theorem tabOk_24 : (tab 24).Ok Try.prog 24 where
  sl := by intro e z b v h; cases h
  ld := by intro b n h; cases h; exact ⟨by kernel_rfl, by kernel_rfl, Try.t24, by kernel_rfl, by kernel_rfl⟩
  zero := by intro g h; cases h; exact ⟨by kernel_rfl, Try.t24, (.pointer none), by kernel_rfl, by kernel_rfl, by kernel_rfl⟩
  st := by intro l h; cases h
  ar := by intro n z h; cases h
  int := by intro k h; cases h
  ptr := by intro _; exact ⟨76, by kernel_rfl⟩
  str := by intro h; cases h
  bool := by intro h; cases h
theorem tabOk_26 : (tab 26).Ok Try.prog 26 where
  sl := by intro e z b v h; cases h; exact ⟨by kernel_rfl, Try.t9, by kernel_rfl, by kernel_rfl, by kernel_rfl, by kernel_rfl, by kernel_rfl⟩
  ld := by intro b n h; cases h; exact ⟨by kernel_rfl, by kernel_rfl, Try.t26, by kernel_rfl, by kernel_rfl⟩
  zero := by intro g h; cases h; exact ⟨by kernel_rfl, Try.t26, (.slice none 0 0), by kernel_rfl, by kernel_rfl, by kernel_rfl⟩
  st := by intro l h; cases h
  ar := by intro n z h; cases h
  int := by intro k h; cases h
  ptr := by intro h; cases h
  str := by intro h; cases h
  bool := by intro h; cases h
theorem tabOk_28 : (tab 28).Ok Try.prog 28 where
  sl := by intro e z b v h; cases h
  ld := by intro b n h; cases h; exact ⟨by kernel_rfl, by kernel_rfl, Try.t28, by kernel_rfl, by kernel_rfl⟩
  zero := by intro g h; cases h; exact ⟨by kernel_rfl, Try.t28, (.int .u64 0), by kernel_rfl, by kernel_rfl, by kernel_rfl⟩
  st := by intro l h; cases h
  ar := by intro n z h; cases h
  int := by intro k h; cases h; kernel_rfl
  ptr := by intro h; cases h
  str := by intro h; cases h
  bool := by intro h; cases h
theorem tabOk_29 : (tab 29).Ok Try.prog 29 where
  sl := by intro e z b v h; cases h
  ld := by intro b n h; cases h; exact ⟨by kernel_rfl, by kernel_rfl, Try.t29, by kernel_rfl, by kernel_rfl⟩
  zero := by intro g h; cases h; exact ⟨by kernel_rfl, Try.t29, (.int .i64 0), by kernel_rfl, by kernel_rfl, by kernel_rfl⟩
  st := by intro l h; cases h
  ar := by intro n z h; cases h
  int := by intro k h; cases h; kernel_rfl
  ptr := by intro h; cases h
  str := by intro h; cases h
  bool := by intro h; cases h
theorem tabOk_37 : (tab 37).Ok Try.prog 37 where
  sl := by intro e z b v h; cases h; exact ⟨by kernel_rfl, Try.t40, by kernel_rfl, by kernel_rfl, by kernel_rfl, by kernel_rfl, by kernel_rfl⟩
  ld := by intro b n h; cases h; exact ⟨by kernel_rfl, by kernel_rfl, Try.t37, by kernel_rfl, by kernel_rfl⟩
  zero := by intro g h; cases h; exact ⟨by kernel_rfl, Try.t37, (.slice none 0 0), by kernel_rfl, by kernel_rfl, by kernel_rfl⟩
  st := by intro l h; cases h
  ar := by intro n z h; cases h
  int := by intro k h; cases h
  ptr := by intro h; cases h
  str := by intro h; cases h
  bool := by intro h; cases h
theorem tabOk_38 : (tab 38).Ok Try.prog 38 where
  sl := by intro e z b v h; cases h; exact ⟨by kernel_rfl, Try.t45, by kernel_rfl, by kernel_rfl, by kernel_rfl, by kernel_rfl, by kernel_rfl⟩
  ld := by intro b n h; cases h; exact ⟨by kernel_rfl, by kernel_rfl, Try.t38, by kernel_rfl, by kernel_rfl⟩
  zero := by intro g h; cases h; exact ⟨by kernel_rfl, Try.t38, (.slice none 0 0), by kernel_rfl, by kernel_rfl, by kernel_rfl⟩
  st := by intro l h; cases h
  ar := by intro n z h; cases h
  int := by intro k h; cases h
  ptr := by intro h; cases h
  str := by intro h; cases h
  bool := by intro h; cases h
theorem tabOk_40 : (tab 40).Ok Try.prog 40 where
  sl := by intro e z b v h; cases h
  ld := by intro b n h; cases h; exact ⟨by kernel_rfl, by kernel_rfl, Try.t40, by kernel_rfl, by kernel_rfl⟩
  zero := by intro g h; cases h; exact ⟨by kernel_rfl, Try.t40, (.agg #[.int .i64 0, .int .i64 0, .string ⟨#[]⟩, .int .i64 0]), by kernel_rfl, by kernel_rfl, by kernel_rfl⟩
  st := by intro l h; cases h; exact ⟨_, Try.underlying40, by kernel_rfl, (by exact all_some (by kernel_rfl)), by kernel_rfl⟩
  ar := by intro n z h; cases h
  int := by intro k h; cases h
  ptr := by intro h; cases h
  str := by intro h; cases h
  bool := by intro h; cases h
theorem tabOk_43 : (tab 43).Ok Try.prog 43 where
  sl := by intro e z b v h; cases h; exact ⟨by kernel_rfl, Try.t3, by kernel_rfl, by kernel_rfl, by kernel_rfl, by kernel_rfl, by kernel_rfl⟩
  ld := by intro b n h; cases h; exact ⟨by kernel_rfl, by kernel_rfl, Try.t43, by kernel_rfl, by kernel_rfl⟩
  zero := by intro g h; cases h; exact ⟨by kernel_rfl, Try.t43, (.slice none 0 0), by kernel_rfl, by kernel_rfl, by kernel_rfl⟩
  st := by intro l h; cases h
  ar := by intro n z h; cases h
  int := by intro k h; cases h
  ptr := by intro h; cases h
  str := by intro h; cases h
  bool := by intro h; cases h
theorem tabOk_45 : (tab 45).Ok Try.prog 45 where
  sl := by intro e z b v h; cases h
  ld := by intro b n h; cases h; exact ⟨by kernel_rfl, by kernel_rfl, Try.t45, by kernel_rfl, by kernel_rfl⟩
  zero := by intro g h; cases h; exact ⟨by kernel_rfl, Try.t45, (.agg #[.slice none 0 0, .slice none 0 0, .bool false]), by kernel_rfl, by kernel_rfl, by kernel_rfl⟩
  st := by intro l h; cases h; exact ⟨_, Try.underlying45, by kernel_rfl, (by exact all_some (by kernel_rfl)), by kernel_rfl⟩
  ar := by intro n z h; cases h
  int := by intro k h; cases h
  ptr := by intro h; cases h
  str := by intro h; cases h
  bool := by intro h; cases h
theorem tabOk_47 : (tab 47).Ok Try.prog 47 where
  sl := by intro e z b v h; cases h
  ld := by intro b n h; cases h; exact ⟨by kernel_rfl, by kernel_rfl, Try.t47, by kernel_rfl, by kernel_rfl⟩
  zero := by intro g h; cases h; exact ⟨by kernel_rfl, Try.t47, (.pointer none), by kernel_rfl, by kernel_rfl, by kernel_rfl⟩
  st := by intro l h; cases h
  ar := by intro n z h; cases h
  int := by intro k h; cases h
  ptr := by intro _; exact ⟨38, by kernel_rfl⟩
  str := by intro h; cases h
  bool := by intro h; cases h
theorem tabOk_60 : (tab 60).Ok Try.prog 60 where
  sl := by intro e z b v h; cases h; exact ⟨by kernel_rfl, Try.t70, by kernel_rfl, by kernel_rfl, by kernel_rfl, by kernel_rfl, by kernel_rfl⟩
  ld := by intro b n h; cases h; exact ⟨by kernel_rfl, by kernel_rfl, Try.t60, by kernel_rfl, by kernel_rfl⟩
  zero := by intro g h; cases h; exact ⟨by kernel_rfl, Try.t60, (.slice none 0 0), by kernel_rfl, by kernel_rfl, by kernel_rfl⟩
  st := by intro l h; cases h
  ar := by intro n z h; cases h
  int := by intro k h; cases h
  ptr := by intro h; cases h
  str := by intro h; cases h
  bool := by intro h; cases h
theorem tabOk_61 : (tab 61).Ok Try.prog 61 where
  sl := by intro e z b v h; cases h; exact ⟨by kernel_rfl, Try.t78, by kernel_rfl, by kernel_rfl, by kernel_rfl, by kernel_rfl, by kernel_rfl⟩
  ld := by intro b n h; cases h; exact ⟨by kernel_rfl, by kernel_rfl, Try.t61, by kernel_rfl, by kernel_rfl⟩
  zero := by intro g h; cases h; exact ⟨by kernel_rfl, Try.t61, (.slice none 0 0), by kernel_rfl, by kernel_rfl, by kernel_rfl⟩
  st := by intro l h; cases h
  ar := by intro n z h; cases h
  int := by intro k h; cases h
  ptr := by intro h; cases h
  str := by intro h; cases h
  bool := by intro h; cases h
theorem tabOk_63 : (tab 63).Ok Try.prog 63 where
  sl := by intro e z b v h; cases h
  ld := by intro b n h; cases h; exact ⟨by kernel_rfl, by kernel_rfl, Try.t63, by kernel_rfl, by kernel_rfl⟩
  zero := by intro g h; cases h; exact ⟨by kernel_rfl, Try.t63, (.agg #[.slice none 0 0, .slice none 0 0]), by kernel_rfl, by kernel_rfl, by kernel_rfl⟩
  st := by intro l h; cases h; exact ⟨_, Try.underlying63, by kernel_rfl, (by exact all_some (by kernel_rfl)), by kernel_rfl⟩
  ar := by intro n z h; cases h
  int := by intro k h; cases h
  ptr := by intro h; cases h
  str := by intro h; cases h
  bool := by intro h; cases h
theorem tabOk_64 : (tab 64).Ok Try.prog 64 where
  sl := by intro e z b v h; cases h; exact ⟨by kernel_rfl, Try.t22, by kernel_rfl, by kernel_rfl, by kernel_rfl, by kernel_rfl, by kernel_rfl⟩
  ld := by intro b n h; cases h; exact ⟨by kernel_rfl, by kernel_rfl, Try.t64, by kernel_rfl, by kernel_rfl⟩
  zero := by intro g h; cases h; exact ⟨by kernel_rfl, Try.t64, (.slice none 0 0), by kernel_rfl, by kernel_rfl, by kernel_rfl⟩
  st := by intro l h; cases h
  ar := by intro n z h; cases h
  int := by intro k h; cases h
  ptr := by intro h; cases h
  str := by intro h; cases h
  bool := by intro h; cases h
theorem tabOk_70 : (tab 70).Ok Try.prog 70 where
  sl := by intro e z b v h; cases h
  ld := by intro b n h; cases h; exact ⟨by kernel_rfl, by kernel_rfl, Try.t70, by kernel_rfl, by kernel_rfl⟩
  zero := by intro g h; cases h; exact ⟨by kernel_rfl, Try.t70, (.agg #[.int .i64 0, .string ⟨#[]⟩]), by kernel_rfl, by kernel_rfl, by kernel_rfl⟩
  st := by intro l h; cases h; exact ⟨_, Try.underlying70, by kernel_rfl, (by exact all_some (by kernel_rfl)), by kernel_rfl⟩
  ar := by intro n z h; cases h
  int := by intro k h; cases h
  ptr := by intro h; cases h
  str := by intro h; cases h
  bool := by intro h; cases h
theorem tabOk_72 : (tab 72).Ok Try.prog 72 where
  sl := by intro e z b v h; cases h
  ld := by intro b n h; cases h; exact ⟨by kernel_rfl, by kernel_rfl, Try.t72, by kernel_rfl, by kernel_rfl⟩
  zero := by intro g h; cases h; exact ⟨by kernel_rfl, Try.t72, (.agg #[.int .i64 0, .slice none 0 0]), by kernel_rfl, by kernel_rfl, by kernel_rfl⟩
  st := by intro l h; cases h; exact ⟨_, Try.underlying72, by kernel_rfl, (by exact all_some (by kernel_rfl)), by kernel_rfl⟩
  ar := by intro n z h; cases h
  int := by intro k h; cases h
  ptr := by intro h; cases h
  str := by intro h; cases h
  bool := by intro h; cases h
theorem tabOk_73 : (tab 73).Ok Try.prog 73 where
  sl := by intro e z b v h; cases h; exact ⟨by kernel_rfl, Try.t72, by kernel_rfl, by kernel_rfl, by kernel_rfl, by kernel_rfl, by kernel_rfl⟩
  ld := by intro b n h; cases h; exact ⟨by kernel_rfl, by kernel_rfl, Try.t73, by kernel_rfl, by kernel_rfl⟩
  zero := by intro g h; cases h; exact ⟨by kernel_rfl, Try.t73, (.slice none 0 0), by kernel_rfl, by kernel_rfl, by kernel_rfl⟩
  st := by intro l h; cases h
  ar := by intro n z h; cases h
  int := by intro k h; cases h
  ptr := by intro h; cases h
  str := by intro h; cases h
  bool := by intro h; cases h
theorem tabOk_74 : (tab 74).Ok Try.prog 74 where
  sl := by intro e z b v h; cases h; exact ⟨by kernel_rfl, Try.t80, by kernel_rfl, by kernel_rfl, by kernel_rfl, by kernel_rfl, by kernel_rfl⟩
  ld := by intro b n h; cases h; exact ⟨by kernel_rfl, by kernel_rfl, Try.t74, by kernel_rfl, by kernel_rfl⟩
  zero := by intro g h; cases h; exact ⟨by kernel_rfl, Try.t74, (.slice none 0 0), by kernel_rfl, by kernel_rfl, by kernel_rfl⟩
  st := by intro l h; cases h
  ar := by intro n z h; cases h
  int := by intro k h; cases h
  ptr := by intro h; cases h
  str := by intro h; cases h
  bool := by intro h; cases h
theorem tabOk_76 : (tab 76).Ok Try.prog 76 where
  sl := by intro e z b v h; cases h
  ld := by intro b n h; cases h; exact ⟨by kernel_rfl, by kernel_rfl, Try.t76, by kernel_rfl, by kernel_rfl⟩
  zero := by intro g h; cases h; exact ⟨by kernel_rfl, Try.t76, (.agg #[.bool false, .slice none 0 0, .slice none 0 0]), by kernel_rfl, by kernel_rfl, by kernel_rfl⟩
  st := by intro l h; cases h; exact ⟨_, Try.underlying76, by kernel_rfl, (by exact all_some (by kernel_rfl)), by kernel_rfl⟩
  ar := by intro n z h; cases h
  int := by intro k h; cases h
  ptr := by intro h; cases h
  str := by intro h; cases h
  bool := by intro h; cases h
theorem tabOk_78 : (tab 78).Ok Try.prog 78 where
  sl := by intro e z b v h; cases h
  ld := by intro b n h; cases h; exact ⟨by kernel_rfl, by kernel_rfl, Try.t78, by kernel_rfl, by kernel_rfl⟩
  zero := by intro g h; cases h; exact ⟨by kernel_rfl, Try.t78, (.agg #[.int .i64 0, .slice none 0 0, .slice none 0 0, .bool false]), by kernel_rfl, by kernel_rfl, by kernel_rfl⟩
  st := by intro l h; cases h; exact ⟨_, Try.underlying78, by kernel_rfl, (by exact all_some (by kernel_rfl)), by kernel_rfl⟩
  ar := by intro n z h; cases h
  int := by intro k h; cases h
  ptr := by intro h; cases h
  str := by intro h; cases h
  bool := by intro h; cases h
theorem tabOk_80 : (tab 80).Ok Try.prog 80 where
  sl := by intro e z b v h; cases h
  ld := by intro b n h; cases h; exact ⟨by kernel_rfl, by kernel_rfl, Try.t80, by kernel_rfl, by kernel_rfl⟩
  zero := by intro g h; cases h; exact ⟨by kernel_rfl, Try.t80, (.agg #[.int .i64 0, .slice none 0 0, .slice none 0 0, .bool false]), by kernel_rfl, by kernel_rfl, by kernel_rfl⟩
  st := by intro l h; cases h; exact ⟨_, Try.underlying80, by kernel_rfl, (by exact all_some (by kernel_rfl)), by kernel_rfl⟩
  ar := by intro n z h; cases h
  int := by intro k h; cases h
  ptr := by intro h; cases h
  str := by intro h; cases h
  bool := by intro h; cases h
theorem tabOk_82 : (tab 82).Ok Try.prog 82 where
  sl := by intro e z b v h; cases h
  ld := by intro b n h; cases h; exact ⟨by kernel_rfl, by kernel_rfl, Try.t82, by kernel_rfl, by kernel_rfl⟩
  zero := by intro g h; cases h; exact ⟨by kernel_rfl, Try.t82, (.pointer none), by kernel_rfl, by kernel_rfl, by kernel_rfl⟩
  st := by intro l h; cases h
  ar := by intro n z h; cases h
  int := by intro k h; cases h
  ptr := by intro _; exact ⟨78, by kernel_rfl⟩
  str := by intro h; cases h
  bool := by intro h; cases h
theorem tabOk_87 : (tab 87).Ok Try.prog 87 where
  sl := by intro e z b v h; cases h
  ld := by intro b n h; cases h; exact ⟨by kernel_rfl, by kernel_rfl, Try.t87, by kernel_rfl, by kernel_rfl⟩
  zero := by intro g h; cases h; exact ⟨by kernel_rfl, Try.t87, (.pointer none), by kernel_rfl, by kernel_rfl, by kernel_rfl⟩
  st := by intro l h; cases h
  ar := by intro n z h; cases h
  int := by intro k h; cases h
  ptr := by intro _; exact ⟨80, by kernel_rfl⟩
  str := by intro h; cases h
  bool := by intro h; cases h

theorem tabOk : Tab.Ok Try.prog tab := fun t => by
  unfold tab
  split
  · exact tabOk_1
  · exact tabOk_2
  · exact tabOk_3
  · exact tabOk_4
  · exact tabOk_9
  · exact tabOk_15
  · exact tabOk_22
  · exact tabOk_24
  · exact tabOk_26
  · exact tabOk_28
  · exact tabOk_29
  · exact tabOk_37
  · exact tabOk_38
  · exact tabOk_40
  · exact tabOk_43
  · exact tabOk_45
  · exact tabOk_47
  · exact tabOk_60
  · exact tabOk_61
  · exact tabOk_63
  · exact tabOk_64
  · exact tabOk_70
  · exact tabOk_72
  · exact tabOk_73
  · exact tabOk_74
  · exact tabOk_76
  · exact tabOk_78
  · exact tabOk_80
  · exact tabOk_82
  · exact tabOk_87
  · exact ⟨(by intro e z b v h; cases h), (by intro b n h; cases h), (by intro g h; cases h), (by intro l h; cases h), (by intro n z h; cases h), (by intro k h; cases h), (by intro h; cases h), (by intro h; cases h), (by intro h; cases h)⟩

theorem mixedOk : Try.prog.follows .mixedOrders = true := by kernel_rfl

end Go.Proofs.Ythcndkpkkaphoaa

/- The data: an abstract space (shapes with all their names, objects with names and words), and how both packages lay it. -/
namespace Go.Proofs.Ythcndkpkkaphoaa
set_option linter.all false
open Go.Vc Go.Proofs

structure Sh where
  parent : Int
  names : List ByteArray

structure Ob where
  shape : Int
  names : List ByteArray
  words : List Int
  frozen : Bool

structure Sp where
  shapes : List Sh
  objs : List Ob

abbrev noName : ByteArray := ⟨#[]⟩

def lastName (l : List ByteArray) : ByteArray := l.getLastD noName

def realB (S : Sp) : Bool := decide (0 < S.shapes.length)
def hasB (S : Sp) (o : Int) : Bool := decide (0 < S.shapes.length ∧ 0 ≤ o ∧ o < S.objs.length)
def shapedB (S : Sp) (o : Int) : Bool := decide (0 < S.shapes.length ∧ 0 ≤ o ∧ o < S.shapes.length)
theorem hasB_true {S : Sp} {o : Int} (h : hasB S o = true) : ∃ j : Nat, o = j ∧ j < S.objs.length ∧ 0 < S.shapes.length := by
  simp only [hasB, decide_eq_true_eq] at h
  exact ⟨o.toNat, by omega, by omega, h.1⟩
theorem shapedB_true {S : Sp} {o : Int} (h : shapedB S o = true) : ∃ j : Nat, o = j ∧ j < S.shapes.length := by
  simp only [shapedB, decide_eq_true_eq] at h
  exact ⟨o.toNat, by omega, by omega⟩

/- The program's own. -/
def dSh (s : Sh) : D := .agg (.cons (dInt s.parent) (.cons (dStr (lastName s.names)) .nil))
def ownOf (o : Ob) : List ByteArray := if o.shape = -1 then o.names else []
def dOb (o : Ob) : D := .agg (.cons (dInt o.shape) (.cons (.sl true () 1 (dStrs (ownOf o))) (.cons (.sl true () 1 (dInts o.words)) (.cons (dBool o.frozen) .nil))))
def dShs (l : List Sh) : D := sq (l.map dSh)
def dObs (l : List Ob) : D := sq (l.map dOb)
def dSp (s : Sp) : D := .box true () (.agg (.cons (.sl true () 2 (dShs s.shapes)) (.cons (.sl true () 4 (dObs s.objs)) .nil)))

/- The reference's. -/
def dRSh (s : Sh) : D := .agg (.cons (dInt s.parent) (.cons (.sl true () 1 (dStrs s.names)) .nil))
def dROb (o : Ob) : D := .agg (.cons (dInt o.shape) (.cons (.sl true () 1 (dStrs o.names)) (.cons (.sl true () 1 (dInts o.words)) (.cons (dBool o.frozen) .nil))))
def dRShs (l : List Sh) : D := sq (l.map dRSh)
def dRObs (l : List Ob) : D := sq (l.map dROb)
def dRSp (s : Sp) : D := .box true () (.agg (.cons (dBool true) (.cons (.sl true () 2 (dRShs s.shapes)) (.cons (.sl true () 4 (dRObs s.objs)) .nil))))

def sp0 : Sp := ⟨[⟨-1, []⟩], []⟩
@[simp high] theorem head_dSp (S : Sp) : isHead (dSp S) = true := by rw [dSp, isHead]
@[simp high] theorem head_dRSp (S : Sp) : isHead (dRSp S) = true := by rw [dRSp, isHead]
@[simp] theorem dShs_len (l : List Sh) : (dShs l).len = l.length := by simp [dShs]
@[simp] theorem dObs_len (l : List Ob) : (dObs l).len = l.length := by simp [dObs]
@[simp] theorem dRShs_len (l : List Sh) : (dRShs l).len = l.length := by simp [dRShs]
@[simp] theorem dRObs_len (l : List Ob) : (dRObs l).len = l.length := by simp [dRObs]
theorem dShs_nth {l : List Sh} {i : Nat} (h : i < l.length) : (dShs l).nth i = dSh l[i] := by rw [dShs, sq_nth_lt (by simpa using h)]; simp
theorem dObs_nth {l : List Ob} {i : Nat} (h : i < l.length) : (dObs l).nth i = dOb l[i] := by rw [dObs, sq_nth_lt (by simpa using h)]; simp
theorem dRShs_nth {l : List Sh} {i : Nat} (h : i < l.length) : (dRShs l).nth i = dRSh l[i] := by rw [dRShs, sq_nth_lt (by simpa using h)]; simp
theorem dRObs_nth {l : List Ob} {i : Nat} (h : i < l.length) : (dRObs l).nth i = dROb l[i] := by rw [dRObs, sq_nth_lt (by simpa using h)]; simp
/- Elements as they are read, and as they are laid back. -/
theorem dShs_at {l : List Sh} {i : Nat} (h : i < l.length) : (dShs l).nth i = .agg (.cons (.val (.int .i64 l[i].parent)) (.cons (.val (.string (lastName l[i].names))) .nil)) := dShs_nth h
theorem dObs_at {l : List Ob} {i : Nat} (h : i < l.length) : (dObs l).nth i = .agg (.cons (.val (.int .i64 l[i].shape)) (.cons (.sl true () 1 (dStrs (ownOf l[i]))) (.cons (.sl true () 1 (dInts l[i].words)) (.cons (.val (.bool l[i].frozen)) .nil)))) := dObs_nth h
theorem dRShs_at {l : List Sh} {i : Nat} (h : i < l.length) : (dRShs l).nth i = .agg (.cons (.val (.int .i64 l[i].parent)) (.cons (.sl true () 1 (dStrs l[i].names)) .nil)) := dRShs_nth h
theorem dRObs_at {l : List Ob} {i : Nat} (h : i < l.length) : (dRObs l).nth i = .agg (.cons (.val (.int .i64 l[i].shape)) (.cons (.sl true () 1 (dStrs l[i].names)) (.cons (.sl true () 1 (dInts l[i].words)) (.cons (.val (.bool l[i].frozen)) .nil)))) := dRObs_nth h
theorem dObs_set (l : List Ob) (i : Nat) (o : Ob) : (dObs l).setN i (.agg (.cons (.val (.int .i64 o.shape)) (.cons (.sl true () 1 (dStrs (ownOf o))) (.cons (.sl true () 1 (dInts o.words)) (.cons (.val (.bool o.frozen)) .nil))))) = dObs (l.set i o) := by
  simp only [dObs, sq_setN, List.map_set]; rfl
theorem dRObs_set (l : List Ob) (i : Nat) (o : Ob) : (dRObs l).setN i (.agg (.cons (.val (.int .i64 o.shape)) (.cons (.sl true () 1 (dStrs o.names)) (.cons (.sl true () 1 (dInts o.words)) (.cons (.val (.bool o.frozen)) .nil))))) = dRObs (l.set i o) := by
  simp only [dRObs, sq_setN, List.map_set]; rfl
theorem dObs_push (l : List Ob) (o : Ob) : (dObs l).app (.cons (.agg (.cons (.val (.int .i64 o.shape)) (.cons (.sl true () 1 (dStrs (ownOf o))) (.cons (.sl true () 1 (dInts o.words)) (.cons (.val (.bool o.frozen)) .nil))))) .nil) = dObs (l ++ [o]) := by
  simp only [dObs, List.map_append, ← sq_app]; rfl
theorem dRObs_push (l : List Ob) (o : Ob) : (dRObs l).app (.cons (.agg (.cons (.val (.int .i64 o.shape)) (.cons (.sl true () 1 (dStrs o.names)) (.cons (.sl true () 1 (dInts o.words)) (.cons (.val (.bool o.frozen)) .nil))))) .nil) = dRObs (l ++ [o]) := by
  simp only [dRObs, List.map_append, ← sq_app]; rfl
theorem dShs_push (l : List Sh) (s : Sh) : (dShs l).app (.cons (.agg (.cons (.val (.int .i64 s.parent)) (.cons (.val (.string (lastName s.names))) .nil))) .nil) = dShs (l ++ [s]) := by
  simp only [dShs, List.map_append, ← sq_app]; rfl
theorem dRShs_push (l : List Sh) (s : Sh) : (dRShs l).app (.cons (.agg (.cons (.val (.int .i64 s.parent)) (.cons (.sl true () 1 (dStrs s.names)) .nil))) .nil) = dRShs (l ++ [s]) := by
  simp only [dRShs, List.map_append, ← sq_app]; rfl
@[simp] theorem dShs_mid (l : List Sh) : (dShs l).mid 0 l.length = dShs l := sq_mid_all _ _ (by simp)
@[simp] theorem dObs_mid (l : List Ob) : (dObs l).mid 0 l.length = dObs l := sq_mid_all _ _ (by simp)
@[simp] theorem dRShs_mid (l : List Sh) : (dRShs l).mid 0 l.length = dRShs l := sq_mid_all _ _ (by simp)
@[simp] theorem dRObs_mid (l : List Ob) : (dRObs l).mid 0 l.length = dRObs l := sq_mid_all _ _ (by simp)
@[simp] theorem dShs_mid1 (l : List Sh) (s : Sh) : (dShs (l ++ [s])).mid 0 (l.length + 1) = dShs (l ++ [s]) := sq_mid_all _ _ (by simp)
@[simp] theorem dObs_mid1 (l : List Ob) (s : Ob) : (dObs (l ++ [s])).mid 0 (l.length + 1) = dObs (l ++ [s]) := sq_mid_all _ _ (by simp)
@[simp] theorem dRShs_mid1 (l : List Sh) (s : Sh) : (dRShs (l ++ [s])).mid 0 (l.length + 1) = dRShs (l ++ [s]) := sq_mid_all _ _ (by simp)
@[simp] theorem dRObs_mid1 (l : List Ob) (s : Ob) : (dRObs (l ++ [s])).mid 0 (l.length + 1) = dRObs (l ++ [s]) := sq_mid_all _ _ (by simp)
@[simp] theorem dShs_free (l : List Sh) : (dShs l).free = true := sq_free fun x hx => by obtain ⟨n, _, rfl⟩ := List.mem_map.1 hx; rfl
end Go.Proofs.Ythcndkpkkaphoaa

/- Leaves: what is real; New. -/
namespace Go.Proofs.Ythcndkpkkaphoaa
set_option linter.all false
open Go.Vc Go.Proofs
set_option linter.unusedSimpArgs false
set_option maxRecDepth 100000

/- (*cabochon/shape.Space).real -/
theorem real_ok (S : Sp) : Meets Try.prog 38 [dSp S] (.cons (.ptr 0 [.d]) .nil) fun av X κ => av = .val (.bool (realB S)) ∧ X = [dSp S] ∧ κ = [] := by
  refine Meets.of_vs tabOk Try.func38 (body := ?_) ?_ (by kernel_rfl) Try.ntmps38 (rs := [.tmp 2]) (by kernel_rfl) rfl (by simp [AV.len]) (by simp only [envOf]; exact rfl) ?_
  rotate_left
  · rfl
  intro w0 I0 F0 hF
  repeat first
    | refine VS.seq ?_
    | (refine VS.region tabOk (id := 0) [] (by kernel_rfl) ?_; generalize hK : VS _ _ _ = KK; simp (maxSteps := 1000000) [hF, dSp]; (try subst hK); try (refine VS.keep [0] ?_; generalize hK : VS _ _ _ = KK; simp; (try subst hK)))
    | (refine VS.region tabOk (id := 1) [(2, 5)] (by kernel_rfl) ?_; generalize hK : VS _ _ _ = KK; simp (maxSteps := 1000000) [hF, dSp]; (try subst hK); try (refine VS.keep [2] ?_; generalize hK : VS _ _ _ = KK; simp; (try subst hK)))
  try refine VS.ret ?_
  repeat first | refine blockN_ret ?_ | refine loopN_ret ?_
  refine endK.of [2] [0] [] (by simp [hF]) (by simp [covers, mpre]) ?_
  simp [hF, retK, dSp, realB]

/- (*cabochon/shape.Space).has -/
theorem has_ok (S : Sp) (o : Int) : Meets Try.prog 48 [dSp S] (.cons (.ptr 0 [.d]) (.cons (.val (.int .i64 o)) .nil)) fun av X κ => av = .val (.bool (hasB S o)) ∧ X = [dSp S] ∧ κ = [] := by
  refine Meets.of_vs tabOk Try.func48 (body := ?_) ?_ (by kernel_rfl) Try.ntmps48 (rs := [.tmp 4]) (by kernel_rfl) rfl (by simp [AV.len]) (by simp only [envOf]; exact rfl) ?_
  rotate_left
  · rfl
  intro w0 I0 F0 hF
  repeat first
    | refine VS.seq ?_
    | (refine VS.region tabOk (id := 0) [] (by kernel_rfl) ?_; generalize hK : VS _ _ _ = KK; simp (maxSteps := 1000000) [hF]; (try subst hK); try (refine VS.keep [0, 1] ?_; generalize hK : VS _ _ _ = KK; simp; (try subst hK)))
    | (refine VS.region tabOk (id := 1) [(2, 7), (6, 11)] (by kernel_rfl) ?_; generalize hK : VS _ _ _ = KK; simp (maxSteps := 1000000) [hF]; (try subst hK); try (refine VS.keep [4] ?_; generalize hK : VS _ _ _ = KK; simp; (try subst hK)))
  refine (real_ok S).call [(0, [])] (by simp) (by simp (maxSteps := 1000000) [hF, dSp, realB]) (by simp (maxSteps := 1000000) [hF, dSp, realB]) (by simp (maxSteps := 1000000) [hF, dSp, realB]) (by simp) ?_
  rintro av X κ ⟨rfl, rfl, rfl⟩
  generalize hK : VS _ _ _ = KK; simp (maxSteps := 1000000) [hF, dSp, realB]; (try subst hK)
  refine ⟨fun h1 => ⟨fun h2 => ?_, fun h2 => ?_⟩, fun h1 => ?_⟩
  all_goals try refine VS.ret ?_
  all_goals repeat first | refine blockN_ret ?_ | refine loopN_ret ?_
  all_goals refine endK.of [4] [0] [] (by simp [hF]) (by simp [covers, mpre]) ?_
  all_goals simp [hF, retK, h1, dSp, hasB, shapedB]
  all_goals omega

/- (*cabochon/shape.Space).shaped -/
theorem shaped_ok (S : Sp) (o : Int) : Meets Try.prog 55 [dSp S] (.cons (.ptr 0 [.d]) (.cons (.val (.int .i64 o)) .nil)) fun av X κ => av = .val (.bool (shapedB S o)) ∧ X = [dSp S] ∧ κ = [] := by
  refine Meets.of_vs tabOk Try.func55 (body := ?_) ?_ (by kernel_rfl) Try.ntmps55 (rs := [.tmp 4]) (by kernel_rfl) rfl (by simp [AV.len]) (by simp only [envOf]; exact rfl) ?_
  rotate_left
  · rfl
  intro w0 I0 F0 hF
  repeat first
    | refine VS.seq ?_
    | (refine VS.region tabOk (id := 0) [] (by kernel_rfl) ?_; generalize hK : VS _ _ _ = KK; simp (maxSteps := 1000000) [hF]; (try subst hK); try (refine VS.keep [0, 1] ?_; generalize hK : VS _ _ _ = KK; simp; (try subst hK)))
    | (refine VS.region tabOk (id := 1) [(2, 7), (6, 11)] (by kernel_rfl) ?_; generalize hK : VS _ _ _ = KK; simp (maxSteps := 1000000) [hF]; (try subst hK); try (refine VS.keep [4] ?_; generalize hK : VS _ _ _ = KK; simp; (try subst hK)))
  refine (real_ok S).call [(0, [])] (by simp) (by simp (maxSteps := 1000000) [hF, dSp, realB]) (by simp (maxSteps := 1000000) [hF, dSp, realB]) (by simp (maxSteps := 1000000) [hF, dSp, realB]) (by simp) ?_
  rintro av X κ ⟨rfl, rfl, rfl⟩
  generalize hK : VS _ _ _ = KK; simp (maxSteps := 1000000) [hF, dSp, realB]; (try subst hK)
  refine ⟨fun h1 => ⟨fun h2 => ?_, fun h2 => ?_⟩, fun h1 => ?_⟩
  all_goals try refine VS.ret ?_
  all_goals repeat first | refine blockN_ret ?_ | refine loopN_ret ?_
  all_goals refine endK.of [4] [0] [] (by simp [hF]) (by simp [covers, mpre]) ?_
  all_goals simp [hF, retK, h1, dSp, hasB, shapedB]
  all_goals omega

/- cabochon/shape.New -/
theorem new_ok : Meets Try.prog 12 [] .nil fun av X κ => av = .ptr 0 [.d] ∧ X = [dSp sp0] ∧ κ = [] := by
  refine Meets.of_vs tabOk Try.func12 (body := ?_) ?_ (by kernel_rfl) Try.ntmps12 (rs := [.tmp 0]) (by kernel_rfl) rfl (by simp [AV.len]) (by simp only [envOf]; exact rfl) ?_
  rotate_left
  · rfl
  intro w0 I0 F0 hF
  repeat first
    | refine VS.seq ?_
    | (refine VS.region tabOk (id := 0) [] (by kernel_rfl) ?_; generalize hK : VS _ _ _ = KK; simp (maxSteps := 1000000) [hF]; (try subst hK); try (refine VS.keep [] ?_; generalize hK : VS _ _ _ = KK; simp; (try subst hK)))
    | (refine VS.region tabOk (id := 1) [] (by kernel_rfl) ?_; generalize hK : VS _ _ _ = KK; simp (maxSteps := 1000000) [hF]; (try subst hK); try (refine VS.keep [0] ?_; generalize hK : VS _ _ _ = KK; simp; (try subst hK)))
  try refine VS.ret ?_
  repeat first | refine blockN_ret ?_ | refine loopN_ret ?_
  refine endK.of [0] [1] [] (by simp [hF]) (by simp [covers, mpre]) ?_
  simp [hF, retK]
  rfl
end Go.Proofs.Ythcndkpkkaphoaa

/- Leaves: the functions of the package slices. -/
namespace Go.Proofs.Ythcndkpkkaphoaa
set_option linter.all false
open Go.Vc Go.Proofs
set_option linter.unusedSimpArgs false
set_option maxRecDepth 100000

/- slices.Clone[[]string,string] -/
theorem cloneStr_ok (own ex : Bool) (l : List ByteArray) (hl : l.length ≤ 1000000) : Meets Try.prog 51 [.sl own () 1 (dStrs l)] (.cons (.sub 0 [] 0 l.length ex) .nil)
    fun av X κ => av = .sub 1 [] 0 l.length false ∧ X = [.sl own () 1 (dStrs l), .sl true () 1 (dStrs l)] ∧ κ = [] := by
  refine Meets.of_vs tabOk Try.func51 (body := ?_) ?_ (by kernel_rfl) Try.ntmps51 (rs := [.tmp 2]) (by kernel_rfl) rfl (by simp [AV.len]) (by simp only [envOf]; exact rfl) ?_
  rotate_left
  · rfl
  intro w0 I0 F0 hF
  repeat first
    | refine VS.seq ?_
    | (refine VS.region tabOk (id := 0) [] (by kernel_rfl) ?_; generalize hK : VS _ _ _ = KK; simp (maxSteps := 1000000) [hF]; (try subst hK); try (refine VS.keep [0] ?_; generalize hK : VS _ _ _ = KK; simp; (try subst hK)))
    | (refine VS.region tabOk (id := 1) [] (by kernel_rfl) ?_; generalize hK : VS _ _ _ = KK; simp (maxSteps := 1000000) [hF]; (try subst hK); try (refine VS.keep [0, 4] ?_; generalize hK : VS _ _ _ = KK; simp; (try subst hK)))
  refine ⟨?_, fun h0 => ?_⟩
  · repeat first
      | refine VS.seq ?_
      | refine VS.skip ?_
      | refine ⟨⟨by omega, by omega⟩, ?_⟩
      | (refine VS.region tabOk (id := 3) [] (by kernel_rfl) ?_; generalize hK : VS _ _ _ = KK; simp (maxSteps := 1000000) [hF]; (try subst hK); try (refine VS.keep [2] ?_; generalize hK : VS _ _ _ = KK; simp; (try subst hK)))
      | (refine VS.cond ?_; generalize hK1 : VS _ _ _ = KK1; generalize hK2 : VS _ _ _ = KK2; simp (maxSteps := 1000000) [hF]; (try subst hK1); (try subst hK2))
    try refine VS.ret ?_
    repeat first | refine blockN_ret ?_ | refine loopN_ret ?_
    refine endK.of [2] [0, 1] [] (by simp [hF]) (by simp [covers, mpre]) ?_
    simp [hF, retK]
  · repeat first
      | refine VS.seq ?_
      | (refine VS.region tabOk (id := 2) [] (by kernel_rfl) ?_; generalize hK : VS _ _ _ = KK; simp (maxSteps := 1000000) [hF]; (try subst hK); try (refine VS.keep [2] ?_; generalize hK : VS _ _ _ = KK; simp; (try subst hK)))
      | (refine VS.cond ?_; generalize hK1 : VS _ _ _ = KK1; generalize hK2 : VS _ _ _ = KK2; simp (maxSteps := 1000000) [hF]; (try subst hK1); (try subst hK2))
    refine VS.hold0 2 1 (by simp) ?_
    subst h0
    try refine VS.ret ?_
    repeat first | refine blockN_ret ?_ | refine loopN_ret ?_
    refine endK.of [2] [0, 1] [] (by simp [hF]) (by simp [covers, mpre]) ?_
    simp [hF, retK, dStrs]

/- slices.Clone[[]int,int] -/
theorem cloneInt_ok (own ex : Bool) (l : List Int) (hl : l.length ≤ 1000000) : Meets Try.prog 52 [.sl own () 1 (dInts l)] (.cons (.sub 0 [] 0 l.length ex) .nil)
    fun av X κ => av = .sub 1 [] 0 l.length false ∧ X = [.sl own () 1 (dInts l), .sl true () 1 (dInts l)] ∧ κ = [] := by
  refine Meets.of_vs tabOk Try.func52 (body := ?_) ?_ (by kernel_rfl) Try.ntmps52 (rs := [.tmp 2]) (by kernel_rfl) rfl (by simp [AV.len]) (by simp only [envOf]; exact rfl) ?_
  rotate_left
  · rfl
  intro w0 I0 F0 hF
  repeat first
    | refine VS.seq ?_
    | (refine VS.region tabOk (id := 0) [] (by kernel_rfl) ?_; generalize hK : VS _ _ _ = KK; simp (maxSteps := 1000000) [hF]; (try subst hK); try (refine VS.keep [0] ?_; generalize hK : VS _ _ _ = KK; simp; (try subst hK)))
    | (refine VS.region tabOk (id := 1) [] (by kernel_rfl) ?_; generalize hK : VS _ _ _ = KK; simp (maxSteps := 1000000) [hF]; (try subst hK); try (refine VS.keep [0, 4] ?_; generalize hK : VS _ _ _ = KK; simp; (try subst hK)))
  refine ⟨?_, fun h0 => ?_⟩
  · repeat first
      | refine VS.seq ?_
      | refine VS.skip ?_
      | refine ⟨⟨by omega, by omega⟩, ?_⟩
      | (refine VS.region tabOk (id := 3) [] (by kernel_rfl) ?_; generalize hK : VS _ _ _ = KK; simp (maxSteps := 1000000) [hF]; (try subst hK); try (refine VS.keep [2] ?_; generalize hK : VS _ _ _ = KK; simp; (try subst hK)))
      | (refine VS.cond ?_; generalize hK1 : VS _ _ _ = KK1; generalize hK2 : VS _ _ _ = KK2; simp (maxSteps := 1000000) [hF]; (try subst hK1); (try subst hK2))
    try refine VS.ret ?_
    repeat first | refine blockN_ret ?_ | refine loopN_ret ?_
    refine endK.of [2] [0, 1] [] (by simp [hF]) (by simp [covers, mpre]) ?_
    simp [hF, retK]
  · repeat first
      | refine VS.seq ?_
      | (refine VS.region tabOk (id := 2) [] (by kernel_rfl) ?_; generalize hK : VS _ _ _ = KK; simp (maxSteps := 1000000) [hF]; (try subst hK); try (refine VS.keep [2] ?_; generalize hK : VS _ _ _ = KK; simp; (try subst hK)))
      | (refine VS.cond ?_; generalize hK1 : VS _ _ _ = KK1; generalize hK2 : VS _ _ _ = KK2; simp (maxSteps := 1000000) [hF]; (try subst hK1); (try subst hK2))
    refine VS.hold0 2 1 (by simp) ?_
    subst h0
    try refine VS.ret ?_
    repeat first | refine blockN_ret ?_ | refine loopN_ret ?_
    refine endK.of [2] [0, 1] [] (by simp [hF]) (by simp [covers, mpre]) ?_
    simp [hF, retK, dInts]

/- slices.Clip[[]int,int] -/
theorem clipInt_ok (own ex : Bool) (l : List Int) : Meets Try.prog 65 [.sl own () 1 (dInts l)] (.cons (.sub 0 [] 0 l.length ex) .nil)
    fun av X κ => av = .sub 0 [] 0 l.length true ∧ X = [.sl own () 1 (dInts l)] ∧ κ = [] := by
  refine Meets.of_vs tabOk Try.func65 (body := ?_) ?_ (by kernel_rfl) Try.ntmps65 (rs := [.tmp 2]) (by kernel_rfl) rfl (by simp [AV.len]) (by simp only [envOf]; exact rfl) ?_
  rotate_left
  · rfl
  intro w0 I0 F0 hF
  repeat first
    | refine VS.seq ?_
    | (refine VS.region tabOk (id := 0) [] (by kernel_rfl) ?_; generalize hK : VS _ _ _ = KK; simp (maxSteps := 1000000) [hF]; (try subst hK); try (refine VS.keep [0] ?_; generalize hK : VS _ _ _ = KK; simp; (try subst hK)))
    | (refine VS.region tabOk (id := 1) [] (by kernel_rfl) ?_; generalize hK : VS _ _ _ = KK; simp (maxSteps := 1000000) [hF]; (try subst hK); try (refine VS.keep [2] ?_; generalize hK : VS _ _ _ = KK; simp; (try subst hK)))
  try refine VS.ret ?_
  repeat first | refine blockN_ret ?_ | refine loopN_ret ?_
  refine endK.of [2] [0] [] (by simp [hF]) (by simp [covers, mpre]) ?_
  simp [hF, retK]

/-- The place of a text in a list, -1: it is not there. -/
abbrev posIn (n : ByteArray) (l : List ByteArray) : Int := posBy (fun x => decide (x = n)) l

/- slices.Index[[]string,string] -/
theorem index_ok (own ex : Bool) (l : List ByteArray) (n0 : ByteArray) (hl : l.length ≤ 1000000) : Meets Try.prog 41 [.sl own () 1 (dStrs l)] (.cons (.sub 0 [] 0 l.length ex) (.cons (.val (.string n0)) .nil))
    fun av X κ => av = .val (.int .i64 (posIn n0 l)) ∧ X = [.sl own () 1 (dStrs l)] ∧ κ = [] := by
  refine Meets.of_vs tabOk Try.func41 (body := ?_) ?_ (by kernel_rfl) Try.ntmps41 (rs := [.tmp 4]) (by kernel_rfl) rfl (by simp [AV.len]) (by simp only [envOf]; exact rfl) ?_
  rotate_left
  · rfl
  intro w0 I0 F0 hF
  repeat first
    | refine VS.seq ?_
    | refine VS.block ?_
    | (refine VS.region tabOk (id := 0) [] (by kernel_rfl) ?_; generalize hK : VS _ _ _ = KK; simp (maxSteps := 1000000) [hF]; (try subst hK); try (refine VS.keep [0, 1] ?_; generalize hK : VS _ _ _ = KK; simp; (try subst hK)))
    | (refine VS.region tabOk (id := 1) [] (by kernel_rfl) ?_; generalize hK : VS _ _ _ = KK; simp (maxSteps := 1000000) [hF]; (try subst hK); try (refine VS.keep [0, 1, 7, 8] ?_; generalize hK : VS _ _ _ = KK; simp; (try subst hK)))
  refine VS.pick [8, 7, 0, 1] [0] (by simp [hF]) ?_
  generalize hK : VS _ _ _ = KK; simp [hF]; (try subst hK)
  refine VS.rounds (fun n st => ∃ (i : Nat), i + n = l.length ∧ (∀ j, j < i → ∀ hj : j < l.length, l[j] ≠ n0) ∧
    st = ⟨[(8, .val (.int .i64 (i : Int))), (7, .val (.int .i64 (l.length : Int))), (0, .sub 0 [] 0 l.length ex), (1, .val (.string n0))], [.sl own () 1 (dStrs l)], [], []⟩) ⟨l.length, 0, by simp, by simp, rfl⟩ ?_
  rintro n st ⟨i, hi, hall, rfl⟩
  repeat first
    | refine VS.seq ?_
    | (refine VS.region tabOk (id := 2) [] (by kernel_rfl) ?_; generalize hK : VS _ _ _ = KK; simp (maxSteps := 1000000) [hF]; (try subst hK); try (refine VS.keep [0, 1, 7, 8, 9] ?_; generalize hK : VS _ _ _ = KK; simp; (try subst hK)))
    | (refine VS.cond ?_; generalize hK1 : VS _ _ _ = KK1; generalize hK2 : VS _ _ _ = KK2; simp (maxSteps := 1000000) [hF]; (try subst hK1); (try subst hK2))
  refine ⟨fun hlt => ?_, fun hge => ?_⟩
  · have hs := dStrs_nth hlt
    repeat first
      | refine VS.seq ?_
      | refine VS.skip ?_
      | refine VS.block ?_
      | (refine VS.region tabOk (id := 3) [] (by kernel_rfl) ?_; generalize hK : VS _ _ _ = KK; simp (maxSteps := 1000000) [hF, hlt, hs]; (try subst hK); try (refine VS.keep [0, 1, 5, 7, 8] ?_; generalize hK : VS _ _ _ = KK; simp; (try subst hK)))
      | (refine VS.region tabOk (id := 4) [] (by kernel_rfl) ?_; generalize hK : VS _ _ _ = KK; simp (maxSteps := 1000000) [hF, hlt, hs]; (try subst hK); try (refine VS.keep [0, 1, 5, 7, 8, 16] ?_; generalize hK : VS _ _ _ = KK; simp; (try subst hK)))
      | (refine VS.cond ?_; generalize hK1 : VS _ _ _ = KK1; generalize hK2 : VS _ _ _ = KK2; simp (maxSteps := 1000000) [hF, hlt, hs]; (try subst hK1); (try subst hK2))
    refine ⟨fun he => ?_, fun he => ?_⟩
    · repeat first
        | refine VS.seq ?_
        | (refine VS.region tabOk (id := 5) [] (by kernel_rfl) ?_; generalize hK : VS _ _ _ = KK; simp (maxSteps := 1000000) [hF]; (try subst hK); try (refine VS.keep [4] ?_; generalize hK : VS _ _ _ = KK; simp; (try subst hK)))
      try refine VS.ret ?_
      repeat first | refine blockN_ret ?_ | refine loopN_ret ?_
      refine endK.of [4] [0] [] (by simp [hF]) (by simp [covers, mpre]) ?_
      simp [hF, retK]
      exact (posBy_at hlt (by simpa using he.symm) fun j hj hj' => by simpa using hall j hj hj').symm
    · repeat first
        | refine VS.skip ?_
        | refine VS.nil ?_
        | refine blockN_normal ?_
        | refine loopN_normal ?_
        | (refine VS.region tabOk (id := 6) [] (by kernel_rfl) ?_; generalize hK : VS _ _ _ = KK; simp (maxSteps := 1000000) [hF]; (try subst hK); try (refine VS.keep [0, 1, 7, 8] ?_; generalize hK : VS _ _ _ = KK; simp; (try subst hK)))
      refine nextK.of [8, 7, 0, 1] [0] (n - 1) (by omega) (by simp [hF]) ?_
      refine ⟨i + 1, ?_, ?_, ?_⟩
      · omega
      · intro j hj hj'
        rcases Nat.lt_or_ge j i with h | h
        · exact hall j h hj'
        · obtain rfl : j = i := by omega
          exact fun e => he e.symm
      · simp
        exact IntWalk.i64_in _ (by omega)
  · repeat first
      | refine VS.seq ?_
      | refine VS.exit ?_
      | (refine VS.region tabOk (id := 7) [] (by kernel_rfl) ?_; generalize hK : VS _ _ _ = KK; simp (maxSteps := 1000000) [hF]; (try subst hK); try (refine VS.keep [4] ?_; generalize hK : VS _ _ _ = KK; simp; (try subst hK)))
    try refine VS.ret ?_
    repeat first | refine blockN_ret ?_ | refine loopN_ret ?_
    refine endK.of [4] [0] [] (by simp [hF]) (by simp [covers, mpre]) ?_
    simp [hF, retK]
    exact (posBy_none fun j hj => by simpa using hall j (by omega) hj).symm

/- slices.Reverse[[]string,string] -/
theorem reverse_ok (ex : Bool) (l : List ByteArray) (hl : l.length ≤ 1000000) : Meets Try.prog 68 [.sl true () 1 (dStrs l)] (.cons (.sub 0 [] 0 l.length ex) .nil)
    fun av X κ => av = .tup .nil ∧ X = [.sl true () 1 (dStrs l.reverse)] ∧ κ = [] := by
  refine Meets.of_vs tabOk Try.func68 (body := ?_) ?_ (by kernel_rfl) Try.ntmps68 (rs := []) (by kernel_rfl) rfl (by simp [AV.len]) (by simp only [envOf]; exact rfl) ?_
  rotate_left
  · rfl
  intro w0 I0 F0 hF
  repeat first
    | refine VS.seq ?_
    | refine VS.block ?_
    | (refine VS.region tabOk (id := 0) [] (by kernel_rfl) ?_; generalize hK : VS _ _ _ = KK; simp (maxSteps := 1000000) [hF]; (try subst hK); try (refine VS.keep [0, 2, 3] ?_; generalize hK : VS _ _ _ = KK; simp; (try subst hK)))
  refine VS.pick [2, 3, 0] [0] (by simp [hF]) ?_
  generalize hK : VS _ _ _ = KK; simp [hF]; (try subst hK)
  refine VS.rounds (fun n st => ∃ (i : Nat) (l' : List ByteArray), l'.length = l.length ∧ n = l.length - i ∧ 2 * i ≤ l.length + 1 ∧
    (∀ k, ∀ hk : k < l.length, l'[k]? = if k < i ∨ l.length ≤ k + i then l[l.length - 1 - k]? else l[k]?) ∧
    st = ⟨[(2, .val (.int .i64 (i : Int))), (3, .val (.int .i64 ((l.length : Int) - 1 - i))), (0, .sub 0 [] 0 l.length ex)], [.sl true () 1 (dStrs l')], [], []⟩)
    ⟨l.length, 0, l, rfl, by simp, by omega, fun k hk => by rw [if_neg (by omega)], by simp; exact IntWalk.i64_in _ (by omega)⟩ ?_
  rintro n st ⟨i, l', hl', hn, hi, hall, rfl⟩
  repeat first
    | refine VS.seq ?_
    | (refine VS.region tabOk (id := 1) [] (by kernel_rfl) ?_; generalize hK : VS _ _ _ = KK; simp (maxSteps := 1000000) [hF]; (try subst hK); try (refine VS.keep [0, 2, 3, 9] ?_; generalize hK : VS _ _ _ = KK; simp; (try subst hK)))
    | (refine VS.cond ?_; generalize hK1 : VS _ _ _ = KK1; generalize hK2 : VS _ _ _ = KK2; simp (maxSteps := 1000000) [hF]; (try subst hK1); (try subst hK2))
  refine ⟨fun hlt => ?_, fun hge => ?_⟩
  · have hj : ((l.length : Int) - 1 - i).toNat = l.length - 1 - i := by omega
    have h1 : i < l'.length := by omega
    have h2 : l.length - 1 - i < l'.length := by omega
    have h3 := dStrs_nth h1
    have h4 := dStrs_nth h2
    have h5 : T.nth (dStrs (l'.set i l'[l.length - 1 - i])) (l.length - 1 - i) = T.val (.string l'[l.length - 1 - i]) := by
      rw [dStrs_nth (by simpa using h2)]
      rw [List.getElem_set_ne (by omega)]
    have h6 : l.length - 1 - i < l.length := by omega
    have h7 : i < l.length := by omega
    have h8 : (i : Int) ≤ l.length - 1 := by omega
    have h9 : (l.length : Int) - 1 - i < l.length := by omega
    repeat first
      | refine VS.seq ?_
      | refine VS.skip ?_
      | refine VS.block ?_
      | refine VS.nil ?_
      | refine blockN_normal ?_
      | refine loopN_normal ?_
      | (refine VS.region tabOk (id := 2) [] (by kernel_rfl) ?_; generalize hK : VS _ _ _ = KK; simp (maxSteps := 1000000) [hF, hj, h1, h2, h3, h4, h5, h6, h7, h8, h9, hl']; (try subst hK); try (refine VS.keep [0, 2, 3] ?_; generalize hK : VS _ _ _ = KK; simp; (try subst hK)))
      | (refine VS.drawn tabOk mixedOk (id := 3) [] [⟨0, 1, 16384, 5⟩, ⟨0, 4, 32768, 5⟩, ⟨0, 1, 65536, 5⟩, ⟨0, 8, 131072, 5⟩, ⟨0, 1, 262144, 5⟩, ⟨0, 8, 524288, 5⟩, ⟨48, 786432, 1048576, 5⟩, ⟨64, 1048576, 2097152, 6⟩, ⟨0, 1, 4194304, 5⟩, ⟨0, 4, 8388608, 5⟩, ⟨768, 12582912, 16777216, 5⟩, ⟨1024, 16777216, 33554432, 6⟩, ⟨2291, 49152, 67108864, 5⟩, ⟨6387, 69206016, 0, 0⟩, ⟨16383, 196608, 134217728, 5⟩, ⟨32767, 167772160, 0, 0⟩] (.take 0 (.take 1 (.take 2 (.take 3 (.take 4 (.take 5 (.take 6 (.take 7 (.take 8 (.take 9 (.take 10 (.take 11 (.take 12 (.fork (.alt 13 (.take 14 (.fork (.alt 15 (.done) (.nil)))) (.nil)))))))))))))))) (.run [0, 1, 2, 3, 4, 5, 6, 7, 8, 9, 10, 11, 12, 13, 14, 15] (.done)) (by kernel_rfl) (by kernel_rfl) (by kernel_rfl) ?_; generalize hK : VS _ _ _ = KK; simp only [opsVc_run, opsVc_both, opsVc_chk, opsVc_done, opsVc_yes, pick_cons, pick_nil, List.getElem?_cons_zero, List.getElem?_cons_succ]; simp (maxSteps := 1000000) [hF, hj, h1, h2, h3, h4, h5, h6, h7, h8, h9, hl']; (try subst hK); try (refine VS.keep [0, 2, 3] ?_; generalize hK : VS _ _ _ = KK; simp; (try subst hK)))
    refine nextK.of [2, 3, 0] [0] (n - 1) (by omega) (by simp [hF]) ?_
    refine ⟨i + 1, (l'.set i l'[l.length - 1 - i]).set (l.length - 1 - i) l'[i], by simp [hl'], by omega, by omega, fun k hk => ?_, ?_⟩
    · rw [List.getElem?_set, List.getElem?_set]
      have hki := hall k hk
      have hii := hall i h7
      have hjj := hall (l.length - 1 - i) h6
      have e1 : l.length - 1 - (l.length - 1 - i) = i := by omega
      rw [if_neg (by omega)] at hii hjj
      rw [List.getElem?_eq_getElem h1] at hii
      rw [List.getElem?_eq_getElem h2] at hjj
      by_cases c1 : l.length - 1 - i = k
      · subst c1
        rw [if_pos rfl, if_pos (by simpa using h2), if_pos (by omega), e1]; exact hii
      · by_cases c2 : i = k
        · subst c2
          rw [if_neg c1, if_pos rfl, if_pos h1, if_pos (by omega)]; exact hjj
        · rw [if_neg c1, if_neg c2, hki]
          by_cases c3 : k < i ∨ l.length ≤ k + i
          · rw [if_pos c3, if_pos (by omega)]
          · rw [if_neg c3, if_neg (by omega)]
    · simp
      exact ⟨IntWalk.i64_in _ (by omega), by rw [IntWalk.i64_in _ (by omega)]; omega⟩
  · repeat first
      | refine VS.nil ?_
      | refine VS.exit ?_
    try refine VS.ret ?_
    repeat first | refine blockN_ret ?_ | refine loopN_ret ?_
    refine endK.of [] [0] [] (by simp [hF]) (by simp [covers, mpre]) ?_
    simp [hF, retK]
    congr 1
    refine List.ext_getElem? fun k => ?_
    rcases Nat.lt_or_ge k l.length with hk | hk
    · rw [hall k hk, List.getElem?_reverse hk]
      by_cases c : k < i ∨ l.length ≤ k + i
      · rw [if_pos c]
      · rw [if_neg c]; congr 1; omega
    · rw [List.getElem?_eq_none (by omega), List.getElem?_eq_none (by simpa using hk)]
end Go.Proofs.Ythcndkpkkaphoaa

/- The state's own laws; what the deeds do, as plain functions. -/
namespace Go.Proofs.Ythcndkpkkaphoaa
set_option linter.all false
open Go.Vc Go.Proofs

/-- An object fits the shapes, and has at most 'N' names. -/
def ObOk (l : List Sh) (N : Nat) (o : Ob) : Prop :=
  o.words.length = o.names.length ∧ o.names.length ≤ N ∧ (o.shape = -1 ∨ ∃ (k : Nat) (hk : k < l.length), o.shape = k ∧ o.names = l[k].names)

structure ShOk (l : List Sh) : Prop where
  ns : l.length ≤ 200
  root : ∀ h : 0 < l.length, l[0] = ⟨-1, []⟩
  below : ∀ k (hk : k < l.length), 0 < k → ∃ (p : Nat) (hp : p < k) (n : ByteArray), l[k].parent = p ∧ l[k].names = l[p].names ++ [n]
  deep : ∀ k (hk : k < l.length), l[k].names.length ≤ 12

structure WF (S : Sp) (N : Nat) : Prop where
  sh : ShOk S.shapes
  no : S.objs.length ≤ 100
  ob : ∀ o ∈ S.objs, ObOk S.shapes N o

/-- The shape below one that adds a name. -/
def belowOf (l : List Sh) (p : Int) (n : ByteArray) : Int := posBy (fun s => decide (s.parent = p) && decide (lastName s.names = n)) l

/-- The shapes, and the object's, when an object gets a name more. -/
def stepSh (l : List Sh) (o : Ob) (n : ByteArray) : List Sh × Int :=
  if o.shape = -1 ∨ 12 ≤ o.names.length then (l, -1)
  else if 0 ≤ belowOf l o.shape n then (l, belowOf l o.shape n)
  else if 200 ≤ l.length then (l, -1)
  else (l ++ [⟨o.shape, o.names ++ [n]⟩], (l.length : Int))

def addOb (l : List Sh) (o : Ob) (n : ByteArray) (w : Int) : Ob := ⟨(stepSh l o n).2, o.names ++ [n], o.words ++ [w], o.frozen⟩

def addOf (S : Sp) (j : Nat) (o : Ob) (n : ByteArray) (w : Int) : Sp := ⟨(stepSh S.shapes o n).1, S.objs.set j (addOb S.shapes o n w)⟩

def obAt (S : Sp) (o : Int) : Ob := S.objs.getD o.toNat ⟨0, [], [], false⟩
theorem obAt_eq {S : Sp} {j : Nat} (hj : j < S.objs.length) : obAt S j = S.objs[j] := by simp [obAt, hj]

/-- What asking for a name answers. -/
def askOf (S : Sp) (o : Int) (n : ByteArray) (change : Bool) : Int :=
  if hasB S o = false then 1
  else if n = noName ∨ 40 < n.size then 6
  else if change = true ∧ (obAt S o).frozen = true then 13
  else 0

def setOb (S : Sp) (o : Int) (ob : Ob) : Sp := ⟨S.shapes, S.objs.set o.toNat ob⟩

/- The deeds: the space behind, and what is told. -/
def makeOf (S : Sp) : Sp × Int × Int :=
  if realB S = false then (S, 0, 1) else if 100 ≤ S.objs.length then (S, 0, 9) else (⟨S.shapes, S.objs ++ [⟨0, [], [], false⟩]⟩, (S.objs.length : Int), 0)

def setOf (S : Sp) (o : Int) (n : ByteArray) (w : Int) : Sp × Int :=
  if askOf S o n true ≠ 0 then (S, askOf S o n true)
  else if 0 ≤ posIn n (obAt S o).names then (setOb S o { obAt S o with words := (obAt S o).words.set (posIn n (obAt S o).names).toNat w }, 0)
  else (addOf S o.toNat (obAt S o) n w, 0)

def getOf (S : Sp) (o : Int) (n : ByteArray) : Int × Int :=
  if askOf S o n false ≠ 0 then (0, askOf S o n false)
  else if posIn n (obAt S o).names < 0 then (0, 3)
  else ((obAt S o).words.getD (posIn n (obAt S o).names).toNat 0, 0)

/-- The names of a list, but for one, are given to an object anew. -/
def refill (S : Sp) (j i : Nat) : Nat → List ByteArray → List Int → Sp
  | k, n :: ns, w :: ws => if k = i then refill S j i (k + 1) ns ws else refill (addOf S j (S.objs.getD j ⟨0, [], [], false⟩) n w) j i (k + 1) ns ws
  | _, _, _ => S

def deleteOf (S : Sp) (o : Int) (n : ByteArray) : Sp × Int × Int :=
  if askOf S o n true ≠ 0 then (S, 0, askOf S o n true)
  else if posIn n (obAt S o).names < 0 then (S, 0, 3)
  else (refill (setOb S o ⟨if (obAt S o).shape = -1 then -1 else 0, [], [], (obAt S o).frozen⟩) o.toNat (posIn n (obAt S o).names).toNat 0 (obAt S o).names (obAt S o).words,
    (obAt S o).words.getD (posIn n (obAt S o).names).toNat 0, 0)

def slotOf (S : Sp) (k : Int) (n : ByteArray) : Int × Int :=
  if shapedB S k = false then (0, 1) else if n = noName ∨ 40 < n.size then (0, 6)
  else if posIn n (S.shapes.getD k.toNat ⟨0, []⟩).names < 0 then (0, 3) else (posIn n (S.shapes.getD k.toNat ⟨0, []⟩).names, 0)

def parentOf (S : Sp) (k : Int) : Int × Int := if shapedB S k = false then (0, 1) else ((S.shapes.getD k.toNat ⟨0, []⟩).parent, 0)
def shapeOf (S : Sp) (o : Int) : Int × Int := if hasB S o = false then (0, 1) else ((obAt S o).shape, 0)
def freezeOf (S : Sp) (o : Int) : Sp × Int := if hasB S o = false then (S, 1) else (setOb S o { obAt S o with frozen := true }, 0)
def frozenOf (S : Sp) (o : Int) : Bool × Int := if hasB S o = false then (false, 1) else ((obAt S o).frozen, 0)
def cloneOf (S : Sp) (o : Int) : Sp × Int × Int :=
  if hasB S o = false then (S, 0, 1) else if 100 ≤ S.objs.length then (S, 0, 9)
  else (⟨S.shapes, S.objs ++ [{ obAt S o with frozen := false }]⟩, (S.objs.length : Int), 0)
def shapesOf (S : Sp) : Int := S.shapes.length

theorem ObOk.names_len {l : List Sh} {N : Nat} {o : Ob} (h : ObOk l N o) : o.names.length ≤ N := h.2.1

end Go.Proofs.Ythcndkpkkaphoaa

/- The deeds keep the state's laws. -/
namespace Go.Proofs.Ythcndkpkkaphoaa
set_option linter.all false
open Go.Vc Go.Proofs

theorem lastName_snoc (l : List ByteArray) (n : ByteArray) : lastName (l ++ [n]) = n := by simp [lastName]

theorem ObOk.mono {l l' : List Sh} {N N' : Nat} {o : Ob} (h : ObOk l N o) (hl : ∀ k (hk : k < l.length), ∃ hk' : k < l'.length, l'[k] = l[k]) (hN : N ≤ N') : ObOk l' N' o := by
  obtain ⟨h1, h2, h3⟩ := h
  refine ⟨h1, by omega, h3.imp id ?_⟩
  rintro ⟨k, hk, h4, h5⟩
  obtain ⟨hk', h6⟩ := hl k hk
  exact ⟨k, hk', h4, by rw [h6]; exact h5⟩

theorem belowOf_at {l : List Sh} (hl : ShOk l) {k : Nat} (hk : k < l.length) {n : ByteArray} (h : 0 ≤ belowOf l k n) : ∃ (i : Nat) (hi : i < l.length), belowOf l k n = i ∧ l[i].names = l[k].names ++ [n] := by
  rcases posBy_cases (fun s => decide (s.parent = (k : Int)) && decide (lastName s.names = n)) l with ⟨h1, _⟩ | ⟨i, hi, h1, h2, _⟩
  · have h : 0 ≤ posBy (fun s => decide (s.parent = (k : Int)) && decide (lastName s.names = n)) l := h
    omega
  · refine ⟨i, hi, h1, ?_⟩
    simp only [Bool.and_eq_true, decide_eq_true_eq] at h2
    obtain ⟨h3, h4⟩ := h2
    rcases Nat.eq_zero_or_pos i with rfl | hp
    · rw [hl.root hi] at h3; simp at h3
    · obtain ⟨p, hp', m, h5, h6⟩ := hl.below i hi hp
      have : p = k := by omega
      subst this
      rw [h6, lastName_snoc] at h4
      rw [h6, h4]

theorem stepSh_old (l : List Sh) (o : Ob) (n : ByteArray) : ∀ k (hk : k < l.length), ∃ hk' : k < (stepSh l o n).1.length, (stepSh l o n).1[k] = l[k] := by
  intro k hk
  unfold stepSh
  split
  · exact ⟨hk, rfl⟩
  · split
    · exact ⟨hk, rfl⟩
    · split
      · exact ⟨hk, rfl⟩
      · exact ⟨by simp; omega, by simp [List.getElem_append_left hk]⟩

theorem stepSh_ok {l : List Sh} (hl : ShOk l) {N : Nat} {o : Ob} (ho : ObOk l N o) (n : ByteArray) (w : Int) : ShOk (stepSh l o n).1 ∧ ObOk (stepSh l o n).1 (o.names.length + 1) (addOb l o n w) := by
  have hlen : (o.words ++ [w]).length = (o.names ++ [n]).length := by simp [ho.1]
  have hn : (o.names ++ [n]).length ≤ o.names.length + 1 := by simp
  by_cases h1 : o.shape = -1 ∨ 12 ≤ o.names.length
  · have e : stepSh l o n = (l, -1) := by unfold stepSh; rw [if_pos h1]
    unfold addOb
    rw [e]
    exact ⟨hl, hlen, hn, .inl rfl⟩
  · have h1a : o.shape ≠ -1 := fun h => h1 (.inl h)
    have h1b : ¬ 12 ≤ o.names.length := fun h => h1 (.inr h)
    obtain ⟨k, hk, h2, h3⟩ := ho.2.2.resolve_left h1a
    by_cases h4 : 0 ≤ belowOf l o.shape n
    · have e : stepSh l o n = (l, belowOf l o.shape n) := by unfold stepSh; rw [if_neg h1, if_pos h4]
      unfold addOb
      rw [e]
      rw [h2] at h4
      obtain ⟨i, hi, h5, h6⟩ := belowOf_at hl hk h4
      exact ⟨hl, hlen, hn, .inr ⟨i, hi, by rw [h2]; exact h5, by rw [h6, h3]⟩⟩
    · by_cases h5 : 200 ≤ l.length
      · have e : stepSh l o n = (l, -1) := by unfold stepSh; rw [if_neg h1, if_neg h4, if_pos h5]
        unfold addOb
        rw [e]
        exact ⟨hl, hlen, hn, .inl rfl⟩
      · have e : stepSh l o n = (l ++ [⟨o.shape, o.names ++ [n]⟩], (l.length : Int)) := by unfold stepSh; rw [if_neg h1, if_neg h4, if_neg h5]
        unfold addOb
        rw [e]
        refine ⟨⟨by simp; omega, fun h => ?_, fun i hi hp => ?_, fun i hi => ?_⟩, hlen, hn, .inr ⟨l.length, by simp, rfl, by simp⟩⟩
        · simp only [List.getElem_append_left (show 0 < l.length by omega)]
          exact hl.root _
        · rcases Nat.lt_or_ge i l.length with hi' | hi'
          · obtain ⟨p, hp', m, h6, h7⟩ := hl.below i hi' hp
            refine ⟨p, hp', m, ?_, ?_⟩
            · simp only [List.getElem_append_left hi']; exact h6
            · simp only [List.getElem_append_left hi', List.getElem_append_left (show p < l.length by omega)]; exact h7
          · have : i = l.length := by simp at hi; omega
            subst this
            refine ⟨k, hk, n, by simp [h2], ?_⟩
            simp only [List.getElem_append_left hk]
            simp [h3]
        · rcases Nat.lt_or_ge i l.length with hi' | hi'
          · simp only [List.getElem_append_left hi']; exact hl.deep i hi'
          · have : i = l.length := by simp at hi; omega
            subst this
            simp; omega

theorem addOf_wf {S : Sp} {N : Nat} (hS : WF S N) {j : Nat} {o : Ob} (ho : ObOk S.shapes N o) (n : ByteArray) (w : Int) : WF (addOf S j o n w) (N + 1) := by
  obtain ⟨h1, h2⟩ := stepSh_ok hS.sh ho n w
  refine ⟨h1, by simpa [addOf] using hS.no, fun x hx => ?_⟩
  simp only [addOf] at hx
  rcases List.mem_or_eq_of_mem_set hx with h | rfl
  · exact (hS.ob x h).mono (stepSh_old _ _ _) (by omega)
  · exact h2.mono (fun _ hk => ⟨hk, rfl⟩) (by have := ho.2.1; omega)

theorem WF.mono {S : Sp} {N N' : Nat} (h : WF S N) (hN : N ≤ N') : WF S N' := ⟨h.sh, h.no, fun o ho => (h.ob o ho).mono (fun _ hk => ⟨hk, rfl⟩) hN⟩

theorem setOb_wf {S : Sp} {N : Nat} (hS : WF S N) {j : Int} {o : Ob} (ho : ObOk S.shapes N o) : WF (setOb S j o) N := by
  refine ⟨hS.sh, by simpa [setOb] using hS.no, fun x hx => ?_⟩
  simp only [setOb] at hx
  rcases List.mem_or_eq_of_mem_set hx with h | rfl
  · exact hS.ob x h
  · exact ho

/- The loop of Delete. -/
theorem refill_end (S : Sp) (j i k : Nat) (ns : List ByteArray) (ws : List Int) (h : ns.length = ws.length) (hn : ns = []) : refill S j i k ns ws = S := by
  subst hn
  cases ws with
  | nil => rfl
  | cons => simp at h

theorem refill_step {S : Sp} {j i k : Nat} {ns : List ByteArray} {ws : List Int} (hk : k < ns.length) (hw : k < ws.length) :
    refill S j i k (ns.drop k) (ws.drop k) = if k = i then refill S j i (k + 1) (ns.drop (k + 1)) (ws.drop (k + 1)) else refill (addOf S j (S.objs.getD j ⟨0, [], [], false⟩) ns[k] ws[k]) j i (k + 1) (ns.drop (k + 1)) (ws.drop (k + 1)) := by
  rw [List.drop_eq_getElem_cons hk, List.drop_eq_getElem_cons hw]
  rfl

structure RefillAt (S0 : Sp) (j i : Nat) (ns : List ByteArray) (ws : List Int) (k : Nat) (S : Sp) : Prop where
  sh : ShOk S.shapes
  hj : j < S.objs.length
  ob : ObOk S.shapes k S.objs[j]
  eq : refill S0 j i 0 ns ws = refill S j i k (ns.drop k) (ws.drop k)

theorem RefillAt.skip {S0 S : Sp} {j i : Nat} {ns : List ByteArray} {ws : List Int} {k : Nat} (h : RefillAt S0 j i ns ws k S) (hk : k < ns.length) (hw : k < ws.length) (hi : k = i) : RefillAt S0 j i ns ws (k + 1) S :=
  ⟨h.sh, h.hj, h.ob.mono (fun _ hk => ⟨hk, rfl⟩) (by omega), by rw [h.eq, refill_step hk hw, if_pos hi]⟩

theorem RefillAt.add {S0 S : Sp} {j i : Nat} {ns : List ByteArray} {ws : List Int} {k : Nat} (h : RefillAt S0 j i ns ws k S) (hk : k < ns.length) (hw : k < ws.length) (hi : ¬ k = i) :
    RefillAt S0 j i ns ws (k + 1) (addOf S j (S.objs[j]'h.hj) ns[k] ws[k]) := by
  have hj := h.hj
  obtain ⟨h1, h2⟩ := stepSh_ok h.sh h.ob ns[k] ws[k]
  refine ⟨h1, by simpa [addOf] using hj, ?_, ?_⟩
  · simp only [addOf, List.getElem_set_self]
    exact h2.mono (fun _ hk => ⟨hk, rfl⟩) (by have := h.ob.2.1; omega)
  · rw [h.eq, refill_step hk hw, if_neg hi]
    congr 2
    simp [hj]

end Go.Proofs.Ythcndkpkkaphoaa

/- Names of shapes. -/
namespace Go.Proofs.Ythcndkpkkaphoaa
set_option linter.all false
open Go.Vc Go.Proofs
set_option linter.unusedSimpArgs false
set_option maxRecDepth 100000

/- (*cabochon/shape.Space).named -/
theorem named_ok (S : Sp) (hS : ShOk S.shapes) (k : Nat) (hk : k < S.shapes.length) : Meets Try.prog 56 [dSp S] (.cons (.ptr 0 [.d]) (.cons (.val (.int .i64 k)) .nil))
    fun av X κ => av = .sub 1 [] 0 S.shapes[k].names.length false ∧ X = [dSp S, .sl true () 1 (dStrs S.shapes[k].names)] ∧ κ = [] := by
  refine Meets.of_vs tabOk Try.func56 (body := ?_) ?_ (by kernel_rfl) Try.ntmps56 (rs := [.tmp 4]) (by kernel_rfl) rfl (by simp [AV.len]) (by simp only [envOf]; exact rfl) ?_
  rotate_left
  · rfl
  intro w0 I0 F0 hF
  repeat first
    | refine VS.seq ?_
    | refine VS.block ?_
    | (refine VS.region tabOk (id := 0) [] (by kernel_rfl) ?_; generalize hK : VS _ _ _ = KK; simp (maxSteps := 1000000) [hF]; (try subst hK); try (refine VS.keep [0, 1] ?_; generalize hK : VS _ _ _ = KK; simp; (try subst hK)))
    | (refine VS.region tabOk (id := 1) [] (by kernel_rfl) ?_; generalize hK : VS _ _ _ = KK; simp (maxSteps := 1000000) [hF]; (try subst hK); try (refine VS.keep [0, 1, 5] ?_; generalize hK : VS _ _ _ = KK; simp; (try subst hK)))
    | (refine VS.region tabOk (id := 2) [] (by kernel_rfl) ?_; generalize hK : VS _ _ _ = KK; simp (maxSteps := 1000000) [hF]; (try subst hK); try (refine VS.keep [0, 5, 6] ?_; generalize hK : VS _ _ _ = KK; simp; (try subst hK)))
  refine VS.hold0 5 1 (by simp) ?_
  refine VS.pick [6, 5, 0] [0, 1] (by simp [hF]) ?_
  generalize hK : VS _ _ _ = KK; simp [hF]; (try subst hK)
  refine VS.rounds (fun n st => ∃ (x : Nat) (hx : x < S.shapes.length) (t : List ByteArray), x = n ∧ S.shapes[k].names = S.shapes[x].names ++ t.reverse ∧ t.length ≤ 12 ∧
    st = ⟨[(6, .val (.int .i64 (x : Int))), (5, .sub 1 [] 0 t.length false), (0, .ptr 0 [.d])], [dSp S, .sl true () 1 (dStrs t)], [], []⟩) ⟨k, k, hk, [], rfl, by simp, by simp, by simp [dStrs_nil]⟩ ?_
  rintro n st ⟨x, hx, t, rfl, ht, htl, rfl⟩
  repeat first
    | refine VS.seq ?_
    | (refine VS.region tabOk (id := 3) [] (by kernel_rfl) ?_; generalize hK : VS _ _ _ = KK; simp (maxSteps := 1000000) [hF]; (try subst hK); try (refine VS.keep [0, 5, 6, 9] ?_; generalize hK : VS _ _ _ = KK; simp; (try subst hK)))
    | (refine VS.cond ?_; generalize hK1 : VS _ _ _ = KK1; generalize hK2 : VS _ _ _ = KK2; simp (maxSteps := 1000000) [hF]; (try subst hK1); (try subst hK2))
  refine ⟨fun hlt => ?_, fun hge => ?_⟩
  · have hn := dShs_nth hx
    have hx' : ((x : Nat) : Int) < S.shapes.length := by omega
    obtain ⟨p, hp, nm, h1, h2⟩ := hS.below x hx hlt
    have hd := hS.deep k hk
    repeat first
      | refine VS.seq ?_
      | refine VS.skip ?_
      | refine VS.block ?_
      | refine VS.nil ?_
      | refine blockN_normal ?_
      | refine loopN_normal ?_
      | refine ⟨⟨by omega, by omega⟩, ?_⟩
      | (refine VS.region tabOk (id := 4) [] (by kernel_rfl) ?_; generalize hK : VS _ _ _ = KK; simp (maxSteps := 1000000) [hF, dSp, hn, hx', dSh, dInt, dStr, hlt]; (try subst hK); try (refine VS.keep [0, 5, 6] ?_; generalize hK : VS _ _ _ = KK; simp; (try subst hK)))
      | (refine VS.region tabOk (id := 5) [] (by kernel_rfl) ?_; generalize hK : VS _ _ _ = KK; simp (maxSteps := 1000000) [hF, dSp, hn, hx', dSh, dInt, dStr, hlt]; (try subst hK); try (refine VS.keep [0, 5, 6] ?_; generalize hK : VS _ _ _ = KK; simp; (try subst hK)))
    refine nextK.of [6, 5, 0] [0, 1] (p) (by omega) (by simp [hF]) ?_
    refine ⟨p, by omega, t ++ [lastName S.shapes[x].names], rfl, ?_, ?_, ?_⟩
    · rw [ht, h2]; simp [lastName]
    · rw [ht, h2] at hd; simp at hd ⊢; omega
    · simp [dSp, h1]
  · obtain rfl : x = 0 := hge
    repeat first
      | refine VS.seq ?_
      | refine VS.exit ?_
      | (refine VS.region tabOk (id := 6) [] (by kernel_rfl) ?_; generalize hK : VS _ _ _ = KK; simp (maxSteps := 1000000) [hF]; (try subst hK); try (refine VS.keep [5] ?_; generalize hK : VS _ _ _ = KK; simp; (try subst hK)))
    refine (reverse_ok false t (by omega)).call [(1, [])] (by simp) (by simp (maxSteps := 1000000) [hF]) (by simp (maxSteps := 1000000) [hF]) (by simp (maxSteps := 1000000) [hF]) (by simp) ?_
    rintro av X κ ⟨rfl, rfl, rfl⟩
    generalize hK : VS _ _ _ = KK; simp (maxSteps := 1000000) [hF]; (try subst hK)
    repeat first
      | refine VS.seq ?_
      | (refine VS.region tabOk (id := 7) [] (by kernel_rfl) ?_; generalize hK : VS _ _ _ = KK; simp (maxSteps := 1000000) [hF]; (try subst hK); try (refine VS.keep [4] ?_; generalize hK : VS _ _ _ = KK; simp; (try subst hK)))
    have h0 := hS.root hx
    rw [h0] at ht
    simp only [List.nil_append] at ht
    try refine VS.ret ?_
    repeat first | refine blockN_ret ?_ | refine loopN_ret ?_
    refine endK.of [4] [0, 1] [] (by simp [hF]) (by simp [covers, mpre]) ?_
    simp [hF, retK, ht]

/-- An object as a value: its slices lie in the space. -/
def avOb (o : Ob) (j : Nat) : AV := .agg (.cons (.val (.int .i64 o.shape)) (.cons (.sub 0 [.d, .f 1, .i j, .f 1] 0 (ownOf o).length false) (.cons (.sub 0 [.d, .f 1, .i j, .f 2] 0 o.words.length false) (.cons (.val (.bool o.frozen)) .nil))))

/- (*cabochon/shape.Space).names -/
theorem names_ok (S : Sp) (hS : ShOk S.shapes) (j : Nat) (hj : j < S.objs.length) {N : Nat} (ho : ObOk S.shapes N S.objs[j]) (hN : N ≤ 1000000) : Meets Try.prog 42 [dSp S] (.cons (.ptr 0 [.d]) (.cons (avOb S.objs[j] j) .nil))
    fun av X κ => av = .sub 1 [] 0 S.objs[j].names.length false ∧ X = [dSp S, .sl true () 1 (dStrs S.objs[j].names)] ∧ κ = [] := by
  unfold avOb
  refine Meets.of_vs tabOk Try.func42 (body := ?_) ?_ (by kernel_rfl) Try.ntmps42 (rs := [.tmp 4]) (by kernel_rfl) rfl (by simp [AV.len]) (by simp only [envOf]; exact rfl) ?_
  rotate_left
  · rfl
  intro w0 I0 F0 hF
  repeat first
    | refine VS.seq ?_
    | (refine VS.region tabOk (id := 0) [] (by kernel_rfl) ?_; generalize hK : VS _ _ _ = KK; simp (maxSteps := 1000000) [hF]; (try subst hK); try (refine VS.keep [0, 3] ?_; generalize hK : VS _ _ _ = KK; simp; (try subst hK)))
    | (refine VS.region tabOk (id := 1) [] (by kernel_rfl) ?_; generalize hK : VS _ _ _ = KK; simp (maxSteps := 1000000) [hF]; (try subst hK); try (refine VS.keep [0, 3, 7] ?_; generalize hK : VS _ _ _ = KK; simp; (try subst hK)))
    | (refine VS.cond ?_; generalize hK1 : VS _ _ _ = KK1; generalize hK2 : VS _ _ _ = KK2; simp (maxSteps := 1000000) [hF]; (try subst hK1); (try subst hK2))
  have hnl := ho.names_len
  refine ⟨fun hc => ?_, fun hc => ?_⟩
  · have how : ownOf S.objs[j] = S.objs[j].names := by simp [ownOf, hc]
    repeat first
      | refine VS.seq ?_
      | (refine VS.region tabOk (id := 2) [] (by kernel_rfl) ?_; generalize hK : VS _ _ _ = KK; simp (maxSteps := 1000000) [hF]; (try subst hK); try (refine VS.keep [4] ?_; generalize hK : VS _ _ _ = KK; simp; (try subst hK)))
    refine (cloneStr_ok true false (ownOf S.objs[j]) (by rw [how]; omega)).call [(0, [.d, .f 1, .i j, .f 1])] (by simp) (by simp (maxSteps := 1000000) [hF, dSp, dObs_at hj, hj, setN_of (dObs_at hj)]) (by simp (maxSteps := 1000000) [hF, dSp, dObs_at hj, hj, setN_of (dObs_at hj)]) (by simp (maxSteps := 1000000) [hF, dSp, dObs_at hj, hj, setN_of (dObs_at hj)]) (by simp) ?_
    rintro av X κ ⟨rfl, rfl, rfl⟩
    generalize hK : VS _ _ _ = KK; simp (maxSteps := 1000000) [hF, dSp, dObs_at hj, hj, setN_of (dObs_at hj)]; (try subst hK)
    rw [← how]
    try refine VS.ret ?_
    repeat first | refine blockN_ret ?_ | refine loopN_ret ?_
    refine endK.of [4] [0, 2] [] (by simp [hF]) (by simp [covers, mpre]) ?_
    simp [hF, retK, dSp]
  · have hsh := ho.2.2.resolve_left hc
    obtain ⟨k, hk, h1, h2⟩ := hsh
    repeat first
      | refine VS.seq ?_
      | refine VS.skip ?_
      | (refine VS.region tabOk (id := 3) [] (by kernel_rfl) ?_; generalize hK : VS _ _ _ = KK; simp (maxSteps := 1000000) [hF, h1]; (try subst hK); try (refine VS.keep [4] ?_; generalize hK : VS _ _ _ = KK; simp; (try subst hK)))
    refine (named_ok S hS k hk).call [(0, [])] (by simp) (by simp (maxSteps := 1000000) [hF, dSp]) (by simp (maxSteps := 1000000) [hF, dSp]) (by simp (maxSteps := 1000000) [hF, dSp]) (by simp) ?_
    rintro av X κ ⟨rfl, rfl, rfl⟩
    generalize hK : VS _ _ _ = KK; simp (maxSteps := 1000000) [hF, dSp]; (try subst hK)
    try refine VS.ret ?_
    repeat first | refine blockN_ret ?_ | refine loopN_ret ?_
    refine endK.of [4] [0, 2] [] (by simp [hF]) (by simp [covers, mpre]) ?_
    simp [hF, retK, dSp, h2]

/-- Two shapes are asked to be the same. -/
theorem eqSh {op : BinOp} {a b : Int} {s u : ByteArray} {K : AV → Prop} (h : eqVc op (decide (a = b) && decide (s = u)) K) :
    EqK Try.prog 70 op (.cons (.val (.int .i64 a)) (.cons (.val (.string s)) .nil)) (.cons (.val (.int .i64 b)) (.cons (.val (.string u)) .nil)) K := by
  refine ⟨_, ⟨Try.eqGuardType70, fun h I F xs ys w h1 h2 => ?_⟩, h⟩
  obtain ⟨_, _, rfl, ⟨rfl, _⟩, _, _, rfl, ⟨rfl, _⟩, rfl⟩ := h1
  obtain ⟨_, _, rfl, ⟨rfl, _⟩, _, _, rfl, ⟨rfl, _⟩, rfl⟩ := h2
  have key : ∀ d, (Op.equalIn (d + 2) 70 (.agg #[.int .i64 a, .string s]) (.agg #[.int .i64 b, .string u])).run Try.prog w = .ok (decide (a = b) && decide (s = u)) w := fun d => by
    simp [Op.equalIn, run_underlying Try.underlying70, run_underlying Try.underlying3, run_underlying Try.underlying9, Try.stoodInHeld70, part]
    by_cases h1 : a = b <;> by_cases h2 : s = u <;> simp [h1, h2, beqBytes]
  exact key 9998

/- (*cabochon/shape.Space).below -/
theorem below_ok (S : Sp) (hS : ShOk S.shapes) (p : Int) (n0 : ByteArray) : Meets Try.prog 66 [dSp S] (.cons (.ptr 0 [.d]) (.cons (.val (.int .i64 p)) (.cons (.val (.string n0)) .nil)))
    fun av X κ => av = .val (.int .i64 (belowOf S.shapes p n0)) ∧ X = [dSp S] ∧ κ = [] := by
  refine Meets.of_vs tabOk Try.func66 (body := ?_) ?_ (by kernel_rfl) Try.ntmps66 (rs := [.tmp 6]) (by kernel_rfl) rfl (by simp [AV.len]) (by simp only [envOf]; exact rfl) ?_
  rotate_left
  · rfl
  intro w0 I0 F0 hF
  repeat first
    | refine VS.seq ?_
    | refine VS.block ?_
    | (refine VS.region tabOk (id := 0) [] (by kernel_rfl) ?_; generalize hK : VS _ _ _ = KK; simp (maxSteps := 1000000) [hF, dSp]; (try subst hK); try (refine VS.keep [0, 1, 2] ?_; generalize hK : VS _ _ _ = KK; simp; (try subst hK)))
    | (refine VS.region tabOk (id := 1) [] (by kernel_rfl) ?_; generalize hK : VS _ _ _ = KK; simp (maxSteps := 1000000) [hF, dSp]; (try subst hK); try (refine VS.keep [0, 1, 2, 12, 13] ?_; generalize hK : VS _ _ _ = KK; simp; (try subst hK)))
  have hns := hS.ns
  refine VS.pick [13, 12, 0, 1, 2] [0] (by simp [hF]) ?_
  generalize hK : VS _ _ _ = KK; simp [hF]; (try subst hK)
  refine VS.rounds (fun n st => ∃ (i : Nat), i + n = S.shapes.length ∧ (∀ j, j < i → ∀ hj : j < S.shapes.length, (decide (S.shapes[j].parent = p) && decide (lastName S.shapes[j].names = n0)) = false) ∧
    st = ⟨[(13, .val (.int .i64 (i : Int))), (12, .val (.int .i64 (S.shapes.length : Int))), (0, .ptr 0 [.d]), (1, .val (.int .i64 p)), (2, .val (.string n0))], [dSp S], [], []⟩) ⟨S.shapes.length, 0, by simp, by simp, by simp [dSp]⟩ ?_
  rintro n st ⟨i, hi, hall, rfl⟩
  repeat first
    | refine VS.seq ?_
    | (refine VS.region tabOk (id := 2) [] (by kernel_rfl) ?_; generalize hK : VS _ _ _ = KK; simp (maxSteps := 1000000) [hF]; (try subst hK); try (refine VS.keep [0, 1, 2, 12, 13, 14] ?_; generalize hK : VS _ _ _ = KK; simp; (try subst hK)))
    | (refine VS.cond ?_; generalize hK1 : VS _ _ _ = KK1; generalize hK2 : VS _ _ _ = KK2; simp (maxSteps := 1000000) [hF]; (try subst hK1); (try subst hK2))
  refine ⟨fun hlt => ?_, fun hge => ?_⟩
  · have hn := dShs_nth hlt
    repeat first
      | refine VS.seq ?_
      | refine VS.skip ?_
      | refine VS.block ?_
      | (refine VS.region tabOk (id := 3) [] (by kernel_rfl) ?_; generalize hK : VS _ _ _ = KK; simp (maxSteps := 1000000) [hF, dSp, hlt, hn, dSh, dInt, dStr]; (try subst hK); try (refine VS.keep [0, 1, 2, 7, 12, 13] ?_; generalize hK : VS _ _ _ = KK; simp; (try subst hK)))
      | (refine VS.region tabOk (id := 4) [] (by kernel_rfl) ?_; generalize hK : VS _ _ _ = KK; simp (maxSteps := 1000000) [hF, dSp, hlt, hn, dSh, dInt, dStr]; (try subst hK); try (refine VS.keep [0, 1, 2, 7, 12, 13, 26] ?_; generalize hK : VS _ _ _ = KK; simp; (try subst hK)))
    refine eqSh ?_
    generalize hK : VS _ _ _ = KK; simp (maxSteps := 1000000) [hF]; (try subst hK)
    repeat first
      | (refine VS.cond ?_; generalize hK1 : VS _ _ _ = KK1; generalize hK2 : VS _ _ _ = KK2; simp (maxSteps := 1000000) [hF]; (try subst hK1); (try subst hK2))
    refine ⟨fun h1 h2 => ?_, fun h => ?_⟩
    · repeat first
        | refine VS.seq ?_
        | (refine VS.region tabOk (id := 5) [] (by kernel_rfl) ?_; generalize hK : VS _ _ _ = KK; simp (maxSteps := 1000000) [hF]; (try subst hK); try (refine VS.keep [6] ?_; generalize hK : VS _ _ _ = KK; simp; (try subst hK)))
      try refine VS.ret ?_
      repeat first | refine blockN_ret ?_ | refine loopN_ret ?_
      refine endK.of [6] [0] [] (by simp [hF]) (by simp [covers, mpre]) ?_
      simp [hF, retK, dSp]
      exact (posBy_at hlt (by simp [h1, h2]) hall).symm
    · repeat first
        | refine VS.skip ?_
        | refine VS.nil ?_
        | refine blockN_normal ?_
        | refine loopN_normal ?_
        | (refine VS.region tabOk (id := 6) [] (by kernel_rfl) ?_; generalize hK : VS _ _ _ = KK; simp (maxSteps := 1000000) [hF]; (try subst hK); try (refine VS.keep [0, 1, 2, 12, 13] ?_; generalize hK : VS _ _ _ = KK; simp; (try subst hK)))
      refine nextK.of [13, 12, 0, 1, 2] [0] (n - 1) (by omega) (by simp [hF]) ?_
      refine ⟨i + 1, by omega, ?_, ?_⟩
      · intro j hj hj'
        rcases Nat.lt_or_ge j i with h' | h'
        · exact hall j h' hj'
        · obtain rfl : j = i := by omega
          simpa using h
      · simp [dSp]
        exact IntWalk.i64_in _ (by omega)
  · repeat first
      | refine VS.seq ?_
      | refine VS.exit ?_
      | (refine VS.region tabOk (id := 7) [] (by kernel_rfl) ?_; generalize hK : VS _ _ _ = KK; simp (maxSteps := 1000000) [hF]; (try subst hK); try (refine VS.keep [6] ?_; generalize hK : VS _ _ _ = KK; simp; (try subst hK)))
    try refine VS.ret ?_
    repeat first | refine blockN_ret ?_ | refine loopN_ret ?_
    refine endK.of [6] [0] [] (by simp [hF]) (by simp [covers, mpre]) ?_
    simp [hF, retK]
    exact (posBy_none fun j hj => hall j (by omega) hj).symm
end Go.Proofs.Ythcndkpkkaphoaa

/- Asking, and adding a name. -/
namespace Go.Proofs.Ythcndkpkkaphoaa
set_option linter.all false
open Go.Vc Go.Proofs
set_option linter.unusedSimpArgs false
set_option maxRecDepth 100000
set_option maxHeartbeats 4000000

/- (*cabochon/shape.Space).ask -/
theorem ask_ok (S : Sp) (o : Int) (n : ByteArray) (change : Bool) : Meets Try.prog 40 [dSp S] (.cons (.ptr 0 [.d]) (.cons (.val (.int .i64 o)) (.cons (.val (.string n)) (.cons (.val (.bool change)) .nil))))
    fun av X κ => av = .val (.int .i64 (askOf S o n change)) ∧ X = [dSp S] ∧ κ = [] := by
  refine Meets.of_vs tabOk Try.func40 (body := ?_) ?_ (by kernel_rfl) Try.ntmps40 (rs := [.tmp 8]) (by kernel_rfl) rfl (by simp [AV.len]) (by simp only [envOf]; exact rfl) ?_
  rotate_left
  · rfl
  intro w0 I0 F0 hF
  repeat first
    | refine VS.seq ?_
    | refine VS.block ?_
    | (refine VS.region tabOk (id := 0) [] (by kernel_rfl) ?_; generalize hK : VS _ _ _ = KK; simp (maxSteps := 1000000) [hF]; (try subst hK); try (refine VS.keep [0, 1, 2, 3] ?_; generalize hK : VS _ _ _ = KK; simp; (try subst hK)))
    | (refine VS.region tabOk (id := 1) [] (by kernel_rfl) ?_; generalize hK : VS _ _ _ = KK; simp (maxSteps := 1000000) [hF]; (try subst hK); try (refine VS.keep [0, 1, 2, 3, 9] ?_; generalize hK : VS _ _ _ = KK; simp; (try subst hK)))
  refine (has_ok S o).call [(0, [])] (by simp) (by simp (maxSteps := 1000000) [hF, dSp]) (by simp (maxSteps := 1000000) [hF, dSp]) (by simp (maxSteps := 1000000) [hF, dSp]) (by simp) ?_
  rintro av X κ ⟨rfl, rfl, rfl⟩
  generalize hK : VS _ _ _ = KK; simp (maxSteps := 1000000) [hF, dSp]; (try subst hK)
  repeat first
    | (refine VS.cond ?_; generalize hK1 : VS _ _ _ = KK1; generalize hK2 : VS _ _ _ = KK2; simp (maxSteps := 1000000) [hF]; (try subst hK1); (try subst hK2))
  refine ⟨fun h => ?_, fun h => ?_⟩
  · repeat first
      | refine VS.seq ?_
      | (refine VS.region tabOk (id := 2) [] (by kernel_rfl) ?_; generalize hK : VS _ _ _ = KK; simp (maxSteps := 1000000) [hF]; (try subst hK); try (refine VS.keep [8] ?_; generalize hK : VS _ _ _ = KK; simp; (try subst hK)))
    try refine VS.ret ?_
    repeat first | refine blockN_ret ?_ | refine loopN_ret ?_
    refine endK.of [8] [0] [] (by simp [hF]) (by simp [covers, mpre]) ?_
    simp [hF, retK, dSp, askOf, h]
  · obtain ⟨j, rfl, hj, h0⟩ := hasB_true h
    repeat' first
      | refine VS.seq ?_
      | refine VS.skip ?_
      | refine VS.nil ?_
      | (refine VS.region tabOk (id := 3) [(2, 17)] (by kernel_rfl) ?_; generalize hK : VS _ _ _ = KK; simp (maxSteps := 1000000) [hF, dSp, dObs_at hj, hj, h]; (try subst hK); try (refine VS.keep [0, 1, 3, 14] ?_; generalize hK : VS _ _ _ = KK; simp; (try subst hK)))
      | (refine VS.region tabOk (id := 4) [] (by kernel_rfl) ?_; generalize hK : VS _ _ _ = KK; simp (maxSteps := 1000000) [hF, dSp, dObs_at hj, hj, h]; (try subst hK); try (refine VS.keep [8] ?_; generalize hK : VS _ _ _ = KK; simp; (try subst hK)))
      | (refine VS.region tabOk (id := 5) [(1, 24)] (by kernel_rfl) ?_; generalize hK : VS _ _ _ = KK; simp (maxSteps := 1000000) [hF, dSp, dObs_at hj, hj, h]; (try subst hK); try (refine VS.keep [22] ?_; generalize hK : VS _ _ _ = KK; simp; (try subst hK)))
      | (refine VS.region tabOk (id := 6) [] (by kernel_rfl) ?_; generalize hK : VS _ _ _ = KK; simp (maxSteps := 1000000) [hF, dSp, dObs_at hj, hj, h]; (try subst hK); try (refine VS.keep [8] ?_; generalize hK : VS _ _ _ = KK; simp; (try subst hK)))
      | (refine VS.region tabOk (id := 7) [] (by kernel_rfl) ?_; generalize hK : VS _ _ _ = KK; simp (maxSteps := 1000000) [hF, dSp, dObs_at hj, hj, h]; (try subst hK); try (refine VS.keep [8] ?_; generalize hK : VS _ _ _ = KK; simp; (try subst hK)))
      | (refine VS.cond ?_; generalize hK1 : VS _ _ _ = KK1; generalize hK2 : VS _ _ _ = KK2; simp (maxSteps := 1000000) [hF, dSp, dObs_at hj, hj, h]; (try subst hK1); (try subst hK2))
      | refine And.intro (fun _ => ?_) (fun _ => ?_)
    all_goals try refine VS.ret ?_
    all_goals repeat first | refine blockN_ret ?_ | refine loopN_ret ?_
    all_goals refine endK.of [8] [0] [] (by simp [hF]) (by simp [covers, mpre]) ?_
    all_goals simp [hF, retK, dSp, askOf, h, obAt_eq hj, *]
    all_goals omega

abbrev addK : List (Nat × Path) := [(0, [.d, .f 0]), (0, [.d, .f 1, .i 0, .f 1]), (0, [.d, .f 1, .i 0, .f 2])]

/- (*cabochon/shape.Space).add -/
theorem add_ok (S : Sp) (hS : ShOk S.shapes) (j : Nat) (hj : j < S.objs.length) {N : Nat} (ho : ObOk S.shapes N S.objs[j]) (hN : N < 1000000) (n : ByteArray) (w : Int) : Meets Try.prog 43 [dSp S] (.cons (.ptr 0 [.d]) (.cons (.ptr 0 [.d, .f 1, .i j]) (.cons (.val (.string n)) (.cons (.val (.int .i64 w)) .nil))))
    fun av X κ => av = .tup .nil ∧ X = [dSp (addOf S j S.objs[j] n w)] ∧ κ = addK := by
  refine Meets.of_vs tabOk Try.func43 (body := ?_) ?_ (by kernel_rfl) Try.ntmps43 (rs := []) (by kernel_rfl) rfl (by simp [AV.len]) (by simp only [envOf]; exact rfl) ?_
  rotate_left
  · rfl
  intro w0 I0 F0 hF
  repeat first
    | refine VS.seq ?_
    | (refine VS.region tabOk (id := 0) [] (by kernel_rfl) ?_; generalize hK : VS _ _ _ = KK; simp (maxSteps := 1000000) [hF, dSp, dObs_at hj, hj]; (try subst hK); try (refine VS.keep [0, 1, 2, 3, 8] ?_; generalize hK : VS _ _ _ = KK; simp; (try subst hK)))
  have hsize := ho.names_len
  refine (names_ok S hS j hj ho (by omega)).call [(0, [])] (by simp) (by simp (maxSteps := 1000000) [hF, dSp, avOb, dObs_at hj, hj]) (by simp (maxSteps := 1000000) [hF, dSp, avOb, dObs_at hj, hj]) (by simp (maxSteps := 1000000) [hF, dSp, avOb, dObs_at hj, hj]) (by simp) ?_
  rintro av X κ ⟨rfl, rfl, rfl⟩
  generalize hK : VS _ _ _ = KK; simp (maxSteps := 1000000) [hF, dSp, avOb, dObs_at hj, hj]; (try subst hK)
  repeat first
    | refine VS.seq ?_
    | (refine VS.region tabOk (id := 1) [] (by kernel_rfl) ?_; generalize hK : VS _ _ _ = KK; simp (maxSteps := 1000000) [hF, dSp, dObs_at hj, hj]; (try subst hK); try (refine VS.keep [0, 1, 2, 8] ?_; generalize hK : VS _ _ _ = KK; simp; (try subst hK)))
  refine (clipInt_ok true false S.objs[j].words).call [(0, [.d, .f 1, .i j, .f 2])] (by simp) (by simp (maxSteps := 1000000) [hF, dSp, dObs_at hj, hj, setN_of (dObs_at hj), dInts_app1]) (by simp (maxSteps := 1000000) [hF, dSp, dObs_at hj, hj, setN_of (dObs_at hj), dInts_app1]) (by simp (maxSteps := 1000000) [hF, dSp, dObs_at hj, hj, setN_of (dObs_at hj), dInts_app1]) (by simp) ?_
  rintro av X κ ⟨rfl, rfl, rfl⟩
  generalize hK : VS _ _ _ = KK; simp (maxSteps := 1000000) [hF, dSp, dObs_at hj, hj, setN_of (dObs_at hj), dInts_app1]; (try subst hK)
  have hjl : j < (dObs S.objs).len := by simpa using hj
  have hwl := ho.1
  repeat first
    | refine VS.seq ?_
    | refine ⟨⟨by omega, by omega⟩, ?_⟩
    | (refine VS.region tabOk (id := 2) [] (by kernel_rfl) ?_; generalize hK : VS _ _ _ = KK; simp (maxSteps := 1000000) [hF, dSp, dObs_at hj, hj, T.nth_setN_same _ hjl]; (try subst hK); try (refine VS.keep [0, 1, 2, 8, 30] ?_; generalize hK : VS _ _ _ = KK; simp; (try subst hK)))
    | (refine VS.cond ?_; generalize hK1 : VS _ _ _ = KK1; generalize hK2 : VS _ _ _ = KK2; simp (maxSteps := 1000000) [hF, dSp, dObs_at hj, hj, T.nth_setN_same _ hjl]; (try subst hK1); (try subst hK2))
  have e2 := (dObs_set S.objs j (addOb S.shapes S.objs[j] n w)).symm
  refine ⟨fun hc => ?_, fun hc => ?_⟩
  · repeat first
      | refine VS.seq ?_
      | refine ⟨⟨by omega, by omega⟩, ?_⟩
      | (refine VS.region tabOk (id := 3) [] (by kernel_rfl) ?_; generalize hK : VS _ _ _ = KK; simp (maxSteps := 1000000) [hF, dSp, dObs_at hj, hj, T.nth_setN_same _ hjl]; (try subst hK); try (refine VS.keep [] ?_; generalize hK : VS _ _ _ = KK; simp; (try subst hK)))
    try refine VS.ret ?_
    repeat first | refine blockN_ret ?_ | refine loopN_ret ?_
    refine endK.of [] [0] addK (by simp [hF]) (by simp [covers, mpre]) ?_
    simp [hF, retK, dSp, addOf]
    rw [e2]
    simp [addOb, stepSh, ownOf, hc]
  · have e1 : T.setN (dObs S.objs) j (.agg (.cons (.val (.int .i64 S.objs[j].shape)) (.cons (.sl true () 1 (dStrs (ownOf S.objs[j]))) (.cons (.sl true () 1 (dInts (S.objs[j].words ++ [w]))) (.cons (.val (.bool S.objs[j].frozen)) .nil))))) =
      dObs (S.objs.set j ⟨S.objs[j].shape, S.objs[j].names, S.objs[j].words ++ [w], S.objs[j].frozen⟩) := dObs_set S.objs j ⟨S.objs[j].shape, S.objs[j].names, S.objs[j].words ++ [w], S.objs[j].frozen⟩
    have hns := hS.ns
    repeat first
      | refine VS.seq ?_
      | refine VS.skip ?_
      | (refine VS.region tabOk (id := 4) [] (by kernel_rfl) ?_; generalize hK : VS _ _ _ = KK; simp (maxSteps := 1000000) [hF, dSp, dObs_at hj, hj, T.nth_setN_same _ hjl]; (try subst hK); try (refine VS.keep [0, 1, 2, 8, 9] ?_; generalize hK : VS _ _ _ = KK; simp; (try subst hK)))
    refine (below_ok ⟨S.shapes, S.objs.set j ⟨S.objs[j].shape, S.objs[j].names, S.objs[j].words ++ [w], S.objs[j].frozen⟩⟩ hS S.objs[j].shape n).call [(0, [])] (by simp) (by simp (maxSteps := 1000000) [hF, dSp, e1.symm]) (by simp (maxSteps := 1000000) [hF, dSp, e1.symm]) (by simp (maxSteps := 1000000) [hF, dSp, e1.symm]) (by simp) ?_
    rintro av X κ ⟨rfl, rfl, rfl⟩
    generalize hK : VS _ _ _ = KK; simp (maxSteps := 1000000) [hF, dSp, e1.symm]; (try subst hK)
    have how : ownOf S.objs[j] = [] := by simp [ownOf, hc]
    by_cases c1 : (12 : Int) ≤ S.objs[j].names.length
    · have c1' : 12 ≤ S.objs[j].names.length := by omega
      have c1n : ¬ (S.objs[j].names.length : Int) < 12 := by omega
      repeat first
        | refine VS.seq ?_
        | refine VS.block ?_
        | refine ⟨⟨by omega, by omega⟩, ?_⟩
        | (refine VS.region tabOk (id := 5) [(3, 49), (6, 52)] (by kernel_rfl) ?_; generalize hK : VS _ _ _ = KK; simp (maxSteps := 1000000) [hF, dSp, dObs_at hj, hj, T.nth_setN_same _ hjl, c1, c1n]; (try subst hK); try (refine VS.keep [0, 1, 2, 8, 9, 45] ?_; generalize hK : VS _ _ _ = KK; simp; (try subst hK)))
        | (refine VS.region tabOk (id := 6) [] (by kernel_rfl) ?_; generalize hK : VS _ _ _ = KK; simp (maxSteps := 1000000) [hF, dSp, dObs_at hj, hj, T.nth_setN_same _ hjl, c1, c1n]; (try subst hK); try (refine VS.keep [] ?_; generalize hK : VS _ _ _ = KK; simp; (try subst hK)))
        | (refine VS.cond ?_; generalize hK1 : VS _ _ _ = KK1; generalize hK2 : VS _ _ _ = KK2; simp (maxSteps := 1000000) [hF, dSp, dObs_at hj, hj, T.nth_setN_same _ hjl, c1, c1n]; (try subst hK1); (try subst hK2))
      try refine VS.ret ?_
      repeat first | refine blockN_ret ?_ | refine loopN_ret ?_
      refine endK.of [] [0] addK (by simp [hF]) (by simp [covers, mpre]) ?_
      simp [hF, retK, dSp, addOf]
      rw [e2]
      simp [addOb, stepSh, ownOf, c1']
    have c1' : ¬ 12 ≤ S.objs[j].names.length := by omega
    have d1 : (S.objs[j].names.length : Int) < 12 := by omega
    by_cases c2 : belowOf S.shapes S.objs[j].shape n < 0
    · have c2' : ¬ 0 ≤ belowOf S.shapes S.objs[j].shape n := by omega
      by_cases c3 : (200 : Int) ≤ S.shapes.length
      · have c3n : ¬ (S.shapes.length : Int) < 200 := by omega
        repeat first
          | refine VS.seq ?_
          | refine VS.block ?_
          | refine ⟨⟨by omega, by omega⟩, ?_⟩
          | (refine VS.region tabOk (id := 5) [(3, 49), (6, 52)] (by kernel_rfl) ?_; generalize hK : VS _ _ _ = KK; simp (maxSteps := 1000000) [hF, dSp, dObs_at hj, hj, T.nth_setN_same _ hjl, c1, d1, c2, c2', c3, c3n]; (try subst hK); try (refine VS.keep [0, 1, 2, 8, 9, 45] ?_; generalize hK : VS _ _ _ = KK; simp; (try subst hK)))
          | (refine VS.region tabOk (id := 6) [] (by kernel_rfl) ?_; generalize hK : VS _ _ _ = KK; simp (maxSteps := 1000000) [hF, dSp, dObs_at hj, hj, T.nth_setN_same _ hjl, c1, d1, c2, c2', c3, c3n]; (try subst hK); try (refine VS.keep [] ?_; generalize hK : VS _ _ _ = KK; simp; (try subst hK)))
          | (refine VS.cond ?_; generalize hK1 : VS _ _ _ = KK1; generalize hK2 : VS _ _ _ = KK2; simp (maxSteps := 1000000) [hF, dSp, dObs_at hj, hj, T.nth_setN_same _ hjl, c1, d1, c2, c2', c3, c3n]; (try subst hK1); (try subst hK2))
        try refine VS.ret ?_
        repeat first | refine blockN_ret ?_ | refine loopN_ret ?_
        refine endK.of [] [0] addK (by simp [hF]) (by simp [covers, mpre]) ?_
        simp [hF, retK, dSp, addOf]
        rw [e2]
        have c3' : 200 ≤ S.shapes.length := by omega
        simp [addOb, stepSh, ownOf, c1', hc, c2', c3']
      · have d3 : (S.shapes.length : Int) < 200 := by omega
        repeat first
          | refine VS.seq ?_
          | refine VS.block ?_
          | (refine VS.region tabOk (id := 5) [(3, 49), (6, 52)] (by kernel_rfl) ?_; generalize hK : VS _ _ _ = KK; simp (maxSteps := 1000000) [hF, dSp, dObs_at hj, hj, T.nth_setN_same _ hjl, c1, d1, c2, c2', c3, d3]; (try subst hK); try (refine VS.keep [0, 1, 2, 8, 9, 45] ?_; generalize hK : VS _ _ _ = KK; simp; (try subst hK)))
          | (refine VS.region tabOk (id := 7) [] (by kernel_rfl) ?_; generalize hK : VS _ _ _ = KK; simp (maxSteps := 1000000) [hF, dSp, dObs_at hj, hj, T.nth_setN_same _ hjl, c1, d1, c2, c2', c3, d3]; (try subst hK); try (refine VS.keep [0, 1, 2, 9, 71] ?_; generalize hK : VS _ _ _ = KK; simp; (try subst hK)))
          | (refine VS.region tabOk (id := 8) [] (by kernel_rfl) ?_; generalize hK : VS _ _ _ = KK; simp (maxSteps := 1000000) [hF, dSp, dObs_at hj, hj, T.nth_setN_same _ hjl, c1, d1, c2, c2', c3, d3]; (try subst hK); try (refine VS.keep [0, 1, 2, 9] ?_; generalize hK : VS _ _ _ = KK; simp; (try subst hK)))
          | (refine VS.cond ?_; generalize hK1 : VS _ _ _ = KK1; generalize hK2 : VS _ _ _ = KK2; simp (maxSteps := 1000000) [hF, dSp, dObs_at hj, hj, T.nth_setN_same _ hjl, c1, d1, c2, c2', c3, d3]; (try subst hK1); (try subst hK2))
        refine VS.lift 0 [.d, .f 0] (by simp) (by simp) (by simp [isNode]) (by simp) ?_
        generalize hK : VS _ _ _ = KK; simp (maxSteps := 1000000) [hF, St.lift, AV.lift, liftPl, stripP, nodeAV]; (try subst hK)
        have hpush := dShs_push S.shapes ⟨S.objs[j].shape, S.objs[j].names ++ [n]⟩
        simp only [lastName, List.getLastD_concat] at hpush
        repeat first
          | refine VS.nil ?_
          | refine blockN_normal ?_
          | refine ⟨⟨by omega, by omega⟩, ?_⟩
          | (refine VS.drawn tabOk mixedOk (id := 9) [] [⟨0, 1, 604462909807314587353088, 5⟩, ⟨0, 1, 1208925819614629174706176, 5⟩, ⟨2, 1208925819614629174706176, 2417851639229258349412352, 5⟩, ⟨4, 2417851639229258349412352, 4835703278458516698824704, 5⟩, ⟨8, 4835703278458516698824704, 9671406556917033397649408, 6⟩, ⟨0, 2, 19342813113834066795298816, 5⟩, ⟨32, 19342813113834066795298816, 38685626227668133590597632, 5⟩, ⟨64, 38685626227668133590597632, 77371252455336267181195264, 5⟩, ⟨128, 77371252455336267181195264, 154742504910672534362390528, 6⟩, ⟨0, 4, 309485009821345068724781056, 5⟩, ⟨768, 464227514732017603087171584, 618970019642690137449562112, 5⟩, ⟨1024, 618970019642690137449562112, 1237940039285380274899124224, 4⟩, ⟨2064, 1247611445842297308296773632, 2475880078570760549798248448, 0⟩, ⟨8191, 604462909807314587353088, 4951760157141521099596496896, 5⟩, ⟨16383, 4951760157141521099596496896, 9903520314283042199192993792, 5⟩, ⟨24575, 12379400392853802748991242240, 0, 0⟩] (.take 0 (.take 1 (.take 2 (.take 3 (.take 4 (.take 5 (.take 6 (.take 7 (.take 8 (.take 9 (.take 10 (.fork (.alt 11 (.fork (.alt 12 (.take 13 (.take 14 (.fork (.alt 15 (.done) (.nil))))) (.nil))) (.nil)))))))))))))) (.run [0, 1, 2, 3, 4, 5, 6, 7, 8, 9, 10, 11, 12, 13, 14, 15] (.done)) (by kernel_rfl) (by kernel_rfl) (by kernel_rfl) ?_; generalize hK : VS _ _ _ = KK; simp only [opsVc_run, opsVc_both, opsVc_chk, opsVc_done, opsVc_yes, pick_cons, pick_nil, List.getElem?_cons_zero, List.getElem?_cons_succ]; simp (maxSteps := 1000000) [hF, dSp, dObs_at hj, hj, T.nth_setN_same _ hjl, c1, d1, c2, c2', c3, d3, hpush]; (try subst hK); try (refine VS.keep [1, 9] ?_; generalize hK : VS _ _ _ = KK; simp; (try subst hK)))
          | (refine VS.region tabOk (id := 10) [] (by kernel_rfl) ?_; generalize hK : VS _ _ _ = KK; simp (maxSteps := 1000000) [hF, dSp, dObs_at hj, hj, T.nth_setN_same _ hjl, c1, d1, c2, c2', c3, d3, hpush]; (try subst hK); try (refine VS.keep [] ?_; generalize hK : VS _ _ _ = KK; simp; (try subst hK)))
        try refine VS.ret ?_
        repeat first | refine blockN_ret ?_ | refine loopN_ret ?_
        refine endK.of [] [0] addK (by simp [hF]) (by simp [covers, mpre]) ?_
        simp [hF, retK, dSp, addOf, hpush]
        rw [e2]
        have c3' : ¬ 200 ≤ S.shapes.length := by omega
        have c4' : ¬ (S.shapes.length : Int) = -1 := by omega
        simp [addOb, stepSh, ownOf, c1', hc, c2', c3', c4']
    · have d2 : 0 ≤ belowOf S.shapes S.objs[j].shape n := by omega
      repeat first
        | refine VS.seq ?_
        | refine VS.skip ?_
        | refine VS.block ?_
        | refine VS.nil ?_
        | refine blockN_normal ?_
        | (refine VS.region tabOk (id := 5) [(3, 49), (6, 52)] (by kernel_rfl) ?_; generalize hK : VS _ _ _ = KK; simp (maxSteps := 1000000) [hF, dSp, dObs_at hj, hj, T.nth_setN_same _ hjl, c1, d1, c2, d2]; (try subst hK); try (refine VS.keep [0, 1, 2, 8, 9, 45] ?_; generalize hK : VS _ _ _ = KK; simp; (try subst hK)))
        | (refine VS.region tabOk (id := 7) [] (by kernel_rfl) ?_; generalize hK : VS _ _ _ = KK; simp (maxSteps := 1000000) [hF, dSp, dObs_at hj, hj, T.nth_setN_same _ hjl, c1, d1, c2, d2]; (try subst hK); try (refine VS.keep [0, 1, 2, 9, 71] ?_; generalize hK : VS _ _ _ = KK; simp; (try subst hK)))
        | (refine VS.region tabOk (id := 10) [] (by kernel_rfl) ?_; generalize hK : VS _ _ _ = KK; simp (maxSteps := 1000000) [hF, dSp, dObs_at hj, hj, T.nth_setN_same _ hjl, c1, d1, c2, d2]; (try subst hK); try (refine VS.keep [] ?_; generalize hK : VS _ _ _ = KK; simp; (try subst hK)))
        | (refine VS.cond ?_; generalize hK1 : VS _ _ _ = KK1; generalize hK2 : VS _ _ _ = KK2; simp (maxSteps := 1000000) [hF, dSp, dObs_at hj, hj, T.nth_setN_same _ hjl, c1, d1, c2, d2]; (try subst hK1); (try subst hK2))
      try refine VS.ret ?_
      repeat first | refine blockN_ret ?_ | refine loopN_ret ?_
      refine endK.of [] [0] addK (by simp [hF]) (by simp [covers, mpre]) ?_
      simp [hF, retK, dSp, addOf]
      rw [e2]
      have hne : ¬ belowOf S.shapes S.objs[j].shape n = -1 := by omega
      simp [addOb, stepSh, ownOf, c1', hc, d2, hne]
end Go.Proofs.Ythcndkpkkaphoaa

/- The smaller methods. -/
namespace Go.Proofs.Ythcndkpkkaphoaa
set_option linter.all false
open Go.Vc Go.Proofs
set_option linter.unusedSimpArgs false
set_option maxRecDepth 100000
set_option maxHeartbeats 4000000

abbrev avInt (n : Int) : AV := .val (.int .i64 n)
abbrev two (p : Int × Int) : AV := .tup (.cons (avInt p.1) (.cons (avInt p.2) .nil))

/- (*cabochon/shape.Space).Shape -/
theorem shape_ok (S : Sp) (o : Int) : Meets Try.prog 19 [dSp S] (.cons (.ptr 0 [.d]) (.cons (avInt o) .nil))
    fun av X κ => av = two (shapeOf S o) ∧ X = [dSp S] ∧ κ = [] := by
  refine Meets.of_vs tabOk Try.func19 (body := ?_) ?_ (by kernel_rfl) Try.ntmps19 (rs := [.tmp 4, .tmp 5]) (by kernel_rfl) rfl (by simp [AV.len]) (by simp only [envOf]; exact rfl) ?_
  rotate_left
  · rfl
  intro w0 I0 F0 hF
  repeat first
    | refine VS.seq ?_
    | (refine VS.region tabOk (id := 0) [] (by kernel_rfl) ?_; generalize hK : VS _ _ _ = KK; simp (maxSteps := 1000000) [hF]; (try subst hK); try (refine VS.keep [0, 1] ?_; generalize hK : VS _ _ _ = KK; simp; (try subst hK)))
    | (refine VS.region tabOk (id := 1) [] (by kernel_rfl) ?_; generalize hK : VS _ _ _ = KK; simp (maxSteps := 1000000) [hF]; (try subst hK); try (refine VS.keep [0, 1, 9] ?_; generalize hK : VS _ _ _ = KK; simp; (try subst hK)))
  refine (has_ok S o).call [(0, [])] (by simp) (by simp (maxSteps := 1000000) [hF, dSp]) (by simp (maxSteps := 1000000) [hF, dSp]) (by simp (maxSteps := 1000000) [hF, dSp]) (by simp) ?_
  rintro av X κ ⟨rfl, rfl, rfl⟩
  generalize hK : VS _ _ _ = KK; simp (maxSteps := 1000000) [hF, dSp]; (try subst hK)
  repeat first
    | (refine VS.cond ?_; generalize hK1 : VS _ _ _ = KK1; generalize hK2 : VS _ _ _ = KK2; simp (maxSteps := 1000000) [hF]; (try subst hK1); (try subst hK2))
  refine ⟨fun h => ?_, fun h => ?_⟩
  · repeat first
      | refine VS.seq ?_
      | (refine VS.region tabOk (id := 2) [] (by kernel_rfl) ?_; generalize hK : VS _ _ _ = KK; simp (maxSteps := 1000000) [hF]; (try subst hK); try (refine VS.keep [4, 5] ?_; generalize hK : VS _ _ _ = KK; simp; (try subst hK)))
    try refine VS.ret ?_
    repeat first | refine blockN_ret ?_ | refine loopN_ret ?_
    refine endK.of [4, 5] [0] [] (by simp [hF]) (by simp [covers, mpre]) ?_
    simp [hF, retK, dSp, shapeOf, h]
  · obtain ⟨j, rfl, hj, h0⟩ := hasB_true h
    repeat first
      | refine VS.seq ?_
      | refine VS.skip ?_
      | (refine VS.region tabOk (id := 3) [] (by kernel_rfl) ?_; generalize hK : VS _ _ _ = KK; simp (maxSteps := 1000000) [hF, dSp, dObs_at hj, hj, h]; (try subst hK); try (refine VS.keep [4, 5] ?_; generalize hK : VS _ _ _ = KK; simp; (try subst hK)))
    try refine VS.ret ?_
    repeat first | refine blockN_ret ?_ | refine loopN_ret ?_
    refine endK.of [4, 5] [0] [] (by simp [hF]) (by simp [covers, mpre]) ?_
    simp [hF, retK, dSp, shapeOf, h, obAt_eq hj]

/- (*cabochon/shape.Space).Frozen -/
theorem frozen_ok (S : Sp) (o : Int) : Meets Try.prog 30 [dSp S] (.cons (.ptr 0 [.d]) (.cons (avInt o) .nil))
    fun av X κ => av = .tup (.cons (.val (.bool (frozenOf S o).1)) (.cons (avInt (frozenOf S o).2) .nil)) ∧ X = [dSp S] ∧ κ = [] := by
  refine Meets.of_vs tabOk Try.func30 (body := ?_) ?_ (by kernel_rfl) Try.ntmps30 (rs := [.tmp 4, .tmp 5]) (by kernel_rfl) rfl (by simp [AV.len]) (by simp only [envOf]; exact rfl) ?_
  rotate_left
  · rfl
  intro w0 I0 F0 hF
  repeat first
    | refine VS.seq ?_
    | (refine VS.region tabOk (id := 0) [] (by kernel_rfl) ?_; generalize hK : VS _ _ _ = KK; simp (maxSteps := 1000000) [hF]; (try subst hK); try (refine VS.keep [0, 1] ?_; generalize hK : VS _ _ _ = KK; simp; (try subst hK)))
    | (refine VS.region tabOk (id := 1) [] (by kernel_rfl) ?_; generalize hK : VS _ _ _ = KK; simp (maxSteps := 1000000) [hF]; (try subst hK); try (refine VS.keep [0, 1, 9] ?_; generalize hK : VS _ _ _ = KK; simp; (try subst hK)))
  refine (has_ok S o).call [(0, [])] (by simp) (by simp (maxSteps := 1000000) [hF, dSp]) (by simp (maxSteps := 1000000) [hF, dSp]) (by simp (maxSteps := 1000000) [hF, dSp]) (by simp) ?_
  rintro av X κ ⟨rfl, rfl, rfl⟩
  generalize hK : VS _ _ _ = KK; simp (maxSteps := 1000000) [hF, dSp]; (try subst hK)
  repeat first
    | (refine VS.cond ?_; generalize hK1 : VS _ _ _ = KK1; generalize hK2 : VS _ _ _ = KK2; simp (maxSteps := 1000000) [hF]; (try subst hK1); (try subst hK2))
  refine ⟨fun h => ?_, fun h => ?_⟩
  · repeat first
      | refine VS.seq ?_
      | (refine VS.region tabOk (id := 2) [] (by kernel_rfl) ?_; generalize hK : VS _ _ _ = KK; simp (maxSteps := 1000000) [hF]; (try subst hK); try (refine VS.keep [4, 5] ?_; generalize hK : VS _ _ _ = KK; simp; (try subst hK)))
    try refine VS.ret ?_
    repeat first | refine blockN_ret ?_ | refine loopN_ret ?_
    refine endK.of [4, 5] [0] [] (by simp [hF]) (by simp [covers, mpre]) ?_
    simp [hF, retK, dSp, frozenOf, h]
  · obtain ⟨j, rfl, hj, h0⟩ := hasB_true h
    repeat first
      | refine VS.seq ?_
      | refine VS.skip ?_
      | (refine VS.region tabOk (id := 3) [] (by kernel_rfl) ?_; generalize hK : VS _ _ _ = KK; simp (maxSteps := 1000000) [hF, dSp, dObs_at hj, hj, h]; (try subst hK); try (refine VS.keep [4, 5] ?_; generalize hK : VS _ _ _ = KK; simp; (try subst hK)))
    try refine VS.ret ?_
    repeat first | refine blockN_ret ?_ | refine loopN_ret ?_
    refine endK.of [4, 5] [0] [] (by simp [hF]) (by simp [covers, mpre]) ?_
    simp [hF, retK, dSp, frozenOf, h, obAt_eq hj]

/- (*cabochon/shape.Space).Parent -/
theorem parent_ok (S : Sp) (o : Int) : Meets Try.prog 35 [dSp S] (.cons (.ptr 0 [.d]) (.cons (avInt o) .nil))
    fun av X κ => av = two (parentOf S o) ∧ X = [dSp S] ∧ κ = [] := by
  refine Meets.of_vs tabOk Try.func35 (body := ?_) ?_ (by kernel_rfl) Try.ntmps35 (rs := [.tmp 4, .tmp 5]) (by kernel_rfl) rfl (by simp [AV.len]) (by simp only [envOf]; exact rfl) ?_
  rotate_left
  · rfl
  intro w0 I0 F0 hF
  repeat first
    | refine VS.seq ?_
    | (refine VS.region tabOk (id := 0) [] (by kernel_rfl) ?_; generalize hK : VS _ _ _ = KK; simp (maxSteps := 1000000) [hF]; (try subst hK); try (refine VS.keep [0, 1] ?_; generalize hK : VS _ _ _ = KK; simp; (try subst hK)))
    | (refine VS.region tabOk (id := 1) [] (by kernel_rfl) ?_; generalize hK : VS _ _ _ = KK; simp (maxSteps := 1000000) [hF]; (try subst hK); try (refine VS.keep [0, 1, 9] ?_; generalize hK : VS _ _ _ = KK; simp; (try subst hK)))
  refine (shaped_ok S o).call [(0, [])] (by simp) (by simp (maxSteps := 1000000) [hF, dSp]) (by simp (maxSteps := 1000000) [hF, dSp]) (by simp (maxSteps := 1000000) [hF, dSp]) (by simp) ?_
  rintro av X κ ⟨rfl, rfl, rfl⟩
  generalize hK : VS _ _ _ = KK; simp (maxSteps := 1000000) [hF, dSp]; (try subst hK)
  repeat first
    | (refine VS.cond ?_; generalize hK1 : VS _ _ _ = KK1; generalize hK2 : VS _ _ _ = KK2; simp (maxSteps := 1000000) [hF]; (try subst hK1); (try subst hK2))
  refine ⟨fun h => ?_, fun h => ?_⟩
  · repeat first
      | refine VS.seq ?_
      | (refine VS.region tabOk (id := 2) [] (by kernel_rfl) ?_; generalize hK : VS _ _ _ = KK; simp (maxSteps := 1000000) [hF]; (try subst hK); try (refine VS.keep [4, 5] ?_; generalize hK : VS _ _ _ = KK; simp; (try subst hK)))
    try refine VS.ret ?_
    repeat first | refine blockN_ret ?_ | refine loopN_ret ?_
    refine endK.of [4, 5] [0] [] (by simp [hF]) (by simp [covers, mpre]) ?_
    simp [hF, retK, dSp, parentOf, h]
  · obtain ⟨j, rfl, hj⟩ := shapedB_true h
    repeat first
      | refine VS.seq ?_
      | refine VS.skip ?_
      | (refine VS.region tabOk (id := 3) [] (by kernel_rfl) ?_; generalize hK : VS _ _ _ = KK; simp (maxSteps := 1000000) [hF, dSp, dShs_at hj, hj, h]; (try subst hK); try (refine VS.keep [4, 5] ?_; generalize hK : VS _ _ _ = KK; simp; (try subst hK)))
    try refine VS.ret ?_
    repeat first | refine blockN_ret ?_ | refine loopN_ret ?_
    refine endK.of [4, 5] [0] [] (by simp [hF]) (by simp [covers, mpre]) ?_
    simp [hF, retK, dSp, parentOf, h, hj]

/- (*cabochon/shape.Space).Shapes -/
theorem shapes_ok (S : Sp) : Meets Try.prog 21 [dSp S] (.cons (.ptr 0 [.d]) .nil)
    fun av X κ => av = avInt (shapesOf S) ∧ X = [dSp S] ∧ κ = [] := by
  refine Meets.of_vs tabOk Try.func21 (body := ?_) ?_ (by kernel_rfl) Try.ntmps21 (rs := [.tmp 2]) (by kernel_rfl) rfl (by simp [AV.len]) (by simp only [envOf]; exact rfl) ?_
  rotate_left
  · rfl
  intro w0 I0 F0 hF
  repeat first
    | refine VS.seq ?_
    | (refine VS.region tabOk (id := 0) [] (by kernel_rfl) ?_; generalize hK : VS _ _ _ = KK; simp (maxSteps := 1000000) [hF]; (try subst hK); try (refine VS.keep [0] ?_; generalize hK : VS _ _ _ = KK; simp; (try subst hK)))
    | (refine VS.region tabOk (id := 1) [] (by kernel_rfl) ?_; generalize hK : VS _ _ _ = KK; simp (maxSteps := 1000000) [hF]; (try subst hK); try (refine VS.keep [0, 5] ?_; generalize hK : VS _ _ _ = KK; simp; (try subst hK)))
  refine (real_ok S).call [(0, [])] (by simp) (by simp (maxSteps := 1000000) [hF, dSp]) (by simp (maxSteps := 1000000) [hF, dSp]) (by simp (maxSteps := 1000000) [hF, dSp]) (by simp) ?_
  rintro av X κ ⟨rfl, rfl, rfl⟩
  generalize hK : VS _ _ _ = KK; simp (maxSteps := 1000000) [hF, dSp]; (try subst hK)
  repeat first
    | (refine VS.cond ?_; generalize hK1 : VS _ _ _ = KK1; generalize hK2 : VS _ _ _ = KK2; simp (maxSteps := 1000000) [hF]; (try subst hK1); (try subst hK2))
  refine ⟨fun h => ?_, fun h => ?_⟩
  · repeat first
      | refine VS.seq ?_
      | (refine VS.region tabOk (id := 2) [] (by kernel_rfl) ?_; generalize hK : VS _ _ _ = KK; simp (maxSteps := 1000000) [hF]; (try subst hK); try (refine VS.keep [2] ?_; generalize hK : VS _ _ _ = KK; simp; (try subst hK)))
    simp [realB] at h
    try refine VS.ret ?_
    repeat first | refine blockN_ret ?_ | refine loopN_ret ?_
    refine endK.of [2] [0] [] (by simp [hF]) (by simp [covers, mpre]) ?_
    simp [hF, retK, dSp, shapesOf, h]
  · repeat first
      | refine VS.seq ?_
      | refine VS.skip ?_
      | (refine VS.region tabOk (id := 3) [] (by kernel_rfl) ?_; generalize hK : VS _ _ _ = KK; simp (maxSteps := 1000000) [hF, dSp]; (try subst hK); try (refine VS.keep [2] ?_; generalize hK : VS _ _ _ = KK; simp; (try subst hK)))
    try refine VS.ret ?_
    repeat first | refine blockN_ret ?_ | refine loopN_ret ?_
    refine endK.of [2] [0] [] (by simp [hF]) (by simp [covers, mpre]) ?_
    simp [hF, retK, dSp, shapesOf, h]

/- (*cabochon/shape.Space).Freeze -/
theorem freeze_ok (S : Sp) (o : Int) : Meets Try.prog 50 [dSp S] (.cons (.ptr 0 [.d]) (.cons (avInt o) .nil))
    fun av X κ => av = avInt (freezeOf S o).2 ∧ X = [dSp (freezeOf S o).1] ∧ κ = [(0, [.d])] := by
  refine Meets.of_vs tabOk Try.func50 (body := ?_) ?_ (by kernel_rfl) Try.ntmps50 (rs := [.tmp 4]) (by kernel_rfl) rfl (by simp [AV.len]) (by simp only [envOf]; exact rfl) ?_
  rotate_left
  · rfl
  intro w0 I0 F0 hF
  repeat first
    | refine VS.seq ?_
    | (refine VS.region tabOk (id := 0) [] (by kernel_rfl) ?_; generalize hK : VS _ _ _ = KK; simp (maxSteps := 1000000) [hF]; (try subst hK); try (refine VS.keep [0, 1] ?_; generalize hK : VS _ _ _ = KK; simp; (try subst hK)))
    | (refine VS.region tabOk (id := 1) [] (by kernel_rfl) ?_; generalize hK : VS _ _ _ = KK; simp (maxSteps := 1000000) [hF]; (try subst hK); try (refine VS.keep [0, 1, 8] ?_; generalize hK : VS _ _ _ = KK; simp; (try subst hK)))
  refine (has_ok S o).call [(0, [])] (by simp) (by simp (maxSteps := 1000000) [hF, dSp]) (by simp (maxSteps := 1000000) [hF, dSp]) (by simp (maxSteps := 1000000) [hF, dSp]) (by simp) ?_
  rintro av X κ ⟨rfl, rfl, rfl⟩
  generalize hK : VS _ _ _ = KK; simp (maxSteps := 1000000) [hF, dSp]; (try subst hK)
  repeat first
    | (refine VS.cond ?_; generalize hK1 : VS _ _ _ = KK1; generalize hK2 : VS _ _ _ = KK2; simp (maxSteps := 1000000) [hF]; (try subst hK1); (try subst hK2))
  refine ⟨fun h => ?_, fun h => ?_⟩
  · repeat first
      | refine VS.seq ?_
      | (refine VS.region tabOk (id := 2) [] (by kernel_rfl) ?_; generalize hK : VS _ _ _ = KK; simp (maxSteps := 1000000) [hF]; (try subst hK); try (refine VS.keep [4] ?_; generalize hK : VS _ _ _ = KK; simp; (try subst hK)))
    try refine VS.ret ?_
    repeat first | refine blockN_ret ?_ | refine loopN_ret ?_
    refine endK.of [4] [0] [(0, [.d])] (by simp [hF]) (by simp [covers, mpre]) ?_
    simp [hF, retK, dSp, freezeOf, h]
  · obtain ⟨j, rfl, hj, h0⟩ := hasB_true h
    have e1 := dObs_set S.objs j { S.objs[j] with frozen := true }
    have e2 : ownOf { S.objs[j] with frozen := true } = ownOf S.objs[j] := rfl
    rw [e2] at e1
    repeat first
      | refine VS.seq ?_
      | refine VS.skip ?_
      | (refine VS.region tabOk (id := 3) [] (by kernel_rfl) ?_; generalize hK : VS _ _ _ = KK; simp (maxSteps := 1000000) [hF, dSp, dObs_at hj, hj, h]; (try subst hK); try (refine VS.keep [] ?_; generalize hK : VS _ _ _ = KK; simp; (try subst hK)))
      | (refine VS.region tabOk (id := 4) [] (by kernel_rfl) ?_; generalize hK : VS _ _ _ = KK; simp (maxSteps := 1000000) [hF, dSp, dObs_at hj, hj, h]; (try subst hK); try (refine VS.keep [4] ?_; generalize hK : VS _ _ _ = KK; simp; (try subst hK)))
    try refine VS.ret ?_
    repeat first | refine blockN_ret ?_ | refine loopN_ret ?_
    refine endK.of [4] [0] [(0, [.d])] (by simp [hF]) (by simp [covers, mpre]) ?_
    simp [hF, retK, dSp, freezeOf, h, obAt_eq hj, setOb, e1]

/- (*cabochon/shape.Space).Names -/
theorem names1_ok (S : Sp) {N : Nat} (hS : WF S N) (hN : N ≤ 1000000) (o : Int) : Meets Try.prog 27 [dSp S] (.cons (.ptr 0 [.d]) (.cons (avInt o) .nil))
    fun av X κ => (if hasB S o = false then av = .tup (.cons (.nils 1) (.cons (avInt 1) .nil)) ∧ X = [dSp S]
      else av = .tup (.cons (.sub 1 [] 0 (obAt S o).names.length false) (.cons (avInt 0) .nil)) ∧ X = [dSp S, .sl true () 1 (dStrs (obAt S o).names)]) ∧ κ = [] := by
  refine Meets.of_vs tabOk Try.func27 (body := ?_) ?_ (by kernel_rfl) Try.ntmps27 (rs := [.tmp 4, .tmp 5]) (by kernel_rfl) rfl (by simp [AV.len]) (by simp only [envOf]; exact rfl) ?_
  rotate_left
  · rfl
  intro w0 I0 F0 hF
  repeat first
    | refine VS.seq ?_
    | (refine VS.region tabOk (id := 0) [] (by kernel_rfl) ?_; generalize hK : VS _ _ _ = KK; simp (maxSteps := 1000000) [hF]; (try subst hK); try (refine VS.keep [0, 1] ?_; generalize hK : VS _ _ _ = KK; simp; (try subst hK)))
    | (refine VS.region tabOk (id := 1) [] (by kernel_rfl) ?_; generalize hK : VS _ _ _ = KK; simp (maxSteps := 1000000) [hF]; (try subst hK); try (refine VS.keep [0, 1, 9] ?_; generalize hK : VS _ _ _ = KK; simp; (try subst hK)))
  refine (has_ok S o).call [(0, [])] (by simp) (by simp (maxSteps := 1000000) [hF, dSp]) (by simp (maxSteps := 1000000) [hF, dSp]) (by simp (maxSteps := 1000000) [hF, dSp]) (by simp) ?_
  rintro av X κ ⟨rfl, rfl, rfl⟩
  generalize hK : VS _ _ _ = KK; simp (maxSteps := 1000000) [hF, dSp]; (try subst hK)
  repeat first
    | (refine VS.cond ?_; generalize hK1 : VS _ _ _ = KK1; generalize hK2 : VS _ _ _ = KK2; simp (maxSteps := 1000000) [hF]; (try subst hK1); (try subst hK2))
  refine ⟨fun h => ?_, fun h => ?_⟩
  · repeat first
      | refine VS.seq ?_
      | (refine VS.region tabOk (id := 2) [] (by kernel_rfl) ?_; generalize hK : VS _ _ _ = KK; simp (maxSteps := 1000000) [hF]; (try subst hK); try (refine VS.keep [4, 5] ?_; generalize hK : VS _ _ _ = KK; simp; (try subst hK)))
    try refine VS.ret ?_
    repeat first | refine blockN_ret ?_ | refine loopN_ret ?_
    refine endK.of [4, 5] [0] [] (by simp [hF]) (by simp [covers, mpre]) ?_
    simp [hF, retK, dSp, h]
  · obtain ⟨j, rfl, hj, h0⟩ := hasB_true h
    repeat first
      | refine VS.seq ?_
      | refine VS.skip ?_
      | (refine VS.region tabOk (id := 3) [] (by kernel_rfl) ?_; generalize hK : VS _ _ _ = KK; simp (maxSteps := 1000000) [hF, dSp, dObs_at hj, hj, h]; (try subst hK); try (refine VS.keep [4, 5] ?_; generalize hK : VS _ _ _ = KK; simp; (try subst hK)))
    refine (names_ok S hS.sh j hj (hS.ob _ (List.getElem_mem hj)) hN).call [(0, [])] (by simp) (by simp (maxSteps := 1000000) [hF, dSp, avOb]) (by simp (maxSteps := 1000000) [hF, dSp, avOb]) (by simp (maxSteps := 1000000) [hF, dSp, avOb]) (by simp) ?_
    rintro av X κ ⟨rfl, rfl, rfl⟩
    generalize hK : VS _ _ _ = KK; simp (maxSteps := 1000000) [hF, dSp, avOb]; (try subst hK)
    try refine VS.ret ?_
    repeat first | refine blockN_ret ?_ | refine loopN_ret ?_
    refine endK.of [4, 5] [0, 1] [] (by simp [hF]) (by simp [covers, mpre]) ?_
    simp [hF, retK, dSp, h, obAt_eq hj]

/- (*cabochon/shape.Space).Make -/
theorem make_ok (S : Sp) : Meets Try.prog 15 [dSp S] (.cons (.ptr 0 [.d]) .nil)
    fun av X κ => av = two (makeOf S).2 ∧ X = [dSp (makeOf S).1] ∧ κ = [(0, [.d])] := by
  refine Meets.of_vs tabOk Try.func15 (body := ?_) ?_ (by kernel_rfl) Try.ntmps15 (rs := [.tmp 2, .tmp 3]) (by kernel_rfl) rfl (by simp [AV.len]) (by simp only [envOf]; exact rfl) ?_
  rotate_left
  · rfl
  intro w0 I0 F0 hF
  repeat first
    | refine VS.seq ?_
    | (refine VS.region tabOk (id := 0) [] (by kernel_rfl) ?_; generalize hK : VS _ _ _ = KK; simp (maxSteps := 1000000) [hF]; (try subst hK); try (refine VS.keep [0] ?_; generalize hK : VS _ _ _ = KK; simp; (try subst hK)))
    | (refine VS.region tabOk (id := 1) [] (by kernel_rfl) ?_; generalize hK : VS _ _ _ = KK; simp (maxSteps := 1000000) [hF]; (try subst hK); try (refine VS.keep [0, 6] ?_; generalize hK : VS _ _ _ = KK; simp; (try subst hK)))
  refine (real_ok S).call [(0, [])] (by simp) (by simp (maxSteps := 1000000) [hF, dSp]) (by simp (maxSteps := 1000000) [hF, dSp]) (by simp (maxSteps := 1000000) [hF, dSp]) (by simp) ?_
  rintro av X κ ⟨rfl, rfl, rfl⟩
  generalize hK : VS _ _ _ = KK; simp (maxSteps := 1000000) [hF, dSp]; (try subst hK)
  repeat first
    | (refine VS.cond ?_; generalize hK1 : VS _ _ _ = KK1; generalize hK2 : VS _ _ _ = KK2; simp (maxSteps := 1000000) [hF]; (try subst hK1); (try subst hK2))
  refine ⟨fun h => ?_, fun h => ?_⟩
  · repeat first
      | refine VS.seq ?_
      | (refine VS.region tabOk (id := 2) [] (by kernel_rfl) ?_; generalize hK : VS _ _ _ = KK; simp (maxSteps := 1000000) [hF]; (try subst hK); try (refine VS.keep [2, 3] ?_; generalize hK : VS _ _ _ = KK; simp; (try subst hK)))
    try refine VS.ret ?_
    repeat first | refine blockN_ret ?_ | refine loopN_ret ?_
    refine endK.of [2, 3] [0] [(0, [.d])] (by simp [hF]) (by simp [covers, mpre]) ?_
    simp [hF, retK, dSp, makeOf, h]
  · repeat first
      | refine VS.seq ?_
      | refine VS.skip ?_
      | (refine VS.region tabOk (id := 3) [] (by kernel_rfl) ?_; generalize hK : VS _ _ _ = KK; simp (maxSteps := 1000000) [hF, dSp, h]; (try subst hK); try (refine VS.keep [0, 12] ?_; generalize hK : VS _ _ _ = KK; simp; (try subst hK)))
      | (refine VS.cond ?_; generalize hK1 : VS _ _ _ = KK1; generalize hK2 : VS _ _ _ = KK2; simp (maxSteps := 1000000) [hF, dSp, h]; (try subst hK1); (try subst hK2))
    refine ⟨fun h1 => ?_, fun h1 => ?_⟩
    · repeat first
        | refine VS.seq ?_
        | (refine VS.region tabOk (id := 4) [] (by kernel_rfl) ?_; generalize hK : VS _ _ _ = KK; simp (maxSteps := 1000000) [hF]; (try subst hK); try (refine VS.keep [2, 3] ?_; generalize hK : VS _ _ _ = KK; simp; (try subst hK)))
      have h1' : 100 ≤ S.objs.length := by omega
      try refine VS.ret ?_
      repeat first | refine blockN_ret ?_ | refine loopN_ret ?_
      refine endK.of [2, 3] [0] [(0, [.d])] (by simp [hF]) (by simp [covers, mpre]) ?_
      simp [hF, retK, dSp, makeOf, h, h1']
    · repeat first
        | refine VS.seq ?_
        | refine VS.skip ?_
      refine VS.lift 0 [.d, .f 1] (by simp) (by simp) (by simp [isNode]) (by simp) ?_
      generalize hK : VS _ _ _ = KK; simp (maxSteps := 1000000) [hF, St.lift, AV.lift, liftPl, stripP, nodeAV]; (try subst hK)
      have hpush := dObs_push S.objs ⟨0, [], [], false⟩
      simp [ownOf, dStrs_nil, dInts_nil] at hpush
      repeat first
        | refine VS.seq ?_
        | refine ⟨⟨by omega, by omega⟩, ?_⟩
        | (refine VS.region tabOk (id := 5) [] (by kernel_rfl) ?_; generalize hK : VS _ _ _ = KK; simp (maxSteps := 1000000) [hF, dSp, hpush]; (try subst hK); try (refine VS.keep [0] ?_; generalize hK : VS _ _ _ = KK; simp; (try subst hK)))
        | (refine VS.region tabOk (id := 6) [] (by kernel_rfl) ?_; generalize hK : VS _ _ _ = KK; simp (maxSteps := 1000000) [hF, dSp, hpush]; (try subst hK); try (refine VS.keep [2, 3] ?_; generalize hK : VS _ _ _ = KK; simp; (try subst hK)))
      have h1' : ¬ 100 ≤ S.objs.length := by omega
      have hw : IntKind.i64.wrap (S.objs.length : Int) = S.objs.length := IntWalk.i64_in _ (by omega)
      try refine VS.ret ?_
      repeat first | refine blockN_ret ?_ | refine loopN_ret ?_
      refine endK.of [2, 3] [0] [(0, [.d])] (by simp [hF]) (by simp [covers, mpre]) ?_
      simp [hF, retK, dSp, makeOf, h, h1', hw]
end Go.Proofs.Ythcndkpkkaphoaa

/- Set, Get, Slot, Clone. -/
namespace Go.Proofs.Ythcndkpkkaphoaa
set_option linter.all false
open Go.Vc Go.Proofs
set_option linter.unusedSimpArgs false
set_option maxRecDepth 100000
set_option maxHeartbeats 4000000

theorem askOf_cases (S : Sp) (o : Int) (n : ByteArray) (c : Bool) : askOf S o n c ≠ 0 ∨ (askOf S o n c = 0 ∧ ∃ j : Nat, o = j ∧ j < S.objs.length) := by
  by_cases h : askOf S o n c = 0
  · refine .inr ⟨h, ?_⟩
    unfold askOf at h
    split at h
    · simp at h
    · rename_i h1
      obtain ⟨j, h2, h3, _⟩ := hasB_true (by simpa using h1)
      exact ⟨j, h2, h3⟩
  · exact .inl h

/- (*cabochon/shape.Space).Get -/
theorem get_ok (S : Sp) {N : Nat} (hS : WF S N) (hN : N ≤ 1000000) (o : Int) (n : ByteArray) : Meets Try.prog 31 [dSp S] (.cons (.ptr 0 [.d]) (.cons (avInt o) (.cons (.val (.string n)) .nil)))
    fun av X κ => av = two (getOf S o n) ∧ X = [dSp S] ∧ κ = [] := by
  refine Meets.of_vs tabOk Try.func31 (body := ?_) ?_ (by kernel_rfl) Try.ntmps31 (rs := [.tmp 6, .tmp 7]) (by kernel_rfl) rfl (by simp [AV.len]) (by simp only [envOf]; exact rfl) ?_
  rotate_left
  · rfl
  intro w0 I0 F0 hF
  repeat first
    | refine VS.seq ?_
    | (refine VS.region tabOk (id := 0) [] (by kernel_rfl) ?_; generalize hK : VS _ _ _ = KK; simp (maxSteps := 1000000) [hF]; (try subst hK); try (refine VS.keep [0, 1, 2] ?_; generalize hK : VS _ _ _ = KK; simp; (try subst hK)))
    | (refine VS.region tabOk (id := 1) [] (by kernel_rfl) ?_; generalize hK : VS _ _ _ = KK; simp (maxSteps := 1000000) [hF]; (try subst hK); try (refine VS.keep [0, 1, 2, 8] ?_; generalize hK : VS _ _ _ = KK; simp; (try subst hK)))
  refine (ask_ok S o n false).call [(0, [])] (by simp) (by simp (maxSteps := 1000000) [hF, dSp]) (by simp (maxSteps := 1000000) [hF, dSp]) (by simp (maxSteps := 1000000) [hF, dSp]) (by simp) ?_
  rintro av X κ ⟨rfl, rfl, rfl⟩
  generalize hK : VS _ _ _ = KK; simp (maxSteps := 1000000) [hF, dSp]; (try subst hK)
  rcases askOf_cases S o n false with he | ⟨he, j, rfl, hj⟩
  · repeat first
      | refine VS.seq ?_
      | (refine VS.region tabOk (id := 2) [] (by kernel_rfl) ?_; generalize hK : VS _ _ _ = KK; simp (maxSteps := 1000000) [hF, he]; (try subst hK); try (refine VS.keep [0, 1, 2, 8, 15] ?_; generalize hK : VS _ _ _ = KK; simp; (try subst hK)))
      | (refine VS.region tabOk (id := 3) [] (by kernel_rfl) ?_; generalize hK : VS _ _ _ = KK; simp (maxSteps := 1000000) [hF, he]; (try subst hK); try (refine VS.keep [6, 7] ?_; generalize hK : VS _ _ _ = KK; simp; (try subst hK)))
      | (refine VS.cond ?_; generalize hK1 : VS _ _ _ = KK1; generalize hK2 : VS _ _ _ = KK2; simp (maxSteps := 1000000) [hF, he]; (try subst hK1); (try subst hK2))
    try refine VS.ret ?_
    repeat first | refine blockN_ret ?_ | refine loopN_ret ?_
    refine endK.of [6, 7] [0] [] (by simp [hF]) (by simp [covers, mpre]) ?_
    simp [hF, retK, dSp, getOf, he]
  · repeat first
      | refine VS.seq ?_
      | refine VS.skip ?_
      | (refine VS.region tabOk (id := 2) [] (by kernel_rfl) ?_; generalize hK : VS _ _ _ = KK; simp (maxSteps := 1000000) [hF, dSp, dObs_at hj, hj, he]; (try subst hK); try (refine VS.keep [0, 1, 2, 8, 15] ?_; generalize hK : VS _ _ _ = KK; simp; (try subst hK)))
      | (refine VS.region tabOk (id := 4) [] (by kernel_rfl) ?_; generalize hK : VS _ _ _ = KK; simp (maxSteps := 1000000) [hF, dSp, dObs_at hj, hj, he]; (try subst hK); try (refine VS.keep [0, 1, 9] ?_; generalize hK : VS _ _ _ = KK; simp; (try subst hK)))
      | (refine VS.cond ?_; generalize hK1 : VS _ _ _ = KK1; generalize hK2 : VS _ _ _ = KK2; simp (maxSteps := 1000000) [hF, dSp, dObs_at hj, hj, he]; (try subst hK1); (try subst hK2))
    have ho := hS.ob _ (List.getElem_mem hj)
    have hnl := ho.names_len
    have hwl := ho.1
    refine (names_ok S hS.sh j hj ho hN).call [(0, [])] (by simp) (by simp (maxSteps := 1000000) [hF, dSp, avOb]) (by simp (maxSteps := 1000000) [hF, dSp, avOb]) (by simp (maxSteps := 1000000) [hF, dSp, avOb]) (by simp) ?_
    rintro av X κ ⟨rfl, rfl, rfl⟩
    generalize hK : VS _ _ _ = KK; simp (maxSteps := 1000000) [hF, dSp, avOb]; (try subst hK)
    refine (index_ok true false S.objs[j].names n (by omega)).call [(1, [])] (by simp) (by simp (maxSteps := 1000000) [hF, dSp]) (by simp (maxSteps := 1000000) [hF, dSp]) (by simp (maxSteps := 1000000) [hF, dSp]) (by simp) ?_
    rintro av X κ ⟨rfl, rfl, rfl⟩
    generalize hK : VS _ _ _ = KK; simp (maxSteps := 1000000) [hF, dSp]; (try subst hK)
    repeat first
      | refine VS.seq ?_
      | (refine VS.region tabOk (id := 5) [] (by kernel_rfl) ?_; generalize hK : VS _ _ _ = KK; simp (maxSteps := 1000000) [hF]; (try subst hK); try (refine VS.keep [0, 1, 9, 29] ?_; generalize hK : VS _ _ _ = KK; simp; (try subst hK)))
      | (refine VS.cond ?_; generalize hK1 : VS _ _ _ = KK1; generalize hK2 : VS _ _ _ = KK2; simp (maxSteps := 1000000) [hF]; (try subst hK1); (try subst hK2))
    refine ⟨fun h => ?_, fun h => ?_⟩
    · repeat first
        | refine VS.seq ?_
        | (refine VS.region tabOk (id := 6) [] (by kernel_rfl) ?_; generalize hK : VS _ _ _ = KK; simp (maxSteps := 1000000) [hF]; (try subst hK); try (refine VS.keep [6, 7] ?_; generalize hK : VS _ _ _ = KK; simp; (try subst hK)))
      try refine VS.ret ?_
      repeat first | refine blockN_ret ?_ | refine loopN_ret ?_
      refine endK.of [6, 7] [0] [] (by simp [hF]) (by simp [covers, mpre]) ?_
      simp [hF, retK, dSp, getOf, he, obAt_eq hj, h]
    · have h' : ¬ posIn n S.objs[j].names < 0 := by omega
      have hlt : (posIn n S.objs[j].names).toNat < S.objs[j].words.length := by
        rcases posBy_cases (fun x => decide (x = n)) S.objs[j].names with ⟨h1, _⟩ | ⟨i, hi, h1, _⟩
        · simp only [posIn] at h; omega
        · simp only [posIn, h1]; omega
      have hlt' : posIn n S.objs[j].names < S.objs[j].words.length := by omega
      have hnth := dInts_nth hlt
      repeat first
        | refine VS.seq ?_
        | refine VS.skip ?_
        | (refine VS.region tabOk (id := 7) [] (by kernel_rfl) ?_; generalize hK : VS _ _ _ = KK; simp (maxSteps := 1000000) [hF, dSp, dObs_at hj, hj, h, hlt, hlt', hnth]; (try subst hK); try (refine VS.keep [6, 7] ?_; generalize hK : VS _ _ _ = KK; simp; (try subst hK)))
      try refine VS.ret ?_
      repeat first | refine blockN_ret ?_ | refine loopN_ret ?_
      refine endK.of [6, 7] [0] [] (by simp [hF]) (by simp [covers, mpre]) ?_
      simp [hF, retK, dSp, getOf, he, obAt_eq hj, h', hlt]

/- (*cabochon/shape.Space).Slot -/
theorem slot_ok (S : Sp) (hS : ShOk S.shapes) (k : Int) (n : ByteArray) : Meets Try.prog 34 [dSp S] (.cons (.ptr 0 [.d]) (.cons (avInt k) (.cons (.val (.string n)) .nil)))
    fun av X κ => av = two (slotOf S k n) ∧ X = [dSp S] ∧ κ = [] := by
  refine Meets.of_vs tabOk Try.func34 (body := ?_) ?_ (by kernel_rfl) Try.ntmps34 (rs := [.tmp 6, .tmp 7]) (by kernel_rfl) rfl (by simp [AV.len]) (by simp only [envOf]; exact rfl) ?_
  rotate_left
  · rfl
  intro w0 I0 F0 hF
  repeat first
    | refine VS.seq ?_
    | (refine VS.region tabOk (id := 0) [] (by kernel_rfl) ?_; generalize hK : VS _ _ _ = KK; simp (maxSteps := 1000000) [hF]; (try subst hK); try (refine VS.keep [0, 1, 2] ?_; generalize hK : VS _ _ _ = KK; simp; (try subst hK)))
    | (refine VS.region tabOk (id := 1) [] (by kernel_rfl) ?_; generalize hK : VS _ _ _ = KK; simp (maxSteps := 1000000) [hF]; (try subst hK); try (refine VS.keep [0, 1, 2, 12] ?_; generalize hK : VS _ _ _ = KK; simp; (try subst hK)))
  refine (shaped_ok S k).call [(0, [])] (by simp) (by simp (maxSteps := 1000000) [hF, dSp]) (by simp (maxSteps := 1000000) [hF, dSp]) (by simp (maxSteps := 1000000) [hF, dSp]) (by simp) ?_
  rintro av X κ ⟨rfl, rfl, rfl⟩
  generalize hK : VS _ _ _ = KK; simp (maxSteps := 1000000) [hF, dSp]; (try subst hK)
  repeat first
    | (refine VS.cond ?_; generalize hK1 : VS _ _ _ = KK1; generalize hK2 : VS _ _ _ = KK2; simp (maxSteps := 1000000) [hF]; (try subst hK1); (try subst hK2))
  refine ⟨fun h => ?_, fun h => ?_⟩
  · repeat first
      | refine VS.seq ?_
      | (refine VS.region tabOk (id := 2) [] (by kernel_rfl) ?_; generalize hK : VS _ _ _ = KK; simp (maxSteps := 1000000) [hF]; (try subst hK); try (refine VS.keep [6, 7] ?_; generalize hK : VS _ _ _ = KK; simp; (try subst hK)))
    try refine VS.ret ?_
    repeat first | refine blockN_ret ?_ | refine loopN_ret ?_
    refine endK.of [6, 7] [0] [] (by simp [hF]) (by simp [covers, mpre]) ?_
    simp [hF, retK, dSp, slotOf, h]
  · obtain ⟨j, rfl, hj⟩ := shapedB_true h
    repeat first
      | refine VS.seq ?_
      | refine VS.skip ?_
      | (refine VS.region tabOk (id := 3) [(2, 15)] (by kernel_rfl) ?_; generalize hK : VS _ _ _ = KK; simp (maxSteps := 1000000) [hF]; (try subst hK); try (refine VS.keep [0, 1, 2, 19] ?_; generalize hK : VS _ _ _ = KK; simp; (try subst hK)))
    refine ⟨fun hn => ?_, fun hn => ?_⟩
    · repeat first
        | refine VS.seq ?_
        | (refine VS.region tabOk (id := 4) [] (by kernel_rfl) ?_; generalize hK : VS _ _ _ = KK; simp (maxSteps := 1000000) [hF]; (try subst hK); try (refine VS.keep [6, 7] ?_; generalize hK : VS _ _ _ = KK; simp; (try subst hK)))
        | (refine VS.cond ?_; generalize hK1 : VS _ _ _ = KK1; generalize hK2 : VS _ _ _ = KK2; simp (maxSteps := 1000000) [hF]; (try subst hK1); (try subst hK2))
      try refine VS.ret ?_
      repeat first | refine blockN_ret ?_ | refine loopN_ret ?_
      refine endK.of [6, 7] [0] [] (by simp [hF]) (by simp [covers, mpre]) ?_
      simp [hF, retK, dSp, slotOf, h, hn]
    · repeat first
        | (refine VS.cond ?_; generalize hK1 : VS _ _ _ = KK1; generalize hK2 : VS _ _ _ = KK2; simp (maxSteps := 1000000) [hF]; (try subst hK1); (try subst hK2))
      refine ⟨fun hz => ?_, fun hz => ?_⟩
      · have hz' : 40 < n.size := by omega
        repeat first
          | refine VS.seq ?_
          | (refine VS.region tabOk (id := 4) [] (by kernel_rfl) ?_; generalize hK : VS _ _ _ = KK; simp (maxSteps := 1000000) [hF]; (try subst hK); try (refine VS.keep [6, 7] ?_; generalize hK : VS _ _ _ = KK; simp; (try subst hK)))
        try refine VS.ret ?_
        repeat first | refine blockN_ret ?_ | refine loopN_ret ?_
        refine endK.of [6, 7] [0] [] (by simp [hF]) (by simp [covers, mpre]) ?_
        simp [hF, retK, dSp, slotOf, h, hz']
      · have hz' : ¬ 40 < n.size := by omega
        have hd := hS.deep j hj
        repeat first
          | refine VS.seq ?_
          | refine VS.skip ?_
          | (refine VS.region tabOk (id := 5) [] (by kernel_rfl) ?_; generalize hK : VS _ _ _ = KK; simp (maxSteps := 1000000) [hF]; (try subst hK); try (refine VS.keep [8] ?_; generalize hK : VS _ _ _ = KK; simp; (try subst hK)))
        refine (named_ok S hS j hj).call [(0, [])] (by simp) (by simp (maxSteps := 1000000) [hF, dSp]) (by simp (maxSteps := 1000000) [hF, dSp]) (by simp (maxSteps := 1000000) [hF, dSp]) (by simp) ?_
        rintro av X κ ⟨rfl, rfl, rfl⟩
        generalize hK : VS _ _ _ = KK; simp (maxSteps := 1000000) [hF, dSp]; (try subst hK)
        refine (index_ok true false S.shapes[j].names n (by omega)).call [(1, [])] (by simp) (by simp (maxSteps := 1000000) [hF, dSp]) (by simp (maxSteps := 1000000) [hF, dSp]) (by simp (maxSteps := 1000000) [hF, dSp]) (by simp) ?_
        rintro av X κ ⟨rfl, rfl, rfl⟩
        generalize hK : VS _ _ _ = KK; simp (maxSteps := 1000000) [hF, dSp]; (try subst hK)
        repeat first
          | refine VS.seq ?_
          | (refine VS.region tabOk (id := 6) [] (by kernel_rfl) ?_; generalize hK : VS _ _ _ = KK; simp (maxSteps := 1000000) [hF]; (try subst hK); try (refine VS.keep [8, 26] ?_; generalize hK : VS _ _ _ = KK; simp; (try subst hK)))
          | (refine VS.cond ?_; generalize hK1 : VS _ _ _ = KK1; generalize hK2 : VS _ _ _ = KK2; simp (maxSteps := 1000000) [hF]; (try subst hK1); (try subst hK2))
        refine ⟨fun hp => ?_, fun hp => ?_⟩
        · repeat first
            | refine VS.seq ?_
            | (refine VS.region tabOk (id := 7) [] (by kernel_rfl) ?_; generalize hK : VS _ _ _ = KK; simp (maxSteps := 1000000) [hF]; (try subst hK); try (refine VS.keep [6, 7] ?_; generalize hK : VS _ _ _ = KK; simp; (try subst hK)))
          try refine VS.ret ?_
          repeat first | refine blockN_ret ?_ | refine loopN_ret ?_
          refine endK.of [6, 7] [0] [] (by simp [hF]) (by simp [covers, mpre]) ?_
          simp [hF, retK, dSp, slotOf, h, hn, hz', hj, hp]
        · have hp' : ¬ posIn n S.shapes[j].names < 0 := by omega
          repeat first
            | refine VS.seq ?_
            | refine VS.skip ?_
            | (refine VS.region tabOk (id := 8) [] (by kernel_rfl) ?_; generalize hK : VS _ _ _ = KK; simp (maxSteps := 1000000) [hF]; (try subst hK); try (refine VS.keep [6, 7] ?_; generalize hK : VS _ _ _ = KK; simp; (try subst hK)))
          try refine VS.ret ?_
          repeat first | refine blockN_ret ?_ | refine loopN_ret ?_
          refine endK.of [6, 7] [0] [] (by simp [hF]) (by simp [covers, mpre]) ?_
          simp [hF, retK, dSp, slotOf, h, hn, hz', hj, hp']

/- (*cabochon/shape.Space).Set -/
theorem set_ok (S : Sp) {N : Nat} (hS : WF S N) (hN : N < 1000000) (o : Int) (n : ByteArray) (w : Int) : Meets Try.prog 17 [dSp S] (.cons (.ptr 0 [.d]) (.cons (avInt o) (.cons (.val (.string n)) (.cons (avInt w) .nil))))
    fun av X κ => av = avInt (setOf S o n w).2 ∧ X = [dSp (setOf S o n w).1] ∧ κ = [(0, [.d])] := by
  refine Meets.of_vs tabOk Try.func17 (body := ?_) ?_ (by kernel_rfl) Try.ntmps17 (rs := [.tmp 8]) (by kernel_rfl) rfl (by simp [AV.len]) (by simp only [envOf]; exact rfl) ?_
  rotate_left
  · rfl
  intro w0 I0 F0 hF
  repeat first
    | refine VS.seq ?_
    | (refine VS.region tabOk (id := 0) [] (by kernel_rfl) ?_; generalize hK : VS _ _ _ = KK; simp (maxSteps := 1000000) [hF]; (try subst hK); try (refine VS.keep [0, 1, 2, 3] ?_; generalize hK : VS _ _ _ = KK; simp; (try subst hK)))
    | (refine VS.region tabOk (id := 1) [] (by kernel_rfl) ?_; generalize hK : VS _ _ _ = KK; simp (maxSteps := 1000000) [hF]; (try subst hK); try (refine VS.keep [0, 1, 2, 3, 9] ?_; generalize hK : VS _ _ _ = KK; simp; (try subst hK)))
  refine (ask_ok S o n true).call [(0, [])] (by simp) (by simp (maxSteps := 1000000) [hF, dSp]) (by simp (maxSteps := 1000000) [hF, dSp]) (by simp (maxSteps := 1000000) [hF, dSp]) (by simp) ?_
  rintro av X κ ⟨rfl, rfl, rfl⟩
  generalize hK : VS _ _ _ = KK; simp (maxSteps := 1000000) [hF, dSp]; (try subst hK)
  rcases askOf_cases S o n true with he | ⟨he, j, rfl, hj⟩
  · repeat first
      | refine VS.seq ?_
      | (refine VS.region tabOk (id := 2) [] (by kernel_rfl) ?_; generalize hK : VS _ _ _ = KK; simp (maxSteps := 1000000) [hF, he]; (try subst hK); try (refine VS.keep [0, 1, 2, 3, 9, 17] ?_; generalize hK : VS _ _ _ = KK; simp; (try subst hK)))
      | (refine VS.region tabOk (id := 3) [] (by kernel_rfl) ?_; generalize hK : VS _ _ _ = KK; simp (maxSteps := 1000000) [hF, he]; (try subst hK); try (refine VS.keep [8] ?_; generalize hK : VS _ _ _ = KK; simp; (try subst hK)))
      | (refine VS.cond ?_; generalize hK1 : VS _ _ _ = KK1; generalize hK2 : VS _ _ _ = KK2; simp (maxSteps := 1000000) [hF, he]; (try subst hK1); (try subst hK2))
    try refine VS.ret ?_
    repeat first | refine blockN_ret ?_ | refine loopN_ret ?_
    refine endK.of [8] [0] [(0, [.d])] (by simp [hF]) (by simp [covers, mpre]) ?_
    simp [hF, retK, dSp, setOf, he]
  · repeat first
      | refine VS.seq ?_
      | refine VS.skip ?_
      | (refine VS.region tabOk (id := 2) [] (by kernel_rfl) ?_; generalize hK : VS _ _ _ = KK; simp (maxSteps := 1000000) [hF, dSp, dObs_at hj, hj, he]; (try subst hK); try (refine VS.keep [0, 1, 2, 3, 9, 17] ?_; generalize hK : VS _ _ _ = KK; simp; (try subst hK)))
      | (refine VS.region tabOk (id := 4) [] (by kernel_rfl) ?_; generalize hK : VS _ _ _ = KK; simp (maxSteps := 1000000) [hF, dSp, dObs_at hj, hj, he]; (try subst hK); try (refine VS.keep [0, 2, 3, 10] ?_; generalize hK : VS _ _ _ = KK; simp; (try subst hK)))
      | (refine VS.region tabOk (id := 5) [] (by kernel_rfl) ?_; generalize hK : VS _ _ _ = KK; simp (maxSteps := 1000000) [hF, dSp, dObs_at hj, hj, he]; (try subst hK); try (refine VS.keep [0, 2, 3, 10, 11] ?_; generalize hK : VS _ _ _ = KK; simp; (try subst hK)))
      | (refine VS.cond ?_; generalize hK1 : VS _ _ _ = KK1; generalize hK2 : VS _ _ _ = KK2; simp (maxSteps := 1000000) [hF, dSp, dObs_at hj, hj, he]; (try subst hK1); (try subst hK2))
    have ho := hS.ob _ (List.getElem_mem hj)
    have hnl := ho.names_len
    have hwl := ho.1
    refine (names_ok S hS.sh j hj ho (by omega)).call [(0, [])] (by simp) (by simp (maxSteps := 1000000) [hF, dSp, avOb]) (by simp (maxSteps := 1000000) [hF, dSp, avOb]) (by simp (maxSteps := 1000000) [hF, dSp, avOb]) (by simp) ?_
    rintro av X κ ⟨rfl, rfl, rfl⟩
    generalize hK : VS _ _ _ = KK; simp (maxSteps := 1000000) [hF, dSp, avOb]; (try subst hK)
    refine (index_ok true false S.objs[j].names n (by omega)).call [(1, [])] (by simp) (by simp (maxSteps := 1000000) [hF, dSp]) (by simp (maxSteps := 1000000) [hF, dSp]) (by simp (maxSteps := 1000000) [hF, dSp]) (by simp) ?_
    rintro av X κ ⟨rfl, rfl, rfl⟩
    generalize hK : VS _ _ _ = KK; simp (maxSteps := 1000000) [hF, dSp]; (try subst hK)
    repeat first
      | refine VS.seq ?_
      | (refine VS.region tabOk (id := 6) [] (by kernel_rfl) ?_; generalize hK : VS _ _ _ = KK; simp (maxSteps := 1000000) [hF]; (try subst hK); try (refine VS.keep [0, 2, 3, 10, 11, 33] ?_; generalize hK : VS _ _ _ = KK; simp; (try subst hK)))
      | (refine VS.cond ?_; generalize hK1 : VS _ _ _ = KK1; generalize hK2 : VS _ _ _ = KK2; simp (maxSteps := 1000000) [hF]; (try subst hK1); (try subst hK2))
    refine ⟨fun h => ?_, fun h => ?_⟩
    · have hlt : (posIn n S.objs[j].names).toNat < S.objs[j].words.length := by
        rcases posBy_cases (fun x => decide (x = n)) S.objs[j].names with ⟨h1, _⟩ | ⟨i, hi, h1, _⟩
        · simp only [posIn] at h; omega
        · simp only [posIn, h1]; omega
      have hlt' : posIn n S.objs[j].names < S.objs[j].words.length := by omega
      have hnth := dInts_nth hlt
      have e1 := dObs_set S.objs j { S.objs[j] with words := S.objs[j].words.set (posIn n S.objs[j].names).toNat w }
      have e2 : ownOf { S.objs[j] with words := S.objs[j].words.set (posIn n S.objs[j].names).toNat w } = ownOf S.objs[j] := rfl
      rw [e2] at e1
      repeat first
        | refine VS.seq ?_
        | (refine VS.region tabOk (id := 7) [] (by kernel_rfl) ?_; generalize hK : VS _ _ _ = KK; simp (maxSteps := 1000000) [hF, dSp, dObs_at hj, hj, h, hlt, hlt', hnth]; (try subst hK); try (refine VS.keep [] ?_; generalize hK : VS _ _ _ = KK; simp; (try subst hK)))
        | (refine VS.region tabOk (id := 8) [] (by kernel_rfl) ?_; generalize hK : VS _ _ _ = KK; simp (maxSteps := 1000000) [hF, dSp, dObs_at hj, hj, h, hlt, hlt', hnth]; (try subst hK); try (refine VS.keep [8] ?_; generalize hK : VS _ _ _ = KK; simp; (try subst hK)))
      try refine VS.ret ?_
      repeat first | refine blockN_ret ?_ | refine loopN_ret ?_
      refine endK.of [8] [0] [(0, [.d])] (by simp [hF]) (by simp [covers, mpre]) ?_
      simp [hF, retK, dSp, setOf, he, obAt_eq hj, h, setOb, e1]
    · have h' : ¬ 0 ≤ posIn n S.objs[j].names := by omega
      repeat first
        | refine VS.seq ?_
        | refine VS.skip ?_
        | (refine VS.region tabOk (id := 9) [] (by kernel_rfl) ?_; generalize hK : VS _ _ _ = KK; simp (maxSteps := 1000000) [hF, dSp, dObs_at hj, hj]; (try subst hK); try (refine VS.keep [] ?_; generalize hK : VS _ _ _ = KK; simp; (try subst hK)))
      refine (add_ok S hS.sh j hj ho hN n w).call [(0, [])] (by simp) (by simp (maxSteps := 1000000) [hF, dSp, addOf]) (by simp (maxSteps := 1000000) [hF, dSp, addOf]) (by simp (maxSteps := 1000000) [hF, dSp, addOf]) (by simp) ?_
      rintro av X κ ⟨rfl, rfl, rfl⟩
      generalize hK : VS _ _ _ = KK; simp (maxSteps := 1000000) [hF, dSp, addOf]; (try subst hK)
      repeat first
        | refine VS.seq ?_
        | (refine VS.region tabOk (id := 10) [] (by kernel_rfl) ?_; generalize hK : VS _ _ _ = KK; simp (maxSteps := 1000000) [hF]; (try subst hK); try (refine VS.keep [8] ?_; generalize hK : VS _ _ _ = KK; simp; (try subst hK)))
      try refine VS.ret ?_
      repeat first | refine blockN_ret ?_ | refine loopN_ret ?_
      refine endK.of [8] [0] [(0, [.d])] (by simp [hF]) (by simp [covers, mpre]) ?_
      simp [hF, retK, dSp, setOf, he, obAt_eq hj, h', addOf]
end Go.Proofs.Ythcndkpkkaphoaa

/- What every law asks beside: a fixed example; the names. -/
namespace Go.Proofs.Ythcndkpkkaphoaa
set_option linter.all false
open Go.Vc Go.Proofs
set_option linter.unusedSimpArgs false
set_option maxRecDepth 100000
set_option maxHeartbeats 4000000
attribute [local irreducible] CallW EqK

def lnames : List ByteArray := [⟨#[97]⟩, ⟨#[98]⟩, ⟨#[99]⟩, ⟨#[100]⟩, ⟨#[101]⟩, ⟨#[102]⟩, ⟨#[103]⟩, ⟨#[104]⟩, ⟨#[105]⟩, ⟨#[106]⟩, ⟨#[107]⟩, ⟨#[108]⟩, ⟨#[109]⟩, ⟨#[110]⟩, ⟨#[111]⟩]

/- cabochon/cabochonlaw20.names -/
theorem lnames_ok : Meets Try.prog 14 [] .nil fun av X κ => av = .sub 0 [] 0 15 true ∧ X = [.sl true () 1 (dStrs lnames)] ∧ κ = [] := by
  refine Meets.of_vs tabOk Try.func14 (body := ?_) ?_ (by kernel_rfl) Try.ntmps14 (rs := [.tmp 0]) (by kernel_rfl) rfl (by simp [AV.len]) (by simp only [envOf]; exact rfl) ?_
  rotate_left
  · rfl
  intro w0 I0 F0 hF
  repeat first
    | refine VS.seq ?_
    | (refine VS.region tabOk (id := 0) [] (by kernel_rfl) ?_; generalize hK : VS _ _ _ = KK; simp (maxSteps := 1000000) [hF]; (try subst hK); try (refine VS.keep [] ?_; generalize hK : VS _ _ _ = KK; simp; (try subst hK)))
    | (refine VS.region tabOk (id := 1) [] (by kernel_rfl) ?_; generalize hK : VS _ _ _ = KK; simp (maxSteps := 1000000) [hF]; (try subst hK); try (refine VS.keep [0] ?_; generalize hK : VS _ _ _ = KK; simp; (try subst hK)))
  try refine VS.ret ?_
  repeat first | refine blockN_ret ?_ | refine loopN_ret ?_
  refine endK.of [0] [0] [] (by simp [hF]) (by simp [covers, mpre]) ?_
  simp [hF, retK]
  rfl

def sp1 : Sp := ⟨[⟨-1, []⟩], [⟨0, [], [], false⟩]⟩
def sp2 : Sp := ⟨[⟨-1, []⟩, ⟨0, [⟨#[120]⟩]⟩], [⟨1, [⟨#[120]⟩], [7], false⟩]⟩

theorem sp0_wf : WF sp0 0 := ⟨⟨by simp [sp0], fun _ => rfl, fun k hk hp => by simp [sp0] at hk; omega, fun k hk => by simp [sp0] at hk; subst hk; simp [sp0]⟩, by simp [sp0], by simp [sp0]⟩
theorem make0 : makeOf sp0 = (sp1, 0, 0) := by kernel_rfl
theorem set1 : setOf sp1 0 ⟨#[120]⟩ 7 = (sp2, 0) := by kernel_rfl
theorem get2 : getOf sp2 0 ⟨#[120]⟩ = (7, 0) := by kernel_rfl

/-- Make keeps the state's laws. -/
theorem makeOf_wf {S : Sp} {N : Nat} (h : WF S N) (hr : 0 < S.shapes.length) : WF (makeOf S).1 N := by
  unfold makeOf
  split
  · exact h
  · split
    · exact h
    · rename_i h1 h2
      refine ⟨h.sh, by simp; omega, fun o ho => ?_⟩
      simp only [List.mem_append, List.mem_singleton] at ho
      rcases ho with ho | rfl
      · exact h.ob o ho
      · exact ⟨rfl, Nat.zero_le _, .inr ⟨0, hr, rfl, by simp only [h.sh.root hr]⟩⟩

theorem setOf_wf {S : Sp} {N : Nat} (h : WF S N) (o : Int) (n : ByteArray) (w : Int) : WF (setOf S o n w).1 (N + 1) := by
  unfold setOf
  split
  · exact h.mono (by omega)
  · rename_i he
    rcases askOf_cases S o n true with h1 | ⟨_, j, rfl, hj⟩
    · exact absurd h1 he
    · have ho := h.ob _ (List.getElem_mem hj)
      rw [obAt_eq hj]
      split
      · refine (setOb_wf h ?_).mono (by omega)
        exact ⟨by simpa using ho.1, ho.2.1, ho.2.2⟩
      · exact addOf_wf h ho n w

theorem shapes_mono_make {S : Sp} (hr : 0 < S.shapes.length) : 0 < (makeOf S).1.shapes.length := by
  unfold makeOf; split
  · exact hr
  · split <;> exact hr

theorem stepSh_pos {l : List Sh} (hr : 0 < l.length) (o : Ob) (n : ByteArray) : 0 < (stepSh l o n).1.length := by
  obtain ⟨h, _⟩ := stepSh_old l o n 0 hr
  exact h

theorem setOf_pos {S : Sp} (hr : 0 < S.shapes.length) (o : Int) (n : ByteArray) (w : Int) : 0 < (setOf S o n w).1.shapes.length := by
  unfold setOf; split
  · exact hr
  · split
    · exact hr
    · exact stepSh_pos hr _ _

theorem setOf_objs (S : Sp) (o : Int) (n : ByteArray) (w : Int) : (setOf S o n w).1.objs.length = S.objs.length := by
  unfold setOf; split
  · rfl
  · split
    · simp [setOb]
    · simp [addOf]

/- cabochon/cabochonlaw20.sane -/
theorem sane_ok : Meets Try.prog 23 [] .nil fun av X κ => av = .val (.bool true) ∧ X = [] ∧ κ = [] := by
  have w1 : WF sp1 0 := by have := makeOf_wf sp0_wf (by simp [sp0]); rwa [make0] at this
  have w2 : WF sp2 1 := by have := setOf_wf w1 0 ⟨#[120]⟩ 7; rwa [set1] at this
  refine Meets.of_vs tabOk Try.func23 (body := ?_) ?_ (by kernel_rfl) Try.ntmps23 (rs := [.tmp 0]) (by kernel_rfl) rfl (by simp [AV.len]) (by simp only [envOf]; exact rfl) ?_
  rotate_left
  · rfl
  intro w0 I0 F0 hF
  repeat first
    | refine VS.seq ?_
    | (refine VS.region tabOk (id := 0) [] (by kernel_rfl) ?_; generalize hK : VS _ _ _ = KK; simp (maxSteps := 1000000) [hF]; (try subst hK); try (refine VS.keep [] ?_; generalize hK : VS _ _ _ = KK; simp; (try subst hK)))
    | (refine VS.region tabOk (id := 1) [] (by kernel_rfl) ?_; generalize hK : VS _ _ _ = KK; simp (maxSteps := 1000000) [hF]; (try subst hK); try (refine VS.keep [1] ?_; generalize hK : VS _ _ _ = KK; simp; (try subst hK)))
  refine (new_ok).call [] (by simp) (by simp (maxSteps := 1000000) [hF]) (by simp (maxSteps := 1000000) [hF]) (by simp (maxSteps := 1000000) [hF]) (by simp) ?_
  rintro av X κ ⟨rfl, rfl, rfl⟩
  generalize hK : VS _ _ _ = KK; simp (maxSteps := 1000000) [hF]; (try subst hK)
  repeat first
    | refine VS.seq ?_
    | (refine VS.region tabOk (id := 2) [] (by kernel_rfl) ?_; generalize hK : VS _ _ _ = KK; simp (maxSteps := 1000000) [hF]; (try subst hK); try (refine VS.keep [1, 2, 3] ?_; generalize hK : VS _ _ _ = KK; simp; (try subst hK)))
  refine (make_ok sp0).call [(0, [])] (by simp) (by simp (maxSteps := 1000000) [hF, make0, dSp]) (by simp (maxSteps := 1000000) [hF, make0, dSp]) (by simp (maxSteps := 1000000) [hF, make0, dSp]) (by simp) ?_
  rintro av X κ ⟨rfl, rfl, rfl⟩
  generalize hK : VS _ _ _ = KK; simp (maxSteps := 1000000) [hF, make0, dSp]; (try subst hK)
  repeat first
    | refine VS.seq ?_
    | (refine VS.region tabOk (id := 3) [] (by kernel_rfl) ?_; generalize hK : VS _ _ _ = KK; simp (maxSteps := 1000000) [hF]; (try subst hK); try (refine VS.keep [1, 2, 3, 4] ?_; generalize hK : VS _ _ _ = KK; simp; (try subst hK)))
  refine (set_ok sp1 w1 (by omega) 0 ⟨#[120]⟩ 7).call [(0, [])] (by simp) (by simp (maxSteps := 1000000) [hF, set1, dSp]) (by simp (maxSteps := 1000000) [hF, set1, dSp]) (by simp (maxSteps := 1000000) [hF, set1, dSp]) (by simp) ?_
  rintro av X κ ⟨rfl, rfl, rfl⟩
  generalize hK : VS _ _ _ = KK; simp (maxSteps := 1000000) [hF, set1, dSp]; (try subst hK)
  repeat first
    | refine VS.seq ?_
    | (refine VS.region tabOk (id := 4) [] (by kernel_rfl) ?_; generalize hK : VS _ _ _ = KK; simp (maxSteps := 1000000) [hF]; (try subst hK); try (refine VS.keep [1, 3, 4, 5, 6] ?_; generalize hK : VS _ _ _ = KK; simp; (try subst hK)))
  refine (get_ok sp2 w2 (by omega) 0 ⟨#[120]⟩).call [(0, [])] (by simp) (by simp (maxSteps := 1000000) [hF, get2, dSp]) (by simp (maxSteps := 1000000) [hF, get2, dSp]) (by simp (maxSteps := 1000000) [hF, get2, dSp]) (by simp) ?_
  rintro av X κ ⟨rfl, rfl, rfl⟩
  generalize hK : VS _ _ _ = KK; simp (maxSteps := 1000000) [hF, get2, dSp]; (try subst hK)
  repeat first
    | refine VS.seq ?_
    | (refine VS.region tabOk (id := 5) [(2, 24), (6, 28), (10, 32), (14, 36)] (by kernel_rfl) ?_; generalize hK : VS _ _ _ = KK; simp (maxSteps := 1000000) [hF]; (try subst hK); try (refine VS.keep [0] ?_; generalize hK : VS _ _ _ = KK; simp; (try subst hK)))
  refine (shapes_ok sp2).call [(0, [])] (by simp) (by simp (maxSteps := 1000000) [hF, shapesOf, dSp]) (by simp (maxSteps := 1000000) [hF, shapesOf, dSp]) (by simp (maxSteps := 1000000) [hF, shapesOf, dSp]) (by simp) ?_
  rintro av X κ ⟨rfl, rfl, rfl⟩
  generalize hK : VS _ _ _ = KK; simp (maxSteps := 1000000) [hF, shapesOf, dSp]; (try subst hK)
  try refine VS.ret ?_
  repeat first | refine blockN_ret ?_ | refine loopN_ret ?_
  refine endK.of [0] [] [] (by simp [hF]) (by simp [covers, mpre]) ?_
  simp [hF, retK, sp2]
end Go.Proofs.Ythcndkpkkaphoaa

/- Deeds: what they do, and that they keep the state's laws. -/
namespace Go.Proofs.Ythcndkpkkaphoaa
set_option linter.all false
open Go.Vc Go.Proofs

structure Deed where
  op : Int
  obj : Int
  name : ByteArray
  word : Int

def dDeed (d : Deed) : D := .agg (.cons (.val (.int .i64 d.op)) (.cons (.val (.int .i64 d.obj)) (.cons (.val (.string d.name)) (.cons (.val (.int .i64 d.word)) .nil))))
def dDeeds (l : List Deed) : D := sq (l.map dDeed)
@[simp] theorem dDeeds_len (l : List Deed) : (dDeeds l).len = l.length := by simp [dDeeds]
theorem dDeeds_nth {l : List Deed} {i : Nat} (h : i < l.length) : (dDeeds l).nth i = .agg (.cons (.val (.int .i64 l[i].op)) (.cons (.val (.int .i64 l[i].obj)) (.cons (.val (.string l[i].name)) (.cons (.val (.int .i64 l[i].word)) .nil)))) := by
  rw [dDeeds, sq_nth_lt (by simpa using h)]; simp; rfl

def avDeed (d : Deed) : AV := .agg (.cons (.val (.int .i64 d.op)) (.cons (.val (.int .i64 d.obj)) (.cons (.val (.string d.name)) (.cons (.val (.int .i64 d.word)) .nil))))

def doOf (S : Sp) (d : Deed) : Sp × Int × Int :=
  if d.op = 0 then makeOf S
  else if d.op = 1 then ((setOf S d.obj d.name d.word).1, 0, (setOf S d.obj d.name d.word).2)
  else if d.op = 2 then (S, getOf S d.obj d.name)
  else if d.op = 3 then deleteOf S d.obj d.name
  else if d.op = 4 then ((freezeOf S d.obj).1, 0, (freezeOf S d.obj).2)
  else if d.op = 5 then cloneOf S d.obj
  else (S, 0, 0)

/-- The part of a number. -/
def partOf (x : Int) (n : Int) : Int := (IntKind.u64.wrap x).tmod n
theorem u64_nonneg (x : Int) : 0 ≤ IntKind.u64.wrap x := by simp only [IntKind.wrap, IntKind.bits, IntKind.signed]; simp; omega
theorem partOf_nonneg (x : Int) {n : Int} : 0 ≤ partOf x n := Int.tmod_nonneg _ (u64_nonneg x)
theorem partOf_lt (x : Int) {n : Int} (h : 0 < n) : partOf x n < n := Int.tmod_lt_of_pos _ h

def nameOf (x : Int) : ByteArray := lnames.getD (partOf x 15).toNat noName
def smallOf (d : Deed) : Deed := ⟨partOf d.op 6, partOf d.obj 5, nameOf d.word, d.word⟩

theorem nameOf_lt (x : Int) : (partOf x 15).toNat < lnames.length := by
  have h1 := partOf_nonneg x (n := 15)
  have h2 := partOf_lt x (n := 15) (by omega)
  have : lnames.length = 15 := rfl
  omega
theorem nameOf_eq (x : Int) : nameOf x = lnames[(partOf x 15).toNat]'(nameOf_lt x) := by
  rw [nameOf, List.getD_eq_getElem?_getD, List.getElem?_eq_getElem (nameOf_lt x)]; rfl
theorem nameOf_nth (x : Int) : (dStrs lnames).nth (partOf x 15).toNat = .val (.string (nameOf x)) := by
  rw [nameOf_eq, dStrs_nth (nameOf_lt x)]

/- The state's laws are kept. -/
theorem refill_wf {S : Sp} (j i : Nat) (hj : j < S.objs.length) : ∀ (ns : List ByteArray) (ws : List Int) (k N : Nat), (∀ h : j < S.objs.length, ObOk S.shapes k S.objs[j]) → WF S N → k + ns.length ≤ N → WF (refill S j i k ns ws) N := by
  intro ns
  induction ns generalizing S with
  | nil => intro ws k N _ h _; cases ws <;> exact h
  | cons n ns ih =>
    intro ws k N ho h hk
    cases ws with
    | nil => exact h
    | cons w ws =>
      simp only [List.length_cons] at hk
      unfold refill
      split
      · exact ih hj _ _ _ (fun hh => (ho hh).mono (fun _ hk => ⟨hk, rfl⟩) (by omega)) h (by omega)
      · have e : S.objs.getD j ⟨0, [], [], false⟩ = S.objs[j] := by simp [hj]
        rw [e]
        obtain ⟨h1, h2⟩ := stepSh_ok h.sh (ho hj) n w
        have hl := (ho hj).2.1
        refine ih (by simpa [addOf] using hj) _ _ _ (fun hh => ?_) ?_ (by omega)
        · simp only [addOf, List.getElem_set_self]
          exact h2.mono (fun _ hk => ⟨hk, rfl⟩) (by omega)
        · refine ⟨h1, by simpa [addOf] using h.no, fun x hx => ?_⟩
          simp only [addOf] at hx
          rcases List.mem_or_eq_of_mem_set hx with hx | rfl
          · exact (h.ob x hx).mono (stepSh_old _ _ _) (by omega)
          · exact h2.mono (fun _ hk => ⟨hk, rfl⟩) (by omega)

theorem refill_pos {S : Sp} (j i : Nat) (hr : 0 < S.shapes.length) : ∀ (ns : List ByteArray) (ws : List Int) (k : Nat), 0 < (refill S j i k ns ws).shapes.length := by
  intro ns
  induction ns generalizing S with
  | nil => intro ws k; cases ws <;> exact hr
  | cons n ns ih =>
    intro ws k
    cases ws with
    | nil => exact hr
    | cons w ws =>
      unfold refill
      split
      · exact ih hr _ _
      · exact ih (stepSh_pos hr _ _) _ _

theorem deleteOf_wf {S : Sp} {N : Nat} (h : WF S N) (hr : 0 < S.shapes.length) (o : Int) (n : ByteArray) : WF (deleteOf S o n).1 N := by
  unfold deleteOf
  split
  · exact h
  · split
    · exact h
    · rename_i he _
      rcases askOf_cases S o n true with h1 | ⟨_, j, rfl, hj⟩
      · exact absurd h1 he
      · have ho := h.ob _ (List.getElem_mem hj)
        rw [obAt_eq hj]
        have hob : ObOk S.shapes 0 ⟨if S.objs[j].shape = -1 then -1 else 0, [], [], S.objs[j].frozen⟩ := by
          refine ⟨rfl, Nat.le_refl _, ?_⟩
          by_cases hc : S.objs[j].shape = -1
          · exact .inl (by simp [hc])
          · exact .inr ⟨0, hr, by simp [hc], by rw [h.sh.root hr]⟩
        refine refill_wf _ _ (by simpa [setOb] using hj) _ _ _ _ (fun hh => ?_) (setOb_wf h (hob.mono (fun _ hk => ⟨hk, rfl⟩) (by omega))) (by have := ho.2.1; omega)
        simp only [setOb, Int.toNat_natCast, List.getElem_set_self]
        exact hob

theorem deleteOf_pos {S : Sp} (hr : 0 < S.shapes.length) (o : Int) (n : ByteArray) : 0 < (deleteOf S o n).1.shapes.length := by
  unfold deleteOf
  split
  · exact hr
  · split
    · exact hr
    · exact refill_pos (S := setOb S o _) _ _ hr _ _ _

theorem hasB_split (S : Sp) (o : Int) : hasB S o = false ∨ ∃ j : Nat, o = j ∧ j < S.objs.length := by
  cases h : hasB S o with
  | false => exact .inl rfl
  | true => obtain ⟨j, h1, h2, _⟩ := hasB_true h; exact .inr ⟨j, h1, h2⟩

theorem freezeOf_wf {S : Sp} {N : Nat} (h : WF S N) (o : Int) : WF (freezeOf S o).1 N := by
  unfold freezeOf
  split
  · exact h
  · rename_i hh
    rcases hasB_split S o with h1 | ⟨j, rfl, hj⟩
    · exact absurd h1 hh
    · have ho := h.ob _ (List.getElem_mem hj)
      refine setOb_wf h ?_
      rw [obAt_eq hj]
      exact ho

theorem cloneOf_wf {S : Sp} {N : Nat} (h : WF S N) (o : Int) : WF (cloneOf S o).1 N := by
  unfold cloneOf
  split
  · exact h
  · rename_i hh
    rcases hasB_split S o with h1 | ⟨j, rfl, hj⟩
    · exact absurd h1 hh
    · split
      · exact h
      · have ho := h.ob _ (List.getElem_mem hj)
        rw [obAt_eq hj]
        refine ⟨h.sh, by simp; omega, fun x hx => ?_⟩
        simp only [List.mem_append, List.mem_singleton] at hx
        rcases hx with hx | rfl
        · exact h.ob x hx
        · exact ho

theorem doOf_wf {S : Sp} {N : Nat} (h : WF S N) (hr : 0 < S.shapes.length) (d : Deed) : WF (doOf S d).1 (N + 1) ∧ 0 < (doOf S d).1.shapes.length := by
  unfold doOf
  split
  · exact ⟨(makeOf_wf h hr).mono (by omega), shapes_mono_make hr⟩
  split
  · exact ⟨setOf_wf h _ _ _, setOf_pos hr _ _ _⟩
  split
  · exact ⟨h.mono (by omega), hr⟩
  split
  · exact ⟨(deleteOf_wf h hr _ _).mono (by omega), deleteOf_pos hr _ _⟩
  split
  · refine ⟨(freezeOf_wf h _).mono (by omega), ?_⟩
    unfold freezeOf; split <;> exact hr
  split
  · refine ⟨(cloneOf_wf h _).mono (by omega), ?_⟩
    unfold cloneOf; split
    · exact hr
    · split <;> exact hr
  · exact ⟨h.mono (by omega), hr⟩

/-- Deeds, one behind the other. -/
def runOf (S : Sp) (l : List Deed) : Sp := l.foldl (fun S d => (doOf S (smallOf d)).1) S

theorem runOf_wf : ∀ {S : Sp} {N : Nat} (l : List Deed), WF S N → 0 < S.shapes.length → WF (runOf S l) (N + l.length) ∧ 0 < (runOf S l).shapes.length
  | _, _, [], h, hr => ⟨h, hr⟩
  | S, N, d :: l, h, hr => by
    obtain ⟨h1, h2⟩ := doOf_wf h hr (smallOf d)
    obtain ⟨h3, h4⟩ := runOf_wf l h1 h2
    exact ⟨h3.mono (by simp only [List.length_cons]; omega), h4⟩

def sp5 : Sp := ⟨[⟨-1, []⟩], [⟨0, [], [], false⟩, ⟨0, [], [], false⟩, ⟨0, [], [], false⟩, ⟨0, [], [], false⟩, ⟨0, [], [], false⟩]⟩
def playedOf (l : List Deed) : Sp := runOf sp5 (l.take 400)

def makes : Nat → Sp → Sp
  | 0, S => S
  | k + 1, S => (makeOf (makes k S)).1
theorem makes5 : makes 5 sp0 = sp5 := by kernel_rfl
theorem makes_wf : ∀ k, WF (makes k sp0) 0 ∧ 0 < (makes k sp0).shapes.length
  | 0 => ⟨sp0_wf, by simp [makes, sp0]⟩
  | k + 1 => ⟨makeOf_wf (makes_wf k).1 (makes_wf k).2, shapes_mono_make (makes_wf k).2⟩

theorem sp5_wf : WF sp5 0 ∧ 0 < sp5.shapes.length := by rw [← makes5]; exact makes_wf 5
theorem playedOf_wf (l : List Deed) : WF (playedOf l) 400 ∧ 0 < (playedOf l).shapes.length := by
  obtain ⟨h1, h2⟩ := runOf_wf (l.take 400) sp5_wf.1 sp5_wf.2
  exact ⟨h1.mono (by simp; omega), h2⟩
theorem runOf_snoc (S : Sp) (l : List Deed) (d : Deed) : runOf S (l ++ [d]) = (doOf (runOf S l) (smallOf d)).1 := by simp [runOf]
theorem runOf_take {S : Sp} {l : List Deed} {i : Nat} (h : i < l.length) : runOf S (l.take (i + 1)) = (doOf (runOf S (l.take i)) (smallOf l[i])).1 := by
  rw [List.take_add_one, List.getElem?_eq_getElem h]; exact runOf_snoc _ _ _
end Go.Proofs.Ythcndkpkkaphoaa

/- Delete, Clone. -/
namespace Go.Proofs.Ythcndkpkkaphoaa
set_option linter.all false
open Go.Vc Go.Proofs
set_option linter.unusedSimpArgs false
set_option maxRecDepth 100000
set_option maxHeartbeats 4000000
attribute [local irreducible] CallW EqK

/- (*cabochon/shape.Space).Clone -/
theorem clone_ok (S : Sp) {N : Nat} (hS : WF S N) (hN : N < 1000000) (o : Int) : Meets Try.prog 32 [dSp S] (.cons (.ptr 0 [.d]) (.cons (avInt o) .nil))
    fun av X κ => av = two (cloneOf S o).2 ∧ X = [dSp (cloneOf S o).1] ∧ κ = [(0, [.d])] := by
  refine Meets.of_vs tabOk Try.func32 (body := ?_) ?_ (by kernel_rfl) Try.ntmps32 (rs := [.tmp 4, .tmp 5]) (by kernel_rfl) rfl (by simp [AV.len]) (by simp only [envOf]; exact rfl) ?_
  rotate_left
  · rfl
  intro w0 I0 F0 hF
  repeat first
    | refine VS.seq ?_
    | (refine VS.region tabOk (id := 0) [] (by kernel_rfl) ?_; generalize hK : VS _ _ _ = KK; simp (maxSteps := 1000000) [hF]; (try subst hK); try (refine VS.keep [0, 1] ?_; generalize hK : VS _ _ _ = KK; simp; (try subst hK)))
    | (refine VS.region tabOk (id := 1) [] (by kernel_rfl) ?_; generalize hK : VS _ _ _ = KK; simp (maxSteps := 1000000) [hF]; (try subst hK); try (refine VS.keep [0, 1, 10] ?_; generalize hK : VS _ _ _ = KK; simp; (try subst hK)))
  refine (has_ok S o).call [(0, [])] (by simp) (by simp (maxSteps := 1000000) [hF, dSp]) (by simp (maxSteps := 1000000) [hF, dSp]) (by simp (maxSteps := 1000000) [hF, dSp]) (by simp) ?_
  rintro av X κ ⟨rfl, rfl, rfl⟩
  generalize hK : VS _ _ _ = KK; simp (maxSteps := 1000000) [hF, dSp]; (try subst hK)
  repeat first
    | (refine VS.cond ?_; generalize hK1 : VS _ _ _ = KK1; generalize hK2 : VS _ _ _ = KK2; simp (maxSteps := 1000000) [hF]; (try subst hK1); (try subst hK2))
  refine ⟨fun h => ?_, fun h => ?_⟩
  · repeat first
      | refine VS.seq ?_
      | (refine VS.region tabOk (id := 2) [] (by kernel_rfl) ?_; generalize hK : VS _ _ _ = KK; simp (maxSteps := 1000000) [hF]; (try subst hK); try (refine VS.keep [4, 5] ?_; generalize hK : VS _ _ _ = KK; simp; (try subst hK)))
    try refine VS.ret ?_
    repeat first | refine blockN_ret ?_ | refine loopN_ret ?_
    refine endK.of [4, 5] [0] [(0, [.d])] (by simp [hF]) (by simp [covers, mpre]) ?_
    simp [hF, retK, dSp, cloneOf, h]
  · obtain ⟨j, rfl, hj, h0⟩ := hasB_true h
    repeat first
      | refine VS.seq ?_
      | refine VS.skip ?_
      | (refine VS.region tabOk (id := 3) [] (by kernel_rfl) ?_; generalize hK : VS _ _ _ = KK; simp (maxSteps := 1000000) [hF, dSp, dObs_at hj, hj, h]; (try subst hK); try (refine VS.keep [0, 1, 16] ?_; generalize hK : VS _ _ _ = KK; simp; (try subst hK)))
      | (refine VS.cond ?_; generalize hK1 : VS _ _ _ = KK1; generalize hK2 : VS _ _ _ = KK2; simp (maxSteps := 1000000) [hF, dSp, dObs_at hj, hj, h]; (try subst hK1); (try subst hK2))
    refine ⟨fun h1 => ?_, fun h1 => ?_⟩
    · repeat first
        | refine VS.seq ?_
        | (refine VS.region tabOk (id := 4) [] (by kernel_rfl) ?_; generalize hK : VS _ _ _ = KK; simp (maxSteps := 1000000) [hF]; (try subst hK); try (refine VS.keep [4, 5] ?_; generalize hK : VS _ _ _ = KK; simp; (try subst hK)))
      have h1' : 100 ≤ S.objs.length := by omega
      try refine VS.ret ?_
      repeat first | refine blockN_ret ?_ | refine loopN_ret ?_
      refine endK.of [4, 5] [0] [(0, [.d])] (by simp [hF]) (by simp [covers, mpre]) ?_
      simp [hF, retK, dSp, cloneOf, h, h1']
    · have ho := hS.ob _ (List.getElem_mem hj)
      repeat first
        | refine VS.seq ?_
        | refine VS.skip ?_
        | (refine VS.region tabOk (id := 5) [] (by kernel_rfl) ?_; generalize hK : VS _ _ _ = KK; simp (maxSteps := 1000000) [hF, dSp, dObs_at hj, hj, h]; (try subst hK); try (refine VS.keep [0, 6] ?_; generalize hK : VS _ _ _ = KK; simp; (try subst hK)))
        | (refine VS.drawn tabOk mixedOk (id := 6) [] [⟨0, 64, 16777216, 5⟩, ⟨1, 16777216, 33554432, 6⟩, ⟨2, 33554432, 67108864, 0⟩, ⟨0, 64, 134217728, 5⟩, ⟨8, 134217728, 268435456, 6⟩, ⟨20, 268435456, 536870912, 0⟩, ⟨27, 64, 1073741824, 5⟩, ⟨123, 1073741824, 0, 0⟩, ⟨223, 64, 2147483648, 5⟩, ⟨479, 2214592512, 0, 0⟩, ⟨1023, 64, 4294967296, 5⟩, ⟨2047, 4831838208, 0, 0⟩] (.take 0 (.take 1 (.take 3 (.fork (.alt 2 (.take 4 (.take 6 (.fork (.alt 5 (.fork (.alt 7 (.take 8 (.fork (.alt 9 (.take 10 (.fork (.alt 11 (.done) (.nil)))) (.nil)))) (.nil))) (.nil))))) (.alt 4 (.take 6 (.fork (.alt 2 (.fork (.alt 5 (.fork (.alt 7 (.take 8 (.fork (.alt 9 (.take 10 (.fork (.alt 11 (.done) (.nil)))) (.nil)))) (.nil))) (.nil))) (.nil)))) (.nil))))))) (.run [0, 1, 3] (.both (.run [2, 4, 6, 5, 7, 8, 9, 10, 11] (.done)) (.run [4, 6, 2, 5, 7, 8, 9, 10, 11] (.done)))) (by kernel_rfl) (by kernel_rfl) (by kernel_rfl) ?_; generalize hK : VS _ _ _ = KK; simp only [opsVc_run, opsVc_both, opsVc_chk, opsVc_done, opsVc_yes, pick_cons, pick_nil, List.getElem?_cons_zero, List.getElem?_cons_succ]; simp (maxSteps := 1000000) [hF, dSp, dObs_at hj, hj, h]; (try subst hK); try (refine VS.keep [0, 6] ?_; generalize hK : VS _ _ _ = KK; simp; (try subst hK)))
      have hol : (ownOf S.objs[j]).length ≤ N := by
        have := ho.names_len
        unfold ownOf; split
        · exact this
        · simp
      have hwl : S.objs[j].words.length ≤ N := by rw [ho.1]; exact ho.names_len
      refine ⟨?_, ?_⟩
      all_goals
        refine (cloneStr_ok true false (ownOf S.objs[j]) (by omega)).call [(0, [.d, .f 1, .i j, .f 1])] (by simp) (by simp (maxSteps := 1000000) [hF, dSp, dObs_at hj, hj, setN_of (dObs_at hj)]) (by simp (maxSteps := 1000000) [hF, dSp, dObs_at hj, hj, setN_of (dObs_at hj)]) (by simp (maxSteps := 1000000) [hF, dSp, dObs_at hj, hj, setN_of (dObs_at hj)]) (by simp) ?_
        rintro av X κ ⟨rfl, rfl, rfl⟩
        generalize hK : VS _ _ _ = KK; simp (maxSteps := 1000000) [hF, dSp, dObs_at hj, hj, setN_of (dObs_at hj)]; (try subst hK)
        refine (cloneInt_ok true false S.objs[j].words (by omega)).call [(0, [.d, .f 1, .i j, .f 2])] (by simp) (by simp (maxSteps := 1000000) [hF, dSp, dObs_at hj, hj, setN_of (dObs_at hj)]) (by simp (maxSteps := 1000000) [hF, dSp, dObs_at hj, hj, setN_of (dObs_at hj)]) (by simp (maxSteps := 1000000) [hF, dSp, dObs_at hj, hj, setN_of (dObs_at hj)]) (by simp) ?_
        rintro av X κ ⟨rfl, rfl, rfl⟩
        generalize hK : VS _ _ _ = KK; simp (maxSteps := 1000000) [hF, dSp, dObs_at hj, hj, setN_of (dObs_at hj)]; (try subst hK)
        repeat first
          | refine VS.seq ?_
        refine VS.lift 0 [.d, .f 1] (by simp (maxSteps := 1000000) [hF]) (by simp (maxSteps := 1000000) [hF]) (by simp [isNode]) (by simp (maxSteps := 1000000) [hF]) ?_
        generalize hK : VS _ _ _ = KK; simp [hF, St.lift, AV.lift, liftPl, stripP, nodeAV]; (try subst hK)
        refine VS.lift 1 [.d, .f 1] (by simp (maxSteps := 1000000) [hF]) (by simp (maxSteps := 1000000) [hF]) (by simp [isNode]) (by simp (maxSteps := 1000000) [hF]) ?_
        generalize hK : VS _ _ _ = KK; simp [hF, St.lift, AV.lift, liftPl, stripP, nodeAV]; (try subst hK)
        refine VS.lift 1 [.d, .f 2] (by simp (maxSteps := 1000000) [hF]) (by simp (maxSteps := 1000000) [hF]) (by simp [isNode]) (by simp (maxSteps := 1000000) [hF]) ?_
        generalize hK : VS _ _ _ = KK; simp [hF, St.lift, AV.lift, liftPl, stripP, nodeAV]; (try subst hK)
        have hpush := dObs_push S.objs { S.objs[j] with frozen := false }
        have e2 : ownOf { S.objs[j] with frozen := false } = ownOf S.objs[j] := rfl
        rw [e2] at hpush
        repeat first
          | refine VS.seq ?_
          | refine ⟨⟨by omega, by omega⟩, ?_⟩
          | (refine VS.drawn tabOk mixedOk (id := 7) [] [⟨0, 1, 8589934592, 5⟩, ⟨0, 1, 17179869184, 5⟩, ⟨2, 17179869184, 34359738368, 5⟩, ⟨4, 34359738368, 68719476736, 5⟩, ⟨8, 68719476736, 137438953472, 6⟩, ⟨0, 64, 274877906944, 6⟩, ⟨32, 274877906944, 549755813888, 4⟩, ⟨80, 687194767360, 1099511627776, 0⟩, ⟨255, 8589934592, 2199023255552, 5⟩, ⟨511, 2199023255552, 4398046511104, 5⟩, ⟨767, 5497558138880, 0, 0⟩] (.take 0 (.take 1 (.take 2 (.take 3 (.take 4 (.take 5 (.fork (.alt 6 (.fork (.alt 7 (.take 8 (.take 9 (.fork (.alt 10 (.done) (.nil))))) (.nil))) (.nil))))))))) (.run [0, 1, 2, 3, 4, 5, 6, 7, 8, 9, 10] (.done)) (by kernel_rfl) (by kernel_rfl) (by kernel_rfl) ?_; generalize hK : VS _ _ _ = KK; simp only [opsVc_run, opsVc_both, opsVc_chk, opsVc_done, opsVc_yes, pick_cons, pick_nil, List.getElem?_cons_zero, List.getElem?_cons_succ]; simp (maxSteps := 1000000) [hF, hpush]; (try subst hK); try (refine VS.keep [0] ?_; generalize hK : VS _ _ _ = KK; simp; (try subst hK)))
          | (refine VS.region tabOk (id := 8) [] (by kernel_rfl) ?_; generalize hK : VS _ _ _ = KK; simp (maxSteps := 1000000) [hF, hpush]; (try subst hK); try (refine VS.keep [4, 5] ?_; generalize hK : VS _ _ _ = KK; simp; (try subst hK)))
        have h1' : ¬ 100 ≤ S.objs.length := by omega
        have hw : IntKind.i64.wrap (S.objs.length : Int) = S.objs.length := IntWalk.i64_in _ (by omega)
        try refine VS.ret ?_
        repeat first | refine blockN_ret ?_ | refine loopN_ret ?_
        refine endK.of [4, 5] [0] [(0, [.d])] (by simp [hF]) (by simp [covers, mpre]) ?_
        simp [hF, retK, dSp, cloneOf, h, h1', hw, obAt_eq hj]

/- (*cabochon/shape.Space).Delete -/
theorem delete_ok (S : Sp) {N : Nat} (hS : WF S N) (hN : N < 1000000) (o : Int) (n : ByteArray) : Meets Try.prog 49 [dSp S] (.cons (.ptr 0 [.d]) (.cons (avInt o) (.cons (.val (.string n)) .nil)))
    fun av X κ => av = two (deleteOf S o n).2 ∧ X = [dSp (deleteOf S o n).1] ∧ κ = [(0, [.d])] := by
  refine Meets.of_vs tabOk Try.func49 (body := ?_) ?_ (by kernel_rfl) Try.ntmps49 (rs := [.tmp 6, .tmp 7]) (by kernel_rfl) rfl (by simp [AV.len]) (by simp only [envOf]; exact rfl) ?_
  rotate_left
  · rfl
  intro w0 I0 F0 hF
  repeat first
    | refine VS.seq ?_
    | (refine VS.region tabOk (id := 0) [] (by kernel_rfl) ?_; generalize hK : VS _ _ _ = KK; simp (maxSteps := 1000000) [hF]; (try subst hK); try (refine VS.keep [0, 1, 2] ?_; generalize hK : VS _ _ _ = KK; simp; (try subst hK)))
    | (refine VS.region tabOk (id := 1) [] (by kernel_rfl) ?_; generalize hK : VS _ _ _ = KK; simp (maxSteps := 1000000) [hF]; (try subst hK); try (refine VS.keep [0, 1, 2, 8] ?_; generalize hK : VS _ _ _ = KK; simp; (try subst hK)))
  refine (ask_ok S o n true).call [(0, [])] (by simp) (by simp (maxSteps := 1000000) [hF, dSp]) (by simp (maxSteps := 1000000) [hF, dSp]) (by simp (maxSteps := 1000000) [hF, dSp]) (by simp) ?_
  rintro av X κ ⟨rfl, rfl, rfl⟩
  generalize hK : VS _ _ _ = KK; simp (maxSteps := 1000000) [hF, dSp]; (try subst hK)
  rcases askOf_cases S o n true with he | ⟨he, j, rfl, hj⟩
  · repeat first
      | refine VS.seq ?_
      | (refine VS.region tabOk (id := 2) [] (by kernel_rfl) ?_; generalize hK : VS _ _ _ = KK; simp (maxSteps := 1000000) [hF, he]; (try subst hK); try (refine VS.keep [0, 1, 2, 8, 19] ?_; generalize hK : VS _ _ _ = KK; simp; (try subst hK)))
      | (refine VS.region tabOk (id := 3) [] (by kernel_rfl) ?_; generalize hK : VS _ _ _ = KK; simp (maxSteps := 1000000) [hF, he]; (try subst hK); try (refine VS.keep [6, 7] ?_; generalize hK : VS _ _ _ = KK; simp; (try subst hK)))
      | (refine VS.cond ?_; generalize hK1 : VS _ _ _ = KK1; generalize hK2 : VS _ _ _ = KK2; simp (maxSteps := 1000000) [hF, he]; (try subst hK1); (try subst hK2))
    try refine VS.ret ?_
    repeat first | refine blockN_ret ?_ | refine loopN_ret ?_
    refine endK.of [6, 7] [0] [(0, [.d])] (by simp [hF]) (by simp [covers, mpre]) ?_
    simp [hF, retK, dSp, deleteOf, he]
  · repeat first
      | refine VS.seq ?_
      | refine VS.skip ?_
      | (refine VS.region tabOk (id := 2) [] (by kernel_rfl) ?_; generalize hK : VS _ _ _ = KK; simp (maxSteps := 1000000) [hF, dSp, dObs_at hj, hj, he]; (try subst hK); try (refine VS.keep [0, 1, 2, 8, 19] ?_; generalize hK : VS _ _ _ = KK; simp; (try subst hK)))
      | (refine VS.region tabOk (id := 4) [] (by kernel_rfl) ?_; generalize hK : VS _ _ _ = KK; simp (maxSteps := 1000000) [hF, dSp, dObs_at hj, hj, he]; (try subst hK); try (refine VS.keep [0, 2, 9] ?_; generalize hK : VS _ _ _ = KK; simp; (try subst hK)))
      | (refine VS.drawn tabOk mixedOk (id := 5) [] [⟨0, 1, 134217728, 5⟩, ⟨0, 512, 268435456, 5⟩, ⟨2, 268435456, 536870912, 5⟩, ⟨4, 536870912, 1073741824, 6⟩, ⟨9, 1207959552, 2147483648, 0⟩, ⟨0, 512, 4294967296, 5⟩, ⟨32, 4294967296, 8589934592, 5⟩, ⟨64, 8589934592, 17179869184, 5⟩, ⟨128, 17179869184, 34359738368, 6⟩, ⟨31, 2147483648, 1024, 5⟩, ⟨1023, 34359738368, 2048, 5⟩] (.take 0 (.take 1 (.take 2 (.take 3 (.take 5 (.take 6 (.take 7 (.fork (.alt 4 (.take 8 (.take 9 (.take 10 (.done)))) (.alt 8 (.fork (.alt 4 (.take 9 (.take 10 (.done))) (.nil))) (.nil))))))))))) (.run [0, 1, 2, 3, 5, 6, 7] (.both (.run [4, 8, 9, 10] (.done)) (.run [8, 4, 9, 10] (.done)))) (by kernel_rfl) (by kernel_rfl) (by kernel_rfl) ?_; generalize hK : VS _ _ _ = KK; simp only [opsVc_run, opsVc_both, opsVc_chk, opsVc_done, opsVc_yes, pick_cons, pick_nil, List.getElem?_cons_zero, List.getElem?_cons_succ]; simp (maxSteps := 1000000) [hF, dSp, dObs_at hj, hj, he]; (try subst hK); try (refine VS.keep [0, 2, 9, 10, 11] ?_; generalize hK : VS _ _ _ = KK; simp; (try subst hK)))
      | (refine VS.cond ?_; generalize hK1 : VS _ _ _ = KK1; generalize hK2 : VS _ _ _ = KK2; simp (maxSteps := 1000000) [hF, dSp, dObs_at hj, hj, he]; (try subst hK1); (try subst hK2))
    have ho := hS.ob _ (List.getElem_mem hj)
    have hnl := ho.names_len
    have hwl := ho.1
    have hjl : j < (dObs S.objs).len := by simpa using hj
    refine ⟨?_, ?_⟩
    all_goals
      refine (names_ok S hS.sh j hj ho (by omega)).call [(0, [])] (by simp) (by simp (maxSteps := 1000000) [hF, dSp, avOb, dObs_at hj, hj]) (by simp (maxSteps := 1000000) [hF, dSp, avOb, dObs_at hj, hj]) (by simp (maxSteps := 1000000) [hF, dSp, avOb, dObs_at hj, hj]) (by simp) ?_
      rintro av X κ ⟨rfl, rfl, rfl⟩
      generalize hK : VS _ _ _ = KK; simp (maxSteps := 1000000) [hF, dSp, avOb, dObs_at hj, hj]; (try subst hK)
      repeat first
        | refine VS.seq ?_
        | (refine VS.region tabOk (id := 6) [] (by kernel_rfl) ?_; generalize hK : VS _ _ _ = KK; simp (maxSteps := 1000000) [hF]; (try subst hK); try (refine VS.keep [0, 9, 10, 11, 12] ?_; generalize hK : VS _ _ _ = KK; simp; (try subst hK)))
      refine (index_ok true false S.objs[j].names n (by omega)).call [(1, [])] (by simp) (by simp (maxSteps := 1000000) [hF, dSp]) (by simp (maxSteps := 1000000) [hF, dSp]) (by simp (maxSteps := 1000000) [hF, dSp]) (by simp) ?_
      rintro av X κ ⟨rfl, rfl, rfl⟩
      generalize hK : VS _ _ _ = KK; simp (maxSteps := 1000000) [hF, dSp]; (try subst hK)
      repeat first
        | refine VS.seq ?_
        | (refine VS.region tabOk (id := 7) [] (by kernel_rfl) ?_; generalize hK : VS _ _ _ = KK; simp (maxSteps := 1000000) [hF]; (try subst hK); try (refine VS.keep [0, 9, 10, 11, 12, 40] ?_; generalize hK : VS _ _ _ = KK; simp; (try subst hK)))
        | (refine VS.cond ?_; generalize hK1 : VS _ _ _ = KK1; generalize hK2 : VS _ _ _ = KK2; simp (maxSteps := 1000000) [hF]; (try subst hK1); (try subst hK2))
    all_goals refine ⟨fun h => ?_, fun h => ?_⟩
    · repeat first
        | refine VS.seq ?_
        | (refine VS.region tabOk (id := 8) [] (by kernel_rfl) ?_; generalize hK : VS _ _ _ = KK; simp (maxSteps := 1000000) [hF]; (try subst hK); try (refine VS.keep [6, 7] ?_; generalize hK : VS _ _ _ = KK; simp; (try subst hK)))
      try refine VS.ret ?_
      repeat first | refine blockN_ret ?_ | refine loopN_ret ?_
      refine endK.of [6, 7] [0] [(0, [.d])] (by simp [hF]) (by simp [covers, mpre]) ?_
      simp [hF, retK, dSp, deleteOf, he, obAt_eq hj, h]
    rotate_left
    · repeat first
        | refine VS.seq ?_
        | (refine VS.region tabOk (id := 8) [] (by kernel_rfl) ?_; generalize hK : VS _ _ _ = KK; simp (maxSteps := 1000000) [hF]; (try subst hK); try (refine VS.keep [6, 7] ?_; generalize hK : VS _ _ _ = KK; simp; (try subst hK)))
      try refine VS.ret ?_
      repeat first | refine blockN_ret ?_ | refine loopN_ret ?_
      refine endK.of [6, 7] [0] [(0, [.d])] (by simp [hF]) (by simp [covers, mpre]) ?_
      simp [hF, retK, dSp, deleteOf, he, obAt_eq hj, h]
    all_goals
      refine VS.lift 0 [.d, .f 1, .i j, .f 2] (by simp (maxSteps := 1000000) [hF, dObs_at hj, hj]) (by simp (maxSteps := 1000000) [hF, dObs_at hj, hj]) (by simp [isNode, dObs_at hj, hj]) (by simp (maxSteps := 1000000) [hF, dObs_at hj, hj]) ?_
      generalize hK : VS _ _ _ = KK; simp [hF, St.lift, AV.lift, liftPl, stripP, nodeAV, dObs_at hj, hj]; (try subst hK)
      repeat first
        | refine VS.seq ?_
        | refine VS.skip ?_
        | (refine VS.region tabOk (id := 9) [] (by kernel_rfl) ?_; generalize hK : VS _ _ _ = KK; simp (maxSteps := 1000000) [hF, dSp, dObs_at hj, hj, T.nth_setN_same _ hjl]; (try subst hK); try (refine VS.keep [0, 9, 10, 11, 12] ?_; generalize hK : VS _ _ _ = KK; simp; (try subst hK)))
        | (refine VS.region tabOk (id := 10) [] (by kernel_rfl) ?_; generalize hK : VS _ _ _ = KK; simp (maxSteps := 1000000) [hF, dSp, dObs_at hj, hj, T.nth_setN_same _ hjl]; (try subst hK); try (refine VS.keep [0, 9, 10, 11, 12, 51] ?_; generalize hK : VS _ _ _ = KK; simp; (try subst hK)))
        | (refine VS.cond ?_; generalize hK1 : VS _ _ _ = KK1; generalize hK2 : VS _ _ _ = KK2; simp (maxSteps := 1000000) [hF, dSp, dObs_at hj, hj, T.nth_setN_same _ hjl]; (try subst hK1); (try subst hK2))
      refine ⟨fun hc => ?_, fun hc => ?_⟩
      all_goals
        repeat first
          | refine VS.seq ?_
          | refine VS.skip ?_
          | refine VS.block ?_
          | (refine VS.region tabOk (id := 11) [] (by kernel_rfl) ?_; generalize hK : VS _ _ _ = KK; simp (maxSteps := 1000000) [hF, dSp, dObs_at hj, hj, T.nth_setN_same _ hjl]; (try subst hK); try (refine VS.keep [0, 9, 10, 11, 12] ?_; generalize hK : VS _ _ _ = KK; simp; (try subst hK)))
          | (refine VS.region tabOk (id := 12) [] (by kernel_rfl) ?_; generalize hK : VS _ _ _ = KK; simp (maxSteps := 1000000) [hF, dSp, dObs_at hj, hj, T.nth_setN_same _ hjl]; (try subst hK); try (refine VS.keep [0, 9, 10, 11, 12, 56, 57] ?_; generalize hK : VS _ _ _ = KK; simp; (try subst hK)))
    all_goals
      have hlt : (posIn n S.objs[j].names).toNat < S.objs[j].words.length := by
        rcases posBy_cases (fun x => decide (x = n)) S.objs[j].names with ⟨h1, _⟩ | ⟨i, hi, h1, _⟩
        · simp only [posIn] at h; omega
        · simp only [posIn, h1]; omega
      have hneg : ¬ posIn n S.objs[j].names < 0 := by omega
      refine VS.widen [(0, [.d])] (by simp [covers, mpre]) ?_
      refine VS.rounds (fun m st => ∃ (k : Nat) (Sk : Sp), k + m = S.objs[j].names.length ∧
        RefillAt (setOb S j ⟨if S.objs[j].shape = -1 then -1 else 0, [], [], S.objs[j].frozen⟩) j (posIn n S.objs[j].names).toNat S.objs[j].names S.objs[j].words k Sk ∧
        st = ⟨[(0, .ptr 0 [.d]), (9, .ptr 0 [.d, .f 1, .i j]), (10, .sub 1 [] 0 S.objs[j].names.length false), (11, .sub 2 [] 0 S.objs[j].words.length false), (12, avInt (posIn n S.objs[j].names)),
          (56, avInt S.objs[j].names.length), (57, avInt k)], [dSp Sk, .sl true () 1 (dStrs S.objs[j].names), .sl true () 1 (dInts S.objs[j].words)], [(0, [.d])], []⟩) ⟨S.objs[j].names.length, 0, setOb S j ⟨if S.objs[j].shape = -1 then -1 else 0, [], [], S.objs[j].frozen⟩, by simp, ?_, ?_⟩ ?_
      · refine ⟨hS.sh, by simpa [setOb] using hj, ?_, by simp⟩
        simp only [setOb, Int.toNat_natCast, List.getElem_set_self]
        refine ⟨rfl, Nat.le_refl _, ?_⟩
        obtain ⟨_, _, hd⟩ := ho
        by_cases hcc : S.objs[j].shape = -1
        · simp [hcc]
        · obtain ⟨k, hk, _⟩ := hd.resolve_left hcc
          refine .inr ⟨0, by omega, by simp [hcc], ?_⟩
          rw [hS.sh.root (by omega)]
      · have e1 := dObs_set S.objs j ⟨if S.objs[j].shape = -1 then -1 else 0, [], [], S.objs[j].frozen⟩
        simp [ownOf, hc, dStrs_nil, dInts_nil] at e1
        simp [dSp, setOb, hc, e1]
      rintro m st ⟨k, Sk, hkm, hR, rfl⟩
      repeat first
        | refine VS.seq ?_
        | (refine VS.region tabOk (id := 13) [] (by kernel_rfl) ?_; generalize hK : VS _ _ _ = KK; simp (maxSteps := 1000000) [hF]; (try subst hK); try (refine VS.keep [0, 9, 10, 11, 12, 56, 57, 58] ?_; generalize hK : VS _ _ _ = KK; simp; (try subst hK)))
        | (refine VS.cond ?_; generalize hK1 : VS _ _ _ = KK1; generalize hK2 : VS _ _ _ = KK2; simp (maxSteps := 1000000) [hF]; (try subst hK1); (try subst hK2))
      refine ⟨fun hlt1 => ?_, fun hge => ?_⟩
      · have hk1 : k < S.objs[j].names.length := by omega
        have hk2 : k < S.objs[j].words.length := by omega
        have hn1 := dStrs_nth hk1
        have hn2 := dInts_nth hk2
        repeat first
          | refine VS.seq ?_
          | refine VS.skip ?_
          | refine VS.block ?_
          | (refine VS.region tabOk (id := 14) [] (by kernel_rfl) ?_; generalize hK : VS _ _ _ = KK; simp (maxSteps := 1000000) [hF]; (try subst hK); try (refine VS.keep [0, 9, 10, 11, 12, 13, 56, 57] ?_; generalize hK : VS _ _ _ = KK; simp; (try subst hK)))
          | (refine VS.region tabOk (id := 15) [] (by kernel_rfl) ?_; generalize hK : VS _ _ _ = KK; simp (maxSteps := 1000000) [hF]; (try subst hK); try (refine VS.keep [0, 9, 10, 11, 12, 13, 56, 57, 62] ?_; generalize hK : VS _ _ _ = KK; simp; (try subst hK)))
          | (refine VS.cond ?_; generalize hK1 : VS _ _ _ = KK1; generalize hK2 : VS _ _ _ = KK2; simp (maxSteps := 1000000) [hF]; (try subst hK1); (try subst hK2))
        refine ⟨fun hne => ?_, fun heq => ?_⟩
        · have hki : ¬ k = (posIn n S.objs[j].names).toNat := by omega
          repeat first
            | (refine VS.drawn tabOk mixedOk (id := 16) [] [⟨0, 1, 9223372036854775808, 5⟩, ⟨0, 512, 18446744073709551616, 5⟩, ⟨0, 1024, 36893488147419103232, 5⟩, ⟨0, 8192, 73786976294838206464, 5⟩, ⟨12, 110680464442257309696, 147573952589676412928, 5⟩, ⟨16, 147573952589676412928, 295147905179352825856, 6⟩, ⟨0, 2048, 590295810358705651712, 5⟩, ⟨0, 8192, 1180591620717411303424, 5⟩, ⟨192, 1770887431076116955136, 2361183241434822606848, 5⟩, ⟨256, 2361183241434822606848, 4722366482869645213696, 6⟩, ⟨547, 5045184504159562366976, 9444732965739290427392, 0⟩] (.take 0 (.take 1 (.take 2 (.take 3 (.take 4 (.take 5 (.take 6 (.take 7 (.take 8 (.take 9 (.fork (.alt 10 (.done) (.nil))))))))))))) (.run [0, 1, 2, 3, 4, 5, 6, 7, 8, 9, 10] (.done)) (by kernel_rfl) (by kernel_rfl) (by kernel_rfl) ?_; generalize hK : VS _ _ _ = KK; simp only [opsVc_run, opsVc_both, opsVc_chk, opsVc_done, opsVc_yes, pick_cons, pick_nil, List.getElem?_cons_zero, List.getElem?_cons_succ]; simp (maxSteps := 1000000) [hF, hk1, hk2, hn1, hn2, hlt1]; (try subst hK); try (refine VS.keep [0, 9, 10, 11, 12, 56, 57] ?_; generalize hK : VS _ _ _ = KK; simp; (try subst hK)))
          refine (add_ok Sk hR.sh j hR.hj hR.ob (by omega) S.objs[j].names[k] S.objs[j].words[k]).call [(0, [])] (by simp) (by simp (maxSteps := 1000000) [hF, dSp]) (by simp (maxSteps := 1000000) [hF, dSp]) (by simp (maxSteps := 1000000) [hF, dSp]) (by simp) ?_
          rintro av X κ ⟨rfl, rfl, rfl⟩
          generalize hK : VS _ _ _ = KK; simp (maxSteps := 1000000) [hF, dSp]; (try subst hK)
          repeat first
            | refine VS.nil ?_
            | refine blockN_normal ?_
          refine VS.widen [(0, [.d])] (by simp [covers, mpre]) ?_
          repeat first
            | refine VS.nil ?_
            | refine loopN_normal ?_
            | (refine VS.region tabOk (id := 17) [] (by kernel_rfl) ?_; generalize hK : VS _ _ _ = KK; simp (maxSteps := 1000000) [hF]; (try subst hK); try (refine VS.keep [0, 9, 10, 11, 12, 56, 57] ?_; generalize hK : VS _ _ _ = KK; simp; (try subst hK)))
          refine nextK.of [0, 9, 10, 11, 12, 56, 57] [0, 1, 2] (m - 1) (by omega) (by simp [hF]) ?_
          refine ⟨k + 1, _, by omega, hR.add hk1 hk2 hki, ?_⟩
          simp [dSp]
          exact IntWalk.i64_in _ (by omega)
        · have hki : k = (posIn n S.objs[j].names).toNat := by omega
          repeat first
            | refine VS.skip ?_
            | refine VS.nil ?_
            | refine blockN_normal ?_
            | refine loopN_normal ?_
            | (refine VS.region tabOk (id := 17) [] (by kernel_rfl) ?_; generalize hK : VS _ _ _ = KK; simp (maxSteps := 1000000) [hF]; (try subst hK); try (refine VS.keep [0, 9, 10, 11, 12, 56, 57] ?_; generalize hK : VS _ _ _ = KK; simp; (try subst hK)))
          refine nextK.of [0, 9, 10, 11, 12, 56, 57] [0, 1, 2] (m - 1) (by omega) (by simp [hF]) ?_
          refine ⟨k + 1, Sk, by omega, hR.skip hk1 hk2 hki, ?_⟩
          simp
          exact IntWalk.i64_in _ (by omega)
      · have hk1 : k = S.objs[j].names.length := by omega
        have hend := hR.eq.trans (refill_end _ _ _ _ _ _ (by simp [hwl]) (by simp [hk1]))
        have hlt' : posIn n S.objs[j].names < S.objs[j].words.length := by omega
        have hnth := dInts_nth hlt
        repeat first
          | refine VS.seq ?_
          | refine VS.exit ?_
          | (refine VS.region tabOk (id := 18) [] (by kernel_rfl) ?_; generalize hK : VS _ _ _ = KK; simp (maxSteps := 1000000) [hF, h, hlt, hlt', hnth]; (try subst hK); try (refine VS.keep [6, 7] ?_; generalize hK : VS _ _ _ = KK; simp; (try subst hK)))
        try refine VS.ret ?_
        repeat first | refine blockN_ret ?_ | refine loopN_ret ?_
        refine endK.of [6, 7] [0] [(0, [.d])] (by simp [hF]) (by simp [covers, mpre]) ?_
        simp [hF, retK, deleteOf, he, obAt_eq hj, hneg, hlt, hend]
end Go.Proofs.Ythcndkpkkaphoaa

/- Deeds: the law's own functions. -/
namespace Go.Proofs.Ythcndkpkkaphoaa
set_option linter.all false
open Go.Vc Go.Proofs
set_option linter.unusedSimpArgs false
set_option maxRecDepth 100000
set_option maxHeartbeats 4000000
attribute [local irreducible] CallW EqK

/- cabochon/cabochonlaw20.do -/
theorem do_ok (S : Sp) {N : Nat} (hS : WF S N) (hN : N < 1000000) (d : Deed) : Meets Try.prog 25 [dSp S] (.cons (.ptr 0 [.d]) (.cons (avDeed d) .nil))
    fun av X κ => av = two (doOf S d).2 ∧ X = [dSp (doOf S d).1] ∧ κ = [(0, [.d])] := by
  unfold avDeed
  refine Meets.of_vs tabOk Try.func25 (body := ?_) ?_ (by kernel_rfl) Try.ntmps25 (rs := [.tmp 4, .tmp 5]) (by kernel_rfl) rfl (by simp [AV.len]) (by simp only [envOf]; exact rfl) ?_
  rotate_left
  · rfl
  intro w0 I0 F0 hF
  repeat first
    | refine VS.seq ?_
    | refine VS.block ?_
    | (refine VS.region tabOk (id := 0) [] (by kernel_rfl) ?_; generalize hK : VS _ _ _ = KK; simp (maxSteps := 1000000) [hF]; (try subst hK); try (refine VS.keep [0, 3] ?_; generalize hK : VS _ _ _ = KK; simp; (try subst hK)))
    | (refine VS.region tabOk (id := 1) [] (by kernel_rfl) ?_; generalize hK : VS _ _ _ = KK; simp (maxSteps := 1000000) [hF]; (try subst hK); try (refine VS.keep [0, 3, 7] ?_; generalize hK : VS _ _ _ = KK; simp; (try subst hK)))
    | (refine VS.region tabOk (id := 2) [] (by kernel_rfl) ?_; generalize hK : VS _ _ _ = KK; simp (maxSteps := 1000000) [hF]; (try subst hK); try (refine VS.keep [0, 3, 7, 8] ?_; generalize hK : VS _ _ _ = KK; simp; (try subst hK)))
    | (refine VS.cond ?_; generalize hK1 : VS _ _ _ = KK1; generalize hK2 : VS _ _ _ = KK2; simp (maxSteps := 1000000) [hF]; (try subst hK1); (try subst hK2))
  refine ⟨fun h0 => ?_, fun h0 => ?_⟩
  · repeat first
      | refine VS.seq ?_
      | (refine VS.region tabOk (id := 3) [] (by kernel_rfl) ?_; generalize hK : VS _ _ _ = KK; simp (maxSteps := 1000000) [hF]; (try subst hK); try (refine VS.keep [4, 5] ?_; generalize hK : VS _ _ _ = KK; simp; (try subst hK)))
    refine (make_ok S).call [(0, [])] (by simp) (by simp (maxSteps := 1000000) [hF, dSp]) (by simp (maxSteps := 1000000) [hF, dSp]) (by simp (maxSteps := 1000000) [hF, dSp]) (by simp) ?_
    rintro av X κ ⟨rfl, rfl, rfl⟩
    generalize hK : VS _ _ _ = KK; simp (maxSteps := 1000000) [hF, dSp]; (try subst hK)
    try refine VS.ret ?_
    repeat first | refine blockN_ret ?_ | refine loopN_ret ?_
    refine endK.of [4, 5] [0] [(0, [.d])] (by simp [hF]) (by simp [covers, mpre]) ?_
    simp [hF, retK, dSp, doOf, h0]
  repeat first
    | refine VS.seq ?_
    | (refine VS.region tabOk (id := 4) [] (by kernel_rfl) ?_; generalize hK : VS _ _ _ = KK; simp (maxSteps := 1000000) [hF]; (try subst hK); try (refine VS.keep [0, 3, 7, 14] ?_; generalize hK : VS _ _ _ = KK; simp; (try subst hK)))
    | (refine VS.cond ?_; generalize hK1 : VS _ _ _ = KK1; generalize hK2 : VS _ _ _ = KK2; simp (maxSteps := 1000000) [hF]; (try subst hK1); (try subst hK2))
  refine ⟨fun h1 => ?_, fun h1 => ?_⟩
  · repeat first
      | refine VS.seq ?_
      | (refine VS.region tabOk (id := 5) [] (by kernel_rfl) ?_; generalize hK : VS _ _ _ = KK; simp (maxSteps := 1000000) [hF]; (try subst hK); try (refine VS.keep [4, 5] ?_; generalize hK : VS _ _ _ = KK; simp; (try subst hK)))
    refine (set_ok S hS hN d.obj d.name d.word).call [(0, [])] (by simp) (by simp (maxSteps := 1000000) [hF, dSp]) (by simp (maxSteps := 1000000) [hF, dSp]) (by simp (maxSteps := 1000000) [hF, dSp]) (by simp) ?_
    rintro av X κ ⟨rfl, rfl, rfl⟩
    generalize hK : VS _ _ _ = KK; simp (maxSteps := 1000000) [hF, dSp]; (try subst hK)
    try refine VS.ret ?_
    repeat first | refine blockN_ret ?_ | refine loopN_ret ?_
    refine endK.of [4, 5] [0] [(0, [.d])] (by simp [hF]) (by simp [covers, mpre]) ?_
    simp [hF, retK, dSp, doOf, h0, h1]
  repeat first
    | refine VS.seq ?_
    | (refine VS.region tabOk (id := 6) [] (by kernel_rfl) ?_; generalize hK : VS _ _ _ = KK; simp (maxSteps := 1000000) [hF]; (try subst hK); try (refine VS.keep [0, 3, 7, 24] ?_; generalize hK : VS _ _ _ = KK; simp; (try subst hK)))
    | (refine VS.cond ?_; generalize hK1 : VS _ _ _ = KK1; generalize hK2 : VS _ _ _ = KK2; simp (maxSteps := 1000000) [hF]; (try subst hK1); (try subst hK2))
  refine ⟨fun h2 => ?_, fun h2 => ?_⟩
  · repeat first
      | refine VS.seq ?_
      | (refine VS.region tabOk (id := 7) [] (by kernel_rfl) ?_; generalize hK : VS _ _ _ = KK; simp (maxSteps := 1000000) [hF]; (try subst hK); try (refine VS.keep [4, 5] ?_; generalize hK : VS _ _ _ = KK; simp; (try subst hK)))
    refine (get_ok S hS (by omega) d.obj d.name).call [(0, [])] (by simp) (by simp (maxSteps := 1000000) [hF, dSp]) (by simp (maxSteps := 1000000) [hF, dSp]) (by simp (maxSteps := 1000000) [hF, dSp]) (by simp) ?_
    rintro av X κ ⟨rfl, rfl, rfl⟩
    generalize hK : VS _ _ _ = KK; simp (maxSteps := 1000000) [hF, dSp]; (try subst hK)
    try refine VS.ret ?_
    repeat first | refine blockN_ret ?_ | refine loopN_ret ?_
    refine endK.of [4, 5] [0] [(0, [.d])] (by simp [hF]) (by simp [covers, mpre]) ?_
    simp [hF, retK, dSp, doOf, h0, h1, h2]
  repeat first
    | refine VS.seq ?_
    | (refine VS.region tabOk (id := 8) [] (by kernel_rfl) ?_; generalize hK : VS _ _ _ = KK; simp (maxSteps := 1000000) [hF]; (try subst hK); try (refine VS.keep [0, 3, 7, 34] ?_; generalize hK : VS _ _ _ = KK; simp; (try subst hK)))
    | (refine VS.cond ?_; generalize hK1 : VS _ _ _ = KK1; generalize hK2 : VS _ _ _ = KK2; simp (maxSteps := 1000000) [hF]; (try subst hK1); (try subst hK2))
  refine ⟨fun h3 => ?_, fun h3 => ?_⟩
  · repeat first
      | refine VS.seq ?_
      | (refine VS.region tabOk (id := 9) [] (by kernel_rfl) ?_; generalize hK : VS _ _ _ = KK; simp (maxSteps := 1000000) [hF]; (try subst hK); try (refine VS.keep [4, 5] ?_; generalize hK : VS _ _ _ = KK; simp; (try subst hK)))
    refine (delete_ok S hS hN d.obj d.name).call [(0, [])] (by simp) (by simp (maxSteps := 1000000) [hF, dSp]) (by simp (maxSteps := 1000000) [hF, dSp]) (by simp (maxSteps := 1000000) [hF, dSp]) (by simp) ?_
    rintro av X κ ⟨rfl, rfl, rfl⟩
    generalize hK : VS _ _ _ = KK; simp (maxSteps := 1000000) [hF, dSp]; (try subst hK)
    try refine VS.ret ?_
    repeat first | refine blockN_ret ?_ | refine loopN_ret ?_
    refine endK.of [4, 5] [0] [(0, [.d])] (by simp [hF]) (by simp [covers, mpre]) ?_
    simp [hF, retK, dSp, doOf, h0, h1, h2, h3]
  repeat first
    | refine VS.seq ?_
    | (refine VS.region tabOk (id := 10) [] (by kernel_rfl) ?_; generalize hK : VS _ _ _ = KK; simp (maxSteps := 1000000) [hF]; (try subst hK); try (refine VS.keep [0, 3, 7, 44] ?_; generalize hK : VS _ _ _ = KK; simp; (try subst hK)))
    | (refine VS.cond ?_; generalize hK1 : VS _ _ _ = KK1; generalize hK2 : VS _ _ _ = KK2; simp (maxSteps := 1000000) [hF]; (try subst hK1); (try subst hK2))
  refine ⟨fun h4 => ?_, fun h4 => ?_⟩
  · repeat first
      | refine VS.seq ?_
      | (refine VS.region tabOk (id := 11) [] (by kernel_rfl) ?_; generalize hK : VS _ _ _ = KK; simp (maxSteps := 1000000) [hF]; (try subst hK); try (refine VS.keep [4, 5] ?_; generalize hK : VS _ _ _ = KK; simp; (try subst hK)))
    refine (freeze_ok S d.obj).call [(0, [])] (by simp) (by simp (maxSteps := 1000000) [hF, dSp]) (by simp (maxSteps := 1000000) [hF, dSp]) (by simp (maxSteps := 1000000) [hF, dSp]) (by simp) ?_
    rintro av X κ ⟨rfl, rfl, rfl⟩
    generalize hK : VS _ _ _ = KK; simp (maxSteps := 1000000) [hF, dSp]; (try subst hK)
    try refine VS.ret ?_
    repeat first | refine blockN_ret ?_ | refine loopN_ret ?_
    refine endK.of [4, 5] [0] [(0, [.d])] (by simp [hF]) (by simp [covers, mpre]) ?_
    simp [hF, retK, dSp, doOf, h0, h1, h2, h3, h4]
  repeat first
    | refine VS.seq ?_
    | (refine VS.region tabOk (id := 12) [] (by kernel_rfl) ?_; generalize hK : VS _ _ _ = KK; simp (maxSteps := 1000000) [hF]; (try subst hK); try (refine VS.keep [0, 3, 50] ?_; generalize hK : VS _ _ _ = KK; simp; (try subst hK)))
    | (refine VS.cond ?_; generalize hK1 : VS _ _ _ = KK1; generalize hK2 : VS _ _ _ = KK2; simp (maxSteps := 1000000) [hF]; (try subst hK1); (try subst hK2))
  refine ⟨fun h5 => ?_, fun h5 => ?_⟩
  · repeat first
      | refine VS.seq ?_
      | (refine VS.region tabOk (id := 13) [] (by kernel_rfl) ?_; generalize hK : VS _ _ _ = KK; simp (maxSteps := 1000000) [hF]; (try subst hK); try (refine VS.keep [4, 5] ?_; generalize hK : VS _ _ _ = KK; simp; (try subst hK)))
    refine (clone_ok S hS hN d.obj).call [(0, [])] (by simp) (by simp (maxSteps := 1000000) [hF, dSp]) (by simp (maxSteps := 1000000) [hF, dSp]) (by simp (maxSteps := 1000000) [hF, dSp]) (by simp) ?_
    rintro av X κ ⟨rfl, rfl, rfl⟩
    generalize hK : VS _ _ _ = KK; simp (maxSteps := 1000000) [hF, dSp]; (try subst hK)
    try refine VS.ret ?_
    repeat first | refine blockN_ret ?_ | refine loopN_ret ?_
    refine endK.of [4, 5] [0] [(0, [.d])] (by simp [hF]) (by simp [covers, mpre]) ?_
    simp [hF, retK, dSp, doOf, h0, h1, h2, h3, h4, h5]
  repeat first
    | refine VS.seq ?_
    | refine VS.skip ?_
    | refine VS.nil ?_
    | (refine VS.region tabOk (id := 14) [] (by kernel_rfl) ?_; generalize hK : VS _ _ _ = KK; simp (maxSteps := 1000000) [hF]; (try subst hK); try (refine VS.keep [4, 5] ?_; generalize hK : VS _ _ _ = KK; simp; (try subst hK)))
  try refine VS.ret ?_
  repeat first | refine blockN_ret ?_ | refine loopN_ret ?_
  refine endK.of [4, 5] [0] [(0, [.d])] (by simp [hF]) (by simp [covers, mpre]) ?_
  simp [hF, retK, dSp, doOf, h0, h1, h2, h3, h4, h5]

/- cabochon/cabochonlaw20.small -/
theorem small_ok (d : Deed) : Meets Try.prog 24 [] (.cons (avDeed d) .nil)
    fun av X κ => av = avDeed (smallOf d) ∧ X = [.box true () (dDeed (smallOf d))] ∧ κ = [] := by
  unfold avDeed
  refine Meets.of_vs tabOk Try.func24 (body := ?_) ?_ (by kernel_rfl) Try.ntmps24 (rs := [.cell 2 40]) (by kernel_rfl) rfl (by simp [AV.len]) (by simp only [envOf]; exact rfl) ?_
  rotate_left
  · rfl
  intro w0 I0 F0 hF
  repeat first
    | refine VS.seq ?_
    | (refine VS.region tabOk (id := 0) [] (by kernel_rfl) ?_; generalize hK : VS _ _ _ = KK; simp (maxSteps := 1000000) [hF]; (try subst hK); try (refine VS.keep [1, 2] ?_; generalize hK : VS _ _ _ = KK; simp; (try subst hK)))
    | (refine VS.region tabOk (id := 1) [] (by kernel_rfl) ?_; generalize hK : VS _ _ _ = KK; simp (maxSteps := 1000000) [hF]; (try subst hK); try (refine VS.keep [1, 2, 3] ?_; generalize hK : VS _ _ _ = KK; simp; (try subst hK)))
  refine (lnames_ok).call [] (by simp) (by simp (maxSteps := 1000000) [hF]) (by simp (maxSteps := 1000000) [hF]) (by simp (maxSteps := 1000000) [hF]) (by simp) ?_
  rintro av X κ ⟨rfl, rfl, rfl⟩
  generalize hK : VS _ _ _ = KK; simp (maxSteps := 1000000) [hF]; (try subst hK)
  have h1 := partOf_nonneg d.op (n := 6)
  have h2 := partOf_lt d.op (n := 6) (by omega)
  have h3 := partOf_nonneg d.obj (n := 5)
  have h4 := partOf_lt d.obj (n := 5) (by omega)
  have h5 := partOf_nonneg d.word (n := 15)
  have h6 := partOf_lt d.word (n := 15) (by omega)
  have w1 : IntKind.i64.wrap (partOf d.op 6) = partOf d.op 6 := IntWalk.i64_in _ (by omega)
  have w2 : IntKind.i64.wrap (partOf d.obj 5) = partOf d.obj 5 := IntWalk.i64_in _ (by omega)
  have w3 : IntKind.i64.wrap (partOf d.word 15) = partOf d.word 15 := IntWalk.i64_in _ (by omega)
  have hlt' : (partOf d.word 15).toNat < 15 := by omega
  have hlen : lnames.length = 15 := rfl
  have hnth := nameOf_nth d.word
  simp only [partOf] at h1 h2 h3 h4 h5 h6 w1 w2 w3 hlt' hnth
  have w15 : IntKind.u64.wrap 15 = 15 := by decide
  repeat first
    | refine VS.seq ?_
    | (refine VS.drawn tabOk mixedOk (id := 2) [] [⟨0, 2, 32, 5⟩, ⟨1, 32, 64, 6⟩, ⟨2, 64, 128, 5⟩, ⟨4, 128, 256, 5⟩, ⟨8, 256, 512, 5⟩, ⟨0, 2, 1024, 5⟩, ⟨32, 1024, 2048, 6⟩, ⟨64, 2048, 4096, 5⟩, ⟨128, 4096, 8192, 5⟩, ⟨256, 8192, 16384, 5⟩, ⟨0, 8, 32768, 5⟩, ⟨0, 2, 65536, 5⟩, ⟨2048, 65536, 131072, 6⟩, ⟨4096, 131072, 262144, 5⟩, ⟨0, 8, 524288, 5⟩, ⟨16384, 524288, 1048576, 5⟩, ⟨32768, 1048576, 2097152, 5⟩, ⟨73728, 2359296, 4194304, 5⟩, ⟨131072, 4194304, 8388608, 5⟩, ⟨263168, 8421376, 16777216, 5⟩, ⟨524288, 16777216, 33554432, 6⟩, ⟨0, 2, 67108864, 5⟩, ⟨2097152, 67108864, 134217728, 6⟩, ⟨5243408, 167789056, 268435456, 5⟩, ⟨16777215, 268435460, 0, 0⟩] (.take 0 (.take 1 (.take 2 (.take 3 (.take 4 (.take 5 (.take 6 (.take 7 (.take 8 (.take 9 (.take 10 (.take 11 (.take 12 (.take 13 (.take 14 (.take 15 (.take 16 (.take 17 (.take 18 (.take 19 (.take 20 (.take 21 (.take 22 (.take 23 (.fork (.alt 24 (.done) (.nil))))))))))))))))))))))))))) (.run [0, 1, 2, 3, 4, 5, 6, 7, 8, 9, 10, 11, 12, 13, 14, 15, 16, 17, 18, 19, 20, 21, 22, 23, 24] (.done)) (by kernel_rfl) (by kernel_rfl) (by kernel_rfl) ?_; generalize hK : VS _ _ _ = KK; simp only [opsVc_run, opsVc_both, opsVc_chk, opsVc_done, opsVc_yes, pick_cons, pick_nil, List.getElem?_cons_zero, List.getElem?_cons_succ]; simp (maxSteps := 1000000) [hF, h1, h2, h3, h4, h5, h6, w1, w2, w3, hlt', hlen, hnth, w15]; (try subst hK); try (refine VS.keep [2] ?_; generalize hK : VS _ _ _ = KK; simp; (try subst hK)))
  try refine VS.ret ?_
  repeat first | refine blockN_ret ?_ | refine loopN_ret ?_
  refine endK.of [2] [1] [] (by simp [hF]) (by simp [covers, mpre]) ?_
  simp [hF, retK, smallOf, partOf, w1, w2, dDeed, avDeed]
end Go.Proofs.Ythcndkpkkaphoaa

/- Deeds played; lists compared. -/
namespace Go.Proofs.Ythcndkpkkaphoaa
set_option linter.all false
open Go.Vc Go.Proofs
set_option linter.unusedSimpArgs false
set_option maxRecDepth 100000
set_option maxHeartbeats 4000000
attribute [local irreducible] CallW EqK

/- (*cabochon/shape.Space).Names -/
theorem names1_no (S : Sp) {N : Nat} (hS : WF S N) (hN : N ≤ 1000000) (o : Int) (h : hasB S o = false) : Meets Try.prog 27 [dSp S] (.cons (.ptr 0 [.d]) (.cons (avInt o) .nil))
    fun av X κ => av = .tup (.cons (.nils 1) (.cons (avInt 1) .nil)) ∧ X = [dSp S] ∧ κ = [] :=
  Meets.mono (names1_ok S hS hN o) fun av X κ hr => by rw [if_pos h] at hr; exact ⟨hr.1.1, hr.1.2, hr.2⟩
theorem names1_yes (S : Sp) {N : Nat} (hS : WF S N) (hN : N ≤ 1000000) (o : Int) (h : hasB S o = true) : Meets Try.prog 27 [dSp S] (.cons (.ptr 0 [.d]) (.cons (avInt o) .nil))
    fun av X κ => av = .tup (.cons (.sub 1 [] 0 (obAt S o).names.length false) (.cons (avInt 0) .nil)) ∧ X = [dSp S, .sl true () 1 (dStrs (obAt S o).names)] ∧ κ = [] :=
  Meets.mono (names1_ok S hS hN o) fun av X κ hr => by rw [if_neg (by simp [h])] at hr; exact ⟨hr.1.1, hr.1.2, hr.2⟩

/- cabochon/cabochonlaw20.same -/
theorem same_ok (o1 o2 e1 e2 : Bool) (l m : List ByteArray) (hl : l.length ≤ 1000000) : Meets Try.prog 28 [.sl o1 () 1 (dStrs l), .sl o2 () 1 (dStrs m)] (.cons (.sub 0 [] 0 l.length e1) (.cons (.sub 1 [] 0 m.length e2) .nil))
    fun av X κ => av = .val (.bool (decide (l = m))) ∧ X = [.sl o1 () 1 (dStrs l), .sl o2 () 1 (dStrs m)] ∧ κ = [] := by
  refine Meets.of_vs tabOk Try.func28 (body := ?_) ?_ (by kernel_rfl) Try.ntmps28 (rs := [.tmp 4]) (by kernel_rfl) rfl (by simp [AV.len]) (by simp only [envOf]; exact rfl) ?_
  rotate_left
  · rfl
  intro w0 I0 F0 hF
  repeat first
    | refine VS.seq ?_
    | (refine VS.keepAt 0 [0, 1] ?_; generalize hK : VS _ _ _ = KK; (try simp); (try subst hK); refine VS.region tabOk (id := 0) [] (by kernel_rfl) ?_; generalize hK : VS _ _ _ = KK; simp (maxSteps := 1000000) [hF]; (try subst hK); try (refine VS.keep [0, 1] ?_; generalize hK : VS _ _ _ = KK; simp; (try subst hK)))
    | (refine VS.keepAt 1 [0, 1] ?_; generalize hK : VS _ _ _ = KK; (try simp); (try subst hK); refine VS.region tabOk (id := 1) [] (by kernel_rfl) ?_; generalize hK : VS _ _ _ = KK; simp (maxSteps := 1000000) [hF]; (try subst hK); try (refine VS.keep [0, 1, 10] ?_; generalize hK : VS _ _ _ = KK; simp; (try subst hK)))
    | (refine VS.cond ?_; generalize hK1 : VS _ _ _ = KK1; generalize hK2 : VS _ _ _ = KK2; simp (maxSteps := 1000000) [hF]; (try subst hK1); (try subst hK2))
  refine ⟨fun h => ?_, fun h => ?_⟩
  · repeat first
      | refine VS.seq ?_
      | (refine VS.keepAt 2 [] ?_; generalize hK : VS _ _ _ = KK; (try simp); (try subst hK); refine VS.region tabOk (id := 2) [] (by kernel_rfl) ?_; generalize hK : VS _ _ _ = KK; simp (maxSteps := 1000000) [hF]; (try subst hK); try (refine VS.keep [4] ?_; generalize hK : VS _ _ _ = KK; simp; (try subst hK)))
    have : ¬ l = m := fun e => h (by rw [e])
    try refine VS.ret ?_
    repeat first | refine blockN_ret ?_ | refine loopN_ret ?_
    refine endK.of [4] [0, 1] [] (by simp [hF]) (by simp [covers, mpre]) ?_
    simp [hF, retK, this]
  · have hlen : l.length = m.length := by omega
    repeat first
      | refine VS.seq ?_
      | refine VS.skip ?_
      | refine VS.block ?_
      | (refine VS.keepAt 3 [0, 1] ?_; generalize hK : VS _ _ _ = KK; (try simp); (try subst hK); refine VS.region tabOk (id := 3) [] (by kernel_rfl) ?_; generalize hK : VS _ _ _ = KK; simp (maxSteps := 1000000) [hF]; (try subst hK); try (refine VS.keep [0, 1, 5] ?_; generalize hK : VS _ _ _ = KK; simp; (try subst hK)))
    refine VS.rounds (fun n st => ∃ (i : Nat), i + n = l.length ∧ (∀ j, j < i → l[j]? = m[j]?) ∧
      st = ⟨[(0, .sub 0 [] 0 l.length e1), (1, .sub 1 [] 0 m.length e2), (5, .val (.int .i64 (i : Int)))], [.sl o1 () 1 (dStrs l), .sl o2 () 1 (dStrs m)], [], []⟩) ⟨l.length, 0, by simp, by simp, rfl⟩ ?_
    rintro n st ⟨i, hi, hall, rfl⟩
    repeat first
      | refine VS.seq ?_
      | (refine VS.keepAt 4 [0, 1, 5] ?_; generalize hK : VS _ _ _ = KK; (try simp); (try subst hK); refine VS.region tabOk (id := 4) [] (by kernel_rfl) ?_; generalize hK : VS _ _ _ = KK; simp (maxSteps := 1000000) [hF]; (try subst hK); try (refine VS.keep [0, 1, 5, 14] ?_; generalize hK : VS _ _ _ = KK; simp; (try subst hK)))
      | (refine VS.cond ?_; generalize hK1 : VS _ _ _ = KK1; generalize hK2 : VS _ _ _ = KK2; simp (maxSteps := 1000000) [hF]; (try subst hK1); (try subst hK2))
    refine ⟨fun hlt => ?_, fun hge => ?_⟩
    · have hlt' : i < l.length := by omega
      have hlm : i < m.length := by omega
      have hn1 := dStrs_nth hlt'
      have hn2 := dStrs_nth hlm
      have b1 : (i : Int) < l.length := by omega
      have b2 : (i : Int) < m.length := by omega
      repeat first
        | refine VS.seq ?_
        | refine VS.skip ?_
        | refine VS.block ?_
        | (refine VS.keepAt 6 [0, 1, 5] ?_; generalize hK : VS _ _ _ = KK; (try simp); (try subst hK); refine VS.drawn tabOk mixedOk (id := 6) [] [⟨0, 1, 131072, 5⟩, ⟨0, 32, 262144, 5⟩, ⟨3, 393216, 524288, 5⟩, ⟨4, 524288, 1048576, 6⟩, ⟨0, 2, 2097152, 5⟩, ⟨0, 32, 4194304, 5⟩, ⟨48, 6291456, 8388608, 5⟩, ⟨64, 8388608, 16777216, 6⟩, ⟨136, 17825792, 33554432, 5⟩] (.take 0 (.take 1 (.take 2 (.take 3 (.take 4 (.take 5 (.take 6 (.take 7 (.take 8 (.done)))))))))) (.run [0, 1, 2, 3, 4, 5, 6, 7, 8] (.done)) (by kernel_rfl) (by kernel_rfl) (by kernel_rfl) ?_; generalize hK : VS _ _ _ = KK; simp only [opsVc_run, opsVc_both, opsVc_chk, opsVc_done, opsVc_yes, pick_cons, pick_nil, List.getElem?_cons_zero, List.getElem?_cons_succ]; simp (maxSteps := 1000000) [hF, hn1, hn2, b1, b2, hlm]; (try subst hK); try (refine VS.keep [0, 1, 5, 25] ?_; generalize hK : VS _ _ _ = KK; simp; (try subst hK)))
        | (refine VS.cond ?_; generalize hK1 : VS _ _ _ = KK1; generalize hK2 : VS _ _ _ = KK2; simp (maxSteps := 1000000) [hF, hn1, hn2, b1, b2, hlm]; (try subst hK1); (try subst hK2))
      refine ⟨fun he => ?_, fun he => ?_⟩
      · repeat first
          | refine VS.seq ?_
          | (refine VS.keepAt 7 [] ?_; generalize hK : VS _ _ _ = KK; (try simp); (try subst hK); refine VS.region tabOk (id := 7) [] (by kernel_rfl) ?_; generalize hK : VS _ _ _ = KK; simp (maxSteps := 1000000) [hF]; (try subst hK); try (refine VS.keep [4] ?_; generalize hK : VS _ _ _ = KK; simp; (try subst hK)))
        have : ¬ l = m := fun e => he (by subst e; rfl)
        try refine VS.ret ?_
        repeat first | refine blockN_ret ?_ | refine loopN_ret ?_
        refine endK.of [4] [0, 1] [] (by simp [hF]) (by simp [covers, mpre]) ?_
        simp [hF, retK, this]
      · repeat first
          | refine VS.skip ?_
          | refine VS.nil ?_
          | refine blockN_normal ?_
          | refine loopN_normal ?_
          | (refine VS.keepAt 5 [0, 1, 5] ?_; generalize hK : VS _ _ _ = KK; (try simp); (try subst hK); refine VS.region tabOk (id := 5) [] (by kernel_rfl) ?_; generalize hK : VS _ _ _ = KK; simp (maxSteps := 1000000) [hF]; (try subst hK); try (refine VS.keep [0, 1, 5] ?_; generalize hK : VS _ _ _ = KK; simp; (try subst hK)))
        refine nextK.of [0, 1, 5] [0, 1] (n - 1) (by omega) (by simp [hF]) ?_
        refine ⟨i + 1, by omega, ?_, ?_⟩
        · intro j hj
          rcases Nat.lt_or_ge j i with h' | h'
          · exact hall j h'
          · obtain rfl : j = i := by omega
            rw [List.getElem?_eq_getElem hlt', List.getElem?_eq_getElem hlm, he]
        · simp
          exact IntWalk.i64_in _ (by omega)
    · repeat first
        | refine VS.seq ?_
        | refine VS.exit ?_
        | (refine VS.keepAt 8 [] ?_; generalize hK : VS _ _ _ = KK; (try simp); (try subst hK); refine VS.region tabOk (id := 8) [] (by kernel_rfl) ?_; generalize hK : VS _ _ _ = KK; simp (maxSteps := 1000000) [hF]; (try subst hK); try (refine VS.keep [4] ?_; generalize hK : VS _ _ _ = KK; simp; (try subst hK)))
      have : l = m := List.ext_getElem? fun j => by
        rcases Nat.lt_or_ge j i with h' | h'
        · exact hall j h'
        · rw [List.getElem?_eq_none (by omega), List.getElem?_eq_none (by omega)]
      try refine VS.ret ?_
      repeat first | refine blockN_ret ?_ | refine loopN_ret ?_
      refine endK.of [4] [0, 1] [] (by simp [hF]) (by simp [covers, mpre]) ?_
      simp [hF, retK, this]

/- cabochon/cabochonlaw20.same -/
theorem same_nil : Meets Try.prog 28 [] (.cons (.nils 1) (.cons (.nils 1) .nil))
    fun av X κ => av = .val (.bool true) ∧ X = [] ∧ κ = [] := by
  refine Meets.of_vs tabOk Try.func28 (body := ?_) ?_ (by kernel_rfl) Try.ntmps28 (rs := [.tmp 4]) (by kernel_rfl) rfl (by simp [AV.len]) (by simp only [envOf]; exact rfl) ?_
  rotate_left
  · rfl
  intro w0 I0 F0 hF
  repeat first
    | refine VS.seq ?_
    | refine VS.skip ?_
    | refine VS.block ?_
    | (refine VS.keepAt 0 [0, 1] ?_; generalize hK : VS _ _ _ = KK; (try simp); (try subst hK); refine VS.region tabOk (id := 0) [] (by kernel_rfl) ?_; generalize hK : VS _ _ _ = KK; simp (maxSteps := 1000000) [hF]; (try subst hK); try (refine VS.keep [0, 1] ?_; generalize hK : VS _ _ _ = KK; simp; (try subst hK)))
    | (refine VS.keepAt 1 [0, 1] ?_; generalize hK : VS _ _ _ = KK; (try simp); (try subst hK); refine VS.region tabOk (id := 1) [] (by kernel_rfl) ?_; generalize hK : VS _ _ _ = KK; simp (maxSteps := 1000000) [hF]; (try subst hK); try (refine VS.keep [0, 1, 10] ?_; generalize hK : VS _ _ _ = KK; simp; (try subst hK)))
    | (refine VS.keepAt 3 [0, 1] ?_; generalize hK : VS _ _ _ = KK; (try simp); (try subst hK); refine VS.region tabOk (id := 3) [] (by kernel_rfl) ?_; generalize hK : VS _ _ _ = KK; simp (maxSteps := 1000000) [hF]; (try subst hK); try (refine VS.keep [0, 1, 5] ?_; generalize hK : VS _ _ _ = KK; simp; (try subst hK)))
    | (refine VS.cond ?_; generalize hK1 : VS _ _ _ = KK1; generalize hK2 : VS _ _ _ = KK2; simp (maxSteps := 1000000) [hF]; (try subst hK1); (try subst hK2))
  refine VS.rounds (fun n st => st = ⟨[(0, .nils 1), (1, .nils 1), (5, .val (.int .i64 0))], [], [], []⟩) ⟨0, rfl⟩ ?_
  rintro n st rfl
  repeat first
    | refine VS.seq ?_
    | refine VS.exit ?_
    | (refine VS.keepAt 4 [0, 1, 5] ?_; generalize hK : VS _ _ _ = KK; (try simp); (try subst hK); refine VS.region tabOk (id := 4) [] (by kernel_rfl) ?_; generalize hK : VS _ _ _ = KK; simp (maxSteps := 1000000) [hF]; (try subst hK); try (refine VS.keep [0, 1, 5, 14] ?_; generalize hK : VS _ _ _ = KK; simp; (try subst hK)))
    | (refine VS.keepAt 8 [] ?_; generalize hK : VS _ _ _ = KK; (try simp); (try subst hK); refine VS.region tabOk (id := 8) [] (by kernel_rfl) ?_; generalize hK : VS _ _ _ = KK; simp (maxSteps := 1000000) [hF]; (try subst hK); try (refine VS.keep [4] ?_; generalize hK : VS _ _ _ = KK; simp; (try subst hK)))
    | (refine VS.cond ?_; generalize hK1 : VS _ _ _ = KK1; generalize hK2 : VS _ _ _ = KK2; simp (maxSteps := 1000000) [hF]; (try subst hK1); (try subst hK2))
  try refine VS.ret ?_
  repeat first | refine blockN_ret ?_ | refine loopN_ret ?_
  refine endK.of [4] [] [] (by simp [hF]) (by simp [covers, mpre]) ?_
  simp [hF, retK]

/- cabochon/cabochonlaw20.played -/
theorem played_ok (ex : Bool) (l : List Deed) : Meets Try.prog 29 [] (.cons (.imm 4 (dDeeds l) ex) .nil)
    fun av X κ => av = .ptr 0 [.d] ∧ X = [dSp (playedOf l)] ∧ κ = [] := by
  refine Meets.of_vs tabOk Try.func29 (body := ?_) ?_ (by kernel_rfl) Try.ntmps29 (rs := [.tmp 2]) (by kernel_rfl) rfl (by simp [AV.len]) (by simp only [envOf]; exact rfl) ?_
  rotate_left
  · rfl
  intro w0 I0 F0 hF
  repeat first
    | refine VS.seq ?_
    | (refine VS.keepAt 0 [0] ?_; generalize hK : VS _ _ _ = KK; (try simp); (try subst hK); refine VS.region tabOk (id := 0) [] (by kernel_rfl) ?_; generalize hK : VS _ _ _ = KK; simp (maxSteps := 1000000) [hF]; (try subst hK); try (refine VS.keep [0] ?_; generalize hK : VS _ _ _ = KK; simp; (try subst hK)))
    | (refine VS.keepAt 1 [0] ?_; generalize hK : VS _ _ _ = KK; (try simp); (try subst hK); refine VS.region tabOk (id := 1) [] (by kernel_rfl) ?_; generalize hK : VS _ _ _ = KK; simp (maxSteps := 1000000) [hF]; (try subst hK); try (refine VS.keep [0, 3] ?_; generalize hK : VS _ _ _ = KK; simp; (try subst hK)))
  refine (new_ok).call [] (by simp) (by simp (maxSteps := 1000000) [hF]) (by simp (maxSteps := 1000000) [hF]) (by simp (maxSteps := 1000000) [hF]) (by simp) ?_
  rintro av X κ ⟨rfl, rfl, rfl⟩
  generalize hK : VS _ _ _ = KK; simp (maxSteps := 1000000) [hF]; (try subst hK)
  repeat first
    | refine VS.seq ?_
    | refine VS.block ?_
    | (refine VS.keepAt 2 [0, 3] ?_; generalize hK : VS _ _ _ = KK; (try simp); (try subst hK); refine VS.region tabOk (id := 2) [] (by kernel_rfl) ?_; generalize hK : VS _ _ _ = KK; simp (maxSteps := 1000000) [hF]; (try subst hK); try (refine VS.keep [0, 3, 4] ?_; generalize hK : VS _ _ _ = KK; simp; (try subst hK)))
  refine VS.rounds (fun n st => ∃ (i : Nat), i + n = 5 ∧ st = ⟨[(0, .imm 4 (dDeeds l) ex), (3, .ptr 0 [.d]), (4, avInt i)], [dSp (makes i sp0)], [], []⟩) ⟨5, 0, rfl, rfl⟩ ?_
  rintro n st ⟨i, hi, rfl⟩
  repeat first
    | refine VS.seq ?_
    | (refine VS.keepAt 3 [0, 3, 4] ?_; generalize hK : VS _ _ _ = KK; (try simp); (try subst hK); refine VS.region tabOk (id := 3) [] (by kernel_rfl) ?_; generalize hK : VS _ _ _ = KK; simp (maxSteps := 1000000) [hF]; (try subst hK); try (refine VS.keep [0, 3, 4, 8] ?_; generalize hK : VS _ _ _ = KK; simp; (try subst hK)))
    | (refine VS.cond ?_; generalize hK1 : VS _ _ _ = KK1; generalize hK2 : VS _ _ _ = KK2; simp (maxSteps := 1000000) [hF]; (try subst hK1); (try subst hK2))
  refine ⟨fun hlt => ?_, fun hge => ?_⟩
  · repeat first
      | refine VS.seq ?_
      | refine VS.skip ?_
      | refine VS.block ?_
      | (refine VS.keepAt 5 [0, 3, 4] ?_; generalize hK : VS _ _ _ = KK; (try simp); (try subst hK); refine VS.region tabOk (id := 5) [] (by kernel_rfl) ?_; generalize hK : VS _ _ _ = KK; simp (maxSteps := 1000000) [hF]; (try subst hK); try (refine VS.keep [0, 3, 4] ?_; generalize hK : VS _ _ _ = KK; simp; (try subst hK)))
    refine (make_ok (makes i sp0)).call [(0, [])] (by simp) (by simp (maxSteps := 1000000) [hF, dSp]) (by simp (maxSteps := 1000000) [hF, dSp]) (by simp (maxSteps := 1000000) [hF, dSp]) (by simp) ?_
    rintro av X κ ⟨rfl, rfl, rfl⟩
    generalize hK : VS _ _ _ = KK; simp (maxSteps := 1000000) [hF, dSp]; (try subst hK)
    repeat first
      | refine VS.nil ?_
      | refine blockN_normal ?_
      | refine loopN_normal ?_
      | (refine VS.keepAt 4 [0, 3, 4] ?_; generalize hK : VS _ _ _ = KK; (try simp); (try subst hK); refine VS.region tabOk (id := 4) [] (by kernel_rfl) ?_; generalize hK : VS _ _ _ = KK; simp (maxSteps := 1000000) [hF]; (try subst hK); try (refine VS.keep [0, 3, 4] ?_; generalize hK : VS _ _ _ = KK; simp; (try subst hK)))
    refine nextK.of [0, 3, 4] [0] (n - 1) (by omega) (by simp [hF]) ?_
    refine ⟨i + 1, by omega, ?_⟩
    simp [makes, dSp]
    exact IntWalk.i64_in _ (by omega)
  · obtain rfl : i = 5 := by omega
    rw [makes5]
    repeat first
      | refine VS.seq ?_
      | refine VS.block ?_
      | refine VS.exit ?_
      | (refine VS.keepAt 6 [0, 3] ?_; generalize hK : VS _ _ _ = KK; (try simp); (try subst hK); refine VS.region tabOk (id := 6) [] (by kernel_rfl) ?_; generalize hK : VS _ _ _ = KK; simp (maxSteps := 1000000) [hF]; (try subst hK); try (refine VS.keep [0, 3, 5] ?_; generalize hK : VS _ _ _ = KK; simp; (try subst hK)))
    refine VS.rounds (fun n st => ∃ (i : Nat), i + n = 400 ∧ i ≤ l.length ∧ st = ⟨[(0, .imm 4 (dDeeds l) ex), (3, .ptr 0 [.d]), (5, avInt i)], [dSp (runOf sp5 (l.take i))], [], []⟩) ⟨400, 0, rfl, by omega, by simp [runOf]⟩ ?_
    rintro n st ⟨i, hi, hil, rfl⟩
    obtain ⟨hwf, hpos⟩ := runOf_wf (l.take i) sp5_wf.1 sp5_wf.2
    have hN : 0 + (l.take i).length < 1000000 := by simp; omega
    by_cases hlt : i < l.length
    · have b1 : (i : Int) < l.length := by omega
      by_cases h4 : i < 400
      · have b2 : (i : Int) < 400 := by omega
        have hn := dDeeds_nth hlt
        repeat first
          | refine VS.seq ?_
          | refine VS.skip ?_
          | refine VS.block ?_
          | (refine VS.keepAt 7 [0, 3, 5] ?_; generalize hK : VS _ _ _ = KK; (try simp); (try subst hK); refine VS.region tabOk (id := 7) [(4, 17)] (by kernel_rfl) ?_; generalize hK : VS _ _ _ = KK; simp (maxSteps := 1000000) [hF, b1, b2, hn]; (try subst hK); try (refine VS.keep [0, 3, 5, 20] ?_; generalize hK : VS _ _ _ = KK; simp; (try subst hK)))
          | (refine VS.keepAt 9 [0, 3, 5] ?_; generalize hK : VS _ _ _ = KK; (try simp); (try subst hK); refine VS.region tabOk (id := 9) [] (by kernel_rfl) ?_; generalize hK : VS _ _ _ = KK; simp (maxSteps := 1000000) [hF, b1, b2, hn]; (try subst hK); try (refine VS.keep [0, 3, 5] ?_; generalize hK : VS _ _ _ = KK; simp; (try subst hK)))
          | (refine VS.cond ?_; generalize hK1 : VS _ _ _ = KK1; generalize hK2 : VS _ _ _ = KK2; simp (maxSteps := 1000000) [hF, b1, b2, hn]; (try subst hK1); (try subst hK2))
        refine (small_ok l[i]).call [] (by simp) (by simp (maxSteps := 1000000) [hF, avDeed]) (by simp (maxSteps := 1000000) [hF, avDeed]) (by simp (maxSteps := 1000000) [hF, avDeed]) (by simp) ?_
        rintro av X κ ⟨rfl, rfl, rfl⟩
        generalize hK : VS _ _ _ = KK; simp (maxSteps := 1000000) [hF, avDeed]; (try subst hK)
        refine (do_ok _ hwf hN (smallOf l[i])).call [(0, [])] (by simp) (by simp (maxSteps := 1000000) [hF, dSp, avDeed]) (by simp (maxSteps := 1000000) [hF, dSp, avDeed]) (by simp (maxSteps := 1000000) [hF, dSp, avDeed]) (by simp) ?_
        rintro av X κ ⟨rfl, rfl, rfl⟩
        generalize hK : VS _ _ _ = KK; simp (maxSteps := 1000000) [hF, dSp, avDeed]; (try subst hK)
        repeat first
          | refine VS.nil ?_
          | refine blockN_normal ?_
          | refine loopN_normal ?_
          | (refine VS.keepAt 8 [0, 3, 5] ?_; generalize hK : VS _ _ _ = KK; (try simp); (try subst hK); refine VS.region tabOk (id := 8) [] (by kernel_rfl) ?_; generalize hK : VS _ _ _ = KK; simp (maxSteps := 1000000) [hF]; (try subst hK); try (refine VS.keep [0, 3, 5] ?_; generalize hK : VS _ _ _ = KK; simp; (try subst hK)))
        refine nextK.of [0, 3, 5] [0] (n - 1) (by omega) (by simp [hF]) ?_
        refine ⟨i + 1, by omega, by omega, ?_⟩
        rw [runOf_take hlt]
        simp [dSp]
        exact IntWalk.i64_in _ (by omega)
      · have b2 : ¬ (i : Int) < 400 := by omega
        have b3 : (400 : Int) ≤ i := by omega
        have e : playedOf l = runOf sp5 (l.take i) := by rw [playedOf, show i = 400 by omega]
        repeat first
          | refine VS.seq ?_
          | refine VS.exit ?_
          | (refine VS.keepAt 7 [0, 3, 5] ?_; generalize hK : VS _ _ _ = KK; (try simp); (try subst hK); refine VS.region tabOk (id := 7) [(4, 17)] (by kernel_rfl) ?_; generalize hK : VS _ _ _ = KK; simp (maxSteps := 1000000) [hF, b1, b2, b3]; (try subst hK); try (refine VS.keep [0, 3, 5, 20] ?_; generalize hK : VS _ _ _ = KK; simp; (try subst hK)))
          | (refine VS.keepAt 10 [3] ?_; generalize hK : VS _ _ _ = KK; (try simp); (try subst hK); refine VS.region tabOk (id := 10) [] (by kernel_rfl) ?_; generalize hK : VS _ _ _ = KK; simp (maxSteps := 1000000) [hF, b1, b2, b3]; (try subst hK); try (refine VS.keep [2] ?_; generalize hK : VS _ _ _ = KK; simp; (try subst hK)))
          | (refine VS.cond ?_; generalize hK1 : VS _ _ _ = KK1; generalize hK2 : VS _ _ _ = KK2; simp (maxSteps := 1000000) [hF, b1, b2, b3]; (try subst hK1); (try subst hK2))
        try refine VS.ret ?_
        repeat first | refine blockN_ret ?_ | refine loopN_ret ?_
        refine endK.of [2] [0] [] (by simp [hF]) (by simp [covers, mpre]) ?_
        simp [hF, retK, e]
    · have b1 : ¬ (i : Int) < l.length := by omega
      have b3 : (l.length : Int) ≤ i := by omega
      have e : playedOf l = runOf sp5 (l.take i) := by rw [playedOf, List.take_of_length_le (by omega), List.take_of_length_le (by omega)]
      repeat first
        | refine VS.seq ?_
        | refine VS.exit ?_
        | (refine VS.keepAt 7 [0, 3, 5] ?_; generalize hK : VS _ _ _ = KK; (try simp); (try subst hK); refine VS.region tabOk (id := 7) [(4, 17)] (by kernel_rfl) ?_; generalize hK : VS _ _ _ = KK; simp (maxSteps := 1000000) [hF, b1, b3]; (try subst hK); try (refine VS.keep [0, 3, 5, 20] ?_; generalize hK : VS _ _ _ = KK; simp; (try subst hK)))
        | (refine VS.keepAt 10 [3] ?_; generalize hK : VS _ _ _ = KK; (try simp); (try subst hK); refine VS.region tabOk (id := 10) [] (by kernel_rfl) ?_; generalize hK : VS _ _ _ = KK; simp (maxSteps := 1000000) [hF, b1, b3]; (try subst hK); try (refine VS.keep [2] ?_; generalize hK : VS _ _ _ = KK; simp; (try subst hK)))
        | (refine VS.cond ?_; generalize hK1 : VS _ _ _ = KK1; generalize hK2 : VS _ _ _ = KK2; simp (maxSteps := 1000000) [hF, b1, b3]; (try subst hK1); (try subst hK2))
      try refine VS.ret ?_
      repeat first | refine blockN_ret ?_ | refine loopN_ret ?_
      refine endK.of [2] [0] [] (by simp [hF]) (by simp [covers, mpre]) ?_
      simp [hF, retK, e]
end Go.Proofs.Ythcndkpkkaphoaa

/- The reference's own. -/
namespace Go.Proofs.Ythcndkpkkaphoaa
set_option linter.all false
open Go.Vc Go.Proofs
set_option linter.unusedSimpArgs false
set_option maxRecDepth 100000
set_option maxHeartbeats 4000000
attribute [local irreducible] CallW EqK

/- cabochon/cabochonref20.New -/
theorem rnew_ok : Meets Try.prog 13 [] .nil fun av X κ => av = .ptr 0 [.d] ∧ X = [dRSp sp0] ∧ κ = [] := by
  refine Meets.of_vs tabOk Try.func13 (body := ?_) ?_ (by kernel_rfl) Try.ntmps13 (rs := [.tmp 0]) (by kernel_rfl) rfl (by simp [AV.len]) (by simp only [envOf]; exact rfl) ?_
  rotate_left
  · rfl
  intro w0 I0 F0 hF
  repeat first
    | refine VS.seq ?_
    | (refine VS.region tabOk (id := 0) [] (by kernel_rfl) ?_; generalize hK : VS _ _ _ = KK; simp (maxSteps := 1000000) [hF]; (try subst hK); try (refine VS.keep [] ?_; generalize hK : VS _ _ _ = KK; simp; (try subst hK)))
    | (refine VS.region tabOk (id := 1) [] (by kernel_rfl) ?_; generalize hK : VS _ _ _ = KK; simp (maxSteps := 1000000) [hF]; (try subst hK); try (refine VS.keep [0] ?_; generalize hK : VS _ _ _ = KK; simp; (try subst hK)))
  try refine VS.ret ?_
  repeat first | refine blockN_ret ?_ | refine loopN_ret ?_
  refine endK.of [0] [1] [] (by simp [hF]) (by simp [covers, mpre]) ?_
  simp [hF, retK]
  rfl

/- (*cabochon/cabochonref20.Space).no -/
theorem no_ok (S : Sp) : Meets Try.prog 39 [dRSp S] (.cons (.ptr 0 [.d]) .nil) fun av X κ => av = .val (.bool false) ∧ X = [dRSp S] ∧ κ = [] := by
  refine Meets.of_vs tabOk Try.func39 (body := ?_) ?_ (by kernel_rfl) Try.ntmps39 (rs := [.tmp 2]) (by kernel_rfl) rfl (by simp [AV.len]) (by simp only [envOf]; exact rfl) ?_
  rotate_left
  · rfl
  intro w0 I0 F0 hF
  repeat first
    | refine VS.seq ?_
    | (refine VS.region tabOk (id := 0) [] (by kernel_rfl) ?_; generalize hK : VS _ _ _ = KK; simp (maxSteps := 1000000) [hF, dRSp, dBool]; (try subst hK); try (refine VS.keep [0] ?_; generalize hK : VS _ _ _ = KK; simp; (try subst hK)))
    | (refine VS.region tabOk (id := 1) [(2, 5)] (by kernel_rfl) ?_; generalize hK : VS _ _ _ = KK; simp (maxSteps := 1000000) [hF, dRSp, dBool]; (try subst hK); try (refine VS.keep [2] ?_; generalize hK : VS _ _ _ = KK; simp; (try subst hK)))
  try refine VS.ret ?_
  repeat first | refine blockN_ret ?_ | refine loopN_ret ?_
  refine endK.of [2] [0] [] (by simp [hF]) (by simp [covers, mpre]) ?_
  simp [hF, retK, dRSp, dBool]

/-- Is there an object? (The space is one that New made.) -/
def robjB (S : Sp) (o : Int) : Bool := decide (0 ≤ o ∧ o < S.objs.length)

/- (*cabochon/cabochonref20.Space).object -/
theorem object_ok (S : Sp) (hS : 0 < S.shapes.length) (o : Int) : Meets Try.prog 44 [dRSp S] (.cons (.ptr 0 [.d]) (.cons (avInt o) .nil)) fun av X κ => av = .val (.bool (hasB S o)) ∧ X = [dRSp S] ∧ κ = [] := by
  refine Meets.of_vs tabOk Try.func44 (body := ?_) ?_ (by kernel_rfl) Try.ntmps44 (rs := [.tmp 4]) (by kernel_rfl) rfl (by simp [AV.len]) (by simp only [envOf]; exact rfl) ?_
  rotate_left
  · rfl
  intro w0 I0 F0 hF
  repeat first
    | refine VS.seq ?_
    | (refine VS.region tabOk (id := 0) [] (by kernel_rfl) ?_; generalize hK : VS _ _ _ = KK; simp (maxSteps := 1000000) [hF]; (try subst hK); try (refine VS.keep [0, 1] ?_; generalize hK : VS _ _ _ = KK; simp; (try subst hK)))
    | (refine VS.region tabOk (id := 1) [(3, 8), (7, 12)] (by kernel_rfl) ?_; generalize hK : VS _ _ _ = KK; simp (maxSteps := 1000000) [hF]; (try subst hK); try (refine VS.keep [4] ?_; generalize hK : VS _ _ _ = KK; simp; (try subst hK)))
  refine (no_ok S).call [(0, [])] (by simp) (by simp (maxSteps := 1000000) [hF, dRSp, dBool]) (by simp (maxSteps := 1000000) [hF, dRSp, dBool]) (by simp (maxSteps := 1000000) [hF, dRSp, dBool]) (by simp) ?_
  rintro av X κ ⟨rfl, rfl, rfl⟩
  generalize hK : VS _ _ _ = KK; simp (maxSteps := 1000000) [hF, dRSp, dBool]; (try subst hK)
  refine ⟨fun h1 => ?_, fun h1 => ?_⟩
  all_goals
    try refine VS.ret ?_
    repeat first | refine blockN_ret ?_ | refine loopN_ret ?_
    refine endK.of [4] [0] [] (by simp [hF]) (by simp [covers, mpre]) ?_
    simp [hF, retK, dRSp, dBool, hasB, hS]
    omega

def namedB (n : ByteArray) : Bool := decide (¬ (n = noName ∨ 40 < n.size))

/- cabochon/cabochonref20.named -/
theorem rnamed_ok (n : ByteArray) : Meets Try.prog 45 [] (.cons (.val (.string n)) .nil) fun av X κ => av = .val (.bool (namedB n)) ∧ X = [] ∧ κ = [] := by
  refine Meets.of_vs tabOk Try.func45 (body := ?_) ?_ (by kernel_rfl) Try.ntmps45 (rs := [.tmp 2]) (by kernel_rfl) rfl (by simp [AV.len]) (by simp only [envOf]; exact rfl) ?_
  rotate_left
  · rfl
  intro w0 I0 F0 hF
  repeat first
    | refine VS.seq ?_
    | (refine VS.region tabOk (id := 0) [] (by kernel_rfl) ?_; generalize hK : VS _ _ _ = KK; simp (maxSteps := 1000000) [hF]; (try subst hK); try (refine VS.keep [0] ?_; generalize hK : VS _ _ _ = KK; simp; (try subst hK)))
    | (refine VS.region tabOk (id := 1) [(3, 6)] (by kernel_rfl) ?_; generalize hK : VS _ _ _ = KK; simp (maxSteps := 1000000) [hF]; (try subst hK); try (refine VS.keep [2] ?_; generalize hK : VS _ _ _ = KK; simp; (try subst hK)))
  have hz : 0 < n.size ↔ ¬ n = noName := by
    constructor
    · intro h e; rw [e] at h; exact absurd h (by decide)
    · intro h
      rcases Nat.eq_zero_or_pos n.size with h0 | h0
      · exact absurd (ByteArray.ext (Array.eq_empty_of_size_eq_zero h0)) h
      · exact h0
  refine ⟨fun h => ?_, fun h => ?_⟩
  · have h1 := hz.1 h
    by_cases h2 : n.size ≤ 40
    · have h3 : ¬ 40 < n.size := by omega
      have h4 : (n.size : Int) ≤ 40 := by omega
      try refine VS.ret ?_
      repeat first | refine blockN_ret ?_ | refine loopN_ret ?_
      refine endK.of [2] [] [] (by simp [hF]) (by simp [covers, mpre]) ?_
      simp [hF, retK, namedB, h1, h3, h4]
    · have h3 : 40 < n.size := by omega
      have h4 : ¬ (n.size : Int) ≤ 40 := by omega
      try refine VS.ret ?_
      repeat first | refine blockN_ret ?_ | refine loopN_ret ?_
      refine endK.of [2] [] [] (by simp [hF]) (by simp [covers, mpre]) ?_
      simp [hF, retK, namedB, h1, h3, h4]
  · have h1 : ByteArray.empty = noName := rfl
    try refine VS.ret ?_
    repeat first | refine blockN_ret ?_ | refine loopN_ret ?_
    refine endK.of [2] [] [] (by simp [hF]) (by simp [covers, mpre]) ?_
    simp [hF, retK, namedB, h, h1]

/- cabochon/cabochonref20.place -/
theorem place_ok (own ex : Bool) (l : List ByteArray) (n0 : ByteArray) (hl : l.length ≤ 1000000) : Meets Try.prog 46 [.sl own () 1 (dStrs l)] (.cons (.sub 0 [] 0 l.length ex) (.cons (.val (.string n0)) .nil))
    fun av X κ => av = .val (.int .i64 (posIn n0 l)) ∧ X = [.sl own () 1 (dStrs l)] ∧ κ = [] := by
  refine Meets.of_vs tabOk Try.func46 (body := ?_) ?_ (by kernel_rfl) Try.ntmps46 (rs := [.tmp 4]) (by kernel_rfl) rfl (by simp [AV.len]) (by simp only [envOf]; exact rfl) ?_
  rotate_left
  · rfl
  intro w0 I0 F0 hF
  repeat first
    | refine VS.seq ?_
    | refine VS.block ?_
    | (refine VS.region tabOk (id := 0) [] (by kernel_rfl) ?_; generalize hK : VS _ _ _ = KK; simp (maxSteps := 1000000) [hF]; (try subst hK); try (refine VS.keep [0, 1] ?_; generalize hK : VS _ _ _ = KK; simp; (try subst hK)))
    | (refine VS.region tabOk (id := 1) [] (by kernel_rfl) ?_; generalize hK : VS _ _ _ = KK; simp (maxSteps := 1000000) [hF]; (try subst hK); try (refine VS.keep [0, 1, 5] ?_; generalize hK : VS _ _ _ = KK; simp; (try subst hK)))
  refine VS.rounds (fun m st => ∃ (i : Nat), i + m = l.length ∧ (∀ j, j < i → ∀ hj : j < l.length, l[j] ≠ n0) ∧
    st = ⟨[(0, .sub 0 [] 0 l.length ex), (1, .val (.string n0)), (5, avInt i)], [.sl own () 1 (dStrs l)], [], []⟩) ⟨l.length, 0, by simp, by simp, rfl⟩ ?_
  rintro m st ⟨i, hi, hall, rfl⟩
  repeat first
    | refine VS.seq ?_
    | (refine VS.region tabOk (id := 2) [] (by kernel_rfl) ?_; generalize hK : VS _ _ _ = KK; simp (maxSteps := 1000000) [hF]; (try subst hK); try (refine VS.keep [0, 1, 5, 9] ?_; generalize hK : VS _ _ _ = KK; simp; (try subst hK)))
    | (refine VS.cond ?_; generalize hK1 : VS _ _ _ = KK1; generalize hK2 : VS _ _ _ = KK2; simp (maxSteps := 1000000) [hF]; (try subst hK1); (try subst hK2))
  refine ⟨fun hlt => ?_, fun hge => ?_⟩
  · have hs := dStrs_nth hlt
    repeat first
      | refine VS.seq ?_
      | refine VS.skip ?_
      | refine VS.block ?_
      | (refine VS.region tabOk (id := 4) [] (by kernel_rfl) ?_; generalize hK : VS _ _ _ = KK; simp (maxSteps := 1000000) [hF, hlt, hs]; (try subst hK); try (refine VS.keep [0, 1, 5, 17] ?_; generalize hK : VS _ _ _ = KK; simp; (try subst hK)))
      | (refine VS.cond ?_; generalize hK1 : VS _ _ _ = KK1; generalize hK2 : VS _ _ _ = KK2; simp (maxSteps := 1000000) [hF, hlt, hs]; (try subst hK1); (try subst hK2))
    refine ⟨fun he => ?_, fun he => ?_⟩
    · repeat first
        | refine VS.seq ?_
        | (refine VS.region tabOk (id := 5) [] (by kernel_rfl) ?_; generalize hK : VS _ _ _ = KK; simp (maxSteps := 1000000) [hF]; (try subst hK); try (refine VS.keep [4] ?_; generalize hK : VS _ _ _ = KK; simp; (try subst hK)))
      try refine VS.ret ?_
      repeat first | refine blockN_ret ?_ | refine loopN_ret ?_
      refine endK.of [4] [0] [] (by simp [hF]) (by simp [covers, mpre]) ?_
      simp [hF, retK]
      exact (posBy_at hlt (by simpa using he) fun j hj hj' => by simpa using hall j hj hj').symm
    · repeat first
        | refine VS.skip ?_
        | refine VS.nil ?_
        | refine blockN_normal ?_
        | refine loopN_normal ?_
        | (refine VS.region tabOk (id := 3) [] (by kernel_rfl) ?_; generalize hK : VS _ _ _ = KK; simp (maxSteps := 1000000) [hF]; (try subst hK); try (refine VS.keep [0, 1, 5] ?_; generalize hK : VS _ _ _ = KK; simp; (try subst hK)))
      refine nextK.of [0, 1, 5] [0] (m - 1) (by omega) (by simp [hF]) ?_
      refine ⟨i + 1, by omega, ?_, ?_⟩
      · intro j hj hj'
        rcases Nat.lt_or_ge j i with h | h
        · exact hall j h hj'
        · obtain rfl : j = i := by omega
          exact he
      · simp
        exact IntWalk.i64_in _ (by omega)
  · repeat first
      | refine VS.seq ?_
      | refine VS.exit ?_
      | (refine VS.region tabOk (id := 6) [] (by kernel_rfl) ?_; generalize hK : VS _ _ _ = KK; simp (maxSteps := 1000000) [hF]; (try subst hK); try (refine VS.keep [4] ?_; generalize hK : VS _ _ _ = KK; simp; (try subst hK)))
    try refine VS.ret ?_
    repeat first | refine blockN_ret ?_ | refine loopN_ret ?_
    refine endK.of [4] [0] [] (by simp [hF]) (by simp [covers, mpre]) ?_
    simp [hF, retK]
    exact (posBy_none fun j hj => by simpa using hall j (by omega) hj).symm

/- (*cabochon/cabochonref20.Space).Make -/
theorem rmake_ok (S : Sp) (hS : 0 < S.shapes.length) : Meets Try.prog 16 [dRSp S] (.cons (.ptr 0 [.d]) .nil)
    fun av X κ => av = two (makeOf S).2 ∧ X = [dRSp (makeOf S).1] ∧ κ = [(0, [.d])] := by
  have hr : realB S = true := by simpa [realB] using hS
  refine Meets.of_vs tabOk Try.func16 (body := ?_) ?_ (by kernel_rfl) Try.ntmps16 (rs := [.tmp 2, .tmp 3]) (by kernel_rfl) rfl (by simp [AV.len]) (by simp only [envOf]; exact rfl) ?_
  rotate_left
  · rfl
  intro w0 I0 F0 hF
  repeat first
    | refine VS.seq ?_
    | (refine VS.region tabOk (id := 0) [] (by kernel_rfl) ?_; generalize hK : VS _ _ _ = KK; simp (maxSteps := 1000000) [hF]; (try subst hK); try (refine VS.keep [0] ?_; generalize hK : VS _ _ _ = KK; simp; (try subst hK)))
    | (refine VS.region tabOk (id := 1) [] (by kernel_rfl) ?_; generalize hK : VS _ _ _ = KK; simp (maxSteps := 1000000) [hF]; (try subst hK); try (refine VS.keep [0, 5] ?_; generalize hK : VS _ _ _ = KK; simp; (try subst hK)))
  refine (no_ok S).call [(0, [])] (by simp) (by simp (maxSteps := 1000000) [hF, dRSp, dBool]) (by simp (maxSteps := 1000000) [hF, dRSp, dBool]) (by simp (maxSteps := 1000000) [hF, dRSp, dBool]) (by simp) ?_
  rintro av X κ ⟨rfl, rfl, rfl⟩
  generalize hK : VS _ _ _ = KK; simp (maxSteps := 1000000) [hF, dRSp, dBool]; (try subst hK)
  repeat first
    | refine VS.seq ?_
    | refine VS.skip ?_
    | (refine VS.region tabOk (id := 3) [] (by kernel_rfl) ?_; generalize hK : VS _ _ _ = KK; simp (maxSteps := 1000000) [hF, dRSp, dBool]; (try subst hK); try (refine VS.keep [0, 11] ?_; generalize hK : VS _ _ _ = KK; simp; (try subst hK)))
    | (refine VS.cond ?_; generalize hK1 : VS _ _ _ = KK1; generalize hK2 : VS _ _ _ = KK2; simp (maxSteps := 1000000) [hF, dRSp, dBool]; (try subst hK1); (try subst hK2))
  refine ⟨fun h1 => ?_, fun h1 => ?_⟩
  · repeat first
      | refine VS.seq ?_
      | (refine VS.region tabOk (id := 4) [] (by kernel_rfl) ?_; generalize hK : VS _ _ _ = KK; simp (maxSteps := 1000000) [hF]; (try subst hK); try (refine VS.keep [2, 3] ?_; generalize hK : VS _ _ _ = KK; simp; (try subst hK)))
    have h1' : 100 ≤ S.objs.length := by omega
    try refine VS.ret ?_
    repeat first | refine blockN_ret ?_ | refine loopN_ret ?_
    refine endK.of [2, 3] [0] [(0, [.d])] (by simp [hF]) (by simp [covers, mpre]) ?_
    simp [hF, retK, dRSp, dBool, makeOf, hr, h1']
  · repeat first
      | refine VS.seq ?_
      | refine VS.skip ?_
    refine VS.lift 0 [.d, .f 2] (by simp (maxSteps := 1000000) [hF]) (by simp (maxSteps := 1000000) [hF]) (by simp [isNode]) (by simp (maxSteps := 1000000) [hF]) ?_
    generalize hK : VS _ _ _ = KK; simp [hF, St.lift, AV.lift, liftPl, stripP, nodeAV]; (try subst hK)
    have hpush := dRObs_push S.objs ⟨0, [], [], false⟩
    simp [dStrs_nil, dInts_nil] at hpush
    repeat first
      | refine VS.seq ?_
      | refine ⟨⟨by omega, by omega⟩, ?_⟩
      | (refine VS.region tabOk (id := 5) [] (by kernel_rfl) ?_; generalize hK : VS _ _ _ = KK; simp (maxSteps := 1000000) [hF, dRSp, dBool, hpush]; (try subst hK); try (refine VS.keep [0] ?_; generalize hK : VS _ _ _ = KK; simp; (try subst hK)))
      | (refine VS.region tabOk (id := 6) [] (by kernel_rfl) ?_; generalize hK : VS _ _ _ = KK; simp (maxSteps := 1000000) [hF, dRSp, dBool, hpush]; (try subst hK); try (refine VS.keep [2, 3] ?_; generalize hK : VS _ _ _ = KK; simp; (try subst hK)))
    have h1' : ¬ 100 ≤ S.objs.length := by omega
    have hw : IntKind.i64.wrap (S.objs.length : Int) = S.objs.length := IntWalk.i64_in _ (by omega)
    try refine VS.ret ?_
    repeat first | refine blockN_ret ?_ | refine loopN_ret ?_
    refine endK.of [2, 3] [0] [(0, [.d])] (by simp [hF]) (by simp [covers, mpre]) ?_
    simp [hF, retK, dRSp, dBool, makeOf, hr, h1', hw]

/- (*cabochon/cabochonref20.Space).Shape -/
theorem rshape_ok (S : Sp) (hS : 0 < S.shapes.length) (o : Int) : Meets Try.prog 20 [dRSp S] (.cons (.ptr 0 [.d]) (.cons (avInt o) .nil))
    fun av X κ => av = two (shapeOf S o) ∧ X = [dRSp S] ∧ κ = [] := by
  refine Meets.of_vs tabOk Try.func20 (body := ?_) ?_ (by kernel_rfl) Try.ntmps20 (rs := [.tmp 4, .tmp 5]) (by kernel_rfl) rfl (by simp [AV.len]) (by simp only [envOf]; exact rfl) ?_
  rotate_left
  · rfl
  intro w0 I0 F0 hF
  repeat first
    | refine VS.seq ?_
    | (refine VS.region tabOk (id := 0) [] (by kernel_rfl) ?_; generalize hK : VS _ _ _ = KK; simp (maxSteps := 1000000) [hF]; (try subst hK); try (refine VS.keep [0, 1] ?_; generalize hK : VS _ _ _ = KK; simp; (try subst hK)))
    | (refine VS.region tabOk (id := 1) [] (by kernel_rfl) ?_; generalize hK : VS _ _ _ = KK; simp (maxSteps := 1000000) [hF]; (try subst hK); try (refine VS.keep [0, 1, 9] ?_; generalize hK : VS _ _ _ = KK; simp; (try subst hK)))
  refine (object_ok S hS o).call [(0, [])] (by simp) (by simp (maxSteps := 1000000) [hF, dRSp, dBool]) (by simp (maxSteps := 1000000) [hF, dRSp, dBool]) (by simp (maxSteps := 1000000) [hF, dRSp, dBool]) (by simp) ?_
  rintro av X κ ⟨rfl, rfl, rfl⟩
  generalize hK : VS _ _ _ = KK; simp (maxSteps := 1000000) [hF, dRSp, dBool]; (try subst hK)
  repeat first
    | (refine VS.cond ?_; generalize hK1 : VS _ _ _ = KK1; generalize hK2 : VS _ _ _ = KK2; simp (maxSteps := 1000000) [hF]; (try subst hK1); (try subst hK2))
  refine ⟨fun h => ?_, fun h => ?_⟩
  · repeat first
      | refine VS.seq ?_
      | (refine VS.region tabOk (id := 2) [] (by kernel_rfl) ?_; generalize hK : VS _ _ _ = KK; simp (maxSteps := 1000000) [hF]; (try subst hK); try (refine VS.keep [4, 5] ?_; generalize hK : VS _ _ _ = KK; simp; (try subst hK)))
    try refine VS.ret ?_
    repeat first | refine blockN_ret ?_ | refine loopN_ret ?_
    refine endK.of [4, 5] [0] [] (by simp [hF]) (by simp [covers, mpre]) ?_
    simp [hF, retK, dRSp, dBool, shapeOf, h]
  · obtain ⟨j, rfl, hj, h0⟩ := hasB_true h
    repeat first
      | refine VS.seq ?_
      | refine VS.skip ?_
      | (refine VS.region tabOk (id := 3) [] (by kernel_rfl) ?_; generalize hK : VS _ _ _ = KK; simp (maxSteps := 1000000) [hF, dRSp, dBool, dRObs_at hj, hj, h]; (try subst hK); try (refine VS.keep [4, 5] ?_; generalize hK : VS _ _ _ = KK; simp; (try subst hK)))
    try refine VS.ret ?_
    repeat first | refine blockN_ret ?_ | refine loopN_ret ?_
    refine endK.of [4, 5] [0] [] (by simp [hF]) (by simp [covers, mpre]) ?_
    simp [hF, retK, dRSp, dBool, shapeOf, h, obAt_eq hj]

/- (*cabochon/cabochonref20.Space).Shapes -/
theorem rshapes_ok (S : Sp) : Meets Try.prog 22 [dRSp S] (.cons (.ptr 0 [.d]) .nil)
    fun av X κ => av = avInt (shapesOf S) ∧ X = [dRSp S] ∧ κ = [] := by
  refine Meets.of_vs tabOk Try.func22 (body := ?_) ?_ (by kernel_rfl) Try.ntmps22 (rs := [.tmp 2]) (by kernel_rfl) rfl (by simp [AV.len]) (by simp only [envOf]; exact rfl) ?_
  rotate_left
  · rfl
  intro w0 I0 F0 hF
  repeat first
    | refine VS.seq ?_
    | (refine VS.region tabOk (id := 0) [] (by kernel_rfl) ?_; generalize hK : VS _ _ _ = KK; simp (maxSteps := 1000000) [hF]; (try subst hK); try (refine VS.keep [0] ?_; generalize hK : VS _ _ _ = KK; simp; (try subst hK)))
    | (refine VS.region tabOk (id := 1) [] (by kernel_rfl) ?_; generalize hK : VS _ _ _ = KK; simp (maxSteps := 1000000) [hF]; (try subst hK); try (refine VS.keep [0, 4] ?_; generalize hK : VS _ _ _ = KK; simp; (try subst hK)))
  refine (no_ok S).call [(0, [])] (by simp) (by simp (maxSteps := 1000000) [hF, dRSp, dBool]) (by simp (maxSteps := 1000000) [hF, dRSp, dBool]) (by simp (maxSteps := 1000000) [hF, dRSp, dBool]) (by simp) ?_
  rintro av X κ ⟨rfl, rfl, rfl⟩
  generalize hK : VS _ _ _ = KK; simp (maxSteps := 1000000) [hF, dRSp, dBool]; (try subst hK)
  repeat first
    | refine VS.seq ?_
    | refine VS.skip ?_
    | (refine VS.region tabOk (id := 3) [] (by kernel_rfl) ?_; generalize hK : VS _ _ _ = KK; simp (maxSteps := 1000000) [hF, dRSp, dBool]; (try subst hK); try (refine VS.keep [2] ?_; generalize hK : VS _ _ _ = KK; simp; (try subst hK)))
    | (refine VS.cond ?_; generalize hK1 : VS _ _ _ = KK1; generalize hK2 : VS _ _ _ = KK2; simp (maxSteps := 1000000) [hF, dRSp, dBool]; (try subst hK1); (try subst hK2))
  try refine VS.ret ?_
  repeat first | refine blockN_ret ?_ | refine loopN_ret ?_
  refine endK.of [2] [0] [] (by simp [hF]) (by simp [covers, mpre]) ?_
  simp [hF, retK, dRSp, dBool, shapesOf]
end Go.Proofs.Ythcndkpkkaphoaa

/- More of what the deeds keep: names are names and stand once; other objects stay as they are. -/
namespace Go.Proofs.Ythcndkpkkaphoaa
set_option linter.all false
open Go.Vc Go.Proofs

/-- A list without the i-th of those that are counted from k on. -/
def eraseFrom {α : Type} (i k : Nat) (l : List α) : List α := if k ≤ i then l.eraseIdx (i - k) else l
theorem eraseFrom_zero {α : Type} (i : Nat) (l : List α) : eraseFrom i 0 l = l.eraseIdx i := by simp [eraseFrom]
theorem eraseFrom_nil {α : Type} (i k : Nat) : eraseFrom i k ([] : List α) = [] := by unfold eraseFrom; split <;> simp
theorem eraseFrom_eq {α : Type} {i k : Nat} (h : k = i) (x : α) (l : List α) : eraseFrom i k (x :: l) = eraseFrom i (k + 1) l := by
  unfold eraseFrom; rw [if_pos (by omega), if_neg (by omega), h]; simp
theorem eraseFrom_ne {α : Type} {i k : Nat} (h : ¬ k = i) (x : α) (l : List α) : eraseFrom i k (x :: l) = x :: eraseFrom i (k + 1) l := by
  unfold eraseFrom
  by_cases h1 : k ≤ i
  · rw [if_pos h1, if_pos (by omega)]
    obtain ⟨d, hd⟩ : ∃ d, i - k = d + 1 := ⟨i - k - 1, by omega⟩
    rw [hd, show i - (k + 1) = d by omega]; simp
  · rw [if_neg h1, if_neg (by omega)]

theorem refill_objs {j i : Nat} : ∀ (ns : List ByteArray) (ws : List Int) (k : Nat) (S : Sp) (hj : j < S.objs.length), ns.length = ws.length →
    ∃ sh, (refill S j i k ns ws).objs = S.objs.set j ⟨sh, S.objs[j].names ++ eraseFrom i k ns, S.objs[j].words ++ eraseFrom i k ws, S.objs[j].frozen⟩ := by
  intro ns
  induction ns with
  | nil =>
    intro ws k S hj h
    have : ws = [] := by cases ws with
      | nil => rfl
      | cons => simp at h
    subst this
    refine ⟨S.objs[j].shape, ?_⟩
    simp only [refill, eraseFrom_nil, List.append_nil]
    exact (List.set_getElem_self hj).symm
  | cons n ns ih =>
    intro ws k S hj h
    cases ws with
    | nil => simp at h
    | cons w ws =>
      simp only [List.length_cons, Nat.add_right_cancel_iff] at h
      unfold refill
      split
      · rename_i hk
        rw [eraseFrom_eq hk, eraseFrom_eq hk]
        exact ih ws (k + 1) S hj h
      · rename_i hk
        have e : S.objs.getD j ⟨0, [], [], false⟩ = S.objs[j] := by simp [hj]
        rw [e, eraseFrom_ne hk, eraseFrom_ne hk]
        have hj' : j < (addOf S j S.objs[j] n w).objs.length := by simpa [addOf] using hj
        obtain ⟨sh, hsh⟩ := ih ws (k + 1) _ hj' h
        refine ⟨sh, ?_⟩
        rw [hsh]
        simp [addOf, addOb]

/-- All names of objects are names, and stand once. -/
def Good (S : Sp) : Prop := ∀ o ∈ S.objs, o.names.Nodup ∧ ∀ n ∈ o.names, namedB n = true

theorem good_set {S : Sp} (h : Good S) {j : Nat} {o : Ob} (ho : o.names.Nodup ∧ ∀ n ∈ o.names, namedB n = true) (l : List Sh) : Good ⟨l, S.objs.set j o⟩ := by
  intro x hx
  rcases List.mem_or_eq_of_mem_set hx with hx | rfl
  · exact h x hx
  · exact ho

theorem good_push {S : Sp} (h : Good S) {o : Ob} (ho : o.names.Nodup ∧ ∀ n ∈ o.names, namedB n = true) (l : List Sh) : Good ⟨l, S.objs ++ [o]⟩ := by
  intro x hx
  simp only [List.mem_append, List.mem_singleton] at hx
  rcases hx with hx | rfl
  · exact h x hx
  · exact ho

theorem posIn_neg {n : ByteArray} {l : List ByteArray} (h : ¬ 0 ≤ posIn n l) : n ∉ l := by
  rcases posBy_cases (fun x => decide (x = n)) l with ⟨_, h2⟩ | ⟨i, hi, h1, _⟩
  · intro hm
    obtain ⟨i, hi, rfl⟩ := List.getElem_of_mem hm
    have := h2 i hi
    simp at this
  · simp only [posIn] at h; omega

theorem posIn_nonneg {n : ByteArray} {l : List ByteArray} (h : 0 ≤ posIn n l) : ∃ (i : Nat) (hi : i < l.length), posIn n l = i ∧ l[i] = n := by
  rcases posBy_cases (fun x => decide (x = n)) l with ⟨h1, _⟩ | ⟨i, hi, h1, h2, _⟩
  · simp only [posIn] at h; omega
  · exact ⟨i, hi, h1, by simpa using h2⟩

theorem posIn_mem {n : ByteArray} {l : List ByteArray} (h : n ∈ l) : 0 ≤ posIn n l := by
  rcases Int.lt_or_le (posIn n l) 0 with h1 | h1
  · exact absurd h (posIn_neg (by omega))
  · exact h1

theorem posIn_nodup {l : List ByteArray} (h : l.Nodup) {i : Nat} (hi : i < l.length) : posIn l[i] l = i := by
  refine posBy_at hi (by simp) fun j hj hj' => ?_
  simp only [decide_eq_false_iff_not]
  intro e
  have := (List.getElem_inj h).1 e
  omega

theorem ask_zero {S : Sp} {o : Int} {n : ByteArray} {c : Bool} (h : askOf S o n c = 0) : ∃ (j : Nat) (hj : j < S.objs.length), o = j ∧ namedB n = true ∧ (c = true → S.objs[j].frozen = false) := by
  unfold askOf at h
  split at h
  · simp at h
  rename_i hh
  split at h
  · simp at h
  rename_i hn
  obtain ⟨j, rfl, hj, _⟩ := hasB_true (by simpa using hh)
  refine ⟨j, hj, rfl, by simpa [namedB] using hn, fun hc => ?_⟩
  rw [obAt_eq hj] at h
  split at h
  · simp at h
  · rename_i hf
    simp only [hc, true_and] at hf
    simpa using hf

theorem setOf_good {S : Sp} (h : Good S) (o : Int) (n : ByteArray) (w : Int) : Good (setOf S o n w).1 := by
  unfold setOf
  split
  · exact h
  · rename_i ha
    obtain ⟨j, hj, rfl, hn, _⟩ := ask_zero (by simpa using ha)
    rw [obAt_eq hj]
    have ho := h _ (List.getElem_mem hj)
    split
    · exact good_set (o := { S.objs[j] with words := S.objs[j].words.set (posIn n S.objs[j].names).toNat w }) h ho _
    · rename_i hp
      refine good_set h (o := addOb S.shapes S.objs[j] n w) ?_ _
      simp only [addOb]
      refine ⟨List.nodup_append.2 ⟨ho.1, by simp, fun a hma b hb => ?_⟩, fun m hm => ?_⟩
      · simp only [List.mem_singleton] at hb
        subst hb
        intro e; subst e
        exact posIn_neg hp hma
      · simp only [List.mem_append, List.mem_singleton] at hm
        rcases hm with hm | rfl
        · exact ho.2 m hm
        · exact hn

/-- What Delete leaves. -/
theorem deleteOf_objs {S : Sp} {N : Nat} (hS : WF S N) {j : Nat} (hj : j < S.objs.length) {n : ByteArray} (ha : askOf S j n true = 0) (hp : 0 ≤ posIn n S.objs[j].names) :
    ∃ sh, (deleteOf S j n).1.objs = S.objs.set j ⟨sh, S.objs[j].names.eraseIdx (posIn n S.objs[j].names).toNat, S.objs[j].words.eraseIdx (posIn n S.objs[j].names).toNat, S.objs[j].frozen⟩ := by
  unfold deleteOf
  rw [if_neg (by simp [ha]), obAt_eq hj, if_neg (by omega)]
  have hwl := (hS.ob _ (List.getElem_mem hj)).1
  obtain ⟨sh, h⟩ := refill_objs (j := j) (i := (posIn n S.objs[j].names).toNat) S.objs[j].names S.objs[j].words 0 (setOb S j ⟨if S.objs[j].shape = -1 then -1 else 0, [], [], S.objs[j].frozen⟩) (by simpa [setOb] using hj) hwl.symm
  refine ⟨sh, ?_⟩
  simp only [Int.toNat_natCast]
  rw [h]
  simp [setOb, eraseFrom_zero]

theorem deleteOf_good {S : Sp} {N : Nat} (hS : WF S N) (h : Good S) (o : Int) (n : ByteArray) : Good (deleteOf S o n).1 := by
  by_cases ha : askOf S o n true = 0
  · obtain ⟨j, hj, rfl, hn, _⟩ := ask_zero ha
    have ho := h _ (List.getElem_mem hj)
    by_cases hp : 0 ≤ posIn n S.objs[j].names
    · obtain ⟨sh, e⟩ := deleteOf_objs hS hj ha hp
      intro x hx
      rw [e] at hx
      rcases List.mem_or_eq_of_mem_set hx with hx | rfl
      · exact h x hx
      · exact ⟨ho.1.sublist (List.eraseIdx_sublist ..), fun m hm => ho.2 m (List.mem_of_mem_eraseIdx hm)⟩
    · unfold deleteOf
      rw [if_neg (by simp [ha]), obAt_eq hj, if_pos (by omega)]
      exact h
  · unfold deleteOf
    rw [if_pos ha]
    exact h

theorem doOf_good {S : Sp} {N : Nat} (hS : WF S N) (h : Good S) (d : Deed) : Good (doOf S d).1 := by
  unfold doOf
  split
  · unfold makeOf
    split
    · exact h
    · split
      · exact h
      · exact good_push h ⟨by simp, by simp⟩ _
  split
  · exact setOf_good h _ _ _
  split
  · exact h
  split
  · exact deleteOf_good hS h _ _
  split
  · unfold freezeOf
    split
    · exact h
    · rename_i hh
      rcases hasB_split S d.obj with h1 | ⟨j, h1, hj⟩
      · exact absurd h1 hh
      · rw [h1, obAt_eq hj]
        exact good_set (o := { S.objs[j] with frozen := true }) h (h S.objs[j] (List.getElem_mem hj)) _
  split
  · unfold cloneOf
    split
    · exact h
    · rename_i hh
      rcases hasB_split S d.obj with h1 | ⟨j, h1, hj⟩
      · exact absurd h1 hh
      · split
        · exact h
        · rw [h1, obAt_eq hj]
          exact good_push (o := { S.objs[j] with frozen := false }) h (h S.objs[j] (List.getElem_mem hj)) _
  · exact h

theorem runOf_good : ∀ {S : Sp} {N : Nat} (l : List Deed), WF S N → 0 < S.shapes.length → Good S → Good (runOf S l)
  | _, _, [], _, _, h => h
  | _, _, d :: l, hS, hr, h => runOf_good l (doOf_wf hS hr (smallOf d)).1 (doOf_wf hS hr (smallOf d)).2 (doOf_good hS h (smallOf d))

theorem playedOf_good (l : List Deed) : Good (playedOf l) := runOf_good _ sp5_wf.1 sp5_wf.2 (by intro o ho; simp [sp5] at ho; subst ho; simp)

/-- Objects that a deed does not name stay as they are; none goes. -/
theorem doOf_other {S : Sp} {N : Nat} (hS : WF S N) (d : Deed) {c : Nat} (hc : c < S.objs.length) (hne : d.obj ≠ c) : (doOf S d).1.objs[c]? = S.objs[c]? := by
  unfold doOf
  split
  · unfold makeOf
    split
    · rfl
    · split
      · rfl
      · simp [List.getElem?_append_left hc]
  split
  · unfold setOf
    split
    · rfl
    · rename_i ha
      obtain ⟨j, hj, h1, _⟩ := ask_zero (by simpa using ha)
      rw [h1, obAt_eq hj]
      have : j ≠ c := fun e => hne (by rw [h1, e])
      split <;> simp [setOb, addOf, List.getElem?_set_ne this]
  split
  · rfl
  split
  · by_cases ha : askOf S d.obj d.name true = 0
    · obtain ⟨j, hj, h1, _⟩ := ask_zero ha
      have : j ≠ c := fun e => hne (by rw [h1, e])
      rw [h1] at ha ⊢
      by_cases hp : 0 ≤ posIn d.name S.objs[j].names
      · obtain ⟨sh, e⟩ := deleteOf_objs hS hj ha hp
        rw [e, List.getElem?_set_ne this]
      · unfold deleteOf
        rw [if_neg (by simp [ha]), obAt_eq hj, if_pos (by omega)]
    · unfold deleteOf
      rw [if_pos ha]
  split
  · unfold freezeOf
    split
    · rfl
    · rename_i hh
      rcases hasB_split S d.obj with h1 | ⟨j, h1, hj⟩
      · exact absurd h1 hh
      · have : j ≠ c := fun e => hne (by rw [h1, e])
        simp [setOb, h1, List.getElem?_set_ne this]
  split
  · unfold cloneOf
    split
    · rfl
    · split
      · rfl
      · simp [List.getElem?_append_left hc]
  · rfl
end Go.Proofs.Ythcndkpkkaphoaa

/- Plain laws for the statements: words that are set anew; parts of numbers. -/
namespace Go.Proofs.Ythcndkpkkaphoaa
set_option linter.all false
open Go.Vc Go.Proofs

theorem exists_part (x n : Int) (h0 : 0 < n) (h : n ≤ 1000000) : ∃ q, IntKind.i64.wrap ((IntKind.u64.wrap x).tmod n) = q ∧ 0 ≤ q ∧ q < n := by
  have h1 := partOf_nonneg x (n := n)
  have h2 := partOf_lt x h0
  exact ⟨partOf x n, IntWalk.i64_in _ (by simp only [partOf] at *; omega), h1, h2⟩

/-- An object with other words. -/
def withW (S : Sp) (j : Nat) (ws : List Int) : Sp := setOb S j { obAt S j with words := ws }

section
variable {S : Sp} {j : Nat} {ws : List Int}
theorem withW_self (hj : j < S.objs.length) : withW S j S.objs[j].words = S := by
  have : ({ S.objs[j] with words := S.objs[j].words } : Ob) = S.objs[j] := rfl
  simp only [withW, setOb, obAt_eq hj, Int.toNat_natCast, this, List.set_getElem_self]
theorem withW_objs : (withW S j ws).objs = S.objs.set j { obAt S j with words := ws } := by simp [withW, setOb]
theorem withW_shapes : (withW S j ws).shapes = S.shapes := rfl
theorem withW_len : (withW S j ws).objs.length = S.objs.length := by rw [withW_objs]; simp
theorem withW_at (hj : j < S.objs.length) : obAt (withW S j ws) j = { S.objs[j] with words := ws } := by
  rw [obAt_eq (by rw [withW_len]; exact hj)]
  simp only [withW_objs, List.getElem_set_self, obAt_eq hj]
theorem withW_has : hasB (withW S j ws) j = hasB S j := by simp only [hasB, withW_len, withW_shapes]
theorem withW_with {ws' : List Int} (hj : j < S.objs.length) : setOb (withW S j ws) j { S.objs[j] with words := ws' } = withW S j ws' := by
  simp only [setOb, withW_shapes, withW, obAt_eq hj, Int.toNat_natCast, List.set_set]
theorem withW_wf {N : Nat} (h : WF S N) (hj : j < S.objs.length) (hw : ws.length = S.objs[j].names.length) : WF (withW S j ws) N := by
  have ho := h.ob _ (List.getElem_mem hj)
  refine setOb_wf h ?_
  rw [obAt_eq hj]
  exact ⟨hw, ho.2.1, ho.2.2⟩
theorem withW_ask (hj : j < S.objs.length) (hb : hasB S j = true) {n : ByteArray} (hn : namedB n = true) (hf : S.objs[j].frozen = false) (c : Bool) : askOf (withW S j ws) j n c = 0 := by
  have hn' : ¬ (n = noName ∨ 40 < n.size) := by simpa [namedB] using hn
  simp only [askOf, withW_has, hb, withW_at hj, hf, if_neg hn']
  simp
theorem withW_set (hj : j < S.objs.length) (hb : hasB S j = true) {n : ByteArray} (hn : namedB n = true) (hm : n ∈ S.objs[j].names) (hf : S.objs[j].frozen = false) (w : Int) :
    setOf (withW S j ws) j n w = (withW S j (ws.set (posIn n S.objs[j].names).toNat w), 0) := by
  have hp := posIn_mem hm
  unfold setOf
  rw [withW_ask hj hb hn hf]
  simp only [ne_eq, not_true, if_false, withW_at hj, hp, if_true]
  rw [withW_with hj]
theorem withW_get (hj : j < S.objs.length) (hb : hasB S j = true) {n : ByteArray} (hn : namedB n = true) (hm : n ∈ S.objs[j].names) (hf : S.objs[j].frozen = false) (w : Int) (hw : ws.length = S.objs[j].names.length) :
    getOf (withW S j (ws.set (posIn n S.objs[j].names).toNat w)) j n = (w, 0) := by
  obtain ⟨i, hi, h1, _⟩ := posIn_nonneg (posIn_mem hm)
  unfold getOf
  rw [withW_ask hj hb hn hf]
  simp only [ne_eq, not_true, if_false, withW_at hj]
  rw [if_neg (by omega), h1]
  simp [show i < ws.length by omega]
theorem withW_shape (hj : j < S.objs.length) : shapeOf (withW S j ws) j = shapeOf S j := by
  simp only [shapeOf, withW_has, withW_at hj, obAt_eq hj]
end
end Go.Proofs.Ythcndkpkkaphoaa
