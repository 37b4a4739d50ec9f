/- The table of this program's types. -/
import Derived.Test.YtahgopdamgagkaaK3
import Derived.Test.YtahgopdamgagkaaProg
import Derived.KernelRfl
import Derived.IntWalk
namespace Go.Proofs.Ytahgopdamgagkaa
set_option linter.all false
open Go.Vc Go.Proofs

theorem all_some {l : List Field} (h : l.all (fun f => (Try.prog.info? f.type).isSome) = true) : ∀ f ∈ l, (Try.prog.info? f.type).isSome = true := List.all_eq_true.1 h


noncomputable def tab : Tab := fun t => match t with
  | 1 => { ld := some (false, 1), zero := some (.val (.nilFunc)) }
  | 2 => { ld := some (false, 1), zero := some (.val (.int .i64 0)), int := some .i64 }
  | 3 => { ld := some (false, 1), zero := some (.val (.int .i64 0)), int := some .i64 }
  | 4 => { ld := some (false, 1), zero := some (.val (.bool false)), bool := true }
  | 5 => { ld := some (false, 1), zero := some (.val (.int .u8 0)), int := some .u8 }
  | 6 => { ld := some (false, 1), zero := some (.val (.int .u8 0)), int := some .u8 }
  | 7 => { ld := some (true, 4), zero := some (.agg (.cons (.val (.int .i64 0)) (.cons (.val (.int .i64 0)) (.cons (.val (.bool false)) (.cons (.val (.int .u8 0)) .nil))))), st := some [(0, 1), (1, 1), (2, 1), (3, 1)] }
  | 8 => { ld := some (true, 4), zero := some (.agg (.cons (.val (.int .i64 0)) (.cons (.val (.int .i64 0)) (.cons (.val (.bool false)) (.cons (.val (.int .u8 0)) .nil))))), st := some [(0, 1), (1, 1), (2, 1), (3, 1)] }
  | 9 => { ld := some (false, 1), zero := some (.val (.string ⟨#[]⟩)), str := true }
  | 10 => { ld := some (false, 1), zero := some (.val (.string ⟨#[]⟩)), str := true }
  | 11 => { ld := some (false, 1), zero := some (.val (.string ⟨#[]⟩)), str := true }
  | 12 => { ld := some (false, 1), zero := some (.val (.int .u64 0)), int := some .u64 }
  | 13 => { ld := some (true, 2), zero := some (.agg (.cons (.val (.string ⟨#[]⟩)) (.cons (.val (.int .u64 0)) .nil))), st := some [(0, 1), (1, 1)] }
  | 14 => { ld := some (true, 2), zero := some (.agg (.cons (.val (.string ⟨#[]⟩)) (.cons (.val (.int .u64 0)) .nil))), st := some [(0, 1), (1, 1)] }
  | 15 => { ld := some (false, 1), zero := some (.val (.pointer none)), ptr := true }
  | 16 => { ld := some (false, 1), zero := some (.val (.pointer none)), ptr := true }
  | 17 => { ld := some (false, 1), zero := some (.val (.pointer none)), ptr := true }
  | 18 => { ld := some (true, 1), zero := some (.agg (.cons (.val (.pointer none)) .nil)), st := some [(0, 1)] }
  | 19 => { ld := some (true, 1), zero := some (.agg (.cons (.val (.pointer none)) .nil)), st := some [(0, 1)] }
  | 21 => { ld := some (false, 1), zero := some (.val (.int .i32 0)), int := some .i32 }
  | 22 => { sl := some (34, 3, 24, (.agg #[.int .i64 0, .int .i64 0, .int .i64 0])), ld := some (false, 1), zero := some (.sl true (.slice none 0 0) 3 .nil) }
  | 23 => { ld := some (false, 1), zero := some (.val (.pointer none)), ptr := true }
  | 24 => { ld := some (false, 1), zero := some (.val (.nilFunc)) }
  | 25 => { ld := some (false, 1), zero := some (.val (.nilFunc)) }
  | 26 => { sl := some (3, 1, 8, (.int .i64 0)), ld := some (false, 1), zero := some (.sl true (.slice none 0 0) 1 .nil) }
  | 27 => { ld := some (false, 1), zero := some (.val (.int .i64 0)), int := some .i64 }
  | 29 => { ld := some (false, 1), zero := some (.val (.nilFunc)) }
  | 30 => { ld := some (false, 1), zero := some (.val (.nilFunc)) }
  | 31 => { ld := some (false, 1), zero := some (.val (.nilFunc)) }
  | 32 => { ld := some (false, 1), zero := some (.val (.nilFunc)) }
  | 33 => { ld := some (true, 3), zero := some (.agg (.cons (.val (.int .i64 0)) (.cons (.val (.int .i64 0)) (.cons (.val (.int .i64 0)) .nil)))), st := some [(0, 1), (1, 1), (2, 1)] }
  | 34 => { ld := some (true, 3), zero := some (.agg (.cons (.val (.int .i64 0)) (.cons (.val (.int .i64 0)) (.cons (.val (.int .i64 0)) .nil)))), st := some [(0, 1), (1, 1), (2, 1)] }
  | 35 => { sl := some (26, 1, 24, (.slice none 0 0)), ld := some (false, 1), zero := some (.sl true (.slice none 0 0) 1 .nil) }
  | 37 => { ld := some (false, 1), zero := some (.val (.nilFunc)) }
  | 38 => { ld := some (false, 1), zero := some (.val (.nilFunc)) }
  | 39 => { ld := some (false, 1), zero := some (.val (.nilFunc)) }
  | 40 => { ld := some (false, 1), zero := some (.val (.int .u64 0)), int := some .u64 }
  | 41 => { ld := some (false, 1), zero := some (.val (.nilFunc)) }
  | 42 => { ld := some (false, 1), zero := some (.val (.nilFunc)) }
  | 43 => { ld := some (false, 1), zero := some (.val (.nilFunc)) }
  | 44 => { ld := some (false, 1), zero := some (.val (.nilFunc)) }
  | 45 => { ld := some (false, 1), zero := some (.val (.nilFunc)) }
  | 46 => { ld := some (false, 1), zero := some (.val (.nilFunc)) }
  | 47 => { ld := some (false, 1), zero := some (.val (.nilFunc)) }
  | 48 => { ld := some (false, 1), zero := some (.val (.nilFunc)) }
  | 50 => { ld := some (false, 1), zero := some (.val (.nilFunc)) }
  | 51 => { ld := some (false, 1), zero := some (.val (.nilFunc)) }
  | 52 => { sl := some (66, 6, 80, (.agg #[.int .i64 0, .int .i64 0, .int .i64 0, .int .i64 0, .slice none 0 0, .slice none 0 0])), ld := some (false, 1), zero := some (.sl true (.slice none 0 0) 6 .nil) }
  | 53 => { ld := some (true, 1), zero := some (.agg (.cons (.sl true (.slice none 0 0) 6 .nil) .nil)), st := some [(0, 1)] }
  | 54 => { ld := some (true, 1), zero := some (.agg (.cons (.sl true (.slice none 0 0) 6 .nil) .nil)), st := some [(0, 1)] }
  | 55 => { sl := some (23, 1, 8, (.pointer none)), ld := some (false, 1), zero := some (.sl true (.slice none 0 0) 1 .nil) }
  | 56 => { ld := some (false, 1), zero := some (.val (.nilFunc)) }
  | 57 => { ld := some (false, 1), zero := some (.val (.nilFunc)) }
  | 59 => { ld := some (false, 1), zero := some (.val (.nilFunc)) }
  | 60 => { ld := some (false, 1), zero := some (.val (.nilFunc)) }
  | 61 => { ld := some (false, 1), zero := some (.val (.nilFunc)) }
  | 62 => { ld := some (false, 1), zero := some (.val (.nilFunc)) }
  | 63 => { ld := some (false, 1), zero := some (.val (.pointer none)), ptr := true }
  | 64 => { ld := some (false, 1), zero := some (.val (.pointer none)), ptr := true }
  | 65 => { ld := some (true, 6), zero := some (.agg (.cons (.val (.int .i64 0)) (.cons (.val (.int .i64 0)) (.cons (.val (.int .i64 0)) (.cons (.val (.int .i64 0)) (.cons (.sl true (.slice none 0 0) 1 .nil) (.cons (.sl true (.slice none 0 0) 1 .nil) .nil))))))), st := some [(0, 1), (1, 1), (2, 1), (3, 1), (4, 1), (5, 1)] }
  | 66 => { ld := some (true, 6), zero := some (.agg (.cons (.val (.int .i64 0)) (.cons (.val (.int .i64 0)) (.cons (.val (.int .i64 0)) (.cons (.val (.int .i64 0)) (.cons (.sl true (.slice none 0 0) 1 .nil) (.cons (.sl true (.slice none 0 0) 1 .nil) .nil))))))), st := some [(0, 1), (1, 1), (2, 1), (3, 1), (4, 1), (5, 1)] }
  | 67 => { ld := some (false, 1), zero := some (.val (.nilFunc)) }
  | 68 => { ld := some (false, 1), zero := some (.val (.nilFunc)) }
  | 69 => { ld := some (false, 1), zero := some (.val (.nilFunc)) }
  | 70 => { ld := some (false, 1), zero := some (.val (.nilFunc)) }
  | 71 => { ld := some (false, 1), zero := some (.val (.nilFunc)) }
  | 72 => { ld := some (false, 1), zero := some (.val (.map none)), mp := some (26, some .i64) }
  | 73 => { ld := some (false, 1), zero := some (.val (.map none)), mp := some (26, some .i64) }
  | 74 => { ld := some (false, 1), zero := some (.val (.nilFunc)) }
  | 75 => { ld := some (false, 1), zero := some (.val (.nilFunc)) }
  | 76 => { ld := some (false, 1), zero := some (.val (.nilFunc)) }
  | 77 => { ld := some (false, 1), zero := some (.val (.nilFunc)) }
  | _ => {}

theorem tab_1 : tab 1 = { ld := some (false, 1), zero := some (.val (.nilFunc)) } := rfl
theorem tab_2 : tab 2 = { ld := some (false, 1), zero := some (.val (.int .i64 0)), int := some .i64 } := rfl
theorem tab_3 : tab 3 = { ld := some (false, 1), zero := some (.val (.int .i64 0)), int := some .i64 } := rfl
theorem tab_4 : tab 4 = { ld := some (false, 1), zero := some (.val (.bool false)), bool := true } := rfl
theorem tab_5 : tab 5 = { ld := some (false, 1), zero := some (.val (.int .u8 0)), int := some .u8 } := rfl
theorem tab_6 : tab 6 = { ld := some (false, 1), zero := some (.val (.int .u8 0)), int := some .u8 } := rfl
theorem tab_7 : tab 7 = { ld := some (true, 4), zero := some (.agg (.cons (.val (.int .i64 0)) (.cons (.val (.int .i64 0)) (.cons (.val (.bool false)) (.cons (.val (.int .u8 0)) .nil))))), st := some [(0, 1), (1, 1), (2, 1), (3, 1)] } := rfl
theorem tab_8 : tab 8 = { ld := some (true, 4), zero := some (.agg (.cons (.val (.int .i64 0)) (.cons (.val (.int .i64 0)) (.cons (.val (.bool false)) (.cons (.val (.int .u8 0)) .nil))))), st := some [(0, 1), (1, 1), (2, 1), (3, 1)] } := rfl
theorem tab_9 : tab 9 = { ld := some (false, 1), zero := some (.val (.string ⟨#[]⟩)), str := true } := rfl
theorem tab_10 : tab 10 = { ld := some (false, 1), zero := some (.val (.string ⟨#[]⟩)), str := true } := rfl
theorem tab_11 : tab 11 = { ld := some (false, 1), zero := some (.val (.string ⟨#[]⟩)), str := true } := rfl
theorem tab_12 : tab 12 = { ld := some (false, 1), zero := some (.val (.int .u64 0)), int := some .u64 } := rfl
theorem tab_13 : tab 13 = { ld := some (true, 2), zero := some (.agg (.cons (.val (.string ⟨#[]⟩)) (.cons (.val (.int .u64 0)) .nil))), st := some [(0, 1), (1, 1)] } := rfl
theorem tab_14 : tab 14 = { ld := some (true, 2), zero := some (.agg (.cons (.val (.string ⟨#[]⟩)) (.cons (.val (.int .u64 0)) .nil))), st := some [(0, 1), (1, 1)] } := rfl
theorem tab_15 : tab 15 = { ld := some (false, 1), zero := some (.val (.pointer none)), ptr := true } := rfl
theorem tab_16 : tab 16 = { ld := some (false, 1), zero := some (.val (.pointer none)), ptr := true } := rfl
theorem tab_17 : tab 17 = { ld := some (false, 1), zero := some (.val (.pointer none)), ptr := true } := rfl
theorem tab_18 : tab 18 = { ld := some (true, 1), zero := some (.agg (.cons (.val (.pointer none)) .nil)), st := some [(0, 1)] } := rfl
theorem tab_19 : tab 19 = { ld := some (true, 1), zero := some (.agg (.cons (.val (.pointer none)) .nil)), st := some [(0, 1)] } := rfl
theorem tab_21 : tab 21 = { ld := some (false, 1), zero := some (.val (.int .i32 0)), int := some .i32 } := rfl
theorem tab_22 : tab 22 = { sl := some (34, 3, 24, (.agg #[.int .i64 0, .int .i64 0, .int .i64 0])), ld := some (false, 1), zero := some (.sl true (.slice none 0 0) 3 .nil) } := rfl
theorem tab_23 : tab 23 = { ld := some (false, 1), zero := some (.val (.pointer none)), ptr := true } := rfl
theorem tab_24 : tab 24 = { ld := some (false, 1), zero := some (.val (.nilFunc)) } := rfl
theorem tab_25 : tab 25 = { ld := some (false, 1), zero := some (.val (.nilFunc)) } := rfl
theorem tab_26 : tab 26 = { sl := some (3, 1, 8, (.int .i64 0)), ld := some (false, 1), zero := some (.sl true (.slice none 0 0) 1 .nil) } := rfl
theorem tab_27 : tab 27 = { ld := some (false, 1), zero := some (.val (.int .i64 0)), int := some .i64 } := rfl
theorem tab_29 : tab 29 = { ld := some (false, 1), zero := some (.val (.nilFunc)) } := rfl
theorem tab_30 : tab 30 = { ld := some (false, 1), zero := some (.val (.nilFunc)) } := rfl
theorem tab_31 : tab 31 = { ld := some (false, 1), zero := some (.val (.nilFunc)) } := rfl
theorem tab_32 : tab 32 = { ld := some (false, 1), zero := some (.val (.nilFunc)) } := rfl
theorem tab_33 : tab 33 = { ld := some (true, 3), zero := some (.agg (.cons (.val (.int .i64 0)) (.cons (.val (.int .i64 0)) (.cons (.val (.int .i64 0)) .nil)))), st := some [(0, 1), (1, 1), (2, 1)] } := rfl
theorem tab_34 : tab 34 = { ld := some (true, 3), zero := some (.agg (.cons (.val (.int .i64 0)) (.cons (.val (.int .i64 0)) (.cons (.val (.int .i64 0)) .nil)))), st := some [(0, 1), (1, 1), (2, 1)] } := rfl
theorem tab_35 : tab 35 = { sl := some (26, 1, 24, (.slice none 0 0)), ld := some (false, 1), zero := some (.sl true (.slice none 0 0) 1 .nil) } := rfl
theorem tab_37 : tab 37 = { ld := some (false, 1), zero := some (.val (.nilFunc)) } := rfl
theorem tab_38 : tab 38 = { ld := some (false, 1), zero := some (.val (.nilFunc)) } := rfl
theorem tab_39 : tab 39 = { ld := some (false, 1), zero := some (.val (.nilFunc)) } := rfl
theorem tab_40 : tab 40 = { ld := some (false, 1), zero := some (.val (.int .u64 0)), int := some .u64 } := rfl
theorem tab_41 : tab 41 = { ld := some (false, 1), zero := some (.val (.nilFunc)) } := rfl
theorem tab_42 : tab 42 = { ld := some (false, 1), zero := some (.val (.nilFunc)) } := rfl
theorem tab_43 : tab 43 = { ld := some (false, 1), zero := some (.val (.nilFunc)) } := rfl
theorem tab_44 : tab 44 = { ld := some (false, 1), zero := some (.val (.nilFunc)) } := rfl
theorem tab_45 : tab 45 = { ld := some (false, 1), zero := some (.val (.nilFunc)) } := rfl
theorem tab_46 : tab 46 = { ld := some (false, 1), zero := some (.val (.nilFunc)) } := rfl
theorem tab_47 : tab 47 = { ld := some (false, 1), zero := some (.val (.nilFunc)) } := rfl
theorem tab_48 : tab 48 = { ld := some (false, 1), zero := some (.val (.nilFunc)) } := rfl
theorem tab_50 : tab 50 = { ld := some (false, 1), zero := some (.val (.nilFunc)) } := rfl
theorem tab_51 : tab 51 = { ld := some (false, 1), zero := some (.val (.nilFunc)) } := rfl
theorem tab_52 : tab 52 = { sl := some (66, 6, 80, (.agg #[.int .i64 0, .int .i64 0, .int .i64 0, .int .i64 0, .slice none 0 0, .slice none 0 0])), ld := some (false, 1), zero := some (.sl true (.slice none 0 0) 6 .nil) } := rfl
theorem tab_53 : tab 53 = { ld := some (true, 1), zero := some (.agg (.cons (.sl true (.slice none 0 0) 6 .nil) .nil)), st := some [(0, 1)] } := rfl
theorem tab_54 : tab 54 = { ld := some (true, 1), zero := some (.agg (.cons (.sl true (.slice none 0 0) 6 .nil) .nil)), st := some [(0, 1)] } := rfl
theorem tab_55 : tab 55 = { sl := some (23, 1, 8, (.pointer none)), ld := some (false, 1), zero := some (.sl true (.slice none 0 0) 1 .nil) } := rfl
theorem tab_56 : tab 56 = { ld := some (false, 1), zero := some (.val (.nilFunc)) } := rfl
theorem tab_57 : tab 57 = { ld := some (false, 1), zero := some (.val (.nilFunc)) } := rfl
theorem tab_59 : tab 59 = { ld := some (false, 1), zero := some (.val (.nilFunc)) } := rfl
theorem tab_60 : tab 60 = { ld := some (false, 1), zero := some (.val (.nilFunc)) } := rfl
theorem tab_61 : tab 61 = { ld := some (false, 1), zero := some (.val (.nilFunc)) } := rfl
theorem tab_62 : tab 62 = { ld := some (false, 1), zero := some (.val (.nilFunc)) } := rfl
theorem tab_63 : tab 63 = { ld := some (false, 1), zero := some (.val (.pointer none)), ptr := true } := rfl
theorem tab_64 : tab 64 = { ld := some (false, 1), zero := some (.val (.pointer none)), ptr := true } := rfl
theorem tab_65 : tab 65 = { ld := some (true, 6), zero := some (.agg (.cons (.val (.int .i64 0)) (.cons (.val (.int .i64 0)) (.cons (.val (.int .i64 0)) (.cons (.val (.int .i64 0)) (.cons (.sl true (.slice none 0 0) 1 .nil) (.cons (.sl true (.slice none 0 0) 1 .nil) .nil))))))), st := some [(0, 1), (1, 1), (2, 1), (3, 1), (4, 1), (5, 1)] } := rfl
theorem tab_66 : tab 66 = { ld := some (true, 6), zero := some (.agg (.cons (.val (.int .i64 0)) (.cons (.val (.int .i64 0)) (.cons (.val (.int .i64 0)) (.cons (.val (.int .i64 0)) (.cons (.sl true (.slice none 0 0) 1 .nil) (.cons (.sl true (.slice none 0 0) 1 .nil) .nil))))))), st := some [(0, 1), (1, 1), (2, 1), (3, 1), (4, 1), (5, 1)] } := rfl
theorem tab_67 : tab 67 = { ld := some (false, 1), zero := some (.val (.nilFunc)) } := rfl
theorem tab_68 : tab 68 = { ld := some (false, 1), zero := some (.val (.nilFunc)) } := rfl
theorem tab_69 : tab 69 = { ld := some (false, 1), zero := some (.val (.nilFunc)) } := rfl
theorem tab_70 : tab 70 = { ld := some (false, 1), zero := some (.val (.nilFunc)) } := rfl
theorem tab_71 : tab 71 = { ld := some (false, 1), zero := some (.val (.nilFunc)) } := rfl
theorem tab_72 : tab 72 = { ld := some (false, 1), zero := some (.val (.map none)), mp := some (26, some .i64) } := rfl
theorem tab_73 : tab 73 = { ld := some (false, 1), zero := some (.val (.map none)), mp := some (26, some .i64) } := rfl
theorem tab_74 : tab 74 = { ld := some (false, 1), zero := some (.val (.nilFunc)) } := rfl
theorem tab_75 : tab 75 = { ld := some (false, 1), zero := some (.val (.nilFunc)) } := rfl
theorem tab_76 : tab 76 = { ld := some (false, 1), zero := some (.val (.nilFunc)) } := rfl
theorem tab_77 : tab 77 = { ld := some (false, 1), zero := some (.val (.nilFunc)) } := rfl
set_option linter.defProp false
def tabd_1 := @tab_1
def tabd_2 := @tab_2
def tabd_3 := @tab_3
def tabd_4 := @tab_4
def tabd_5 := @tab_5
def tabd_6 := @tab_6
def tabd_7 := @tab_7
def tabd_8 := @tab_8
def tabd_9 := @tab_9
def tabd_10 := @tab_10
def tabd_11 := @tab_11
def tabd_12 := @tab_12
def tabd_13 := @tab_13
def tabd_14 := @tab_14
def tabd_15 := @tab_15
def tabd_16 := @tab_16
def tabd_17 := @tab_17
def tabd_18 := @tab_18
def tabd_19 := @tab_19
def tabd_21 := @tab_21
def tabd_22 := @tab_22
def tabd_23 := @tab_23
def tabd_24 := @tab_24
def tabd_25 := @tab_25
def tabd_26 := @tab_26
def tabd_27 := @tab_27
def tabd_29 := @tab_29
def tabd_30 := @tab_30
def tabd_31 := @tab_31
def tabd_32 := @tab_32
def tabd_33 := @tab_33
def tabd_34 := @tab_34
def tabd_35 := @tab_35
def tabd_37 := @tab_37
def tabd_38 := @tab_38
def tabd_39 := @tab_39
def tabd_40 := @tab_40
def tabd_41 := @tab_41
def tabd_42 := @tab_42
def tabd_43 := @tab_43
def tabd_44 := @tab_44
def tabd_45 := @tab_45
def tabd_46 := @tab_46
def tabd_47 := @tab_47
def tabd_48 := @tab_48
def tabd_50 := @tab_50
def tabd_51 := @tab_51
def tabd_52 := @tab_52
def tabd_53 := @tab_53
def tabd_54 := @tab_54
def tabd_55 := @tab_55
def tabd_56 := @tab_56
def tabd_57 := @tab_57
def tabd_59 := @tab_59
def tabd_60 := @tab_60
def tabd_61 := @tab_61
def tabd_62 := @tab_62
def tabd_63 := @tab_63
def tabd_64 := @tab_64
def tabd_65 := @tab_65
def tabd_66 := @tab_66
def tabd_67 := @tab_67
def tabd_68 := @tab_68
def tabd_69 := @tab_69
def tabd_70 := @tab_70
def tabd_71 := @tab_71
def tabd_72 := @tab_72
def tabd_73 := @tab_73
def tabd_74 := @tab_74
def tabd_75 := @tab_75
def tabd_76 := @tab_76
def tabd_77 := @tab_77
attribute [simp] tabd_1 tabd_2 tabd_3 tabd_4 tabd_5 tabd_6 tabd_7 tabd_8 tabd_9 tabd_10 tabd_11 tabd_12 tabd_13 tabd_14 tabd_15 tabd_16 tabd_17 tabd_18 tabd_19 tabd_21 tabd_22 tabd_23 tabd_24 tabd_25 tabd_26 tabd_27 tabd_29 tabd_30 tabd_31 tabd_32 tabd_33 tabd_34 tabd_35 tabd_37 tabd_38 tabd_39 tabd_40 tabd_41 tabd_42 tabd_43 tabd_44 tabd_45 tabd_46 tabd_47 tabd_48 tabd_50 tabd_51 tabd_52 tabd_53 tabd_54 tabd_55 tabd_56 tabd_57 tabd_59 tabd_60 tabd_61 tabd_62 tabd_63 tabd_64 tabd_65 tabd_66 tabd_67 tabd_68 tabd_69 tabd_70 tabd_71 tabd_72 tabd_73 tabd_74 tabd_75 tabd_76 tabd_77

theorem tabOk_1 : (tab 1).Ok Try.prog 1 where
  sl := by intro e z b v h; cases h
  ld := by intro b n h; cases h; exact ⟨by kernel_rfl, by kernel_rfl, Try.t1, by kernel_rfl, by kernel_rfl⟩
  zero := by intro g h; cases h; exact ⟨by kernel_rfl, Try.t1, (.nilFunc), by kernel_rfl, by kernel_rfl, by kernel_rfl⟩
  zone := by intro g h; cases h; exact ⟨Try.t1, (.nilFunc), by kernel_rfl, by kernel_rfl, by kernel_rfl⟩
  st := by intro l h; cases h
  ar := by intro n z h; cases h
  int := by intro k h; cases h
  ptr := by intro h; cases h
  str := by intro h; cases h
  bool := by intro h; cases h
  mp := by intro e k h; cases h
theorem tabOk_2 : (tab 2).Ok Try.prog 2 where
  sl := by intro e z b v h; cases h
  ld := by intro b n h; cases h; exact ⟨by kernel_rfl, by kernel_rfl, Try.t2, by kernel_rfl, by kernel_rfl⟩
  zero := by intro g h; cases h; exact ⟨by kernel_rfl, Try.t2, (.int .i64 0), by kernel_rfl, by kernel_rfl, by kernel_rfl⟩
  zone := by intro g h; cases h; exact ⟨Try.t2, (.int .i64 0), by kernel_rfl, by kernel_rfl, by kernel_rfl⟩
  st := by intro l h; cases h
  ar := by intro n z h; cases h
  int := by intro k h; cases h; kernel_rfl
  ptr := by intro h; cases h
  str := by intro h; cases h
  bool := by intro h; cases h
  mp := by intro e k h; cases h
theorem tabOk_3 : (tab 3).Ok Try.prog 3 where
  sl := by intro e z b v h; cases h
  ld := by intro b n h; cases h; exact ⟨by kernel_rfl, by kernel_rfl, Try.t3, by kernel_rfl, by kernel_rfl⟩
  zero := by intro g h; cases h; exact ⟨by kernel_rfl, Try.t3, (.int .i64 0), by kernel_rfl, by kernel_rfl, by kernel_rfl⟩
  zone := by intro g h; cases h; exact ⟨Try.t3, (.int .i64 0), by kernel_rfl, by kernel_rfl, by kernel_rfl⟩
  st := by intro l h; cases h
  ar := by intro n z h; cases h
  int := by intro k h; cases h; kernel_rfl
  ptr := by intro h; cases h
  str := by intro h; cases h
  bool := by intro h; cases h
  mp := by intro e k h; cases h
theorem tabOk_4 : (tab 4).Ok Try.prog 4 where
  sl := by intro e z b v h; cases h
  ld := by intro b n h; cases h; exact ⟨by kernel_rfl, by kernel_rfl, Try.t4, by kernel_rfl, by kernel_rfl⟩
  zero := by intro g h; cases h; exact ⟨by kernel_rfl, Try.t4, (.bool false), by kernel_rfl, by kernel_rfl, by kernel_rfl⟩
  zone := by intro g h; cases h; exact ⟨Try.t4, (.bool false), by kernel_rfl, by kernel_rfl, by kernel_rfl⟩
  st := by intro l h; cases h
  ar := by intro n z h; cases h
  int := by intro k h; cases h
  ptr := by intro h; cases h
  str := by intro h; cases h
  bool := by intro _; kernel_rfl
  mp := by intro e k h; cases h
theorem tabOk_5 : (tab 5).Ok Try.prog 5 where
  sl := by intro e z b v h; cases h
  ld := by intro b n h; cases h; exact ⟨by kernel_rfl, by kernel_rfl, Try.t5, by kernel_rfl, by kernel_rfl⟩
  zero := by intro g h; cases h; exact ⟨by kernel_rfl, Try.t5, (.int .u8 0), by kernel_rfl, by kernel_rfl, by kernel_rfl⟩
  zone := by intro g h; cases h; exact ⟨Try.t5, (.int .u8 0), by kernel_rfl, by kernel_rfl, by kernel_rfl⟩
  st := by intro l h; cases h
  ar := by intro n z h; cases h
  int := by intro k h; cases h; kernel_rfl
  ptr := by intro h; cases h
  str := by intro h; cases h
  bool := by intro h; cases h
  mp := by intro e k h; cases h
theorem tabOk_6 : (tab 6).Ok Try.prog 6 where
  sl := by intro e z b v h; cases h
  ld := by intro b n h; cases h; exact ⟨by kernel_rfl, by kernel_rfl, Try.t6, by kernel_rfl, by kernel_rfl⟩
  zero := by intro g h; cases h; exact ⟨by kernel_rfl, Try.t6, (.int .u8 0), by kernel_rfl, by kernel_rfl, by kernel_rfl⟩
  zone := by intro g h; cases h; exact ⟨Try.t6, (.int .u8 0), by kernel_rfl, by kernel_rfl, by kernel_rfl⟩
  st := by intro l h; cases h
  ar := by intro n z h; cases h
  int := by intro k h; cases h; kernel_rfl
  ptr := by intro h; cases h
  str := by intro h; cases h
  bool := by intro h; cases h
  mp := by intro e k h; cases h
theorem tabOk_7 : (tab 7).Ok Try.prog 7 where
  sl := by intro e z b v h; cases h
  ld := by intro b n h; cases h; exact ⟨by kernel_rfl, by kernel_rfl, Try.t7, by kernel_rfl, by kernel_rfl⟩
  zero := by intro g h; cases h; exact ⟨by kernel_rfl, Try.t7, (.agg #[.int .i64 0, .int .i64 0, .bool false, .int .u8 0]), by kernel_rfl, by kernel_rfl, by kernel_rfl⟩
  zone := by intro g h; cases h; exact ⟨Try.t7, (.agg #[.int .i64 0, .int .i64 0, .bool false, .int .u8 0]), by kernel_rfl, by kernel_rfl, by kernel_rfl⟩
  st := by intro l h; cases h; exact ⟨_, Try.underlying7, by kernel_rfl, (by exact all_some (by kernel_rfl)), by kernel_rfl⟩
  ar := by intro n z h; cases h
  int := by intro k h; cases h
  ptr := by intro h; cases h
  str := by intro h; cases h
  bool := by intro h; cases h
  mp := by intro e k h; cases h
theorem tabOk_8 : (tab 8).Ok Try.prog 8 where
  sl := by intro e z b v h; cases h
  ld := by intro b n h; cases h; exact ⟨by kernel_rfl, by kernel_rfl, Try.t8, by kernel_rfl, by kernel_rfl⟩
  zero := by intro g h; cases h; exact ⟨by kernel_rfl, Try.t8, (.agg #[.int .i64 0, .int .i64 0, .bool false, .int .u8 0]), by kernel_rfl, by kernel_rfl, by kernel_rfl⟩
  zone := by intro g h; cases h; exact ⟨Try.t8, (.agg #[.int .i64 0, .int .i64 0, .bool false, .int .u8 0]), by kernel_rfl, by kernel_rfl, by kernel_rfl⟩
  st := by intro l h; cases h; exact ⟨_, Try.underlying8, by kernel_rfl, (by exact all_some (by kernel_rfl)), by kernel_rfl⟩
  ar := by intro n z h; cases h
  int := by intro k h; cases h
  ptr := by intro h; cases h
  str := by intro h; cases h
  bool := by intro h; cases h
  mp := by intro e k h; cases h
theorem tabOk_9 : (tab 9).Ok Try.prog 9 where
  sl := by intro e z b v h; cases h
  ld := by intro b n h; cases h; exact ⟨by kernel_rfl, by kernel_rfl, Try.t9, by kernel_rfl, by kernel_rfl⟩
  zero := by intro g h; cases h; exact ⟨by kernel_rfl, Try.t9, (.string ⟨#[]⟩), by kernel_rfl, by kernel_rfl, by kernel_rfl⟩
  zone := by intro g h; cases h; exact ⟨Try.t9, (.string ⟨#[]⟩), by kernel_rfl, by kernel_rfl, by kernel_rfl⟩
  st := by intro l h; cases h
  ar := by intro n z h; cases h
  int := by intro k h; cases h
  ptr := by intro h; cases h
  str := by intro _; kernel_rfl
  bool := by intro h; cases h
  mp := by intro e k h; cases h
theorem tabOk_10 : (tab 10).Ok Try.prog 10 where
  sl := by intro e z b v h; cases h
  ld := by intro b n h; cases h; exact ⟨by kernel_rfl, by kernel_rfl, Try.t10, by kernel_rfl, by kernel_rfl⟩
  zero := by intro g h; cases h; exact ⟨by kernel_rfl, Try.t10, (.string ⟨#[]⟩), by kernel_rfl, by kernel_rfl, by kernel_rfl⟩
  zone := by intro g h; cases h; exact ⟨Try.t10, (.string ⟨#[]⟩), by kernel_rfl, by kernel_rfl, by kernel_rfl⟩
  st := by intro l h; cases h
  ar := by intro n z h; cases h
  int := by intro k h; cases h
  ptr := by intro h; cases h
  str := by intro _; kernel_rfl
  bool := by intro h; cases h
  mp := by intro e k h; cases h
theorem tabOk_11 : (tab 11).Ok Try.prog 11 where
  sl := by intro e z b v h; cases h
  ld := by intro b n h; cases h; exact ⟨by kernel_rfl, by kernel_rfl, Try.t11, by kernel_rfl, by kernel_rfl⟩
  zero := by intro g h; cases h; exact ⟨by kernel_rfl, Try.t11, (.string ⟨#[]⟩), by kernel_rfl, by kernel_rfl, by kernel_rfl⟩
  zone := by intro g h; cases h; exact ⟨Try.t11, (.string ⟨#[]⟩), by kernel_rfl, by kernel_rfl, by kernel_rfl⟩
  st := by intro l h; cases h
  ar := by intro n z h; cases h
  int := by intro k h; cases h
  ptr := by intro h; cases h
  str := by intro _; kernel_rfl
  bool := by intro h; cases h
  mp := by intro e k h; cases h
theorem tabOk_12 : (tab 12).Ok Try.prog 12 where
  sl := by intro e z b v h; cases h
  ld := by intro b n h; cases h; exact ⟨by kernel_rfl, by kernel_rfl, Try.t12, by kernel_rfl, by kernel_rfl⟩
  zero := by intro g h; cases h; exact ⟨by kernel_rfl, Try.t12, (.int .u64 0), by kernel_rfl, by kernel_rfl, by kernel_rfl⟩
  zone := by intro g h; cases h; exact ⟨Try.t12, (.int .u64 0), by kernel_rfl, by kernel_rfl, by kernel_rfl⟩
  st := by intro l h; cases h
  ar := by intro n z h; cases h
  int := by intro k h; cases h; kernel_rfl
  ptr := by intro h; cases h
  str := by intro h; cases h
  bool := by intro h; cases h
  mp := by intro e k h; cases h
theorem tabOk_13 : (tab 13).Ok Try.prog 13 where
  sl := by intro e z b v h; cases h
  ld := by intro b n h; cases h; exact ⟨by kernel_rfl, by kernel_rfl, Try.t13, by kernel_rfl, by kernel_rfl⟩
  zero := by intro g h; cases h; exact ⟨by kernel_rfl, Try.t13, (.agg #[.string ⟨#[]⟩, .int .u64 0]), by kernel_rfl, by kernel_rfl, by kernel_rfl⟩
  zone := by intro g h; cases h; exact ⟨Try.t13, (.agg #[.string ⟨#[]⟩, .int .u64 0]), by kernel_rfl, by kernel_rfl, by kernel_rfl⟩
  st := by intro l h; cases h; exact ⟨_, Try.underlying13, by kernel_rfl, (by exact all_some (by kernel_rfl)), by kernel_rfl⟩
  ar := by intro n z h; cases h
  int := by intro k h; cases h
  ptr := by intro h; cases h
  str := by intro h; cases h
  bool := by intro h; cases h
  mp := by intro e k h; cases h
theorem tabOk_14 : (tab 14).Ok Try.prog 14 where
  sl := by intro e z b v h; cases h
  ld := by intro b n h; cases h; exact ⟨by kernel_rfl, by kernel_rfl, Try.t14, by kernel_rfl, by kernel_rfl⟩
  zero := by intro g h; cases h; exact ⟨by kernel_rfl, Try.t14, (.agg #[.string ⟨#[]⟩, .int .u64 0]), by kernel_rfl, by kernel_rfl, by kernel_rfl⟩
  zone := by intro g h; cases h; exact ⟨Try.t14, (.agg #[.string ⟨#[]⟩, .int .u64 0]), by kernel_rfl, by kernel_rfl, by kernel_rfl⟩
  st := by intro l h; cases h; exact ⟨_, Try.underlying14, by kernel_rfl, (by exact all_some (by kernel_rfl)), by kernel_rfl⟩
  ar := by intro n z h; cases h
  int := by intro k h; cases h
  ptr := by intro h; cases h
  str := by intro h; cases h
  bool := by intro h; cases h
  mp := by intro e k h; cases h
theorem tabOk_15 : (tab 15).Ok Try.prog 15 where
  sl := by intro e z b v h; cases h
  ld := by intro b n h; cases h; exact ⟨by kernel_rfl, by kernel_rfl, Try.t15, by kernel_rfl, by kernel_rfl⟩
  zero := by intro g h; cases h; exact ⟨by kernel_rfl, Try.t15, (.pointer none), by kernel_rfl, by kernel_rfl, by kernel_rfl⟩
  zone := by intro g h; cases h; exact ⟨Try.t15, (.pointer none), by kernel_rfl, by kernel_rfl, by kernel_rfl⟩
  st := by intro l h; cases h
  ar := by intro n z h; cases h
  int := by intro k h; cases h
  ptr := by intro _; exact ⟨91, by kernel_rfl⟩
  str := by intro h; cases h
  bool := by intro h; cases h
  mp := by intro e k h; cases h
theorem tabOk_16 : (tab 16).Ok Try.prog 16 where
  sl := by intro e z b v h; cases h
  ld := by intro b n h; cases h; exact ⟨by kernel_rfl, by kernel_rfl, Try.t16, by kernel_rfl, by kernel_rfl⟩
  zero := by intro g h; cases h; exact ⟨by kernel_rfl, Try.t16, (.pointer none), by kernel_rfl, by kernel_rfl, by kernel_rfl⟩
  zone := by intro g h; cases h; exact ⟨Try.t16, (.pointer none), by kernel_rfl, by kernel_rfl, by kernel_rfl⟩
  st := by intro l h; cases h
  ar := by intro n z h; cases h
  int := by intro k h; cases h
  ptr := by intro _; exact ⟨94, by kernel_rfl⟩
  str := by intro h; cases h
  bool := by intro h; cases h
  mp := by intro e k h; cases h
theorem tabOk_17 : (tab 17).Ok Try.prog 17 where
  sl := by intro e z b v h; cases h
  ld := by intro b n h; cases h; exact ⟨by kernel_rfl, by kernel_rfl, Try.t17, by kernel_rfl, by kernel_rfl⟩
  zero := by intro g h; cases h; exact ⟨by kernel_rfl, Try.t17, (.pointer none), by kernel_rfl, by kernel_rfl, by kernel_rfl⟩
  zone := by intro g h; cases h; exact ⟨Try.t17, (.pointer none), by kernel_rfl, by kernel_rfl, by kernel_rfl⟩
  st := by intro l h; cases h
  ar := by intro n z h; cases h
  int := by intro k h; cases h
  ptr := by intro _; exact ⟨103, by kernel_rfl⟩
  str := by intro h; cases h
  bool := by intro h; cases h
  mp := by intro e k h; cases h
theorem tabOk_18 : (tab 18).Ok Try.prog 18 where
  sl := by intro e z b v h; cases h
  ld := by intro b n h; cases h; exact ⟨by kernel_rfl, by kernel_rfl, Try.t18, by kernel_rfl, by kernel_rfl⟩
  zero := by intro g h; cases h; exact ⟨by kernel_rfl, Try.t18, (.agg #[.pointer none]), by kernel_rfl, by kernel_rfl, by kernel_rfl⟩
  zone := by intro g h; cases h; exact ⟨Try.t18, (.agg #[.pointer none]), by kernel_rfl, by kernel_rfl, by kernel_rfl⟩
  st := by intro l h; cases h; exact ⟨_, Try.underlying18, by kernel_rfl, (by exact all_some (by kernel_rfl)), by kernel_rfl⟩
  ar := by intro n z h; cases h
  int := by intro k h; cases h
  ptr := by intro h; cases h
  str := by intro h; cases h
  bool := by intro h; cases h
  mp := by intro e k h; cases h
theorem tabOk_19 : (tab 19).Ok Try.prog 19 where
  sl := by intro e z b v h; cases h
  ld := by intro b n h; cases h; exact ⟨by kernel_rfl, by kernel_rfl, Try.t19, by kernel_rfl, by kernel_rfl⟩
  zero := by intro g h; cases h; exact ⟨by kernel_rfl, Try.t19, (.agg #[.pointer none]), by kernel_rfl, by kernel_rfl, by kernel_rfl⟩
  zone := by intro g h; cases h; exact ⟨Try.t19, (.agg #[.pointer none]), by kernel_rfl, by kernel_rfl, by kernel_rfl⟩
  st := by intro l h; cases h; exact ⟨_, Try.underlying19, by kernel_rfl, (by exact all_some (by kernel_rfl)), by kernel_rfl⟩
  ar := by intro n z h; cases h
  int := by intro k h; cases h
  ptr := by intro h; cases h
  str := by intro h; cases h
  bool := by intro h; cases h
  mp := by intro e k h; cases h
theorem tabOk_21 : (tab 21).Ok Try.prog 21 where
  sl := by intro e z b v h; cases h
  ld := by intro b n h; cases h; exact ⟨by kernel_rfl, by kernel_rfl, Try.t21, by kernel_rfl, by kernel_rfl⟩
  zero := by intro g h; cases h; exact ⟨by kernel_rfl, Try.t21, (.int .i32 0), by kernel_rfl, by kernel_rfl, by kernel_rfl⟩
  zone := by intro g h; cases h; exact ⟨Try.t21, (.int .i32 0), by kernel_rfl, by kernel_rfl, by kernel_rfl⟩
  st := by intro l h; cases h
  ar := by intro n z h; cases h
  int := by intro k h; cases h; kernel_rfl
  ptr := by intro h; cases h
  str := by intro h; cases h
  bool := by intro h; cases h
  mp := by intro e k h; cases h
theorem tabOk_22 : (tab 22).Ok Try.prog 22 where
  sl := by intro e z b v h; cases h; exact ⟨by kernel_rfl, Try.t34, by kernel_rfl, by kernel_rfl, by kernel_rfl, by kernel_rfl, by kernel_rfl⟩
  ld := by intro b n h; cases h; exact ⟨by kernel_rfl, by kernel_rfl, Try.t22, by kernel_rfl, by kernel_rfl⟩
  zero := by intro g h; cases h; exact ⟨by kernel_rfl, Try.t22, (.slice none 0 0), by kernel_rfl, by kernel_rfl, by kernel_rfl⟩
  zone := by intro g h; cases h; exact ⟨Try.t22, (.slice none 0 0), by kernel_rfl, by kernel_rfl, by kernel_rfl⟩
  st := by intro l h; cases h
  ar := by intro n z h; cases h
  int := by intro k h; cases h
  ptr := by intro h; cases h
  str := by intro h; cases h
  bool := by intro h; cases h
  mp := by intro e k h; cases h
theorem tabOk_23 : (tab 23).Ok Try.prog 23 where
  sl := by intro e z b v h; cases h
  ld := by intro b n h; cases h; exact ⟨by kernel_rfl, by kernel_rfl, Try.t23, by kernel_rfl, by kernel_rfl⟩
  zero := by intro g h; cases h; exact ⟨by kernel_rfl, Try.t23, (.pointer none), by kernel_rfl, by kernel_rfl, by kernel_rfl⟩
  zone := by intro g h; cases h; exact ⟨Try.t23, (.pointer none), by kernel_rfl, by kernel_rfl, by kernel_rfl⟩
  st := by intro l h; cases h
  ar := by intro n z h; cases h
  int := by intro k h; cases h
  ptr := by intro _; exact ⟨54, by kernel_rfl⟩
  str := by intro h; cases h
  bool := by intro h; cases h
  mp := by intro e k h; cases h
theorem tabOk_24 : (tab 24).Ok Try.prog 24 where
  sl := by intro e z b v h; cases h
  ld := by intro b n h; cases h; exact ⟨by kernel_rfl, by kernel_rfl, Try.t24, by kernel_rfl, by kernel_rfl⟩
  zero := by intro g h; cases h; exact ⟨by kernel_rfl, Try.t24, (.nilFunc), by kernel_rfl, by kernel_rfl, by kernel_rfl⟩
  zone := by intro g h; cases h; exact ⟨Try.t24, (.nilFunc), by kernel_rfl, by kernel_rfl, by kernel_rfl⟩
  st := by intro l h; cases h
  ar := by intro n z h; cases h
  int := by intro k h; cases h
  ptr := by intro h; cases h
  str := by intro h; cases h
  bool := by intro h; cases h
  mp := by intro e k h; cases h
theorem tabOk_25 : (tab 25).Ok Try.prog 25 where
  sl := by intro e z b v h; cases h
  ld := by intro b n h; cases h; exact ⟨by kernel_rfl, by kernel_rfl, Try.t25, by kernel_rfl, by kernel_rfl⟩
  zero := by intro g h; cases h; exact ⟨by kernel_rfl, Try.t25, (.nilFunc), by kernel_rfl, by kernel_rfl, by kernel_rfl⟩
  zone := by intro g h; cases h; exact ⟨Try.t25, (.nilFunc), by kernel_rfl, by kernel_rfl, by kernel_rfl⟩
  st := by intro l h; cases h
  ar := by intro n z h; cases h
  int := by intro k h; cases h
  ptr := by intro h; cases h
  str := by intro h; cases h
  bool := by intro h; cases h
  mp := by intro e k h; cases h
theorem tabOk_26 : (tab 26).Ok Try.prog 26 where
  sl := by intro e z b v h; cases h; exact ⟨by kernel_rfl, Try.t3, by kernel_rfl, by kernel_rfl, by kernel_rfl, by kernel_rfl, by kernel_rfl⟩
  ld := by intro b n h; cases h; exact ⟨by kernel_rfl, by kernel_rfl, Try.t26, by kernel_rfl, by kernel_rfl⟩
  zero := by intro g h; cases h; exact ⟨by kernel_rfl, Try.t26, (.slice none 0 0), by kernel_rfl, by kernel_rfl, by kernel_rfl⟩
  zone := by intro g h; cases h; exact ⟨Try.t26, (.slice none 0 0), by kernel_rfl, by kernel_rfl, by kernel_rfl⟩
  st := by intro l h; cases h
  ar := by intro n z h; cases h
  int := by intro k h; cases h
  ptr := by intro h; cases h
  str := by intro h; cases h
  bool := by intro h; cases h
  mp := by intro e k h; cases h
theorem tabOk_27 : (tab 27).Ok Try.prog 27 where
  sl := by intro e z b v h; cases h
  ld := by intro b n h; cases h; exact ⟨by kernel_rfl, by kernel_rfl, Try.t27, by kernel_rfl, by kernel_rfl⟩
  zero := by intro g h; cases h; exact ⟨by kernel_rfl, Try.t27, (.int .i64 0), by kernel_rfl, by kernel_rfl, by kernel_rfl⟩
  zone := by intro g h; cases h; exact ⟨Try.t27, (.int .i64 0), by kernel_rfl, by kernel_rfl, by kernel_rfl⟩
  st := by intro l h; cases h
  ar := by intro n z h; cases h
  int := by intro k h; cases h; kernel_rfl
  ptr := by intro h; cases h
  str := by intro h; cases h
  bool := by intro h; cases h
  mp := by intro e k h; cases h
theorem tabOk_29 : (tab 29).Ok Try.prog 29 where
  sl := by intro e z b v h; cases h
  ld := by intro b n h; cases h; exact ⟨by kernel_rfl, by kernel_rfl, Try.t29, by kernel_rfl, by kernel_rfl⟩
  zero := by intro g h; cases h; exact ⟨by kernel_rfl, Try.t29, (.nilFunc), by kernel_rfl, by kernel_rfl, by kernel_rfl⟩
  zone := by intro g h; cases h; exact ⟨Try.t29, (.nilFunc), by kernel_rfl, by kernel_rfl, by kernel_rfl⟩
  st := by intro l h; cases h
  ar := by intro n z h; cases h
  int := by intro k h; cases h
  ptr := by intro h; cases h
  str := by intro h; cases h
  bool := by intro h; cases h
  mp := by intro e k h; cases h
theorem tabOk_30 : (tab 30).Ok Try.prog 30 where
  sl := by intro e z b v h; cases h
  ld := by intro b n h; cases h; exact ⟨by kernel_rfl, by kernel_rfl, Try.t30, by kernel_rfl, by kernel_rfl⟩
  zero := by intro g h; cases h; exact ⟨by kernel_rfl, Try.t30, (.nilFunc), by kernel_rfl, by kernel_rfl, by kernel_rfl⟩
  zone := by intro g h; cases h; exact ⟨Try.t30, (.nilFunc), by kernel_rfl, by kernel_rfl, by kernel_rfl⟩
  st := by intro l h; cases h
  ar := by intro n z h; cases h
  int := by intro k h; cases h
  ptr := by intro h; cases h
  str := by intro h; cases h
  bool := by intro h; cases h
  mp := by intro e k h; cases h
theorem tabOk_31 : (tab 31).Ok Try.prog 31 where
  sl := by intro e z b v h; cases h
  ld := by intro b n h; cases h; exact ⟨by kernel_rfl, by kernel_rfl, Try.t31, by kernel_rfl, by kernel_rfl⟩
  zero := by intro g h; cases h; exact ⟨by kernel_rfl, Try.t31, (.nilFunc), by kernel_rfl, by kernel_rfl, by kernel_rfl⟩
  zone := by intro g h; cases h; exact ⟨Try.t31, (.nilFunc), by kernel_rfl, by kernel_rfl, by kernel_rfl⟩
  st := by intro l h; cases h
  ar := by intro n z h; cases h
  int := by intro k h; cases h
  ptr := by intro h; cases h
  str := by intro h; cases h
  bool := by intro h; cases h
  mp := by intro e k h; cases h
theorem tabOk_32 : (tab 32).Ok Try.prog 32 where
  sl := by intro e z b v h; cases h
  ld := by intro b n h; cases h; exact ⟨by kernel_rfl, by kernel_rfl, Try.t32, by kernel_rfl, by kernel_rfl⟩
  zero := by intro g h; cases h; exact ⟨by kernel_rfl, Try.t32, (.nilFunc), by kernel_rfl, by kernel_rfl, by kernel_rfl⟩
  zone := by intro g h; cases h; exact ⟨Try.t32, (.nilFunc), by kernel_rfl, by kernel_rfl, by kernel_rfl⟩
  st := by intro l h; cases h
  ar := by intro n z h; cases h
  int := by intro k h; cases h
  ptr := by intro h; cases h
  str := by intro h; cases h
  bool := by intro h; cases h
  mp := by intro e k h; cases h
theorem tabOk_33 : (tab 33).Ok Try.prog 33 where
  sl := by intro e z b v h; cases h
  ld := by intro b n h; cases h; exact ⟨by kernel_rfl, by kernel_rfl, Try.t33, by kernel_rfl, by kernel_rfl⟩
  zero := by intro g h; cases h; exact ⟨by kernel_rfl, Try.t33, (.agg #[.int .i64 0, .int .i64 0, .int .i64 0]), by kernel_rfl, by kernel_rfl, by kernel_rfl⟩
  zone := by intro g h; cases h; exact ⟨Try.t33, (.agg #[.int .i64 0, .int .i64 0, .int .i64 0]), by kernel_rfl, by kernel_rfl, by kernel_rfl⟩
  st := by intro l h; cases h; exact ⟨_, Try.underlying33, by kernel_rfl, (by exact all_some (by kernel_rfl)), by kernel_rfl⟩
  ar := by intro n z h; cases h
  int := by intro k h; cases h
  ptr := by intro h; cases h
  str := by intro h; cases h
  bool := by intro h; cases h
  mp := by intro e k h; cases h
theorem tabOk_34 : (tab 34).Ok Try.prog 34 where
  sl := by intro e z b v h; cases h
  ld := by intro b n h; cases h; exact ⟨by kernel_rfl, by kernel_rfl, Try.t34, by kernel_rfl, by kernel_rfl⟩
  zero := by intro g h; cases h; exact ⟨by kernel_rfl, Try.t34, (.agg #[.int .i64 0, .int .i64 0, .int .i64 0]), by kernel_rfl, by kernel_rfl, by kernel_rfl⟩
  zone := by intro g h; cases h; exact ⟨Try.t34, (.agg #[.int .i64 0, .int .i64 0, .int .i64 0]), by kernel_rfl, by kernel_rfl, by kernel_rfl⟩
  st := by intro l h; cases h; exact ⟨_, Try.underlying34, by kernel_rfl, (by exact all_some (by kernel_rfl)), by kernel_rfl⟩
  ar := by intro n z h; cases h
  int := by intro k h; cases h
  ptr := by intro h; cases h
  str := by intro h; cases h
  bool := by intro h; cases h
  mp := by intro e k h; cases h
theorem tabOk_35 : (tab 35).Ok Try.prog 35 where
  sl := by intro e z b v h; cases h; exact ⟨by kernel_rfl, Try.t26, by kernel_rfl, by kernel_rfl, by kernel_rfl, by kernel_rfl, by kernel_rfl⟩
  ld := by intro b n h; cases h; exact ⟨by kernel_rfl, by kernel_rfl, Try.t35, by kernel_rfl, by kernel_rfl⟩
  zero := by intro g h; cases h; exact ⟨by kernel_rfl, Try.t35, (.slice none 0 0), by kernel_rfl, by kernel_rfl, by kernel_rfl⟩
  zone := by intro g h; cases h; exact ⟨Try.t35, (.slice none 0 0), by kernel_rfl, by kernel_rfl, by kernel_rfl⟩
  st := by intro l h; cases h
  ar := by intro n z h; cases h
  int := by intro k h; cases h
  ptr := by intro h; cases h
  str := by intro h; cases h
  bool := by intro h; cases h
  mp := by intro e k h; cases h
theorem tabOk_37 : (tab 37).Ok Try.prog 37 where
  sl := by intro e z b v h; cases h
  ld := by intro b n h; cases h; exact ⟨by kernel_rfl, by kernel_rfl, Try.t37, by kernel_rfl, by kernel_rfl⟩
  zero := by intro g h; cases h; exact ⟨by kernel_rfl, Try.t37, (.nilFunc), by kernel_rfl, by kernel_rfl, by kernel_rfl⟩
  zone := by intro g h; cases h; exact ⟨Try.t37, (.nilFunc), by kernel_rfl, by kernel_rfl, by kernel_rfl⟩
  st := by intro l h; cases h
  ar := by intro n z h; cases h
  int := by intro k h; cases h
  ptr := by intro h; cases h
  str := by intro h; cases h
  bool := by intro h; cases h
  mp := by intro e k h; cases h
theorem tabOk_38 : (tab 38).Ok Try.prog 38 where
  sl := by intro e z b v h; cases h
  ld := by intro b n h; cases h; exact ⟨by kernel_rfl, by kernel_rfl, Try.t38, by kernel_rfl, by kernel_rfl⟩
  zero := by intro g h; cases h; exact ⟨by kernel_rfl, Try.t38, (.nilFunc), by kernel_rfl, by kernel_rfl, by kernel_rfl⟩
  zone := by intro g h; cases h; exact ⟨Try.t38, (.nilFunc), by kernel_rfl, by kernel_rfl, by kernel_rfl⟩
  st := by intro l h; cases h
  ar := by intro n z h; cases h
  int := by intro k h; cases h
  ptr := by intro h; cases h
  str := by intro h; cases h
  bool := by intro h; cases h
  mp := by intro e k h; cases h
theorem tabOk_39 : (tab 39).Ok Try.prog 39 where
  sl := by intro e z b v h; cases h
  ld := by intro b n h; cases h; exact ⟨by kernel_rfl, by kernel_rfl, Try.t39, by kernel_rfl, by kernel_rfl⟩
  zero := by intro g h; cases h; exact ⟨by kernel_rfl, Try.t39, (.nilFunc), by kernel_rfl, by kernel_rfl, by kernel_rfl⟩
  zone := by intro g h; cases h; exact ⟨Try.t39, (.nilFunc), by kernel_rfl, by kernel_rfl, by kernel_rfl⟩
  st := by intro l h; cases h
  ar := by intro n z h; cases h
  int := by intro k h; cases h
  ptr := by intro h; cases h
  str := by intro h; cases h
  bool := by intro h; cases h
  mp := by intro e k h; cases h
theorem tabOk_40 : (tab 40).Ok Try.prog 40 where
  sl := by intro e z b v h; cases h
  ld := by intro b n h; cases h; exact ⟨by kernel_rfl, by kernel_rfl, Try.t40, by kernel_rfl, by kernel_rfl⟩
  zero := by intro g h; cases h; exact ⟨by kernel_rfl, Try.t40, (.int .u64 0), by kernel_rfl, by kernel_rfl, by kernel_rfl⟩
  zone := by intro g h; cases h; exact ⟨Try.t40, (.int .u64 0), by kernel_rfl, by kernel_rfl, by kernel_rfl⟩
  st := by intro l h; cases h
  ar := by intro n z h; cases h
  int := by intro k h; cases h; kernel_rfl
  ptr := by intro h; cases h
  str := by intro h; cases h
  bool := by intro h; cases h
  mp := by intro e k h; cases h
theorem tabOk_41 : (tab 41).Ok Try.prog 41 where
  sl := by intro e z b v h; cases h
  ld := by intro b n h; cases h; exact ⟨by kernel_rfl, by kernel_rfl, Try.t41, by kernel_rfl, by kernel_rfl⟩
  zero := by intro g h; cases h; exact ⟨by kernel_rfl, Try.t41, (.nilFunc), by kernel_rfl, by kernel_rfl, by kernel_rfl⟩
  zone := by intro g h; cases h; exact ⟨Try.t41, (.nilFunc), by kernel_rfl, by kernel_rfl, by kernel_rfl⟩
  st := by intro l h; cases h
  ar := by intro n z h; cases h
  int := by intro k h; cases h
  ptr := by intro h; cases h
  str := by intro h; cases h
  bool := by intro h; cases h
  mp := by intro e k h; cases h
theorem tabOk_42 : (tab 42).Ok Try.prog 42 where
  sl := by intro e z b v h; cases h
  ld := by intro b n h; cases h; exact ⟨by kernel_rfl, by kernel_rfl, Try.t42, by kernel_rfl, by kernel_rfl⟩
  zero := by intro g h; cases h; exact ⟨by kernel_rfl, Try.t42, (.nilFunc), by kernel_rfl, by kernel_rfl, by kernel_rfl⟩
  zone := by intro g h; cases h; exact ⟨Try.t42, (.nilFunc), by kernel_rfl, by kernel_rfl, by kernel_rfl⟩
  st := by intro l h; cases h
  ar := by intro n z h; cases h
  int := by intro k h; cases h
  ptr := by intro h; cases h
  str := by intro h; cases h
  bool := by intro h; cases h
  mp := by intro e k h; cases h
theorem tabOk_43 : (tab 43).Ok Try.prog 43 where
  sl := by intro e z b v h; cases h
  ld := by intro b n h; cases h; exact ⟨by kernel_rfl, by kernel_rfl, Try.t43, by kernel_rfl, by kernel_rfl⟩
  zero := by intro g h; cases h; exact ⟨by kernel_rfl, Try.t43, (.nilFunc), by kernel_rfl, by kernel_rfl, by kernel_rfl⟩
  zone := by intro g h; cases h; exact ⟨Try.t43, (.nilFunc), by kernel_rfl, by kernel_rfl, by kernel_rfl⟩
  st := by intro l h; cases h
  ar := by intro n z h; cases h
  int := by intro k h; cases h
  ptr := by intro h; cases h
  str := by intro h; cases h
  bool := by intro h; cases h
  mp := by intro e k h; cases h
theorem tabOk_44 : (tab 44).Ok Try.prog 44 where
  sl := by intro e z b v h; cases h
  ld := by intro b n h; cases h; exact ⟨by kernel_rfl, by kernel_rfl, Try.t44, by kernel_rfl, by kernel_rfl⟩
  zero := by intro g h; cases h; exact ⟨by kernel_rfl, Try.t44, (.nilFunc), by kernel_rfl, by kernel_rfl, by kernel_rfl⟩
  zone := by intro g h; cases h; exact ⟨Try.t44, (.nilFunc), by kernel_rfl, by kernel_rfl, by kernel_rfl⟩
  st := by intro l h; cases h
  ar := by intro n z h; cases h
  int := by intro k h; cases h
  ptr := by intro h; cases h
  str := by intro h; cases h
  bool := by intro h; cases h
  mp := by intro e k h; cases h
theorem tabOk_45 : (tab 45).Ok Try.prog 45 where
  sl := by intro e z b v h; cases h
  ld := by intro b n h; cases h; exact ⟨by kernel_rfl, by kernel_rfl, Try.t45, by kernel_rfl, by kernel_rfl⟩
  zero := by intro g h; cases h; exact ⟨by kernel_rfl, Try.t45, (.nilFunc), by kernel_rfl, by kernel_rfl, by kernel_rfl⟩
  zone := by intro g h; cases h; exact ⟨Try.t45, (.nilFunc), by kernel_rfl, by kernel_rfl, by kernel_rfl⟩
  st := by intro l h; cases h
  ar := by intro n z h; cases h
  int := by intro k h; cases h
  ptr := by intro h; cases h
  str := by intro h; cases h
  bool := by intro h; cases h
  mp := by intro e k h; cases h
theorem tabOk_46 : (tab 46).Ok Try.prog 46 where
  sl := by intro e z b v h; cases h
  ld := by intro b n h; cases h; exact ⟨by kernel_rfl, by kernel_rfl, Try.t46, by kernel_rfl, by kernel_rfl⟩
  zero := by intro g h; cases h; exact ⟨by kernel_rfl, Try.t46, (.nilFunc), by kernel_rfl, by kernel_rfl, by kernel_rfl⟩
  zone := by intro g h; cases h; exact ⟨Try.t46, (.nilFunc), by kernel_rfl, by kernel_rfl, by kernel_rfl⟩
  st := by intro l h; cases h
  ar := by intro n z h; cases h
  int := by intro k h; cases h
  ptr := by intro h; cases h
  str := by intro h; cases h
  bool := by intro h; cases h
  mp := by intro e k h; cases h
theorem tabOk_47 : (tab 47).Ok Try.prog 47 where
  sl := by intro e z b v h; cases h
  ld := by intro b n h; cases h; exact ⟨by kernel_rfl, by kernel_rfl, Try.t47, by kernel_rfl, by kernel_rfl⟩
  zero := by intro g h; cases h; exact ⟨by kernel_rfl, Try.t47, (.nilFunc), by kernel_rfl, by kernel_rfl, by kernel_rfl⟩
  zone := by intro g h; cases h; exact ⟨Try.t47, (.nilFunc), by kernel_rfl, by kernel_rfl, by kernel_rfl⟩
  st := by intro l h; cases h
  ar := by intro n z h; cases h
  int := by intro k h; cases h
  ptr := by intro h; cases h
  str := by intro h; cases h
  bool := by intro h; cases h
  mp := by intro e k h; cases h
theorem tabOk_48 : (tab 48).Ok Try.prog 48 where
  sl := by intro e z b v h; cases h
  ld := by intro b n h; cases h; exact ⟨by kernel_rfl, by kernel_rfl, Try.t48, by kernel_rfl, by kernel_rfl⟩
  zero := by intro g h; cases h; exact ⟨by kernel_rfl, Try.t48, (.nilFunc), by kernel_rfl, by kernel_rfl, by kernel_rfl⟩
  zone := by intro g h; cases h; exact ⟨Try.t48, (.nilFunc), by kernel_rfl, by kernel_rfl, by kernel_rfl⟩
  st := by intro l h; cases h
  ar := by intro n z h; cases h
  int := by intro k h; cases h
  ptr := by intro h; cases h
  str := by intro h; cases h
  bool := by intro h; cases h
  mp := by intro e k h; cases h
theorem tabOk_50 : (tab 50).Ok Try.prog 50 where
  sl := by intro e z b v h; cases h
  ld := by intro b n h; cases h; exact ⟨by kernel_rfl, by kernel_rfl, Try.t50, by kernel_rfl, by kernel_rfl⟩
  zero := by intro g h; cases h; exact ⟨by kernel_rfl, Try.t50, (.nilFunc), by kernel_rfl, by kernel_rfl, by kernel_rfl⟩
  zone := by intro g h; cases h; exact ⟨Try.t50, (.nilFunc), by kernel_rfl, by kernel_rfl, by kernel_rfl⟩
  st := by intro l h; cases h
  ar := by intro n z h; cases h
  int := by intro k h; cases h
  ptr := by intro h; cases h
  str := by intro h; cases h
  bool := by intro h; cases h
  mp := by intro e k h; cases h
theorem tabOk_51 : (tab 51).Ok Try.prog 51 where
  sl := by intro e z b v h; cases h
  ld := by intro b n h; cases h; exact ⟨by kernel_rfl, by kernel_rfl, Try.t51, by kernel_rfl, by kernel_rfl⟩
  zero := by intro g h; cases h; exact ⟨by kernel_rfl, Try.t51, (.nilFunc), by kernel_rfl, by kernel_rfl, by kernel_rfl⟩
  zone := by intro g h; cases h; exact ⟨Try.t51, (.nilFunc), by kernel_rfl, by kernel_rfl, by kernel_rfl⟩
  st := by intro l h; cases h
  ar := by intro n z h; cases h
  int := by intro k h; cases h
  ptr := by intro h; cases h
  str := by intro h; cases h
  bool := by intro h; cases h
  mp := by intro e k h; cases h
theorem tabOk_52 : (tab 52).Ok Try.prog 52 where
  sl := by intro e z b v h; cases h; exact ⟨by kernel_rfl, Try.t66, by kernel_rfl, by kernel_rfl, by kernel_rfl, by kernel_rfl, by kernel_rfl⟩
  ld := by intro b n h; cases h; exact ⟨by kernel_rfl, by kernel_rfl, Try.t52, by kernel_rfl, by kernel_rfl⟩
  zero := by intro g h; cases h; exact ⟨by kernel_rfl, Try.t52, (.slice none 0 0), by kernel_rfl, by kernel_rfl, by kernel_rfl⟩
  zone := by intro g h; cases h; exact ⟨Try.t52, (.slice none 0 0), by kernel_rfl, by kernel_rfl, by kernel_rfl⟩
  st := by intro l h; cases h
  ar := by intro n z h; cases h
  int := by intro k h; cases h
  ptr := by intro h; cases h
  str := by intro h; cases h
  bool := by intro h; cases h
  mp := by intro e k h; cases h
theorem tabOk_53 : (tab 53).Ok Try.prog 53 where
  sl := by intro e z b v h; cases h
  ld := by intro b n h; cases h; exact ⟨by kernel_rfl, by kernel_rfl, Try.t53, by kernel_rfl, by kernel_rfl⟩
  zero := by intro g h; cases h; exact ⟨by kernel_rfl, Try.t53, (.agg #[.slice none 0 0]), by kernel_rfl, by kernel_rfl, by kernel_rfl⟩
  zone := by intro g h; cases h; exact ⟨Try.t53, (.agg #[.slice none 0 0]), by kernel_rfl, by kernel_rfl, by kernel_rfl⟩
  st := by intro l h; cases h; exact ⟨_, Try.underlying53, by kernel_rfl, (by exact all_some (by kernel_rfl)), by kernel_rfl⟩
  ar := by intro n z h; cases h
  int := by intro k h; cases h
  ptr := by intro h; cases h
  str := by intro h; cases h
  bool := by intro h; cases h
  mp := by intro e k h; cases h
theorem tabOk_54 : (tab 54).Ok Try.prog 54 where
  sl := by intro e z b v h; cases h
  ld := by intro b n h; cases h; exact ⟨by kernel_rfl, by kernel_rfl, Try.t54, by kernel_rfl, by kernel_rfl⟩
  zero := by intro g h; cases h; exact ⟨by kernel_rfl, Try.t54, (.agg #[.slice none 0 0]), by kernel_rfl, by kernel_rfl, by kernel_rfl⟩
  zone := by intro g h; cases h; exact ⟨Try.t54, (.agg #[.slice none 0 0]), by kernel_rfl, by kernel_rfl, by kernel_rfl⟩
  st := by intro l h; cases h; exact ⟨_, Try.underlying54, by kernel_rfl, (by exact all_some (by kernel_rfl)), by kernel_rfl⟩
  ar := by intro n z h; cases h
  int := by intro k h; cases h
  ptr := by intro h; cases h
  str := by intro h; cases h
  bool := by intro h; cases h
  mp := by intro e k h; cases h
theorem tabOk_55 : (tab 55).Ok Try.prog 55 where
  sl := by intro e z b v h; cases h; exact ⟨by kernel_rfl, Try.t23, by kernel_rfl, by kernel_rfl, by kernel_rfl, by kernel_rfl, by kernel_rfl⟩
  ld := by intro b n h; cases h; exact ⟨by kernel_rfl, by kernel_rfl, Try.t55, by kernel_rfl, by kernel_rfl⟩
  zero := by intro g h; cases h; exact ⟨by kernel_rfl, Try.t55, (.slice none 0 0), by kernel_rfl, by kernel_rfl, by kernel_rfl⟩
  zone := by intro g h; cases h; exact ⟨Try.t55, (.slice none 0 0), by kernel_rfl, by kernel_rfl, by kernel_rfl⟩
  st := by intro l h; cases h
  ar := by intro n z h; cases h
  int := by intro k h; cases h
  ptr := by intro h; cases h
  str := by intro h; cases h
  bool := by intro h; cases h
  mp := by intro e k h; cases h
theorem tabOk_56 : (tab 56).Ok Try.prog 56 where
  sl := by intro e z b v h; cases h
  ld := by intro b n h; cases h; exact ⟨by kernel_rfl, by kernel_rfl, Try.t56, by kernel_rfl, by kernel_rfl⟩
  zero := by intro g h; cases h; exact ⟨by kernel_rfl, Try.t56, (.nilFunc), by kernel_rfl, by kernel_rfl, by kernel_rfl⟩
  zone := by intro g h; cases h; exact ⟨Try.t56, (.nilFunc), by kernel_rfl, by kernel_rfl, by kernel_rfl⟩
  st := by intro l h; cases h
  ar := by intro n z h; cases h
  int := by intro k h; cases h
  ptr := by intro h; cases h
  str := by intro h; cases h
  bool := by intro h; cases h
  mp := by intro e k h; cases h
theorem tabOk_57 : (tab 57).Ok Try.prog 57 where
  sl := by intro e z b v h; cases h
  ld := by intro b n h; cases h; exact ⟨by kernel_rfl, by kernel_rfl, Try.t57, by kernel_rfl, by kernel_rfl⟩
  zero := by intro g h; cases h; exact ⟨by kernel_rfl, Try.t57, (.nilFunc), by kernel_rfl, by kernel_rfl, by kernel_rfl⟩
  zone := by intro g h; cases h; exact ⟨Try.t57, (.nilFunc), by kernel_rfl, by kernel_rfl, by kernel_rfl⟩
  st := by intro l h; cases h
  ar := by intro n z h; cases h
  int := by intro k h; cases h
  ptr := by intro h; cases h
  str := by intro h; cases h
  bool := by intro h; cases h
  mp := by intro e k h; cases h
theorem tabOk_59 : (tab 59).Ok Try.prog 59 where
  sl := by intro e z b v h; cases h
  ld := by intro b n h; cases h; exact ⟨by kernel_rfl, by kernel_rfl, Try.t59, by kernel_rfl, by kernel_rfl⟩
  zero := by intro g h; cases h; exact ⟨by kernel_rfl, Try.t59, (.nilFunc), by kernel_rfl, by kernel_rfl, by kernel_rfl⟩
  zone := by intro g h; cases h; exact ⟨Try.t59, (.nilFunc), by kernel_rfl, by kernel_rfl, by kernel_rfl⟩
  st := by intro l h; cases h
  ar := by intro n z h; cases h
  int := by intro k h; cases h
  ptr := by intro h; cases h
  str := by intro h; cases h
  bool := by intro h; cases h
  mp := by intro e k h; cases h
theorem tabOk_60 : (tab 60).Ok Try.prog 60 where
  sl := by intro e z b v h; cases h
  ld := by intro b n h; cases h; exact ⟨by kernel_rfl, by kernel_rfl, Try.t60, by kernel_rfl, by kernel_rfl⟩
  zero := by intro g h; cases h; exact ⟨by kernel_rfl, Try.t60, (.nilFunc), by kernel_rfl, by kernel_rfl, by kernel_rfl⟩
  zone := by intro g h; cases h; exact ⟨Try.t60, (.nilFunc), by kernel_rfl, by kernel_rfl, by kernel_rfl⟩
  st := by intro l h; cases h
  ar := by intro n z h; cases h
  int := by intro k h; cases h
  ptr := by intro h; cases h
  str := by intro h; cases h
  bool := by intro h; cases h
  mp := by intro e k h; cases h
theorem tabOk_61 : (tab 61).Ok Try.prog 61 where
  sl := by intro e z b v h; cases h
  ld := by intro b n h; cases h; exact ⟨by kernel_rfl, by kernel_rfl, Try.t61, by kernel_rfl, by kernel_rfl⟩
  zero := by intro g h; cases h; exact ⟨by kernel_rfl, Try.t61, (.nilFunc), by kernel_rfl, by kernel_rfl, by kernel_rfl⟩
  zone := by intro g h; cases h; exact ⟨Try.t61, (.nilFunc), by kernel_rfl, by kernel_rfl, by kernel_rfl⟩
  st := by intro l h; cases h
  ar := by intro n z h; cases h
  int := by intro k h; cases h
  ptr := by intro h; cases h
  str := by intro h; cases h
  bool := by intro h; cases h
  mp := by intro e k h; cases h
theorem tabOk_62 : (tab 62).Ok Try.prog 62 where
  sl := by intro e z b v h; cases h
  ld := by intro b n h; cases h; exact ⟨by kernel_rfl, by kernel_rfl, Try.t62, by kernel_rfl, by kernel_rfl⟩
  zero := by intro g h; cases h; exact ⟨by kernel_rfl, Try.t62, (.nilFunc), by kernel_rfl, by kernel_rfl, by kernel_rfl⟩
  zone := by intro g h; cases h; exact ⟨Try.t62, (.nilFunc), by kernel_rfl, by kernel_rfl, by kernel_rfl⟩
  st := by intro l h; cases h
  ar := by intro n z h; cases h
  int := by intro k h; cases h
  ptr := by intro h; cases h
  str := by intro h; cases h
  bool := by intro h; cases h
  mp := by intro e k h; cases h
theorem tabOk_63 : (tab 63).Ok Try.prog 63 where
  sl := by intro e z b v h; cases h
  ld := by intro b n h; cases h; exact ⟨by kernel_rfl, by kernel_rfl, Try.t63, by kernel_rfl, by kernel_rfl⟩
  zero := by intro g h; cases h; exact ⟨by kernel_rfl, Try.t63, (.pointer none), by kernel_rfl, by kernel_rfl, by kernel_rfl⟩
  zone := by intro g h; cases h; exact ⟨Try.t63, (.pointer none), by kernel_rfl, by kernel_rfl, by kernel_rfl⟩
  st := by intro l h; cases h
  ar := by intro n z h; cases h
  int := by intro k h; cases h
  ptr := by intro _; exact ⟨66, by kernel_rfl⟩
  str := by intro h; cases h
  bool := by intro h; cases h
  mp := by intro e k h; cases h
theorem tabOk_64 : (tab 64).Ok Try.prog 64 where
  sl := by intro e z b v h; cases h
  ld := by intro b n h; cases h; exact ⟨by kernel_rfl, by kernel_rfl, Try.t64, by kernel_rfl, by kernel_rfl⟩
  zero := by intro g h; cases h; exact ⟨by kernel_rfl, Try.t64, (.pointer none), by kernel_rfl, by kernel_rfl, by kernel_rfl⟩
  zone := by intro g h; cases h; exact ⟨Try.t64, (.pointer none), by kernel_rfl, by kernel_rfl, by kernel_rfl⟩
  st := by intro l h; cases h
  ar := by intro n z h; cases h
  int := by intro k h; cases h
  ptr := by intro _; exact ⟨26, by kernel_rfl⟩
  str := by intro h; cases h
  bool := by intro h; cases h
  mp := by intro e k h; cases h
theorem tabOk_65 : (tab 65).Ok Try.prog 65 where
  sl := by intro e z b v h; cases h
  ld := by intro b n h; cases h; exact ⟨by kernel_rfl, by kernel_rfl, Try.t65, by kernel_rfl, by kernel_rfl⟩
  zero := by intro g h; cases h; exact ⟨by kernel_rfl, Try.t65, (.agg #[.int .i64 0, .int .i64 0, .int .i64 0, .int .i64 0, .slice none 0 0, .slice none 0 0]), by kernel_rfl, by kernel_rfl, by kernel_rfl⟩
  zone := by intro g h; cases h; exact ⟨Try.t65, (.agg #[.int .i64 0, .int .i64 0, .int .i64 0, .int .i64 0, .slice none 0 0, .slice none 0 0]), by kernel_rfl, by kernel_rfl, by kernel_rfl⟩
  st := by intro l h; cases h; exact ⟨_, Try.underlying65, by kernel_rfl, (by exact all_some (by kernel_rfl)), by kernel_rfl⟩
  ar := by intro n z h; cases h
  int := by intro k h; cases h
  ptr := by intro h; cases h
  str := by intro h; cases h
  bool := by intro h; cases h
  mp := by intro e k h; cases h
theorem tabOk_66 : (tab 66).Ok Try.prog 66 where
  sl := by intro e z b v h; cases h
  ld := by intro b n h; cases h; exact ⟨by kernel_rfl, by kernel_rfl, Try.t66, by kernel_rfl, by kernel_rfl⟩
  zero := by intro g h; cases h; exact ⟨by kernel_rfl, Try.t66, (.agg #[.int .i64 0, .int .i64 0, .int .i64 0, .int .i64 0, .slice none 0 0, .slice none 0 0]), by kernel_rfl, by kernel_rfl, by kernel_rfl⟩
  zone := by intro g h; cases h; exact ⟨Try.t66, (.agg #[.int .i64 0, .int .i64 0, .int .i64 0, .int .i64 0, .slice none 0 0, .slice none 0 0]), by kernel_rfl, by kernel_rfl, by kernel_rfl⟩
  st := by intro l h; cases h; exact ⟨_, Try.underlying66, by kernel_rfl, (by exact all_some (by kernel_rfl)), by kernel_rfl⟩
  ar := by intro n z h; cases h
  int := by intro k h; cases h
  ptr := by intro h; cases h
  str := by intro h; cases h
  bool := by intro h; cases h
  mp := by intro e k h; cases h
theorem tabOk_67 : (tab 67).Ok Try.prog 67 where
  sl := by intro e z b v h; cases h
  ld := by intro b n h; cases h; exact ⟨by kernel_rfl, by kernel_rfl, Try.t67, by kernel_rfl, by kernel_rfl⟩
  zero := by intro g h; cases h; exact ⟨by kernel_rfl, Try.t67, (.nilFunc), by kernel_rfl, by kernel_rfl, by kernel_rfl⟩
  zone := by intro g h; cases h; exact ⟨Try.t67, (.nilFunc), by kernel_rfl, by kernel_rfl, by kernel_rfl⟩
  st := by intro l h; cases h
  ar := by intro n z h; cases h
  int := by intro k h; cases h
  ptr := by intro h; cases h
  str := by intro h; cases h
  bool := by intro h; cases h
  mp := by intro e k h; cases h
theorem tabOk_68 : (tab 68).Ok Try.prog 68 where
  sl := by intro e z b v h; cases h
  ld := by intro b n h; cases h; exact ⟨by kernel_rfl, by kernel_rfl, Try.t68, by kernel_rfl, by kernel_rfl⟩
  zero := by intro g h; cases h; exact ⟨by kernel_rfl, Try.t68, (.nilFunc), by kernel_rfl, by kernel_rfl, by kernel_rfl⟩
  zone := by intro g h; cases h; exact ⟨Try.t68, (.nilFunc), by kernel_rfl, by kernel_rfl, by kernel_rfl⟩
  st := by intro l h; cases h
  ar := by intro n z h; cases h
  int := by intro k h; cases h
  ptr := by intro h; cases h
  str := by intro h; cases h
  bool := by intro h; cases h
  mp := by intro e k h; cases h
theorem tabOk_69 : (tab 69).Ok Try.prog 69 where
  sl := by intro e z b v h; cases h
  ld := by intro b n h; cases h; exact ⟨by kernel_rfl, by kernel_rfl, Try.t69, by kernel_rfl, by kernel_rfl⟩
  zero := by intro g h; cases h; exact ⟨by kernel_rfl, Try.t69, (.nilFunc), by kernel_rfl, by kernel_rfl, by kernel_rfl⟩
  zone := by intro g h; cases h; exact ⟨Try.t69, (.nilFunc), by kernel_rfl, by kernel_rfl, by kernel_rfl⟩
  st := by intro l h; cases h
  ar := by intro n z h; cases h
  int := by intro k h; cases h
  ptr := by intro h; cases h
  str := by intro h; cases h
  bool := by intro h; cases h
  mp := by intro e k h; cases h
theorem tabOk_70 : (tab 70).Ok Try.prog 70 where
  sl := by intro e z b v h; cases h
  ld := by intro b n h; cases h; exact ⟨by kernel_rfl, by kernel_rfl, Try.t70, by kernel_rfl, by kernel_rfl⟩
  zero := by intro g h; cases h; exact ⟨by kernel_rfl, Try.t70, (.nilFunc), by kernel_rfl, by kernel_rfl, by kernel_rfl⟩
  zone := by intro g h; cases h; exact ⟨Try.t70, (.nilFunc), by kernel_rfl, by kernel_rfl, by kernel_rfl⟩
  st := by intro l h; cases h
  ar := by intro n z h; cases h
  int := by intro k h; cases h
  ptr := by intro h; cases h
  str := by intro h; cases h
  bool := by intro h; cases h
  mp := by intro e k h; cases h
theorem tabOk_71 : (tab 71).Ok Try.prog 71 where
  sl := by intro e z b v h; cases h
  ld := by intro b n h; cases h; exact ⟨by kernel_rfl, by kernel_rfl, Try.t71, by kernel_rfl, by kernel_rfl⟩
  zero := by intro g h; cases h; exact ⟨by kernel_rfl, Try.t71, (.nilFunc), by kernel_rfl, by kernel_rfl, by kernel_rfl⟩
  zone := by intro g h; cases h; exact ⟨Try.t71, (.nilFunc), by kernel_rfl, by kernel_rfl, by kernel_rfl⟩
  st := by intro l h; cases h
  ar := by intro n z h; cases h
  int := by intro k h; cases h
  ptr := by intro h; cases h
  str := by intro h; cases h
  bool := by intro h; cases h
  mp := by intro e k h; cases h
theorem tabOk_72 : (tab 72).Ok Try.prog 72 where
  sl := by intro e z b v h; cases h
  ld := by intro b n h; cases h; exact ⟨by kernel_rfl, by kernel_rfl, Try.t72, by kernel_rfl, by kernel_rfl⟩
  zero := by intro g h; cases h; exact ⟨by kernel_rfl, Try.t72, (.map none), by kernel_rfl, by kernel_rfl, by kernel_rfl⟩
  zone := by intro g h; cases h; exact ⟨Try.t72, (.map none), by kernel_rfl, by kernel_rfl, by kernel_rfl⟩
  st := by intro l h; cases h
  ar := by intro n z h; cases h
  int := by intro k h; cases h
  ptr := by intro h; cases h
  str := by intro h; cases h
  bool := by intro h; cases h
  mp := by intro e k h; cases h; exact ⟨3, by kernel_rfl, by kernel_rfl⟩
theorem tabOk_73 : (tab 73).Ok Try.prog 73 where
  sl := by intro e z b v h; cases h
  ld := by intro b n h; cases h; exact ⟨by kernel_rfl, by kernel_rfl, Try.t73, by kernel_rfl, by kernel_rfl⟩
  zero := by intro g h; cases h; exact ⟨by kernel_rfl, Try.t73, (.map none), by kernel_rfl, by kernel_rfl, by kernel_rfl⟩
  zone := by intro g h; cases h; exact ⟨Try.t73, (.map none), by kernel_rfl, by kernel_rfl, by kernel_rfl⟩
  st := by intro l h; cases h
  ar := by intro n z h; cases h
  int := by intro k h; cases h
  ptr := by intro h; cases h
  str := by intro h; cases h
  bool := by intro h; cases h
  mp := by intro e k h; cases h; exact ⟨3, by kernel_rfl, by kernel_rfl⟩
theorem tabOk_74 : (tab 74).Ok Try.prog 74 where
  sl := by intro e z b v h; cases h
  ld := by intro b n h; cases h; exact ⟨by kernel_rfl, by kernel_rfl, Try.t74, by kernel_rfl, by kernel_rfl⟩
  zero := by intro g h; cases h; exact ⟨by kernel_rfl, Try.t74, (.nilFunc), by kernel_rfl, by kernel_rfl, by kernel_rfl⟩
  zone := by intro g h; cases h; exact ⟨Try.t74, (.nilFunc), by kernel_rfl, by kernel_rfl, by kernel_rfl⟩
  st := by intro l h; cases h
  ar := by intro n z h; cases h
  int := by intro k h; cases h
  ptr := by intro h; cases h
  str := by intro h; cases h
  bool := by intro h; cases h
  mp := by intro e k h; cases h
theorem tabOk_75 : (tab 75).Ok Try.prog 75 where
  sl := by intro e z b v h; cases h
  ld := by intro b n h; cases h; exact ⟨by kernel_rfl, by kernel_rfl, Try.t75, by kernel_rfl, by kernel_rfl⟩
  zero := by intro g h; cases h; exact ⟨by kernel_rfl, Try.t75, (.nilFunc), by kernel_rfl, by kernel_rfl, by kernel_rfl⟩
  zone := by intro g h; cases h; exact ⟨Try.t75, (.nilFunc), by kernel_rfl, by kernel_rfl, by kernel_rfl⟩
  st := by intro l h; cases h
  ar := by intro n z h; cases h
  int := by intro k h; cases h
  ptr := by intro h; cases h
  str := by intro h; cases h
  bool := by intro h; cases h
  mp := by intro e k h; cases h
theorem tabOk_76 : (tab 76).Ok Try.prog 76 where
  sl := by intro e z b v h; cases h
  ld := by intro b n h; cases h; exact ⟨by kernel_rfl, by kernel_rfl, Try.t76, by kernel_rfl, by kernel_rfl⟩
  zero := by intro g h; cases h; exact ⟨by kernel_rfl, Try.t76, (.nilFunc), by kernel_rfl, by kernel_rfl, by kernel_rfl⟩
  zone := by intro g h; cases h; exact ⟨Try.t76, (.nilFunc), by kernel_rfl, by kernel_rfl, by kernel_rfl⟩
  st := by intro l h; cases h
  ar := by intro n z h; cases h
  int := by intro k h; cases h
  ptr := by intro h; cases h
  str := by intro h; cases h
  bool := by intro h; cases h
  mp := by intro e k h; cases h
theorem tabOk_77 : (tab 77).Ok Try.prog 77 where
  sl := by intro e z b v h; cases h
  ld := by intro b n h; cases h; exact ⟨by kernel_rfl, by kernel_rfl, Try.t77, by kernel_rfl, by kernel_rfl⟩
  zero := by intro g h; cases h; exact ⟨by kernel_rfl, Try.t77, (.nilFunc), by kernel_rfl, by kernel_rfl, by kernel_rfl⟩
  zone := by intro g h; cases h; exact ⟨Try.t77, (.nilFunc), by kernel_rfl, by kernel_rfl, by kernel_rfl⟩
  st := by intro l h; cases h
  ar := by intro n z h; cases h
  int := by intro k h; cases h
  ptr := by intro h; cases h
  str := by intro h; cases h
  bool := by intro h; cases h
  mp := by intro e k h; cases h

theorem tabOk : Tab.Ok Try.prog tab := fun t => by
  unfold tab
  split
  · exact tabOk_1
  · exact tabOk_2
  · exact tabOk_3
  · exact tabOk_4
  · exact tabOk_5
  · exact tabOk_6
  · exact tabOk_7
  · exact tabOk_8
  · exact tabOk_9
  · exact tabOk_10
  · exact tabOk_11
  · exact tabOk_12
  · exact tabOk_13
  · exact tabOk_14
  · exact tabOk_15
  · exact tabOk_16
  · exact tabOk_17
  · exact tabOk_18
  · exact tabOk_19
  · exact tabOk_21
  · exact tabOk_22
  · exact tabOk_23
  · exact tabOk_24
  · exact tabOk_25
  · exact tabOk_26
  · exact tabOk_27
  · exact tabOk_29
  · exact tabOk_30
  · exact tabOk_31
  · exact tabOk_32
  · exact tabOk_33
  · exact tabOk_34
  · exact tabOk_35
  · exact tabOk_37
  · exact tabOk_38
  · exact tabOk_39
  · exact tabOk_40
  · exact tabOk_41
  · exact tabOk_42
  · exact tabOk_43
  · exact tabOk_44
  · exact tabOk_45
  · exact tabOk_46
  · exact tabOk_47
  · exact tabOk_48
  · exact tabOk_50
  · exact tabOk_51
  · exact tabOk_52
  · exact tabOk_53
  · exact tabOk_54
  · exact tabOk_55
  · exact tabOk_56
  · exact tabOk_57
  · exact tabOk_59
  · exact tabOk_60
  · exact tabOk_61
  · exact tabOk_62
  · exact tabOk_63
  · exact tabOk_64
  · exact tabOk_65
  · exact tabOk_66
  · exact tabOk_67
  · exact tabOk_68
  · exact tabOk_69
  · exact tabOk_70
  · exact tabOk_71
  · exact tabOk_72
  · exact tabOk_73
  · exact tabOk_74
  · exact tabOk_75
  · exact tabOk_76
  · exact tabOk_77
  · exact ⟨(by intro e z b v h; cases h), (by intro b n h; cases h), (by intro g h; cases h), (by intro g h; cases h), (by intro l h; cases h), (by intro n z h; cases h), (by intro k h; cases h), (by intro h; cases h), (by intro h; cases h), (by intro h; cases h), (by intro e k h; cases h)⟩

theorem mixedOk : Try.prog.follows .mixedOrders = true := by kernel_rfl

end Go.Proofs.Ytahgopdamgagkaa

/- How lists, things, lineages and maps of orders are laid. -/
namespace Go.Proofs.Ytahgopdamgagkaa
set_option linter.all false
open Go.Vc Go.Proofs
open Go.MapKept (IsKey)

abbrev avInt (n : Int) : AV := .val (.int .i64 n)
abbrev avBool (b : Bool) : AV := .val (.bool b)
@[simp] theorem dInts_nil : dInts [] = .nil := rfl
theorem freeze_sq (l : List D) : (sq l).freeze = sq (l.map T.freeze) := by
  induction l with
  | nil => rfl
  | cons a l ih => simp [sq, T.freeze, ih]
@[simp] theorem freeze_ints (l : List Int) : (dInts l).freeze = dInts l := by
  rw [dInts, freeze_sq, List.map_map]; rfl
@[simp] theorem dInts_mid_all (l : List Int) : (dInts l).mid 0 l.length = dInts l := sq_mid_all _ _ (by simp)
theorem dInts_mid (l : List Int) (lo n : Nat) : (dInts l).mid lo n = dInts ((l.drop lo).take n) := by simp only [dInts, sq_mid, ← List.map_drop, ← List.map_take]
theorem dInts_app (l m : List Int) : (dInts l).app (dInts m) = dInts (l ++ m) := by simp only [dInts, sq_app, List.map_append]
theorem dInts_set (l : List Int) (i : Nat) (x : Int) : (dInts l).setN i (.val (.int .i64 x)) = dInts (l.set i x) := by simp only [dInts, sq_setN, List.map_set]; rfl
theorem zeros_ints (n : Nat) : (sq (List.replicate n (.val (.int .i64 0))) : D) = dInts (List.replicate n 0) := by simp [dInts, dInt]

/-- A list of lists. -/
def dLs (l : List (List Int)) : D := sq (l.map fun o => .sl false () 1 (dInts o))
@[simp] theorem dLs_len (l : List (List Int)) : (dLs l).len = l.length := by simp [dLs]
@[simp] theorem dLs_nil : dLs [] = .nil := rfl
@[simp] theorem dLs_free (l : List (List Int)) : (dLs l).free = true := sq_free fun x hx => by obtain ⟨n, _, rfl⟩ := List.mem_map.1 hx; simp
theorem dLs_nth {l : List (List Int)} {i : Nat} (h : i < l.length) : (dLs l).nth i = .sl false () 1 (dInts l[i]) := by
  rw [dLs, sq_nth_lt (by simpa using h)]; simp
theorem dLs_set (l : List (List Int)) (i : Nat) (x : List Int) : (dLs l).setN i (.sl false () 1 (dInts x)) = dLs (l.set i x) := by simp only [dLs, sq_setN, List.map_set]
theorem dLs_app (l m : List (List Int)) : (dLs l).app (dLs m) = dLs (l ++ m) := by simp only [dLs, sq_app, List.map_append]
theorem dLs_app1 (l : List (List Int)) (x : List Int) : (dLs l).app (.cons (.sl false () 1 (dInts x)) .nil) = dLs (l ++ [x]) := dLs_app l [x]
theorem dLs_mid (l : List (List Int)) (lo n : Nat) : (dLs l).mid lo n = dLs ((l.drop lo).take n) := by simp only [dLs, sq_mid, ← List.map_drop, ← List.map_take]
@[simp] theorem dLs_mid_all (l : List (List Int)) : (dLs l).mid 0 l.length = dLs l := sq_mid_all _ _ (by simp)

/-- A thing. -/
structure Th where
  kind : Int
  sup : Int
  obj : Int
  own : Int
  bef : List Int
  ins : List Int

def dTh (t : Th) : D := .agg (.cons (.val (.int .i64 t.kind)) (.cons (.val (.int .i64 t.sup)) (.cons (.val (.int .i64 t.obj)) (.cons (.val (.int .i64 t.own)) (.cons (.sl false () 1 (dInts t.bef)) (.cons (.sl false () 1 (dInts t.ins)) .nil))))))
def dThs (l : List Th) : D := sq (l.map dTh)
def dL (l : List Th) : D := .box true () (.agg (.cons (.sl true () 6 (dThs l)) .nil))
def avTh (t : Th) : AV := .agg (.cons (avInt t.kind) (.cons (avInt t.sup) (.cons (avInt t.obj) (.cons (avInt t.own) (.cons (.imm 1 (dInts t.bef) false) (.cons (.imm 1 (dInts t.ins) false) .nil))))))
@[simp high] theorem head_dL (l : List Th) : isHead (dL l) = true := by rw [dL, isHead]
@[simp] theorem dThs_len (l : List Th) : (dThs l).len = l.length := by simp [dThs]
@[simp] theorem dThs_free (l : List Th) : (dThs l).free = true := sq_free fun x hx => by obtain ⟨n, _, rfl⟩ := List.mem_map.1 hx; simp [dTh]
theorem dThs_nth {l : List Th} {i : Nat} (h : i < l.length) : (dThs l).nth i = .agg (.cons (.val (.int .i64 l[i].kind)) (.cons (.val (.int .i64 l[i].sup)) (.cons (.val (.int .i64 l[i].obj)) (.cons (.val (.int .i64 l[i].own)) (.cons (.sl false () 1 (dInts l[i].bef)) (.cons (.sl false () 1 (dInts l[i].ins)) .nil)))))) := by
  rw [dThs, sq_nth_lt (by simpa using h)]; simp; rfl
theorem dThs_set (l : List Th) (i : Nat) (t : Th) : (dThs l).setN i (.agg (.cons (.val (.int .i64 t.kind)) (.cons (.val (.int .i64 t.sup)) (.cons (.val (.int .i64 t.obj)) (.cons (.val (.int .i64 t.own)) (.cons (.sl false () 1 (dInts t.bef)) (.cons (.sl false () 1 (dInts t.ins)) .nil))))))) = dThs (l.set i t) := by
  simp only [dThs, sq_setN, List.map_set]; rfl
theorem dThs_push (l : List Th) (t : Th) : (dThs l).app (.cons (.agg (.cons (.val (.int .i64 t.kind)) (.cons (.val (.int .i64 t.sup)) (.cons (.val (.int .i64 t.obj)) (.cons (.val (.int .i64 t.own)) (.cons (.sl false () 1 (dInts t.bef)) (.cons (.sl false () 1 (dInts t.ins)) .nil))))))) .nil) = dThs (l ++ [t]) := by
  simp only [dThs, List.map_append, ← sq_app]; rfl
@[simp] theorem dThs_mid_all (l : List Th) : (dThs l).mid 0 l.length = dThs l := sq_mid_all _ _ (by simp)

/-- Orders that were found. -/
def dEn (e : Int × List Int) : D := .agg (.cons (.val (.int .i64 e.1)) (.cons (.sl false () 1 (dInts e.2)) .nil))
def dEns (l : List (Int × List Int)) : D := sq (l.map dEn)
def dM (l : List (Int × List Int)) : D := .map true () (dEns l)
@[simp high] theorem head_dM (l : List (Int × List Int)) : isHead (dM l) = true := by rw [dM, isHead]
@[simp] theorem dEns_nil : dEns [] = .nil := rfl
theorem dEns_cons (e : Int × List Int) (l : List (Int × List Int)) : dEns (e :: l) = .cons (.agg (.cons (.val (.int .i64 e.1)) (.cons (.sl false () 1 (dInts e.2)) .nil))) (dEns l) := rfl
@[simp] theorem dEns_keys (l : List (Int × List Int)) : mkeysOk (.int .i64) (dEns l) = True := by
  refine eq_true ?_
  induction l with
  | nil => trivial
  | cons e l ih => rw [dEns_cons]; exact ⟨rfl, ih⟩
/-- What was found of a thing. -/
def got (l : List (Int × List Int)) (k : Int) : Option (List Int) := (l.find? fun e => e.1 = k).map (·.2)
theorem dEns_find (l : List (Int × List Int)) (k : Int) : mfind (.int .i64 k) (dEns l) = (got l k).map fun o => .sl false () 1 (dInts o) := by
  induction l with
  | nil => rfl
  | cons e l ih =>
    rw [dEns_cons]
    unfold mfind
    by_cases h : e.1 = k
    · rw [if_pos (by rw [h])]; simp [got, h]
    · rw [if_neg (by simpa using h), ih]; simp [got, h]
theorem dEns_put {l : List (Int × List Int)} {k : Int} (o : List Int) (h : got l k = none) : mput (.int .i64 k) (.sl false () 1 (dInts o)) (dEns l) = dEns (l ++ [(k, o)]) := by
  induction l with
  | nil => rfl
  | cons e l ih =>
    have hne : ¬ e.1 = k := fun he => by simp [got, he] at h
    rw [List.cons_append, dEns_cons, dEns_cons]
    unfold mput
    rw [if_neg (by simpa using hne), ih (by simpa [got, hne] using h)]
end Go.Proofs.Ytahgopdamgagkaa

/- Where something is in a list: slices.Index and Contains. -/
namespace Go.Proofs.Ytahgopdamgagkaa
set_option linter.all false
open Go.Vc Go.Proofs
set_option linter.unusedSimpArgs false
set_option maxRecDepth 100000
set_option maxHeartbeats 4000000
attribute [local irreducible] CallW EqK

/-- The first that is so. -/
def ixF {α : Type} (p : α → Bool) (l : List α) : Int := if l.any p then (l.findIdx p : Int) else -1

theorem ixF_hit {α : Type} {p : α → Bool} {l : List α} {i : Nat} (hi : i < l.length) (hall : ∀ j, (h : j < i) → p (l[j]'(by omega)) = false) (hp : p l[i] = true) : ixF p l = i := by
  have h1 : l.any p = true := List.any_eq_true.2 ⟨_, List.getElem_mem hi, hp⟩
  have h2 : l.findIdx p = i := (List.findIdx_eq hi).2 ⟨hp, fun j hj => hall j hj⟩
  rw [ixF, if_pos h1, h2]
theorem ixF_miss {α : Type} {p : α → Bool} {l : List α} (hall : ∀ j, (h : j < l.length) → p l[j] = false) : ixF p l = -1 := by
  have h1 : ¬ l.any p = true := by
    rw [List.any_eq_true]
    rintro ⟨x, hx, hp⟩
    obtain ⟨i, hi, rfl⟩ := List.getElem_of_mem hx
    rw [hall i hi] at hp; cases hp
  rw [ixF, if_neg h1]
theorem ixF_ge {α : Type} {p : α → Bool} {l : List α} : (0 ≤ ixF p l) = (l.any p = true) := by
  unfold ixF
  by_cases h : l.any p = true
  · rw [if_pos h]; simp [h]
  · rw [if_neg h]; simp [h]
theorem ixF_lt {α : Type} {p : α → Bool} {l : List α} : ixF p l < l.length := by
  unfold ixF
  split
  · rename_i h
    have := List.findIdx_lt_length_of_exists (p := p) (xs := l) (by simpa using h)
    omega
  · omega
theorem ixF_low {α : Type} {p : α → Bool} {l : List α} : -1 ≤ ixF p l := by unfold ixF; split <;> omega

def hasN (l : List Int) (v : Int) : Bool := l.any fun x => decide (x = v)
theorem hasN_iff {l : List Int} {v : Int} : hasN l v = true ↔ v ∈ l := by simp [hasN]

/- slices.Index[[]int,int] -/
theorem index_ok (ex : Bool) (l : List Int) (v : Int) (hl : l.length ≤ 100000000) : Meets Try.prog 46 [] (.cons (.imm 1 (dInts l) ex) (.cons (avInt v) .nil))
    fun av X κ => av = avInt (ixF (fun x => decide (x = v)) l) ∧ X = [] ∧ κ = [] := by
  refine Meets.of_vs tabOk Try.func46 (body := ?_) ?_ (by kernel_rfl) Try.ntmps46 (rs := [.tmp 4]) (by kernel_rfl) rfl (by simp [AV.len]) (by simp only [envOf]; exact rfl) ?_
  rotate_left
  · rfl
  intro w0 I0 F0 hF
  repeat first
    | refine VS.seq ?_
    | refine VS.block ?_
    | (refine VS.keepAt 0 [0, 1] ?_; generalize hK : VS _ _ _ = KK; (try simp); (try subst hK); refine VS.region tabOk (id := 0) [] (by kernel_rfl) ?_; generalize hK : VS _ _ _ = KK; simp (maxSteps := 1000000) [hF]; (try subst hK); try (refine VS.keep [0, 1] ?_; generalize hK : VS _ _ _ = KK; simp; (try subst hK)))
    | (refine VS.keepAt 1 [0, 1] ?_; generalize hK : VS _ _ _ = KK; (try simp); (try subst hK); refine VS.region tabOk (id := 1) [] (by kernel_rfl) ?_; generalize hK : VS _ _ _ = KK; simp (maxSteps := 1000000) [hF]; (try subst hK); try (refine VS.keep [0, 1, 7, 8] ?_; generalize hK : VS _ _ _ = KK; simp; (try subst hK)))
  refine VS.rounds (fun m st => ∃ (i : Nat), i + m = l.length ∧ (∀ j, (h : j < l.length) → j < i → ¬ l[j] = v) ∧ st = ⟨[(0, .imm 1 (dInts l) ex), (1, avInt v), (7, avInt l.length), (8, avInt i)], [], [], []⟩) ⟨l.length, 0, by omega, by omega, by simp⟩ ?_
  rintro m st ⟨i, hi, hall, rfl⟩
  repeat first
    | refine VS.seq ?_
    | (refine VS.keepAt 2 [0, 1, 7, 8] ?_; generalize hK : VS _ _ _ = KK; (try simp); (try subst hK); refine VS.region tabOk (id := 2) [] (by kernel_rfl) ?_; generalize hK : VS _ _ _ = KK; simp (maxSteps := 1000000) [hF]; (try subst hK); try (refine VS.keep [0, 1, 7, 8, 9] ?_; generalize hK : VS _ _ _ = KK; simp; (try subst hK)))
    | (refine VS.cond ?_; generalize hK1 : VS _ _ _ = KK1; generalize hK2 : VS _ _ _ = KK2; simp (maxSteps := 1000000) [hF]; (try subst hK1); (try subst hK2))
  refine ⟨fun hlt => ?_, fun hge => ?_⟩
  · have hi' : i < l.length := by omega
    have hn := dInts_nth hi'
    repeat first
      | refine VS.seq ?_
      | refine VS.skip ?_
      | refine VS.block ?_
      | (refine VS.keepAt 3 [0, 1, 7, 8] ?_; generalize hK : VS _ _ _ = KK; (try simp); (try subst hK); refine VS.region tabOk (id := 3) [] (by kernel_rfl) ?_; generalize hK : VS _ _ _ = KK; simp (maxSteps := 1000000) [hF, hn, hi']; (try subst hK); try (refine VS.keep [0, 1, 5, 7, 8] ?_; generalize hK : VS _ _ _ = KK; simp; (try subst hK)))
      | (refine VS.keepAt 4 [0, 1, 5, 7, 8] ?_; generalize hK : VS _ _ _ = KK; (try simp); (try subst hK); refine VS.region tabOk (id := 4) [] (by kernel_rfl) ?_; generalize hK : VS _ _ _ = KK; simp (maxSteps := 1000000) [hF, hn, hi']; (try subst hK); try (refine VS.keep [0, 1, 5, 7, 8, 16] ?_; generalize hK : VS _ _ _ = KK; simp; (try subst hK)))
      | (refine VS.cond ?_; generalize hK1 : VS _ _ _ = KK1; generalize hK2 : VS _ _ _ = KK2; simp (maxSteps := 1000000) [hF, hn, hi']; (try subst hK1); (try subst hK2))
    refine ⟨fun he => ?_, fun he => ?_⟩
    · have hr : ixF (fun x => decide (x = v)) l = i := ixF_hit hi' (fun j h => by simpa using hall j (by omega) h) (by simpa using he.symm)
      repeat first
        | refine VS.seq ?_
        | (refine VS.keepAt 5 [5] ?_; generalize hK : VS _ _ _ = KK; (try simp); (try subst hK); refine VS.region tabOk (id := 5) [] (by kernel_rfl) ?_; generalize hK : VS _ _ _ = KK; simp (maxSteps := 1000000) [hF]; (try subst hK); try (refine VS.keep [4] ?_; generalize hK : VS _ _ _ = KK; simp; (try subst hK)))
      try refine VS.ret ?_
      repeat first | refine blockN_ret ?_ | refine loopN_ret ?_
      refine endK.of [4] [] [] (by simp [hF]) (by simp [covers, mpre]) ?_
      simp [hF, retK, hr]
    · repeat first
        | refine VS.skip ?_
        | refine VS.nil ?_
        | refine blockN_normal ?_
        | refine loopN_normal ?_
        | (refine VS.keepAt 6 [0, 1, 7, 8] ?_; generalize hK : VS _ _ _ = KK; (try simp); (try subst hK); refine VS.region tabOk (id := 6) [] (by kernel_rfl) ?_; generalize hK : VS _ _ _ = KK; simp (maxSteps := 1000000) [hF]; (try subst hK); try (refine VS.keep [0, 1, 7, 8] ?_; generalize hK : VS _ _ _ = KK; simp; (try subst hK)))
      refine nextK.of [0, 1, 7, 8] [] (m - 1) (by omega) (by simp [hF]) ?_
      refine ⟨i + 1, by omega, ?_, ?_⟩
      · intro j hj hji
        rcases Nat.lt_or_ge j i with h' | h'
        · exact hall j hj h'
        · obtain rfl : j = i := by omega
          exact fun e => he e.symm
      · simp
        exact IntWalk.i64_in _ (by omega)
  · have hr : ixF (fun x => decide (x = v)) l = -1 := ixF_miss (fun j h => by simpa using hall j h (by omega))
    repeat first
      | refine VS.seq ?_
      | refine VS.exit ?_
      | (refine VS.keepAt 7 [] ?_; generalize hK : VS _ _ _ = KK; (try simp); (try subst hK); refine VS.region tabOk (id := 7) [] (by kernel_rfl) ?_; generalize hK : VS _ _ _ = KK; simp (maxSteps := 1000000) [hF]; (try subst hK); try (refine VS.keep [4] ?_; generalize hK : VS _ _ _ = KK; simp; (try subst hK)))
    try refine VS.ret ?_
    repeat first | refine blockN_ret ?_ | refine loopN_ret ?_
    refine endK.of [4] [] [] (by simp [hF]) (by simp [covers, mpre]) ?_
    simp [hF, retK, hr]

/- slices.Contains[[]int,int] -/
theorem contains_ok (ex : Bool) (l : List Int) (v : Int) (hl : l.length ≤ 100000000) : Meets Try.prog 45 [] (.cons (.imm 1 (dInts l) ex) (.cons (avInt v) .nil))
    fun av X κ => av = avBool (hasN l v) ∧ X = [] ∧ κ = [] := by
  refine Meets.of_vs tabOk Try.func45 (body := ?_) ?_ (by kernel_rfl) Try.ntmps45 (rs := [.tmp 4]) (by kernel_rfl) rfl (by simp [AV.len]) (by simp only [envOf]; exact rfl) ?_
  rotate_left
  · rfl
  intro w0 I0 F0 hF
  repeat first
    | refine VS.seq ?_
    | (refine VS.keepAt 0 [0, 1] ?_; generalize hK : VS _ _ _ = KK; (try simp); (try subst hK); refine VS.region tabOk (id := 0) [] (by kernel_rfl) ?_; generalize hK : VS _ _ _ = KK; simp (maxSteps := 1000000) [hF]; (try subst hK); try (refine VS.keep [0, 1] ?_; generalize hK : VS _ _ _ = KK; simp; (try subst hK)))
    | (refine VS.keepAt 1 [0, 1] ?_; generalize hK : VS _ _ _ = KK; (try simp); (try subst hK); refine VS.region tabOk (id := 1) [] (by kernel_rfl) ?_; generalize hK : VS _ _ _ = KK; simp (maxSteps := 1000000) [hF]; (try subst hK); try (refine VS.keep [4] ?_; generalize hK : VS _ _ _ = KK; simp; (try subst hK)))
  refine (index_ok ex l v hl).call [] (by simp) (by simp (maxSteps := 1000000) [hF]) (by simp (maxSteps := 1000000) [hF]) (by simp (maxSteps := 1000000) [hF]) (by simp) ?_
  rintro av X κ ⟨rfl, rfl, rfl⟩
  generalize hK : VS _ _ _ = KK; simp (maxSteps := 1000000) [hF]; (try subst hK)
  have h : decide (0 ≤ ixF (fun x => decide (x = v)) l) = hasN l v := by simp only [ixF_ge, hasN, Bool.decide_eq_true]
  try refine VS.ret ?_
  repeat first | refine blockN_ret ?_ | refine loopN_ret ?_
  refine endK.of [4] [] [] (by simp [hF]) (by simp [covers, mpre]) ?_
  simp [hF, retK, h]
end Go.Proofs.Ytahgopdamgagkaa

/- The first list that is so: slices.IndexFunc and ContainsFunc, with the closures of merge. -/
namespace Go.Proofs.Ytahgopdamgagkaa
set_option linter.all false
open Go.Vc Go.Proofs
set_option linter.unusedSimpArgs false
set_option maxRecDepth 100000
set_option maxHeartbeats 4000000
attribute [local irreducible] CallW EqK

def dBox (x : List Int) : D := .box true () (.sl false () 1 (dInts x))
def dBoxL (l : List (List Int)) : D := .box true () (.sl true () 1 (dLs l))
@[simp high] theorem head_dBox (l : List Int) : isHead (dBox l) = true := by rw [dBox, isHead]
@[simp high] theorem head_dBoxL (l : List (List Int)) : isHead (dBoxL l) = true := by rw [dBoxL, isHead]

/- slices.IndexFunc[[][]int,[]int] -/
theorem indexFunc_1 (ex : Bool) (ls : List (List Int)) (hl : ls.length ≤ 100000000) (p : List Int → Bool)
    (hg : ∀ i, (h : i < ls.length) → Meets Try.prog 59 [] (.cons (.imm 1 (dInts ls[i]) false) .nil) fun av X κ => av = avBool (p ls[i]) ∧ X = [] ∧ κ = []) :
    Meets Try.prog 60 [.sl true () 1 (dLs ls)] (.cons (.sub 0 [] 0 ls.length ex) (.cons (.fn 59 .nil) .nil))
    fun av X κ => av = avInt (ixF p ls) ∧ X = [.sl true () 1 (dLs ls)] ∧ κ = [] := by
  refine Meets.of_vs tabOk Try.func60 (body := ?_) ?_ (by kernel_rfl) Try.ntmps60 (rs := [.tmp 4]) (by kernel_rfl) rfl (by simp [AV.len]) (by simp only [envOf]; exact rfl) ?_
  rotate_left
  · rfl
  intro w0 I0 F0 hF
  repeat first
    | refine VS.seq ?_
    | refine VS.block ?_
    | (refine VS.keepAt 0 [0, 1] ?_; generalize hK : VS _ _ _ = KK; (try simp); (try subst hK); refine VS.region tabOk (id := 0) [] (by kernel_rfl) ?_; generalize hK : VS _ _ _ = KK; simp (maxSteps := 1000000) [hF]; (try subst hK); try (refine VS.keep [0, 1] ?_; generalize hK : VS _ _ _ = KK; simp; (try subst hK)))
    | (refine VS.keepAt 1 [0, 1] ?_; generalize hK : VS _ _ _ = KK; (try simp); (try subst hK); refine VS.region tabOk (id := 1) [] (by kernel_rfl) ?_; generalize hK : VS _ _ _ = KK; simp (maxSteps := 1000000) [hF]; (try subst hK); try (refine VS.keep [0, 1, 7, 8] ?_; generalize hK : VS _ _ _ = KK; simp; (try subst hK)))
  refine VS.rounds (fun m st => ∃ (i : Nat), i + m = ls.length ∧ (∀ j, (h : j < ls.length) → j < i → p ls[j] = false) ∧ st = ⟨[(0, .sub 0 [] 0 ls.length ex), (1, .fn 59 .nil), (7, avInt ls.length), (8, avInt i)], [.sl true () 1 (dLs ls)], [], []⟩) ⟨ls.length, 0, by omega, by omega, by simp ⟩ ?_
  rintro m st ⟨i, hi, hall, rfl⟩
  repeat first
    | refine VS.seq ?_
    | (refine VS.keepAt 2 [0, 1, 7, 8] ?_; generalize hK : VS _ _ _ = KK; (try simp); (try subst hK); refine VS.region tabOk (id := 2) [] (by kernel_rfl) ?_; generalize hK : VS _ _ _ = KK; simp (maxSteps := 1000000) [hF]; (try subst hK); try (refine VS.keep [0, 1, 7, 8, 9] ?_; generalize hK : VS _ _ _ = KK; simp; (try subst hK)))
    | (refine VS.cond ?_; generalize hK1 : VS _ _ _ = KK1; generalize hK2 : VS _ _ _ = KK2; simp (maxSteps := 1000000) [hF]; (try subst hK1); (try subst hK2))
  refine ⟨fun hlt => ?_, fun hge => ?_⟩
  · have hi' : i < ls.length := by omega
    have hn := dLs_nth hi'
    repeat first
      | refine VS.seq ?_
      | refine VS.skip ?_
      | refine VS.block ?_
      | (refine VS.keepAt 3 [0, 1, 7, 8] ?_; generalize hK : VS _ _ _ = KK; (try simp); (try subst hK); refine VS.region tabOk (id := 3) [] (by kernel_rfl) ?_; generalize hK : VS _ _ _ = KK; simp (maxSteps := 1000000) [hF, hn, hi']; (try subst hK); try (refine VS.keep [0, 1, 5, 7, 8] ?_; generalize hK : VS _ _ _ = KK; simp; (try subst hK)))
      | (refine VS.keepAt 4 [0, 1, 5, 7, 8] ?_; generalize hK : VS _ _ _ = KK; (try simp); (try subst hK); refine VS.region tabOk (id := 4) [] (by kernel_rfl) ?_; generalize hK : VS _ _ _ = KK; simp (maxSteps := 1000000) [hF, hn, hi']; (try subst hK); try (refine VS.keep [0, 1, 5, 7, 8, 16] ?_; generalize hK : VS _ _ _ = KK; simp; (try subst hK)))
    refine (hg i hi').call [] (by simp) (by simp (maxSteps := 1000000) [hF]) (by simp (maxSteps := 1000000) [hF]) (by simp (maxSteps := 1000000) [hF]) (by simp) ?_
    rintro av X κ ⟨rfl, rfl, rfl⟩
    generalize hK : VS _ _ _ = KK; simp (maxSteps := 1000000) [hF]; (try subst hK)
    cases hp : p ls[i] with
    | true =>
      have hr : ixF p ls = i := ixF_hit hi' (fun j h => hall j (by omega) h) hp
      repeat first
        | refine VS.seq ?_
        | (refine VS.keepAt 5 [5] ?_; generalize hK : VS _ _ _ = KK; (try simp); (try subst hK); refine VS.region tabOk (id := 5) [] (by kernel_rfl) ?_; generalize hK : VS _ _ _ = KK; simp (maxSteps := 1000000) [hF, hp]; (try subst hK); try (refine VS.keep [4] ?_; generalize hK : VS _ _ _ = KK; simp; (try subst hK)))
        | (refine VS.cond ?_; generalize hK1 : VS _ _ _ = KK1; generalize hK2 : VS _ _ _ = KK2; simp (maxSteps := 1000000) [hF, hp]; (try subst hK1); (try subst hK2))
      try refine VS.ret ?_
      repeat first | refine blockN_ret ?_ | refine loopN_ret ?_
      refine endK.of [4] [0] [] (by simp [hF]) (by simp [covers, mpre]) ?_
      simp [hF, retK, hr]
    | false =>
      repeat first
        | refine VS.skip ?_
        | refine VS.nil ?_
        | refine blockN_normal ?_
        | refine loopN_normal ?_
        | (refine VS.keepAt 6 [0, 1, 7, 8] ?_; generalize hK : VS _ _ _ = KK; (try simp); (try subst hK); refine VS.region tabOk (id := 6) [] (by kernel_rfl) ?_; generalize hK : VS _ _ _ = KK; simp (maxSteps := 1000000) [hF, hp]; (try subst hK); try (refine VS.keep [0, 1, 7, 8] ?_; generalize hK : VS _ _ _ = KK; simp; (try subst hK)))
        | (refine VS.cond ?_; generalize hK1 : VS _ _ _ = KK1; generalize hK2 : VS _ _ _ = KK2; simp (maxSteps := 1000000) [hF, hp]; (try subst hK1); (try subst hK2))
      refine nextK.of [0, 1, 7, 8] [0] (m - 1) (by omega) (by simp [hF]) ?_
      refine ⟨i + 1, by omega, ?_, ?_⟩
      · intro j hj hji
        rcases Nat.lt_or_ge j i with h' | h'
        · exact hall j hj h'
        · obtain rfl : j = i := by omega
          exact hp
      · simp 
        exact IntWalk.i64_in _ (by omega)
  · have hr : ixF p ls = -1 := ixF_miss (fun j h => hall j h (by omega))
    repeat first
      | refine VS.seq ?_
      | refine VS.exit ?_
      | (refine VS.keepAt 7 [] ?_; generalize hK : VS _ _ _ = KK; (try simp); (try subst hK); refine VS.region tabOk (id := 7) [] (by kernel_rfl) ?_; generalize hK : VS _ _ _ = KK; simp (maxSteps := 1000000) [hF]; (try subst hK); try (refine VS.keep [4] ?_; generalize hK : VS _ _ _ = KK; simp; (try subst hK)))
    try refine VS.ret ?_
    repeat first | refine blockN_ret ?_ | refine loopN_ret ?_
    refine endK.of [4] [0] [] (by simp [hF]) (by simp [covers, mpre]) ?_
    simp [hF, retK, hr]

/- slices.IndexFunc[[][]int,[]int] -/
theorem indexFunc_2 (ex : Bool) (ls : List (List Int)) (hl : ls.length ≤ 100000000) (p : List Int → Bool)
    (hg : ∀ i, (h : i < ls.length) → Meets Try.prog 61 [dBoxL ls] (.cons (.imm 1 (dInts ls[i]) false) (.cons (.ptr 0 [.d]) .nil)) fun av X κ => av = avBool (p ls[i]) ∧ X = [dBoxL ls] ∧ κ = []) :
    Meets Try.prog 60 [dBoxL ls] (.cons (.sub 0 [.d] 0 ls.length ex) (.cons (.fn 61 (.cons (.ptr 0 [.d]) .nil)) .nil))
    fun av X κ => av = avInt (ixF p ls) ∧ X = [dBoxL ls] ∧ κ = [] := by
  refine Meets.of_vs tabOk Try.func60 (body := ?_) ?_ (by kernel_rfl) Try.ntmps60 (rs := [.tmp 4]) (by kernel_rfl) rfl (by simp [AV.len]) (by simp only [envOf]; exact rfl) ?_
  rotate_left
  · rfl
  intro w0 I0 F0 hF
  repeat first
    | refine VS.seq ?_
    | refine VS.block ?_
    | (refine VS.keepAt 0 [0, 1] ?_; generalize hK : VS _ _ _ = KK; (try simp); (try subst hK); refine VS.region tabOk (id := 0) [] (by kernel_rfl) ?_; generalize hK : VS _ _ _ = KK; simp (maxSteps := 1000000) [hF, dBoxL]; (try subst hK); try (refine VS.keep [0, 1] ?_; generalize hK : VS _ _ _ = KK; simp; (try subst hK)))
    | (refine VS.keepAt 1 [0, 1] ?_; generalize hK : VS _ _ _ = KK; (try simp); (try subst hK); refine VS.region tabOk (id := 1) [] (by kernel_rfl) ?_; generalize hK : VS _ _ _ = KK; simp (maxSteps := 1000000) [hF, dBoxL]; (try subst hK); try (refine VS.keep [0, 1, 7, 8] ?_; generalize hK : VS _ _ _ = KK; simp; (try subst hK)))
  refine VS.rounds (fun m st => ∃ (i : Nat), i + m = ls.length ∧ (∀ j, (h : j < ls.length) → j < i → p ls[j] = false) ∧ st = ⟨[(0, .sub 0 [.d] 0 ls.length ex), (1, .fn 61 (.cons (.ptr 0 [.d]) .nil)), (7, avInt ls.length), (8, avInt i)], [dBoxL ls], [], []⟩) ⟨ls.length, 0, by omega, by omega, by simp [dBoxL]⟩ ?_
  rintro m st ⟨i, hi, hall, rfl⟩
  repeat first
    | refine VS.seq ?_
    | (refine VS.keepAt 2 [0, 1, 7, 8] ?_; generalize hK : VS _ _ _ = KK; (try simp); (try subst hK); refine VS.region tabOk (id := 2) [] (by kernel_rfl) ?_; generalize hK : VS _ _ _ = KK; simp (maxSteps := 1000000) [hF, dBoxL]; (try subst hK); try (refine VS.keep [0, 1, 7, 8, 9] ?_; generalize hK : VS _ _ _ = KK; simp; (try subst hK)))
    | (refine VS.cond ?_; generalize hK1 : VS _ _ _ = KK1; generalize hK2 : VS _ _ _ = KK2; simp (maxSteps := 1000000) [hF, dBoxL]; (try subst hK1); (try subst hK2))
  refine ⟨fun hlt => ?_, fun hge => ?_⟩
  · have hi' : i < ls.length := by omega
    have hn := dLs_nth hi'
    repeat first
      | refine VS.seq ?_
      | refine VS.skip ?_
      | refine VS.block ?_
      | (refine VS.keepAt 3 [0, 1, 7, 8] ?_; generalize hK : VS _ _ _ = KK; (try simp); (try subst hK); refine VS.region tabOk (id := 3) [] (by kernel_rfl) ?_; generalize hK : VS _ _ _ = KK; simp (maxSteps := 1000000) [hF, dBoxL, hn, hi']; (try subst hK); try (refine VS.keep [0, 1, 5, 7, 8] ?_; generalize hK : VS _ _ _ = KK; simp; (try subst hK)))
      | (refine VS.keepAt 4 [0, 1, 5, 7, 8] ?_; generalize hK : VS _ _ _ = KK; (try simp); (try subst hK); refine VS.region tabOk (id := 4) [] (by kernel_rfl) ?_; generalize hK : VS _ _ _ = KK; simp (maxSteps := 1000000) [hF, dBoxL, hn, hi']; (try subst hK); try (refine VS.keep [0, 1, 5, 7, 8, 16] ?_; generalize hK : VS _ _ _ = KK; simp; (try subst hK)))
    refine (hg i hi').call [(0, [])] (by simp) (by simp (maxSteps := 1000000) [hF, dBoxL]) (by simp (maxSteps := 1000000) [hF, dBoxL]) (by simp (maxSteps := 1000000) [hF, dBoxL]) (by simp) ?_
    rintro av X κ ⟨rfl, rfl, rfl⟩
    generalize hK : VS _ _ _ = KK; simp (maxSteps := 1000000) [hF, dBoxL]; (try subst hK)
    cases hp : p ls[i] with
    | true =>
      have hr : ixF p ls = i := ixF_hit hi' (fun j h => hall j (by omega) h) hp
      repeat first
        | refine VS.seq ?_
        | (refine VS.keepAt 5 [5] ?_; generalize hK : VS _ _ _ = KK; (try simp); (try subst hK); refine VS.region tabOk (id := 5) [] (by kernel_rfl) ?_; generalize hK : VS _ _ _ = KK; simp (maxSteps := 1000000) [hF, hp]; (try subst hK); try (refine VS.keep [4] ?_; generalize hK : VS _ _ _ = KK; simp; (try subst hK)))
        | (refine VS.cond ?_; generalize hK1 : VS _ _ _ = KK1; generalize hK2 : VS _ _ _ = KK2; simp (maxSteps := 1000000) [hF, hp]; (try subst hK1); (try subst hK2))
      try refine VS.ret ?_
      repeat first | refine blockN_ret ?_ | refine loopN_ret ?_
      refine endK.of [4] [0] [] (by simp [hF]) (by simp [covers, mpre]) ?_
      simp [hF, retK, dBoxL, hr]
    | false =>
      repeat first
        | refine VS.skip ?_
        | refine VS.nil ?_
        | refine blockN_normal ?_
        | refine loopN_normal ?_
        | (refine VS.keepAt 6 [0, 1, 7, 8] ?_; generalize hK : VS _ _ _ = KK; (try simp); (try subst hK); refine VS.region tabOk (id := 6) [] (by kernel_rfl) ?_; generalize hK : VS _ _ _ = KK; simp (maxSteps := 1000000) [hF, hp]; (try subst hK); try (refine VS.keep [0, 1, 7, 8] ?_; generalize hK : VS _ _ _ = KK; simp; (try subst hK)))
        | (refine VS.cond ?_; generalize hK1 : VS _ _ _ = KK1; generalize hK2 : VS _ _ _ = KK2; simp (maxSteps := 1000000) [hF, hp]; (try subst hK1); (try subst hK2))
      refine nextK.of [0, 1, 7, 8] [0] (m - 1) (by omega) (by simp [hF]) ?_
      refine ⟨i + 1, by omega, ?_, ?_⟩
      · intro j hj hji
        rcases Nat.lt_or_ge j i with h' | h'
        · exact hall j hj h'
        · obtain rfl : j = i := by omega
          exact hp
      · simp [dBoxL]
        exact IntWalk.i64_in _ (by omega)
  · have hr : ixF p ls = -1 := ixF_miss (fun j h => hall j h (by omega))
    repeat first
      | refine VS.seq ?_
      | refine VS.exit ?_
      | (refine VS.keepAt 7 [] ?_; generalize hK : VS _ _ _ = KK; (try simp); (try subst hK); refine VS.region tabOk (id := 7) [] (by kernel_rfl) ?_; generalize hK : VS _ _ _ = KK; simp (maxSteps := 1000000) [hF]; (try subst hK); try (refine VS.keep [4] ?_; generalize hK : VS _ _ _ = KK; simp; (try subst hK)))
    try refine VS.ret ?_
    repeat first | refine blockN_ret ?_ | refine loopN_ret ?_
    refine endK.of [4] [0] [] (by simp [hF]) (by simp [covers, mpre]) ?_
    simp [hF, retK, dBoxL, hr]

/- slices.IndexFunc[[][]int,[]int] -/
theorem indexFunc_3 (ex : Bool) (ls : List (List Int)) (x : List Int) (hl : ls.length ≤ 100000000) (p : List Int → Bool)
    (hg : ∀ i, (h : i < ls.length) → Meets Try.prog 63 [dBox x] (.cons (.imm 1 (dInts ls[i]) false) (.cons (.ptr 0 [.d]) .nil)) fun av X κ => av = avBool (p ls[i]) ∧ X = [dBox x] ∧ κ = []) :
    Meets Try.prog 60 [dBoxL ls, dBox x] (.cons (.sub 0 [.d] 0 ls.length ex) (.cons (.fn 63 (.cons (.ptr 1 [.d]) .nil)) .nil))
    fun av X κ => av = avInt (ixF p ls) ∧ X = [dBoxL ls, dBox x] ∧ κ = [] := by
  refine Meets.of_vs tabOk Try.func60 (body := ?_) ?_ (by kernel_rfl) Try.ntmps60 (rs := [.tmp 4]) (by kernel_rfl) rfl (by simp [AV.len]) (by simp only [envOf]; exact rfl) ?_
  rotate_left
  · rfl
  intro w0 I0 F0 hF
  repeat first
    | refine VS.seq ?_
    | refine VS.block ?_
    | (refine VS.keepAt 0 [0, 1] ?_; generalize hK : VS _ _ _ = KK; (try simp); (try subst hK); refine VS.region tabOk (id := 0) [] (by kernel_rfl) ?_; generalize hK : VS _ _ _ = KK; simp (maxSteps := 1000000) [hF, dBoxL, dBox]; (try subst hK); try (refine VS.keep [0, 1] ?_; generalize hK : VS _ _ _ = KK; simp; (try subst hK)))
    | (refine VS.keepAt 1 [0, 1] ?_; generalize hK : VS _ _ _ = KK; (try simp); (try subst hK); refine VS.region tabOk (id := 1) [] (by kernel_rfl) ?_; generalize hK : VS _ _ _ = KK; simp (maxSteps := 1000000) [hF, dBoxL, dBox]; (try subst hK); try (refine VS.keep [0, 1, 7, 8] ?_; generalize hK : VS _ _ _ = KK; simp; (try subst hK)))
  refine VS.rounds (fun m st => ∃ (i : Nat), i + m = ls.length ∧ (∀ j, (h : j < ls.length) → j < i → p ls[j] = false) ∧ st = ⟨[(0, .sub 0 [.d] 0 ls.length ex), (1, .fn 63 (.cons (.ptr 1 [.d]) .nil)), (7, avInt ls.length), (8, avInt i)], [dBoxL ls, dBox x], [], []⟩) ⟨ls.length, 0, by omega, by omega, by simp [dBoxL, dBox]⟩ ?_
  rintro m st ⟨i, hi, hall, rfl⟩
  repeat first
    | refine VS.seq ?_
    | (refine VS.keepAt 2 [0, 1, 7, 8] ?_; generalize hK : VS _ _ _ = KK; (try simp); (try subst hK); refine VS.region tabOk (id := 2) [] (by kernel_rfl) ?_; generalize hK : VS _ _ _ = KK; simp (maxSteps := 1000000) [hF, dBoxL, dBox]; (try subst hK); try (refine VS.keep [0, 1, 7, 8, 9] ?_; generalize hK : VS _ _ _ = KK; simp; (try subst hK)))
    | (refine VS.cond ?_; generalize hK1 : VS _ _ _ = KK1; generalize hK2 : VS _ _ _ = KK2; simp (maxSteps := 1000000) [hF, dBoxL, dBox]; (try subst hK1); (try subst hK2))
  refine ⟨fun hlt => ?_, fun hge => ?_⟩
  · have hi' : i < ls.length := by omega
    have hn := dLs_nth hi'
    repeat first
      | refine VS.seq ?_
      | refine VS.skip ?_
      | refine VS.block ?_
      | (refine VS.keepAt 3 [0, 1, 7, 8] ?_; generalize hK : VS _ _ _ = KK; (try simp); (try subst hK); refine VS.region tabOk (id := 3) [] (by kernel_rfl) ?_; generalize hK : VS _ _ _ = KK; simp (maxSteps := 1000000) [hF, dBoxL, dBox, hn, hi']; (try subst hK); try (refine VS.keep [0, 1, 5, 7, 8] ?_; generalize hK : VS _ _ _ = KK; simp; (try subst hK)))
      | (refine VS.keepAt 4 [0, 1, 5, 7, 8] ?_; generalize hK : VS _ _ _ = KK; (try simp); (try subst hK); refine VS.region tabOk (id := 4) [] (by kernel_rfl) ?_; generalize hK : VS _ _ _ = KK; simp (maxSteps := 1000000) [hF, dBoxL, dBox, hn, hi']; (try subst hK); try (refine VS.keep [0, 1, 5, 7, 8, 16] ?_; generalize hK : VS _ _ _ = KK; simp; (try subst hK)))
    refine (hg i hi').call [(1, [])] (by simp) (by simp (maxSteps := 1000000) [hF, dBoxL, dBox]) (by simp (maxSteps := 1000000) [hF, dBoxL, dBox]) (by simp (maxSteps := 1000000) [hF, dBoxL, dBox]) (by simp) ?_
    rintro av X κ ⟨rfl, rfl, rfl⟩
    generalize hK : VS _ _ _ = KK; simp (maxSteps := 1000000) [hF, dBoxL, dBox]; (try subst hK)
    cases hp : p ls[i] with
    | true =>
      have hr : ixF p ls = i := ixF_hit hi' (fun j h => hall j (by omega) h) hp
      repeat first
        | refine VS.seq ?_
        | (refine VS.keepAt 5 [5] ?_; generalize hK : VS _ _ _ = KK; (try simp); (try subst hK); refine VS.region tabOk (id := 5) [] (by kernel_rfl) ?_; generalize hK : VS _ _ _ = KK; simp (maxSteps := 1000000) [hF, hp]; (try subst hK); try (refine VS.keep [4] ?_; generalize hK : VS _ _ _ = KK; simp; (try subst hK)))
        | (refine VS.cond ?_; generalize hK1 : VS _ _ _ = KK1; generalize hK2 : VS _ _ _ = KK2; simp (maxSteps := 1000000) [hF, hp]; (try subst hK1); (try subst hK2))
      try refine VS.ret ?_
      repeat first | refine blockN_ret ?_ | refine loopN_ret ?_
      refine endK.of [4] [0, 1] [] (by simp [hF]) (by simp [covers, mpre]) ?_
      simp [hF, retK, dBoxL, dBox, hr]
    | false =>
      repeat first
        | refine VS.skip ?_
        | refine VS.nil ?_
        | refine blockN_normal ?_
        | refine loopN_normal ?_
        | (refine VS.keepAt 6 [0, 1, 7, 8] ?_; generalize hK : VS _ _ _ = KK; (try simp); (try subst hK); refine VS.region tabOk (id := 6) [] (by kernel_rfl) ?_; generalize hK : VS _ _ _ = KK; simp (maxSteps := 1000000) [hF, hp]; (try subst hK); try (refine VS.keep [0, 1, 7, 8] ?_; generalize hK : VS _ _ _ = KK; simp; (try subst hK)))
        | (refine VS.cond ?_; generalize hK1 : VS _ _ _ = KK1; generalize hK2 : VS _ _ _ = KK2; simp (maxSteps := 1000000) [hF, hp]; (try subst hK1); (try subst hK2))
      refine nextK.of [0, 1, 7, 8] [0, 1] (m - 1) (by omega) (by simp [hF]) ?_
      refine ⟨i + 1, by omega, ?_, ?_⟩
      · intro j hj hji
        rcases Nat.lt_or_ge j i with h' | h'
        · exact hall j hj h'
        · obtain rfl : j = i := by omega
          exact hp
      · simp [dBoxL, dBox]
        exact IntWalk.i64_in _ (by omega)
  · have hr : ixF p ls = -1 := ixF_miss (fun j h => hall j h (by omega))
    repeat first
      | refine VS.seq ?_
      | refine VS.exit ?_
      | (refine VS.keepAt 7 [] ?_; generalize hK : VS _ _ _ = KK; (try simp); (try subst hK); refine VS.region tabOk (id := 7) [] (by kernel_rfl) ?_; generalize hK : VS _ _ _ = KK; simp (maxSteps := 1000000) [hF]; (try subst hK); try (refine VS.keep [4] ?_; generalize hK : VS _ _ _ = KK; simp; (try subst hK)))
    try refine VS.ret ?_
    repeat first | refine blockN_ret ?_ | refine loopN_ret ?_
    refine endK.of [4] [0, 1] [] (by simp [hF]) (by simp [covers, mpre]) ?_
    simp [hF, retK, dBoxL, dBox, hr]

end Go.Proofs.Ytahgopdamgagkaa

/- The closures of merge. -/
namespace Go.Proofs.Ytahgopdamgagkaa
set_option linter.all false
open Go.Vc Go.Proofs
set_option linter.unusedSimpArgs false
set_option maxRecDepth 100000
set_option maxHeartbeats 4000000
attribute [local irreducible] CallW EqK

theorem dInts_tail (y : List Int) : (dInts y).mid 1 (y.length - 1) = dInts y.tail := by
  rw [dInts_mid, List.take_of_length_le (by simp), List.drop_one]

def nul (x : List Int) : Bool := decide (x.length = 0)

/- cabochon/lineage.merge$1 -/
theorem m1_ok (ex : Bool) (x : List Int) : Meets Try.prog 59 [] (.cons (.imm 1 (dInts x) ex) .nil) fun av X κ => av = avBool (nul x) ∧ X = [] ∧ κ = [] := by
  refine Meets.of_vs tabOk Try.func59 (body := ?_) ?_ (by kernel_rfl) Try.ntmps59 (rs := [.tmp 2]) (by kernel_rfl) rfl (by simp [AV.len]) (by simp only [envOf]; exact rfl) ?_
  rotate_left
  · rfl
  intro w0 I0 F0 hF
  repeat first
    | refine VS.seq ?_
    | (refine VS.keepAt 0 [0] ?_; generalize hK : VS _ _ _ = KK; (try simp); (try subst hK); refine VS.region tabOk (id := 0) [] (by kernel_rfl) ?_; generalize hK : VS _ _ _ = KK; simp (maxSteps := 1000000) [hF]; (try subst hK); try (refine VS.keep [0] ?_; generalize hK : VS _ _ _ = KK; simp; (try subst hK)))
    | (refine VS.keepAt 1 [0] ?_; generalize hK : VS _ _ _ = KK; (try simp); (try subst hK); refine VS.region tabOk (id := 1) [] (by kernel_rfl) ?_; generalize hK : VS _ _ _ = KK; simp (maxSteps := 1000000) [hF]; (try subst hK); try (refine VS.keep [2] ?_; generalize hK : VS _ _ _ = KK; simp; (try subst hK)))
  try refine VS.ret ?_
  repeat first | refine blockN_ret ?_ | refine loopN_ret ?_
  refine endK.of [2] [] [] (by simp [hF]) (by simp [covers, mpre]) ?_
  simp [hF, retK, nul]

/- cabochon/lineage.merge$2$1 -/
theorem m21_ok (ex : Bool) (y x : List Int) (hy : 0 < y.length) (hy2 : y.length ≤ 100000000) (hx : 0 < x.length) : Meets Try.prog 63 [dBox x] (.cons (.imm 1 (dInts y) ex) (.cons (.ptr 0 [.d]) .nil))
    fun av X κ => av = avBool (hasN y.tail x[0]) ∧ X = [dBox x] ∧ κ = [] := by
  have hn := dInts_nth hx
  have h1 : 1 ≤ y.length := hy
  have h2 : (1 : Int) ≤ y.length := by omega
  refine Meets.of_vs tabOk Try.func63 (body := ?_) ?_ (by kernel_rfl) Try.ntmps63 (rs := [.tmp 3]) (by kernel_rfl) rfl (by simp [AV.len]) (by simp only [envOf]; exact rfl) ?_
  rotate_left
  · rfl
  intro w0 I0 F0 hF
  repeat first
    | refine VS.seq ?_
    | (refine VS.keepAt 0 [0, 1] ?_; generalize hK : VS _ _ _ = KK; (try simp); (try subst hK); refine VS.region tabOk (id := 0) [] (by kernel_rfl) ?_; generalize hK : VS _ _ _ = KK; simp (maxSteps := 1000000) [hF, dBox, hn, hx, h1, h2, dInts_tail]; (try subst hK); try (refine VS.keep [0, 1] ?_; generalize hK : VS _ _ _ = KK; simp; (try subst hK)))
    | (refine VS.keepAt 1 [0, 1] ?_; generalize hK : VS _ _ _ = KK; (try simp); (try subst hK); refine VS.drawn tabOk mixedOk (id := 1) [] [⟨0, 1, 16, 5⟩, ⟨1, 16, 32, 5⟩, ⟨0, 2, 64, 6⟩, ⟨4, 64, 128, 5⟩, ⟨8, 128, 256, 6⟩, ⟨18, 288, 512, 0⟩, ⟨63, 512, 8, 5⟩] (.take 0 (.take 1 (.take 2 (.take 3 (.take 4 (.fork (.alt 5 (.take 6 (.done)) (.nil)))))))) (.run [0, 1, 2, 3, 4, 5, 6] (.done)) (by kernel_rfl) (by kernel_rfl) (by kernel_rfl) ?_; generalize hK : VS _ _ _ = KK; simp only [opsVc_run, opsVc_both, opsVc_chk, opsVc_done, opsVc_yes, pick_cons, pick_nil, List.getElem?_cons_zero, List.getElem?_cons_succ]; simp (maxSteps := 1000000) [hF, dBox, hn, hx, h1, h2, dInts_tail]; (try subst hK); try (refine VS.keep [3] ?_; generalize hK : VS _ _ _ = KK; simp; (try subst hK)))
  refine (contains_ok ex y.tail x[0] (by simp; omega)).call [] (by simp) (by simp (maxSteps := 1000000) [hF]) (by simp (maxSteps := 1000000) [hF]) (by simp (maxSteps := 1000000) [hF]) (by simp) ?_
  rintro av X κ ⟨rfl, rfl, rfl⟩
  generalize hK : VS _ _ _ = KK; simp (maxSteps := 1000000) [hF]; (try subst hK)
  try refine VS.ret ?_
  repeat first | refine blockN_ret ?_ | refine loopN_ret ?_
  refine endK.of [3] [0] [] (by simp [hF]) (by simp [covers, mpre]) ?_
  simp [hF, retK, dBox]

/-- What is asked of the head of 'x': that it stands behind no head. -/
def inTails (ls : List (List Int)) (v : Int) : Bool := ls.any fun y => hasN y.tail v

/- slices.ContainsFunc[[][]int,[]int] -/
theorem containsFunc_ok (ex : Bool) (ls : List (List Int)) (x : List Int) (hl : ls.length ≤ 100000000) (hne : ∀ y ∈ ls, 0 < y.length) (hle : ∀ y ∈ ls, y.length ≤ 100000000) (hx : 0 < x.length) :
    Meets Try.prog 62 [dBoxL ls, dBox x] (.cons (.sub 0 [.d] 0 ls.length ex) (.cons (.fn 63 (.cons (.ptr 1 [.d]) .nil)) .nil))
    fun av X κ => av = avBool (inTails ls x[0]) ∧ X = [dBoxL ls, dBox x] ∧ κ = [] := by
  refine Meets.of_vs tabOk Try.func62 (body := ?_) ?_ (by kernel_rfl) Try.ntmps62 (rs := [.tmp 4]) (by kernel_rfl) rfl (by simp [AV.len]) (by simp only [envOf]; exact rfl) ?_
  rotate_left
  · rfl
  intro w0 I0 F0 hF
  repeat first
    | refine VS.seq ?_
    | (refine VS.keepAt 0 [0, 1] ?_; generalize hK : VS _ _ _ = KK; (try simp); (try subst hK); refine VS.region tabOk (id := 0) [] (by kernel_rfl) ?_; generalize hK : VS _ _ _ = KK; simp (maxSteps := 1000000) [hF]; (try subst hK); try (refine VS.keep [0, 1] ?_; generalize hK : VS _ _ _ = KK; simp; (try subst hK)))
    | (refine VS.keepAt 1 [0, 1] ?_; generalize hK : VS _ _ _ = KK; (try simp); (try subst hK); refine VS.region tabOk (id := 1) [] (by kernel_rfl) ?_; generalize hK : VS _ _ _ = KK; simp (maxSteps := 1000000) [hF]; (try subst hK); try (refine VS.keep [4] ?_; generalize hK : VS _ _ _ = KK; simp; (try subst hK)))
  refine (indexFunc_3 ex ls x hl (fun y => hasN y.tail x[0]) (fun i h => m21_ok false ls[i] x (hne _ (List.getElem_mem h)) (hle _ (List.getElem_mem h)) hx)).call [(0, []), (1, [])] (by simp) (by simp (maxSteps := 1000000) [hF, dBoxL, dBox]) (by simp (maxSteps := 1000000) [hF, dBoxL, dBox]) (by simp (maxSteps := 1000000) [hF, dBoxL, dBox]) (by simp) ?_
  rintro av X κ ⟨rfl, rfl, rfl⟩
  generalize hK : VS _ _ _ = KK; simp (maxSteps := 1000000) [hF, dBoxL, dBox]; (try subst hK)
  have h : decide ((0 : Int) ≤ ixF (fun y => hasN y.tail x[0]) ls) = inTails ls x[0] := by simp only [ixF_ge, inTails, Bool.decide_eq_true]
  try refine VS.ret ?_
  repeat first | refine blockN_ret ?_ | refine loopN_ret ?_
  refine endK.of [4] [0, 1] [] (by simp [hF]) (by simp [covers, mpre]) ?_
  simp [hF, retK, h, dBoxL, dBox]

/- cabochon/lineage.merge$2 -/
theorem m2_ok (ex : Bool) (ls : List (List Int)) (x : List Int) (hl : ls.length ≤ 100000000) (hne : ∀ y ∈ ls, 0 < y.length) (hle : ∀ y ∈ ls, y.length ≤ 100000000) (hx : 0 < x.length) :
    Meets Try.prog 61 [dBoxL ls] (.cons (.imm 1 (dInts x) ex) (.cons (.ptr 0 [.d]) .nil))
    fun av X κ => av = avBool (!inTails ls x[0]) ∧ X = [dBoxL ls] ∧ κ = [] := by
  refine Meets.of_vs tabOk Try.func61 (body := ?_) ?_ (by kernel_rfl) Try.ntmps61 (rs := [.tmp 3]) (by kernel_rfl) rfl (by simp [AV.len]) (by simp only [envOf]; exact rfl) ?_
  rotate_left
  · rfl
  intro w0 I0 F0 hF
  repeat first
    | refine VS.seq ?_
    | (refine VS.keepAt 0 [0, 1] ?_; generalize hK : VS _ _ _ = KK; (try simp); (try subst hK); refine VS.region tabOk (id := 0) [] (by kernel_rfl) ?_; generalize hK : VS _ _ _ = KK; simp (maxSteps := 1000000) [hF, dBoxL]; (try subst hK); try (refine VS.keep [1, 2] ?_; generalize hK : VS _ _ _ = KK; simp; (try subst hK)))
    | (refine VS.keepAt 1 [1, 2] ?_; generalize hK : VS _ _ _ = KK; (try simp); (try subst hK); refine VS.region tabOk (id := 1) [] (by kernel_rfl) ?_; generalize hK : VS _ _ _ = KK; simp (maxSteps := 1000000) [hF, dBoxL]; (try subst hK); try (refine VS.keep [3] ?_; generalize hK : VS _ _ _ = KK; simp; (try subst hK)))
  refine (containsFunc_ok false ls x hl hne hle hx).call [(0, []), (1, [])] (by simp) (by simp (maxSteps := 1000000) [hF, dBoxL, dBox]) (by simp (maxSteps := 1000000) [hF, dBoxL, dBox]) (by simp (maxSteps := 1000000) [hF, dBoxL, dBox]) (by simp) ?_
  rintro av X κ ⟨rfl, rfl, rfl⟩
  generalize hK : VS _ _ _ = KK; simp (maxSteps := 1000000) [hF, dBoxL, dBox]; (try subst hK)
  try refine VS.ret ?_
  repeat first | refine blockN_ret ?_ | refine loopN_ret ?_
  refine endK.of [3] [0] [] (by simp [hF]) (by simp [covers, mpre]) ?_
  simp [hF, retK, dBoxL]

end Go.Proofs.Ytahgopdamgagkaa

/- slices.DeleteFunc of lists of lists: the empty ones go. -/
namespace Go.Proofs.Ytahgopdamgagkaa
set_option linter.all false
open Go.Vc Go.Proofs
set_option linter.unusedSimpArgs false
set_option maxRecDepth 100000
set_option maxHeartbeats 4000000
attribute [local irreducible] CallW EqK

section
variable {α : Type} {q : α → Bool} {cur ls : List α} {i j : Nat}
theorem del_init (hi : i < ls.length) (hall : ∀ k, (h : k < i) → q (ls[k]'(by omega)) = true) (hq : q ls[i] = false) : ls.take i = (ls.take (i + 1)).filter q := by
  rw [List.take_add_one, List.getElem?_eq_getElem hi, List.filter_append]
  simp only [Option.toList_some, List.filter_cons, hq, List.filter_nil, Bool.false_eq_true, if_false, List.append_nil]
  refine (List.filter_eq_self.2 fun x hx => ?_).symm
  obtain ⟨k, hk, rfl⟩ := List.getElem_of_mem hx
  rw [List.length_take] at hk
  rw [List.getElem_take]
  exact hall k (by omega)
theorem del_at (hl : cur.length = ls.length) (hj : j < ls.length) (hd : cur.drop j = ls.drop j) : cur[j]'(by omega) = ls[j] := by
  have h1 : (cur.drop j)[0]? = (ls.drop j)[0]? := by rw [hd]
  simp only [List.getElem?_drop, Nat.add_zero] at h1
  rw [List.getElem?_eq_getElem (by omega), List.getElem?_eq_getElem hj] at h1
  exact Option.some.inj h1
theorem del_gone (hj : j < ls.length) (ht : cur.take i = (ls.take j).filter q) (hd : cur.drop j = ls.drop j) (hq : q ls[j] = false) : cur.take i = (ls.take (j + 1)).filter q ∧ cur.drop (j + 1) = ls.drop (j + 1) := by
  constructor
  · rw [ht, List.take_add_one, List.getElem?_eq_getElem hj, List.filter_append]
    simp [hq]
  · have : (cur.drop j).drop 1 = (ls.drop j).drop 1 := by rw [hd]
    simpa [List.drop_drop, Nat.add_comm] using this
theorem del_stays (hl : cur.length = ls.length) (hi : i < j) (hj : j < ls.length) (ht : cur.take i = (ls.take j).filter q) (hd : cur.drop j = ls.drop j) (hq : q ls[j] = true) :
    (cur.set i ls[j]).take (i + 1) = (ls.take (j + 1)).filter q ∧ (cur.set i ls[j]).drop (j + 1) = ls.drop (j + 1) := by
  constructor
  · rw [List.take_add_one, List.getElem?_set_self (by omega), List.take_set_of_le (by omega), ht, List.take_add_one, List.getElem?_eq_getElem hj, List.filter_append]
    simp [hq]
  · rw [List.drop_set_of_lt (by omega)]
    have : (cur.drop j).drop 1 = (ls.drop j).drop 1 := by rw [hd]
    simpa [List.drop_drop, Nat.add_comm] using this
end

theorem ixF_none {α : Type} {p : α → Bool} {l : List α} (h : ixF p l = -1) : l.filter (fun x => !p x) = l := by
  refine List.filter_eq_self.2 fun x hx => ?_
  have : ¬ (l.any p = true) := by rw [← ixF_ge, h]; omega
  rw [List.any_eq_true] at this
  cases hp : p x with
  | true => exact absurd ⟨x, hx, hp⟩ this
  | false => rfl
theorem ixF_some {α : Type} {p : α → Bool} {l : List α} (h : ¬ ixF p l = -1) : ∃ (i : Nat) (hi : i < l.length), ixF p l = i ∧ p l[i] = true ∧ ∀ k, (hk : k < i) → p (l[k]'(by omega)) = false := by
  by_cases ha : l.any p = true
  · have h1 := List.findIdx_lt_length_of_exists (p := p) (xs := l) (by simpa using ha)
    refine ⟨l.findIdx p, h1, by rw [ixF, if_pos ha], List.findIdx_getElem, fun k hk => ?_⟩
    have := List.not_of_lt_findIdx hk
    simpa using this
  · exact absurd (by rw [ixF, if_neg ha]) h

theorem tail_mid {l : List D} {i n : Nat} {x : D} (hi : i ≤ l.length) : (((sq l).take i).app (sq (List.replicate n x))).mid 0 i = sq (l.take i) := by
  rw [sq_take, sq_app, sq_mid, List.drop_zero, List.take_append_of_le_length (by simp; omega), List.take_of_length_le (by simp; omega)]

/- slices.DeleteFunc[[][]int,[]int] -/
theorem delLs_ok (ls : List (List Int)) (hl : ls.length ≤ 100000000) : Meets Try.prog 58 [.sl true () 1 (dLs ls)] (.cons (.sub 0 [] 0 ls.length false) (.cons (.fn 59 .nil) .nil))
    fun av X κ => ∃ s m, av = .sub 1 [] 0 m false ∧ X = [.junk (), .sl true () 1 s] ∧ κ = [(0, [])] ∧ s.mid 0 m = dLs (ls.filter fun x => !nul x) ∧ m = (ls.filter fun x => !nul x).length := by
  refine Meets.of_vs tabOk Try.func58 (body := ?_) ?_ (by kernel_rfl) Try.ntmps58 (rs := [.tmp 4]) (by kernel_rfl) rfl (by simp [AV.len]) (by simp only [envOf]; exact rfl) ?_
  rotate_left
  · rfl
  intro w0 I0 F0 hF
  repeat first
    | refine VS.seq ?_
    | (refine VS.keepAt 0 [0, 1] ?_; generalize hK : VS _ _ _ = KK; (try simp); (try subst hK); refine VS.region tabOk (id := 0) [] (by kernel_rfl) ?_; generalize hK : VS _ _ _ = KK; simp (maxSteps := 1000000) [hF]; (try subst hK); try (refine VS.keep [0, 1] ?_; generalize hK : VS _ _ _ = KK; simp; (try subst hK)))
  refine VS.lift 0 [] (by simp (maxSteps := 1000000) [hF]) (by simp (maxSteps := 1000000) [hF]) (by simp [isNode]) (by simp (maxSteps := 1000000) [hF]) ?_
  generalize hK : VS _ _ _ = KK; simp [hF, St.lift, AV.lift, liftPl, stripP, nodeAV]; (try subst hK)
  repeat first
    | (refine VS.keepAt 1 [0, 1] ?_; generalize hK : VS _ _ _ = KK; (try simp); (try subst hK); refine VS.region tabOk (id := 1) [] (by kernel_rfl) ?_; generalize hK : VS _ _ _ = KK; simp (maxSteps := 1000000) [hF]; (try subst hK); try (refine VS.keep [0, 1, 5] ?_; generalize hK : VS _ _ _ = KK; simp; (try subst hK)))
  refine (indexFunc_1 false ls hl nul (fun i h => m1_ok false ls[i])).call [(1, [])] (by simp) (by simp (maxSteps := 1000000) [hF]) (by simp (maxSteps := 1000000) [hF]) (by simp (maxSteps := 1000000) [hF]) (by simp) ?_
  rintro av X κ ⟨rfl, rfl, rfl⟩
  generalize hK : VS _ _ _ = KK; simp (maxSteps := 1000000) [hF]; (try subst hK)
  repeat first
    | refine VS.seq ?_
    | (refine VS.keepAt 2 [0, 1, 5] ?_; generalize hK : VS _ _ _ = KK; (try simp); (try subst hK); refine VS.region tabOk (id := 2) [] (by kernel_rfl) ?_; generalize hK : VS _ _ _ = KK; simp (maxSteps := 1000000) [hF]; (try subst hK); try (refine VS.keep [0, 1, 5, 12] ?_; generalize hK : VS _ _ _ = KK; simp; (try subst hK)))
    | (refine VS.cond ?_; generalize hK1 : VS _ _ _ = KK1; generalize hK2 : VS _ _ _ = KK2; simp (maxSteps := 1000000) [hF]; (try subst hK1); (try subst hK2))
  refine ⟨fun hm => ?_, fun hm => ?_⟩
  · have hf := ixF_none hm
    repeat first
      | refine VS.seq ?_
      | (refine VS.keepAt 3 [0] ?_; generalize hK : VS _ _ _ = KK; (try simp); (try subst hK); refine VS.region tabOk (id := 3) [] (by kernel_rfl) ?_; generalize hK : VS _ _ _ = KK; simp (maxSteps := 1000000) [hF]; (try subst hK); try (refine VS.keep [4] ?_; generalize hK : VS _ _ _ = KK; simp; (try subst hK)))
    try refine VS.ret ?_
    repeat first | refine blockN_ret ?_ | refine loopN_ret ?_
    refine endK.of [4] [0, 1] [(0, [])] (by simp [hF]) (by simp [covers, mpre]) ?_
    simp [hF, retK, hf]
  · obtain ⟨i0, hi0, he, hp0, hall⟩ := ixF_some hm
    repeat first
      | refine VS.seq ?_
      | refine VS.skip ?_
      | refine VS.block ?_
      | (refine VS.keepAt 4 [0, 1, 5] ?_; generalize hK : VS _ _ _ = KK; (try simp); (try subst hK); refine VS.region tabOk (id := 4) [] (by kernel_rfl) ?_; generalize hK : VS _ _ _ = KK; simp (maxSteps := 1000000) [hF, he]; (try subst hK); try (refine VS.keep [0, 1, 5, 6] ?_; generalize hK : VS _ _ _ = KK; simp; (try subst hK)))
    refine VS.forget ?_
    generalize hK : VS _ _ _ = KK; simp [hF, St.forget]; (try subst hK)
    refine VS.rounds (fun m st => ∃ (cur : List (List Int)) (i j : Nat), j + m = ls.length ∧ i < j ∧ cur.length = ls.length ∧ cur.take i = (ls.take j).filter (fun x => !nul x) ∧ cur.drop j = ls.drop j ∧
      st = ⟨[(0, .sub 1 [] 0 ls.length false), (1, .fn 59 .nil), (5, avInt i), (6, avInt j)], [.junk (), .sl true () 1 (dLs cur)], [(0, [])], []⟩)
      ⟨ls.length - (i0 + 1), ls, i0, i0 + 1, by omega, by omega, rfl, del_init hi0 (fun k hk => by simp [hall k hk]) (by simp [hp0]), rfl, ?_⟩ ?_
    · simp [he]
      exact IntWalk.i64_in _ (by omega)
    rintro m st ⟨cur, i, j, hjm, hij, hcl, htk, hdr, rfl⟩
    repeat first
      | refine VS.seq ?_
      | (refine VS.keepAt 5 [0, 1, 5, 6] ?_; generalize hK : VS _ _ _ = KK; (try simp); (try subst hK); refine VS.region tabOk (id := 5) [] (by kernel_rfl) ?_; generalize hK : VS _ _ _ = KK; simp (maxSteps := 1000000) [hF]; (try subst hK); try (refine VS.keep [0, 1, 5, 6, 19] ?_; generalize hK : VS _ _ _ = KK; simp; (try subst hK)))
      | (refine VS.cond ?_; generalize hK1 : VS _ _ _ = KK1; generalize hK2 : VS _ _ _ = KK2; simp (maxSteps := 1000000) [hF]; (try subst hK1); (try subst hK2))
    refine ⟨fun hlt => ?_, fun hge => ?_⟩
    · have hj : j < ls.length := by omega
      have hjc : j < cur.length := by omega
      have hn := dLs_nth hjc
      have hat := del_at hcl hj hdr
      repeat first
        | refine VS.seq ?_
        | refine VS.skip ?_
        | refine VS.block ?_
        | (refine VS.keepAt 7 [0, 1, 5, 6] ?_; generalize hK : VS _ _ _ = KK; (try simp); (try subst hK); refine VS.region tabOk (id := 7) [] (by kernel_rfl) ?_; generalize hK : VS _ _ _ = KK; simp (maxSteps := 1000000) [hF, hn, hjc, hj]; (try subst hK); try (refine VS.keep [0, 1, 5, 6, 7] ?_; generalize hK : VS _ _ _ = KK; simp; (try subst hK)))
        | (refine VS.keepAt 8 [0, 1, 5, 6, 7] ?_; generalize hK : VS _ _ _ = KK; (try simp); (try subst hK); refine VS.region tabOk (id := 8) [] (by kernel_rfl) ?_; generalize hK : VS _ _ _ = KK; simp (maxSteps := 1000000) [hF, hn, hjc, hj]; (try subst hK); try (refine VS.keep [0, 1, 5, 6, 7, 29] ?_; generalize hK : VS _ _ _ = KK; simp; (try subst hK)))
      refine (m1_ok false cur[j]).call [] (by simp) (by simp (maxSteps := 1000000) [hF]) (by simp (maxSteps := 1000000) [hF]) (by simp (maxSteps := 1000000) [hF]) (by simp) ?_
      rintro av X κ ⟨rfl, rfl, rfl⟩
      generalize hK : VS _ _ _ = KK; simp (maxSteps := 1000000) [hF]; (try subst hK)
      cases hp : nul cur[j] with
      | true =>
        repeat first
          | refine VS.skip ?_
          | refine VS.nil ?_
          | refine blockN_normal ?_
          | refine loopN_normal ?_
          | (refine VS.keepAt 6 [0, 1, 5, 6] ?_; generalize hK : VS _ _ _ = KK; (try simp); (try subst hK); refine VS.region tabOk (id := 6) [] (by kernel_rfl) ?_; generalize hK : VS _ _ _ = KK; simp (maxSteps := 1000000) [hF, hp]; (try subst hK); try (refine VS.keep [0, 1, 5, 6] ?_; generalize hK : VS _ _ _ = KK; simp; (try subst hK)))
          | (refine VS.cond ?_; generalize hK1 : VS _ _ _ = KK1; generalize hK2 : VS _ _ _ = KK2; simp (maxSteps := 1000000) [hF, hp]; (try subst hK1); (try subst hK2))
        obtain ⟨n1, n2⟩ := del_gone (q := fun x => !nul x) hj htk hdr (by rw [← hat]; simp [hp])
        refine nextK.of [0, 1, 5, 6] [0, 1] (m - 1) (by omega) (by simp [hF]) ?_
        refine ⟨cur, i, j + 1, by omega, by omega, hcl, n1, n2, ?_⟩
        simp
        exact IntWalk.i64_in _ (by omega)
      | false =>
        have hi : i < ls.length := by omega
        have hic : i < cur.length := by omega
        have hset := dLs_set cur i cur[j]
        have hni := dLs_nth hic
        repeat first
          | refine VS.seq ?_
          | refine VS.nil ?_
          | refine blockN_normal ?_
          | refine loopN_normal ?_
          | (refine VS.keepAt 6 [0, 1, 5, 6] ?_; generalize hK : VS _ _ _ = KK; (try simp); (try subst hK); refine VS.region tabOk (id := 6) [] (by kernel_rfl) ?_; generalize hK : VS _ _ _ = KK; simp (maxSteps := 1000000) [hF, hp, hi, hic, hset, hni, hcl]; (try subst hK); try (refine VS.keep [0, 1, 5, 6] ?_; generalize hK : VS _ _ _ = KK; simp; (try subst hK)))
          | (refine VS.keepAt 9 [0, 1, 5, 6, 7] ?_; generalize hK : VS _ _ _ = KK; (try simp); (try subst hK); refine VS.region tabOk (id := 9) [] (by kernel_rfl) ?_; generalize hK : VS _ _ _ = KK; simp (maxSteps := 1000000) [hF, hp, hi, hic, hset, hni, hcl]; (try subst hK); try (refine VS.keep [0, 1, 5, 6] ?_; generalize hK : VS _ _ _ = KK; simp; (try subst hK)))
          | (refine VS.keepAt 10 [0, 1, 5, 6] ?_; generalize hK : VS _ _ _ = KK; (try simp); (try subst hK); refine VS.region tabOk (id := 10) [] (by kernel_rfl) ?_; generalize hK : VS _ _ _ = KK; simp (maxSteps := 1000000) [hF, hp, hi, hic, hset, hni, hcl]; (try subst hK); try (refine VS.keep [0, 1, 5, 6] ?_; generalize hK : VS _ _ _ = KK; simp; (try subst hK)))
          | (refine VS.cond ?_; generalize hK1 : VS _ _ _ = KK1; generalize hK2 : VS _ _ _ = KK2; simp (maxSteps := 1000000) [hF, hp, hi, hic, hset, hni, hcl]; (try subst hK1); (try subst hK2))
        obtain ⟨n1, n2⟩ := del_stays (q := fun x => !nul x) hcl hij hj htk hdr (by rw [← hat]; simp [hp])
        refine nextK.of [0, 1, 5, 6] [0, 1] (m - 1) (by omega) (by simp [hF]) ?_
        refine ⟨cur.set i cur[j], i + 1, j + 1, by omega, by omega, by simpa using hcl, by rw [hat]; exact n1, by rw [hat]; exact n2, ?_⟩
        simp
        exact ⟨IntWalk.i64_in _ (by omega), IntWalk.i64_in _ (by omega)⟩
    · obtain rfl : j = ls.length := by omega
      have hil : i ≤ ls.length := by omega
      have hil2 : (i : Int) ≤ ls.length := by omega
      rw [List.take_length] at htk
      have hlen : (ls.filter fun x => !nul x).length = i := by rw [← htk, List.length_take]; omega
      have hfin : ∀ n x, (((dLs cur).take i).app (sq (List.replicate n x))).mid 0 i = dLs (ls.filter fun x => !nul x) := fun n x => by
        rw [← htk, dLs, tail_mid (by simp; omega), ← List.map_take, ← dLs]
      repeat first
        | refine VS.seq ?_
        | refine VS.exit ?_
        | (refine VS.keepAt 11 [0, 5] ?_; generalize hK : VS _ _ _ = KK; (try simp); (try subst hK); refine VS.region tabOk (id := 11) [] (by kernel_rfl) ?_; generalize hK : VS _ _ _ = KK; simp (maxSteps := 1000000) [hF, hil, hil2, hcl]; (try subst hK); try (refine VS.keep [0, 5] ?_; generalize hK : VS _ _ _ = KK; simp; (try subst hK)))
        | (refine VS.keepAt 12 [0, 5] ?_; generalize hK : VS _ _ _ = KK; (try simp); (try subst hK); refine VS.region tabOk (id := 12) [] (by kernel_rfl) ?_; generalize hK : VS _ _ _ = KK; simp (maxSteps := 1000000) [hF, hil, hil2, hcl]; (try subst hK); try (refine VS.keep [4] ?_; generalize hK : VS _ _ _ = KK; simp; (try subst hK)))
      try refine VS.ret ?_
      repeat first | refine blockN_ret ?_ | refine loopN_ret ?_
      refine endK.of [4] [0, 1] [(0, [])] (by simp [hF]) (by simp [covers, mpre]) ?_
      simp [hF, retK, hfin, hlen]
end Go.Proofs.Ytahgopdamgagkaa

/- slices.IndexFunc and DeleteFunc of numbers: those of another list go. -/
namespace Go.Proofs.Ytahgopdamgagkaa
set_option linter.all false
open Go.Vc Go.Proofs
set_option linter.unusedSimpArgs false
set_option maxRecDepth 100000
set_option maxHeartbeats 4000000
attribute [local irreducible] CallW EqK

/- (*cabochon/lineage.Lineage).find$1 -/
theorem f1_ok (fr : List Int) (hf : fr.length ≤ 100000000) (n : Int) : Meets Try.prog 54 [dBox fr] (.cons (avInt n) (.cons (.ptr 0 [.d]) .nil)) fun av X κ => av = avBool (hasN fr n) ∧ X = [dBox fr] ∧ κ = [] := by
  refine Meets.of_vs tabOk Try.func54 (body := ?_) ?_ (by kernel_rfl) Try.ntmps54 (rs := [.tmp 3]) (by kernel_rfl) rfl (by simp [AV.len]) (by simp only [envOf]; exact rfl) ?_
  rotate_left
  · rfl
  intro w0 I0 F0 hF
  repeat first
    | refine VS.seq ?_
    | (refine VS.keepAt 0 [0, 1] ?_; generalize hK : VS _ _ _ = KK; (try simp); (try subst hK); refine VS.region tabOk (id := 0) [] (by kernel_rfl) ?_; generalize hK : VS _ _ _ = KK; simp (maxSteps := 1000000) [hF, dBox]; (try subst hK); try (refine VS.keep [0, 1] ?_; generalize hK : VS _ _ _ = KK; simp; (try subst hK)))
    | (refine VS.keepAt 1 [0, 1] ?_; generalize hK : VS _ _ _ = KK; (try simp); (try subst hK); refine VS.region tabOk (id := 1) [] (by kernel_rfl) ?_; generalize hK : VS _ _ _ = KK; simp (maxSteps := 1000000) [hF, dBox]; (try subst hK); try (refine VS.keep [3] ?_; generalize hK : VS _ _ _ = KK; simp; (try subst hK)))
  refine (contains_ok false fr n hf).call [] (by simp) (by simp (maxSteps := 1000000) [hF]) (by simp (maxSteps := 1000000) [hF]) (by simp (maxSteps := 1000000) [hF]) (by simp) ?_
  rintro av X κ ⟨rfl, rfl, rfl⟩
  generalize hK : VS _ _ _ = KK; simp (maxSteps := 1000000) [hF]; (try subst hK)
  try refine VS.ret ?_
  repeat first | refine blockN_ret ?_ | refine loopN_ret ?_
  refine endK.of [3] [0] [] (by simp [hF]) (by simp [covers, mpre]) ?_
  simp [hF, retK, dBox]

/- slices.IndexFunc[[]int,int] -/
theorem indexFunc_i (ex : Bool) (ls x : List Int) (hl : ls.length ≤ 100000000) (p : Int → Bool)
    (hg : ∀ i, (h : i < ls.length) → Meets Try.prog 54 [dBox x] (.cons (avInt ls[i]) (.cons (.ptr 0 [.d]) .nil)) fun av X κ => av = avBool (p ls[i]) ∧ X = [dBox x] ∧ κ = []) :
    Meets Try.prog 57 [.sl true () 1 (dInts ls), dBox x] (.cons (.sub 0 [] 0 ls.length ex) (.cons (.fn 54 (.cons (.ptr 1 [.d]) .nil)) .nil))
    fun av X κ => av = avInt (ixF p ls) ∧ X = [.sl true () 1 (dInts ls), dBox x] ∧ κ = [] := by
  refine Meets.of_vs tabOk Try.func57 (body := ?_) ?_ (by kernel_rfl) Try.ntmps57 (rs := [.tmp 4]) (by kernel_rfl) rfl (by simp [AV.len]) (by simp only [envOf]; exact rfl) ?_
  rotate_left
  · rfl
  intro w0 I0 F0 hF
  repeat first
    | refine VS.seq ?_
    | refine VS.block ?_
    | (refine VS.keepAt 0 [0, 1] ?_; generalize hK : VS _ _ _ = KK; (try simp); (try subst hK); refine VS.region tabOk (id := 0) [] (by kernel_rfl) ?_; generalize hK : VS _ _ _ = KK; simp (maxSteps := 1000000) [hF, dBox]; (try subst hK); try (refine VS.keep [0, 1] ?_; generalize hK : VS _ _ _ = KK; simp; (try subst hK)))
    | (refine VS.keepAt 1 [0, 1] ?_; generalize hK : VS _ _ _ = KK; (try simp); (try subst hK); refine VS.region tabOk (id := 1) [] (by kernel_rfl) ?_; generalize hK : VS _ _ _ = KK; simp (maxSteps := 1000000) [hF, dBox]; (try subst hK); try (refine VS.keep [0, 1, 7, 8] ?_; generalize hK : VS _ _ _ = KK; simp; (try subst hK)))
  refine VS.rounds (fun m st => ∃ (i : Nat), i + m = ls.length ∧ (∀ j, (h : j < ls.length) → j < i → p ls[j] = false) ∧ st = ⟨[(0, .sub 0 [] 0 ls.length ex), (1, .fn 54 (.cons (.ptr 1 [.d]) .nil)), (7, avInt ls.length), (8, avInt i)], [.sl true () 1 (dInts ls), dBox x], [], []⟩) ⟨ls.length, 0, by omega, by omega, by simp [dBox]⟩ ?_
  rintro m st ⟨i, hi, hall, rfl⟩
  repeat first
    | refine VS.seq ?_
    | (refine VS.keepAt 2 [0, 1, 7, 8] ?_; generalize hK : VS _ _ _ = KK; (try simp); (try subst hK); refine VS.region tabOk (id := 2) [] (by kernel_rfl) ?_; generalize hK : VS _ _ _ = KK; simp (maxSteps := 1000000) [hF, dBox]; (try subst hK); try (refine VS.keep [0, 1, 7, 8, 9] ?_; generalize hK : VS _ _ _ = KK; simp; (try subst hK)))
    | (refine VS.cond ?_; generalize hK1 : VS _ _ _ = KK1; generalize hK2 : VS _ _ _ = KK2; simp (maxSteps := 1000000) [hF, dBox]; (try subst hK1); (try subst hK2))
  refine ⟨fun hlt => ?_, fun hge => ?_⟩
  · have hi' : i < ls.length := by omega
    have hn := dInts_nth hi'
    repeat first
      | refine VS.seq ?_
      | refine VS.skip ?_
      | refine VS.block ?_
      | (refine VS.keepAt 3 [0, 1, 7, 8] ?_; generalize hK : VS _ _ _ = KK; (try simp); (try subst hK); refine VS.region tabOk (id := 3) [] (by kernel_rfl) ?_; generalize hK : VS _ _ _ = KK; simp (maxSteps := 1000000) [hF, dBox, hn, hi']; (try subst hK); try (refine VS.keep [0, 1, 5, 7, 8] ?_; generalize hK : VS _ _ _ = KK; simp; (try subst hK)))
      | (refine VS.keepAt 4 [0, 1, 5, 7, 8] ?_; generalize hK : VS _ _ _ = KK; (try simp); (try subst hK); refine VS.region tabOk (id := 4) [] (by kernel_rfl) ?_; generalize hK : VS _ _ _ = KK; simp (maxSteps := 1000000) [hF, dBox, hn, hi']; (try subst hK); try (refine VS.keep [0, 1, 5, 7, 8, 16] ?_; generalize hK : VS _ _ _ = KK; simp; (try subst hK)))
    refine (hg i hi').call [(1, [])] (by simp) (by simp (maxSteps := 1000000) [hF, dBox]) (by simp (maxSteps := 1000000) [hF, dBox]) (by simp (maxSteps := 1000000) [hF, dBox]) (by simp) ?_
    rintro av X κ ⟨rfl, rfl, rfl⟩
    generalize hK : VS _ _ _ = KK; simp (maxSteps := 1000000) [hF, dBox]; (try subst hK)
    cases hp : p ls[i] with
    | true =>
      have hr : ixF p ls = i := ixF_hit hi' (fun j h => hall j (by omega) h) hp
      repeat first
        | refine VS.seq ?_
        | (refine VS.keepAt 5 [5] ?_; generalize hK : VS _ _ _ = KK; (try simp); (try subst hK); refine VS.region tabOk (id := 5) [] (by kernel_rfl) ?_; generalize hK : VS _ _ _ = KK; simp (maxSteps := 1000000) [hF, hp]; (try subst hK); try (refine VS.keep [4] ?_; generalize hK : VS _ _ _ = KK; simp; (try subst hK)))
        | (refine VS.cond ?_; generalize hK1 : VS _ _ _ = KK1; generalize hK2 : VS _ _ _ = KK2; simp (maxSteps := 1000000) [hF, hp]; (try subst hK1); (try subst hK2))
      try refine VS.ret ?_
      repeat first | refine blockN_ret ?_ | refine loopN_ret ?_
      refine endK.of [4] [0, 1] [] (by simp [hF]) (by simp [covers, mpre]) ?_
      simp [hF, retK, dBox, hr]
    | false =>
      repeat first
        | refine VS.skip ?_
        | refine VS.nil ?_
        | refine blockN_normal ?_
        | refine loopN_normal ?_
        | (refine VS.keepAt 6 [0, 1, 7, 8] ?_; generalize hK : VS _ _ _ = KK; (try simp); (try subst hK); refine VS.region tabOk (id := 6) [] (by kernel_rfl) ?_; generalize hK : VS _ _ _ = KK; simp (maxSteps := 1000000) [hF, hp]; (try subst hK); try (refine VS.keep [0, 1, 7, 8] ?_; generalize hK : VS _ _ _ = KK; simp; (try subst hK)))
        | (refine VS.cond ?_; generalize hK1 : VS _ _ _ = KK1; generalize hK2 : VS _ _ _ = KK2; simp (maxSteps := 1000000) [hF, hp]; (try subst hK1); (try subst hK2))
      refine nextK.of [0, 1, 7, 8] [0, 1] (m - 1) (by omega) (by simp [hF]) ?_
      refine ⟨i + 1, by omega, ?_, ?_⟩
      · intro j hj hji
        rcases Nat.lt_or_ge j i with h' | h'
        · exact hall j hj h'
        · obtain rfl : j = i := by omega
          exact hp
      · simp [dBox]
        exact IntWalk.i64_in _ (by omega)
  · have hr : ixF p ls = -1 := ixF_miss (fun j h => hall j h (by omega))
    repeat first
      | refine VS.seq ?_
      | refine VS.exit ?_
      | (refine VS.keepAt 7 [] ?_; generalize hK : VS _ _ _ = KK; (try simp); (try subst hK); refine VS.region tabOk (id := 7) [] (by kernel_rfl) ?_; generalize hK : VS _ _ _ = KK; simp (maxSteps := 1000000) [hF]; (try subst hK); try (refine VS.keep [4] ?_; generalize hK : VS _ _ _ = KK; simp; (try subst hK)))
    try refine VS.ret ?_
    repeat first | refine blockN_ret ?_ | refine loopN_ret ?_
    refine endK.of [4] [0, 1] [] (by simp [hF]) (by simp [covers, mpre]) ?_
    simp [hF, retK, dBox, hr]

/- slices.DeleteFunc[[]int,int] -/
theorem delIs_ok (ls fr : List Int) (hfr : fr.length ≤ 100000000) (hl : ls.length ≤ 100000000) : Meets Try.prog 53 [.sl true () 1 (dInts ls), dBox fr] (.cons (.sub 0 [] 0 ls.length false) (.cons (.fn 54 (.cons (.ptr 1 [.d]) .nil)) .nil))
    fun av X κ => ∃ s m, av = .sub 2 [] 0 m false ∧ X = [.junk (), dBox fr, .sl true () 1 s] ∧ κ = [(0, [])] ∧ s.mid 0 m = dInts (ls.filter fun x => !hasN fr x) ∧ m = (ls.filter fun x => !hasN fr x).length := by
  refine Meets.of_vs tabOk Try.func53 (body := ?_) ?_ (by kernel_rfl) Try.ntmps53 (rs := [.tmp 4]) (by kernel_rfl) rfl (by simp [AV.len]) (by simp only [envOf]; exact rfl) ?_
  rotate_left
  · rfl
  intro w0 I0 F0 hF
  repeat first
    | refine VS.seq ?_
    | (refine VS.keepAt 0 [0, 1] ?_; generalize hK : VS _ _ _ = KK; (try simp); (try subst hK); refine VS.region tabOk (id := 0) [] (by kernel_rfl) ?_; generalize hK : VS _ _ _ = KK; simp (maxSteps := 1000000) [hF]; (try subst hK); try (refine VS.keep [0, 1] ?_; generalize hK : VS _ _ _ = KK; simp; (try subst hK)))
  refine VS.lift 0 [] (by simp (maxSteps := 1000000) [hF, dBox]) (by simp (maxSteps := 1000000) [hF, dBox]) (by simp [isNode, dBox]) (by simp (maxSteps := 1000000) [hF, dBox]) ?_
  generalize hK : VS _ _ _ = KK; simp [hF, St.lift, AV.lift, liftPl, stripP, nodeAV, dBox]; (try subst hK)
  repeat first
    | (refine VS.keepAt 1 [0, 1] ?_; generalize hK : VS _ _ _ = KK; (try simp); (try subst hK); refine VS.region tabOk (id := 1) [] (by kernel_rfl) ?_; generalize hK : VS _ _ _ = KK; simp (maxSteps := 1000000) [hF]; (try subst hK); try (refine VS.keep [0, 1, 5] ?_; generalize hK : VS _ _ _ = KK; simp; (try subst hK)))
  refine (indexFunc_i false ls fr hl (hasN fr) (fun i h => f1_ok fr hfr ls[i])).call [(2, []), (1, [])] (by simp) (by simp (maxSteps := 1000000) [hF, dBox]) (by simp (maxSteps := 1000000) [hF, dBox]) (by simp (maxSteps := 1000000) [hF, dBox]) (by simp) ?_
  rintro av X κ ⟨rfl, rfl, rfl⟩
  generalize hK : VS _ _ _ = KK; simp (maxSteps := 1000000) [hF, dBox]; (try subst hK)
  repeat first
    | refine VS.seq ?_
    | (refine VS.keepAt 2 [0, 1, 5] ?_; generalize hK : VS _ _ _ = KK; (try simp); (try subst hK); refine VS.region tabOk (id := 2) [] (by kernel_rfl) ?_; generalize hK : VS _ _ _ = KK; simp (maxSteps := 1000000) [hF]; (try subst hK); try (refine VS.keep [0, 1, 5, 12] ?_; generalize hK : VS _ _ _ = KK; simp; (try subst hK)))
    | (refine VS.cond ?_; generalize hK1 : VS _ _ _ = KK1; generalize hK2 : VS _ _ _ = KK2; simp (maxSteps := 1000000) [hF]; (try subst hK1); (try subst hK2))
  refine ⟨fun hm => ?_, fun hm => ?_⟩
  · have hf := ixF_none hm
    repeat first
      | refine VS.seq ?_
      | (refine VS.keepAt 3 [0] ?_; generalize hK : VS _ _ _ = KK; (try simp); (try subst hK); refine VS.region tabOk (id := 3) [] (by kernel_rfl) ?_; generalize hK : VS _ _ _ = KK; simp (maxSteps := 1000000) [hF]; (try subst hK); try (refine VS.keep [4] ?_; generalize hK : VS _ _ _ = KK; simp; (try subst hK)))
    try refine VS.ret ?_
    repeat first | refine blockN_ret ?_ | refine loopN_ret ?_
    refine endK.of [4] [0, 1, 2] [(0, [])] (by simp [hF]) (by simp [covers, mpre]) ?_
    simp [hF, retK, dBox, hf]
  · obtain ⟨i0, hi0, he, hp0, hall⟩ := ixF_some hm
    repeat first
      | refine VS.seq ?_
      | refine VS.skip ?_
      | refine VS.block ?_
      | (refine VS.keepAt 4 [0, 1, 5] ?_; generalize hK : VS _ _ _ = KK; (try simp); (try subst hK); refine VS.region tabOk (id := 4) [] (by kernel_rfl) ?_; generalize hK : VS _ _ _ = KK; simp (maxSteps := 1000000) [hF, he]; (try subst hK); try (refine VS.keep [0, 1, 5, 6] ?_; generalize hK : VS _ _ _ = KK; simp; (try subst hK)))
    refine VS.forget ?_
    generalize hK : VS _ _ _ = KK; simp [hF, St.forget]; (try subst hK)
    refine VS.rounds (fun m st => ∃ (cur : List Int) (i j : Nat), j + m = ls.length ∧ i < j ∧ cur.length = ls.length ∧ cur.take i = (ls.take j).filter (fun x => !hasN fr x) ∧ cur.drop j = ls.drop j ∧
      st = ⟨[(0, .sub 2 [] 0 ls.length false), (1, .fn 54 (.cons (.ptr 1 [.d]) .nil)), (5, avInt i), (6, avInt j)], [.junk (), dBox fr, .sl true () 1 (dInts cur)], [(0, [])], []⟩)
      ⟨ls.length - (i0 + 1), ls, i0, i0 + 1, by omega, by omega, rfl, del_init hi0 (fun k hk => by simp [hall k hk]) (by simp [hp0]), rfl, ?_⟩ ?_
    · simp [he, dBox]
      exact IntWalk.i64_in _ (by omega)
    rintro m st ⟨cur, i, j, hjm, hij, hcl, htk, hdr, rfl⟩
    repeat first
      | refine VS.seq ?_
      | (refine VS.keepAt 5 [0, 1, 5, 6] ?_; generalize hK : VS _ _ _ = KK; (try simp); (try subst hK); refine VS.region tabOk (id := 5) [] (by kernel_rfl) ?_; generalize hK : VS _ _ _ = KK; simp (maxSteps := 1000000) [hF]; (try subst hK); try (refine VS.keep [0, 1, 5, 6, 19] ?_; generalize hK : VS _ _ _ = KK; simp; (try subst hK)))
      | (refine VS.cond ?_; generalize hK1 : VS _ _ _ = KK1; generalize hK2 : VS _ _ _ = KK2; simp (maxSteps := 1000000) [hF]; (try subst hK1); (try subst hK2))
    refine ⟨fun hlt => ?_, fun hge => ?_⟩
    · have hj : j < ls.length := by omega
      have hjc : j < cur.length := by omega
      have hn := dInts_nth hjc
      have hat := del_at hcl hj hdr
      repeat first
        | refine VS.seq ?_
        | refine VS.skip ?_
        | refine VS.block ?_
        | (refine VS.keepAt 7 [0, 1, 5, 6] ?_; generalize hK : VS _ _ _ = KK; (try simp); (try subst hK); refine VS.region tabOk (id := 7) [] (by kernel_rfl) ?_; generalize hK : VS _ _ _ = KK; simp (maxSteps := 1000000) [hF, hn, hjc, hj]; (try subst hK); try (refine VS.keep [0, 1, 5, 6, 7] ?_; generalize hK : VS _ _ _ = KK; simp; (try subst hK)))
        | (refine VS.keepAt 8 [0, 1, 5, 6, 7] ?_; generalize hK : VS _ _ _ = KK; (try simp); (try subst hK); refine VS.region tabOk (id := 8) [] (by kernel_rfl) ?_; generalize hK : VS _ _ _ = KK; simp (maxSteps := 1000000) [hF, hn, hjc, hj]; (try subst hK); try (refine VS.keep [0, 1, 5, 6, 7, 29] ?_; generalize hK : VS _ _ _ = KK; simp; (try subst hK)))
      refine (f1_ok fr hfr cur[j]).call [(1, [])] (by simp) (by simp (maxSteps := 1000000) [hF, dBox]) (by simp (maxSteps := 1000000) [hF, dBox]) (by simp (maxSteps := 1000000) [hF, dBox]) (by simp) ?_
      rintro av X κ ⟨rfl, rfl, rfl⟩
      generalize hK : VS _ _ _ = KK; simp (maxSteps := 1000000) [hF, dBox]; (try subst hK)
      cases hp : hasN fr cur[j] with
      | true =>
        repeat first
          | refine VS.skip ?_
          | refine VS.nil ?_
          | refine blockN_normal ?_
          | refine loopN_normal ?_
          | (refine VS.keepAt 6 [0, 1, 5, 6] ?_; generalize hK : VS _ _ _ = KK; (try simp); (try subst hK); refine VS.region tabOk (id := 6) [] (by kernel_rfl) ?_; generalize hK : VS _ _ _ = KK; simp (maxSteps := 1000000) [hF, hp]; (try subst hK); try (refine VS.keep [0, 1, 5, 6] ?_; generalize hK : VS _ _ _ = KK; simp; (try subst hK)))
          | (refine VS.cond ?_; generalize hK1 : VS _ _ _ = KK1; generalize hK2 : VS _ _ _ = KK2; simp (maxSteps := 1000000) [hF, hp]; (try subst hK1); (try subst hK2))
        obtain ⟨n1, n2⟩ := del_gone (q := fun x => !hasN fr x) hj htk hdr (by rw [← hat]; simp [hp])
        refine nextK.of [0, 1, 5, 6] [0, 1, 2] (m - 1) (by omega) (by simp [hF]) ?_
        refine ⟨cur, i, j + 1, by omega, by omega, hcl, n1, n2, ?_⟩
        simp [dBox]
        exact IntWalk.i64_in _ (by omega)
      | false =>
        have hi : i < ls.length := by omega
        have hic : i < cur.length := by omega
        have hset := dInts_set cur i cur[j]
        have hni := dInts_nth hic
        repeat first
          | refine VS.seq ?_
          | refine VS.nil ?_
          | refine blockN_normal ?_
          | refine loopN_normal ?_
          | (refine VS.keepAt 6 [0, 1, 5, 6] ?_; generalize hK : VS _ _ _ = KK; (try simp); (try subst hK); refine VS.region tabOk (id := 6) [] (by kernel_rfl) ?_; generalize hK : VS _ _ _ = KK; simp (maxSteps := 1000000) [hF, hp, hi, hic, hset, hni, hcl]; (try subst hK); try (refine VS.keep [0, 1, 5, 6] ?_; generalize hK : VS _ _ _ = KK; simp; (try subst hK)))
          | (refine VS.keepAt 9 [0, 1, 5, 6, 7] ?_; generalize hK : VS _ _ _ = KK; (try simp); (try subst hK); refine VS.region tabOk (id := 9) [] (by kernel_rfl) ?_; generalize hK : VS _ _ _ = KK; simp (maxSteps := 1000000) [hF, hp, hi, hic, hset, hni, hcl]; (try subst hK); try (refine VS.keep [0, 1, 5, 6] ?_; generalize hK : VS _ _ _ = KK; simp; (try subst hK)))
          | (refine VS.keepAt 10 [0, 1, 5, 6] ?_; generalize hK : VS _ _ _ = KK; (try simp); (try subst hK); refine VS.region tabOk (id := 10) [] (by kernel_rfl) ?_; generalize hK : VS _ _ _ = KK; simp (maxSteps := 1000000) [hF, hp, hi, hic, hset, hni, hcl]; (try subst hK); try (refine VS.keep [0, 1, 5, 6] ?_; generalize hK : VS _ _ _ = KK; simp; (try subst hK)))
          | (refine VS.cond ?_; generalize hK1 : VS _ _ _ = KK1; generalize hK2 : VS _ _ _ = KK2; simp (maxSteps := 1000000) [hF, hp, hi, hic, hset, hni, hcl]; (try subst hK1); (try subst hK2))
        obtain ⟨n1, n2⟩ := del_stays (q := fun x => !hasN fr x) hcl hij hj htk hdr (by rw [← hat]; simp [hp])
        refine nextK.of [0, 1, 5, 6] [0, 1, 2] (m - 1) (by omega) (by simp [hF]) ?_
        refine ⟨cur.set i cur[j], i + 1, j + 1, by omega, by omega, by simpa using hcl, by rw [hat]; exact n1, by rw [hat]; exact n2, ?_⟩
        simp [dBox]
        exact ⟨IntWalk.i64_in _ (by omega), IntWalk.i64_in _ (by omega)⟩
    · obtain rfl : j = ls.length := by omega
      have hil : i ≤ ls.length := by omega
      have hil2 : (i : Int) ≤ ls.length := by omega
      rw [List.take_length] at htk
      have hlen : (ls.filter fun x => !hasN fr x).length = i := by rw [← htk, List.length_take]; omega
      have hfin : ∀ n x, (((dInts cur).take i).app (sq (List.replicate n x))).mid 0 i = dInts (ls.filter fun x => !hasN fr x) := fun n x => by
        rw [← htk, dInts, tail_mid (by simp; omega), ← List.map_take, ← dInts]
      repeat first
        | refine VS.seq ?_
        | refine VS.exit ?_
        | (refine VS.keepAt 11 [0, 5] ?_; generalize hK : VS _ _ _ = KK; (try simp); (try subst hK); refine VS.region tabOk (id := 11) [] (by kernel_rfl) ?_; generalize hK : VS _ _ _ = KK; simp (maxSteps := 1000000) [hF, hil, hil2, hcl]; (try subst hK); try (refine VS.keep [0, 5] ?_; generalize hK : VS _ _ _ = KK; simp; (try subst hK)))
        | (refine VS.keepAt 12 [0, 5] ?_; generalize hK : VS _ _ _ = KK; (try simp); (try subst hK); refine VS.region tabOk (id := 12) [] (by kernel_rfl) ?_; generalize hK : VS _ _ _ = KK; simp (maxSteps := 1000000) [hF, hil, hil2, hcl]; (try subst hK); try (refine VS.keep [4] ?_; generalize hK : VS _ _ _ = KK; simp; (try subst hK)))
      try refine VS.ret ?_
      repeat first | refine blockN_ret ?_ | refine loopN_ret ?_
      refine endK.of [4] [0, 1, 2] [(0, [])] (by simp [hF]) (by simp [covers, mpre]) ?_
      simp [hF, retK, dBox, hfin, hlen]
end Go.Proofs.Ytahgopdamgagkaa

/- slices.Grow, Concat and Clone of numbers. -/
namespace Go.Proofs.Ytahgopdamgagkaa
set_option linter.all false
open Go.Vc Go.Proofs
set_option linter.unusedSimpArgs false
set_option maxRecDepth 100000
set_option maxHeartbeats 4000000
attribute [local irreducible] CallW EqK

/- slices.Grow[[]int,int] -/
theorem grow_ok (n : Nat) (h1 : 1 ≤ n) (h2 : n ≤ 100000000) : Meets Try.prog 55 [] (.cons (.nils 1) (.cons (avInt n) .nil))
    fun av X κ => av = .sub 0 [] 0 0 false ∧ X = [.sl true () 1 (dInts (List.replicate n 0))] ∧ κ = [] := by
  have b1 : ¬ (n : Int) < 0 := by omega
  have b2 : (0 : Int) < n := by omega
  have b3 : IntKind.i64.wrap (n : Int) = n := IntWalk.i64_in _ (by omega)
  have b4 : IntKind.i64.wrap 0 = 0 := by decide
  have b5 : 0 < n := h1
  have b6 : (n : Int) * 8 ≤ 140737488355328 := by omega
  have b7 : (n : Int) ≤ 9223372036854775807 := by omega
  refine Meets.of_vs tabOk Try.func55 (body := ?_) ?_ (by kernel_rfl) Try.ntmps55 (rs := [.tmp 4]) (by kernel_rfl) rfl (by simp [AV.len]) (by simp only [envOf]; exact rfl) ?_
  rotate_left
  · rfl
  intro w0 I0 F0 hF
  repeat first
    | refine VS.seq ?_
    | refine VS.skip ?_
    | (refine VS.keepAt 0 [0, 1] ?_; generalize hK : VS _ _ _ = KK; (try simp); (try subst hK); refine VS.region tabOk (id := 0) [] (by kernel_rfl) ?_; generalize hK : VS _ _ _ = KK; simp (maxSteps := 1000000) [hF, b1, b2, b3, b4, b5, b6, b7, zeros_ints]; (try subst hK); try (refine VS.keep [0, 1] ?_; generalize hK : VS _ _ _ = KK; simp; (try subst hK)))
    | (refine VS.keepAt 1 [0, 1] ?_; generalize hK : VS _ _ _ = KK; (try simp); (try subst hK); refine VS.region tabOk (id := 1) [] (by kernel_rfl) ?_; generalize hK : VS _ _ _ = KK; simp (maxSteps := 1000000) [hF, b1, b2, b3, b4, b5, b6, b7, zeros_ints]; (try subst hK); try (refine VS.keep [0, 1, 6] ?_; generalize hK : VS _ _ _ = KK; simp; (try subst hK)))
    | (refine VS.keepAt 3 [0, 1] ?_; generalize hK : VS _ _ _ = KK; (try simp); (try subst hK); refine VS.region tabOk (id := 3) [] (by kernel_rfl) ?_; generalize hK : VS _ _ _ = KK; simp (maxSteps := 1000000) [hF, b1, b2, b3, b4, b5, b6, b7, zeros_ints]; (try subst hK); try (refine VS.keep [0, 1] ?_; generalize hK : VS _ _ _ = KK; simp; (try subst hK)))
    | (refine VS.keepAt 4 [0, 1] ?_; generalize hK : VS _ _ _ = KK; (try simp); (try subst hK); refine VS.region tabOk (id := 4) [] (by kernel_rfl) ?_; generalize hK : VS _ _ _ = KK; simp (maxSteps := 1000000) [hF, b1, b2, b3, b4, b5, b6, b7, zeros_ints]; (try subst hK); try (refine VS.keep [0, 1, 16] ?_; generalize hK : VS _ _ _ = KK; simp; (try subst hK)))
    | (refine VS.keepAt 5 [0, 1] ?_; generalize hK : VS _ _ _ = KK; (try simp); (try subst hK); refine VS.region tabOk (id := 5) [] (by kernel_rfl) ?_; generalize hK : VS _ _ _ = KK; simp (maxSteps := 1000000) [hF, b1, b2, b3, b4, b5, b6, b7, zeros_ints]; (try subst hK); try (refine VS.keep [0] ?_; generalize hK : VS _ _ _ = KK; simp; (try subst hK)))
    | (refine VS.keepAt 6 [0] ?_; generalize hK : VS _ _ _ = KK; (try simp); (try subst hK); refine VS.region tabOk (id := 6) [] (by kernel_rfl) ?_; generalize hK : VS _ _ _ = KK; simp (maxSteps := 1000000) [hF, b1, b2, b3, b4, b5, b6, b7, zeros_ints]; (try subst hK); try (refine VS.keep [4] ?_; generalize hK : VS _ _ _ = KK; simp; (try subst hK)))
    | (refine VS.cond ?_; generalize hK1 : VS _ _ _ = KK1; generalize hK2 : VS _ _ _ = KK2; simp (maxSteps := 1000000) [hF, b1, b2, b3, b4, b5, b6, b7, zeros_ints]; (try subst hK1); (try subst hK2))
  try refine VS.ret ?_
  repeat first | refine blockN_ret ?_ | refine loopN_ret ?_
  refine endK.of [4] [0] [] (by simp [hF]) (by simp [covers, mpre]) ?_
  simp [hF, retK]

/-- Lists, owned or not. -/
def dOs (l : List (Bool × List Int)) : D := sq (l.map fun o => .sl o.1 () 1 (dInts o.2))
@[simp] theorem dOs_len (l : List (Bool × List Int)) : (dOs l).len = l.length := by simp [dOs]
theorem dOs_nth {l : List (Bool × List Int)} {i : Nat} (h : i < l.length) : (dOs l).nth i = .sl l[i].1 () 1 (dInts l[i].2) := by
  rw [dOs, sq_nth_lt (by simpa using h)]; simp
def sizeOs : List (Bool × List Int) → Nat
  | [] => 0
  | o :: l => o.2.length + sizeOs l
def flatOs : List (Bool × List Int) → List Int
  | [] => []
  | o :: l => o.2 ++ flatOs l
theorem sizeOs_take : ∀ {l : List (Bool × List Int)} {i : Nat} (h : i < l.length), sizeOs (l.take (i + 1)) = sizeOs (l.take i) + l[i].2.length
  | o :: l, 0, _ => by simp [sizeOs]
  | o :: l, i + 1, h => by
    have := sizeOs_take (l := l) (i := i) (by simpa using h)
    simp only [List.take_succ_cons, sizeOs, List.getElem_cons_succ] at this ⊢
    omega
theorem flatOs_take : ∀ {l : List (Bool × List Int)} {i : Nat} (h : i < l.length), flatOs (l.take (i + 1)) = flatOs (l.take i) ++ l[i].2
  | o :: l, 0, _ => by simp [flatOs]
  | o :: l, i + 1, h => by
    have := flatOs_take (l := l) (i := i) (by simpa using h)
    simp only [List.take_succ_cons, flatOs, List.getElem_cons_succ] at this ⊢
    rw [this, List.append_assoc]
theorem flatOs_len : ∀ l : List (Bool × List Int), (flatOs l).length = sizeOs l
  | [] => rfl
  | o :: l => by simp [flatOs, sizeOs, flatOs_len l]
theorem sizeOs_le : ∀ (l : List (Bool × List Int)) (i : Nat), sizeOs (l.take i) ≤ sizeOs l
  | [], i => by simp [sizeOs]
  | o :: l, 0 => by simp [sizeOs]
  | o :: l, i + 1 => by
    have := sizeOs_le l i
    simp only [List.take_succ_cons, sizeOs]
    omega

/- slices.Concat[[]int,int] -/
theorem concat_ok (ex : Bool) (l : List (Bool × List Int)) (hl : l.length ≤ 1000) (h1 : 1 ≤ sizeOs l) (h2 : sizeOs l ≤ 100000000) : Meets Try.prog 51 [.sl true () 1 (dOs l)] (.cons (.sub 0 [] 0 l.length ex) .nil)
    fun av X κ => av = .imm 1 (dInts (flatOs l)) false ∧ X = [.sl true () 1 (dOs l)] ∧ κ = [] := by
  refine Meets.of_vs tabOk Try.func51 (body := ?_) ?_ (by kernel_rfl) Try.ntmps51 (rs := [.tmp 2]) (by kernel_rfl) rfl (by simp [AV.len]) (by simp only [envOf]; exact rfl) ?_
  rotate_left
  · rfl
  intro w0 I0 F0 hF
  repeat first
    | refine VS.seq ?_
    | refine VS.block ?_
    | (refine VS.keepAt 0 [0] ?_; generalize hK : VS _ _ _ = KK; (try simp); (try subst hK); refine VS.region tabOk (id := 0) [] (by kernel_rfl) ?_; generalize hK : VS _ _ _ = KK; simp (maxSteps := 1000000) [hF]; (try subst hK); try (refine VS.keep [0] ?_; generalize hK : VS _ _ _ = KK; simp; (try subst hK)))
    | (refine VS.keepAt 1 [0] ?_; generalize hK : VS _ _ _ = KK; (try simp); (try subst hK); refine VS.region tabOk (id := 1) [] (by kernel_rfl) ?_; generalize hK : VS _ _ _ = KK; simp (maxSteps := 1000000) [hF]; (try subst hK); try (refine VS.keep [0, 3] ?_; generalize hK : VS _ _ _ = KK; simp; (try subst hK)))
    | (refine VS.keepAt 2 [0, 3] ?_; generalize hK : VS _ _ _ = KK; (try simp); (try subst hK); refine VS.region tabOk (id := 2) [] (by kernel_rfl) ?_; generalize hK : VS _ _ _ = KK; simp (maxSteps := 1000000) [hF]; (try subst hK); try (refine VS.keep [0, 3, 9, 10, 11] ?_; generalize hK : VS _ _ _ = KK; simp; (try subst hK)))
  refine VS.rounds (fun m st => ∃ (i : Nat), i + m = l.length ∧ st = ⟨[(0, .sub 0 [] 0 l.length ex), (3, avInt (sizeOs (l.take i))), (9, .sub 0 [] 0 l.length ex), (10, avInt l.length), (11, avInt i)], [.sl true () 1 (dOs l)], [], []⟩) ⟨l.length, 0, by omega, by simp [sizeOs]⟩ ?_
  rintro m st ⟨i, hi, rfl⟩
  repeat first
    | refine VS.seq ?_
    | (refine VS.keepAt 3 [0, 3, 9, 10, 11] ?_; generalize hK : VS _ _ _ = KK; (try simp); (try subst hK); refine VS.region tabOk (id := 3) [] (by kernel_rfl) ?_; generalize hK : VS _ _ _ = KK; simp (maxSteps := 1000000) [hF]; (try subst hK); try (refine VS.keep [0, 3, 9, 10, 11, 12] ?_; generalize hK : VS _ _ _ = KK; simp; (try subst hK)))
    | (refine VS.cond ?_; generalize hK1 : VS _ _ _ = KK1; generalize hK2 : VS _ _ _ = KK2; simp (maxSteps := 1000000) [hF]; (try subst hK1); (try subst hK2))
  refine ⟨fun hlt => ?_, fun hge => ?_⟩
  · have hi' : i < l.length := by omega
    have hn := dOs_nth hi'
    have hs := sizeOs_take hi'
    have hle := sizeOs_le l (i + 1)
    have hw : IntKind.i64.wrap ((sizeOs (l.take i) : Int) + (l[i].2.length : Int)) = ((sizeOs (l.take (i + 1)) : Nat) : Int) := by rw [IntWalk.i64_in _ (by omega)]; omega
    have hneg : ¬ ((sizeOs (l.take (i + 1)) : Nat) : Int) < 0 := by omega
    cases ho : l[i].1 with
    | true =>
      rw [ho] at hn
      repeat first
        | refine VS.seq ?_
        | refine VS.skip ?_
        | refine VS.block ?_
        | refine VS.nil ?_
        | refine blockN_normal ?_
        | refine loopN_normal ?_
        | (refine VS.keepAt 4 [0, 3, 9, 10, 11] ?_; generalize hK : VS _ _ _ = KK; (try simp); (try subst hK); refine VS.region tabOk (id := 4) [] (by kernel_rfl) ?_; generalize hK : VS _ _ _ = KK; simp (maxSteps := 1000000) [hF, hn, hi', hw, hneg]; (try subst hK); try (refine VS.keep [0, 3, 5, 9, 10, 11] ?_; generalize hK : VS _ _ _ = KK; simp; (try subst hK)))
        | (refine VS.keepAt 5 [0, 3, 5, 9, 10, 11] ?_; generalize hK : VS _ _ _ = KK; (try simp); (try subst hK); refine VS.region tabOk (id := 5) [] (by kernel_rfl) ?_; generalize hK : VS _ _ _ = KK; simp (maxSteps := 1000000) [hF, hn, hi', hw, hneg]; (try subst hK); try (refine VS.keep [0, 3, 9, 10, 11] ?_; generalize hK : VS _ _ _ = KK; simp; (try subst hK)))
        | (refine VS.keepAt 6 [0, 3, 9, 10, 11] ?_; generalize hK : VS _ _ _ = KK; (try simp); (try subst hK); refine VS.region tabOk (id := 6) [] (by kernel_rfl) ?_; generalize hK : VS _ _ _ = KK; simp (maxSteps := 1000000) [hF, hn, hi', hw, hneg]; (try subst hK); try (refine VS.keep [0, 3, 9, 10, 11, 20] ?_; generalize hK : VS _ _ _ = KK; simp; (try subst hK)))
        | (refine VS.keepAt 8 [0, 3, 9, 10, 11] ?_; generalize hK : VS _ _ _ = KK; (try simp); (try subst hK); refine VS.region tabOk (id := 8) [] (by kernel_rfl) ?_; generalize hK : VS _ _ _ = KK; simp (maxSteps := 1000000) [hF, hn, hi', hw, hneg]; (try subst hK); try (refine VS.keep [0, 3, 9, 10, 11] ?_; generalize hK : VS _ _ _ = KK; simp; (try subst hK)))
        | (refine VS.cond ?_; generalize hK1 : VS _ _ _ = KK1; generalize hK2 : VS _ _ _ = KK2; simp (maxSteps := 1000000) [hF, hn, hi', hw, hneg]; (try subst hK1); (try subst hK2))
      refine nextK.of [0, 3, 9, 10, 11] [0] (m - 1) (by omega) (by simp [hF]) ?_
      refine ⟨i + 1, by omega, ?_⟩
      simp
      exact IntWalk.i64_in _ (by omega)
    | false =>
      rw [ho] at hn
      repeat first
        | refine VS.seq ?_
        | refine VS.skip ?_
        | refine VS.block ?_
        | refine VS.nil ?_
        | refine blockN_normal ?_
        | refine loopN_normal ?_
        | (refine VS.keepAt 4 [0, 3, 9, 10, 11] ?_; generalize hK : VS _ _ _ = KK; (try simp); (try subst hK); refine VS.region tabOk (id := 4) [] (by kernel_rfl) ?_; generalize hK : VS _ _ _ = KK; simp (maxSteps := 1000000) [hF, hn, hi', hw, hneg]; (try subst hK); try (refine VS.keep [0, 3, 5, 9, 10, 11] ?_; generalize hK : VS _ _ _ = KK; simp; (try subst hK)))
        | (refine VS.keepAt 5 [0, 3, 5, 9, 10, 11] ?_; generalize hK : VS _ _ _ = KK; (try simp); (try subst hK); refine VS.region tabOk (id := 5) [] (by kernel_rfl) ?_; generalize hK : VS _ _ _ = KK; simp (maxSteps := 1000000) [hF, hn, hi', hw, hneg]; (try subst hK); try (refine VS.keep [0, 3, 9, 10, 11] ?_; generalize hK : VS _ _ _ = KK; simp; (try subst hK)))
        | (refine VS.keepAt 6 [0, 3, 9, 10, 11] ?_; generalize hK : VS _ _ _ = KK; (try simp); (try subst hK); refine VS.region tabOk (id := 6) [] (by kernel_rfl) ?_; generalize hK : VS _ _ _ = KK; simp (maxSteps := 1000000) [hF, hn, hi', hw, hneg]; (try subst hK); try (refine VS.keep [0, 3, 9, 10, 11, 20] ?_; generalize hK : VS _ _ _ = KK; simp; (try subst hK)))
        | (refine VS.keepAt 8 [0, 3, 9, 10, 11] ?_; generalize hK : VS _ _ _ = KK; (try simp); (try subst hK); refine VS.region tabOk (id := 8) [] (by kernel_rfl) ?_; generalize hK : VS _ _ _ = KK; simp (maxSteps := 1000000) [hF, hn, hi', hw, hneg]; (try subst hK); try (refine VS.keep [0, 3, 9, 10, 11] ?_; generalize hK : VS _ _ _ = KK; simp; (try subst hK)))
        | (refine VS.cond ?_; generalize hK1 : VS _ _ _ = KK1; generalize hK2 : VS _ _ _ = KK2; simp (maxSteps := 1000000) [hF, hn, hi', hw, hneg]; (try subst hK1); (try subst hK2))
      refine nextK.of [0, 3, 9, 10, 11] [0] (m - 1) (by omega) (by simp [hF]) ?_
      refine ⟨i + 1, by omega, ?_⟩
      simp
      exact IntWalk.i64_in _ (by omega)
  · obtain rfl : i = l.length := by omega
    rw [List.take_length]
    repeat first
      | refine VS.seq ?_
      | refine VS.exit ?_
      | (refine VS.keepAt 9 [0, 3] ?_; generalize hK : VS _ _ _ = KK; (try simp); (try subst hK); refine VS.region tabOk (id := 9) [] (by kernel_rfl) ?_; generalize hK : VS _ _ _ = KK; simp (maxSteps := 1000000) [hF]; (try subst hK); try (refine VS.keep [0, 6] ?_; generalize hK : VS _ _ _ = KK; simp; (try subst hK)))
    refine (grow_ok (sizeOs l) h1 h2).call [] (by simp) (by simp (maxSteps := 1000000) [hF]) (by simp (maxSteps := 1000000) [hF]) (by simp (maxSteps := 1000000) [hF]) (by simp) ?_
    rintro av X κ ⟨rfl, rfl, rfl⟩
    generalize hK : VS _ _ _ = KK; simp (maxSteps := 1000000) [hF]; (try subst hK)
    repeat first
      | refine VS.seq ?_
      | refine VS.block ?_
      | (refine VS.keepAt 10 [0, 6] ?_; generalize hK : VS _ _ _ = KK; (try simp); (try subst hK); refine VS.region tabOk (id := 10) [] (by kernel_rfl) ?_; generalize hK : VS _ _ _ = KK; simp (maxSteps := 1000000) [hF]; (try subst hK); try (refine VS.keep [6, 25, 26, 27] ?_; generalize hK : VS _ _ _ = KK; simp; (try subst hK)))
    refine VS.rounds (fun m st => ∃ (i : Nat) (s : D), i + m = l.length ∧ s.mid 0 (sizeOs (l.take i)) = dInts (flatOs (l.take i)) ∧ st = ⟨[(6, .sub 1 [] 0 (sizeOs (l.take i)) false), (25, .sub 0 [] 0 l.length ex), (26, avInt l.length), (27, avInt i)], [.sl true () 1 (dOs l), .sl true () 1 s], [], []⟩) ⟨l.length, 0, dInts (List.replicate (sizeOs l) 0), by omega, ?_, ?_⟩ ?_
    · simp [sizeOs, flatOs, dInts_mid]
    · simp [sizeOs]
    rintro m st ⟨i, s, hi, hs0, rfl⟩
    repeat first
      | refine VS.seq ?_
      | (refine VS.keepAt 11 [6, 25, 26, 27] ?_; generalize hK : VS _ _ _ = KK; (try simp); (try subst hK); refine VS.region tabOk (id := 11) [] (by kernel_rfl) ?_; generalize hK : VS _ _ _ = KK; simp (maxSteps := 1000000) [hF]; (try subst hK); try (refine VS.keep [6, 25, 26, 27, 28] ?_; generalize hK : VS _ _ _ = KK; simp; (try subst hK)))
      | (refine VS.cond ?_; generalize hK1 : VS _ _ _ = KK1; generalize hK2 : VS _ _ _ = KK2; simp (maxSteps := 1000000) [hF]; (try subst hK1); (try subst hK2))
    refine ⟨fun hlt => ?_, fun hge => ?_⟩
    · have hi' : i < l.length := by omega
      have hn := dOs_nth hi'
      have hs := sizeOs_take hi'
      have hf := flatOs_take hi'
      have hle := sizeOs_le l (i + 1)
      have ha := dInts_app (flatOs (l.take i)) l[i].2
      have b1 : (sizeOs (l.take i) + l[i].2.length) * 8 ≤ 140737488355328 := by omega
      have b2 : sizeOs (l.take i) + l[i].2.length ≤ 9223372036854775807 := by omega
      have hfin : (dInts (flatOs (l.take i) ++ l[i].2)).mid 0 (sizeOs (l.take i) + l[i].2.length) = dInts (flatOs (l.take i) ++ l[i].2) := by
        rw [← hf, ← hs, ← flatOs_len]; simp
      cases ho : l[i].1 with
      | true =>
        rw [ho] at hn
        repeat first
          | refine VS.seq ?_
          | refine VS.skip ?_
          | refine VS.block ?_
          | refine VS.nil ?_
          | refine blockN_normal ?_
          | refine loopN_normal ?_
          | (refine VS.keepAt 12 [6, 25, 26, 27] ?_; generalize hK : VS _ _ _ = KK; (try simp); (try subst hK); refine VS.region tabOk (id := 12) [] (by kernel_rfl) ?_; generalize hK : VS _ _ _ = KK; simp (maxSteps := 1000000) [hF, hn, hi', hs0, ha, b1, b2]; (try subst hK); try (refine VS.keep [6, 8, 25, 26, 27] ?_; generalize hK : VS _ _ _ = KK; simp; (try subst hK)))
          | (refine VS.keepAt 13 [6, 8, 25, 26, 27] ?_; generalize hK : VS _ _ _ = KK; (try simp); (try subst hK); refine VS.region tabOk (id := 13) [] (by kernel_rfl) ?_; generalize hK : VS _ _ _ = KK; simp (maxSteps := 1000000) [hF, hn, hi', hs0, ha, b1, b2]; (try subst hK); try (refine VS.keep [6, 25, 26, 27] ?_; generalize hK : VS _ _ _ = KK; simp; (try subst hK)))
          | (refine VS.keepAt 14 [6, 25, 26, 27] ?_; generalize hK : VS _ _ _ = KK; (try simp); (try subst hK); refine VS.region tabOk (id := 14) [] (by kernel_rfl) ?_; generalize hK : VS _ _ _ = KK; simp (maxSteps := 1000000) [hF, hn, hi', hs0, ha, b1, b2]; (try subst hK); try (refine VS.keep [6, 25, 26, 27] ?_; generalize hK : VS _ _ _ = KK; simp; (try subst hK)))
        refine nextK.of [6, 25, 26, 27] [0, 1] (m - 1) (by omega) (by simp [hF]) ?_
        refine ⟨i + 1, dInts (flatOs (l.take i) ++ l[i].2), by omega, by rw [hs, hf]; exact hfin, ?_⟩
        simp [hs]
        exact IntWalk.i64_in _ (by omega)
      | false =>
        rw [ho] at hn
        repeat first
          | refine VS.seq ?_
          | refine VS.skip ?_
          | refine VS.block ?_
          | refine VS.nil ?_
          | refine blockN_normal ?_
          | refine loopN_normal ?_
          | (refine VS.keepAt 12 [6, 25, 26, 27] ?_; generalize hK : VS _ _ _ = KK; (try simp); (try subst hK); refine VS.region tabOk (id := 12) [] (by kernel_rfl) ?_; generalize hK : VS _ _ _ = KK; simp (maxSteps := 1000000) [hF, hn, hi', hs0, ha, b1, b2]; (try subst hK); try (refine VS.keep [6, 8, 25, 26, 27] ?_; generalize hK : VS _ _ _ = KK; simp; (try subst hK)))
          | (refine VS.keepAt 13 [6, 8, 25, 26, 27] ?_; generalize hK : VS _ _ _ = KK; (try simp); (try subst hK); refine VS.region tabOk (id := 13) [] (by kernel_rfl) ?_; generalize hK : VS _ _ _ = KK; simp (maxSteps := 1000000) [hF, hn, hi', hs0, ha, b1, b2]; (try subst hK); try (refine VS.keep [6, 25, 26, 27] ?_; generalize hK : VS _ _ _ = KK; simp; (try subst hK)))
          | (refine VS.keepAt 14 [6, 25, 26, 27] ?_; generalize hK : VS _ _ _ = KK; (try simp); (try subst hK); refine VS.region tabOk (id := 14) [] (by kernel_rfl) ?_; generalize hK : VS _ _ _ = KK; simp (maxSteps := 1000000) [hF, hn, hi', hs0, ha, b1, b2]; (try subst hK); try (refine VS.keep [6, 25, 26, 27] ?_; generalize hK : VS _ _ _ = KK; simp; (try subst hK)))
        refine nextK.of [6, 25, 26, 27] [0, 1] (m - 1) (by omega) (by simp [hF]) ?_
        refine ⟨i + 1, dInts (flatOs (l.take i) ++ l[i].2), by omega, by rw [hs, hf]; exact hfin, ?_⟩
        simp [hs]
        exact IntWalk.i64_in _ (by omega)
    · obtain rfl : i = l.length := by omega
      rw [List.take_length] at hs0
      repeat first
        | refine VS.seq ?_
        | refine VS.exit ?_
        | (refine VS.keepAt 15 [6] ?_; generalize hK : VS _ _ _ = KK; (try simp); (try subst hK); refine VS.region tabOk (id := 15) [] (by kernel_rfl) ?_; generalize hK : VS _ _ _ = KK; simp (maxSteps := 1000000) [hF]; (try subst hK); try (refine VS.keep [2] ?_; generalize hK : VS _ _ _ = KK; simp; (try subst hK)))
      refine VS.cool 2 (by simp (maxSteps := 1000000) [hF, hs0]) ?_
      generalize hK : VS _ _ _ = KK; simp [hF, St.cool, hs0]; (try subst hK)
      try refine VS.ret ?_
      repeat first | refine blockN_ret ?_ | refine loopN_ret ?_
      refine endK.of [2] [0] [] (by simp [hF]) (by simp [covers, mpre]) ?_
      simp [hF, retK]

/- slices.Clone[[]int,int] -/
theorem clone_ok (ex : Bool) (l : List Int) (hl : l.length ≤ 100000000) : Meets Try.prog 40 [] (.cons (.imm 1 (dInts l) ex) .nil)
    fun av X κ => av = .sub 0 [] 0 l.length false ∧ X = [.sl true () 1 (dInts l)] ∧ κ = [] := by
  refine Meets.of_vs tabOk Try.func40 (body := ?_) ?_ (by kernel_rfl) Try.ntmps40 (rs := [.tmp 2]) (by kernel_rfl) rfl (by simp [AV.len]) (by simp only [envOf]; exact rfl) ?_
  rotate_left
  · rfl
  intro w0 I0 F0 hF
  repeat first
    | refine VS.seq ?_
    | (refine VS.keepAt 0 [0] ?_; generalize hK : VS _ _ _ = KK; (try simp); (try subst hK); refine VS.region tabOk (id := 0) [] (by kernel_rfl) ?_; generalize hK : VS _ _ _ = KK; simp (maxSteps := 1000000) [hF]; (try subst hK); try (refine VS.keep [0] ?_; generalize hK : VS _ _ _ = KK; simp; (try subst hK)))
    | (refine VS.keepAt 1 [0] ?_; generalize hK : VS _ _ _ = KK; (try simp); (try subst hK); refine VS.region tabOk (id := 1) [] (by kernel_rfl) ?_; generalize hK : VS _ _ _ = KK; simp (maxSteps := 1000000) [hF]; (try subst hK); try (refine VS.keep [0, 4] ?_; generalize hK : VS _ _ _ = KK; simp; (try subst hK)))
  refine ⟨?_, fun h0 => ?_⟩
  · repeat first
      | refine VS.seq ?_
      | refine VS.skip ?_
      | refine ⟨⟨by omega, by omega⟩, ?_⟩
      | (refine VS.keepAt 3 [0] ?_; generalize hK : VS _ _ _ = KK; (try simp); (try subst hK); refine VS.region tabOk (id := 3) [] (by kernel_rfl) ?_; generalize hK : VS _ _ _ = KK; simp (maxSteps := 1000000) [hF]; (try subst hK); try (refine VS.keep [2] ?_; generalize hK : VS _ _ _ = KK; simp; (try subst hK)))
      | (refine VS.cond ?_; generalize hK1 : VS _ _ _ = KK1; generalize hK2 : VS _ _ _ = KK2; simp (maxSteps := 1000000) [hF]; (try subst hK1); (try subst hK2))
    try refine VS.ret ?_
    repeat first | refine blockN_ret ?_ | refine loopN_ret ?_
    refine endK.of [2] [0] [] (by simp [hF]) (by simp [covers, mpre]) ?_
    simp [hF, retK]
  · repeat first
      | refine VS.seq ?_
      | (refine VS.keepAt 2 [] ?_; generalize hK : VS _ _ _ = KK; (try simp); (try subst hK); refine VS.region tabOk (id := 2) [] (by kernel_rfl) ?_; generalize hK : VS _ _ _ = KK; simp (maxSteps := 1000000) [hF]; (try subst hK); try (refine VS.keep [2] ?_; generalize hK : VS _ _ _ = KK; simp; (try subst hK)))
      | (refine VS.cond ?_; generalize hK1 : VS _ _ _ = KK1; generalize hK2 : VS _ _ _ = KK2; simp (maxSteps := 1000000) [hF]; (try subst hK1); (try subst hK2))
    refine VS.hold0 2 1 (by simp) ?_
    subst h0
    try refine VS.ret ?_
    repeat first | refine blockN_ret ?_ | refine loopN_ret ?_
    refine endK.of [2] [0] [] (by simp [hF]) (by simp [covers, mpre]) ?_
    simp [hF, retK, dInts]
/-- The same; the copy is left alone from then on. -/
theorem cloneI_ok (ex : Bool) (l : List Int) (hl : l.length ≤ 100000000) : Meets Try.prog 40 [] (.cons (.imm 1 (dInts l) ex) .nil)
    fun av X κ => av = .imm 1 (dInts l) false ∧ X = [] ∧ κ = [] := by
  refine Meets.of_vs tabOk Try.func40 (body := ?_) ?_ (by kernel_rfl) Try.ntmps40 (rs := [.tmp 2]) (by kernel_rfl) rfl (by simp [AV.len]) (by simp only [envOf]; exact rfl) ?_
  rotate_left
  · rfl
  intro w0 I0 F0 hF
  repeat first
    | refine VS.seq ?_
    | (refine VS.keepAt 0 [0] ?_; generalize hK : VS _ _ _ = KK; (try simp); (try subst hK); refine VS.region tabOk (id := 0) [] (by kernel_rfl) ?_; generalize hK : VS _ _ _ = KK; simp (maxSteps := 1000000) [hF]; (try subst hK); try (refine VS.keep [0] ?_; generalize hK : VS _ _ _ = KK; simp; (try subst hK)))
    | (refine VS.keepAt 1 [0] ?_; generalize hK : VS _ _ _ = KK; (try simp); (try subst hK); refine VS.region tabOk (id := 1) [] (by kernel_rfl) ?_; generalize hK : VS _ _ _ = KK; simp (maxSteps := 1000000) [hF]; (try subst hK); try (refine VS.keep [0, 4] ?_; generalize hK : VS _ _ _ = KK; simp; (try subst hK)))
  refine ⟨?_, fun h0 => ?_⟩
  · repeat first
      | refine VS.seq ?_
      | refine VS.skip ?_
      | refine ⟨⟨by omega, by omega⟩, ?_⟩
      | (refine VS.keepAt 3 [0] ?_; generalize hK : VS _ _ _ = KK; (try simp); (try subst hK); refine VS.region tabOk (id := 3) [] (by kernel_rfl) ?_; generalize hK : VS _ _ _ = KK; simp (maxSteps := 1000000) [hF]; (try subst hK); try (refine VS.keep [2] ?_; generalize hK : VS _ _ _ = KK; simp; (try subst hK)))
      | (refine VS.cond ?_; generalize hK1 : VS _ _ _ = KK1; generalize hK2 : VS _ _ _ = KK2; simp (maxSteps := 1000000) [hF]; (try subst hK1); (try subst hK2))
    refine VS.cool 2 (by simp (maxSteps := 1000000) [hF]) ?_
    generalize hK : VS _ _ _ = KK; simp [hF, St.cool]; (try subst hK)
    try refine VS.ret ?_
    repeat first | refine blockN_ret ?_ | refine loopN_ret ?_
    refine endK.of [2] [] [] (by simp [hF]) (by simp [covers, mpre]) ?_
    simp [hF, retK]
  · repeat first
      | refine VS.seq ?_
      | (refine VS.keepAt 2 [] ?_; generalize hK : VS _ _ _ = KK; (try simp); (try subst hK); refine VS.region tabOk (id := 2) [] (by kernel_rfl) ?_; generalize hK : VS _ _ _ = KK; simp (maxSteps := 1000000) [hF]; (try subst hK); try (refine VS.keep [2] ?_; generalize hK : VS _ _ _ = KK; simp; (try subst hK)))
      | (refine VS.cond ?_; generalize hK1 : VS _ _ _ = KK1; generalize hK2 : VS _ _ _ = KK2; simp (maxSteps := 1000000) [hF]; (try subst hK1); (try subst hK2))
    refine VS.hold0 2 1 (by simp) ?_
    subst h0
    refine VS.cool 2 (by simp (maxSteps := 1000000) [hF, T.freeze, T.mid, T.drop, T.take]) ?_
    generalize hK : VS _ _ _ = KK; simp [hF, St.cool, T.freeze, T.mid, T.drop, T.take]; (try subst hK)
    try refine VS.ret ?_
    repeat first | refine blockN_ret ?_ | refine loopN_ret ?_
    refine endK.of [2] [] [] (by simp [hF]) (by simp [covers, mpre]) ?_
    simp [hF, retK]
end Go.Proofs.Ytahgopdamgagkaa

/- merge: what it does. -/
namespace Go.Proofs.Ytahgopdamgagkaa
set_option linter.all false
open Go.Vc Go.Proofs
set_option linter.unusedSimpArgs false
set_option maxRecDepth 100000
set_option maxHeartbeats 4000000
attribute [local irreducible] CallW EqK

def hd (x : List Int) : Int := x.headD 0
def total : List (List Int) → Nat
  | [] => 0
  | x :: l => x.length + total l
def dropHd (v : Int) (y : List Int) : List Int := if hd y = v then y.tail else y
/-- Rounds of a merge, as far as there is fuel. -/
def mergeF : Nat → List (List Int) → List Int → Option (List Int)
  | 0, _, _ => none
  | n + 1, ls, out =>
    if (ls.filter fun x => !nul x) = [] then some out
    else match (ls.filter fun x => !nul x).find? fun x => !inTails (ls.filter fun x => !nul x) (hd x) with
      | none => none
      | some x => mergeF n ((ls.filter fun x => !nul x).map (dropHd (hd x))) (out ++ [hd x])
def mergeOf (ls : List (List Int)) : Option (List Int) := mergeF (total ls + 1) ls []

theorem hd_eq {x : List Int} (h : 0 < x.length) : hd x = x[0] := by
  cases x with
  | nil => cases h
  | cons a l => rfl
theorem dInts_app1 (l : List Int) (x : Int) : (dInts l).app (.cons (.val (.int .i64 x)) .nil) = dInts (l ++ [x]) := dInts_app l [x]
theorem total_len {ls : List (List Int)} (h : ∀ y ∈ ls, 0 < y.length) : ls.length ≤ total ls := by
  induction ls with
  | nil => exact Nat.le_refl _
  | cons x l ih =>
    have h1 := h x List.mem_cons_self
    have h2 := ih fun y hy => h y (List.mem_cons_of_mem _ hy)
    simp only [List.length_cons, total]; omega
theorem total_filter (ls : List (List Int)) : total (ls.filter fun x => !nul x) = total ls := by
  induction ls with
  | nil => rfl
  | cons x l ih =>
    by_cases h : nul x = true
    · have : x.length = 0 := by simpa [nul] using h
      simp [h, total, ih, this]
    · simp [h, total, ih]
theorem total_drop_le (v : Int) (ls : List (List Int)) : total (ls.map (dropHd v)) ≤ total ls := by
  induction ls with
  | nil => exact Nat.le_refl _
  | cons x l ih =>
    have : (dropHd v x).length ≤ x.length := by unfold dropHd; split <;> simp
    simp only [List.map_cons, total]; omega
theorem total_drop_lt {v : Int} {ls : List (List Int)} {x : List Int} (hx : x ∈ ls) (h0 : 0 < x.length) (hv : hd x = v) : total (ls.map (dropHd v)) < total ls := by
  induction ls with
  | nil => cases hx
  | cons y l ih =>
    have hy : (dropHd v y).length ≤ y.length := by unfold dropHd; split <;> simp
    have hl := total_drop_le v l
    simp only [List.map_cons, total]
    rcases List.mem_cons.1 hx with rfl | hx
    · have : (dropHd v x).length < x.length := by unfold dropHd; rw [if_pos hv]; simp; omega
      omega
    · have := ih hx; omega
theorem filter_pos {ls : List (List Int)} {y : List Int} (h : y ∈ ls.filter fun x => !nul x) : 0 < y.length := by
  have := (List.mem_filter.1 h).2
  simp [nul] at this
  exact List.length_pos_iff.2 this
theorem total_mem {ls : List (List Int)} {y : List Int} (h : y ∈ ls) : y.length ≤ total ls := by
  induction ls with
  | nil => cases h
  | cons x l ih =>
    simp only [total]
    rcases List.mem_cons.1 h with rfl | h
    · omega
    · have := ih h; omega

/- cabochon/lineage.merge -/
theorem merge_ok (ls : List (List Int)) (hl : ls.length ≤ 10000) (ht : total ls ≤ 100000000) : Meets Try.prog 56 [.sl true () 1 (dLs ls)] (.cons (.sub 0 [] 0 ls.length false) .nil)
    fun av X κ => match mergeOf ls with
      | some o => av = .tup (.cons (.sub 1 [] 0 o.length false) (.cons (avBool true) .nil)) ∧ X = [.junk (), .sl true () 1 (dInts o)] ∧ κ = [(0, [])]
      | none => av = .tup (.cons (.nils 1) (.cons (avBool false) .nil)) ∧ X = [.junk ()] ∧ κ = [(0, [])] := by
  refine Meets.of_vs tabOk Try.func56 (body := ?_) ?_ (by kernel_rfl) Try.ntmps56 (rs := [.tmp 2, .tmp 3]) (by kernel_rfl) rfl (by simp [AV.len]) (by simp only [envOf]; exact rfl) ?_
  rotate_left
  · rfl
  intro w0 I0 F0 hF
  repeat first
    | refine VS.seq ?_
  refine VS.lift 0 [] (by simp (maxSteps := 1000000) [hF]) (by simp (maxSteps := 1000000) [hF]) (by simp [isNode]) (by simp (maxSteps := 1000000) [hF]) ?_
  generalize hK : VS _ _ _ = KK; simp [hF, St.lift, AV.lift, liftPl, stripP, nodeAV]; (try subst hK)
  refine VS.forget ?_
  generalize hK : VS _ _ _ = KK; simp [hF, St.forget]; (try subst hK)
  repeat first
    | refine VS.seq ?_
    | refine VS.block ?_
    | (refine VS.keepAt 0 [0] ?_; generalize hK : VS _ _ _ = KK; (try simp); (try subst hK); refine VS.region tabOk (id := 0) [] (by kernel_rfl) ?_; generalize hK : VS _ _ _ = KK; simp (maxSteps := 1000000) [hF]; (try subst hK); try (refine VS.keep [1] ?_; generalize hK : VS _ _ _ = KK; simp; (try subst hK)))
    | (refine VS.keepAt 1 [1] ?_; generalize hK : VS _ _ _ = KK; (try simp); (try subst hK); refine VS.region tabOk (id := 1) [] (by kernel_rfl) ?_; generalize hK : VS _ _ _ = KK; simp (maxSteps := 1000000) [hF]; (try subst hK); try (refine VS.keep [1, 4] ?_; generalize hK : VS _ _ _ = KK; simp; (try subst hK)))
  refine VS.hold0 4 1 (by simp) ?_
  refine VS.pick [1, 4] [0, 2, 3] (by simp [hF]) ?_
  generalize hK : VS _ _ _ = KK; simp [hF]; (try subst hK)
  refine VS.rounds (fun m st => ∃ (cur : List (List Int)) (out : List Int) (f : Nat), m = total cur ∧ total cur < f ∧ mergeF f cur out = mergeOf ls ∧ cur.length ≤ ls.length ∧ total cur + out.length ≤ total ls ∧
    st = ⟨[(1, .ptr 1 [.d]), (4, .sub 2 [] 0 out.length false)], [.junk (), dBoxL cur, .sl true () 1 (dInts out)], [(0, [])], []⟩)
    ⟨total ls, ls, [], total ls + 1, rfl, by omega, rfl, Nat.le_refl _, by simp, by simp [dBoxL]⟩ ?_
  rintro m st ⟨cur, out, f, rfl, hf, hmo, hcl, htot, rfl⟩
  obtain ⟨f, rfl⟩ : ∃ f', f = f' + 1 := ⟨f - 1, by omega⟩
  have hpos : ∀ y ∈ (cur.filter fun x => !nul x), 0 < y.length := fun y hy => filter_pos hy
  have htf := total_filter cur
  have hll := total_len hpos
  have hfl : (cur.filter fun x => !nul x).length ≤ cur.length := List.length_filter_le _ _
  have hle : ∀ y ∈ (cur.filter fun x => !nul x), y.length ≤ 100000000 := fun y hy => by have := total_mem hy; omega
  unfold mergeF at hmo
  repeat first
    | refine VS.seq ?_
    | refine VS.block ?_
    | (refine VS.keepAt 2 [1, 4] ?_; generalize hK : VS _ _ _ = KK; (try simp); (try subst hK); refine VS.region tabOk (id := 2) [] (by kernel_rfl) ?_; generalize hK : VS _ _ _ = KK; simp (maxSteps := 1000000) [hF, dBoxL]; (try subst hK); try (refine VS.keep [1, 4] ?_; generalize hK : VS _ _ _ = KK; simp; (try subst hK)))
  refine (delLs_ok cur (by omega)).call [(1, [.d])] (by simp) (by simp (maxSteps := 1000000) [hF, dBoxL]) (by simp (maxSteps := 1000000) [hF, dBoxL]) (by simp (maxSteps := 1000000) [hF, dBoxL]) (by simp) ?_
  rintro av X κ ⟨s1, m1, rfl, rfl, rfl, hs1, hm1⟩
  generalize hK : VS _ _ _ = KK; simp (maxSteps := 1000000) [hF, dBoxL]; (try subst hK)
  generalize (cur.filter fun x => !nul x) = l at *
  subst hm1
  repeat first
    | refine VS.seq ?_
    | (refine VS.keepAt 3 [1, 4] ?_; generalize hK : VS _ _ _ = KK; (try simp); (try subst hK); refine VS.region tabOk (id := 3) [] (by kernel_rfl) ?_; generalize hK : VS _ _ _ = KK; simp (maxSteps := 1000000) [hF, hs1]; (try subst hK); try (refine VS.keep [1, 4, 13] ?_; generalize hK : VS _ _ _ = KK; simp; (try subst hK)))
    | (refine VS.cond ?_; generalize hK1 : VS _ _ _ = KK1; generalize hK2 : VS _ _ _ = KK2; simp (maxSteps := 1000000) [hF, hs1]; (try subst hK1); (try subst hK2))
  refine ⟨fun hl0 => ?_, fun hl0 => ?_⟩
  · rw [if_pos hl0] at hmo
    rw [← hmo]
    repeat first
      | refine VS.seq ?_
      | (refine VS.keepAt 4 [4] ?_; generalize hK : VS _ _ _ = KK; (try simp); (try subst hK); refine VS.region tabOk (id := 4) [] (by kernel_rfl) ?_; generalize hK : VS _ _ _ = KK; simp (maxSteps := 1000000) [hF]; (try subst hK); try (refine VS.keep [2, 3] ?_; generalize hK : VS _ _ _ = KK; simp; (try subst hK)))
    try refine VS.ret ?_
    repeat first | refine blockN_ret ?_ | refine loopN_ret ?_
    refine endK.of [2, 3] [0, 2] [(0, [])] (by simp [hF]) (by simp [covers, mpre]) ?_
    simp [hF, retK]
  · rw [if_neg hl0] at hmo
    refine VS.pick [1, 4] [0, 1, 2] (by simp [hF]) ?_
    generalize hK : VS _ _ _ = KK; simp [hF]; (try subst hK)
    repeat first
      | refine VS.seq ?_
      | refine VS.skip ?_
      | (refine VS.keepAt 5 [1, 4] ?_; generalize hK : VS _ _ _ = KK; (try simp); (try subst hK); refine VS.region tabOk (id := 5) [] (by kernel_rfl) ?_; generalize hK : VS _ _ _ = KK; simp (maxSteps := 1000000) [hF]; (try subst hK); try (refine VS.keep [1, 4, 5] ?_; generalize hK : VS _ _ _ = KK; simp; (try subst hK)))
    refine (indexFunc_2 false l (by omega) (fun x => !inTails l (hd x)) (fun i h => by have hp := hpos _ (List.getElem_mem h); rw [hd_eq hp]; exact m2_ok false l l[i] (by omega) hpos hle hp)).call [(1, [])] (by simp) (by simp (maxSteps := 1000000) [hF, dBoxL]) (by simp (maxSteps := 1000000) [hF, dBoxL]) (by simp (maxSteps := 1000000) [hF, dBoxL]) (by simp) ?_
    rintro av X κ ⟨rfl, rfl, rfl⟩
    generalize hK : VS _ _ _ = KK; simp (maxSteps := 1000000) [hF, dBoxL]; (try subst hK)
    by_cases hat : ixF (fun x => !inTails l (hd x)) l = -1
    · have hfind : l.find? (fun x => !inTails l (hd x)) = none := by
        rw [List.find?_eq_none]
        intro x hx
        have := ixF_none hat
        rw [List.filter_eq_self] at this
        have := this x hx
        simpa using this
      rw [hfind] at hmo
      simp only at hmo
      rw [← hmo]
      repeat first
        | refine VS.seq ?_
        | (refine VS.keepAt 6 [1, 4, 5] ?_; generalize hK : VS _ _ _ = KK; (try simp); (try subst hK); refine VS.region tabOk (id := 6) [] (by kernel_rfl) ?_; generalize hK : VS _ _ _ = KK; simp (maxSteps := 1000000) [hF, hat]; (try subst hK); try (refine VS.keep [1, 4, 5, 19] ?_; generalize hK : VS _ _ _ = KK; simp; (try subst hK)))
        | (refine VS.keepAt 7 [] ?_; generalize hK : VS _ _ _ = KK; (try simp); (try subst hK); refine VS.region tabOk (id := 7) [] (by kernel_rfl) ?_; generalize hK : VS _ _ _ = KK; simp (maxSteps := 1000000) [hF, hat]; (try subst hK); try (refine VS.keep [2, 3] ?_; generalize hK : VS _ _ _ = KK; simp; (try subst hK)))
        | (refine VS.cond ?_; generalize hK1 : VS _ _ _ = KK1; generalize hK2 : VS _ _ _ = KK2; simp (maxSteps := 1000000) [hF, hat]; (try subst hK1); (try subst hK2))
      try refine VS.ret ?_
      repeat first | refine blockN_ret ?_ | refine loopN_ret ?_
      refine endK.of [2, 3] [0] [(0, [])] (by simp [hF]) (by simp [covers, mpre]) ?_
      simp [hF, retK]
    · obtain ⟨i0, hi0, he, hp0, hall⟩ := ixF_some hat
      have hfind : l.find? (fun x => !inTails l (hd x)) = some l[i0] := by
        rw [List.find?_eq_some_iff_getElem]
        exact ⟨hp0, i0, hi0, rfl, fun j hj => by simpa using hall j hj⟩
      rw [hfind] at hmo
      simp only at hmo
      have hn := dLs_nth hi0
      have hx0 := hpos _ (List.getElem_mem hi0)
      have hn0 := dInts_nth hx0
      have hhd := hd_eq hx0
      have hlt := total_drop_lt (List.getElem_mem hi0) hx0 rfl
      rw [hhd] at hmo hlt
      have happ := dInts_app1 out l[i0][0]
      have b1 : (out.length + 1) * 8 ≤ 140737488355328 := by omega
      have b2 : out.length + 1 ≤ 9223372036854775807 := by omega
      have hneg : ¬ (i0 : Int) < 0 := by omega
      repeat first
        | refine VS.seq ?_
        | refine VS.skip ?_
        | refine VS.block ?_
        | (refine VS.keepAt 6 [1, 4, 5] ?_; generalize hK : VS _ _ _ = KK; (try simp); (try subst hK); refine VS.region tabOk (id := 6) [] (by kernel_rfl) ?_; generalize hK : VS _ _ _ = KK; simp (maxSteps := 1000000) [hF, he, hn, hx0, hn0, hi0, happ, b1, b2, hneg, dBoxL]; (try subst hK); try (refine VS.keep [1, 4, 5, 19] ?_; generalize hK : VS _ _ _ = KK; simp; (try subst hK)))
        | (refine VS.keepAt 8 [1, 4, 5] ?_; generalize hK : VS _ _ _ = KK; (try simp); (try subst hK); refine VS.region tabOk (id := 8) [] (by kernel_rfl) ?_; generalize hK : VS _ _ _ = KK; simp (maxSteps := 1000000) [hF, he, hn, hx0, hn0, hi0, happ, b1, b2, hneg, dBoxL]; (try subst hK); try (refine VS.keep [1, 4, 6] ?_; generalize hK : VS _ _ _ = KK; simp; (try subst hK)))
        | (refine VS.keepAt 9 [1, 4, 6] ?_; generalize hK : VS _ _ _ = KK; (try simp); (try subst hK); refine VS.region tabOk (id := 9) [] (by kernel_rfl) ?_; generalize hK : VS _ _ _ = KK; simp (maxSteps := 1000000) [hF, he, hn, hx0, hn0, hi0, happ, b1, b2, hneg, dBoxL]; (try subst hK); try (refine VS.keep [1, 4, 6] ?_; generalize hK : VS _ _ _ = KK; simp; (try subst hK)))
        | (refine VS.keepAt 10 [1, 4, 6] ?_; generalize hK : VS _ _ _ = KK; (try simp); (try subst hK); refine VS.region tabOk (id := 10) [] (by kernel_rfl) ?_; generalize hK : VS _ _ _ = KK; simp (maxSteps := 1000000) [hF, he, hn, hx0, hn0, hi0, happ, b1, b2, hneg, dBoxL]; (try subst hK); try (refine VS.keep [1, 4, 6, 30, 31, 32] ?_; generalize hK : VS _ _ _ = KK; simp; (try subst hK)))
        | (refine VS.cond ?_; generalize hK1 : VS _ _ _ = KK1; generalize hK2 : VS _ _ _ = KK2; simp (maxSteps := 1000000) [hF, he, hn, hx0, hn0, hi0, happ, b1, b2, hneg, dBoxL]; (try subst hK1); (try subst hK2))
      have hdone : ((dInts (out ++ [l[i0][0]])).mid 0 (out.length + 1)) = dInts (out ++ [l[i0][0]]) := sq_mid_all _ _ (by simp)
      generalize l[i0][0] = v at *
      refine VS.pick [1, 4, 6, 30, 31, 32] [0, 1, 2] (by simp [hF]) ?_
      generalize hK : VS _ _ _ = KK; simp [hF]; (try subst hK)
      refine VS.rounds (fun m2 st => ∃ (k : Nat), k + m2 = l.length ∧ st = ⟨[(1, .ptr 1 [.d]), (4, .sub 2 [] 0 (out.length + 1) false), (6, avInt v), (30, .sub 1 [.d] 0 l.length false), (31, avInt l.length), (32, avInt k)],
        [.junk (), dBoxL ((l.map (dropHd v)).take k ++ l.drop k), .sl true () 1 (dInts (out ++ [v]))], [(0, [])], []⟩) ⟨l.length, 0, by omega, by simp [dBoxL]⟩ ?_
      rintro m2 st ⟨k, hk, rfl⟩
      repeat first
        | refine VS.seq ?_
        | (refine VS.keepAt 11 [1, 4, 6, 30, 31, 32] ?_; generalize hK : VS _ _ _ = KK; (try simp); (try subst hK); refine VS.region tabOk (id := 11) [] (by kernel_rfl) ?_; generalize hK : VS _ _ _ = KK; simp (maxSteps := 1000000) [hF, dBoxL]; (try subst hK); try (refine VS.keep [1, 4, 6, 30, 31, 32, 33] ?_; generalize hK : VS _ _ _ = KK; simp; (try subst hK)))
        | (refine VS.cond ?_; generalize hK1 : VS _ _ _ = KK1; generalize hK2 : VS _ _ _ = KK2; simp (maxSteps := 1000000) [hF, dBoxL]; (try subst hK1); (try subst hK2))
      refine ⟨fun hlt2 => ?_, fun hge2 => ?_⟩
      · have hkl : k < l.length := by omega
        have hclen : ((l.map (dropHd v)).take k ++ l.drop k).length = l.length := by simp; omega
        have hkl2 : k < ((l.map (dropHd v)).take k ++ l.drop k).length := by omega
        have hcur : ((l.map (dropHd v)).take k ++ l.drop k)[k] = l[k] := by
          rw [List.getElem_append_right (by simp; omega)]
          simp [Nat.min_eq_left (Nat.le_of_lt hkl)]
        have hnk := dLs_nth hkl2
        rw [hcur] at hnk
        have hx1 := hpos _ (List.getElem_mem hkl)
        have hn1 := dInts_nth hx1
        have hhk := hd_eq hx1
        have hnext : ∀ y, y = dropHd v l[k] → ((l.map (dropHd v)).take k ++ l.drop k).set k y = (l.map (dropHd v)).take (k + 1) ++ l.drop (k + 1) := fun y hy => by
          subst hy
          rw [List.set_append_right _ _ (by simp; omega)]
          simp only [List.length_map, List.length_take, Nat.min_eq_left (Nat.le_of_lt hkl), Nat.sub_self]
          rw [List.drop_eq_getElem_cons hkl, List.set_cons_zero, List.take_add_one, List.getElem?_map, List.getElem?_eq_getElem hkl]
          simp
        have hsetk := dLs_set ((l.map (dropHd v)).take k ++ l.drop k) k l[k].tail
        have htl := dInts_tail l[k]
        have hx1' : (1 : Int) ≤ l[k].length := by omega
        have hx1'' : 1 ≤ l[k].length := by omega
        repeat first
          | refine VS.seq ?_
          | refine VS.skip ?_
          | refine VS.block ?_
          | (refine VS.keepAt 12 [1, 4, 6, 30, 31, 32] ?_; generalize hK : VS _ _ _ = KK; (try simp); (try subst hK); refine VS.region tabOk (id := 12) [] (by kernel_rfl) ?_; generalize hK : VS _ _ _ = KK; simp (maxSteps := 1000000) [hF, hkl, hkl2, hclen, hnk, hx1, hn1, dBoxL]; (try subst hK); try (refine VS.keep [1, 4, 6, 7, 8, 30, 31, 32] ?_; generalize hK : VS _ _ _ = KK; simp; (try subst hK)))
          | (refine VS.keepAt 13 [1, 4, 6, 7, 8, 30, 31, 32] ?_; generalize hK : VS _ _ _ = KK; (try simp); (try subst hK); refine VS.region tabOk (id := 13) [] (by kernel_rfl) ?_; generalize hK : VS _ _ _ = KK; simp (maxSteps := 1000000) [hF, hkl, hkl2, hclen, hnk, hx1, hn1, dBoxL]; (try subst hK); try (refine VS.keep [1, 4, 6, 7, 8, 30, 31, 32, 41] ?_; generalize hK : VS _ _ _ = KK; simp; (try subst hK)))
          | (refine VS.cond ?_; generalize hK1 : VS _ _ _ = KK1; generalize hK2 : VS _ _ _ = KK2; simp (maxSteps := 1000000) [hF, hkl, hkl2, hclen, hnk, hx1, hn1, dBoxL]; (try subst hK1); (try subst hK2))
        refine ⟨fun hv => ?_, fun hv => ?_⟩
        · have hd1 := hnext l[k].tail (by unfold dropHd; rw [if_pos (by rw [hhk, hv])])
          repeat first
            | refine VS.nil ?_
            | refine blockN_normal ?_
            | refine loopN_normal ?_
            | (refine VS.keepAt 14 [1, 4, 6, 7, 8, 30, 31, 32] ?_; generalize hK : VS _ _ _ = KK; (try simp); (try subst hK); refine VS.drawn tabOk mixedOk (id := 14) [] [⟨0, 2, 4398046511104, 6⟩, ⟨0, 128, 8796093022208, 5⟩, ⟨0, 256, 17592186044416, 5⟩, ⟨4, 17592186044416, 35184372088832, 5⟩, ⟨15, 13194139533312, 70368744177664, 5⟩, ⟨31, 105553116266496, 0, 0⟩] (.take 0 (.take 1 (.take 2 (.take 3 (.take 4 (.fork (.alt 5 (.done) (.nil)))))))) (.run [0, 1, 2, 3, 4, 5] (.done)) (by kernel_rfl) (by kernel_rfl) (by kernel_rfl) ?_; generalize hK : VS _ _ _ = KK; simp only [opsVc_run, opsVc_both, opsVc_chk, opsVc_done, opsVc_yes, pick_cons, pick_nil, List.getElem?_cons_zero, List.getElem?_cons_succ]; simp (maxSteps := 1000000) [hF, hkl, hkl2, hclen, hnk, hx1, hn1, htl, hsetk, hx1', hx1'', dBoxL]; (try subst hK); try (refine VS.keep [1, 4, 6, 30, 31, 32] ?_; generalize hK : VS _ _ _ = KK; simp; (try subst hK)))
            | (refine VS.keepAt 15 [1, 4, 6, 30, 31, 32] ?_; generalize hK : VS _ _ _ = KK; (try simp); (try subst hK); refine VS.region tabOk (id := 15) [] (by kernel_rfl) ?_; generalize hK : VS _ _ _ = KK; simp (maxSteps := 1000000) [hF, hkl, hkl2, hclen, hnk, hx1, hn1, htl, hsetk, hx1', hx1'', dBoxL]; (try subst hK); try (refine VS.keep [1, 4, 6, 30, 31, 32] ?_; generalize hK : VS _ _ _ = KK; simp; (try subst hK)))
          refine nextK.of [1, 4, 6, 30, 31, 32] [0, 1, 2] (m2 - 1) (by omega) (by simp [hF]) ?_
          refine ⟨k + 1, by omega, ?_⟩
          rw [← hd1]
          simp [dBoxL]
          exact IntWalk.i64_in _ (by omega)
        · have hd1 := hnext l[k] (by unfold dropHd; rw [if_neg (by rw [hhk]; exact hv)])
          have hself : ((l.map (dropHd v)).take k ++ l.drop k).set k l[k] = (l.map (dropHd v)).take k ++ l.drop k := by
            rw [← hcur]; exact List.set_getElem_self _
          rw [hself] at hd1
          repeat first
            | refine VS.skip ?_
            | refine VS.nil ?_
            | refine blockN_normal ?_
            | refine loopN_normal ?_
            | (refine VS.keepAt 15 [1, 4, 6, 30, 31, 32] ?_; generalize hK : VS _ _ _ = KK; (try simp); (try subst hK); refine VS.region tabOk (id := 15) [] (by kernel_rfl) ?_; generalize hK : VS _ _ _ = KK; simp (maxSteps := 1000000) [hF]; (try subst hK); try (refine VS.keep [1, 4, 6, 30, 31, 32] ?_; generalize hK : VS _ _ _ = KK; simp; (try subst hK)))
          refine nextK.of [1, 4, 6, 30, 31, 32] [0, 1, 2] (m2 - 1) (by omega) (by simp [hF]) ?_
          refine ⟨k + 1, by omega, ?_⟩
          rw [← hd1]
          simp [dBoxL]
          exact IntWalk.i64_in _ (by omega)
      · obtain rfl : k = l.length := by omega
        have hall2 : (l.map (dropHd v)).take l.length = l.map (dropHd v) := List.take_of_length_le (by simp)
        repeat first
          | refine VS.nil ?_
          | refine loopN_normal ?_
          | refine VS.exit ?_
        refine nextK.of [1, 4] [0, 1, 2] (total (l.map (dropHd v))) (by omega) (by simp [hF]) ?_
        refine ⟨l.map (dropHd v), out ++ [v], f, rfl, by omega, hmo, by simp; omega, by simp; omega, ?_⟩
        simp [dBoxL, hall2]
end Go.Proofs.Ytahgopdamgagkaa

/- The orders of things: plain facts, no program in sight. -/
namespace Go.Proofs.Ytahgopdamgagkaa
set_option linter.all false
open Go.Vc Go.Proofs

theorem mem_dropHd {v u : Int} {y : List Int} (h : u ∈ dropHd v y) : u ∈ y := by
  unfold dropHd at h
  split at h
  · exact List.mem_of_mem_tail h
  · exact h
theorem inTails_false {ls : List (List Int)} {v : Int} (h : inTails ls v = false) : ∀ y ∈ ls, v ∉ y.tail := by
  intro y hy hv
  have : inTails ls v = true := List.any_eq_true.2 ⟨y, hy, hasN_iff.2 hv⟩
  rw [h] at this; cases this
theorem not_mem_dropHd {v : Int} {y : List Int} (h : v ∉ y.tail) : v ∉ dropHd v y := by
  unfold dropHd
  split
  · exact h
  · rename_i hh
    cases y with
    | nil => simp
    | cons a l =>
      intro hm
      rcases List.mem_cons.1 hm with rfl | hm
      · exact hh rfl
      · exact h hm
theorem dropHd_sub {v : Int} {y rest : List Int} (h0 : 0 < y.length) (h : (dropHd v y).Sublist rest) : y.Sublist (v :: rest) := by
  unfold dropHd at h
  split at h
  · rename_i hh
    cases y with
    | nil => cases h0
    | cons a l => obtain rfl : a = v := hh; exact h.cons₂ _
  · exact h.cons _

/-- What comes out of a merge. -/
theorem merge_spec : ∀ (f : Nat) (ls : List (List Int)) (out o : List Int), mergeF f ls out = some o → (∀ y ∈ ls, y.Nodup) →
    ∃ rest, o = out ++ rest ∧ rest.Nodup ∧ (∀ y ∈ ls, y.Sublist rest) ∧ ∀ v ∈ rest, ∃ y ∈ ls, v ∈ y
  | 0, _, _, _, h, _ => by cases h
  | f + 1, ls, out, o, h, hn => by
    unfold mergeF at h
    have hnil : ∀ y ∈ ls, y ∉ (ls.filter fun x => !nul x) → y = [] := fun y hy hm => by
      have : ¬ (!nul y) = true := fun h => hm (List.mem_filter.2 ⟨hy, h⟩)
      simpa [nul] using this
    split at h
    · rename_i h0
      cases h
      refine ⟨[], by simp, List.nodup_nil, fun y hy => ?_, fun v hv => by cases hv⟩
      rw [hnil y hy (by rw [h0]; simp)]
      exact List.Sublist.slnil
    · split at h
      · cases h
      · rename_i x hx
        have hxm := List.mem_of_find?_eq_some hx
        have hxp := List.find?_some hx
        have hxt := inTails_false (by simpa using hxp)
        have hfl : ∀ y ∈ (ls.filter fun x => !nul x), y ∈ ls := fun y hy => (List.mem_filter.1 hy).1
        have hsub : ∀ y ∈ (ls.filter fun x => !nul x).map (dropHd (hd x)), y.Nodup := fun y hy => by
          obtain ⟨z, hz, rfl⟩ := List.mem_map.1 hy
          have := hn z (hfl z hz)
          unfold dropHd
          split
          · exact this.sublist (List.tail_sublist _)
          · exact this
        obtain ⟨rest, ho, hr, hs, hm⟩ := merge_spec f _ _ _ h hsub
        have hall : ∀ z ∈ rest, ∃ y ∈ ls, z ∈ y := fun z hz => by
          obtain ⟨y, hy, hzy⟩ := hm z hz
          obtain ⟨u, hu, rfl⟩ := List.mem_map.1 hy
          exact ⟨u, hfl u hu, mem_dropHd hzy⟩
        refine ⟨hd x :: rest, by rw [ho]; simp, List.nodup_cons.2 ⟨fun hz => ?_, hr⟩, fun y hy => ?_, fun v hv => ?_⟩
        · obtain ⟨y, hy, hzy⟩ := hm _ hz
          obtain ⟨u, hu, rfl⟩ := List.mem_map.1 hy
          exact not_mem_dropHd (hxt u hu) hzy
        · by_cases hyf : y ∈ (ls.filter fun x => !nul x)
          · exact dropHd_sub (filter_pos hyf) (hs _ (List.mem_map.2 ⟨y, hyf, rfl⟩))
          · rw [hnil y hy hyf]; exact List.nil_sublist _
        · rcases List.mem_cons.1 hv with rfl | hv
          · refine ⟨x, hfl x hxm, ?_⟩
            have := filter_pos hxm
            rw [hd_eq this]; exact List.getElem_mem _
          · exact hall v hv

/-- All orders of some things. -/
def ordersOf (g : Int → Option (List Int)) : List Int → Option (List (List Int))
  | [] => some []
  | t :: l => match g t with
    | none => none
    | some o => (ordersOf g l).map fun r => o :: r
def mergedF (g : Int → Option (List Int)) (things : List Int) : Option (List Int) := (ordersOf g things).bind fun ls => mergeOf (ls ++ [things])

theorem ordersOf_mem {g : Int → Option (List Int)} : ∀ {l : List Int} {ls : List (List Int)}, ordersOf g l = some ls → (∀ o ∈ ls, ∃ t ∈ l, g t = some o) ∧ (∀ t ∈ l, ∃ o ∈ ls, g t = some o) ∧ ls.length = l.length
  | [], ls, h => by cases h; exact ⟨(fun o h => by cases h), (fun o h => by cases h), rfl⟩
  | t :: l, ls, h => by
    unfold ordersOf at h
    split at h
    · cases h
    · rename_i o ho
      cases hr : ordersOf g l with
      | none => rw [hr] at h; cases h
      | some r =>
        rw [hr] at h
        cases h
        obtain ⟨h1, h2, h3⟩ := ordersOf_mem hr
        refine ⟨fun o' ho' => ?_, fun t' ht' => ?_, by simp [h3]⟩
        · rcases List.mem_cons.1 ho' with rfl | ho'
          · exact ⟨t, List.mem_cons_self, ho⟩
          · obtain ⟨t', q1, q2⟩ := h1 o' ho'; exact ⟨t', List.mem_cons_of_mem _ q1, q2⟩
        · rcases List.mem_cons.1 ht' with rfl | ht'
          · exact ⟨o, List.mem_cons_self, ho⟩
          · obtain ⟨o', q1, q2⟩ := h2 t' ht'; exact ⟨o', List.mem_cons_of_mem _ q1, q2⟩
theorem ordersOf_congr {g g' : Int → Option (List Int)} : ∀ {l : List Int}, (∀ t ∈ l, g t = g' t) → ordersOf g l = ordersOf g' l
  | [], _ => rfl
  | t :: l, h => by
    unfold ordersOf
    rw [h t List.mem_cons_self, ordersOf_congr fun t ht => h t (List.mem_cons_of_mem _ ht)]
theorem ordersOf_mono {g g' : Int → Option (List Int)} (hg : ∀ t o, g t = some o → g' t = some o) : ∀ {l : List Int} {ls : List (List Int)}, ordersOf g l = some ls → ordersOf g' l = some ls
  | [], _, h => h
  | t :: l, ls, h => by
    unfold ordersOf at h ⊢
    split at h
    · cases h
    · rename_i o ho
      rw [hg t o ho]
      cases hr : ordersOf g l with
      | none => rw [hr] at h; cases h
      | some r => rw [hr] at h; simp only; rw [ordersOf_mono hg hr]; exact h
theorem mergedF_congr {g g' : Int → Option (List Int)} {l : List Int} (h : ∀ t ∈ l, g t = g' t) : mergedF g l = mergedF g' l := by
  unfold mergedF; rw [ordersOf_congr h]
theorem mergedF_mono {g g' : Int → Option (List Int)} (hg : ∀ t o, g t = some o → g' t = some o) {l o : List Int} (h : mergedF g l = some o) : mergedF g' l = some o := by
  unfold mergedF at *
  cases hr : ordersOf g l with
  | none => rw [hr] at h; cases h
  | some r => rw [hr] at h; rw [ordersOf_mono hg hr]; exact h
theorem merged_spec {g : Int → Option (List Int)} {l o : List Int} (h : mergedF g l = some o) (hl : l.Nodup) (hg : ∀ t ∈ l, ∀ ot, g t = some ot → ot.Nodup) :
    o.Nodup ∧ l.Sublist o ∧ (∀ t ∈ l, ∃ ot, g t = some ot ∧ ot.Sublist o) ∧ ∀ v ∈ o, v ∈ l ∨ ∃ t ∈ l, ∃ ot, g t = some ot ∧ v ∈ ot := by
  unfold mergedF at h
  cases hr : ordersOf g l with
  | none => rw [hr] at h; cases h
  | some ls =>
    rw [hr] at h
    simp only [Option.bind_some] at h
    obtain ⟨h1, h2, _⟩ := ordersOf_mem hr
    obtain ⟨rest, ho, hn, hs, hm⟩ := merge_spec _ _ _ _ h (fun y hy => by
      rcases List.mem_append.1 hy with hy | hy
      · obtain ⟨t, ht, he⟩ := h1 y hy; exact hg t ht y he
      · simp only [List.mem_singleton] at hy; subst hy; exact hl)
    simp only [List.nil_append] at ho
    subst ho
    refine ⟨hn, hs _ (by simp), fun t ht => ?_, fun v hv => ?_⟩
    · obtain ⟨ot, q1, q2⟩ := h2 t ht
      exact ⟨ot, q2, hs _ (by simp [q1])⟩
    · obtain ⟨y, hy, hvy⟩ := hm v hv
      rcases List.mem_append.1 hy with hy | hy
      · obtain ⟨t, ht, he⟩ := h1 y hy; exact .inr ⟨t, ht, y, he, hvy⟩
      · simp only [List.mem_singleton] at hy; subst hy; exact .inl hvy

def parents (x : Th) : List Int := x.ins ++ if 0 ≤ x.sup then [x.sup] else []
def ordF : Nat → List Th → Int → Option (List Int)
  | 0, _, _ => none
  | n + 1, L, t => match L[t.toNat]? with
    | none => none
    | some x => match mergedF (ordF n L) x.bef with
      | none => none
      | some front => match mergedF (ordF n L) (parents x) with
        | none => none
        | some behind => some (front ++ [t] ++ behind.filter fun v => !hasN front v)

theorem ordF_succ {L : List Th} : ∀ {n : Nat} {t : Int} {o : List Int}, ordF n L t = some o → ordF (n + 1) L t = some o
  | 0, _, _, h => by cases h
  | n + 1, t, o, h => by
    unfold ordF at h ⊢
    split at h
    · cases h
    · split at h
      · cases h
      · rename_i front hf
        split at h
        · cases h
        · rename_i behind hb
          rw [mergedF_mono (fun t o => ordF_succ (n := n)) hf]
          simp only
          rw [mergedF_mono (fun t o => ordF_succ (n := n)) hb]
          exact h
theorem ordF_mono {L : List Th} {n m : Nat} (h : n ≤ m) {t : Int} {o : List Int} (ho : ordF n L t = some o) : ordF m L t = some o := by
  induction h with
  | refl => exact ho
  | step _ ih => exact ordF_succ ih

/-- What a lineage's lists are like; 'r' goes down along them. -/
structure Base (L : List Th) (r : Int → Nat) : Prop where
  edge : ∀ (t : Nat) (x : Th), L[t]? = some x → ∀ u, u ∈ x.bef ∨ u ∈ parents x → 0 ≤ u ∧ u < L.length ∧ r u < r t
  nb : ∀ (t : Nat) (x : Th), L[t]? = some x → x.bef.Nodup
  np : ∀ (t : Nat) (x : Th), L[t]? = some x → (parents x).Nodup
  len : L.length ≤ 1000

theorem ordF_stable {L : List Th} {r : Int → Nat} (B : Base L r) : ∀ {n m : Nat} {t : Int}, 0 ≤ t → r t < n → r t < m → ordF n L t = ordF m L t
  | 0, _, _, _, h, _ => by omega
  | _, 0, _, _, _, h => by omega
  | n + 1, m + 1, t, h0, hn, hm => by
    unfold ordF
    cases hx : L[t.toNat]? with
    | none => rfl
    | some x =>
      have hg : ∀ u, u ∈ x.bef ∨ u ∈ parents x → ordF n L u = ordF m L u := fun u hu => by
        obtain ⟨q1, q2, q3⟩ := B.edge _ _ hx u hu
        have ht : ((t.toNat : Nat) : Int) = t := by omega
        rw [ht] at q3
        exact ordF_stable B q1 (by omega) (by omega)
      simp only
      rw [mergedF_congr fun u hu => hg u (.inl hu), mergedF_congr fun u hu => hg u (.inr hu)]

open Classical in
noncomputable def ordOf (L : List Th) (t : Int) : Option (List Int) := if h : ∃ o n, ordF n L t = some o then some (Classical.choose h) else none

theorem ordOf_of {L : List Th} {n : Nat} {t : Int} {o : List Int} (h : ordF n L t = some o) : ordOf L t = some o := by
  have hex : ∃ o n, ordF n L t = some o := ⟨o, n, h⟩
  unfold ordOf
  rw [dif_pos hex]
  obtain ⟨m, hm⟩ := Classical.choose_spec hex
  have h1 := ordF_mono (Nat.le_max_left n m) h
  have h2 := ordF_mono (Nat.le_max_right n m) hm
  rw [h1] at h2
  exact h2.symm
theorem ordOf_eq {L : List Th} {r : Int → Nat} (B : Base L r) {n : Nat} {t : Int} (h0 : 0 ≤ t) (hn : r t < n) : ordOf L t = ordF n L t := by
  cases h : ordF n L t with
  | some o => exact ordOf_of h
  | none =>
    unfold ordOf
    rw [dif_neg]
    rintro ⟨o, m, hm⟩
    have h2 := ordF_mono (Nat.le_max_right n m) hm
    have h3 := ordF_stable B h0 hn (show r t < max n m by omega)
    rw [h, h2] at h3
    cases h3
/-- The order of a thing, by those of the things that it has. -/
theorem ordOf_step {L : List Th} {r : Int → Nat} (B : Base L r) {t : Nat} {x : Th} (hx : L[t]? = some x) :
    ordOf L t = match mergedF (ordOf L) x.bef with
      | none => none
      | some front => match mergedF (ordOf L) (parents x) with
        | none => none
        | some behind => some (front ++ [(t : Int)] ++ behind.filter fun v => !hasN front v) := by
  have hg : ∀ u, u ∈ x.bef ∨ u ∈ parents x → ordF (r t) L u = ordOf L u := fun u hu => by
    obtain ⟨q1, q2, q3⟩ := B.edge _ _ hx u hu
    exact (ordOf_eq B q1 q3).symm
  rw [ordOf_eq B (n := r t + 1) (by omega) (by omega)]
  unfold ordF
  simp only [Int.toNat_natCast, hx]
  rw [mergedF_congr fun u hu => hg u (.inl hu), mergedF_congr fun u hu => hg u (.inr hu)]

theorem ordF_spec {L : List Th} {r : Int → Nat} (B : Base L r) : ∀ {n t : Nat} {o : List Int}, t < L.length → ordF n L t = some o →
    o.Nodup ∧ (t : Int) ∈ o ∧ ∀ v ∈ o, 0 ≤ v ∧ v < L.length ∧ (v = t ∨ r v < r t)
  | 0, _, _, _, h => by cases h
  | n + 1, t, o, ht, h => by
    unfold ordF at h
    simp only [Int.toNat_natCast] at h
    cases hx : L[t]? with
    | none => rw [hx] at h; cases h
    | some x =>
      rw [hx] at h
      simp only at h
      split at h
      · cases h
      · rename_i front hf
        split at h
        · cases h
        · rename_i behind hb
          cases h
          have each : ∀ u, u ∈ x.bef ∨ u ∈ parents x → ∀ ou, ordF n L u = some ou → ou.Nodup ∧ ∀ v ∈ ou, 0 ≤ v ∧ v < L.length ∧ r v < r t := fun u hu ou hou => by
            obtain ⟨q1, q2, q3⟩ := B.edge _ _ hx u hu
            obtain ⟨k, rfl⟩ : ∃ k : Nat, u = k := ⟨u.toNat, by omega⟩
            obtain ⟨s1, s2, s3⟩ := ordF_spec B (n := n) (by omega) hou
            refine ⟨s1, fun v hv => ?_⟩
            obtain ⟨w1, w2, w3⟩ := s3 v hv
            refine ⟨w1, w2, ?_⟩
            rcases w3 with rfl | w3 <;> omega
          obtain ⟨f1, f2, f3, f4⟩ := merged_spec hf (B.nb _ _ hx) (fun u hu ou ho => (each u (.inl hu) ou ho).1)
          obtain ⟨b1, b2, b3, b4⟩ := merged_spec hb (B.np _ _ hx) (fun u hu ou ho => (each u (.inr hu) ou ho).1)
          have hfv : ∀ v ∈ front, 0 ≤ v ∧ v < L.length ∧ r v < r t := fun v hv => by
            rcases f4 v hv with h | ⟨u, hu, ou, ho, hv⟩
            · exact B.edge _ _ hx v (.inl h)
            · exact (each u (.inl hu) ou ho).2 v hv
          have hbv : ∀ v ∈ behind, 0 ≤ v ∧ v < L.length ∧ r v < r t := fun v hv => by
            rcases b4 v hv with h | ⟨u, hu, ou, ho, hv⟩
            · exact B.edge _ _ hx v (.inr h)
            · exact (each u (.inr hu) ou ho).2 v hv
          have hne : ∀ v, r v < r t → v ≠ t := fun v hv e => by subst e; omega
          refine ⟨?_, by simp, fun v hv => ?_⟩
          · rw [List.nodup_append, List.nodup_append]
            refine ⟨⟨f1, by simp, fun a ha b hb => ?_⟩, b1.filter _, fun a ha b hb => ?_⟩
            · simp only [List.mem_singleton] at hb; subst hb
              exact hne a (hfv a ha).2.2
            · obtain ⟨hb1, hb2⟩ := List.mem_filter.1 hb
              rcases List.mem_append.1 ha with ha | ha
              · intro e; subst e
                simp [hasN_iff.2 ha] at hb2
              · simp only [List.mem_singleton] at ha; subst ha
                exact (hne b (hbv b hb1).2.2).symm
          · rcases List.mem_append.1 hv with hv | hv
            · rcases List.mem_append.1 hv with hv | hv
              · obtain ⟨q1, q2, q3⟩ := hfv v hv; exact ⟨q1, q2, .inr q3⟩
              · simp only [List.mem_singleton] at hv; subst hv
                exact ⟨by omega, by omega, .inl rfl⟩
            · obtain ⟨q1, q2, q3⟩ := hbv v (List.mem_filter.1 hv).1; exact ⟨q1, q2, .inr q3⟩
theorem ordOf_some {L : List Th} {t : Int} {o : List Int} (h : ordOf L t = some o) : ∃ n, ordF n L t = some o := by
  unfold ordOf at h
  split at h
  · rename_i hex
    cases h
    exact Classical.choose_spec hex
  · cases h
theorem ordOf_spec {L : List Th} {r : Int → Nat} (B : Base L r) {t : Nat} {o : List Int} (ht : t < L.length) (h : ordOf L t = some o) :
    o.Nodup ∧ (t : Int) ∈ o ∧ ∀ v ∈ o, 0 ≤ v ∧ v < L.length ∧ (v = t ∨ r v < r t) := by
  obtain ⟨n, hn⟩ := ordOf_some h
  exact ordF_spec B ht hn

theorem nodup_bound : ∀ (N : Nat) (l : List Int), l.Nodup → (∀ x ∈ l, 0 ≤ x ∧ x < N) → l.length ≤ N
  | 0, l, _, h => by
    cases l with
    | nil => exact Nat.le_refl _
    | cons a l => have := h a List.mem_cons_self; omega
  | N + 1, l, hn, h => by
    have h1 := nodup_bound N (l.erase (N : Int)) (hn.erase _) (fun x hx => by
      have h2 := h x (List.mem_of_mem_erase hx)
      have h3 : x ≠ N := fun e => by subst e; exact (hn.not_mem_erase) hx
      omega)
    by_cases hm : (N : Int) ∈ l
    · rw [List.length_erase_of_mem hm] at h1; omega
    · rw [List.erase_of_not_mem hm] at h1; omega

/-- An order put into those that were found. -/
def putE : List (Int × List Int) → Int → List Int → List (Int × List Int)
  | [], k, o => [(k, o)]
  | e :: l, k, o => if e.1 = k then (k, o) :: l else e :: putE l k o
theorem dEns_putE (l : List (Int × List Int)) (k : Int) (o : List Int) : mput (.int .i64 k) (.sl false () 1 (dInts o)) (dEns l) = dEns (putE l k o) := by
  induction l with
  | nil => rfl
  | cons e l ih =>
    rw [dEns_cons]
    unfold mput putE
    by_cases h : e.1 = k
    · rw [if_pos (by rw [h]), if_pos h, dEns_cons]
    · rw [if_neg (by simpa using h), if_neg h, dEns_cons, ih]
theorem got_putE (l : List (Int × List Int)) (k k' : Int) (o : List Int) : got (putE l k o) k' = if k' = k then some o else got l k' := by
  induction l with
  | nil =>
    by_cases h : k' = k
    · simp [putE, got, h]
    · simp [putE, got, h, Ne.symm h]
  | cons e l ih =>
    unfold putE
    by_cases h : e.1 = k
    · rw [if_pos h]
      by_cases h' : k' = k
      · simp [got, h']
      · simp [got, h, h', Ne.symm h']
    · rw [if_neg h]
      by_cases h2 : e.1 = k'
      · have : ¬ k' = k := fun e' => h (h2.trans e')
        simp [got, h2, this]
      · have : got (e :: putE l k o) k' = got (putE l k o) k' := by simp [got, h2]
        rw [this, ih]
        have : got (e :: l) k' = got l k' := by simp [got, h2]
        rw [this]
end Go.Proofs.Ytahgopdamgagkaa

/- merged and find. -/
namespace Go.Proofs.Ytahgopdamgagkaa
set_option linter.all false
open Go.Vc Go.Proofs
set_option linter.unusedSimpArgs false
set_option maxRecDepth 100000
set_option maxHeartbeats 4000000
attribute [local irreducible] CallW EqK

def MemoOk (L : List Th) (M : List (Int × List Int)) : Prop := ∀ k o, got M k = some o → ordOf L k = some o
def FindR (L : List Th) (t : Int) (av : AV) (X : List D) (κ : List (Nat × Path)) : Prop :=
  ∃ M, MemoOk L M ∧ X = [dL L, dM M] ∧ κ = [(1, [.i 0])] ∧ av = match ordOf L t with
    | some o => .tup (.cons (.imm 1 (dInts o) false) (.cons (avBool true) .nil))
    | none => .tup (.cons (.nils 1) (.cons (avBool false) .nil))
def FindOk (L : List Th) (r : Int → Nat) (n : Nat) : Prop := ∀ t : Nat, t < L.length → r t < n → ∀ M, MemoOk L M →
  Meets Try.prog 44 [dL L, dM M] (.cons (.ptr 0 [.d]) (.cons (avInt t) (.cons (.mp 1 []) .nil))) (FindR L t)

section
variable {L : List Th} {r : Int → Nat} {n t : Nat} {M : List (Int × List Int)}
theorem FindOk.yes (h : FindOk L r n) (ht : t < L.length) (hr : r t < n) (hM : MemoOk L M) {o : List Int} (ho : ordOf L t = some o) :
    Meets Try.prog 44 [dL L, dM M] (.cons (.ptr 0 [.d]) (.cons (avInt t) (.cons (.mp 1 []) .nil)))
    fun av X κ => ∃ M, MemoOk L M ∧ X = [dL L, dM M] ∧ κ = [(1, [.i 0])] ∧ av = .tup (.cons (.imm 1 (dInts o) false) (.cons (avBool true) .nil)) :=
  Meets.mono (h t ht hr M hM) fun av X κ ⟨M, h1, h2, h3, h4⟩ => ⟨M, h1, h2, h3, by rw [ho] at h4; exact h4⟩
theorem FindOk.no (h : FindOk L r n) (ht : t < L.length) (hr : r t < n) (hM : MemoOk L M) (ho : ordOf L t = none) :
    Meets Try.prog 44 [dL L, dM M] (.cons (.ptr 0 [.d]) (.cons (avInt t) (.cons (.mp 1 []) .nil)))
    fun av X κ => ∃ M, MemoOk L M ∧ X = [dL L, dM M] ∧ κ = [(1, [.i 0])] ∧ av = .tup (.cons (.nils 1) (.cons (avBool false) .nil)) :=
  Meets.mono (h t ht hr M hM) fun av X κ ⟨M, h1, h2, h3, h4⟩ => ⟨M, h1, h2, h3, by rw [ho] at h4; exact h4⟩
end
theorem ordersOf_cons (g : Int → Option (List Int)) (t : Int) (l : List Int) : ordersOf g (t :: l) = match g t with
    | none => none
    | some o => (ordersOf g l).map fun r => o :: r := rfl

theorem ord_len {L : List Th} {r : Int → Nat} (B : Base L r) {t : Nat} {o : List Int} (ht : t < L.length) (h : ordOf L t = some o) : o.length ≤ 1000 := by
  obtain ⟨h1, _, h3⟩ := ordOf_spec B ht h
  have := nodup_bound L.length o h1 fun x hx => ⟨(h3 x hx).1, (h3 x hx).2.1⟩
  have := B.len
  omega

theorem merged_len {L : List Th} {r : Int → Nat} (B : Base L r) {things o : List Int} (hth : ∀ u ∈ things, 0 ≤ u ∧ u < L.length) (hnd : things.Nodup) (h : mergedF (ordOf L) things = some o) :
    o.Nodup ∧ (∀ v ∈ o, 0 ≤ v ∧ v < L.length) ∧ o.length ≤ 1000 := by
  have each : ∀ u ∈ things, ∀ ou, ordOf L u = some ou → ou.Nodup ∧ ∀ v ∈ ou, 0 ≤ v ∧ v < L.length := fun u hu ou ho => by
    have := hth u hu
    obtain ⟨k, rfl⟩ : ∃ k : Nat, u = k := ⟨u.toNat, by omega⟩
    obtain ⟨h1, _, h3⟩ := ordOf_spec B (by omega) ho
    exact ⟨h1, fun v hv => ⟨(h3 v hv).1, (h3 v hv).2.1⟩⟩
  obtain ⟨f1, f2, f3, f4⟩ := merged_spec h hnd fun u hu ou ho => (each u hu ou ho).1
  have hv : ∀ v ∈ o, 0 ≤ v ∧ v < L.length := fun v hv => by
    rcases f4 v hv with h | ⟨u, hu, ou, ho, hv⟩
    · exact hth v h
    · exact (each u hu ou ho).2 v hv
  have := nodup_bound L.length o f1 hv
  have := B.len
  exact ⟨f1, hv, by omega⟩

theorem dInts_one (x : Int) : dInts [x] = .cons (.val (.int .i64 x)) .nil := rfl
theorem total_bound {ls : List (List Int)} (h : ∀ y ∈ ls, y.length ≤ 1000) : total ls ≤ 1000 * ls.length := by
  induction ls with
  | nil => simp [total]
  | cons x l ih =>
    have h1 := h x List.mem_cons_self
    have h2 := ih fun y hy => h y (List.mem_cons_of_mem _ hy)
    simp only [total, List.length_cons]; omega

/- (*cabochon/lineage.Lineage).merged -/
theorem merged_ok {L : List Th} {r : Int → Nat} (B : Base L r) {n : Nat} (hF : FindOk L r n) (things : List Int) (hth : ∀ u ∈ things, 0 ≤ u ∧ u < L.length ∧ r u < n) (hnd : things.Nodup) (M : List (Int × List Int)) (hM : MemoOk L M) (ex : Bool) :
    Meets Try.prog 52 [dL L, dM M] (.cons (.ptr 0 [.d]) (.cons (.imm 1 (dInts things) ex) (.cons (.mp 1 []) .nil)))
    fun av X κ => ∃ M, MemoOk L M ∧ κ = [(1, [.i 0])] ∧ match mergedF (ordOf L) things with
      | some o => av = .tup (.cons (.sub 2 [] 0 o.length false) (.cons (avBool true) .nil)) ∧ X = [dL L, dM M, .sl true () 1 (dInts o)]
      | none => av = .tup (.cons (.nils 1) (.cons (avBool false) .nil)) ∧ X = [dL L, dM M] := by
  have hfind := hF
  clear hF
  have hlen := nodup_bound L.length things hnd fun x hx => ⟨(hth x hx).1, (hth x hx).2.1⟩
  have hL := B.len
  refine Meets.of_vs tabOk Try.func52 (body := ?_) ?_ (by kernel_rfl) Try.ntmps52 (rs := [.tmp 6, .tmp 7]) (by kernel_rfl) rfl (by simp [AV.len]) (by simp only [envOf]; exact rfl) ?_
  rotate_left
  · rfl
  intro w0 I0 F0 hF
  repeat first
    | refine VS.seq ?_
    | refine VS.block ?_
    | (refine VS.keepAt 0 [0, 1, 2] ?_; generalize hK : VS _ _ _ = KK; (try simp); (try subst hK); refine VS.region tabOk (id := 0) [] (by kernel_rfl) ?_; generalize hK : VS _ _ _ = KK; simp (maxSteps := 1000000) [hF]; (try subst hK); try (refine VS.keep [0, 1, 2] ?_; generalize hK : VS _ _ _ = KK; simp; (try subst hK)))
    | (refine VS.keepAt 1 [0, 1, 2] ?_; generalize hK : VS _ _ _ = KK; (try simp); (try subst hK); refine VS.region tabOk (id := 1) [] (by kernel_rfl) ?_; generalize hK : VS _ _ _ = KK; simp (maxSteps := 1000000) [hF]; (try subst hK); try (refine VS.keep [0, 1, 2, 8] ?_; generalize hK : VS _ _ _ = KK; simp; (try subst hK)))
    | (refine VS.keepAt 2 [0, 1, 2, 8] ?_; generalize hK : VS _ _ _ = KK; (try simp); (try subst hK); refine VS.region tabOk (id := 2) [] (by kernel_rfl) ?_; generalize hK : VS _ _ _ = KK; simp (maxSteps := 1000000) [hF]; (try subst hK); try (refine VS.keep [0, 1, 2, 8, 13, 14, 15] ?_; generalize hK : VS _ _ _ = KK; simp; (try subst hK)))
  refine VS.hold0 8 1 (by simp) ?_
  refine VS.widen [(1, [.i 0])] (by simp [covers, mpre]) ?_
  refine VS.pick [0, 1, 2, 8, 13, 14, 15] [0, 1, 2] (by simp [hF]) ?_
  generalize hK : VS _ _ _ = KK; simp [hF]; (try subst hK)
  refine VS.rounds (fun m st => ∃ (i : Nat) (acc : List (List Int)) (s : D) (M : List (Int × List Int)), i + m = things.length ∧ acc.length = i ∧ (∀ y ∈ acc, y.length ≤ 1000) ∧ MemoOk L M ∧ ordersOf (ordOf L) things = (ordersOf (ordOf L) (things.drop i)).map (fun r => acc ++ r) ∧
    s.mid 0 i = dLs acc ∧ st = ⟨[(0, .ptr 0 [.d]), (1, .imm 1 (dInts things) ex), (2, .mp 1 []), (8, .sub 2 [] 0 i false), (13, .imm 1 (dInts things) ex), (14, avInt things.length), (15, avInt i)], [dL L, dM M, .sl true () 1 s], [(1, [.i 0])], []⟩)
    ⟨things.length, 0, [], .nil, M, by omega, rfl, (fun y hy => by cases hy), hM, by simp, by simp [T.mid, T.drop, T.take], by simp [dL, dM]⟩ ?_
  rintro m st ⟨i, acc, s, M, hi, hal, hacc, hM, hord, hs0, rfl⟩
  repeat first
    | refine VS.seq ?_
    | (refine VS.keepAt 3 [0, 1, 2, 8, 13, 14, 15] ?_; generalize hK : VS _ _ _ = KK; (try simp); (try subst hK); refine VS.region tabOk (id := 3) [] (by kernel_rfl) ?_; generalize hK : VS _ _ _ = KK; simp (maxSteps := 1000000) [hF]; (try subst hK); try (refine VS.keep [0, 1, 2, 8, 13, 14, 15, 16] ?_; generalize hK : VS _ _ _ = KK; simp; (try subst hK)))
    | (refine VS.cond ?_; generalize hK1 : VS _ _ _ = KK1; generalize hK2 : VS _ _ _ = KK2; simp (maxSteps := 1000000) [hF]; (try subst hK1); (try subst hK2))
  refine ⟨fun hlt => ?_, fun hge => ?_⟩
  · have hi' : i < things.length := by omega
    have hn := dInts_nth hi'
    obtain ⟨u0, u1, u2⟩ := hth _ (List.getElem_mem hi')
    have hdrop := List.drop_eq_getElem_cons hi'
    rw [hdrop, ordersOf_cons] at hord
    repeat first
      | refine VS.seq ?_
      | refine VS.skip ?_
      | refine VS.block ?_
      | (refine VS.keepAt 4 [0, 1, 2, 8, 13, 14, 15] ?_; generalize hK : VS _ _ _ = KK; (try simp); (try subst hK); refine VS.region tabOk (id := 4) [] (by kernel_rfl) ?_; generalize hK : VS _ _ _ = KK; simp (maxSteps := 1000000) [hF, hn, hi']; (try subst hK); try (refine VS.keep [0, 1, 2, 8, 10, 13, 14, 15] ?_; generalize hK : VS _ _ _ = KK; simp; (try subst hK)))
      | (refine VS.keepAt 5 [0, 1, 2, 8, 10, 13, 14, 15] ?_; generalize hK : VS _ _ _ = KK; (try simp); (try subst hK); refine VS.region tabOk (id := 5) [] (by kernel_rfl) ?_; generalize hK : VS _ _ _ = KK; simp (maxSteps := 1000000) [hF, hn, hi']; (try subst hK); try (refine VS.keep [0, 1, 2, 8, 11, 12, 13, 14, 15] ?_; generalize hK : VS _ _ _ = KK; simp; (try subst hK)))
    generalize things[i] = u at *
    obtain ⟨u, rfl⟩ : ∃ k : Nat, u = k := ⟨u.toNat, by omega⟩
    have hul : u < L.length := by omega
    cases ho : ordOf L u with
    | none =>
      rw [ho] at hord
      have hmf : mergedF (ordOf L) things = none := by unfold mergedF; rw [hord]; rfl
      rw [hmf]
      refine (hfind.no hul u2 hM ho).call [(0, []), (1, [])] (by simp) (by simp (maxSteps := 1000000) [hF, dL, dM]) (by simp (maxSteps := 1000000) [hF, dL, dM]) (by simp (maxSteps := 1000000) [hF, dL, dM]) (by simp) ?_
      rintro av X κ ⟨M, hM, rfl, rfl, rfl⟩
      generalize hK : VS _ _ _ = KK; simp (maxSteps := 1000000) [hF, dL, dM]; (try subst hK)
      repeat first
        | refine VS.seq ?_
        | (refine VS.keepAt 6 [0, 1, 2, 8, 11, 12, 13, 14, 15] ?_; generalize hK : VS _ _ _ = KK; (try simp); (try subst hK); refine VS.region tabOk (id := 6) [] (by kernel_rfl) ?_; generalize hK : VS _ _ _ = KK; simp (maxSteps := 1000000) [hF]; (try subst hK); try (refine VS.keep [0, 1, 2, 8, 11, 13, 14, 15, 27] ?_; generalize hK : VS _ _ _ = KK; simp; (try subst hK)))
        | (refine VS.keepAt 7 [] ?_; generalize hK : VS _ _ _ = KK; (try simp); (try subst hK); refine VS.region tabOk (id := 7) [] (by kernel_rfl) ?_; generalize hK : VS _ _ _ = KK; simp (maxSteps := 1000000) [hF]; (try subst hK); try (refine VS.keep [6, 7] ?_; generalize hK : VS _ _ _ = KK; simp; (try subst hK)))
        | (refine VS.cond ?_; generalize hK1 : VS _ _ _ = KK1; generalize hK2 : VS _ _ _ = KK2; simp (maxSteps := 1000000) [hF]; (try subst hK1); (try subst hK2))
      try refine VS.ret ?_
      repeat first | refine blockN_ret ?_ | refine loopN_ret ?_
      refine endK.of [6, 7] [0, 1] [(1, [.i 0])] (by simp [hF]) (by simp [covers, mpre]) ?_
      simp [hF, retK, dL, dM]
      exact ⟨M, hM, rfl⟩
    | some o =>
      rw [ho] at hord
      have hol := ord_len B hul ho
      have happ := dLs_app1 acc o
      have b1 : (i + 1) * 24 ≤ 140737488355328 := by omega
      have b2 : i + 1 ≤ 9223372036854775807 := by omega
      refine (hfind.yes hul u2 hM ho).call [(0, []), (1, [])] (by simp) (by simp (maxSteps := 1000000) [hF, dL, dM]) (by simp (maxSteps := 1000000) [hF, dL, dM]) (by simp (maxSteps := 1000000) [hF, dL, dM]) (by simp) ?_
      rintro av X κ ⟨M, hM, rfl, rfl, rfl⟩
      generalize hK : VS _ _ _ = KK; simp (maxSteps := 1000000) [hF, dL, dM]; (try subst hK)
      repeat first
        | refine VS.seq ?_
        | refine VS.skip ?_
        | refine VS.nil ?_
        | refine blockN_normal ?_
        | (refine VS.keepAt 6 [0, 1, 2, 8, 11, 12, 13, 14, 15] ?_; generalize hK : VS _ _ _ = KK; (try simp); (try subst hK); refine VS.region tabOk (id := 6) [] (by kernel_rfl) ?_; generalize hK : VS _ _ _ = KK; simp (maxSteps := 1000000) [hF, hs0, happ, b1, b2]; (try subst hK); try (refine VS.keep [0, 1, 2, 8, 11, 13, 14, 15, 27] ?_; generalize hK : VS _ _ _ = KK; simp; (try subst hK)))
        | (refine VS.keepAt 8 [0, 1, 2, 8, 11, 13, 14, 15] ?_; generalize hK : VS _ _ _ = KK; (try simp); (try subst hK); refine VS.region tabOk (id := 8) [] (by kernel_rfl) ?_; generalize hK : VS _ _ _ = KK; simp (maxSteps := 1000000) [hF, hs0, happ, b1, b2]; (try subst hK); try (refine VS.keep [0, 1, 2, 8, 13, 14, 15] ?_; generalize hK : VS _ _ _ = KK; simp; (try subst hK)))
        | (refine VS.cond ?_; generalize hK1 : VS _ _ _ = KK1; generalize hK2 : VS _ _ _ = KK2; simp (maxSteps := 1000000) [hF, hs0, happ, b1, b2]; (try subst hK1); (try subst hK2))
      refine VS.widen [(1, [.i 0])] (by simp [covers, mpre]) ?_
      repeat first
        | refine VS.nil ?_
        | refine loopN_normal ?_
        | (refine VS.keepAt 9 [0, 1, 2, 8, 13, 14, 15] ?_; generalize hK : VS _ _ _ = KK; (try simp); (try subst hK); refine VS.region tabOk (id := 9) [] (by kernel_rfl) ?_; generalize hK : VS _ _ _ = KK; simp (maxSteps := 1000000) [hF]; (try subst hK); try (refine VS.keep [0, 1, 2, 8, 13, 14, 15] ?_; generalize hK : VS _ _ _ = KK; simp; (try subst hK)))
      refine nextK.of [0, 1, 2, 8, 13, 14, 15] [0, 1, 2] (m - 1) (by omega) (by simp [hF]) ?_
      refine ⟨i + 1, acc ++ [o], dLs (acc ++ [o]), M, by omega, by simp [hal], fun y hy => ?_, hM, ?_, ?_, ?_⟩
      · rcases List.mem_append.1 hy with hy | hy
        · exact hacc y hy
        · simp only [List.mem_singleton] at hy; subst hy; exact hol
      · rw [hord]; simp [Option.map_map, Function.comp_def]
      · exact sq_mid_all _ _ (by simp [hal])
      · simp [dL, dM]
        exact IntWalk.i64_in _ (by omega)
  · obtain rfl : i = things.length := by omega
    have hord2 : ordersOf (ordOf L) things = some acc := by rw [hord, List.drop_length]; simp [ordersOf]
    have hmf : mergedF (ordOf L) things = mergeOf (acc ++ [things]) := by unfold mergedF; rw [hord2]; rfl
    rw [hmf]
    have happ := dLs_app1 acc things
    have b1 : (things.length + 1) * 24 ≤ 140737488355328 := by omega
    have b2 : things.length + 1 ≤ 9223372036854775807 := by omega
    have hlen2 : (acc ++ [things]).length = things.length + 1 := by simp [hal]
    have htot : total (acc ++ [things]) ≤ 100000000 := by
      have := total_bound (ls := acc ++ [things]) (fun y hy => by
        rcases List.mem_append.1 hy with hy | hy
        · exact hacc y hy
        · simp only [List.mem_singleton] at hy; subst hy; omega)
      omega
    have hmg := merge_ok (acc ++ [things]) (by omega) htot
    rw [hlen2] at hmg
    repeat first
      | refine VS.seq ?_
      | refine VS.exit ?_
      | (refine VS.keepAt 10 [1, 8] ?_; generalize hK : VS _ _ _ = KK; (try simp); (try subst hK); refine VS.region tabOk (id := 10) [] (by kernel_rfl) ?_; generalize hK : VS _ _ _ = KK; simp (maxSteps := 1000000) [hF]; (try subst hK); try (refine VS.keep [6, 7] ?_; generalize hK : VS _ _ _ = KK; simp; (try subst hK)))
    refine (cloneI_ok ex things (by omega)).call [] (by simp) (by simp (maxSteps := 1000000) [hF, hs0, happ, b1, b2]) (by simp (maxSteps := 1000000) [hF, hs0, happ, b1, b2]) (by simp (maxSteps := 1000000) [hF, hs0, happ, b1, b2]) (by simp) ?_
    rintro av X κ ⟨rfl, rfl, rfl⟩
    generalize hK : VS _ _ _ = KK; simp (maxSteps := 1000000) [hF, hs0, happ, b1, b2]; (try subst hK)
    cases hmo : mergeOf (acc ++ [things]) with
    | none =>
      rw [hmo] at hmg
      refine (hmg).call [(2, [])] (by simp) (by simp (maxSteps := 1000000) [hF, hs0, happ]) (by simp (maxSteps := 1000000) [hF, hs0, happ]) (by simp (maxSteps := 1000000) [hF, hs0, happ]) (by simp) ?_
      rintro av X κ ⟨rfl, rfl, rfl⟩
      generalize hK : VS _ _ _ = KK; simp (maxSteps := 1000000) [hF, hs0, happ]; (try subst hK)
      try refine VS.ret ?_
      repeat first | refine blockN_ret ?_ | refine loopN_ret ?_
      refine endK.of [6, 7] [0, 1] [(1, [.i 0])] (by simp [hF]) (by simp [covers, mpre]) ?_
      simp [hF, retK, dL, dM]
      exact ⟨M, hM, rfl⟩
    | some o =>
      rw [hmo] at hmg
      refine (hmg).call [(2, [])] (by simp) (by simp (maxSteps := 1000000) [hF, hs0, happ]) (by simp (maxSteps := 1000000) [hF, hs0, happ]) (by simp (maxSteps := 1000000) [hF, hs0, happ]) (by simp) ?_
      rintro av X κ ⟨rfl, rfl, rfl⟩
      generalize hK : VS _ _ _ = KK; simp (maxSteps := 1000000) [hF, hs0, happ]; (try subst hK)
      try refine VS.ret ?_
      repeat first | refine blockN_ret ?_ | refine loopN_ret ?_
      refine endK.of [6, 7] [0, 1, 4] [(1, [.i 0])] (by simp [hF]) (by simp [covers, mpre]) ?_
      simp [hF, retK, dL, dM]
      exact ⟨M, hM, rfl⟩

section
variable {L : List Th} {r : Int → Nat} (B : Base L r) {n : Nat} (hF : FindOk L r n) (things : List Int) (hth : ∀ u ∈ things, 0 ≤ u ∧ u < L.length ∧ r u < n) (hnd : things.Nodup) (M : List (Int × List Int)) (hM : MemoOk L M) (ex : Bool)
include B hF hth hnd hM
theorem merged_no (h : mergedF (ordOf L) things = none) : Meets Try.prog 52 [dL L, dM M] (.cons (.ptr 0 [.d]) (.cons (.imm 1 (dInts things) ex) (.cons (.mp 1 []) .nil)))
    fun av X κ => ∃ M, MemoOk L M ∧ av = .tup (.cons (.nils 1) (.cons (avBool false) .nil)) ∧ X = [dL L, dM M] ∧ κ = [(1, [.i 0])] :=
  Meets.mono (merged_ok B hF things hth hnd M hM ex) fun av X κ ⟨M, h1, h2, h3⟩ => by rw [h] at h3; exact ⟨M, h1, h3.1, h3.2, h2⟩
theorem merged_yes {o : List Int} (h : mergedF (ordOf L) things = some o) : Meets Try.prog 52 [dL L, dM M] (.cons (.ptr 0 [.d]) (.cons (.imm 1 (dInts things) ex) (.cons (.mp 1 []) .nil)))
    fun av X κ => ∃ M, MemoOk L M ∧ av = .tup (.cons (.sub 2 [] 0 o.length false) (.cons (avBool true) .nil)) ∧ X = [dL L, dM M, .sl true () 1 (dInts o)] ∧ κ = [(1, [.i 0])] :=
  Meets.mono (merged_ok B hF things hth hnd M hM ex) fun av X κ ⟨M, h1, h2, h3⟩ => by rw [h] at h3; exact ⟨M, h1, h3.1, h3.2, h2⟩
end

/- (*cabochon/lineage.Lineage).find -/
theorem find_step {L : List Th} {r : Int → Nat} (B : Base L r) {n : Nat} (hF : FindOk L r n) (t : Nat) (ht : t < L.length) (hr : r t < n + 1) (M : List (Int × List Int)) (hM : MemoOk L M) :
    Meets Try.prog 44 [dL L, dM M] (.cons (.ptr 0 [.d]) (.cons (avInt t) (.cons (.mp 1 []) .nil))) (FindR L t) := by
  have hfind := hF
  clear hF
  unfold FindR
  have hL := B.len
  have hx : L[t]? = some L[t] := List.getElem?_eq_getElem ht
  have hstep := ordOf_step B hx
  have hn := dThs_nth ht
  have hedge := B.edge _ _ hx
  have hnb := B.nb _ _ hx
  have hnp := B.np _ _ hx
  have hlb := nodup_bound L.length _ hnb fun x hx => ⟨(hedge x (.inl hx)).1, (hedge x (.inl hx)).2.1⟩
  have hlp := nodup_bound L.length _ hnp fun x hx => ⟨(hedge x (.inr hx)).1, (hedge x (.inr hx)).2.1⟩
  generalize L[t] = x at *
  have hfnd := dEns_find M t
  cases hg : got M t with
  | some o =>
    have ho := hM _ _ hg
    rw [hg] at hfnd
    simp only [Option.map_some] at hfnd
    rw [ho]
    refine Meets.of_vs tabOk Try.func44 (body := ?_) ?_ (by kernel_rfl) Try.ntmps44 (rs := [.tmp 6, .tmp 7]) (by kernel_rfl) rfl (by simp [AV.len]) (by simp only [envOf]; exact rfl) ?_
    rotate_left
    · rfl
    intro w0 I0 F0 hF
    repeat first
      | refine VS.seq ?_
      | (refine VS.keepAt 0 [0, 1, 2] ?_; generalize hK : VS _ _ _ = KK; (try simp); (try subst hK); refine VS.region tabOk (id := 0) [] (by kernel_rfl) ?_; generalize hK : VS _ _ _ = KK; simp (maxSteps := 1000000) [hF, dM, hfnd]; (try subst hK); try (refine VS.keep [0, 1, 2] ?_; generalize hK : VS _ _ _ = KK; simp; (try subst hK)))
      | (refine VS.keepAt 1 [0, 1, 2] ?_; generalize hK : VS _ _ _ = KK; (try simp); (try subst hK); refine VS.region tabOk (id := 1) [] (by kernel_rfl) ?_; generalize hK : VS _ _ _ = KK; simp (maxSteps := 1000000) [hF, dM, hfnd]; (try subst hK); try (refine VS.keep [0, 1, 2, 8, 9] ?_; generalize hK : VS _ _ _ = KK; simp; (try subst hK)))
      | (refine VS.keepAt 2 [0, 1, 2, 8, 9] ?_; generalize hK : VS _ _ _ = KK; (try simp); (try subst hK); refine VS.region tabOk (id := 2) [] (by kernel_rfl) ?_; generalize hK : VS _ _ _ = KK; simp (maxSteps := 1000000) [hF, dM, hfnd]; (try subst hK); try (refine VS.keep [0, 1, 2, 8, 21] ?_; generalize hK : VS _ _ _ = KK; simp; (try subst hK)))
      | (refine VS.keepAt 3 [8] ?_; generalize hK : VS _ _ _ = KK; (try simp); (try subst hK); refine VS.region tabOk (id := 3) [] (by kernel_rfl) ?_; generalize hK : VS _ _ _ = KK; simp (maxSteps := 1000000) [hF, dM, hfnd]; (try subst hK); try (refine VS.keep [6, 7] ?_; generalize hK : VS _ _ _ = KK; simp; (try subst hK)))
      | (refine VS.cond ?_; generalize hK1 : VS _ _ _ = KK1; generalize hK2 : VS _ _ _ = KK2; simp (maxSteps := 1000000) [hF, dM, hfnd]; (try subst hK1); (try subst hK2))
    try refine VS.ret ?_
    repeat first | refine blockN_ret ?_ | refine loopN_ret ?_
    refine endK.of [6, 7] [0, 1] [(1, [.i 0])] (by simp [hF]) (by simp [covers, mpre]) ?_
    simp [hF, retK, dL, dM]
    exact ⟨M, hM, rfl⟩
  | none =>
    rw [hg] at hfnd
    simp only [Option.map_none] at hfnd
    refine Meets.of_vs tabOk Try.func44 (body := ?_) ?_ (by kernel_rfl) Try.ntmps44 (rs := [.tmp 6, .tmp 7]) (by kernel_rfl) rfl (by simp [AV.len]) (by simp only [envOf]; exact rfl) ?_
    rotate_left
    · rfl
    intro w0 I0 F0 hF
    repeat first
      | refine VS.seq ?_
      | refine VS.skip ?_
      | (refine VS.keepAt 0 [0, 1, 2] ?_; generalize hK : VS _ _ _ = KK; (try simp); (try subst hK); refine VS.region tabOk (id := 0) [] (by kernel_rfl) ?_; generalize hK : VS _ _ _ = KK; simp (maxSteps := 1000000) [hF, dM, hfnd, dL, hn, ht]; (try subst hK); try (refine VS.keep [0, 1, 2] ?_; generalize hK : VS _ _ _ = KK; simp; (try subst hK)))
      | (refine VS.keepAt 1 [0, 1, 2] ?_; generalize hK : VS _ _ _ = KK; (try simp); (try subst hK); refine VS.region tabOk (id := 1) [] (by kernel_rfl) ?_; generalize hK : VS _ _ _ = KK; simp (maxSteps := 1000000) [hF, dM, hfnd, dL, hn, ht]; (try subst hK); try (refine VS.keep [0, 1, 2, 8, 9] ?_; generalize hK : VS _ _ _ = KK; simp; (try subst hK)))
      | (refine VS.keepAt 2 [0, 1, 2, 8, 9] ?_; generalize hK : VS _ _ _ = KK; (try simp); (try subst hK); refine VS.region tabOk (id := 2) [] (by kernel_rfl) ?_; generalize hK : VS _ _ _ = KK; simp (maxSteps := 1000000) [hF, dM, hfnd, dL, hn, ht]; (try subst hK); try (refine VS.keep [0, 1, 2, 8, 21] ?_; generalize hK : VS _ _ _ = KK; simp; (try subst hK)))
      | (refine VS.keepAt 4 [0, 1, 2] ?_; generalize hK : VS _ _ _ = KK; (try simp); (try subst hK); refine VS.region tabOk (id := 4) [] (by kernel_rfl) ?_; generalize hK : VS _ _ _ = KK; simp (maxSteps := 1000000) [hF, dM, hfnd, dL, hn, ht]; (try subst hK); try (refine VS.keep [0, 1, 2, 10] ?_; generalize hK : VS _ _ _ = KK; simp; (try subst hK)))
      | (refine VS.keepAt 5 [0, 1, 2, 10] ?_; generalize hK : VS _ _ _ = KK; (try simp); (try subst hK); refine VS.region tabOk (id := 5) [] (by kernel_rfl) ?_; generalize hK : VS _ _ _ = KK; simp (maxSteps := 1000000) [hF, dM, hfnd, dL, hn, ht]; (try subst hK); try (refine VS.keep [0, 1, 2, 10, 11, 12] ?_; generalize hK : VS _ _ _ = KK; simp; (try subst hK)))
      | (refine VS.cond ?_; generalize hK1 : VS _ _ _ = KK1; generalize hK2 : VS _ _ _ = KK2; simp (maxSteps := 1000000) [hF, dM, hfnd, dL, hn, ht]; (try subst hK1); (try subst hK2))
    have hthb : ∀ u ∈ x.bef, 0 ≤ u ∧ u < L.length ∧ r u < n := fun u hu => by have := hedge u (.inl hu); omega
    have hthp : ∀ u ∈ parents x, 0 ≤ u ∧ u < L.length ∧ r u < n := fun u hu => by have := hedge u (.inr hu); omega
    cases hf : mergedF (ordOf L) x.bef with
    | none =>
      rw [hf] at hstep
      simp only at hstep
      rw [hstep]
      refine (merged_no B hfind x.bef hthb hnb M hM false hf).call [(0, []), (1, [])] (by simp) (by simp (maxSteps := 1000000) [hF, dL, dM]) (by simp (maxSteps := 1000000) [hF, dL, dM]) (by simp (maxSteps := 1000000) [hF, dL, dM]) (by simp) ?_
      rintro av X κ ⟨M, hM, rfl, rfl, rfl⟩
      generalize hK : VS _ _ _ = KK; simp (maxSteps := 1000000) [hF, dL, dM]; (try subst hK)
      repeat first
        | refine VS.seq ?_
        | (refine VS.keepAt 6 [0, 1, 2, 10, 11, 12] ?_; generalize hK : VS _ _ _ = KK; (try simp); (try subst hK); refine VS.region tabOk (id := 6) [] (by kernel_rfl) ?_; generalize hK : VS _ _ _ = KK; simp (maxSteps := 1000000) [hF]; (try subst hK); try (refine VS.keep [0, 1, 2, 10, 11, 39] ?_; generalize hK : VS _ _ _ = KK; simp; (try subst hK)))
        | (refine VS.keepAt 7 [] ?_; generalize hK : VS _ _ _ = KK; (try simp); (try subst hK); refine VS.region tabOk (id := 7) [] (by kernel_rfl) ?_; generalize hK : VS _ _ _ = KK; simp (maxSteps := 1000000) [hF]; (try subst hK); try (refine VS.keep [6, 7] ?_; generalize hK : VS _ _ _ = KK; simp; (try subst hK)))
        | (refine VS.cond ?_; generalize hK1 : VS _ _ _ = KK1; generalize hK2 : VS _ _ _ = KK2; simp (maxSteps := 1000000) [hF]; (try subst hK1); (try subst hK2))
      try refine VS.ret ?_
      repeat first | refine blockN_ret ?_ | refine loopN_ret ?_
      refine endK.of [6, 7] [0, 1] [(1, [.i 0])] (by simp [hF]) (by simp [covers, mpre]) ?_
      simp [hF, retK, dL, dM]
      exact ⟨M, hM, rfl⟩
    | some front =>
      rw [hf] at hstep
      simp only at hstep
      refine (merged_yes B hfind x.bef hthb hnb M hM false hf).call [(0, []), (1, [])] (by simp) (by simp (maxSteps := 1000000) [hF, dL, dM]) (by simp (maxSteps := 1000000) [hF, dL, dM]) (by simp (maxSteps := 1000000) [hF, dL, dM]) (by simp) ?_
      rintro av X κ ⟨M, hM, rfl, rfl, rfl⟩
      generalize hK : VS _ _ _ = KK; simp (maxSteps := 1000000) [hF, dL, dM]; (try subst hK)
      repeat first
        | refine VS.seq ?_
        | refine VS.skip ?_
        | (refine VS.keepAt 6 [0, 1, 2, 10, 11, 12] ?_; generalize hK : VS _ _ _ = KK; (try simp); (try subst hK); refine VS.region tabOk (id := 6) [] (by kernel_rfl) ?_; generalize hK : VS _ _ _ = KK; simp (maxSteps := 1000000) [hF]; (try subst hK); try (refine VS.keep [0, 1, 2, 10, 11, 39] ?_; generalize hK : VS _ _ _ = KK; simp; (try subst hK)))
        | (refine VS.cond ?_; generalize hK1 : VS _ _ _ = KK1; generalize hK2 : VS _ _ _ = KK2; simp (maxSteps := 1000000) [hF]; (try subst hK1); (try subst hK2))
      obtain ⟨_, _, hfl⟩ := merged_len B (fun u hu => by have := hedge u (.inl hu); omega) hnb hf
      refine VS.cold 4 [.d] (by simp (maxSteps := 1000000) [hF, T.freeze]) (by simp (maxSteps := 1000000) [hF, T.freeze]) (by simp (maxSteps := 1000000) [hF, T.freeze]) ?_
      generalize hK : VS _ _ _ = KK; simp [hF, St.cold, T.freeze]; (try subst hK)
      have hil : x.ins.length ≤ L.length := by
        have : x.ins.length ≤ (parents x).length := by simp [parents]
        omega
      repeat first
        | (refine VS.keepAt 8 [0, 1, 2, 10, 11] ?_; generalize hK : VS _ _ _ = KK; (try simp); (try subst hK); refine VS.region tabOk (id := 8) [] (by kernel_rfl) ?_; generalize hK : VS _ _ _ = KK; simp (maxSteps := 1000000) [hF]; (try subst hK); try (refine VS.keep [0, 1, 2, 10, 11, 13] ?_; generalize hK : VS _ _ _ = KK; simp; (try subst hK)))
      refine (clone_ok false x.ins (by omega)).call [] (by simp) (by simp (maxSteps := 1000000) [hF]) (by simp (maxSteps := 1000000) [hF]) (by simp (maxSteps := 1000000) [hF]) (by simp) ?_
      rintro av X κ ⟨rfl, rfl, rfl⟩
      generalize hK : VS _ _ _ = KK; simp (maxSteps := 1000000) [hF]; (try subst hK)
      by_cases hs : 0 ≤ x.sup
      · have hpar : parents x = x.ins ++ [x.sup] := by simp [parents, hs]
        have happ := dInts_app1 x.ins x.sup
        have b1 : (x.ins.length + 1) * 8 ≤ 140737488355328 := by omega
        have b2 : x.ins.length + 1 ≤ 9223372036854775807 := by omega
        have hmid : (dInts (x.ins ++ [x.sup])).mid 0 (x.ins.length + 1) = dInts (x.ins ++ [x.sup]) := sq_mid_all _ _ (by simp)
        repeat first
          | refine VS.seq ?_
          | (refine VS.keepAt 9 [0, 1, 2, 10, 11, 13] ?_; generalize hK : VS _ _ _ = KK; (try simp); (try subst hK); refine VS.region tabOk (id := 9) [] (by kernel_rfl) ?_; generalize hK : VS _ _ _ = KK; simp (maxSteps := 1000000) [hF, hs, happ, b1, b2]; (try subst hK); try (refine VS.keep [0, 1, 2, 10, 11, 13, 45] ?_; generalize hK : VS _ _ _ = KK; simp; (try subst hK)))
          | (refine VS.keepAt 10 [0, 1, 2, 10, 11, 13] ?_; generalize hK : VS _ _ _ = KK; (try simp); (try subst hK); refine VS.region tabOk (id := 10) [] (by kernel_rfl) ?_; generalize hK : VS _ _ _ = KK; simp (maxSteps := 1000000) [hF, hs, happ, b1, b2]; (try subst hK); try (refine VS.keep [0, 1, 2, 11, 13] ?_; generalize hK : VS _ _ _ = KK; simp; (try subst hK)))
          | (refine VS.cond ?_; generalize hK1 : VS _ _ _ = KK1; generalize hK2 : VS _ _ _ = KK2; simp (maxSteps := 1000000) [hF, hs, happ, b1, b2]; (try subst hK1); (try subst hK2))
        refine VS.cool 13 (by simp (maxSteps := 1000000) [hF, hmid]) ?_
        generalize hK : VS _ _ _ = KK; simp [hF, St.cool, hmid]; (try subst hK)
        rw [← hpar]
        refine VS.pick [0, 1, 2, 11, 13] [0, 1, 4] (by simp [hF]) ?_
        generalize hK : VS _ _ _ = KK; simp [hF]; (try subst hK)
        repeat first
          | (refine VS.keepAt 11 [0, 1, 2, 11, 13] ?_; generalize hK : VS _ _ _ = KK; (try simp); (try subst hK); refine VS.region tabOk (id := 11) [] (by kernel_rfl) ?_; generalize hK : VS _ _ _ = KK; simp (maxSteps := 1000000) [hF]; (try subst hK); try (refine VS.keep [1, 2, 11, 12, 14] ?_; generalize hK : VS _ _ _ = KK; simp; (try subst hK)))
        cases hb : mergedF (ordOf L) (parents x) with
        | none =>
          rw [hb] at hstep
          simp only at hstep
          rw [hstep]
          refine (merged_no B hfind (parents x) hthp hnp M hM false hb).call [(0, []), (1, [])] (by simp) (by simp (maxSteps := 1000000) [hF, dL, dM]) (by simp (maxSteps := 1000000) [hF, dL, dM]) (by simp (maxSteps := 1000000) [hF, dL, dM]) (by simp) ?_
          rintro av X κ ⟨M, hM, rfl, rfl, rfl⟩
          generalize hK : VS _ _ _ = KK; simp (maxSteps := 1000000) [hF, dL, dM]; (try subst hK)
          repeat first
            | refine VS.seq ?_
            | (refine VS.keepAt 12 [1, 2, 11, 12, 14] ?_; generalize hK : VS _ _ _ = KK; (try simp); (try subst hK); refine VS.region tabOk (id := 12) [] (by kernel_rfl) ?_; generalize hK : VS _ _ _ = KK; simp (maxSteps := 1000000) [hF]; (try subst hK); try (refine VS.keep [1, 2, 11, 14, 59] ?_; generalize hK : VS _ _ _ = KK; simp; (try subst hK)))
            | (refine VS.keepAt 13 [] ?_; generalize hK : VS _ _ _ = KK; (try simp); (try subst hK); refine VS.region tabOk (id := 13) [] (by kernel_rfl) ?_; generalize hK : VS _ _ _ = KK; simp (maxSteps := 1000000) [hF]; (try subst hK); try (refine VS.keep [6, 7] ?_; generalize hK : VS _ _ _ = KK; simp; (try subst hK)))
            | (refine VS.cond ?_; generalize hK1 : VS _ _ _ = KK1; generalize hK2 : VS _ _ _ = KK2; simp (maxSteps := 1000000) [hF]; (try subst hK1); (try subst hK2))
          try refine VS.ret ?_
          repeat first | refine blockN_ret ?_ | refine loopN_ret ?_
          refine endK.of [6, 7] [0, 1] [(1, [.i 0])] (by simp [hF]) (by simp [covers, mpre]) ?_
          simp [hF, retK, dL, dM]
          exact ⟨M, hM, rfl⟩
        | some behind =>
          rw [hb] at hstep
          simp only at hstep
          obtain ⟨_, _, hbl⟩ := merged_len B (fun u hu => by have := hedge u (.inr hu); omega) hnp hb
          refine (merged_yes B hfind (parents x) hthp hnp M hM false hb).call [(0, []), (1, [])] (by simp) (by simp (maxSteps := 1000000) [hF, dL, dM]) (by simp (maxSteps := 1000000) [hF, dL, dM]) (by simp (maxSteps := 1000000) [hF, dL, dM]) (by simp) ?_
          rintro av X κ ⟨M, hM, rfl, rfl, rfl⟩
          generalize hK : VS _ _ _ = KK; simp (maxSteps := 1000000) [hF, dL, dM]; (try subst hK)
          repeat first
            | refine VS.seq ?_
            | refine VS.skip ?_
            | (refine VS.keepAt 12 [1, 2, 11, 12, 14] ?_; generalize hK : VS _ _ _ = KK; (try simp); (try subst hK); refine VS.region tabOk (id := 12) [] (by kernel_rfl) ?_; generalize hK : VS _ _ _ = KK; simp (maxSteps := 1000000) [hF]; (try subst hK); try (refine VS.keep [1, 2, 11, 14, 59] ?_; generalize hK : VS _ _ _ = KK; simp; (try subst hK)))
            | (refine VS.keepAt 14 [1, 2, 11, 14] ?_; generalize hK : VS _ _ _ = KK; (try simp); (try subst hK); refine VS.region tabOk (id := 14) [] (by kernel_rfl) ?_; generalize hK : VS _ _ _ = KK; simp (maxSteps := 1000000) [hF]; (try subst hK); try (refine VS.keep [1, 2, 11, 14] ?_; generalize hK : VS _ _ _ = KK; simp; (try subst hK)))
            | (refine VS.cond ?_; generalize hK1 : VS _ _ _ = KK1; generalize hK2 : VS _ _ _ = KK2; simp (maxSteps := 1000000) [hF]; (try subst hK1); (try subst hK2))
          refine (delIs_ok behind front (by omega) (by omega)).call [(3, []), (2, [])] (by simp) (by simp (maxSteps := 1000000) [hF, dBox]) (by simp (maxSteps := 1000000) [hF, dBox]) (by simp (maxSteps := 1000000) [hF, dBox]) (by simp) ?_
          rintro av X κ ⟨s3, m3, rfl, rfl, rfl, hs3, hm3⟩
          generalize hK : VS _ _ _ = KK; simp (maxSteps := 1000000) [hF, dBox]; (try subst hK)
          generalize hkept : (behind.filter fun v => !hasN front v) = kept at *
          subst hm3
          have hkl : kept.length ≤ 1000 := by
            have : kept.length ≤ behind.length := by rw [← hkept]; exact List.length_filter_le _ _
            omega
          repeat first
            | refine VS.seq ?_
            | (refine VS.keepAt 15 [1, 2, 11, 14] ?_; generalize hK : VS _ _ _ = KK; (try simp); (try subst hK); refine VS.region tabOk (id := 15) [] (by kernel_rfl) ?_; generalize hK : VS _ _ _ = KK; simp (maxSteps := 1000000) [hF, dBox, hs3]; (try subst hK); try (refine VS.keep [1, 2] ?_; generalize hK : VS _ _ _ = KK; simp; (try subst hK)))
          refine (concat_ok true [(false, front), (true, [(t : Int)]), (true, kept)] (by simp) (by simp [sizeOs]; omega) (by simp [sizeOs]; omega)).call [(6, [])] (by simp) (by simp (maxSteps := 1000000) [hF, dOs, sq, dInts_one]) (by simp (maxSteps := 1000000) [hF, dOs, sq, dInts_one]) (by simp (maxSteps := 1000000) [hF, dOs, sq, dInts_one]) (by simp) ?_
          rintro av X κ ⟨rfl, rfl, rfl⟩
          generalize hK : VS _ _ _ = KK; simp (maxSteps := 1000000) [hF, dOs, sq, dInts_one]; (try subst hK)
          have hfind2 := dEns_find (putE M t (front ++ (t : Int) :: kept)) t
          rw [got_putE, if_pos rfl] at hfind2
          have hput := dEns_putE M t (front ++ (t : Int) :: kept)
          have hfl2 : flatOs [(false, front), (true, [(t : Int)]), (true, kept)] = front ++ (t : Int) :: kept := by simp [flatOs]
          repeat first
            | refine VS.seq ?_
            | (refine VS.keepAt 16 [1, 2] ?_; generalize hK : VS _ _ _ = KK; (try simp); (try subst hK); refine VS.region tabOk (id := 16) [] (by kernel_rfl) ?_; generalize hK : VS _ _ _ = KK; simp (maxSteps := 1000000) [hF, hfl2, hput, hfind2]; (try subst hK); try (refine VS.keep [6, 7] ?_; generalize hK : VS _ _ _ = KK; simp; (try subst hK)))
          try refine VS.ret ?_
          repeat first | refine blockN_ret ?_ | refine loopN_ret ?_
          refine endK.of [6, 7] [0, 1] [(1, [.i 0])] (by simp [hF]) (by simp [covers, mpre]) ?_
          simp [hF, retK, dL, dM, hstep]
          refine ⟨_, fun k o hk => ?_, rfl⟩
          rw [got_putE] at hk
          split at hk
          · rename_i e
            subst e
            cases hk
            rw [hstep]; simp
          · exact hM k o hk
      · have hpar : parents x = x.ins := by simp [parents, hs]
        repeat first
          | refine VS.seq ?_
          | refine VS.skip ?_
          | (refine VS.keepAt 9 [0, 1, 2, 10, 11, 13] ?_; generalize hK : VS _ _ _ = KK; (try simp); (try subst hK); refine VS.region tabOk (id := 9) [] (by kernel_rfl) ?_; generalize hK : VS _ _ _ = KK; simp (maxSteps := 1000000) [hF, hs]; (try subst hK); try (refine VS.keep [0, 1, 2, 10, 11, 13, 45] ?_; generalize hK : VS _ _ _ = KK; simp; (try subst hK)))
          | (refine VS.cond ?_; generalize hK1 : VS _ _ _ = KK1; generalize hK2 : VS _ _ _ = KK2; simp (maxSteps := 1000000) [hF, hs]; (try subst hK1); (try subst hK2))
        refine VS.cool 13 (by simp (maxSteps := 1000000) [hF]) ?_
        generalize hK : VS _ _ _ = KK; simp [hF, St.cool]; (try subst hK)
        rw [← hpar]
        refine VS.pick [0, 1, 2, 11, 13] [0, 1, 4] (by simp [hF]) ?_
        generalize hK : VS _ _ _ = KK; simp [hF]; (try subst hK)
        repeat first
          | (refine VS.keepAt 11 [0, 1, 2, 11, 13] ?_; generalize hK : VS _ _ _ = KK; (try simp); (try subst hK); refine VS.region tabOk (id := 11) [] (by kernel_rfl) ?_; generalize hK : VS _ _ _ = KK; simp (maxSteps := 1000000) [hF]; (try subst hK); try (refine VS.keep [1, 2, 11, 12, 14] ?_; generalize hK : VS _ _ _ = KK; simp; (try subst hK)))
        cases hb : mergedF (ordOf L) (parents x) with
        | none =>
          rw [hb] at hstep
          simp only at hstep
          rw [hstep]
          refine (merged_no B hfind (parents x) hthp hnp M hM false hb).call [(0, []), (1, [])] (by simp) (by simp (maxSteps := 1000000) [hF, dL, dM]) (by simp (maxSteps := 1000000) [hF, dL, dM]) (by simp (maxSteps := 1000000) [hF, dL, dM]) (by simp) ?_
          rintro av X κ ⟨M, hM, rfl, rfl, rfl⟩
          generalize hK : VS _ _ _ = KK; simp (maxSteps := 1000000) [hF, dL, dM]; (try subst hK)
          repeat first
            | refine VS.seq ?_
            | (refine VS.keepAt 12 [1, 2, 11, 12, 14] ?_; generalize hK : VS _ _ _ = KK; (try simp); (try subst hK); refine VS.region tabOk (id := 12) [] (by kernel_rfl) ?_; generalize hK : VS _ _ _ = KK; simp (maxSteps := 1000000) [hF]; (try subst hK); try (refine VS.keep [1, 2, 11, 14, 59] ?_; generalize hK : VS _ _ _ = KK; simp; (try subst hK)))
            | (refine VS.keepAt 13 [] ?_; generalize hK : VS _ _ _ = KK; (try simp); (try subst hK); refine VS.region tabOk (id := 13) [] (by kernel_rfl) ?_; generalize hK : VS _ _ _ = KK; simp (maxSteps := 1000000) [hF]; (try subst hK); try (refine VS.keep [6, 7] ?_; generalize hK : VS _ _ _ = KK; simp; (try subst hK)))
            | (refine VS.cond ?_; generalize hK1 : VS _ _ _ = KK1; generalize hK2 : VS _ _ _ = KK2; simp (maxSteps := 1000000) [hF]; (try subst hK1); (try subst hK2))
          try refine VS.ret ?_
          repeat first | refine blockN_ret ?_ | refine loopN_ret ?_
          refine endK.of [6, 7] [0, 1] [(1, [.i 0])] (by simp [hF]) (by simp [covers, mpre]) ?_
          simp [hF, retK, dL, dM]
          exact ⟨M, hM, rfl⟩
        | some behind =>
          rw [hb] at hstep
          simp only at hstep
          obtain ⟨_, _, hbl⟩ := merged_len B (fun u hu => by have := hedge u (.inr hu); omega) hnp hb
          refine (merged_yes B hfind (parents x) hthp hnp M hM false hb).call [(0, []), (1, [])] (by simp) (by simp (maxSteps := 1000000) [hF, dL, dM]) (by simp (maxSteps := 1000000) [hF, dL, dM]) (by simp (maxSteps := 1000000) [hF, dL, dM]) (by simp) ?_
          rintro av X κ ⟨M, hM, rfl, rfl, rfl⟩
          generalize hK : VS _ _ _ = KK; simp (maxSteps := 1000000) [hF, dL, dM]; (try subst hK)
          repeat first
            | refine VS.seq ?_
            | refine VS.skip ?_
            | (refine VS.keepAt 12 [1, 2, 11, 12, 14] ?_; generalize hK : VS _ _ _ = KK; (try simp); (try subst hK); refine VS.region tabOk (id := 12) [] (by kernel_rfl) ?_; generalize hK : VS _ _ _ = KK; simp (maxSteps := 1000000) [hF]; (try subst hK); try (refine VS.keep [1, 2, 11, 14, 59] ?_; generalize hK : VS _ _ _ = KK; simp; (try subst hK)))
            | (refine VS.keepAt 14 [1, 2, 11, 14] ?_; generalize hK : VS _ _ _ = KK; (try simp); (try subst hK); refine VS.region tabOk (id := 14) [] (by kernel_rfl) ?_; generalize hK : VS _ _ _ = KK; simp (maxSteps := 1000000) [hF]; (try subst hK); try (refine VS.keep [1, 2, 11, 14] ?_; generalize hK : VS _ _ _ = KK; simp; (try subst hK)))
            | (refine VS.cond ?_; generalize hK1 : VS _ _ _ = KK1; generalize hK2 : VS _ _ _ = KK2; simp (maxSteps := 1000000) [hF]; (try subst hK1); (try subst hK2))
          refine (delIs_ok behind front (by omega) (by omega)).call [(3, []), (2, [])] (by simp) (by simp (maxSteps := 1000000) [hF, dBox]) (by simp (maxSteps := 1000000) [hF, dBox]) (by simp (maxSteps := 1000000) [hF, dBox]) (by simp) ?_
          rintro av X κ ⟨s3, m3, rfl, rfl, rfl, hs3, hm3⟩
          generalize hK : VS _ _ _ = KK; simp (maxSteps := 1000000) [hF, dBox]; (try subst hK)
          generalize hkept : (behind.filter fun v => !hasN front v) = kept at *
          subst hm3
          have hkl : kept.length ≤ 1000 := by
            have : kept.length ≤ behind.length := by rw [← hkept]; exact List.length_filter_le _ _
            omega
          repeat first
            | refine VS.seq ?_
            | (refine VS.keepAt 15 [1, 2, 11, 14] ?_; generalize hK : VS _ _ _ = KK; (try simp); (try subst hK); refine VS.region tabOk (id := 15) [] (by kernel_rfl) ?_; generalize hK : VS _ _ _ = KK; simp (maxSteps := 1000000) [hF, dBox, hs3]; (try subst hK); try (refine VS.keep [1, 2] ?_; generalize hK : VS _ _ _ = KK; simp; (try subst hK)))
          refine (concat_ok true [(false, front), (true, [(t : Int)]), (true, kept)] (by simp) (by simp [sizeOs]; omega) (by simp [sizeOs]; omega)).call [(6, [])] (by simp) (by simp (maxSteps := 1000000) [hF, dOs, sq, dInts_one]) (by simp (maxSteps := 1000000) [hF, dOs, sq, dInts_one]) (by simp (maxSteps := 1000000) [hF, dOs, sq, dInts_one]) (by simp) ?_
          rintro av X κ ⟨rfl, rfl, rfl⟩
          generalize hK : VS _ _ _ = KK; simp (maxSteps := 1000000) [hF, dOs, sq, dInts_one]; (try subst hK)
          have hfind2 := dEns_find (putE M t (front ++ (t : Int) :: kept)) t
          rw [got_putE, if_pos rfl] at hfind2
          have hput := dEns_putE M t (front ++ (t : Int) :: kept)
          have hfl2 : flatOs [(false, front), (true, [(t : Int)]), (true, kept)] = front ++ (t : Int) :: kept := by simp [flatOs]
          repeat first
            | refine VS.seq ?_
            | (refine VS.keepAt 16 [1, 2] ?_; generalize hK : VS _ _ _ = KK; (try simp); (try subst hK); refine VS.region tabOk (id := 16) [] (by kernel_rfl) ?_; generalize hK : VS _ _ _ = KK; simp (maxSteps := 1000000) [hF, hfl2, hput, hfind2]; (try subst hK); try (refine VS.keep [6, 7] ?_; generalize hK : VS _ _ _ = KK; simp; (try subst hK)))
          try refine VS.ret ?_
          repeat first | refine blockN_ret ?_ | refine loopN_ret ?_
          refine endK.of [6, 7] [0, 1] [(1, [.i 0])] (by simp [hF]) (by simp [covers, mpre]) ?_
          simp [hF, retK, dL, dM, hstep]
          refine ⟨_, fun k o hk => ?_, rfl⟩
          rw [got_putE] at hk
          split at hk
          · rename_i e
            subst e
            cases hk
            rw [hstep]; simp
          · exact hM k o hk

theorem find_all {L : List Th} {r : Int → Nat} (B : Base L r) : ∀ n, FindOk L r n
  | 0 => fun _ _ h => by omega
  | n + 1 => fun t ht hr M hM => find_step B (find_all B n) t ht hr M hM
/-- What find does. -/
theorem find_ok {L : List Th} {r : Int → Nat} (B : Base L r) (t : Nat) (ht : t < L.length) (M : List (Int × List Int)) (hM : MemoOk L M) :
    Meets Try.prog 44 [dL L, dM M] (.cons (.ptr 0 [.d]) (.cons (avInt t) (.cons (.mp 1 []) .nil))) (FindR L t) := find_all B (r t + 1) t ht (by omega) M hM
end Go.Proofs.Ytahgopdamgagkaa
