/- The table of this program's types. -/
import Derived.Test.YtkkbcpcihadkhaaK4
import Derived.Test.YtkkbcpcihadkhaaProg
import Derived.KernelRfl
import Derived.RangeFuncBox
import Derived.RangeFuncLeaves
import Derived.Shelf.Abstract
import Derived.WalkKit
import Derived.OwnWalkIn
import Derived.TacticsInMore
import Derived.LoopNIn
import Derived.LoopIn
import Derived.IntWalk
namespace Go.Proofs.Ytkkbcpcihadkhaa
set_option linter.all false
open Go.Vc Go.Proofs

theorem all_some {l : List Field} (h : l.all (fun f => (Try.prog.info? f.type).isSome) = true) : ∀ f ∈ l, (Try.prog.info? f.type).isSome = true := List.all_eq_true.1 h


noncomputable def tab : Tab := fun t => match t with
  | 1 => { ld := some (false, 1), zero := some (.val (.nilFunc)) }
  | 2 => { ld := some (false, 1), zero := some (.val (.int .i64 0)), int := some .i64 }
  | 3 => { ld := some (false, 1), zero := some (.val (.int .i64 0)), int := some .i64 }
  | 4 => { ld := some (false, 1), zero := some (.val (.bool false)), bool := true }
  | 5 => { ld := some (false, 1), zero := some (.val (.int .u8 0)), int := some .u8 }
  | 6 => { ld := some (false, 1), zero := some (.val (.int .u8 0)), int := some .u8 }
  | 7 => { ld := some (true, 4), zero := some (.agg (.cons (.val (.int .i64 0)) (.cons (.val (.int .i64 0)) (.cons (.val (.bool false)) (.cons (.val (.int .u8 0)) .nil))))), st := some [(0, 1), (1, 1), (2, 1), (3, 1)] }
  | 8 => { ld := some (true, 4), zero := some (.agg (.cons (.val (.int .i64 0)) (.cons (.val (.int .i64 0)) (.cons (.val (.bool false)) (.cons (.val (.int .u8 0)) .nil))))), st := some [(0, 1), (1, 1), (2, 1), (3, 1)] }
  | 9 => { ld := some (false, 1), zero := some (.val (.string ⟨#[]⟩)), str := true }
  | 10 => { ld := some (false, 1), zero := some (.val (.string ⟨#[]⟩)), str := true }
  | 11 => { ld := some (false, 1), zero := some (.val (.string ⟨#[]⟩)), str := true }
  | 12 => { ld := some (false, 1), zero := some (.val (.int .u64 0)), int := some .u64 }
  | 13 => { ld := some (true, 2), zero := some (.agg (.cons (.val (.string ⟨#[]⟩)) (.cons (.val (.int .u64 0)) .nil))), st := some [(0, 1), (1, 1)] }
  | 14 => { ld := some (true, 2), zero := some (.agg (.cons (.val (.string ⟨#[]⟩)) (.cons (.val (.int .u64 0)) .nil))), st := some [(0, 1), (1, 1)] }
  | 15 => { ld := some (false, 1), zero := some (.val (.pointer none)), ptr := true }
  | 16 => { ld := some (false, 1), zero := some (.val (.pointer none)), ptr := true }
  | 17 => { ld := some (false, 1), zero := some (.val (.pointer none)), ptr := true }
  | 18 => { ld := some (true, 1), zero := some (.agg (.cons (.val (.pointer none)) .nil)), st := some [(0, 1)] }
  | 19 => { ld := some (true, 1), zero := some (.agg (.cons (.val (.pointer none)) .nil)), st := some [(0, 1)] }
  | 21 => { ld := some (false, 1), zero := some (.val (.int .i32 0)), int := some .i32 }
  | 22 => { sl := some (52, 6, 64, (.agg #[.int .i64 0, .int .i64 0, .int .i64 0, .int .i64 0, .int .i64 0, .slice none 0 0])), ld := some (false, 1), zero := some (.sl true (.slice none 0 0) 6 .nil) }
  | 23 => { ld := some (true, 3), zero := some (.agg (.cons (.val (.int .i64 0)) (.cons (.val (.int .i64 0)) (.cons (.val (.int .i64 0)) .nil)))), st := some [(0, 1), (1, 1), (2, 1)] }
  | 24 => { ld := some (true, 3), zero := some (.agg (.cons (.val (.int .i64 0)) (.cons (.val (.int .i64 0)) (.cons (.val (.int .i64 0)) .nil)))), st := some [(0, 1), (1, 1), (2, 1)] }
  | 25 => { ld := some (false, 1), zero := some (.val (.pointer none)), ptr := true }
  | 26 => { ld := some (false, 1), zero := some (.val (.pointer none)), ptr := true }
  | 28 => { ld := some (false, 1), zero := some (.val (.nilFunc)) }
  | 29 => { sl := some (48, 2, 32, (.agg #[.bool false, .slice none 0 0])), ld := some (false, 1), zero := some (.sl true (.slice none 0 0) 2 .nil) }
  | 30 => { sl := some (110, 5, 48, (.agg #[.bool false, .bool false, .int .i64 0, .int .i64 0, .slice none 0 0])), ld := some (false, 1), zero := some (.sl true (.slice none 0 0) 5 .nil) }
  | 31 => { ld := some (true, 3), zero := some (.agg (.cons (.val (.bool false)) (.cons (.sl true (.slice none 0 0) 2 .nil) (.cons (.sl true (.slice none 0 0) 5 .nil) .nil)))), st := some [(0, 1), (1, 1), (2, 1)] }
  | 32 => { ld := some (true, 3), zero := some (.agg (.cons (.val (.bool false)) (.cons (.sl true (.slice none 0 0) 2 .nil) (.cons (.sl true (.slice none 0 0) 5 .nil) .nil)))), st := some [(0, 1), (1, 1), (2, 1)] }
  | 33 => { ld := some (false, 1), zero := some (.val (.nilFunc)) }
  | 34 => { ld := some (false, 1), zero := some (.val (.nilFunc)) }
  | 35 => { ld := some (false, 1), zero := some (.val (.int .i64 0)), int := some .i64 }
  | 37 => { ld := some (false, 1), zero := some (.val (.nilFunc)) }
  | 38 => { sl := some (92, 5, 80, (.agg #[.int .i64 0, .int .i64 0, .string ⟨#[]⟩, .slice none 0 0, .slice none 0 0])), ld := some (false, 1), zero := some (.sl true (.slice none 0 0) 5 .nil) }
  | 40 => { ld := some (false, 1), zero := some (.val (.nilFunc)) }
  | 41 => { ld := some (false, 1), zero := some (.val (.nilFunc)) }
  | 42 => { ld := some (false, 1), zero := some (.val (.nilFunc)) }
  | 43 => { ld := some (false, 1), zero := some (.val (.nilFunc)) }
  | 44 => { ld := some (false, 1), zero := some (.val (.nilFunc)) }
  | 45 => { sl := some (3, 1, 8, (.int .i64 0)), ld := some (false, 1), zero := some (.sl true (.slice none 0 0) 1 .nil) }
  | 46 => { sl := some (38, 1, 24, (.slice none 0 0)), ld := some (false, 1), zero := some (.sl true (.slice none 0 0) 1 .nil) }
  | 47 => { ld := some (true, 2), zero := some (.agg (.cons (.val (.bool false)) (.cons (.sl true (.slice none 0 0) 1 .nil) .nil))), st := some [(0, 1), (1, 1)] }
  | 48 => { ld := some (true, 2), zero := some (.agg (.cons (.val (.bool false)) (.cons (.sl true (.slice none 0 0) 1 .nil) .nil))), st := some [(0, 1), (1, 1)] }
  | 49 => { ld := some (false, 1), zero := some (.val (.nilFunc)) }
  | 50 => { ld := some (false, 1), zero := some (.val (.nilFunc)) }
  | 51 => { ld := some (true, 6), zero := some (.agg (.cons (.val (.int .i64 0)) (.cons (.val (.int .i64 0)) (.cons (.val (.int .i64 0)) (.cons (.val (.int .i64 0)) (.cons (.val (.int .i64 0)) (.cons (.sl true (.slice none 0 0) 1 .nil) .nil))))))), st := some [(0, 1), (1, 1), (2, 1), (3, 1), (4, 1), (5, 1)] }
  | 52 => { ld := some (true, 6), zero := some (.agg (.cons (.val (.int .i64 0)) (.cons (.val (.int .i64 0)) (.cons (.val (.int .i64 0)) (.cons (.val (.int .i64 0)) (.cons (.val (.int .i64 0)) (.cons (.sl true (.slice none 0 0) 1 .nil) .nil))))))), st := some [(0, 1), (1, 1), (2, 1), (3, 1), (4, 1), (5, 1)] }
  | 53 => { ld := some (false, 1), zero := some (.val (.nilFunc)) }
  | 54 => { ld := some (false, 1), zero := some (.val (.nilFunc)) }
  | 55 => { sl := some (64, 5, 40, (.agg #[.int .i64 0, .int .i64 0, .int .i64 0, .int .i64 0, .int .i64 0])), ld := some (false, 1), zero := some (.sl true (.slice none 0 0) 5 .nil) }
  | 56 => { ld := some (false, 1), zero := some (.val (.int .u64 0)), int := some .u64 }
  | 58 => { ld := some (false, 1), zero := some (.val (.nilFunc)) }
  | 60 => { ld := some (false, 1), zero := some (.val (.nilFunc)) }
  | 62 => { ld := some (false, 1), zero := some (.val (.nilFunc)) }
  | 63 => { ld := some (true, 5), zero := some (.agg (.cons (.val (.int .i64 0)) (.cons (.val (.int .i64 0)) (.cons (.val (.int .i64 0)) (.cons (.val (.int .i64 0)) (.cons (.val (.int .i64 0)) .nil)))))), st := some [(0, 1), (1, 1), (2, 1), (3, 1), (4, 1)] }
  | 64 => { ld := some (true, 5), zero := some (.agg (.cons (.val (.int .i64 0)) (.cons (.val (.int .i64 0)) (.cons (.val (.int .i64 0)) (.cons (.val (.int .i64 0)) (.cons (.val (.int .i64 0)) .nil)))))), st := some [(0, 1), (1, 1), (2, 1), (3, 1), (4, 1)] }
  | 65 => { ld := some (false, 1), zero := some (.val (.nilFunc)) }
  | 66 => { ld := some (true, 5), zero := some (.agg (.cons (.val (.int .i64 0)) (.cons (.val (.int .i64 0)) (.cons (.val (.int .i64 0)) (.cons (.val (.int .i64 0)) (.cons (.val (.int .i64 0)) .nil)))))), st := some [(0, 1), (1, 1), (2, 1), (3, 1), (4, 1)] }
  | 67 => { ld := some (false, 1), zero := some (.val (.nilFunc)) }
  | 68 => { ld := some (false, 1), zero := some (.val (.nilFunc)) }
  | 69 => { ld := some (false, 1), zero := some (.val (.nilFunc)) }
  | 70 => { ld := some (false, 1), zero := some (.val (.nilFunc)) }
  | 71 => { ld := some (false, 1), zero := some (.val (.nilFunc)) }
  | 72 => { sl := some (107, 2, 32, (.agg #[.slice none 0 0, .bool false])), ld := some (false, 1), zero := some (.sl true (.slice none 0 0) 2 .nil) }
  | 73 => { sl := some (87, 5, 56, (.agg #[.int .i64 0, .bool false, .int .i64 0, .slice none 0 0, .bool false])), ld := some (false, 1), zero := some (.sl true (.slice none 0 0) 5 .nil) }
  | 74 => { ld := some (true, 2), zero := some (.agg (.cons (.sl true (.slice none 0 0) 2 .nil) (.cons (.sl true (.slice none 0 0) 5 .nil) .nil))), st := some [(0, 1), (1, 1)] }
  | 75 => { ld := some (true, 2), zero := some (.agg (.cons (.sl true (.slice none 0 0) 2 .nil) (.cons (.sl true (.slice none 0 0) 5 .nil) .nil))), st := some [(0, 1), (1, 1)] }
  | 76 => { ld := some (false, 1), zero := some (.val (.nilFunc)) }
  | 77 => { ld := some (false, 1), zero := some (.val (.nilFunc)) }
  | 79 => { ld := some (false, 1), zero := some (.val (.nilFunc)) }
  | 80 => { ld := some (false, 1), zero := some (.val (.nilFunc)) }
  | 81 => { ld := some (false, 1), zero := some (.val (.nilFunc)) }
  | 82 => { ld := some (false, 1), zero := some (.val (.nilFunc)) }
  | 83 => { sl := some (35, 1, 8, (.int .i64 0)), ld := some (false, 1), zero := some (.sl true (.slice none 0 0) 1 .nil) }
  | 84 => { ld := some (false, 1), zero := some (.val (.nilFunc)) }
  | 85 => { ld := some (false, 1), zero := some (.val (.nilFunc)) }
  | 86 => { ld := some (true, 5), zero := some (.agg (.cons (.val (.int .i64 0)) (.cons (.val (.bool false)) (.cons (.val (.int .i64 0)) (.cons (.sl true (.slice none 0 0) 1 .nil) (.cons (.val (.bool false)) .nil)))))), st := some [(0, 1), (1, 1), (2, 1), (3, 1), (4, 1)] }
  | 87 => { ld := some (true, 5), zero := some (.agg (.cons (.val (.int .i64 0)) (.cons (.val (.bool false)) (.cons (.val (.int .i64 0)) (.cons (.sl true (.slice none 0 0) 1 .nil) (.cons (.val (.bool false)) .nil)))))), st := some [(0, 1), (1, 1), (2, 1), (3, 1), (4, 1)] }
  | 88 => { ld := some (false, 1), zero := some (.val (.nilFunc)) }
  | 89 => { ld := some (false, 1), zero := some (.val (.nilFunc)) }
  | 90 => { sl := some (9, 1, 16, (.string ⟨#[]⟩)), ld := some (false, 1), zero := some (.sl true (.slice none 0 0) 1 .nil) }
  | 91 => { ld := some (true, 5), zero := some (.agg (.cons (.val (.int .i64 0)) (.cons (.val (.int .i64 0)) (.cons (.val (.string ⟨#[]⟩)) (.cons (.sl true (.slice none 0 0) 1 .nil) (.cons (.sl true (.slice none 0 0) 1 .nil) .nil)))))), st := some [(0, 1), (1, 1), (2, 1), (3, 1), (4, 1)] }
  | 92 => { ld := some (true, 5), zero := some (.agg (.cons (.val (.int .i64 0)) (.cons (.val (.int .i64 0)) (.cons (.val (.string ⟨#[]⟩)) (.cons (.sl true (.slice none 0 0) 1 .nil) (.cons (.sl true (.slice none 0 0) 1 .nil) .nil)))))), st := some [(0, 1), (1, 1), (2, 1), (3, 1), (4, 1)] }
  | 93 => { ld := some (false, 1), zero := some (.val (.nilFunc)) }
  | 94 => { ld := some (false, 1), zero := some (.val (.nilFunc)) }
  | 95 => { ld := some (false, 1), zero := some (.val (.nilFunc)) }
  | 96 => { ld := some (false, 1), zero := some (.val (.nilFunc)) }
  | 97 => { ld := some (false, 1), zero := some (.val (.nilFunc)) }
  | 98 => { ld := some (false, 1), zero := some (.val (.nilFunc)) }
  | 99 => { ld := some (false, 1), zero := some (.val (.nilFunc)) }
  | 100 => { ld := some (false, 1), zero := some (.val (.nilFunc)) }
  | 101 => { sl := some (126, 3, 40, (.agg #[.bool false, .int .i64 0, .slice none 0 0])), ld := some (false, 1), zero := some (.sl true (.slice none 0 0) 3 .nil) }
  | 103 => { ld := some (false, 1), zero := some (.val (.nilFunc)) }
  | 104 => { ld := some (false, 1), zero := some (.val (.nilFunc)) }
  | 105 => { ld := some (false, 1), zero := some (.val (.nilFunc)) }
  | 106 => { ld := some (true, 2), zero := some (.agg (.cons (.sl true (.slice none 0 0) 1 .nil) (.cons (.val (.bool false)) .nil))), st := some [(0, 1), (1, 1)] }
  | 107 => { ld := some (true, 2), zero := some (.agg (.cons (.sl true (.slice none 0 0) 1 .nil) (.cons (.val (.bool false)) .nil))), st := some [(0, 1), (1, 1)] }
  | 108 => { ld := some (false, 1), zero := some (.val (.nilFunc)) }
  | 109 => { ld := some (true, 5), zero := some (.agg (.cons (.val (.bool false)) (.cons (.val (.bool false)) (.cons (.val (.int .i64 0)) (.cons (.val (.int .i64 0)) (.cons (.sl true (.slice none 0 0) 1 .nil) .nil)))))), st := some [(0, 1), (1, 1), (2, 1), (3, 1), (4, 1)] }
  | 110 => { ld := some (true, 5), zero := some (.agg (.cons (.val (.bool false)) (.cons (.val (.bool false)) (.cons (.val (.int .i64 0)) (.cons (.val (.int .i64 0)) (.cons (.sl true (.slice none 0 0) 1 .nil) .nil)))))), st := some [(0, 1), (1, 1), (2, 1), (3, 1), (4, 1)] }
  | 111 => { ld := some (false, 1), zero := some (.val (.nilFunc)) }
  | 112 => { ld := some (false, 1), zero := some (.val (.pointer none)), ptr := true }
  | 113 => { ld := some (false, 1), zero := some (.val (.pointer none)), ptr := true }
  | 114 => { ld := some (false, 1), zero := some (.val (.nilFunc)) }
  | 115 => { ld := some (false, 1), zero := some (.val (.nilFunc)) }
  | 116 => { sl := some (4, 1, 1, (.bool false)), ld := some (false, 1), zero := some (.sl true (.slice none 0 0) 1 .nil) }
  | 117 => { ld := some (false, 1), zero := some (.val (.nilFunc)) }
  | 118 => { ld := some (false, 1), zero := some (.val (.nilFunc)) }
  | _ => {}

theorem tab_1 : tab 1 = { ld := some (false, 1), zero := some (.val (.nilFunc)) } := rfl
theorem tab_2 : tab 2 = { ld := some (false, 1), zero := some (.val (.int .i64 0)), int := some .i64 } := rfl
theorem tab_3 : tab 3 = { ld := some (false, 1), zero := some (.val (.int .i64 0)), int := some .i64 } := rfl
theorem tab_4 : tab 4 = { ld := some (false, 1), zero := some (.val (.bool false)), bool := true } := rfl
theorem tab_5 : tab 5 = { ld := some (false, 1), zero := some (.val (.int .u8 0)), int := some .u8 } := rfl
theorem tab_6 : tab 6 = { ld := some (false, 1), zero := some (.val (.int .u8 0)), int := some .u8 } := rfl
theorem tab_7 : tab 7 = { ld := some (true, 4), zero := some (.agg (.cons (.val (.int .i64 0)) (.cons (.val (.int .i64 0)) (.cons (.val (.bool false)) (.cons (.val (.int .u8 0)) .nil))))), st := some [(0, 1), (1, 1), (2, 1), (3, 1)] } := rfl
theorem tab_8 : tab 8 = { ld := some (true, 4), zero := some (.agg (.cons (.val (.int .i64 0)) (.cons (.val (.int .i64 0)) (.cons (.val (.bool false)) (.cons (.val (.int .u8 0)) .nil))))), st := some [(0, 1), (1, 1), (2, 1), (3, 1)] } := rfl
theorem tab_9 : tab 9 = { ld := some (false, 1), zero := some (.val (.string ⟨#[]⟩)), str := true } := rfl
theorem tab_10 : tab 10 = { ld := some (false, 1), zero := some (.val (.string ⟨#[]⟩)), str := true } := rfl
theorem tab_11 : tab 11 = { ld := some (false, 1), zero := some (.val (.string ⟨#[]⟩)), str := true } := rfl
theorem tab_12 : tab 12 = { ld := some (false, 1), zero := some (.val (.int .u64 0)), int := some .u64 } := rfl
theorem tab_13 : tab 13 = { ld := some (true, 2), zero := some (.agg (.cons (.val (.string ⟨#[]⟩)) (.cons (.val (.int .u64 0)) .nil))), st := some [(0, 1), (1, 1)] } := rfl
theorem tab_14 : tab 14 = { ld := some (true, 2), zero := some (.agg (.cons (.val (.string ⟨#[]⟩)) (.cons (.val (.int .u64 0)) .nil))), st := some [(0, 1), (1, 1)] } := rfl
theorem tab_15 : tab 15 = { ld := some (false, 1), zero := some (.val (.pointer none)), ptr := true } := rfl
theorem tab_16 : tab 16 = { ld := some (false, 1), zero := some (.val (.pointer none)), ptr := true } := rfl
theorem tab_17 : tab 17 = { ld := some (false, 1), zero := some (.val (.pointer none)), ptr := true } := rfl
theorem tab_18 : tab 18 = { ld := some (true, 1), zero := some (.agg (.cons (.val (.pointer none)) .nil)), st := some [(0, 1)] } := rfl
theorem tab_19 : tab 19 = { ld := some (true, 1), zero := some (.agg (.cons (.val (.pointer none)) .nil)), st := some [(0, 1)] } := rfl
theorem tab_21 : tab 21 = { ld := some (false, 1), zero := some (.val (.int .i32 0)), int := some .i32 } := rfl
theorem tab_22 : tab 22 = { sl := some (52, 6, 64, (.agg #[.int .i64 0, .int .i64 0, .int .i64 0, .int .i64 0, .int .i64 0, .slice none 0 0])), ld := some (false, 1), zero := some (.sl true (.slice none 0 0) 6 .nil) } := rfl
theorem tab_23 : tab 23 = { ld := some (true, 3), zero := some (.agg (.cons (.val (.int .i64 0)) (.cons (.val (.int .i64 0)) (.cons (.val (.int .i64 0)) .nil)))), st := some [(0, 1), (1, 1), (2, 1)] } := rfl
theorem tab_24 : tab 24 = { ld := some (true, 3), zero := some (.agg (.cons (.val (.int .i64 0)) (.cons (.val (.int .i64 0)) (.cons (.val (.int .i64 0)) .nil)))), st := some [(0, 1), (1, 1), (2, 1)] } := rfl
theorem tab_25 : tab 25 = { ld := some (false, 1), zero := some (.val (.pointer none)), ptr := true } := rfl
theorem tab_26 : tab 26 = { ld := some (false, 1), zero := some (.val (.pointer none)), ptr := true } := rfl
theorem tab_28 : tab 28 = { ld := some (false, 1), zero := some (.val (.nilFunc)) } := rfl
theorem tab_29 : tab 29 = { sl := some (48, 2, 32, (.agg #[.bool false, .slice none 0 0])), ld := some (false, 1), zero := some (.sl true (.slice none 0 0) 2 .nil) } := rfl
theorem tab_30 : tab 30 = { sl := some (110, 5, 48, (.agg #[.bool false, .bool false, .int .i64 0, .int .i64 0, .slice none 0 0])), ld := some (false, 1), zero := some (.sl true (.slice none 0 0) 5 .nil) } := rfl
theorem tab_31 : tab 31 = { ld := some (true, 3), zero := some (.agg (.cons (.val (.bool false)) (.cons (.sl true (.slice none 0 0) 2 .nil) (.cons (.sl true (.slice none 0 0) 5 .nil) .nil)))), st := some [(0, 1), (1, 1), (2, 1)] } := rfl
theorem tab_32 : tab 32 = { ld := some (true, 3), zero := some (.agg (.cons (.val (.bool false)) (.cons (.sl true (.slice none 0 0) 2 .nil) (.cons (.sl true (.slice none 0 0) 5 .nil) .nil)))), st := some [(0, 1), (1, 1), (2, 1)] } := rfl
theorem tab_33 : tab 33 = { ld := some (false, 1), zero := some (.val (.nilFunc)) } := rfl
theorem tab_34 : tab 34 = { ld := some (false, 1), zero := some (.val (.nilFunc)) } := rfl
theorem tab_35 : tab 35 = { ld := some (false, 1), zero := some (.val (.int .i64 0)), int := some .i64 } := rfl
theorem tab_37 : tab 37 = { ld := some (false, 1), zero := some (.val (.nilFunc)) } := rfl
theorem tab_38 : tab 38 = { sl := some (92, 5, 80, (.agg #[.int .i64 0, .int .i64 0, .string ⟨#[]⟩, .slice none 0 0, .slice none 0 0])), ld := some (false, 1), zero := some (.sl true (.slice none 0 0) 5 .nil) } := rfl
theorem tab_40 : tab 40 = { ld := some (false, 1), zero := some (.val (.nilFunc)) } := rfl
theorem tab_41 : tab 41 = { ld := some (false, 1), zero := some (.val (.nilFunc)) } := rfl
theorem tab_42 : tab 42 = { ld := some (false, 1), zero := some (.val (.nilFunc)) } := rfl
theorem tab_43 : tab 43 = { ld := some (false, 1), zero := some (.val (.nilFunc)) } := rfl
theorem tab_44 : tab 44 = { ld := some (false, 1), zero := some (.val (.nilFunc)) } := rfl
theorem tab_45 : tab 45 = { sl := some (3, 1, 8, (.int .i64 0)), ld := some (false, 1), zero := some (.sl true (.slice none 0 0) 1 .nil) } := rfl
theorem tab_46 : tab 46 = { sl := some (38, 1, 24, (.slice none 0 0)), ld := some (false, 1), zero := some (.sl true (.slice none 0 0) 1 .nil) } := rfl
theorem tab_47 : tab 47 = { ld := some (true, 2), zero := some (.agg (.cons (.val (.bool false)) (.cons (.sl true (.slice none 0 0) 1 .nil) .nil))), st := some [(0, 1), (1, 1)] } := rfl
theorem tab_48 : tab 48 = { ld := some (true, 2), zero := some (.agg (.cons (.val (.bool false)) (.cons (.sl true (.slice none 0 0) 1 .nil) .nil))), st := some [(0, 1), (1, 1)] } := rfl
theorem tab_49 : tab 49 = { ld := some (false, 1), zero := some (.val (.nilFunc)) } := rfl
theorem tab_50 : tab 50 = { ld := some (false, 1), zero := some (.val (.nilFunc)) } := rfl
theorem tab_51 : tab 51 = { ld := some (true, 6), zero := some (.agg (.cons (.val (.int .i64 0)) (.cons (.val (.int .i64 0)) (.cons (.val (.int .i64 0)) (.cons (.val (.int .i64 0)) (.cons (.val (.int .i64 0)) (.cons (.sl true (.slice none 0 0) 1 .nil) .nil))))))), st := some [(0, 1), (1, 1), (2, 1), (3, 1), (4, 1), (5, 1)] } := rfl
theorem tab_52 : tab 52 = { ld := some (true, 6), zero := some (.agg (.cons (.val (.int .i64 0)) (.cons (.val (.int .i64 0)) (.cons (.val (.int .i64 0)) (.cons (.val (.int .i64 0)) (.cons (.val (.int .i64 0)) (.cons (.sl true (.slice none 0 0) 1 .nil) .nil))))))), st := some [(0, 1), (1, 1), (2, 1), (3, 1), (4, 1), (5, 1)] } := rfl
theorem tab_53 : tab 53 = { ld := some (false, 1), zero := some (.val (.nilFunc)) } := rfl
theorem tab_54 : tab 54 = { ld := some (false, 1), zero := some (.val (.nilFunc)) } := rfl
theorem tab_55 : tab 55 = { sl := some (64, 5, 40, (.agg #[.int .i64 0, .int .i64 0, .int .i64 0, .int .i64 0, .int .i64 0])), ld := some (false, 1), zero := some (.sl true (.slice none 0 0) 5 .nil) } := rfl
theorem tab_56 : tab 56 = { ld := some (false, 1), zero := some (.val (.int .u64 0)), int := some .u64 } := rfl
theorem tab_58 : tab 58 = { ld := some (false, 1), zero := some (.val (.nilFunc)) } := rfl
theorem tab_60 : tab 60 = { ld := some (false, 1), zero := some (.val (.nilFunc)) } := rfl
theorem tab_62 : tab 62 = { ld := some (false, 1), zero := some (.val (.nilFunc)) } := rfl
theorem tab_63 : tab 63 = { ld := some (true, 5), zero := some (.agg (.cons (.val (.int .i64 0)) (.cons (.val (.int .i64 0)) (.cons (.val (.int .i64 0)) (.cons (.val (.int .i64 0)) (.cons (.val (.int .i64 0)) .nil)))))), st := some [(0, 1), (1, 1), (2, 1), (3, 1), (4, 1)] } := rfl
theorem tab_64 : tab 64 = { ld := some (true, 5), zero := some (.agg (.cons (.val (.int .i64 0)) (.cons (.val (.int .i64 0)) (.cons (.val (.int .i64 0)) (.cons (.val (.int .i64 0)) (.cons (.val (.int .i64 0)) .nil)))))), st := some [(0, 1), (1, 1), (2, 1), (3, 1), (4, 1)] } := rfl
theorem tab_65 : tab 65 = { ld := some (false, 1), zero := some (.val (.nilFunc)) } := rfl
theorem tab_66 : tab 66 = { ld := some (true, 5), zero := some (.agg (.cons (.val (.int .i64 0)) (.cons (.val (.int .i64 0)) (.cons (.val (.int .i64 0)) (.cons (.val (.int .i64 0)) (.cons (.val (.int .i64 0)) .nil)))))), st := some [(0, 1), (1, 1), (2, 1), (3, 1), (4, 1)] } := rfl
theorem tab_67 : tab 67 = { ld := some (false, 1), zero := some (.val (.nilFunc)) } := rfl
theorem tab_68 : tab 68 = { ld := some (false, 1), zero := some (.val (.nilFunc)) } := rfl
theorem tab_69 : tab 69 = { ld := some (false, 1), zero := some (.val (.nilFunc)) } := rfl
theorem tab_70 : tab 70 = { ld := some (false, 1), zero := some (.val (.nilFunc)) } := rfl
theorem tab_71 : tab 71 = { ld := some (false, 1), zero := some (.val (.nilFunc)) } := rfl
theorem tab_72 : tab 72 = { sl := some (107, 2, 32, (.agg #[.slice none 0 0, .bool false])), ld := some (false, 1), zero := some (.sl true (.slice none 0 0) 2 .nil) } := rfl
theorem tab_73 : tab 73 = { sl := some (87, 5, 56, (.agg #[.int .i64 0, .bool false, .int .i64 0, .slice none 0 0, .bool false])), ld := some (false, 1), zero := some (.sl true (.slice none 0 0) 5 .nil) } := rfl
theorem tab_74 : tab 74 = { ld := some (true, 2), zero := some (.agg (.cons (.sl true (.slice none 0 0) 2 .nil) (.cons (.sl true (.slice none 0 0) 5 .nil) .nil))), st := some [(0, 1), (1, 1)] } := rfl
theorem tab_75 : tab 75 = { ld := some (true, 2), zero := some (.agg (.cons (.sl true (.slice none 0 0) 2 .nil) (.cons (.sl true (.slice none 0 0) 5 .nil) .nil))), st := some [(0, 1), (1, 1)] } := rfl
theorem tab_76 : tab 76 = { ld := some (false, 1), zero := some (.val (.nilFunc)) } := rfl
theorem tab_77 : tab 77 = { ld := some (false, 1), zero := some (.val (.nilFunc)) } := rfl
theorem tab_79 : tab 79 = { ld := some (false, 1), zero := some (.val (.nilFunc)) } := rfl
theorem tab_80 : tab 80 = { ld := some (false, 1), zero := some (.val (.nilFunc)) } := rfl
theorem tab_81 : tab 81 = { ld := some (false, 1), zero := some (.val (.nilFunc)) } := rfl
theorem tab_82 : tab 82 = { ld := some (false, 1), zero := some (.val (.nilFunc)) } := rfl
theorem tab_83 : tab 83 = { sl := some (35, 1, 8, (.int .i64 0)), ld := some (false, 1), zero := some (.sl true (.slice none 0 0) 1 .nil) } := rfl
theorem tab_84 : tab 84 = { ld := some (false, 1), zero := some (.val (.nilFunc)) } := rfl
theorem tab_85 : tab 85 = { ld := some (false, 1), zero := some (.val (.nilFunc)) } := rfl
theorem tab_86 : tab 86 = { ld := some (true, 5), zero := some (.agg (.cons (.val (.int .i64 0)) (.cons (.val (.bool false)) (.cons (.val (.int .i64 0)) (.cons (.sl true (.slice none 0 0) 1 .nil) (.cons (.val (.bool false)) .nil)))))), st := some [(0, 1), (1, 1), (2, 1), (3, 1), (4, 1)] } := rfl
theorem tab_87 : tab 87 = { ld := some (true, 5), zero := some (.agg (.cons (.val (.int .i64 0)) (.cons (.val (.bool false)) (.cons (.val (.int .i64 0)) (.cons (.sl true (.slice none 0 0) 1 .nil) (.cons (.val (.bool false)) .nil)))))), st := some [(0, 1), (1, 1), (2, 1), (3, 1), (4, 1)] } := rfl
theorem tab_88 : tab 88 = { ld := some (false, 1), zero := some (.val (.nilFunc)) } := rfl
theorem tab_89 : tab 89 = { ld := some (false, 1), zero := some (.val (.nilFunc)) } := rfl
theorem tab_90 : tab 90 = { sl := some (9, 1, 16, (.string ⟨#[]⟩)), ld := some (false, 1), zero := some (.sl true (.slice none 0 0) 1 .nil) } := rfl
theorem tab_91 : tab 91 = { ld := some (true, 5), zero := some (.agg (.cons (.val (.int .i64 0)) (.cons (.val (.int .i64 0)) (.cons (.val (.string ⟨#[]⟩)) (.cons (.sl true (.slice none 0 0) 1 .nil) (.cons (.sl true (.slice none 0 0) 1 .nil) .nil)))))), st := some [(0, 1), (1, 1), (2, 1), (3, 1), (4, 1)] } := rfl
theorem tab_92 : tab 92 = { ld := some (true, 5), zero := some (.agg (.cons (.val (.int .i64 0)) (.cons (.val (.int .i64 0)) (.cons (.val (.string ⟨#[]⟩)) (.cons (.sl true (.slice none 0 0) 1 .nil) (.cons (.sl true (.slice none 0 0) 1 .nil) .nil)))))), st := some [(0, 1), (1, 1), (2, 1), (3, 1), (4, 1)] } := rfl
theorem tab_93 : tab 93 = { ld := some (false, 1), zero := some (.val (.nilFunc)) } := rfl
theorem tab_94 : tab 94 = { ld := some (false, 1), zero := some (.val (.nilFunc)) } := rfl
theorem tab_95 : tab 95 = { ld := some (false, 1), zero := some (.val (.nilFunc)) } := rfl
theorem tab_96 : tab 96 = { ld := some (false, 1), zero := some (.val (.nilFunc)) } := rfl
theorem tab_97 : tab 97 = { ld := some (false, 1), zero := some (.val (.nilFunc)) } := rfl
theorem tab_98 : tab 98 = { ld := some (false, 1), zero := some (.val (.nilFunc)) } := rfl
theorem tab_99 : tab 99 = { ld := some (false, 1), zero := some (.val (.nilFunc)) } := rfl
theorem tab_100 : tab 100 = { ld := some (false, 1), zero := some (.val (.nilFunc)) } := rfl
theorem tab_101 : tab 101 = { sl := some (126, 3, 40, (.agg #[.bool false, .int .i64 0, .slice none 0 0])), ld := some (false, 1), zero := some (.sl true (.slice none 0 0) 3 .nil) } := rfl
theorem tab_103 : tab 103 = { ld := some (false, 1), zero := some (.val (.nilFunc)) } := rfl
theorem tab_104 : tab 104 = { ld := some (false, 1), zero := some (.val (.nilFunc)) } := rfl
theorem tab_105 : tab 105 = { ld := some (false, 1), zero := some (.val (.nilFunc)) } := rfl
theorem tab_106 : tab 106 = { ld := some (true, 2), zero := some (.agg (.cons (.sl true (.slice none 0 0) 1 .nil) (.cons (.val (.bool false)) .nil))), st := some [(0, 1), (1, 1)] } := rfl
theorem tab_107 : tab 107 = { ld := some (true, 2), zero := some (.agg (.cons (.sl true (.slice none 0 0) 1 .nil) (.cons (.val (.bool false)) .nil))), st := some [(0, 1), (1, 1)] } := rfl
theorem tab_108 : tab 108 = { ld := some (false, 1), zero := some (.val (.nilFunc)) } := rfl
theorem tab_109 : tab 109 = { ld := some (true, 5), zero := some (.agg (.cons (.val (.bool false)) (.cons (.val (.bool false)) (.cons (.val (.int .i64 0)) (.cons (.val (.int .i64 0)) (.cons (.sl true (.slice none 0 0) 1 .nil) .nil)))))), st := some [(0, 1), (1, 1), (2, 1), (3, 1), (4, 1)] } := rfl
theorem tab_110 : tab 110 = { ld := some (true, 5), zero := some (.agg (.cons (.val (.bool false)) (.cons (.val (.bool false)) (.cons (.val (.int .i64 0)) (.cons (.val (.int .i64 0)) (.cons (.sl true (.slice none 0 0) 1 .nil) .nil)))))), st := some [(0, 1), (1, 1), (2, 1), (3, 1), (4, 1)] } := rfl
theorem tab_111 : tab 111 = { ld := some (false, 1), zero := some (.val (.nilFunc)) } := rfl
theorem tab_112 : tab 112 = { ld := some (false, 1), zero := some (.val (.pointer none)), ptr := true } := rfl
theorem tab_113 : tab 113 = { ld := some (false, 1), zero := some (.val (.pointer none)), ptr := true } := rfl
theorem tab_114 : tab 114 = { ld := some (false, 1), zero := some (.val (.nilFunc)) } := rfl
theorem tab_115 : tab 115 = { ld := some (false, 1), zero := some (.val (.nilFunc)) } := rfl
theorem tab_116 : tab 116 = { sl := some (4, 1, 1, (.bool false)), ld := some (false, 1), zero := some (.sl true (.slice none 0 0) 1 .nil) } := rfl
theorem tab_117 : tab 117 = { ld := some (false, 1), zero := some (.val (.nilFunc)) } := rfl
theorem tab_118 : tab 118 = { ld := some (false, 1), zero := some (.val (.nilFunc)) } := rfl
set_option linter.defProp false
def tabd_1 := @tab_1
def tabd_2 := @tab_2
def tabd_3 := @tab_3
def tabd_4 := @tab_4
def tabd_5 := @tab_5
def tabd_6 := @tab_6
def tabd_7 := @tab_7
def tabd_8 := @tab_8
def tabd_9 := @tab_9
def tabd_10 := @tab_10
def tabd_11 := @tab_11
def tabd_12 := @tab_12
def tabd_13 := @tab_13
def tabd_14 := @tab_14
def tabd_15 := @tab_15
def tabd_16 := @tab_16
def tabd_17 := @tab_17
def tabd_18 := @tab_18
def tabd_19 := @tab_19
def tabd_21 := @tab_21
def tabd_22 := @tab_22
def tabd_23 := @tab_23
def tabd_24 := @tab_24
def tabd_25 := @tab_25
def tabd_26 := @tab_26
def tabd_28 := @tab_28
def tabd_29 := @tab_29
def tabd_30 := @tab_30
def tabd_31 := @tab_31
def tabd_32 := @tab_32
def tabd_33 := @tab_33
def tabd_34 := @tab_34
def tabd_35 := @tab_35
def tabd_37 := @tab_37
def tabd_38 := @tab_38
def tabd_40 := @tab_40
def tabd_41 := @tab_41
def tabd_42 := @tab_42
def tabd_43 := @tab_43
def tabd_44 := @tab_44
def tabd_45 := @tab_45
def tabd_46 := @tab_46
def tabd_47 := @tab_47
def tabd_48 := @tab_48
def tabd_49 := @tab_49
def tabd_50 := @tab_50
def tabd_51 := @tab_51
def tabd_52 := @tab_52
def tabd_53 := @tab_53
def tabd_54 := @tab_54
def tabd_55 := @tab_55
def tabd_56 := @tab_56
def tabd_58 := @tab_58
def tabd_60 := @tab_60
def tabd_62 := @tab_62
def tabd_63 := @tab_63
def tabd_64 := @tab_64
def tabd_65 := @tab_65
def tabd_66 := @tab_66
def tabd_67 := @tab_67
def tabd_68 := @tab_68
def tabd_69 := @tab_69
def tabd_70 := @tab_70
def tabd_71 := @tab_71
def tabd_72 := @tab_72
def tabd_73 := @tab_73
def tabd_74 := @tab_74
def tabd_75 := @tab_75
def tabd_76 := @tab_76
def tabd_77 := @tab_77
def tabd_79 := @tab_79
def tabd_80 := @tab_80
def tabd_81 := @tab_81
def tabd_82 := @tab_82
def tabd_83 := @tab_83
def tabd_84 := @tab_84
def tabd_85 := @tab_85
def tabd_86 := @tab_86
def tabd_87 := @tab_87
def tabd_88 := @tab_88
def tabd_89 := @tab_89
def tabd_90 := @tab_90
def tabd_91 := @tab_91
def tabd_92 := @tab_92
def tabd_93 := @tab_93
def tabd_94 := @tab_94
def tabd_95 := @tab_95
def tabd_96 := @tab_96
def tabd_97 := @tab_97
def tabd_98 := @tab_98
def tabd_99 := @tab_99
def tabd_100 := @tab_100
def tabd_101 := @tab_101
def tabd_103 := @tab_103
def tabd_104 := @tab_104
def tabd_105 := @tab_105
def tabd_106 := @tab_106
def tabd_107 := @tab_107
def tabd_108 := @tab_108
def tabd_109 := @tab_109
def tabd_110 := @tab_110
def tabd_111 := @tab_111
def tabd_112 := @tab_112
def tabd_113 := @tab_113
def tabd_114 := @tab_114
def tabd_115 := @tab_115
def tabd_116 := @tab_116
def tabd_117 := @tab_117
def tabd_118 := @tab_118
attribute [simp] tabd_1 tabd_2 tabd_3 tabd_4 tabd_5 tabd_6 tabd_7 tabd_8 tabd_9 tabd_10 tabd_11 tabd_12 tabd_13 tabd_14 tabd_15 tabd_16 tabd_17 tabd_18 tabd_19 tabd_21 tabd_22 tabd_23 tabd_24 tabd_25 tabd_26 tabd_28 tabd_29 tabd_30 tabd_31 tabd_32 tabd_33 tabd_34 tabd_35 tabd_37 tabd_38 tabd_40 tabd_41 tabd_42 tabd_43 tabd_44 tabd_45 tabd_46 tabd_47 tabd_48 tabd_49 tabd_50 tabd_51 tabd_52 tabd_53 tabd_54 tabd_55 tabd_56 tabd_58 tabd_60 tabd_62 tabd_63 tabd_64 tabd_65 tabd_66 tabd_67 tabd_68 tabd_69 tabd_70 tabd_71 tabd_72 tabd_73 tabd_74 tabd_75 tabd_76 tabd_77 tabd_79 tabd_80 tabd_81 tabd_82 tabd_83 tabd_84 tabd_85 tabd_86 tabd_87 tabd_88 tabd_89 tabd_90 tabd_91 tabd_92 tabd_93 tabd_94 tabd_95 tabd_96 tabd_97 tabd_98 tabd_99 tabd_100 tabd_101 tabd_103 tabd_104 tabd_105 tabd_106 tabd_107 tabd_108 tabd_109 tabd_110 tabd_111 tabd_112 tabd_113 tabd_114 tabd_115 tabd_116 tabd_117 tabd_118

theorem tabOk_1 : (tab 1).Ok Try.prog 1 where
  sl := by intro e z b v h; cases h
  ld := by intro b n h; cases h; exact ⟨by kernel_rfl, by kernel_rfl, Try.t1, by kernel_rfl, by kernel_rfl⟩
  zero := by intro g h; cases h; exact ⟨by kernel_rfl, Try.t1, (.nilFunc), by kernel_rfl, by kernel_rfl, by kernel_rfl⟩
  zone := by intro g h; cases h; exact ⟨Try.t1, (.nilFunc), by kernel_rfl, by kernel_rfl, by kernel_rfl⟩
  st := by intro l h; cases h
  ar := by intro n z h; cases h
  int := by intro k h; cases h
  ptr := by intro h; cases h
  str := by intro h; cases h
  bool := by intro h; cases h
  mp := by intro e k h; cases h
theorem tabOk_2 : (tab 2).Ok Try.prog 2 where
  sl := by intro e z b v h; cases h
  ld := by intro b n h; cases h; exact ⟨by kernel_rfl, by kernel_rfl, Try.t2, by kernel_rfl, by kernel_rfl⟩
  zero := by intro g h; cases h; exact ⟨by kernel_rfl, Try.t2, (.int .i64 0), by kernel_rfl, by kernel_rfl, by kernel_rfl⟩
  zone := by intro g h; cases h; exact ⟨Try.t2, (.int .i64 0), by kernel_rfl, by kernel_rfl, by kernel_rfl⟩
  st := by intro l h; cases h
  ar := by intro n z h; cases h
  int := by intro k h; cases h; kernel_rfl
  ptr := by intro h; cases h
  str := by intro h; cases h
  bool := by intro h; cases h
  mp := by intro e k h; cases h
theorem tabOk_3 : (tab 3).Ok Try.prog 3 where
  sl := by intro e z b v h; cases h
  ld := by intro b n h; cases h; exact ⟨by kernel_rfl, by kernel_rfl, Try.t3, by kernel_rfl, by kernel_rfl⟩
  zero := by intro g h; cases h; exact ⟨by kernel_rfl, Try.t3, (.int .i64 0), by kernel_rfl, by kernel_rfl, by kernel_rfl⟩
  zone := by intro g h; cases h; exact ⟨Try.t3, (.int .i64 0), by kernel_rfl, by kernel_rfl, by kernel_rfl⟩
  st := by intro l h; cases h
  ar := by intro n z h; cases h
  int := by intro k h; cases h; kernel_rfl
  ptr := by intro h; cases h
  str := by intro h; cases h
  bool := by intro h; cases h
  mp := by intro e k h; cases h
theorem tabOk_4 : (tab 4).Ok Try.prog 4 where
  sl := by intro e z b v h; cases h
  ld := by intro b n h; cases h; exact ⟨by kernel_rfl, by kernel_rfl, Try.t4, by kernel_rfl, by kernel_rfl⟩
  zero := by intro g h; cases h; exact ⟨by kernel_rfl, Try.t4, (.bool false), by kernel_rfl, by kernel_rfl, by kernel_rfl⟩
  zone := by intro g h; cases h; exact ⟨Try.t4, (.bool false), by kernel_rfl, by kernel_rfl, by kernel_rfl⟩
  st := by intro l h; cases h
  ar := by intro n z h; cases h
  int := by intro k h; cases h
  ptr := by intro h; cases h
  str := by intro h; cases h
  bool := by intro _; kernel_rfl
  mp := by intro e k h; cases h
theorem tabOk_5 : (tab 5).Ok Try.prog 5 where
  sl := by intro e z b v h; cases h
  ld := by intro b n h; cases h; exact ⟨by kernel_rfl, by kernel_rfl, Try.t5, by kernel_rfl, by kernel_rfl⟩
  zero := by intro g h; cases h; exact ⟨by kernel_rfl, Try.t5, (.int .u8 0), by kernel_rfl, by kernel_rfl, by kernel_rfl⟩
  zone := by intro g h; cases h; exact ⟨Try.t5, (.int .u8 0), by kernel_rfl, by kernel_rfl, by kernel_rfl⟩
  st := by intro l h; cases h
  ar := by intro n z h; cases h
  int := by intro k h; cases h; kernel_rfl
  ptr := by intro h; cases h
  str := by intro h; cases h
  bool := by intro h; cases h
  mp := by intro e k h; cases h
theorem tabOk_6 : (tab 6).Ok Try.prog 6 where
  sl := by intro e z b v h; cases h
  ld := by intro b n h; cases h; exact ⟨by kernel_rfl, by kernel_rfl, Try.t6, by kernel_rfl, by kernel_rfl⟩
  zero := by intro g h; cases h; exact ⟨by kernel_rfl, Try.t6, (.int .u8 0), by kernel_rfl, by kernel_rfl, by kernel_rfl⟩
  zone := by intro g h; cases h; exact ⟨Try.t6, (.int .u8 0), by kernel_rfl, by kernel_rfl, by kernel_rfl⟩
  st := by intro l h; cases h
  ar := by intro n z h; cases h
  int := by intro k h; cases h; kernel_rfl
  ptr := by intro h; cases h
  str := by intro h; cases h
  bool := by intro h; cases h
  mp := by intro e k h; cases h
theorem tabOk_7 : (tab 7).Ok Try.prog 7 where
  sl := by intro e z b v h; cases h
  ld := by intro b n h; cases h; exact ⟨by kernel_rfl, by kernel_rfl, Try.t7, by kernel_rfl, by kernel_rfl⟩
  zero := by intro g h; cases h; exact ⟨by kernel_rfl, Try.t7, (.agg #[.int .i64 0, .int .i64 0, .bool false, .int .u8 0]), by kernel_rfl, by kernel_rfl, by kernel_rfl⟩
  zone := by intro g h; cases h; exact ⟨Try.t7, (.agg #[.int .i64 0, .int .i64 0, .bool false, .int .u8 0]), by kernel_rfl, by kernel_rfl, by kernel_rfl⟩
  st := by intro l h; cases h; exact ⟨_, Try.underlying7, by kernel_rfl, (by exact all_some (by kernel_rfl)), by kernel_rfl⟩
  ar := by intro n z h; cases h
  int := by intro k h; cases h
  ptr := by intro h; cases h
  str := by intro h; cases h
  bool := by intro h; cases h
  mp := by intro e k h; cases h
theorem tabOk_8 : (tab 8).Ok Try.prog 8 where
  sl := by intro e z b v h; cases h
  ld := by intro b n h; cases h; exact ⟨by kernel_rfl, by kernel_rfl, Try.t8, by kernel_rfl, by kernel_rfl⟩
  zero := by intro g h; cases h; exact ⟨by kernel_rfl, Try.t8, (.agg #[.int .i64 0, .int .i64 0, .bool false, .int .u8 0]), by kernel_rfl, by kernel_rfl, by kernel_rfl⟩
  zone := by intro g h; cases h; exact ⟨Try.t8, (.agg #[.int .i64 0, .int .i64 0, .bool false, .int .u8 0]), by kernel_rfl, by kernel_rfl, by kernel_rfl⟩
  st := by intro l h; cases h; exact ⟨_, Try.underlying8, by kernel_rfl, (by exact all_some (by kernel_rfl)), by kernel_rfl⟩
  ar := by intro n z h; cases h
  int := by intro k h; cases h
  ptr := by intro h; cases h
  str := by intro h; cases h
  bool := by intro h; cases h
  mp := by intro e k h; cases h
theorem tabOk_9 : (tab 9).Ok Try.prog 9 where
  sl := by intro e z b v h; cases h
  ld := by intro b n h; cases h; exact ⟨by kernel_rfl, by kernel_rfl, Try.t9, by kernel_rfl, by kernel_rfl⟩
  zero := by intro g h; cases h; exact ⟨by kernel_rfl, Try.t9, (.string ⟨#[]⟩), by kernel_rfl, by kernel_rfl, by kernel_rfl⟩
  zone := by intro g h; cases h; exact ⟨Try.t9, (.string ⟨#[]⟩), by kernel_rfl, by kernel_rfl, by kernel_rfl⟩
  st := by intro l h; cases h
  ar := by intro n z h; cases h
  int := by intro k h; cases h
  ptr := by intro h; cases h
  str := by intro _; kernel_rfl
  bool := by intro h; cases h
  mp := by intro e k h; cases h
theorem tabOk_10 : (tab 10).Ok Try.prog 10 where
  sl := by intro e z b v h; cases h
  ld := by intro b n h; cases h; exact ⟨by kernel_rfl, by kernel_rfl, Try.t10, by kernel_rfl, by kernel_rfl⟩
  zero := by intro g h; cases h; exact ⟨by kernel_rfl, Try.t10, (.string ⟨#[]⟩), by kernel_rfl, by kernel_rfl, by kernel_rfl⟩
  zone := by intro g h; cases h; exact ⟨Try.t10, (.string ⟨#[]⟩), by kernel_rfl, by kernel_rfl, by kernel_rfl⟩
  st := by intro l h; cases h
  ar := by intro n z h; cases h
  int := by intro k h; cases h
  ptr := by intro h; cases h
  str := by intro _; kernel_rfl
  bool := by intro h; cases h
  mp := by intro e k h; cases h
theorem tabOk_11 : (tab 11).Ok Try.prog 11 where
  sl := by intro e z b v h; cases h
  ld := by intro b n h; cases h; exact ⟨by kernel_rfl, by kernel_rfl, Try.t11, by kernel_rfl, by kernel_rfl⟩
  zero := by intro g h; cases h; exact ⟨by kernel_rfl, Try.t11, (.string ⟨#[]⟩), by kernel_rfl, by kernel_rfl, by kernel_rfl⟩
  zone := by intro g h; cases h; exact ⟨Try.t11, (.string ⟨#[]⟩), by kernel_rfl, by kernel_rfl, by kernel_rfl⟩
  st := by intro l h; cases h
  ar := by intro n z h; cases h
  int := by intro k h; cases h
  ptr := by intro h; cases h
  str := by intro _; kernel_rfl
  bool := by intro h; cases h
  mp := by intro e k h; cases h
theorem tabOk_12 : (tab 12).Ok Try.prog 12 where
  sl := by intro e z b v h; cases h
  ld := by intro b n h; cases h; exact ⟨by kernel_rfl, by kernel_rfl, Try.t12, by kernel_rfl, by kernel_rfl⟩
  zero := by intro g h; cases h; exact ⟨by kernel_rfl, Try.t12, (.int .u64 0), by kernel_rfl, by kernel_rfl, by kernel_rfl⟩
  zone := by intro g h; cases h; exact ⟨Try.t12, (.int .u64 0), by kernel_rfl, by kernel_rfl, by kernel_rfl⟩
  st := by intro l h; cases h
  ar := by intro n z h; cases h
  int := by intro k h; cases h; kernel_rfl
  ptr := by intro h; cases h
  str := by intro h; cases h
  bool := by intro h; cases h
  mp := by intro e k h; cases h
theorem tabOk_13 : (tab 13).Ok Try.prog 13 where
  sl := by intro e z b v h; cases h
  ld := by intro b n h; cases h; exact ⟨by kernel_rfl, by kernel_rfl, Try.t13, by kernel_rfl, by kernel_rfl⟩
  zero := by intro g h; cases h; exact ⟨by kernel_rfl, Try.t13, (.agg #[.string ⟨#[]⟩, .int .u64 0]), by kernel_rfl, by kernel_rfl, by kernel_rfl⟩
  zone := by intro g h; cases h; exact ⟨Try.t13, (.agg #[.string ⟨#[]⟩, .int .u64 0]), by kernel_rfl, by kernel_rfl, by kernel_rfl⟩
  st := by intro l h; cases h; exact ⟨_, Try.underlying13, by kernel_rfl, (by exact all_some (by kernel_rfl)), by kernel_rfl⟩
  ar := by intro n z h; cases h
  int := by intro k h; cases h
  ptr := by intro h; cases h
  str := by intro h; cases h
  bool := by intro h; cases h
  mp := by intro e k h; cases h
theorem tabOk_14 : (tab 14).Ok Try.prog 14 where
  sl := by intro e z b v h; cases h
  ld := by intro b n h; cases h; exact ⟨by kernel_rfl, by kernel_rfl, Try.t14, by kernel_rfl, by kernel_rfl⟩
  zero := by intro g h; cases h; exact ⟨by kernel_rfl, Try.t14, (.agg #[.string ⟨#[]⟩, .int .u64 0]), by kernel_rfl, by kernel_rfl, by kernel_rfl⟩
  zone := by intro g h; cases h; exact ⟨Try.t14, (.agg #[.string ⟨#[]⟩, .int .u64 0]), by kernel_rfl, by kernel_rfl, by kernel_rfl⟩
  st := by intro l h; cases h; exact ⟨_, Try.underlying14, by kernel_rfl, (by exact all_some (by kernel_rfl)), by kernel_rfl⟩
  ar := by intro n z h; cases h
  int := by intro k h; cases h
  ptr := by intro h; cases h
  str := by intro h; cases h
  bool := by intro h; cases h
  mp := by intro e k h; cases h
theorem tabOk_15 : (tab 15).Ok Try.prog 15 where
  sl := by intro e z b v h; cases h
  ld := by intro b n h; cases h; exact ⟨by kernel_rfl, by kernel_rfl, Try.t15, by kernel_rfl, by kernel_rfl⟩
  zero := by intro g h; cases h; exact ⟨by kernel_rfl, Try.t15, (.pointer none), by kernel_rfl, by kernel_rfl, by kernel_rfl⟩
  zone := by intro g h; cases h; exact ⟨Try.t15, (.pointer none), by kernel_rfl, by kernel_rfl, by kernel_rfl⟩
  st := by intro l h; cases h
  ar := by intro n z h; cases h
  int := by intro k h; cases h
  ptr := by intro _; exact ⟨130, by kernel_rfl⟩
  str := by intro h; cases h
  bool := by intro h; cases h
  mp := by intro e k h; cases h
theorem tabOk_16 : (tab 16).Ok Try.prog 16 where
  sl := by intro e z b v h; cases h
  ld := by intro b n h; cases h; exact ⟨by kernel_rfl, by kernel_rfl, Try.t16, by kernel_rfl, by kernel_rfl⟩
  zero := by intro g h; cases h; exact ⟨by kernel_rfl, Try.t16, (.pointer none), by kernel_rfl, by kernel_rfl, by kernel_rfl⟩
  zone := by intro g h; cases h; exact ⟨Try.t16, (.pointer none), by kernel_rfl, by kernel_rfl, by kernel_rfl⟩
  st := by intro l h; cases h
  ar := by intro n z h; cases h
  int := by intro k h; cases h
  ptr := by intro _; exact ⟨133, by kernel_rfl⟩
  str := by intro h; cases h
  bool := by intro h; cases h
  mp := by intro e k h; cases h
theorem tabOk_17 : (tab 17).Ok Try.prog 17 where
  sl := by intro e z b v h; cases h
  ld := by intro b n h; cases h; exact ⟨by kernel_rfl, by kernel_rfl, Try.t17, by kernel_rfl, by kernel_rfl⟩
  zero := by intro g h; cases h; exact ⟨by kernel_rfl, Try.t17, (.pointer none), by kernel_rfl, by kernel_rfl, by kernel_rfl⟩
  zone := by intro g h; cases h; exact ⟨Try.t17, (.pointer none), by kernel_rfl, by kernel_rfl, by kernel_rfl⟩
  st := by intro l h; cases h
  ar := by intro n z h; cases h
  int := by intro k h; cases h
  ptr := by intro _; exact ⟨142, by kernel_rfl⟩
  str := by intro h; cases h
  bool := by intro h; cases h
  mp := by intro e k h; cases h
theorem tabOk_18 : (tab 18).Ok Try.prog 18 where
  sl := by intro e z b v h; cases h
  ld := by intro b n h; cases h; exact ⟨by kernel_rfl, by kernel_rfl, Try.t18, by kernel_rfl, by kernel_rfl⟩
  zero := by intro g h; cases h; exact ⟨by kernel_rfl, Try.t18, (.agg #[.pointer none]), by kernel_rfl, by kernel_rfl, by kernel_rfl⟩
  zone := by intro g h; cases h; exact ⟨Try.t18, (.agg #[.pointer none]), by kernel_rfl, by kernel_rfl, by kernel_rfl⟩
  st := by intro l h; cases h; exact ⟨_, Try.underlying18, by kernel_rfl, (by exact all_some (by kernel_rfl)), by kernel_rfl⟩
  ar := by intro n z h; cases h
  int := by intro k h; cases h
  ptr := by intro h; cases h
  str := by intro h; cases h
  bool := by intro h; cases h
  mp := by intro e k h; cases h
theorem tabOk_19 : (tab 19).Ok Try.prog 19 where
  sl := by intro e z b v h; cases h
  ld := by intro b n h; cases h; exact ⟨by kernel_rfl, by kernel_rfl, Try.t19, by kernel_rfl, by kernel_rfl⟩
  zero := by intro g h; cases h; exact ⟨by kernel_rfl, Try.t19, (.agg #[.pointer none]), by kernel_rfl, by kernel_rfl, by kernel_rfl⟩
  zone := by intro g h; cases h; exact ⟨Try.t19, (.agg #[.pointer none]), by kernel_rfl, by kernel_rfl, by kernel_rfl⟩
  st := by intro l h; cases h; exact ⟨_, Try.underlying19, by kernel_rfl, (by exact all_some (by kernel_rfl)), by kernel_rfl⟩
  ar := by intro n z h; cases h
  int := by intro k h; cases h
  ptr := by intro h; cases h
  str := by intro h; cases h
  bool := by intro h; cases h
  mp := by intro e k h; cases h
theorem tabOk_21 : (tab 21).Ok Try.prog 21 where
  sl := by intro e z b v h; cases h
  ld := by intro b n h; cases h; exact ⟨by kernel_rfl, by kernel_rfl, Try.t21, by kernel_rfl, by kernel_rfl⟩
  zero := by intro g h; cases h; exact ⟨by kernel_rfl, Try.t21, (.int .i32 0), by kernel_rfl, by kernel_rfl, by kernel_rfl⟩
  zone := by intro g h; cases h; exact ⟨Try.t21, (.int .i32 0), by kernel_rfl, by kernel_rfl, by kernel_rfl⟩
  st := by intro l h; cases h
  ar := by intro n z h; cases h
  int := by intro k h; cases h; kernel_rfl
  ptr := by intro h; cases h
  str := by intro h; cases h
  bool := by intro h; cases h
  mp := by intro e k h; cases h
theorem tabOk_22 : (tab 22).Ok Try.prog 22 where
  sl := by intro e z b v h; cases h; exact ⟨by kernel_rfl, Try.t52, by kernel_rfl, by kernel_rfl, by kernel_rfl, by kernel_rfl, by kernel_rfl⟩
  ld := by intro b n h; cases h; exact ⟨by kernel_rfl, by kernel_rfl, Try.t22, by kernel_rfl, by kernel_rfl⟩
  zero := by intro g h; cases h; exact ⟨by kernel_rfl, Try.t22, (.slice none 0 0), by kernel_rfl, by kernel_rfl, by kernel_rfl⟩
  zone := by intro g h; cases h; exact ⟨Try.t22, (.slice none 0 0), by kernel_rfl, by kernel_rfl, by kernel_rfl⟩
  st := by intro l h; cases h
  ar := by intro n z h; cases h
  int := by intro k h; cases h
  ptr := by intro h; cases h
  str := by intro h; cases h
  bool := by intro h; cases h
  mp := by intro e k h; cases h
theorem tabOk_23 : (tab 23).Ok Try.prog 23 where
  sl := by intro e z b v h; cases h
  ld := by intro b n h; cases h; exact ⟨by kernel_rfl, by kernel_rfl, Try.t23, by kernel_rfl, by kernel_rfl⟩
  zero := by intro g h; cases h; exact ⟨by kernel_rfl, Try.t23, (.agg #[.int .i64 0, .int .i64 0, .int .i64 0]), by kernel_rfl, by kernel_rfl, by kernel_rfl⟩
  zone := by intro g h; cases h; exact ⟨Try.t23, (.agg #[.int .i64 0, .int .i64 0, .int .i64 0]), by kernel_rfl, by kernel_rfl, by kernel_rfl⟩
  st := by intro l h; cases h; exact ⟨_, Try.underlying23, by kernel_rfl, (by exact all_some (by kernel_rfl)), by kernel_rfl⟩
  ar := by intro n z h; cases h
  int := by intro k h; cases h
  ptr := by intro h; cases h
  str := by intro h; cases h
  bool := by intro h; cases h
  mp := by intro e k h; cases h
theorem tabOk_24 : (tab 24).Ok Try.prog 24 where
  sl := by intro e z b v h; cases h
  ld := by intro b n h; cases h; exact ⟨by kernel_rfl, by kernel_rfl, Try.t24, by kernel_rfl, by kernel_rfl⟩
  zero := by intro g h; cases h; exact ⟨by kernel_rfl, Try.t24, (.agg #[.int .i64 0, .int .i64 0, .int .i64 0]), by kernel_rfl, by kernel_rfl, by kernel_rfl⟩
  zone := by intro g h; cases h; exact ⟨Try.t24, (.agg #[.int .i64 0, .int .i64 0, .int .i64 0]), by kernel_rfl, by kernel_rfl, by kernel_rfl⟩
  st := by intro l h; cases h; exact ⟨_, Try.underlying24, by kernel_rfl, (by exact all_some (by kernel_rfl)), by kernel_rfl⟩
  ar := by intro n z h; cases h
  int := by intro k h; cases h
  ptr := by intro h; cases h
  str := by intro h; cases h
  bool := by intro h; cases h
  mp := by intro e k h; cases h
theorem tabOk_25 : (tab 25).Ok Try.prog 25 where
  sl := by intro e z b v h; cases h
  ld := by intro b n h; cases h; exact ⟨by kernel_rfl, by kernel_rfl, Try.t25, by kernel_rfl, by kernel_rfl⟩
  zero := by intro g h; cases h; exact ⟨by kernel_rfl, Try.t25, (.pointer none), by kernel_rfl, by kernel_rfl, by kernel_rfl⟩
  zone := by intro g h; cases h; exact ⟨Try.t25, (.pointer none), by kernel_rfl, by kernel_rfl, by kernel_rfl⟩
  st := by intro l h; cases h
  ar := by intro n z h; cases h
  int := by intro k h; cases h
  ptr := by intro _; exact ⟨75, by kernel_rfl⟩
  str := by intro h; cases h
  bool := by intro h; cases h
  mp := by intro e k h; cases h
theorem tabOk_26 : (tab 26).Ok Try.prog 26 where
  sl := by intro e z b v h; cases h
  ld := by intro b n h; cases h; exact ⟨by kernel_rfl, by kernel_rfl, Try.t26, by kernel_rfl, by kernel_rfl⟩
  zero := by intro g h; cases h; exact ⟨by kernel_rfl, Try.t26, (.pointer none), by kernel_rfl, by kernel_rfl, by kernel_rfl⟩
  zone := by intro g h; cases h; exact ⟨Try.t26, (.pointer none), by kernel_rfl, by kernel_rfl, by kernel_rfl⟩
  st := by intro l h; cases h
  ar := by intro n z h; cases h
  int := by intro k h; cases h
  ptr := by intro _; exact ⟨32, by kernel_rfl⟩
  str := by intro h; cases h
  bool := by intro h; cases h
  mp := by intro e k h; cases h
theorem tabOk_28 : (tab 28).Ok Try.prog 28 where
  sl := by intro e z b v h; cases h
  ld := by intro b n h; cases h; exact ⟨by kernel_rfl, by kernel_rfl, Try.t28, by kernel_rfl, by kernel_rfl⟩
  zero := by intro g h; cases h; exact ⟨by kernel_rfl, Try.t28, (.nilFunc), by kernel_rfl, by kernel_rfl, by kernel_rfl⟩
  zone := by intro g h; cases h; exact ⟨Try.t28, (.nilFunc), by kernel_rfl, by kernel_rfl, by kernel_rfl⟩
  st := by intro l h; cases h
  ar := by intro n z h; cases h
  int := by intro k h; cases h
  ptr := by intro h; cases h
  str := by intro h; cases h
  bool := by intro h; cases h
  mp := by intro e k h; cases h
theorem tabOk_29 : (tab 29).Ok Try.prog 29 where
  sl := by intro e z b v h; cases h; exact ⟨by kernel_rfl, Try.t48, by kernel_rfl, by kernel_rfl, by kernel_rfl, by kernel_rfl, by kernel_rfl⟩
  ld := by intro b n h; cases h; exact ⟨by kernel_rfl, by kernel_rfl, Try.t29, by kernel_rfl, by kernel_rfl⟩
  zero := by intro g h; cases h; exact ⟨by kernel_rfl, Try.t29, (.slice none 0 0), by kernel_rfl, by kernel_rfl, by kernel_rfl⟩
  zone := by intro g h; cases h; exact ⟨Try.t29, (.slice none 0 0), by kernel_rfl, by kernel_rfl, by kernel_rfl⟩
  st := by intro l h; cases h
  ar := by intro n z h; cases h
  int := by intro k h; cases h
  ptr := by intro h; cases h
  str := by intro h; cases h
  bool := by intro h; cases h
  mp := by intro e k h; cases h
theorem tabOk_30 : (tab 30).Ok Try.prog 30 where
  sl := by intro e z b v h; cases h; exact ⟨by kernel_rfl, Try.t110, by kernel_rfl, by kernel_rfl, by kernel_rfl, by kernel_rfl, by kernel_rfl⟩
  ld := by intro b n h; cases h; exact ⟨by kernel_rfl, by kernel_rfl, Try.t30, by kernel_rfl, by kernel_rfl⟩
  zero := by intro g h; cases h; exact ⟨by kernel_rfl, Try.t30, (.slice none 0 0), by kernel_rfl, by kernel_rfl, by kernel_rfl⟩
  zone := by intro g h; cases h; exact ⟨Try.t30, (.slice none 0 0), by kernel_rfl, by kernel_rfl, by kernel_rfl⟩
  st := by intro l h; cases h
  ar := by intro n z h; cases h
  int := by intro k h; cases h
  ptr := by intro h; cases h
  str := by intro h; cases h
  bool := by intro h; cases h
  mp := by intro e k h; cases h
theorem tabOk_31 : (tab 31).Ok Try.prog 31 where
  sl := by intro e z b v h; cases h
  ld := by intro b n h; cases h; exact ⟨by kernel_rfl, by kernel_rfl, Try.t31, by kernel_rfl, by kernel_rfl⟩
  zero := by intro g h; cases h; exact ⟨by kernel_rfl, Try.t31, (.agg #[.bool false, .slice none 0 0, .slice none 0 0]), by kernel_rfl, by kernel_rfl, by kernel_rfl⟩
  zone := by intro g h; cases h; exact ⟨Try.t31, (.agg #[.bool false, .slice none 0 0, .slice none 0 0]), by kernel_rfl, by kernel_rfl, by kernel_rfl⟩
  st := by intro l h; cases h; exact ⟨_, Try.underlying31, by kernel_rfl, (by exact all_some (by kernel_rfl)), by kernel_rfl⟩
  ar := by intro n z h; cases h
  int := by intro k h; cases h
  ptr := by intro h; cases h
  str := by intro h; cases h
  bool := by intro h; cases h
  mp := by intro e k h; cases h
theorem tabOk_32 : (tab 32).Ok Try.prog 32 where
  sl := by intro e z b v h; cases h
  ld := by intro b n h; cases h; exact ⟨by kernel_rfl, by kernel_rfl, Try.t32, by kernel_rfl, by kernel_rfl⟩
  zero := by intro g h; cases h; exact ⟨by kernel_rfl, Try.t32, (.agg #[.bool false, .slice none 0 0, .slice none 0 0]), by kernel_rfl, by kernel_rfl, by kernel_rfl⟩
  zone := by intro g h; cases h; exact ⟨Try.t32, (.agg #[.bool false, .slice none 0 0, .slice none 0 0]), by kernel_rfl, by kernel_rfl, by kernel_rfl⟩
  st := by intro l h; cases h; exact ⟨_, Try.underlying32, by kernel_rfl, (by exact all_some (by kernel_rfl)), by kernel_rfl⟩
  ar := by intro n z h; cases h
  int := by intro k h; cases h
  ptr := by intro h; cases h
  str := by intro h; cases h
  bool := by intro h; cases h
  mp := by intro e k h; cases h
theorem tabOk_33 : (tab 33).Ok Try.prog 33 where
  sl := by intro e z b v h; cases h
  ld := by intro b n h; cases h; exact ⟨by kernel_rfl, by kernel_rfl, Try.t33, by kernel_rfl, by kernel_rfl⟩
  zero := by intro g h; cases h; exact ⟨by kernel_rfl, Try.t33, (.nilFunc), by kernel_rfl, by kernel_rfl, by kernel_rfl⟩
  zone := by intro g h; cases h; exact ⟨Try.t33, (.nilFunc), by kernel_rfl, by kernel_rfl, by kernel_rfl⟩
  st := by intro l h; cases h
  ar := by intro n z h; cases h
  int := by intro k h; cases h
  ptr := by intro h; cases h
  str := by intro h; cases h
  bool := by intro h; cases h
  mp := by intro e k h; cases h
theorem tabOk_34 : (tab 34).Ok Try.prog 34 where
  sl := by intro e z b v h; cases h
  ld := by intro b n h; cases h; exact ⟨by kernel_rfl, by kernel_rfl, Try.t34, by kernel_rfl, by kernel_rfl⟩
  zero := by intro g h; cases h; exact ⟨by kernel_rfl, Try.t34, (.nilFunc), by kernel_rfl, by kernel_rfl, by kernel_rfl⟩
  zone := by intro g h; cases h; exact ⟨Try.t34, (.nilFunc), by kernel_rfl, by kernel_rfl, by kernel_rfl⟩
  st := by intro l h; cases h
  ar := by intro n z h; cases h
  int := by intro k h; cases h
  ptr := by intro h; cases h
  str := by intro h; cases h
  bool := by intro h; cases h
  mp := by intro e k h; cases h
theorem tabOk_35 : (tab 35).Ok Try.prog 35 where
  sl := by intro e z b v h; cases h
  ld := by intro b n h; cases h; exact ⟨by kernel_rfl, by kernel_rfl, Try.t35, by kernel_rfl, by kernel_rfl⟩
  zero := by intro g h; cases h; exact ⟨by kernel_rfl, Try.t35, (.int .i64 0), by kernel_rfl, by kernel_rfl, by kernel_rfl⟩
  zone := by intro g h; cases h; exact ⟨Try.t35, (.int .i64 0), by kernel_rfl, by kernel_rfl, by kernel_rfl⟩
  st := by intro l h; cases h
  ar := by intro n z h; cases h
  int := by intro k h; cases h; kernel_rfl
  ptr := by intro h; cases h
  str := by intro h; cases h
  bool := by intro h; cases h
  mp := by intro e k h; cases h
theorem tabOk_37 : (tab 37).Ok Try.prog 37 where
  sl := by intro e z b v h; cases h
  ld := by intro b n h; cases h; exact ⟨by kernel_rfl, by kernel_rfl, Try.t37, by kernel_rfl, by kernel_rfl⟩
  zero := by intro g h; cases h; exact ⟨by kernel_rfl, Try.t37, (.nilFunc), by kernel_rfl, by kernel_rfl, by kernel_rfl⟩
  zone := by intro g h; cases h; exact ⟨Try.t37, (.nilFunc), by kernel_rfl, by kernel_rfl, by kernel_rfl⟩
  st := by intro l h; cases h
  ar := by intro n z h; cases h
  int := by intro k h; cases h
  ptr := by intro h; cases h
  str := by intro h; cases h
  bool := by intro h; cases h
  mp := by intro e k h; cases h
theorem tabOk_38 : (tab 38).Ok Try.prog 38 where
  sl := by intro e z b v h; cases h; exact ⟨by kernel_rfl, Try.t92, by kernel_rfl, by kernel_rfl, by kernel_rfl, by kernel_rfl, by kernel_rfl⟩
  ld := by intro b n h; cases h; exact ⟨by kernel_rfl, by kernel_rfl, Try.t38, by kernel_rfl, by kernel_rfl⟩
  zero := by intro g h; cases h; exact ⟨by kernel_rfl, Try.t38, (.slice none 0 0), by kernel_rfl, by kernel_rfl, by kernel_rfl⟩
  zone := by intro g h; cases h; exact ⟨Try.t38, (.slice none 0 0), by kernel_rfl, by kernel_rfl, by kernel_rfl⟩
  st := by intro l h; cases h
  ar := by intro n z h; cases h
  int := by intro k h; cases h
  ptr := by intro h; cases h
  str := by intro h; cases h
  bool := by intro h; cases h
  mp := by intro e k h; cases h
theorem tabOk_40 : (tab 40).Ok Try.prog 40 where
  sl := by intro e z b v h; cases h
  ld := by intro b n h; cases h; exact ⟨by kernel_rfl, by kernel_rfl, Try.t40, by kernel_rfl, by kernel_rfl⟩
  zero := by intro g h; cases h; exact ⟨by kernel_rfl, Try.t40, (.nilFunc), by kernel_rfl, by kernel_rfl, by kernel_rfl⟩
  zone := by intro g h; cases h; exact ⟨Try.t40, (.nilFunc), by kernel_rfl, by kernel_rfl, by kernel_rfl⟩
  st := by intro l h; cases h
  ar := by intro n z h; cases h
  int := by intro k h; cases h
  ptr := by intro h; cases h
  str := by intro h; cases h
  bool := by intro h; cases h
  mp := by intro e k h; cases h
theorem tabOk_41 : (tab 41).Ok Try.prog 41 where
  sl := by intro e z b v h; cases h
  ld := by intro b n h; cases h; exact ⟨by kernel_rfl, by kernel_rfl, Try.t41, by kernel_rfl, by kernel_rfl⟩
  zero := by intro g h; cases h; exact ⟨by kernel_rfl, Try.t41, (.nilFunc), by kernel_rfl, by kernel_rfl, by kernel_rfl⟩
  zone := by intro g h; cases h; exact ⟨Try.t41, (.nilFunc), by kernel_rfl, by kernel_rfl, by kernel_rfl⟩
  st := by intro l h; cases h
  ar := by intro n z h; cases h
  int := by intro k h; cases h
  ptr := by intro h; cases h
  str := by intro h; cases h
  bool := by intro h; cases h
  mp := by intro e k h; cases h
theorem tabOk_42 : (tab 42).Ok Try.prog 42 where
  sl := by intro e z b v h; cases h
  ld := by intro b n h; cases h; exact ⟨by kernel_rfl, by kernel_rfl, Try.t42, by kernel_rfl, by kernel_rfl⟩
  zero := by intro g h; cases h; exact ⟨by kernel_rfl, Try.t42, (.nilFunc), by kernel_rfl, by kernel_rfl, by kernel_rfl⟩
  zone := by intro g h; cases h; exact ⟨Try.t42, (.nilFunc), by kernel_rfl, by kernel_rfl, by kernel_rfl⟩
  st := by intro l h; cases h
  ar := by intro n z h; cases h
  int := by intro k h; cases h
  ptr := by intro h; cases h
  str := by intro h; cases h
  bool := by intro h; cases h
  mp := by intro e k h; cases h
theorem tabOk_43 : (tab 43).Ok Try.prog 43 where
  sl := by intro e z b v h; cases h
  ld := by intro b n h; cases h; exact ⟨by kernel_rfl, by kernel_rfl, Try.t43, by kernel_rfl, by kernel_rfl⟩
  zero := by intro g h; cases h; exact ⟨by kernel_rfl, Try.t43, (.nilFunc), by kernel_rfl, by kernel_rfl, by kernel_rfl⟩
  zone := by intro g h; cases h; exact ⟨Try.t43, (.nilFunc), by kernel_rfl, by kernel_rfl, by kernel_rfl⟩
  st := by intro l h; cases h
  ar := by intro n z h; cases h
  int := by intro k h; cases h
  ptr := by intro h; cases h
  str := by intro h; cases h
  bool := by intro h; cases h
  mp := by intro e k h; cases h
theorem tabOk_44 : (tab 44).Ok Try.prog 44 where
  sl := by intro e z b v h; cases h
  ld := by intro b n h; cases h; exact ⟨by kernel_rfl, by kernel_rfl, Try.t44, by kernel_rfl, by kernel_rfl⟩
  zero := by intro g h; cases h; exact ⟨by kernel_rfl, Try.t44, (.nilFunc), by kernel_rfl, by kernel_rfl, by kernel_rfl⟩
  zone := by intro g h; cases h; exact ⟨Try.t44, (.nilFunc), by kernel_rfl, by kernel_rfl, by kernel_rfl⟩
  st := by intro l h; cases h
  ar := by intro n z h; cases h
  int := by intro k h; cases h
  ptr := by intro h; cases h
  str := by intro h; cases h
  bool := by intro h; cases h
  mp := by intro e k h; cases h
theorem tabOk_45 : (tab 45).Ok Try.prog 45 where
  sl := by intro e z b v h; cases h; exact ⟨by kernel_rfl, Try.t3, by kernel_rfl, by kernel_rfl, by kernel_rfl, by kernel_rfl, by kernel_rfl⟩
  ld := by intro b n h; cases h; exact ⟨by kernel_rfl, by kernel_rfl, Try.t45, by kernel_rfl, by kernel_rfl⟩
  zero := by intro g h; cases h; exact ⟨by kernel_rfl, Try.t45, (.slice none 0 0), by kernel_rfl, by kernel_rfl, by kernel_rfl⟩
  zone := by intro g h; cases h; exact ⟨Try.t45, (.slice none 0 0), by kernel_rfl, by kernel_rfl, by kernel_rfl⟩
  st := by intro l h; cases h
  ar := by intro n z h; cases h
  int := by intro k h; cases h
  ptr := by intro h; cases h
  str := by intro h; cases h
  bool := by intro h; cases h
  mp := by intro e k h; cases h
theorem tabOk_46 : (tab 46).Ok Try.prog 46 where
  sl := by intro e z b v h; cases h; exact ⟨by kernel_rfl, Try.t38, by kernel_rfl, by kernel_rfl, by kernel_rfl, by kernel_rfl, by kernel_rfl⟩
  ld := by intro b n h; cases h; exact ⟨by kernel_rfl, by kernel_rfl, Try.t46, by kernel_rfl, by kernel_rfl⟩
  zero := by intro g h; cases h; exact ⟨by kernel_rfl, Try.t46, (.slice none 0 0), by kernel_rfl, by kernel_rfl, by kernel_rfl⟩
  zone := by intro g h; cases h; exact ⟨Try.t46, (.slice none 0 0), by kernel_rfl, by kernel_rfl, by kernel_rfl⟩
  st := by intro l h; cases h
  ar := by intro n z h; cases h
  int := by intro k h; cases h
  ptr := by intro h; cases h
  str := by intro h; cases h
  bool := by intro h; cases h
  mp := by intro e k h; cases h
theorem tabOk_47 : (tab 47).Ok Try.prog 47 where
  sl := by intro e z b v h; cases h
  ld := by intro b n h; cases h; exact ⟨by kernel_rfl, by kernel_rfl, Try.t47, by kernel_rfl, by kernel_rfl⟩
  zero := by intro g h; cases h; exact ⟨by kernel_rfl, Try.t47, (.agg #[.bool false, .slice none 0 0]), by kernel_rfl, by kernel_rfl, by kernel_rfl⟩
  zone := by intro g h; cases h; exact ⟨Try.t47, (.agg #[.bool false, .slice none 0 0]), by kernel_rfl, by kernel_rfl, by kernel_rfl⟩
  st := by intro l h; cases h; exact ⟨_, Try.underlying47, by kernel_rfl, (by exact all_some (by kernel_rfl)), by kernel_rfl⟩
  ar := by intro n z h; cases h
  int := by intro k h; cases h
  ptr := by intro h; cases h
  str := by intro h; cases h
  bool := by intro h; cases h
  mp := by intro e k h; cases h
theorem tabOk_48 : (tab 48).Ok Try.prog 48 where
  sl := by intro e z b v h; cases h
  ld := by intro b n h; cases h; exact ⟨by kernel_rfl, by kernel_rfl, Try.t48, by kernel_rfl, by kernel_rfl⟩
  zero := by intro g h; cases h; exact ⟨by kernel_rfl, Try.t48, (.agg #[.bool false, .slice none 0 0]), by kernel_rfl, by kernel_rfl, by kernel_rfl⟩
  zone := by intro g h; cases h; exact ⟨Try.t48, (.agg #[.bool false, .slice none 0 0]), by kernel_rfl, by kernel_rfl, by kernel_rfl⟩
  st := by intro l h; cases h; exact ⟨_, Try.underlying48, by kernel_rfl, (by exact all_some (by kernel_rfl)), by kernel_rfl⟩
  ar := by intro n z h; cases h
  int := by intro k h; cases h
  ptr := by intro h; cases h
  str := by intro h; cases h
  bool := by intro h; cases h
  mp := by intro e k h; cases h
theorem tabOk_49 : (tab 49).Ok Try.prog 49 where
  sl := by intro e z b v h; cases h
  ld := by intro b n h; cases h; exact ⟨by kernel_rfl, by kernel_rfl, Try.t49, by kernel_rfl, by kernel_rfl⟩
  zero := by intro g h; cases h; exact ⟨by kernel_rfl, Try.t49, (.nilFunc), by kernel_rfl, by kernel_rfl, by kernel_rfl⟩
  zone := by intro g h; cases h; exact ⟨Try.t49, (.nilFunc), by kernel_rfl, by kernel_rfl, by kernel_rfl⟩
  st := by intro l h; cases h
  ar := by intro n z h; cases h
  int := by intro k h; cases h
  ptr := by intro h; cases h
  str := by intro h; cases h
  bool := by intro h; cases h
  mp := by intro e k h; cases h
theorem tabOk_50 : (tab 50).Ok Try.prog 50 where
  sl := by intro e z b v h; cases h
  ld := by intro b n h; cases h; exact ⟨by kernel_rfl, by kernel_rfl, Try.t50, by kernel_rfl, by kernel_rfl⟩
  zero := by intro g h; cases h; exact ⟨by kernel_rfl, Try.t50, (.nilFunc), by kernel_rfl, by kernel_rfl, by kernel_rfl⟩
  zone := by intro g h; cases h; exact ⟨Try.t50, (.nilFunc), by kernel_rfl, by kernel_rfl, by kernel_rfl⟩
  st := by intro l h; cases h
  ar := by intro n z h; cases h
  int := by intro k h; cases h
  ptr := by intro h; cases h
  str := by intro h; cases h
  bool := by intro h; cases h
  mp := by intro e k h; cases h
theorem tabOk_51 : (tab 51).Ok Try.prog 51 where
  sl := by intro e z b v h; cases h
  ld := by intro b n h; cases h; exact ⟨by kernel_rfl, by kernel_rfl, Try.t51, by kernel_rfl, by kernel_rfl⟩
  zero := by intro g h; cases h; exact ⟨by kernel_rfl, Try.t51, (.agg #[.int .i64 0, .int .i64 0, .int .i64 0, .int .i64 0, .int .i64 0, .slice none 0 0]), by kernel_rfl, by kernel_rfl, by kernel_rfl⟩
  zone := by intro g h; cases h; exact ⟨Try.t51, (.agg #[.int .i64 0, .int .i64 0, .int .i64 0, .int .i64 0, .int .i64 0, .slice none 0 0]), by kernel_rfl, by kernel_rfl, by kernel_rfl⟩
  st := by intro l h; cases h; exact ⟨_, Try.underlying51, by kernel_rfl, (by exact all_some (by kernel_rfl)), by kernel_rfl⟩
  ar := by intro n z h; cases h
  int := by intro k h; cases h
  ptr := by intro h; cases h
  str := by intro h; cases h
  bool := by intro h; cases h
  mp := by intro e k h; cases h
theorem tabOk_52 : (tab 52).Ok Try.prog 52 where
  sl := by intro e z b v h; cases h
  ld := by intro b n h; cases h; exact ⟨by kernel_rfl, by kernel_rfl, Try.t52, by kernel_rfl, by kernel_rfl⟩
  zero := by intro g h; cases h; exact ⟨by kernel_rfl, Try.t52, (.agg #[.int .i64 0, .int .i64 0, .int .i64 0, .int .i64 0, .int .i64 0, .slice none 0 0]), by kernel_rfl, by kernel_rfl, by kernel_rfl⟩
  zone := by intro g h; cases h; exact ⟨Try.t52, (.agg #[.int .i64 0, .int .i64 0, .int .i64 0, .int .i64 0, .int .i64 0, .slice none 0 0]), by kernel_rfl, by kernel_rfl, by kernel_rfl⟩
  st := by intro l h; cases h; exact ⟨_, Try.underlying52, by kernel_rfl, (by exact all_some (by kernel_rfl)), by kernel_rfl⟩
  ar := by intro n z h; cases h
  int := by intro k h; cases h
  ptr := by intro h; cases h
  str := by intro h; cases h
  bool := by intro h; cases h
  mp := by intro e k h; cases h
theorem tabOk_53 : (tab 53).Ok Try.prog 53 where
  sl := by intro e z b v h; cases h
  ld := by intro b n h; cases h; exact ⟨by kernel_rfl, by kernel_rfl, Try.t53, by kernel_rfl, by kernel_rfl⟩
  zero := by intro g h; cases h; exact ⟨by kernel_rfl, Try.t53, (.nilFunc), by kernel_rfl, by kernel_rfl, by kernel_rfl⟩
  zone := by intro g h; cases h; exact ⟨Try.t53, (.nilFunc), by kernel_rfl, by kernel_rfl, by kernel_rfl⟩
  st := by intro l h; cases h
  ar := by intro n z h; cases h
  int := by intro k h; cases h
  ptr := by intro h; cases h
  str := by intro h; cases h
  bool := by intro h; cases h
  mp := by intro e k h; cases h
theorem tabOk_54 : (tab 54).Ok Try.prog 54 where
  sl := by intro e z b v h; cases h
  ld := by intro b n h; cases h; exact ⟨by kernel_rfl, by kernel_rfl, Try.t54, by kernel_rfl, by kernel_rfl⟩
  zero := by intro g h; cases h; exact ⟨by kernel_rfl, Try.t54, (.nilFunc), by kernel_rfl, by kernel_rfl, by kernel_rfl⟩
  zone := by intro g h; cases h; exact ⟨Try.t54, (.nilFunc), by kernel_rfl, by kernel_rfl, by kernel_rfl⟩
  st := by intro l h; cases h
  ar := by intro n z h; cases h
  int := by intro k h; cases h
  ptr := by intro h; cases h
  str := by intro h; cases h
  bool := by intro h; cases h
  mp := by intro e k h; cases h
theorem tabOk_55 : (tab 55).Ok Try.prog 55 where
  sl := by intro e z b v h; cases h; exact ⟨by kernel_rfl, Try.t64, by kernel_rfl, by kernel_rfl, by kernel_rfl, by kernel_rfl, by kernel_rfl⟩
  ld := by intro b n h; cases h; exact ⟨by kernel_rfl, by kernel_rfl, Try.t55, by kernel_rfl, by kernel_rfl⟩
  zero := by intro g h; cases h; exact ⟨by kernel_rfl, Try.t55, (.slice none 0 0), by kernel_rfl, by kernel_rfl, by kernel_rfl⟩
  zone := by intro g h; cases h; exact ⟨Try.t55, (.slice none 0 0), by kernel_rfl, by kernel_rfl, by kernel_rfl⟩
  st := by intro l h; cases h
  ar := by intro n z h; cases h
  int := by intro k h; cases h
  ptr := by intro h; cases h
  str := by intro h; cases h
  bool := by intro h; cases h
  mp := by intro e k h; cases h
theorem tabOk_56 : (tab 56).Ok Try.prog 56 where
  sl := by intro e z b v h; cases h
  ld := by intro b n h; cases h; exact ⟨by kernel_rfl, by kernel_rfl, Try.t56, by kernel_rfl, by kernel_rfl⟩
  zero := by intro g h; cases h; exact ⟨by kernel_rfl, Try.t56, (.int .u64 0), by kernel_rfl, by kernel_rfl, by kernel_rfl⟩
  zone := by intro g h; cases h; exact ⟨Try.t56, (.int .u64 0), by kernel_rfl, by kernel_rfl, by kernel_rfl⟩
  st := by intro l h; cases h
  ar := by intro n z h; cases h
  int := by intro k h; cases h; kernel_rfl
  ptr := by intro h; cases h
  str := by intro h; cases h
  bool := by intro h; cases h
  mp := by intro e k h; cases h
theorem tabOk_58 : (tab 58).Ok Try.prog 58 where
  sl := by intro e z b v h; cases h
  ld := by intro b n h; cases h; exact ⟨by kernel_rfl, by kernel_rfl, Try.t58, by kernel_rfl, by kernel_rfl⟩
  zero := by intro g h; cases h; exact ⟨by kernel_rfl, Try.t58, (.nilFunc), by kernel_rfl, by kernel_rfl, by kernel_rfl⟩
  zone := by intro g h; cases h; exact ⟨Try.t58, (.nilFunc), by kernel_rfl, by kernel_rfl, by kernel_rfl⟩
  st := by intro l h; cases h
  ar := by intro n z h; cases h
  int := by intro k h; cases h
  ptr := by intro h; cases h
  str := by intro h; cases h
  bool := by intro h; cases h
  mp := by intro e k h; cases h
theorem tabOk_60 : (tab 60).Ok Try.prog 60 where
  sl := by intro e z b v h; cases h
  ld := by intro b n h; cases h; exact ⟨by kernel_rfl, by kernel_rfl, Try.t60, by kernel_rfl, by kernel_rfl⟩
  zero := by intro g h; cases h; exact ⟨by kernel_rfl, Try.t60, (.nilFunc), by kernel_rfl, by kernel_rfl, by kernel_rfl⟩
  zone := by intro g h; cases h; exact ⟨Try.t60, (.nilFunc), by kernel_rfl, by kernel_rfl, by kernel_rfl⟩
  st := by intro l h; cases h
  ar := by intro n z h; cases h
  int := by intro k h; cases h
  ptr := by intro h; cases h
  str := by intro h; cases h
  bool := by intro h; cases h
  mp := by intro e k h; cases h
theorem tabOk_62 : (tab 62).Ok Try.prog 62 where
  sl := by intro e z b v h; cases h
  ld := by intro b n h; cases h; exact ⟨by kernel_rfl, by kernel_rfl, Try.t62, by kernel_rfl, by kernel_rfl⟩
  zero := by intro g h; cases h; exact ⟨by kernel_rfl, Try.t62, (.nilFunc), by kernel_rfl, by kernel_rfl, by kernel_rfl⟩
  zone := by intro g h; cases h; exact ⟨Try.t62, (.nilFunc), by kernel_rfl, by kernel_rfl, by kernel_rfl⟩
  st := by intro l h; cases h
  ar := by intro n z h; cases h
  int := by intro k h; cases h
  ptr := by intro h; cases h
  str := by intro h; cases h
  bool := by intro h; cases h
  mp := by intro e k h; cases h
theorem tabOk_63 : (tab 63).Ok Try.prog 63 where
  sl := by intro e z b v h; cases h
  ld := by intro b n h; cases h; exact ⟨by kernel_rfl, by kernel_rfl, Try.t63, by kernel_rfl, by kernel_rfl⟩
  zero := by intro g h; cases h; exact ⟨by kernel_rfl, Try.t63, (.agg #[.int .i64 0, .int .i64 0, .int .i64 0, .int .i64 0, .int .i64 0]), by kernel_rfl, by kernel_rfl, by kernel_rfl⟩
  zone := by intro g h; cases h; exact ⟨Try.t63, (.agg #[.int .i64 0, .int .i64 0, .int .i64 0, .int .i64 0, .int .i64 0]), by kernel_rfl, by kernel_rfl, by kernel_rfl⟩
  st := by intro l h; cases h; exact ⟨_, Try.underlying63, by kernel_rfl, (by exact all_some (by kernel_rfl)), by kernel_rfl⟩
  ar := by intro n z h; cases h
  int := by intro k h; cases h
  ptr := by intro h; cases h
  str := by intro h; cases h
  bool := by intro h; cases h
  mp := by intro e k h; cases h
theorem tabOk_64 : (tab 64).Ok Try.prog 64 where
  sl := by intro e z b v h; cases h
  ld := by intro b n h; cases h; exact ⟨by kernel_rfl, by kernel_rfl, Try.t64, by kernel_rfl, by kernel_rfl⟩
  zero := by intro g h; cases h; exact ⟨by kernel_rfl, Try.t64, (.agg #[.int .i64 0, .int .i64 0, .int .i64 0, .int .i64 0, .int .i64 0]), by kernel_rfl, by kernel_rfl, by kernel_rfl⟩
  zone := by intro g h; cases h; exact ⟨Try.t64, (.agg #[.int .i64 0, .int .i64 0, .int .i64 0, .int .i64 0, .int .i64 0]), by kernel_rfl, by kernel_rfl, by kernel_rfl⟩
  st := by intro l h; cases h; exact ⟨_, Try.underlying64, by kernel_rfl, (by exact all_some (by kernel_rfl)), by kernel_rfl⟩
  ar := by intro n z h; cases h
  int := by intro k h; cases h
  ptr := by intro h; cases h
  str := by intro h; cases h
  bool := by intro h; cases h
  mp := by intro e k h; cases h
theorem tabOk_65 : (tab 65).Ok Try.prog 65 where
  sl := by intro e z b v h; cases h
  ld := by intro b n h; cases h; exact ⟨by kernel_rfl, by kernel_rfl, Try.t65, by kernel_rfl, by kernel_rfl⟩
  zero := by intro g h; cases h; exact ⟨by kernel_rfl, Try.t65, (.nilFunc), by kernel_rfl, by kernel_rfl, by kernel_rfl⟩
  zone := by intro g h; cases h; exact ⟨Try.t65, (.nilFunc), by kernel_rfl, by kernel_rfl, by kernel_rfl⟩
  st := by intro l h; cases h
  ar := by intro n z h; cases h
  int := by intro k h; cases h
  ptr := by intro h; cases h
  str := by intro h; cases h
  bool := by intro h; cases h
  mp := by intro e k h; cases h
theorem tabOk_66 : (tab 66).Ok Try.prog 66 where
  sl := by intro e z b v h; cases h
  ld := by intro b n h; cases h; exact ⟨by kernel_rfl, by kernel_rfl, Try.t66, by kernel_rfl, by kernel_rfl⟩
  zero := by intro g h; cases h; exact ⟨by kernel_rfl, Try.t66, (.agg #[.int .i64 0, .int .i64 0, .int .i64 0, .int .i64 0, .int .i64 0]), by kernel_rfl, by kernel_rfl, by kernel_rfl⟩
  zone := by intro g h; cases h; exact ⟨Try.t66, (.agg #[.int .i64 0, .int .i64 0, .int .i64 0, .int .i64 0, .int .i64 0]), by kernel_rfl, by kernel_rfl, by kernel_rfl⟩
  st := by intro l h; cases h; exact ⟨_, Try.underlying66, by kernel_rfl, (by exact all_some (by kernel_rfl)), by kernel_rfl⟩
  ar := by intro n z h; cases h
  int := by intro k h; cases h
  ptr := by intro h; cases h
  str := by intro h; cases h
  bool := by intro h; cases h
  mp := by intro e k h; cases h
theorem tabOk_67 : (tab 67).Ok Try.prog 67 where
  sl := by intro e z b v h; cases h
  ld := by intro b n h; cases h; exact ⟨by kernel_rfl, by kernel_rfl, Try.t67, by kernel_rfl, by kernel_rfl⟩
  zero := by intro g h; cases h; exact ⟨by kernel_rfl, Try.t67, (.nilFunc), by kernel_rfl, by kernel_rfl, by kernel_rfl⟩
  zone := by intro g h; cases h; exact ⟨Try.t67, (.nilFunc), by kernel_rfl, by kernel_rfl, by kernel_rfl⟩
  st := by intro l h; cases h
  ar := by intro n z h; cases h
  int := by intro k h; cases h
  ptr := by intro h; cases h
  str := by intro h; cases h
  bool := by intro h; cases h
  mp := by intro e k h; cases h
theorem tabOk_68 : (tab 68).Ok Try.prog 68 where
  sl := by intro e z b v h; cases h
  ld := by intro b n h; cases h; exact ⟨by kernel_rfl, by kernel_rfl, Try.t68, by kernel_rfl, by kernel_rfl⟩
  zero := by intro g h; cases h; exact ⟨by kernel_rfl, Try.t68, (.nilFunc), by kernel_rfl, by kernel_rfl, by kernel_rfl⟩
  zone := by intro g h; cases h; exact ⟨Try.t68, (.nilFunc), by kernel_rfl, by kernel_rfl, by kernel_rfl⟩
  st := by intro l h; cases h
  ar := by intro n z h; cases h
  int := by intro k h; cases h
  ptr := by intro h; cases h
  str := by intro h; cases h
  bool := by intro h; cases h
  mp := by intro e k h; cases h
theorem tabOk_69 : (tab 69).Ok Try.prog 69 where
  sl := by intro e z b v h; cases h
  ld := by intro b n h; cases h; exact ⟨by kernel_rfl, by kernel_rfl, Try.t69, by kernel_rfl, by kernel_rfl⟩
  zero := by intro g h; cases h; exact ⟨by kernel_rfl, Try.t69, (.nilFunc), by kernel_rfl, by kernel_rfl, by kernel_rfl⟩
  zone := by intro g h; cases h; exact ⟨Try.t69, (.nilFunc), by kernel_rfl, by kernel_rfl, by kernel_rfl⟩
  st := by intro l h; cases h
  ar := by intro n z h; cases h
  int := by intro k h; cases h
  ptr := by intro h; cases h
  str := by intro h; cases h
  bool := by intro h; cases h
  mp := by intro e k h; cases h
theorem tabOk_70 : (tab 70).Ok Try.prog 70 where
  sl := by intro e z b v h; cases h
  ld := by intro b n h; cases h; exact ⟨by kernel_rfl, by kernel_rfl, Try.t70, by kernel_rfl, by kernel_rfl⟩
  zero := by intro g h; cases h; exact ⟨by kernel_rfl, Try.t70, (.nilFunc), by kernel_rfl, by kernel_rfl, by kernel_rfl⟩
  zone := by intro g h; cases h; exact ⟨Try.t70, (.nilFunc), by kernel_rfl, by kernel_rfl, by kernel_rfl⟩
  st := by intro l h; cases h
  ar := by intro n z h; cases h
  int := by intro k h; cases h
  ptr := by intro h; cases h
  str := by intro h; cases h
  bool := by intro h; cases h
  mp := by intro e k h; cases h
theorem tabOk_71 : (tab 71).Ok Try.prog 71 where
  sl := by intro e z b v h; cases h
  ld := by intro b n h; cases h; exact ⟨by kernel_rfl, by kernel_rfl, Try.t71, by kernel_rfl, by kernel_rfl⟩
  zero := by intro g h; cases h; exact ⟨by kernel_rfl, Try.t71, (.nilFunc), by kernel_rfl, by kernel_rfl, by kernel_rfl⟩
  zone := by intro g h; cases h; exact ⟨Try.t71, (.nilFunc), by kernel_rfl, by kernel_rfl, by kernel_rfl⟩
  st := by intro l h; cases h
  ar := by intro n z h; cases h
  int := by intro k h; cases h
  ptr := by intro h; cases h
  str := by intro h; cases h
  bool := by intro h; cases h
  mp := by intro e k h; cases h
theorem tabOk_72 : (tab 72).Ok Try.prog 72 where
  sl := by intro e z b v h; cases h; exact ⟨by kernel_rfl, Try.t107, by kernel_rfl, by kernel_rfl, by kernel_rfl, by kernel_rfl, by kernel_rfl⟩
  ld := by intro b n h; cases h; exact ⟨by kernel_rfl, by kernel_rfl, Try.t72, by kernel_rfl, by kernel_rfl⟩
  zero := by intro g h; cases h; exact ⟨by kernel_rfl, Try.t72, (.slice none 0 0), by kernel_rfl, by kernel_rfl, by kernel_rfl⟩
  zone := by intro g h; cases h; exact ⟨Try.t72, (.slice none 0 0), by kernel_rfl, by kernel_rfl, by kernel_rfl⟩
  st := by intro l h; cases h
  ar := by intro n z h; cases h
  int := by intro k h; cases h
  ptr := by intro h; cases h
  str := by intro h; cases h
  bool := by intro h; cases h
  mp := by intro e k h; cases h
theorem tabOk_73 : (tab 73).Ok Try.prog 73 where
  sl := by intro e z b v h; cases h; exact ⟨by kernel_rfl, Try.t87, by kernel_rfl, by kernel_rfl, by kernel_rfl, by kernel_rfl, by kernel_rfl⟩
  ld := by intro b n h; cases h; exact ⟨by kernel_rfl, by kernel_rfl, Try.t73, by kernel_rfl, by kernel_rfl⟩
  zero := by intro g h; cases h; exact ⟨by kernel_rfl, Try.t73, (.slice none 0 0), by kernel_rfl, by kernel_rfl, by kernel_rfl⟩
  zone := by intro g h; cases h; exact ⟨Try.t73, (.slice none 0 0), by kernel_rfl, by kernel_rfl, by kernel_rfl⟩
  st := by intro l h; cases h
  ar := by intro n z h; cases h
  int := by intro k h; cases h
  ptr := by intro h; cases h
  str := by intro h; cases h
  bool := by intro h; cases h
  mp := by intro e k h; cases h
theorem tabOk_74 : (tab 74).Ok Try.prog 74 where
  sl := by intro e z b v h; cases h
  ld := by intro b n h; cases h; exact ⟨by kernel_rfl, by kernel_rfl, Try.t74, by kernel_rfl, by kernel_rfl⟩
  zero := by intro g h; cases h; exact ⟨by kernel_rfl, Try.t74, (.agg #[.slice none 0 0, .slice none 0 0]), by kernel_rfl, by kernel_rfl, by kernel_rfl⟩
  zone := by intro g h; cases h; exact ⟨Try.t74, (.agg #[.slice none 0 0, .slice none 0 0]), by kernel_rfl, by kernel_rfl, by kernel_rfl⟩
  st := by intro l h; cases h; exact ⟨_, Try.underlying74, by kernel_rfl, (by exact all_some (by kernel_rfl)), by kernel_rfl⟩
  ar := by intro n z h; cases h
  int := by intro k h; cases h
  ptr := by intro h; cases h
  str := by intro h; cases h
  bool := by intro h; cases h
  mp := by intro e k h; cases h
theorem tabOk_75 : (tab 75).Ok Try.prog 75 where
  sl := by intro e z b v h; cases h
  ld := by intro b n h; cases h; exact ⟨by kernel_rfl, by kernel_rfl, Try.t75, by kernel_rfl, by kernel_rfl⟩
  zero := by intro g h; cases h; exact ⟨by kernel_rfl, Try.t75, (.agg #[.slice none 0 0, .slice none 0 0]), by kernel_rfl, by kernel_rfl, by kernel_rfl⟩
  zone := by intro g h; cases h; exact ⟨Try.t75, (.agg #[.slice none 0 0, .slice none 0 0]), by kernel_rfl, by kernel_rfl, by kernel_rfl⟩
  st := by intro l h; cases h; exact ⟨_, Try.underlying75, by kernel_rfl, (by exact all_some (by kernel_rfl)), by kernel_rfl⟩
  ar := by intro n z h; cases h
  int := by intro k h; cases h
  ptr := by intro h; cases h
  str := by intro h; cases h
  bool := by intro h; cases h
  mp := by intro e k h; cases h
theorem tabOk_76 : (tab 76).Ok Try.prog 76 where
  sl := by intro e z b v h; cases h
  ld := by intro b n h; cases h; exact ⟨by kernel_rfl, by kernel_rfl, Try.t76, by kernel_rfl, by kernel_rfl⟩
  zero := by intro g h; cases h; exact ⟨by kernel_rfl, Try.t76, (.nilFunc), by kernel_rfl, by kernel_rfl, by kernel_rfl⟩
  zone := by intro g h; cases h; exact ⟨Try.t76, (.nilFunc), by kernel_rfl, by kernel_rfl, by kernel_rfl⟩
  st := by intro l h; cases h
  ar := by intro n z h; cases h
  int := by intro k h; cases h
  ptr := by intro h; cases h
  str := by intro h; cases h
  bool := by intro h; cases h
  mp := by intro e k h; cases h
theorem tabOk_77 : (tab 77).Ok Try.prog 77 where
  sl := by intro e z b v h; cases h
  ld := by intro b n h; cases h; exact ⟨by kernel_rfl, by kernel_rfl, Try.t77, by kernel_rfl, by kernel_rfl⟩
  zero := by intro g h; cases h; exact ⟨by kernel_rfl, Try.t77, (.nilFunc), by kernel_rfl, by kernel_rfl, by kernel_rfl⟩
  zone := by intro g h; cases h; exact ⟨Try.t77, (.nilFunc), by kernel_rfl, by kernel_rfl, by kernel_rfl⟩
  st := by intro l h; cases h
  ar := by intro n z h; cases h
  int := by intro k h; cases h
  ptr := by intro h; cases h
  str := by intro h; cases h
  bool := by intro h; cases h
  mp := by intro e k h; cases h
theorem tabOk_79 : (tab 79).Ok Try.prog 79 where
  sl := by intro e z b v h; cases h
  ld := by intro b n h; cases h; exact ⟨by kernel_rfl, by kernel_rfl, Try.t79, by kernel_rfl, by kernel_rfl⟩
  zero := by intro g h; cases h; exact ⟨by kernel_rfl, Try.t79, (.nilFunc), by kernel_rfl, by kernel_rfl, by kernel_rfl⟩
  zone := by intro g h; cases h; exact ⟨Try.t79, (.nilFunc), by kernel_rfl, by kernel_rfl, by kernel_rfl⟩
  st := by intro l h; cases h
  ar := by intro n z h; cases h
  int := by intro k h; cases h
  ptr := by intro h; cases h
  str := by intro h; cases h
  bool := by intro h; cases h
  mp := by intro e k h; cases h
theorem tabOk_80 : (tab 80).Ok Try.prog 80 where
  sl := by intro e z b v h; cases h
  ld := by intro b n h; cases h; exact ⟨by kernel_rfl, by kernel_rfl, Try.t80, by kernel_rfl, by kernel_rfl⟩
  zero := by intro g h; cases h; exact ⟨by kernel_rfl, Try.t80, (.nilFunc), by kernel_rfl, by kernel_rfl, by kernel_rfl⟩
  zone := by intro g h; cases h; exact ⟨Try.t80, (.nilFunc), by kernel_rfl, by kernel_rfl, by kernel_rfl⟩
  st := by intro l h; cases h
  ar := by intro n z h; cases h
  int := by intro k h; cases h
  ptr := by intro h; cases h
  str := by intro h; cases h
  bool := by intro h; cases h
  mp := by intro e k h; cases h
theorem tabOk_81 : (tab 81).Ok Try.prog 81 where
  sl := by intro e z b v h; cases h
  ld := by intro b n h; cases h; exact ⟨by kernel_rfl, by kernel_rfl, Try.t81, by kernel_rfl, by kernel_rfl⟩
  zero := by intro g h; cases h; exact ⟨by kernel_rfl, Try.t81, (.nilFunc), by kernel_rfl, by kernel_rfl, by kernel_rfl⟩
  zone := by intro g h; cases h; exact ⟨Try.t81, (.nilFunc), by kernel_rfl, by kernel_rfl, by kernel_rfl⟩
  st := by intro l h; cases h
  ar := by intro n z h; cases h
  int := by intro k h; cases h
  ptr := by intro h; cases h
  str := by intro h; cases h
  bool := by intro h; cases h
  mp := by intro e k h; cases h
theorem tabOk_82 : (tab 82).Ok Try.prog 82 where
  sl := by intro e z b v h; cases h
  ld := by intro b n h; cases h; exact ⟨by kernel_rfl, by kernel_rfl, Try.t82, by kernel_rfl, by kernel_rfl⟩
  zero := by intro g h; cases h; exact ⟨by kernel_rfl, Try.t82, (.nilFunc), by kernel_rfl, by kernel_rfl, by kernel_rfl⟩
  zone := by intro g h; cases h; exact ⟨Try.t82, (.nilFunc), by kernel_rfl, by kernel_rfl, by kernel_rfl⟩
  st := by intro l h; cases h
  ar := by intro n z h; cases h
  int := by intro k h; cases h
  ptr := by intro h; cases h
  str := by intro h; cases h
  bool := by intro h; cases h
  mp := by intro e k h; cases h
theorem tabOk_83 : (tab 83).Ok Try.prog 83 where
  sl := by intro e z b v h; cases h; exact ⟨by kernel_rfl, Try.t35, by kernel_rfl, by kernel_rfl, by kernel_rfl, by kernel_rfl, by kernel_rfl⟩
  ld := by intro b n h; cases h; exact ⟨by kernel_rfl, by kernel_rfl, Try.t83, by kernel_rfl, by kernel_rfl⟩
  zero := by intro g h; cases h; exact ⟨by kernel_rfl, Try.t83, (.slice none 0 0), by kernel_rfl, by kernel_rfl, by kernel_rfl⟩
  zone := by intro g h; cases h; exact ⟨Try.t83, (.slice none 0 0), by kernel_rfl, by kernel_rfl, by kernel_rfl⟩
  st := by intro l h; cases h
  ar := by intro n z h; cases h
  int := by intro k h; cases h
  ptr := by intro h; cases h
  str := by intro h; cases h
  bool := by intro h; cases h
  mp := by intro e k h; cases h
theorem tabOk_84 : (tab 84).Ok Try.prog 84 where
  sl := by intro e z b v h; cases h
  ld := by intro b n h; cases h; exact ⟨by kernel_rfl, by kernel_rfl, Try.t84, by kernel_rfl, by kernel_rfl⟩
  zero := by intro g h; cases h; exact ⟨by kernel_rfl, Try.t84, (.nilFunc), by kernel_rfl, by kernel_rfl, by kernel_rfl⟩
  zone := by intro g h; cases h; exact ⟨Try.t84, (.nilFunc), by kernel_rfl, by kernel_rfl, by kernel_rfl⟩
  st := by intro l h; cases h
  ar := by intro n z h; cases h
  int := by intro k h; cases h
  ptr := by intro h; cases h
  str := by intro h; cases h
  bool := by intro h; cases h
  mp := by intro e k h; cases h
theorem tabOk_85 : (tab 85).Ok Try.prog 85 where
  sl := by intro e z b v h; cases h
  ld := by intro b n h; cases h; exact ⟨by kernel_rfl, by kernel_rfl, Try.t85, by kernel_rfl, by kernel_rfl⟩
  zero := by intro g h; cases h; exact ⟨by kernel_rfl, Try.t85, (.nilFunc), by kernel_rfl, by kernel_rfl, by kernel_rfl⟩
  zone := by intro g h; cases h; exact ⟨Try.t85, (.nilFunc), by kernel_rfl, by kernel_rfl, by kernel_rfl⟩
  st := by intro l h; cases h
  ar := by intro n z h; cases h
  int := by intro k h; cases h
  ptr := by intro h; cases h
  str := by intro h; cases h
  bool := by intro h; cases h
  mp := by intro e k h; cases h
theorem tabOk_86 : (tab 86).Ok Try.prog 86 where
  sl := by intro e z b v h; cases h
  ld := by intro b n h; cases h; exact ⟨by kernel_rfl, by kernel_rfl, Try.t86, by kernel_rfl, by kernel_rfl⟩
  zero := by intro g h; cases h; exact ⟨by kernel_rfl, Try.t86, (.agg #[.int .i64 0, .bool false, .int .i64 0, .slice none 0 0, .bool false]), by kernel_rfl, by kernel_rfl, by kernel_rfl⟩
  zone := by intro g h; cases h; exact ⟨Try.t86, (.agg #[.int .i64 0, .bool false, .int .i64 0, .slice none 0 0, .bool false]), by kernel_rfl, by kernel_rfl, by kernel_rfl⟩
  st := by intro l h; cases h; exact ⟨_, Try.underlying86, by kernel_rfl, (by exact all_some (by kernel_rfl)), by kernel_rfl⟩
  ar := by intro n z h; cases h
  int := by intro k h; cases h
  ptr := by intro h; cases h
  str := by intro h; cases h
  bool := by intro h; cases h
  mp := by intro e k h; cases h
theorem tabOk_87 : (tab 87).Ok Try.prog 87 where
  sl := by intro e z b v h; cases h
  ld := by intro b n h; cases h; exact ⟨by kernel_rfl, by kernel_rfl, Try.t87, by kernel_rfl, by kernel_rfl⟩
  zero := by intro g h; cases h; exact ⟨by kernel_rfl, Try.t87, (.agg #[.int .i64 0, .bool false, .int .i64 0, .slice none 0 0, .bool false]), by kernel_rfl, by kernel_rfl, by kernel_rfl⟩
  zone := by intro g h; cases h; exact ⟨Try.t87, (.agg #[.int .i64 0, .bool false, .int .i64 0, .slice none 0 0, .bool false]), by kernel_rfl, by kernel_rfl, by kernel_rfl⟩
  st := by intro l h; cases h; exact ⟨_, Try.underlying87, by kernel_rfl, (by exact all_some (by kernel_rfl)), by kernel_rfl⟩
  ar := by intro n z h; cases h
  int := by intro k h; cases h
  ptr := by intro h; cases h
  str := by intro h; cases h
  bool := by intro h; cases h
  mp := by intro e k h; cases h
theorem tabOk_88 : (tab 88).Ok Try.prog 88 where
  sl := by intro e z b v h; cases h
  ld := by intro b n h; cases h; exact ⟨by kernel_rfl, by kernel_rfl, Try.t88, by kernel_rfl, by kernel_rfl⟩
  zero := by intro g h; cases h; exact ⟨by kernel_rfl, Try.t88, (.nilFunc), by kernel_rfl, by kernel_rfl, by kernel_rfl⟩
  zone := by intro g h; cases h; exact ⟨Try.t88, (.nilFunc), by kernel_rfl, by kernel_rfl, by kernel_rfl⟩
  st := by intro l h; cases h
  ar := by intro n z h; cases h
  int := by intro k h; cases h
  ptr := by intro h; cases h
  str := by intro h; cases h
  bool := by intro h; cases h
  mp := by intro e k h; cases h
theorem tabOk_89 : (tab 89).Ok Try.prog 89 where
  sl := by intro e z b v h; cases h
  ld := by intro b n h; cases h; exact ⟨by kernel_rfl, by kernel_rfl, Try.t89, by kernel_rfl, by kernel_rfl⟩
  zero := by intro g h; cases h; exact ⟨by kernel_rfl, Try.t89, (.nilFunc), by kernel_rfl, by kernel_rfl, by kernel_rfl⟩
  zone := by intro g h; cases h; exact ⟨Try.t89, (.nilFunc), by kernel_rfl, by kernel_rfl, by kernel_rfl⟩
  st := by intro l h; cases h
  ar := by intro n z h; cases h
  int := by intro k h; cases h
  ptr := by intro h; cases h
  str := by intro h; cases h
  bool := by intro h; cases h
  mp := by intro e k h; cases h
theorem tabOk_90 : (tab 90).Ok Try.prog 90 where
  sl := by intro e z b v h; cases h; exact ⟨by kernel_rfl, Try.t9, by kernel_rfl, by kernel_rfl, by kernel_rfl, by kernel_rfl, by kernel_rfl⟩
  ld := by intro b n h; cases h; exact ⟨by kernel_rfl, by kernel_rfl, Try.t90, by kernel_rfl, by kernel_rfl⟩
  zero := by intro g h; cases h; exact ⟨by kernel_rfl, Try.t90, (.slice none 0 0), by kernel_rfl, by kernel_rfl, by kernel_rfl⟩
  zone := by intro g h; cases h; exact ⟨Try.t90, (.slice none 0 0), by kernel_rfl, by kernel_rfl, by kernel_rfl⟩
  st := by intro l h; cases h
  ar := by intro n z h; cases h
  int := by intro k h; cases h
  ptr := by intro h; cases h
  str := by intro h; cases h
  bool := by intro h; cases h
  mp := by intro e k h; cases h
theorem tabOk_91 : (tab 91).Ok Try.prog 91 where
  sl := by intro e z b v h; cases h
  ld := by intro b n h; cases h; exact ⟨by kernel_rfl, by kernel_rfl, Try.t91, by kernel_rfl, by kernel_rfl⟩
  zero := by intro g h; cases h; exact ⟨by kernel_rfl, Try.t91, (.agg #[.int .i64 0, .int .i64 0, .string ⟨#[]⟩, .slice none 0 0, .slice none 0 0]), by kernel_rfl, by kernel_rfl, by kernel_rfl⟩
  zone := by intro g h; cases h; exact ⟨Try.t91, (.agg #[.int .i64 0, .int .i64 0, .string ⟨#[]⟩, .slice none 0 0, .slice none 0 0]), by kernel_rfl, by kernel_rfl, by kernel_rfl⟩
  st := by intro l h; cases h; exact ⟨_, Try.underlying91, by kernel_rfl, (by exact all_some (by kernel_rfl)), by kernel_rfl⟩
  ar := by intro n z h; cases h
  int := by intro k h; cases h
  ptr := by intro h; cases h
  str := by intro h; cases h
  bool := by intro h; cases h
  mp := by intro e k h; cases h
theorem tabOk_92 : (tab 92).Ok Try.prog 92 where
  sl := by intro e z b v h; cases h
  ld := by intro b n h; cases h; exact ⟨by kernel_rfl, by kernel_rfl, Try.t92, by kernel_rfl, by kernel_rfl⟩
  zero := by intro g h; cases h; exact ⟨by kernel_rfl, Try.t92, (.agg #[.int .i64 0, .int .i64 0, .string ⟨#[]⟩, .slice none 0 0, .slice none 0 0]), by kernel_rfl, by kernel_rfl, by kernel_rfl⟩
  zone := by intro g h; cases h; exact ⟨Try.t92, (.agg #[.int .i64 0, .int .i64 0, .string ⟨#[]⟩, .slice none 0 0, .slice none 0 0]), by kernel_rfl, by kernel_rfl, by kernel_rfl⟩
  st := by intro l h; cases h; exact ⟨_, Try.underlying92, by kernel_rfl, (by exact all_some (by kernel_rfl)), by kernel_rfl⟩
  ar := by intro n z h; cases h
  int := by intro k h; cases h
  ptr := by intro h; cases h
  str := by intro h; cases h
  bool := by intro h; cases h
  mp := by intro e k h; cases h
theorem tabOk_93 : (tab 93).Ok Try.prog 93 where
  sl := by intro e z b v h; cases h
  ld := by intro b n h; cases h; exact ⟨by kernel_rfl, by kernel_rfl, Try.t93, by kernel_rfl, by kernel_rfl⟩
  zero := by intro g h; cases h; exact ⟨by kernel_rfl, Try.t93, (.nilFunc), by kernel_rfl, by kernel_rfl, by kernel_rfl⟩
  zone := by intro g h; cases h; exact ⟨Try.t93, (.nilFunc), by kernel_rfl, by kernel_rfl, by kernel_rfl⟩
  st := by intro l h; cases h
  ar := by intro n z h; cases h
  int := by intro k h; cases h
  ptr := by intro h; cases h
  str := by intro h; cases h
  bool := by intro h; cases h
  mp := by intro e k h; cases h
theorem tabOk_94 : (tab 94).Ok Try.prog 94 where
  sl := by intro e z b v h; cases h
  ld := by intro b n h; cases h; exact ⟨by kernel_rfl, by kernel_rfl, Try.t94, by kernel_rfl, by kernel_rfl⟩
  zero := by intro g h; cases h; exact ⟨by kernel_rfl, Try.t94, (.nilFunc), by kernel_rfl, by kernel_rfl, by kernel_rfl⟩
  zone := by intro g h; cases h; exact ⟨Try.t94, (.nilFunc), by kernel_rfl, by kernel_rfl, by kernel_rfl⟩
  st := by intro l h; cases h
  ar := by intro n z h; cases h
  int := by intro k h; cases h
  ptr := by intro h; cases h
  str := by intro h; cases h
  bool := by intro h; cases h
  mp := by intro e k h; cases h
theorem tabOk_95 : (tab 95).Ok Try.prog 95 where
  sl := by intro e z b v h; cases h
  ld := by intro b n h; cases h; exact ⟨by kernel_rfl, by kernel_rfl, Try.t95, by kernel_rfl, by kernel_rfl⟩
  zero := by intro g h; cases h; exact ⟨by kernel_rfl, Try.t95, (.nilFunc), by kernel_rfl, by kernel_rfl, by kernel_rfl⟩
  zone := by intro g h; cases h; exact ⟨Try.t95, (.nilFunc), by kernel_rfl, by kernel_rfl, by kernel_rfl⟩
  st := by intro l h; cases h
  ar := by intro n z h; cases h
  int := by intro k h; cases h
  ptr := by intro h; cases h
  str := by intro h; cases h
  bool := by intro h; cases h
  mp := by intro e k h; cases h
theorem tabOk_96 : (tab 96).Ok Try.prog 96 where
  sl := by intro e z b v h; cases h
  ld := by intro b n h; cases h; exact ⟨by kernel_rfl, by kernel_rfl, Try.t96, by kernel_rfl, by kernel_rfl⟩
  zero := by intro g h; cases h; exact ⟨by kernel_rfl, Try.t96, (.nilFunc), by kernel_rfl, by kernel_rfl, by kernel_rfl⟩
  zone := by intro g h; cases h; exact ⟨Try.t96, (.nilFunc), by kernel_rfl, by kernel_rfl, by kernel_rfl⟩
  st := by intro l h; cases h
  ar := by intro n z h; cases h
  int := by intro k h; cases h
  ptr := by intro h; cases h
  str := by intro h; cases h
  bool := by intro h; cases h
  mp := by intro e k h; cases h
theorem tabOk_97 : (tab 97).Ok Try.prog 97 where
  sl := by intro e z b v h; cases h
  ld := by intro b n h; cases h; exact ⟨by kernel_rfl, by kernel_rfl, Try.t97, by kernel_rfl, by kernel_rfl⟩
  zero := by intro g h; cases h; exact ⟨by kernel_rfl, Try.t97, (.nilFunc), by kernel_rfl, by kernel_rfl, by kernel_rfl⟩
  zone := by intro g h; cases h; exact ⟨Try.t97, (.nilFunc), by kernel_rfl, by kernel_rfl, by kernel_rfl⟩
  st := by intro l h; cases h
  ar := by intro n z h; cases h
  int := by intro k h; cases h
  ptr := by intro h; cases h
  str := by intro h; cases h
  bool := by intro h; cases h
  mp := by intro e k h; cases h
theorem tabOk_98 : (tab 98).Ok Try.prog 98 where
  sl := by intro e z b v h; cases h
  ld := by intro b n h; cases h; exact ⟨by kernel_rfl, by kernel_rfl, Try.t98, by kernel_rfl, by kernel_rfl⟩
  zero := by intro g h; cases h; exact ⟨by kernel_rfl, Try.t98, (.nilFunc), by kernel_rfl, by kernel_rfl, by kernel_rfl⟩
  zone := by intro g h; cases h; exact ⟨Try.t98, (.nilFunc), by kernel_rfl, by kernel_rfl, by kernel_rfl⟩
  st := by intro l h; cases h
  ar := by intro n z h; cases h
  int := by intro k h; cases h
  ptr := by intro h; cases h
  str := by intro h; cases h
  bool := by intro h; cases h
  mp := by intro e k h; cases h
theorem tabOk_99 : (tab 99).Ok Try.prog 99 where
  sl := by intro e z b v h; cases h
  ld := by intro b n h; cases h; exact ⟨by kernel_rfl, by kernel_rfl, Try.t99, by kernel_rfl, by kernel_rfl⟩
  zero := by intro g h; cases h; exact ⟨by kernel_rfl, Try.t99, (.nilFunc), by kernel_rfl, by kernel_rfl, by kernel_rfl⟩
  zone := by intro g h; cases h; exact ⟨Try.t99, (.nilFunc), by kernel_rfl, by kernel_rfl, by kernel_rfl⟩
  st := by intro l h; cases h
  ar := by intro n z h; cases h
  int := by intro k h; cases h
  ptr := by intro h; cases h
  str := by intro h; cases h
  bool := by intro h; cases h
  mp := by intro e k h; cases h
theorem tabOk_100 : (tab 100).Ok Try.prog 100 where
  sl := by intro e z b v h; cases h
  ld := by intro b n h; cases h; exact ⟨by kernel_rfl, by kernel_rfl, Try.t100, by kernel_rfl, by kernel_rfl⟩
  zero := by intro g h; cases h; exact ⟨by kernel_rfl, Try.t100, (.nilFunc), by kernel_rfl, by kernel_rfl, by kernel_rfl⟩
  zone := by intro g h; cases h; exact ⟨Try.t100, (.nilFunc), by kernel_rfl, by kernel_rfl, by kernel_rfl⟩
  st := by intro l h; cases h
  ar := by intro n z h; cases h
  int := by intro k h; cases h
  ptr := by intro h; cases h
  str := by intro h; cases h
  bool := by intro h; cases h
  mp := by intro e k h; cases h
theorem tabOk_101 : (tab 101).Ok Try.prog 101 where
  sl := by intro e z b v h; cases h; exact ⟨by kernel_rfl, Try.t126, by kernel_rfl, by kernel_rfl, by kernel_rfl, by kernel_rfl, by kernel_rfl⟩
  ld := by intro b n h; cases h; exact ⟨by kernel_rfl, by kernel_rfl, Try.t101, by kernel_rfl, by kernel_rfl⟩
  zero := by intro g h; cases h; exact ⟨by kernel_rfl, Try.t101, (.slice none 0 0), by kernel_rfl, by kernel_rfl, by kernel_rfl⟩
  zone := by intro g h; cases h; exact ⟨Try.t101, (.slice none 0 0), by kernel_rfl, by kernel_rfl, by kernel_rfl⟩
  st := by intro l h; cases h
  ar := by intro n z h; cases h
  int := by intro k h; cases h
  ptr := by intro h; cases h
  str := by intro h; cases h
  bool := by intro h; cases h
  mp := by intro e k h; cases h
theorem tabOk_103 : (tab 103).Ok Try.prog 103 where
  sl := by intro e z b v h; cases h
  ld := by intro b n h; cases h; exact ⟨by kernel_rfl, by kernel_rfl, Try.t103, by kernel_rfl, by kernel_rfl⟩
  zero := by intro g h; cases h; exact ⟨by kernel_rfl, Try.t103, (.nilFunc), by kernel_rfl, by kernel_rfl, by kernel_rfl⟩
  zone := by intro g h; cases h; exact ⟨Try.t103, (.nilFunc), by kernel_rfl, by kernel_rfl, by kernel_rfl⟩
  st := by intro l h; cases h
  ar := by intro n z h; cases h
  int := by intro k h; cases h
  ptr := by intro h; cases h
  str := by intro h; cases h
  bool := by intro h; cases h
  mp := by intro e k h; cases h
theorem tabOk_104 : (tab 104).Ok Try.prog 104 where
  sl := by intro e z b v h; cases h
  ld := by intro b n h; cases h; exact ⟨by kernel_rfl, by kernel_rfl, Try.t104, by kernel_rfl, by kernel_rfl⟩
  zero := by intro g h; cases h; exact ⟨by kernel_rfl, Try.t104, (.nilFunc), by kernel_rfl, by kernel_rfl, by kernel_rfl⟩
  zone := by intro g h; cases h; exact ⟨Try.t104, (.nilFunc), by kernel_rfl, by kernel_rfl, by kernel_rfl⟩
  st := by intro l h; cases h
  ar := by intro n z h; cases h
  int := by intro k h; cases h
  ptr := by intro h; cases h
  str := by intro h; cases h
  bool := by intro h; cases h
  mp := by intro e k h; cases h
theorem tabOk_105 : (tab 105).Ok Try.prog 105 where
  sl := by intro e z b v h; cases h
  ld := by intro b n h; cases h; exact ⟨by kernel_rfl, by kernel_rfl, Try.t105, by kernel_rfl, by kernel_rfl⟩
  zero := by intro g h; cases h; exact ⟨by kernel_rfl, Try.t105, (.nilFunc), by kernel_rfl, by kernel_rfl, by kernel_rfl⟩
  zone := by intro g h; cases h; exact ⟨Try.t105, (.nilFunc), by kernel_rfl, by kernel_rfl, by kernel_rfl⟩
  st := by intro l h; cases h
  ar := by intro n z h; cases h
  int := by intro k h; cases h
  ptr := by intro h; cases h
  str := by intro h; cases h
  bool := by intro h; cases h
  mp := by intro e k h; cases h
theorem tabOk_106 : (tab 106).Ok Try.prog 106 where
  sl := by intro e z b v h; cases h
  ld := by intro b n h; cases h; exact ⟨by kernel_rfl, by kernel_rfl, Try.t106, by kernel_rfl, by kernel_rfl⟩
  zero := by intro g h; cases h; exact ⟨by kernel_rfl, Try.t106, (.agg #[.slice none 0 0, .bool false]), by kernel_rfl, by kernel_rfl, by kernel_rfl⟩
  zone := by intro g h; cases h; exact ⟨Try.t106, (.agg #[.slice none 0 0, .bool false]), by kernel_rfl, by kernel_rfl, by kernel_rfl⟩
  st := by intro l h; cases h; exact ⟨_, Try.underlying106, by kernel_rfl, (by exact all_some (by kernel_rfl)), by kernel_rfl⟩
  ar := by intro n z h; cases h
  int := by intro k h; cases h
  ptr := by intro h; cases h
  str := by intro h; cases h
  bool := by intro h; cases h
  mp := by intro e k h; cases h
theorem tabOk_107 : (tab 107).Ok Try.prog 107 where
  sl := by intro e z b v h; cases h
  ld := by intro b n h; cases h; exact ⟨by kernel_rfl, by kernel_rfl, Try.t107, by kernel_rfl, by kernel_rfl⟩
  zero := by intro g h; cases h; exact ⟨by kernel_rfl, Try.t107, (.agg #[.slice none 0 0, .bool false]), by kernel_rfl, by kernel_rfl, by kernel_rfl⟩
  zone := by intro g h; cases h; exact ⟨Try.t107, (.agg #[.slice none 0 0, .bool false]), by kernel_rfl, by kernel_rfl, by kernel_rfl⟩
  st := by intro l h; cases h; exact ⟨_, Try.underlying107, by kernel_rfl, (by exact all_some (by kernel_rfl)), by kernel_rfl⟩
  ar := by intro n z h; cases h
  int := by intro k h; cases h
  ptr := by intro h; cases h
  str := by intro h; cases h
  bool := by intro h; cases h
  mp := by intro e k h; cases h
theorem tabOk_108 : (tab 108).Ok Try.prog 108 where
  sl := by intro e z b v h; cases h
  ld := by intro b n h; cases h; exact ⟨by kernel_rfl, by kernel_rfl, Try.t108, by kernel_rfl, by kernel_rfl⟩
  zero := by intro g h; cases h; exact ⟨by kernel_rfl, Try.t108, (.nilFunc), by kernel_rfl, by kernel_rfl, by kernel_rfl⟩
  zone := by intro g h; cases h; exact ⟨Try.t108, (.nilFunc), by kernel_rfl, by kernel_rfl, by kernel_rfl⟩
  st := by intro l h; cases h
  ar := by intro n z h; cases h
  int := by intro k h; cases h
  ptr := by intro h; cases h
  str := by intro h; cases h
  bool := by intro h; cases h
  mp := by intro e k h; cases h
theorem tabOk_109 : (tab 109).Ok Try.prog 109 where
  sl := by intro e z b v h; cases h
  ld := by intro b n h; cases h; exact ⟨by kernel_rfl, by kernel_rfl, Try.t109, by kernel_rfl, by kernel_rfl⟩
  zero := by intro g h; cases h; exact ⟨by kernel_rfl, Try.t109, (.agg #[.bool false, .bool false, .int .i64 0, .int .i64 0, .slice none 0 0]), by kernel_rfl, by kernel_rfl, by kernel_rfl⟩
  zone := by intro g h; cases h; exact ⟨Try.t109, (.agg #[.bool false, .bool false, .int .i64 0, .int .i64 0, .slice none 0 0]), by kernel_rfl, by kernel_rfl, by kernel_rfl⟩
  st := by intro l h; cases h; exact ⟨_, Try.underlying109, by kernel_rfl, (by exact all_some (by kernel_rfl)), by kernel_rfl⟩
  ar := by intro n z h; cases h
  int := by intro k h; cases h
  ptr := by intro h; cases h
  str := by intro h; cases h
  bool := by intro h; cases h
  mp := by intro e k h; cases h
theorem tabOk_110 : (tab 110).Ok Try.prog 110 where
  sl := by intro e z b v h; cases h
  ld := by intro b n h; cases h; exact ⟨by kernel_rfl, by kernel_rfl, Try.t110, by kernel_rfl, by kernel_rfl⟩
  zero := by intro g h; cases h; exact ⟨by kernel_rfl, Try.t110, (.agg #[.bool false, .bool false, .int .i64 0, .int .i64 0, .slice none 0 0]), by kernel_rfl, by kernel_rfl, by kernel_rfl⟩
  zone := by intro g h; cases h; exact ⟨Try.t110, (.agg #[.bool false, .bool false, .int .i64 0, .int .i64 0, .slice none 0 0]), by kernel_rfl, by kernel_rfl, by kernel_rfl⟩
  st := by intro l h; cases h; exact ⟨_, Try.underlying110, by kernel_rfl, (by exact all_some (by kernel_rfl)), by kernel_rfl⟩
  ar := by intro n z h; cases h
  int := by intro k h; cases h
  ptr := by intro h; cases h
  str := by intro h; cases h
  bool := by intro h; cases h
  mp := by intro e k h; cases h
theorem tabOk_111 : (tab 111).Ok Try.prog 111 where
  sl := by intro e z b v h; cases h
  ld := by intro b n h; cases h; exact ⟨by kernel_rfl, by kernel_rfl, Try.t111, by kernel_rfl, by kernel_rfl⟩
  zero := by intro g h; cases h; exact ⟨by kernel_rfl, Try.t111, (.nilFunc), by kernel_rfl, by kernel_rfl, by kernel_rfl⟩
  zone := by intro g h; cases h; exact ⟨Try.t111, (.nilFunc), by kernel_rfl, by kernel_rfl, by kernel_rfl⟩
  st := by intro l h; cases h
  ar := by intro n z h; cases h
  int := by intro k h; cases h
  ptr := by intro h; cases h
  str := by intro h; cases h
  bool := by intro h; cases h
  mp := by intro e k h; cases h
theorem tabOk_112 : (tab 112).Ok Try.prog 112 where
  sl := by intro e z b v h; cases h
  ld := by intro b n h; cases h; exact ⟨by kernel_rfl, by kernel_rfl, Try.t112, by kernel_rfl, by kernel_rfl⟩
  zero := by intro g h; cases h; exact ⟨by kernel_rfl, Try.t112, (.pointer none), by kernel_rfl, by kernel_rfl, by kernel_rfl⟩
  zone := by intro g h; cases h; exact ⟨Try.t112, (.pointer none), by kernel_rfl, by kernel_rfl, by kernel_rfl⟩
  st := by intro l h; cases h
  ar := by intro n z h; cases h
  int := by intro k h; cases h
  ptr := by intro _; exact ⟨45, by kernel_rfl⟩
  str := by intro h; cases h
  bool := by intro h; cases h
  mp := by intro e k h; cases h
theorem tabOk_113 : (tab 113).Ok Try.prog 113 where
  sl := by intro e z b v h; cases h
  ld := by intro b n h; cases h; exact ⟨by kernel_rfl, by kernel_rfl, Try.t113, by kernel_rfl, by kernel_rfl⟩
  zero := by intro g h; cases h; exact ⟨by kernel_rfl, Try.t113, (.pointer none), by kernel_rfl, by kernel_rfl, by kernel_rfl⟩
  zone := by intro g h; cases h; exact ⟨Try.t113, (.pointer none), by kernel_rfl, by kernel_rfl, by kernel_rfl⟩
  st := by intro l h; cases h
  ar := by intro n z h; cases h
  int := by intro k h; cases h
  ptr := by intro _; exact ⟨87, by kernel_rfl⟩
  str := by intro h; cases h
  bool := by intro h; cases h
  mp := by intro e k h; cases h
theorem tabOk_114 : (tab 114).Ok Try.prog 114 where
  sl := by intro e z b v h; cases h
  ld := by intro b n h; cases h; exact ⟨by kernel_rfl, by kernel_rfl, Try.t114, by kernel_rfl, by kernel_rfl⟩
  zero := by intro g h; cases h; exact ⟨by kernel_rfl, Try.t114, (.nilFunc), by kernel_rfl, by kernel_rfl, by kernel_rfl⟩
  zone := by intro g h; cases h; exact ⟨Try.t114, (.nilFunc), by kernel_rfl, by kernel_rfl, by kernel_rfl⟩
  st := by intro l h; cases h
  ar := by intro n z h; cases h
  int := by intro k h; cases h
  ptr := by intro h; cases h
  str := by intro h; cases h
  bool := by intro h; cases h
  mp := by intro e k h; cases h
theorem tabOk_115 : (tab 115).Ok Try.prog 115 where
  sl := by intro e z b v h; cases h
  ld := by intro b n h; cases h; exact ⟨by kernel_rfl, by kernel_rfl, Try.t115, by kernel_rfl, by kernel_rfl⟩
  zero := by intro g h; cases h; exact ⟨by kernel_rfl, Try.t115, (.nilFunc), by kernel_rfl, by kernel_rfl, by kernel_rfl⟩
  zone := by intro g h; cases h; exact ⟨Try.t115, (.nilFunc), by kernel_rfl, by kernel_rfl, by kernel_rfl⟩
  st := by intro l h; cases h
  ar := by intro n z h; cases h
  int := by intro k h; cases h
  ptr := by intro h; cases h
  str := by intro h; cases h
  bool := by intro h; cases h
  mp := by intro e k h; cases h
theorem tabOk_116 : (tab 116).Ok Try.prog 116 where
  sl := by intro e z b v h; cases h; exact ⟨by kernel_rfl, Try.t4, by kernel_rfl, by kernel_rfl, by kernel_rfl, by kernel_rfl, by kernel_rfl⟩
  ld := by intro b n h; cases h; exact ⟨by kernel_rfl, by kernel_rfl, Try.t116, by kernel_rfl, by kernel_rfl⟩
  zero := by intro g h; cases h; exact ⟨by kernel_rfl, Try.t116, (.slice none 0 0), by kernel_rfl, by kernel_rfl, by kernel_rfl⟩
  zone := by intro g h; cases h; exact ⟨Try.t116, (.slice none 0 0), by kernel_rfl, by kernel_rfl, by kernel_rfl⟩
  st := by intro l h; cases h
  ar := by intro n z h; cases h
  int := by intro k h; cases h
  ptr := by intro h; cases h
  str := by intro h; cases h
  bool := by intro h; cases h
  mp := by intro e k h; cases h
theorem tabOk_117 : (tab 117).Ok Try.prog 117 where
  sl := by intro e z b v h; cases h
  ld := by intro b n h; cases h; exact ⟨by kernel_rfl, by kernel_rfl, Try.t117, by kernel_rfl, by kernel_rfl⟩
  zero := by intro g h; cases h; exact ⟨by kernel_rfl, Try.t117, (.nilFunc), by kernel_rfl, by kernel_rfl, by kernel_rfl⟩
  zone := by intro g h; cases h; exact ⟨Try.t117, (.nilFunc), by kernel_rfl, by kernel_rfl, by kernel_rfl⟩
  st := by intro l h; cases h
  ar := by intro n z h; cases h
  int := by intro k h; cases h
  ptr := by intro h; cases h
  str := by intro h; cases h
  bool := by intro h; cases h
  mp := by intro e k h; cases h
theorem tabOk_118 : (tab 118).Ok Try.prog 118 where
  sl := by intro e z b v h; cases h
  ld := by intro b n h; cases h; exact ⟨by kernel_rfl, by kernel_rfl, Try.t118, by kernel_rfl, by kernel_rfl⟩
  zero := by intro g h; cases h; exact ⟨by kernel_rfl, Try.t118, (.nilFunc), by kernel_rfl, by kernel_rfl, by kernel_rfl⟩
  zone := by intro g h; cases h; exact ⟨Try.t118, (.nilFunc), by kernel_rfl, by kernel_rfl, by kernel_rfl⟩
  st := by intro l h; cases h
  ar := by intro n z h; cases h
  int := by intro k h; cases h
  ptr := by intro h; cases h
  str := by intro h; cases h
  bool := by intro h; cases h
  mp := by intro e k h; cases h

theorem tabOk : Tab.Ok Try.prog tab := fun t => by
  unfold tab
  split
  · exact tabOk_1
  · exact tabOk_2
  · exact tabOk_3
  · exact tabOk_4
  · exact tabOk_5
  · exact tabOk_6
  · exact tabOk_7
  · exact tabOk_8
  · exact tabOk_9
  · exact tabOk_10
  · exact tabOk_11
  · exact tabOk_12
  · exact tabOk_13
  · exact tabOk_14
  · exact tabOk_15
  · exact tabOk_16
  · exact tabOk_17
  · exact tabOk_18
  · exact tabOk_19
  · exact tabOk_21
  · exact tabOk_22
  · exact tabOk_23
  · exact tabOk_24
  · exact tabOk_25
  · exact tabOk_26
  · exact tabOk_28
  · exact tabOk_29
  · exact tabOk_30
  · exact tabOk_31
  · exact tabOk_32
  · exact tabOk_33
  · exact tabOk_34
  · exact tabOk_35
  · exact tabOk_37
  · exact tabOk_38
  · exact tabOk_40
  · exact tabOk_41
  · exact tabOk_42
  · exact tabOk_43
  · exact tabOk_44
  · exact tabOk_45
  · exact tabOk_46
  · exact tabOk_47
  · exact tabOk_48
  · exact tabOk_49
  · exact tabOk_50
  · exact tabOk_51
  · exact tabOk_52
  · exact tabOk_53
  · exact tabOk_54
  · exact tabOk_55
  · exact tabOk_56
  · exact tabOk_58
  · exact tabOk_60
  · exact tabOk_62
  · exact tabOk_63
  · exact tabOk_64
  · exact tabOk_65
  · exact tabOk_66
  · exact tabOk_67
  · exact tabOk_68
  · exact tabOk_69
  · exact tabOk_70
  · exact tabOk_71
  · exact tabOk_72
  · exact tabOk_73
  · exact tabOk_74
  · exact tabOk_75
  · exact tabOk_76
  · exact tabOk_77
  · exact tabOk_79
  · exact tabOk_80
  · exact tabOk_81
  · exact tabOk_82
  · exact tabOk_83
  · exact tabOk_84
  · exact tabOk_85
  · exact tabOk_86
  · exact tabOk_87
  · exact tabOk_88
  · exact tabOk_89
  · exact tabOk_90
  · exact tabOk_91
  · exact tabOk_92
  · exact tabOk_93
  · exact tabOk_94
  · exact tabOk_95
  · exact tabOk_96
  · exact tabOk_97
  · exact tabOk_98
  · exact tabOk_99
  · exact tabOk_100
  · exact tabOk_101
  · exact tabOk_103
  · exact tabOk_104
  · exact tabOk_105
  · exact tabOk_106
  · exact tabOk_107
  · exact tabOk_108
  · exact tabOk_109
  · exact tabOk_110
  · exact tabOk_111
  · exact tabOk_112
  · exact tabOk_113
  · exact tabOk_114
  · exact tabOk_115
  · exact tabOk_116
  · exact tabOk_117
  · exact tabOk_118
  · exact ⟨(by intro e z b v h; cases h), (by intro b n h; cases h), (by intro g h; cases h), (by intro g h; cases h), (by intro l h; cases h), (by intro n z h; cases h), (by intro k h; cases h), (by intro h; cases h), (by intro h; cases h), (by intro h; cases h), (by intro e k h; cases h)⟩

theorem mixedOk : Try.prog.follows .mixedOrders = true := by kernel_rfl

end Go.Proofs.Ytkkbcpcihadkhaa

/- The iterator of slices.Backward over numbers. -/
namespace Go.Proofs.Ytkkbcpcihadkhaa
set_option linter.all false
open Go.RowKit Go.Shelf Go.Proofs Go

attribute [local go_sem] Oper.semAt_some

/-- This slice value holds these numbers; or it is nil and there are none. -/
def Ints (W : World) (sv : Value) (zs : List Int) : Prop :=
  (∃ n c, sv = .slice none n c ∧ n = 0 ∧ zs = []) ∨ ∃ b off cap, sv = .slice (some ⟨b, off, none⟩) zs.length cap ∧ ∀ j, j < zs.length → W.cell? ⟨b, off + j, none⟩ = some (.int .i64 (zs[j]?.getD 0))

set_option maxRecDepth 100000 in
set_option maxHeartbeats 2000000 in
theorem back_in (n : Nat) (hn : 1 ≤ n) (lo Bs Bo : Nat) (zs : List Int) (hz : zs.length ≤ 1000000) (J : Nat → World → Prop)
    (hY : ∀ j W, J j W → j < zs.length → YieldAt Fence.wide (n - 1) Try.prog lo #[.int .i64 ((zs.length - 1 - j : Nat) : Int), .int .i64 (zs[zs.length - 1 - j]?.getD 0)] W fun e W' => e = .returned (.bool true) ∧ J (j + 1) W')
    (hread : ∀ j W, J j W → ∃ sv, W.cell? ⟨Bs, Bo, none⟩ = some sv ∧ Ints W sv zs) (W : World) (h0 : J 0 W) :
    CallsIn Fence.wide n Try.prog 100 #[.func (.yield lo) #[] #[], .pointer (some ⟨Bs, Bo, none⟩)] W fun e W' => (∃ v, e = .returned v) ∧ J zs.length W' := by
  refine callsIn_of_wp Try.func100 rfl trivial ?_ rfl
  simp only [Try.ntmps100, List.size_toArray, List.length_cons, List.length_nil, Nat.reduceAdd, Nat.reduceSub, Array.replicate_succ, Array.replicate_zero, List.push_toArray, List.append_toArray, List.nil_append, List.cons_append]
  obtain ⟨sv, hb, hi⟩ := hread 0 W h0
  obtain ⟨A, cap, rfl⟩ : ∃ A cap, sv = .slice A zs.length cap := by
    rcases hi with ⟨n, c, rfl, rfl, rfl⟩ | ⟨b, off, cap, rfl, _⟩
    · exact ⟨_, _, rfl⟩
    · exact ⟨_, _, rfl⟩
  gi_wp2
  gi_loopw [3] (fun i wr => ∃ k : Nat, k ≤ zs.length ∧ i = .int .i64 ((zs.length : Int) - 1 - k) ∧ J k wr) (fun i _ => (intOf i + 1).toNat)
  case atStart => exact ⟨0, Nat.zero_le _, by simp, h0⟩
  case round =>
    obtain ⟨k, hk, rfl, hJ⟩ := hrel
    by_cases hlt : k < zs.length
    · obtain ⟨m, hm⟩ : ∃ m : Nat, m = zs.length - 1 - k := ⟨_, rfl⟩
      have hmi : (zs.length : Int) - 1 - k = (m : Int) := by omega
      rw [hmi]
      obtain ⟨sv, hb', hi'⟩ := hread k wr hJ
      rcases hi' with ⟨_, _, _, _, e⟩ | ⟨b, off, cap', rfl, hc⟩
      · rw [e] at hlt; simp at hlt
      have hml : m < zs.length := by omega
      have hcx := hc m hml
      obtain ⟨fn, tmps, assign, body, hy, hR⟩ := hY k wr hJ hlt
      rw [← hm] at hy
      clear hm
      have hel : zs[m]?.getD 0 = zs[m] := by simp [hml]
      rw [hel] at hy hcx
      gi_wp2
      refine hR.mono ?_
      rintro e W3 ⟨rfl, hJ3⟩
      gi_wp2
      go_roundw
      case rel => exact ⟨k + 1, by omega, by simp <;> omega, hJ3⟩
      case measure => simp [intOf] <;> omega
    · obtain rfl : k = zs.length := by omega
      gi_wp2
      go_end0
      exact ⟨⟨_, rfl⟩, hJ⟩
end Go.Proofs.Ytkkbcpcihadkhaa

/- The iterator of slices.Backward, as the loop's rule wants it. -/
namespace Go.Proofs.Ytkkbcpcihadkhaa
set_option linter.all false
open Go.Vc Go.Proofs Go

/-- These captured values are a box with these numbers. -/
def RdB (l : List Int) (lbs : List Value) (W : World) : Prop := ∃ Bs Bo sv, lbs = [.pointer (some ⟨Bs, Bo, none⟩)] ∧ W.cell? ⟨Bs, Bo, none⟩ = some sv ∧ Ints W sv l
theorem back_iter (l : List Int) (hz : l.length ≤ 1000000) (lbs : List Value) :
    IterC Try.prog 100 lbs.toArray l.length (fun j => #[.int .i64 ((l.length - 1 - j : Nat) : Int), .int .i64 (l[l.length - 1 - j]?.getD 0)]) (RdB l lbs) := by
  intro n hn lo J hY hrd W h0
  obtain ⟨Bs, Bo, sv, rfl, _, _⟩ := hrd 0 W h0
  refine back_in n hn lo Bs Bo l hz J hY (fun j W h => ?_) W h0
  obtain ⟨Bs', Bo', sv', e, h1, h2⟩ := hrd j W h
  simp only [List.cons.injEq, Value.pointer.injEq, Option.some.injEq, Addr.mk.injEq, and_true] at e
  obtain ⟨rfl, rfl⟩ := e
  exact ⟨sv', h1, h2⟩

theorem erase_dInts {s : G} : ∀ {l : List Int}, s.erase = dInts l → s.cells = l.map (Value.int .i64)
  | l, h => by
    induction l generalizing s with
    | nil => cases s <;> simp [dInts, sq, T.erase] at h; rfl
    | cons x l ih =>
      cases s <;> simp [dInts, sq, T.erase, dInt] at h
      rename_i a t
      obtain ⟨h1, h2⟩ := h
      have h3 : t.cells = l.map (Value.int .i64) := ih (by simpa [dInts, dInt] using h2)
      cases a <;> simp [T.erase] at h1
      subst h1
      simp [T.cells, h3]

theorem read_box {W : World} {I : Nat → Prop} {F : List G} {k : Nat} {X : List D} {l : List Int} {lbs : List Value} (hX : F.map T.erase = X) (hk : X[k]? = some (.box true () (.sl false () 1 (dInts l))))
    (hh : ∀ g ∈ F, T.Holds W.heap I g) (hr : Rl W.heap I F (.cons (.ptr k [.d]) .nil) true lbs) : RdB l lbs W := by
  rw [← hX, List.getElem?_map] at hk
  cases hg : F[k]? with
  | none => rw [hg] at hk; cases hk
  | some g =>
    rw [hg] at hk
    simp only [Option.map_some, Option.some.injEq] at hk
    have hhg := hh g (List.mem_of_getElem? hg)
    obtain ⟨a, x, rfl, hx⟩ : ∃ a x, g = .box true a x ∧ x.erase = .sl false () 1 (dInts l) := by
      cases g <;> simp [T.erase] at hk
      rename_i o a x
      exact ⟨a, x, by rw [hk.1], hk.2⟩
    obtain ⟨v, s, rfl, hs⟩ : ∃ v s, x = .sl false v 1 s ∧ s.erase = dInts l := by
      cases x <;> simp [T.erase] at hx
      rename_i o v z s
      exact ⟨v, s, by rw [hx.1, hx.2.1], hx.2.2⟩
    have hcs := erase_dInts hs
    obtain ⟨hsl, _, hbx⟩ := hhg
    split at hbx
    case h_2 => exact hbx.elim
    rename_i y
    obtain ⟨y1, _, _, row, e, fr, r1, r2⟩ := hbx
    obtain ⟨yb, yo, ys⟩ := y
    simp only at y1
    subst y1
    obtain ⟨v1, vs', rfl, hv1, hv2⟩ := hr
    obtain ⟨b, o, hl, hv1⟩ := hv1
    have hv1 : v1 = .pointer (some ⟨b, o, none⟩) := by simpa using hv1
    have hv2 : vs' = [] := hv2
    subst hv1; subst hv2
    have hbo : b = yb ∧ o = yo := by
      simp [locF, hg, T.loc, T.headAt] at hl
      exact ⟨hl.1.symm, hl.2.symm⟩
    obtain ⟨rfl, rfl⟩ := hbo
    refine ⟨b, o, v, rfl, ?_, ?_⟩
    · have := r2 0 v (by simp [T.cells])
      simp only [Nat.add_zero] at this
      simp [World.cell?, r1, this]
    · obtain ⟨_, _, _, hsv⟩ := hsl
      have hlen : s.len = l.length := by rw [← T.erase_len, hs]; simp
      split at hsv
      · rename_i n c _
        have : l = [] := List.eq_nil_of_length_eq_zero (by omega)
        exact .inl ⟨n, c, rfl, hsv.1, this⟩
      · rename_i x n _
        obtain ⟨h1, h2, h3⟩ := hsv
        obtain ⟨xb, xo, xs⟩ := x
        simp only at h2
        subst h2; subst h1
        have : l = [] := List.eq_nil_of_length_eq_zero (by omega)
        subst this
        exact .inr ⟨xb, xo, 0, rfl, fun j hj => by simp at hj⟩
      · rename_i x n c _
        obtain ⟨h1, h2, _, _, _, row', e', fr', q1, _, _, q2⟩ := hsv
        obtain ⟨xb, xo, xs⟩ := x
        simp only at h1
        subst h1
        rw [hlen] at h2
        subst h2
        refine .inr ⟨xb, xo, c + 1, rfl, fun j hj => ?_⟩
        have := q2 j (.int .i64 l[j]) (by rw [hcs]; simp [hj])
        simp [World.cell?, q1, this, hj]
      · exact hsv.elim
end Go.Proofs.Ytkkbcpcihadkhaa

/- How houses are laid. -/
namespace Go.Proofs.Ytkkbcpcihadkhaa
set_option linter.all false
open Go.Vc Go.Proofs

abbrev avInt (n : Int) : AV := .val (.int .i64 n)
abbrev avBool (b : Bool) : AV := .val (.bool b)
abbrev avTwo (a : AV) (e : Int) : AV := .tup (.cons a (.cons (avInt e) .nil))
abbrev two (x : Int × Int) : AV := avTwo (avInt x.1) x.2
abbrev avNil : AV := .val (.pointer none)
@[simp] theorem dInts_nil : dInts [] = .nil := rfl
theorem freeze_sq (l : List D) : (sq l).freeze = sq (l.map T.freeze) := by
  induction l with
  | nil => rfl
  | cons a l ih => simp [sq, T.freeze, ih]
@[simp] theorem freeze_ints (l : List Int) : (dInts l).freeze = dInts l := by
  rw [dInts, freeze_sq, List.map_map]; rfl
@[simp] theorem dInts_mid_all (l : List Int) : (dInts l).mid 0 l.length = dInts l := sq_mid_all _ _ (by simp)
theorem dInts_mid (l : List Int) (lo n : Nat) : (dInts l).mid lo n = dInts ((l.drop lo).take n) := by simp only [dInts, sq_mid, ← List.map_drop, ← List.map_take]
theorem dInts_app (l m : List Int) : (dInts l).app (dInts m) = dInts (l ++ m) := by simp only [dInts, sq_app, List.map_append]
theorem dInts_app1 (l : List Int) (x : Int) : (dInts l).app (.cons (.val (.int .i64 x)) .nil) = dInts (l ++ [x]) := dInts_app l [x]
theorem dInts_set (l : List Int) (i : Nat) (x : Int) : (dInts l).setN i (.val (.int .i64 x)) = dInts (l.set i x) := by simp only [dInts, sq_setN, List.map_set]; rfl

/-- A list of truth values. -/
def dBools (l : List Bool) : D := sq (l.map fun b => .val (.bool b))
@[simp] theorem dBools_len (l : List Bool) : (dBools l).len = l.length := by simp [dBools]
@[simp] theorem dBools_free (l : List Bool) : (dBools l).free = true := sq_free fun x hx => by obtain ⟨n, _, rfl⟩ := List.mem_map.1 hx; simp
theorem dBools_nth {l : List Bool} {i : Nat} (h : i < l.length) : (dBools l).nth i = .val (.bool l[i]) := by
  rw [dBools, sq_nth_lt (by simpa using h)]; simp
theorem dBools_set (l : List Bool) (i : Nat) (b : Bool) : (dBools l).setN i (.val (.bool b)) = dBools (l.set i b) := by simp only [dBools, sq_setN, List.map_set]
theorem zeros_bools (n : Nat) : (sq (List.replicate n (.val (.bool false))) : D) = dBools (List.replicate n false) := by simp [dBools]
@[simp] theorem dBools_mid_all (l : List Bool) : (dBools l).mid 0 l.length = dBools l := sq_mid_all _ _ (by simp)

/-- An isolate. -/
structure Rm where
  queue : List Int
  over : Bool
/-- A thing. -/
structure Tg where
  owner : Int
  list : Bool
  word : Int
  items : List Int
  frozen : Bool
structure Hs where
  rooms : List Rm
  things : List Tg

def dRm (o : Bool) (r : Rm) : D := .agg (.cons (.sl o () 1 (dInts r.queue)) (.cons (.val (.bool r.over)) .nil))
def dTg (o : Bool) (t : Tg) : D := .agg (.cons (.val (.int .i64 t.owner)) (.cons (.val (.bool t.list)) (.cons (.val (.int .i64 t.word)) (.cons (.sl o () 1 (dInts t.items)) (.cons (.val (.bool t.frozen)) .nil)))))
def dRms (o : Bool) (l : List Rm) : D := sq (l.map (dRm o))
def dTgs (o : Bool) (l : List Tg) : D := sq (l.map (dTg o))
/-- A house that can change, and one that cannot. -/
def dH (h : Hs) : D := .box true () (.agg (.cons (.sl true () 2 (dRms true h.rooms)) (.cons (.sl true () 5 (dTgs true h.things)) .nil)))
def dHI (h : Hs) : D := .agg (.cons (.sl false () 2 (dRms false h.rooms)) (.cons (.sl false () 5 (dTgs false h.things)) .nil))
@[simp high] theorem head_dH (h : Hs) : isHead (dH h) = true := by rw [dH, isHead]
@[simp] theorem dRms_len (o : Bool) (l : List Rm) : (dRms o l).len = l.length := by simp [dRms]
@[simp] theorem dTgs_len (o : Bool) (l : List Tg) : (dTgs o l).len = l.length := by simp [dTgs]
@[simp] theorem dRms_free (l : List Rm) : (dRms false l).free = true := sq_free fun x hx => by obtain ⟨n, _, rfl⟩ := List.mem_map.1 hx; simp [dRm]
@[simp] theorem dTgs_free (l : List Tg) : (dTgs false l).free = true := sq_free fun x hx => by obtain ⟨n, _, rfl⟩ := List.mem_map.1 hx; simp [dTg]
theorem dRms_nth {o : Bool} {l : List Rm} {i : Nat} (h : i < l.length) : (dRms o l).nth i = .agg (.cons (.sl o () 1 (dInts l[i].queue)) (.cons (.val (.bool l[i].over)) .nil)) := by
  rw [dRms, sq_nth_lt (by simpa using h)]; simp; rfl
theorem dTgs_nth {o : Bool} {l : List Tg} {i : Nat} (h : i < l.length) : (dTgs o l).nth i = .agg (.cons (.val (.int .i64 l[i].owner)) (.cons (.val (.bool l[i].list)) (.cons (.val (.int .i64 l[i].word)) (.cons (.sl o () 1 (dInts l[i].items)) (.cons (.val (.bool l[i].frozen)) .nil))))) := by
  rw [dTgs, sq_nth_lt (by simpa using h)]; simp; rfl
theorem dRms_set (o : Bool) (l : List Rm) (i : Nat) (r : Rm) : (dRms o l).setN i (.agg (.cons (.sl o () 1 (dInts r.queue)) (.cons (.val (.bool r.over)) .nil))) = dRms o (l.set i r) := by
  simp only [dRms, sq_setN, List.map_set]; rfl
theorem dTgs_set (o : Bool) (l : List Tg) (i : Nat) (t : Tg) : (dTgs o l).setN i (.agg (.cons (.val (.int .i64 t.owner)) (.cons (.val (.bool t.list)) (.cons (.val (.int .i64 t.word)) (.cons (.sl o () 1 (dInts t.items)) (.cons (.val (.bool t.frozen)) .nil)))))) = dTgs o (l.set i t) := by
  simp only [dTgs, sq_setN, List.map_set]; rfl
theorem dTgs_push (o : Bool) (l : List Tg) (t : Tg) : (dTgs o l).app (.cons (.agg (.cons (.val (.int .i64 t.owner)) (.cons (.val (.bool t.list)) (.cons (.val (.int .i64 t.word)) (.cons (.sl o () 1 (dInts t.items)) (.cons (.val (.bool t.frozen)) .nil)))))) .nil) = dTgs o (l ++ [t]) := by
  simp only [dTgs, List.map_append, ← sq_app]; rfl
@[simp] theorem dRms_mid_all (o : Bool) (l : List Rm) : (dRms o l).mid 0 l.length = dRms o l := sq_mid_all _ _ (by simp)
@[simp] theorem dTgs_mid_all (o : Bool) (l : List Tg) : (dTgs o l).mid 0 l.length = dTgs o l := sq_mid_all _ _ (by simp)
theorem freeze_rms (l : List Rm) : (dRms true l).freeze = dRms false l := by
  rw [dRms, freeze_sq, dRms, List.map_map]
  congr 1
  exact List.map_congr_left fun r _ => by simp [dRm, T.freeze]
theorem freeze_tgs (l : List Tg) : (dTgs true l).freeze = dTgs false l := by
  rw [dTgs, freeze_sq, dTgs, List.map_map]
  congr 1
  exact List.map_congr_left fun r _ => by simp [dTg, T.freeze]
theorem freeze_h (h : Hs) : ∃ d, dH h = .box true () d ∧ d.freeze = dHI h := ⟨_, rfl, by simp only [T.freeze, dHI, freeze_rms, freeze_tgs]⟩
end Go.Proofs.Ytkkbcpcihadkhaa

/- What is asked of a house that cannot change. -/
namespace Go.Proofs.Ytkkbcpcihadkhaa
set_option linter.all false
open Go.Vc Go.Proofs
set_option linter.unusedSimpArgs false
set_option linter.unusedVariables false
set_option maxRecDepth 100000
set_option maxHeartbeats 4000000
attribute [local irreducible] CallW EqK

/-- A box of a house that cannot change. -/
def dHB (h : Hs) : D := .box true () (.box false () (dHI h))
@[simp high] theorem head_dHB (h : Hs) : isHead (dHB h) = true := by rw [dHB, isHead]
abbrev avH (h : Hs) : AV := .iptr (dHI h)
def isR (h : Hs) (who : Int) : Bool := decide (0 ≤ who ∧ who < h.rooms.length)
def isT (h : Hs) (x : Int) : Bool := decide (0 ≤ x ∧ x < h.things.length)

/- (*cabochon/isolate.House).is -/
theorem is_ok (h : Hs) (who : Int) : Meets Try.prog 50 [] (.cons (avH h) (.cons (avInt who) .nil)) fun av X κ => av = avBool (isR h who) ∧ X = [] ∧ κ = [] := by
  refine Meets.of_vs tabOk Try.func50 (body := ?_) ?_ (by kernel_rfl) Try.ntmps50 (rs := [.tmp 4]) (by kernel_rfl) rfl (by simp [AV.len]) (by simp only [envOf]; exact rfl) ?_
  rotate_left
  · rfl
  intro w0 I0 F0 hF
  by_cases h1 : 0 ≤ who
  · by_cases h2 : who < h.rooms.length
    · repeat first
        | refine VS.seq ?_
        | (refine VS.keepAt 0 [0, 1] ?_; generalize hK : VS _ _ _ = KK; (try simp); (try subst hK); refine VS.region tabOk (id := 0) [] (by kernel_rfl) ?_; generalize hK : VS _ _ _ = KK; simp (maxSteps := 1000000) [hF, dHI, h1, h2]; (try subst hK); try (refine VS.keep [0, 1] ?_; generalize hK : VS _ _ _ = KK; simp; (try subst hK)))
        | (refine VS.keepAt 1 [0, 1] ?_; generalize hK : VS _ _ _ = KK; (try simp); (try subst hK); refine VS.region tabOk (id := 1) [(2, 7), (6, 11)] (by kernel_rfl) ?_; generalize hK : VS _ _ _ = KK; simp (maxSteps := 1000000) [hF, dHI, h1, h2]; (try subst hK); try (refine VS.keep [4] ?_; generalize hK : VS _ _ _ = KK; simp; (try subst hK)))
      try refine VS.ret ?_
      repeat first | refine blockN_ret ?_ | refine loopN_ret ?_
      refine endK.of [4] [] [] (by simp [hF]) (by simp [covers, mpre]) ?_
      simp [hF, retK, isR, h1, h2]
    · repeat first
        | refine VS.seq ?_
        | (refine VS.keepAt 0 [0, 1] ?_; generalize hK : VS _ _ _ = KK; (try simp); (try subst hK); refine VS.region tabOk (id := 0) [] (by kernel_rfl) ?_; generalize hK : VS _ _ _ = KK; simp (maxSteps := 1000000) [hF, dHI, h1, h2]; (try subst hK); try (refine VS.keep [0, 1] ?_; generalize hK : VS _ _ _ = KK; simp; (try subst hK)))
        | (refine VS.keepAt 1 [0, 1] ?_; generalize hK : VS _ _ _ = KK; (try simp); (try subst hK); refine VS.region tabOk (id := 1) [(2, 7), (6, 11)] (by kernel_rfl) ?_; generalize hK : VS _ _ _ = KK; simp (maxSteps := 1000000) [hF, dHI, h1, h2]; (try subst hK); try (refine VS.keep [4] ?_; generalize hK : VS _ _ _ = KK; simp; (try subst hK)))
      try refine VS.ret ?_
      repeat first | refine blockN_ret ?_ | refine loopN_ret ?_
      refine endK.of [4] [] [] (by simp [hF]) (by simp [covers, mpre]) ?_
      simp [hF, retK, isR, h1, h2]
  · repeat first
      | refine VS.seq ?_
      | (refine VS.keepAt 0 [0, 1] ?_; generalize hK : VS _ _ _ = KK; (try simp); (try subst hK); refine VS.region tabOk (id := 0) [] (by kernel_rfl) ?_; generalize hK : VS _ _ _ = KK; simp (maxSteps := 1000000) [hF, dHI, h1]; (try subst hK); try (refine VS.keep [0, 1] ?_; generalize hK : VS _ _ _ = KK; simp; (try subst hK)))
      | (refine VS.keepAt 1 [0, 1] ?_; generalize hK : VS _ _ _ = KK; (try simp); (try subst hK); refine VS.region tabOk (id := 1) [(2, 7), (6, 11)] (by kernel_rfl) ?_; generalize hK : VS _ _ _ = KK; simp (maxSteps := 1000000) [hF, dHI, h1]; (try subst hK); try (refine VS.keep [4] ?_; generalize hK : VS _ _ _ = KK; simp; (try subst hK)))
    try refine VS.ret ?_
    repeat first | refine blockN_ret ?_ | refine loopN_ret ?_
    refine endK.of [4] [] [] (by simp [hF]) (by simp [covers, mpre]) ?_
    simp [hF, retK, isR, h1]

/- (*cabochon/isolate.House).has$1 -/
theorem has1_ok (h : Hs) (x : Int) : Meets Try.prog 77 [dHB h] (.cons (avInt x) (.cons (.ptr 0 [.d]) .nil)) fun av X κ => av = avBool (!isT h x) ∧ X = [dHB h] ∧ κ = [] := by
  refine Meets.of_vs tabOk Try.func77 (body := ?_) ?_ (by kernel_rfl) Try.ntmps77 (rs := [.tmp 3]) (by kernel_rfl) rfl (by simp [AV.len]) (by simp only [envOf]; exact rfl) ?_
  rotate_left
  · rfl
  intro w0 I0 F0 hF
  by_cases h1 : x < 0
  · have h0 : ¬ 0 ≤ x := by omega
    repeat first
      | refine VS.seq ?_
      | (refine VS.keepAt 0 [0, 1] ?_; generalize hK : VS _ _ _ = KK; (try simp); (try subst hK); refine VS.region tabOk (id := 0) [] (by kernel_rfl) ?_; generalize hK : VS _ _ _ = KK; simp (maxSteps := 1000000) [hF, dHB, dHI, h1]; (try subst hK); try (refine VS.keep [0, 1] ?_; generalize hK : VS _ _ _ = KK; simp; (try subst hK)))
      | (refine VS.keepAt 1 [0, 1] ?_; generalize hK : VS _ _ _ = KK; (try simp); (try subst hK); refine VS.region tabOk (id := 1) [(2, 6)] (by kernel_rfl) ?_; generalize hK : VS _ _ _ = KK; simp (maxSteps := 1000000) [hF, dHB, dHI, h1]; (try subst hK); try (refine VS.keep [3] ?_; generalize hK : VS _ _ _ = KK; simp; (try subst hK)))
    try refine VS.ret ?_
    repeat first | refine blockN_ret ?_ | refine loopN_ret ?_
    refine endK.of [3] [0] [] (by simp [hF]) (by simp [covers, mpre]) ?_
    simp [hF, retK, dHB, dHI, isT, h0]
  · have h0 : 0 ≤ x := by omega
    by_cases h2 : (h.things.length : Int) ≤ x
    · have h3 : ¬ x < h.things.length := by omega
      repeat first
        | refine VS.seq ?_
        | (refine VS.keepAt 0 [0, 1] ?_; generalize hK : VS _ _ _ = KK; (try simp); (try subst hK); refine VS.region tabOk (id := 0) [] (by kernel_rfl) ?_; generalize hK : VS _ _ _ = KK; simp (maxSteps := 1000000) [hF, dHB, dHI, h1, h2]; (try subst hK); try (refine VS.keep [0, 1] ?_; generalize hK : VS _ _ _ = KK; simp; (try subst hK)))
        | (refine VS.keepAt 1 [0, 1] ?_; generalize hK : VS _ _ _ = KK; (try simp); (try subst hK); refine VS.region tabOk (id := 1) [(2, 6)] (by kernel_rfl) ?_; generalize hK : VS _ _ _ = KK; simp (maxSteps := 1000000) [hF, dHB, dHI, h1, h2]; (try subst hK); try (refine VS.keep [3] ?_; generalize hK : VS _ _ _ = KK; simp; (try subst hK)))
      try refine VS.ret ?_
      repeat first | refine blockN_ret ?_ | refine loopN_ret ?_
      refine endK.of [3] [0] [] (by simp [hF]) (by simp [covers, mpre]) ?_
      simp [hF, retK, dHB, dHI, isT, h3]
    · have h3 : x < h.things.length := by omega
      repeat first
        | refine VS.seq ?_
        | (refine VS.keepAt 0 [0, 1] ?_; generalize hK : VS _ _ _ = KK; (try simp); (try subst hK); refine VS.region tabOk (id := 0) [] (by kernel_rfl) ?_; generalize hK : VS _ _ _ = KK; simp (maxSteps := 1000000) [hF, dHB, dHI, h1, h2]; (try subst hK); try (refine VS.keep [0, 1] ?_; generalize hK : VS _ _ _ = KK; simp; (try subst hK)))
        | (refine VS.keepAt 1 [0, 1] ?_; generalize hK : VS _ _ _ = KK; (try simp); (try subst hK); refine VS.region tabOk (id := 1) [(2, 6)] (by kernel_rfl) ?_; generalize hK : VS _ _ _ = KK; simp (maxSteps := 1000000) [hF, dHB, dHI, h1, h2]; (try subst hK); try (refine VS.keep [3] ?_; generalize hK : VS _ _ _ = KK; simp; (try subst hK)))
      try refine VS.ret ?_
      repeat first | refine blockN_ret ?_ | refine loopN_ret ?_
      refine endK.of [3] [0] [] (by simp [hF]) (by simp [covers, mpre]) ?_
      simp [hF, retK, dHB, dHI, isT, h0, h3]
end Go.Proofs.Ytkkbcpcihadkhaa

/- slices.Index, Contains, IndexFunc, ContainsFunc and Clone of numbers. -/
namespace Go.Proofs.Ytkkbcpcihadkhaa
set_option linter.all false
open Go.Vc Go.Proofs
set_option linter.unusedSimpArgs false
set_option linter.unusedVariables false
set_option maxRecDepth 100000
set_option maxHeartbeats 4000000
attribute [local irreducible] CallW EqK

/-- The first that is so. -/
def ixF {α : Type} (p : α → Bool) (l : List α) : Int := if l.any p then (l.findIdx p : Int) else -1

theorem ixF_hit {α : Type} {p : α → Bool} {l : List α} {i : Nat} (hi : i < l.length) (hall : ∀ j, (h : j < i) → p (l[j]'(by omega)) = false) (hp : p l[i] = true) : ixF p l = i := by
  have h1 : l.any p = true := List.any_eq_true.2 ⟨_, List.getElem_mem hi, hp⟩
  have h2 : l.findIdx p = i := (List.findIdx_eq hi).2 ⟨hp, fun j hj => hall j hj⟩
  rw [ixF, if_pos h1, h2]
theorem ixF_miss {α : Type} {p : α → Bool} {l : List α} (hall : ∀ j, (h : j < l.length) → p l[j] = false) : ixF p l = -1 := by
  have h1 : ¬ l.any p = true := by
    rw [List.any_eq_true]
    rintro ⟨x, hx, hp⟩
    obtain ⟨i, hi, rfl⟩ := List.getElem_of_mem hx
    rw [hall i hi] at hp; cases hp
  rw [ixF, if_neg h1]
theorem ixF_ge {α : Type} {p : α → Bool} {l : List α} : (0 ≤ ixF p l) = (l.any p = true) := by
  unfold ixF
  by_cases h : l.any p = true
  · rw [if_pos h]; simp [h]
  · rw [if_neg h]; simp [h]
theorem ixF_lt {α : Type} {p : α → Bool} {l : List α} : ixF p l < l.length := by
  unfold ixF
  split
  · rename_i h
    have := List.findIdx_lt_length_of_exists (p := p) (xs := l) (by simpa using h)
    omega
  · omega
theorem ixF_low {α : Type} {p : α → Bool} {l : List α} : -1 ≤ ixF p l := by unfold ixF; split <;> omega

def hasN (l : List Int) (v : Int) : Bool := l.any fun x => decide (x = v)
theorem hasN_iff {l : List Int} {v : Int} : hasN l v = true ↔ v ∈ l := by simp [hasN]

/- slices.Index[[]int,int] -/
theorem index_ok (ex : Bool) (l : List Int) (v : Int) (hl : l.length ≤ 100000000) : Meets Try.prog 44 [] (.cons (.imm 1 (dInts l) ex) (.cons (avInt v) .nil))
    fun av X κ => av = avInt (ixF (fun x => decide (x = v)) l) ∧ X = [] ∧ κ = [] := by
  refine Meets.of_vs tabOk Try.func44 (body := ?_) ?_ (by kernel_rfl) Try.ntmps44 (rs := [.tmp 4]) (by kernel_rfl) rfl (by simp [AV.len]) (by simp only [envOf]; exact rfl) ?_
  rotate_left
  · rfl
  intro w0 I0 F0 hF
  repeat first
    | refine VS.seq ?_
    | refine VS.block ?_
    | (refine VS.keepAt 0 [0, 1] ?_; generalize hK : VS _ _ _ = KK; (try simp); (try subst hK); refine VS.region tabOk (id := 0) [] (by kernel_rfl) ?_; generalize hK : VS _ _ _ = KK; simp (maxSteps := 1000000) [hF]; (try subst hK); try (refine VS.keep [0, 1] ?_; generalize hK : VS _ _ _ = KK; simp; (try subst hK)))
    | (refine VS.keepAt 1 [0, 1] ?_; generalize hK : VS _ _ _ = KK; (try simp); (try subst hK); refine VS.region tabOk (id := 1) [] (by kernel_rfl) ?_; generalize hK : VS _ _ _ = KK; simp (maxSteps := 1000000) [hF]; (try subst hK); try (refine VS.keep [0, 1, 7, 8] ?_; generalize hK : VS _ _ _ = KK; simp; (try subst hK)))
  refine VS.rounds (fun m st => ∃ (i : Nat), i + m = l.length ∧ (∀ j, (h : j < l.length) → j < i → ¬ l[j] = v) ∧ st = ⟨[(0, .imm 1 (dInts l) ex), (1, avInt v), (7, avInt l.length), (8, avInt i)], [], [], []⟩) ⟨l.length, 0, by omega, by omega, by simp⟩ ?_
  rintro m st ⟨i, hi, hall, rfl⟩
  repeat first
    | refine VS.seq ?_
    | (refine VS.keepAt 2 [0, 1, 7, 8] ?_; generalize hK : VS _ _ _ = KK; (try simp); (try subst hK); refine VS.region tabOk (id := 2) [] (by kernel_rfl) ?_; generalize hK : VS _ _ _ = KK; simp (maxSteps := 1000000) [hF]; (try subst hK); try (refine VS.keep [0, 1, 7, 8, 9] ?_; generalize hK : VS _ _ _ = KK; simp; (try subst hK)))
    | (refine VS.cond ?_; generalize hK1 : VS _ _ _ = KK1; generalize hK2 : VS _ _ _ = KK2; simp (maxSteps := 1000000) [hF]; (try subst hK1); (try subst hK2))
  refine ⟨fun hlt => ?_, fun hge => ?_⟩
  · have hi' : i < l.length := by omega
    have hn := dInts_nth hi'
    repeat first
      | refine VS.seq ?_
      | refine VS.skip ?_
      | refine VS.block ?_
      | (refine VS.keepAt 3 [0, 1, 7, 8] ?_; generalize hK : VS _ _ _ = KK; (try simp); (try subst hK); refine VS.region tabOk (id := 3) [] (by kernel_rfl) ?_; generalize hK : VS _ _ _ = KK; simp (maxSteps := 1000000) [hF, hn, hi']; (try subst hK); try (refine VS.keep [0, 1, 5, 7, 8] ?_; generalize hK : VS _ _ _ = KK; simp; (try subst hK)))
      | (refine VS.keepAt 4 [0, 1, 5, 7, 8] ?_; generalize hK : VS _ _ _ = KK; (try simp); (try subst hK); refine VS.region tabOk (id := 4) [] (by kernel_rfl) ?_; generalize hK : VS _ _ _ = KK; simp (maxSteps := 1000000) [hF, hn, hi']; (try subst hK); try (refine VS.keep [0, 1, 5, 7, 8, 16] ?_; generalize hK : VS _ _ _ = KK; simp; (try subst hK)))
      | (refine VS.cond ?_; generalize hK1 : VS _ _ _ = KK1; generalize hK2 : VS _ _ _ = KK2; simp (maxSteps := 1000000) [hF, hn, hi']; (try subst hK1); (try subst hK2))
    refine ⟨fun he => ?_, fun he => ?_⟩
    · have hr : ixF (fun x => decide (x = v)) l = i := ixF_hit hi' (fun j h => by simpa using hall j (by omega) h) (by simpa using he.symm)
      repeat first
        | refine VS.seq ?_
        | (refine VS.keepAt 5 [5] ?_; generalize hK : VS _ _ _ = KK; (try simp); (try subst hK); refine VS.region tabOk (id := 5) [] (by kernel_rfl) ?_; generalize hK : VS _ _ _ = KK; simp (maxSteps := 1000000) [hF]; (try subst hK); try (refine VS.keep [4] ?_; generalize hK : VS _ _ _ = KK; simp; (try subst hK)))
      try refine VS.ret ?_
      repeat first | refine blockN_ret ?_ | refine loopN_ret ?_
      refine endK.of [4] [] [] (by simp [hF]) (by simp [covers, mpre]) ?_
      simp [hF, retK, hr]
    · repeat first
        | refine VS.skip ?_
        | refine VS.nil ?_
        | refine blockN_normal ?_
        | refine loopN_normal ?_
        | (refine VS.keepAt 6 [0, 1, 7, 8] ?_; generalize hK : VS _ _ _ = KK; (try simp); (try subst hK); refine VS.region tabOk (id := 6) [] (by kernel_rfl) ?_; generalize hK : VS _ _ _ = KK; simp (maxSteps := 1000000) [hF]; (try subst hK); try (refine VS.keep [0, 1, 7, 8] ?_; generalize hK : VS _ _ _ = KK; simp; (try subst hK)))
      refine nextK.of [0, 1, 7, 8] [] (m - 1) (by omega) (by simp [hF]) ?_
      refine ⟨i + 1, by omega, ?_, ?_⟩
      · intro j hj hji
        rcases Nat.lt_or_ge j i with h' | h'
        · exact hall j hj h'
        · obtain rfl : j = i := by omega
          exact fun e => he e.symm
      · simp
        exact IntWalk.i64_in _ (by omega)
  · have hr : ixF (fun x => decide (x = v)) l = -1 := ixF_miss (fun j h => by simpa using hall j h (by omega))
    repeat first
      | refine VS.seq ?_
      | refine VS.exit ?_
      | (refine VS.keepAt 7 [] ?_; generalize hK : VS _ _ _ = KK; (try simp); (try subst hK); refine VS.region tabOk (id := 7) [] (by kernel_rfl) ?_; generalize hK : VS _ _ _ = KK; simp (maxSteps := 1000000) [hF]; (try subst hK); try (refine VS.keep [4] ?_; generalize hK : VS _ _ _ = KK; simp; (try subst hK)))
    try refine VS.ret ?_
    repeat first | refine blockN_ret ?_ | refine loopN_ret ?_
    refine endK.of [4] [] [] (by simp [hF]) (by simp [covers, mpre]) ?_
    simp [hF, retK, hr]

/- slices.Contains[[]int,int] -/
theorem contains_ok (ex : Bool) (l : List Int) (v : Int) (hl : l.length ≤ 100000000) : Meets Try.prog 83 [] (.cons (.imm 1 (dInts l) ex) (.cons (avInt v) .nil))
    fun av X κ => av = avBool (hasN l v) ∧ X = [] ∧ κ = [] := by
  refine Meets.of_vs tabOk Try.func83 (body := ?_) ?_ (by kernel_rfl) Try.ntmps83 (rs := [.tmp 4]) (by kernel_rfl) rfl (by simp [AV.len]) (by simp only [envOf]; exact rfl) ?_
  rotate_left
  · rfl
  intro w0 I0 F0 hF
  repeat first
    | refine VS.seq ?_
    | (refine VS.keepAt 0 [0, 1] ?_; generalize hK : VS _ _ _ = KK; (try simp); (try subst hK); refine VS.region tabOk (id := 0) [] (by kernel_rfl) ?_; generalize hK : VS _ _ _ = KK; simp (maxSteps := 1000000) [hF]; (try subst hK); try (refine VS.keep [0, 1] ?_; generalize hK : VS _ _ _ = KK; simp; (try subst hK)))
    | (refine VS.keepAt 1 [0, 1] ?_; generalize hK : VS _ _ _ = KK; (try simp); (try subst hK); refine VS.region tabOk (id := 1) [] (by kernel_rfl) ?_; generalize hK : VS _ _ _ = KK; simp (maxSteps := 1000000) [hF]; (try subst hK); try (refine VS.keep [4] ?_; generalize hK : VS _ _ _ = KK; simp; (try subst hK)))
  refine (index_ok ex l v hl).call [] (by simp) (by simp (maxSteps := 1000000) [hF]) (by simp (maxSteps := 1000000) [hF]) (by simp (maxSteps := 1000000) [hF]) (by simp) ?_
  rintro av X κ ⟨rfl, rfl, rfl⟩
  generalize hK : VS _ _ _ = KK; simp (maxSteps := 1000000) [hF]; (try subst hK)
  have h : decide (0 ≤ ixF (fun x => decide (x = v)) l) = hasN l v := by simp only [ixF_ge, hasN, Bool.decide_eq_true]
  try refine VS.ret ?_
  repeat first | refine blockN_ret ?_ | refine loopN_ret ?_
  refine endK.of [4] [] [] (by simp [hF]) (by simp [covers, mpre]) ?_
  simp [hF, retK, h]
def dBox (x : List Int) : D := .box true () (.sl false () 1 (dInts x))
def dIB (x : Int) : D := .box true () (.val (.int .i64 x))
@[simp high] theorem head_dBox (l : List Int) : isHead (dBox l) = true := by rw [dBox, isHead]
@[simp high] theorem head_dIB (x : Int) : isHead (dIB x) = true := by rw [dIB, isHead]

/- slices.IndexFunc[[]int,int] -/
theorem indexFunc_hi (ex : Bool) (ls : List Int) (hs : Hs) (hl : ls.length ≤ 100000000) (p : Int → Bool)
    (hg : ∀ i, (h : i < ls.length) → Meets Try.prog 77 [dHB hs] (.cons (avInt ls[i]) (.cons (.ptr 0 [.d]) .nil)) fun av X κ => av = avBool (p ls[i]) ∧ X = [dHB hs] ∧ κ = []) :
    Meets Try.prog 99 [dHB hs] (.cons (.imm 1 (dInts ls) ex) (.cons (.fn 77 (.cons (.ptr 0 [.d]) .nil)) .nil))
    fun av X κ => av = avInt (ixF p ls) ∧ X = [dHB hs] ∧ κ = [] := by
  refine Meets.of_vs tabOk Try.func99 (body := ?_) ?_ (by kernel_rfl) Try.ntmps99 (rs := [.tmp 4]) (by kernel_rfl) rfl (by simp [AV.len]) (by simp only [envOf]; exact rfl) ?_
  rotate_left
  · rfl
  intro w0 I0 F0 hF
  repeat first
    | refine VS.seq ?_
    | refine VS.block ?_
    | (refine VS.keepAt 0 [0, 1] ?_; generalize hK : VS _ _ _ = KK; (try simp); (try subst hK); refine VS.region tabOk (id := 0) [] (by kernel_rfl) ?_; generalize hK : VS _ _ _ = KK; simp (maxSteps := 1000000) [hF, dHB]; (try subst hK); try (refine VS.keep [0, 1] ?_; generalize hK : VS _ _ _ = KK; simp; (try subst hK)))
    | (refine VS.keepAt 1 [0, 1] ?_; generalize hK : VS _ _ _ = KK; (try simp); (try subst hK); refine VS.region tabOk (id := 1) [] (by kernel_rfl) ?_; generalize hK : VS _ _ _ = KK; simp (maxSteps := 1000000) [hF, dHB]; (try subst hK); try (refine VS.keep [0, 1, 7, 8] ?_; generalize hK : VS _ _ _ = KK; simp; (try subst hK)))
  refine VS.rounds (fun m st => ∃ (i : Nat), i + m = ls.length ∧ (∀ j, (h : j < ls.length) → j < i → p ls[j] = false) ∧ st = ⟨[(0, .imm 1 (dInts ls) ex), (1, .fn 77 (.cons (.ptr 0 [.d]) .nil)), (7, avInt ls.length), (8, avInt i)], [dHB hs], [], []⟩) ⟨ls.length, 0, by omega, by omega, by simp [dHB]⟩ ?_
  rintro m st ⟨i, hi, hall, rfl⟩
  repeat first
    | refine VS.seq ?_
    | (refine VS.keepAt 2 [0, 1, 7, 8] ?_; generalize hK : VS _ _ _ = KK; (try simp); (try subst hK); refine VS.region tabOk (id := 2) [] (by kernel_rfl) ?_; generalize hK : VS _ _ _ = KK; simp (maxSteps := 1000000) [hF, dHB]; (try subst hK); try (refine VS.keep [0, 1, 7, 8, 9] ?_; generalize hK : VS _ _ _ = KK; simp; (try subst hK)))
    | (refine VS.cond ?_; generalize hK1 : VS _ _ _ = KK1; generalize hK2 : VS _ _ _ = KK2; simp (maxSteps := 1000000) [hF, dHB]; (try subst hK1); (try subst hK2))
  refine ⟨fun hlt => ?_, fun hge => ?_⟩
  · have hi' : i < ls.length := by omega
    have hn := dInts_nth hi'
    repeat first
      | refine VS.seq ?_
      | refine VS.skip ?_
      | refine VS.block ?_
      | (refine VS.keepAt 3 [0, 1, 7, 8] ?_; generalize hK : VS _ _ _ = KK; (try simp); (try subst hK); refine VS.region tabOk (id := 3) [] (by kernel_rfl) ?_; generalize hK : VS _ _ _ = KK; simp (maxSteps := 1000000) [hF, dHB, hn, hi']; (try subst hK); try (refine VS.keep [0, 1, 5, 7, 8] ?_; generalize hK : VS _ _ _ = KK; simp; (try subst hK)))
      | (refine VS.keepAt 4 [0, 1, 5, 7, 8] ?_; generalize hK : VS _ _ _ = KK; (try simp); (try subst hK); refine VS.region tabOk (id := 4) [] (by kernel_rfl) ?_; generalize hK : VS _ _ _ = KK; simp (maxSteps := 1000000) [hF, dHB, hn, hi']; (try subst hK); try (refine VS.keep [0, 1, 5, 7, 8, 16] ?_; generalize hK : VS _ _ _ = KK; simp; (try subst hK)))
    refine (hg i hi').call [(0, [])] (by simp) (by simp (maxSteps := 1000000) [hF, dHB]) (by simp (maxSteps := 1000000) [hF, dHB]) (by simp (maxSteps := 1000000) [hF, dHB]) (by simp) ?_
    rintro av X κ ⟨rfl, rfl, rfl⟩
    generalize hK : VS _ _ _ = KK; simp (maxSteps := 1000000) [hF, dHB]; (try subst hK)
    cases hp : p ls[i] with
    | true =>
      have hr : ixF p ls = i := ixF_hit hi' (fun j h => hall j (by omega) h) hp
      repeat first
        | refine VS.seq ?_
        | (refine VS.keepAt 5 [5] ?_; generalize hK : VS _ _ _ = KK; (try simp); (try subst hK); refine VS.region tabOk (id := 5) [] (by kernel_rfl) ?_; generalize hK : VS _ _ _ = KK; simp (maxSteps := 1000000) [hF, hp]; (try subst hK); try (refine VS.keep [4] ?_; generalize hK : VS _ _ _ = KK; simp; (try subst hK)))
        | (refine VS.cond ?_; generalize hK1 : VS _ _ _ = KK1; generalize hK2 : VS _ _ _ = KK2; simp (maxSteps := 1000000) [hF, hp]; (try subst hK1); (try subst hK2))
      try refine VS.ret ?_
      repeat first | refine blockN_ret ?_ | refine loopN_ret ?_
      refine endK.of [4] [0] [] (by simp [hF]) (by simp [covers, mpre]) ?_
      simp [hF, retK, dHB, hr]
    | false =>
      repeat first
        | refine VS.skip ?_
        | refine VS.nil ?_
        | refine blockN_normal ?_
        | refine loopN_normal ?_
        | (refine VS.keepAt 6 [0, 1, 7, 8] ?_; generalize hK : VS _ _ _ = KK; (try simp); (try subst hK); refine VS.region tabOk (id := 6) [] (by kernel_rfl) ?_; generalize hK : VS _ _ _ = KK; simp (maxSteps := 1000000) [hF, hp]; (try subst hK); try (refine VS.keep [0, 1, 7, 8] ?_; generalize hK : VS _ _ _ = KK; simp; (try subst hK)))
        | (refine VS.cond ?_; generalize hK1 : VS _ _ _ = KK1; generalize hK2 : VS _ _ _ = KK2; simp (maxSteps := 1000000) [hF, hp]; (try subst hK1); (try subst hK2))
      refine nextK.of [0, 1, 7, 8] [0] (m - 1) (by omega) (by simp [hF]) ?_
      refine ⟨i + 1, by omega, ?_, ?_⟩
      · intro j hj hji
        rcases Nat.lt_or_ge j i with h' | h'
        · exact hall j hj h'
        · obtain rfl : j = i := by omega
          exact hp
      · simp [dHB]
        exact IntWalk.i64_in _ (by omega)
  · have hr : ixF p ls = -1 := ixF_miss (fun j h => hall j h (by omega))
    repeat first
      | refine VS.seq ?_
      | refine VS.exit ?_
      | (refine VS.keepAt 7 [] ?_; generalize hK : VS _ _ _ = KK; (try simp); (try subst hK); refine VS.region tabOk (id := 7) [] (by kernel_rfl) ?_; generalize hK : VS _ _ _ = KK; simp (maxSteps := 1000000) [hF]; (try subst hK); try (refine VS.keep [4] ?_; generalize hK : VS _ _ _ = KK; simp; (try subst hK)))
    try refine VS.ret ?_
    repeat first | refine blockN_ret ?_ | refine loopN_ret ?_
    refine endK.of [4] [0] [] (by simp [hF]) (by simp [covers, mpre]) ?_
    simp [hF, retK, dHB, hr]

/- slices.ContainsFunc[[]int,int] -/
theorem containsFunc_hi (ex : Bool) (ls : List Int) (hs : Hs) (hl : ls.length ≤ 100000000) (p : Int → Bool)
    (hg : ∀ i, (h : i < ls.length) → Meets Try.prog 77 [dHB hs] (.cons (avInt ls[i]) (.cons (.ptr 0 [.d]) .nil)) fun av X κ => av = avBool (p ls[i]) ∧ X = [dHB hs] ∧ κ = []) :
    Meets Try.prog 76 [dHB hs] (.cons (.imm 1 (dInts ls) ex) (.cons (.fn 77 (.cons (.ptr 0 [.d]) .nil)) .nil))
    fun av X κ => av = avBool (ls.any p) ∧ X = [dHB hs] ∧ κ = [] := by
  refine Meets.of_vs tabOk Try.func76 (body := ?_) ?_ (by kernel_rfl) Try.ntmps76 (rs := [.tmp 4]) (by kernel_rfl) rfl (by simp [AV.len]) (by simp only [envOf]; exact rfl) ?_
  rotate_left
  · rfl
  intro w0 I0 F0 hF
  repeat first
    | refine VS.seq ?_
    | (refine VS.keepAt 0 [0, 1] ?_; generalize hK : VS _ _ _ = KK; (try simp); (try subst hK); refine VS.region tabOk (id := 0) [] (by kernel_rfl) ?_; generalize hK : VS _ _ _ = KK; simp (maxSteps := 1000000) [hF, dHB]; (try subst hK); try (refine VS.keep [0, 1] ?_; generalize hK : VS _ _ _ = KK; simp; (try subst hK)))
    | (refine VS.keepAt 1 [0, 1] ?_; generalize hK : VS _ _ _ = KK; (try simp); (try subst hK); refine VS.region tabOk (id := 1) [] (by kernel_rfl) ?_; generalize hK : VS _ _ _ = KK; simp (maxSteps := 1000000) [hF, dHB]; (try subst hK); try (refine VS.keep [4] ?_; generalize hK : VS _ _ _ = KK; simp; (try subst hK)))
  refine (indexFunc_hi ex ls hs hl p hg).call [(0, [])] (by simp) (by simp (maxSteps := 1000000) [hF, dHB]) (by simp (maxSteps := 1000000) [hF, dHB]) (by simp (maxSteps := 1000000) [hF, dHB]) (by simp) ?_
  rintro av X κ ⟨rfl, rfl, rfl⟩
  generalize hK : VS _ _ _ = KK; simp (maxSteps := 1000000) [hF, dHB]; (try subst hK)
  have h : decide ((0 : Int) ≤ ixF p ls) = ls.any p := by simp only [ixF_ge, Bool.decide_eq_true]
  try refine VS.ret ?_
  repeat first | refine blockN_ret ?_ | refine loopN_ret ?_
  refine endK.of [4] [0] [] (by simp [hF]) (by simp [covers, mpre]) ?_
  simp [hF, retK, dHB, h]

/- slices.IndexFunc[[]int,int] -/
theorem indexFunc_hs (ex : Bool) (ls : List Int) (hs : Hs) (hl : ls.length ≤ 100000000) (p : Int → Bool)
    (hg : ∀ i, (h : i < ls.length) → Meets Try.prog 77 [dHB hs] (.cons (avInt ls[i]) (.cons (.ptr 0 [.d]) .nil)) fun av X κ => av = avBool (p ls[i]) ∧ X = [dHB hs] ∧ κ = []) :
    Meets Try.prog 99 [.sl true () 1 (dInts ls), dHB hs] (.cons (.sub 0 [] 0 ls.length ex) (.cons (.fn 77 (.cons (.ptr 1 [.d]) .nil)) .nil))
    fun av X κ => av = avInt (ixF p ls) ∧ X = [.sl true () 1 (dInts ls), dHB hs] ∧ κ = [] := by
  refine Meets.of_vs tabOk Try.func99 (body := ?_) ?_ (by kernel_rfl) Try.ntmps99 (rs := [.tmp 4]) (by kernel_rfl) rfl (by simp [AV.len]) (by simp only [envOf]; exact rfl) ?_
  rotate_left
  · rfl
  intro w0 I0 F0 hF
  repeat first
    | refine VS.seq ?_
    | refine VS.block ?_
    | (refine VS.keepAt 0 [0, 1] ?_; generalize hK : VS _ _ _ = KK; (try simp); (try subst hK); refine VS.region tabOk (id := 0) [] (by kernel_rfl) ?_; generalize hK : VS _ _ _ = KK; simp (maxSteps := 1000000) [hF, dHB]; (try subst hK); try (refine VS.keep [0, 1] ?_; generalize hK : VS _ _ _ = KK; simp; (try subst hK)))
    | (refine VS.keepAt 1 [0, 1] ?_; generalize hK : VS _ _ _ = KK; (try simp); (try subst hK); refine VS.region tabOk (id := 1) [] (by kernel_rfl) ?_; generalize hK : VS _ _ _ = KK; simp (maxSteps := 1000000) [hF, dHB]; (try subst hK); try (refine VS.keep [0, 1, 7, 8] ?_; generalize hK : VS _ _ _ = KK; simp; (try subst hK)))
  refine VS.rounds (fun m st => ∃ (i : Nat), i + m = ls.length ∧ (∀ j, (h : j < ls.length) → j < i → p ls[j] = false) ∧ st = ⟨[(0, .sub 0 [] 0 ls.length ex), (1, .fn 77 (.cons (.ptr 1 [.d]) .nil)), (7, avInt ls.length), (8, avInt i)], [.sl true () 1 (dInts ls), dHB hs], [], []⟩) ⟨ls.length, 0, by omega, by omega, by simp [dHB]⟩ ?_
  rintro m st ⟨i, hi, hall, rfl⟩
  repeat first
    | refine VS.seq ?_
    | (refine VS.keepAt 2 [0, 1, 7, 8] ?_; generalize hK : VS _ _ _ = KK; (try simp); (try subst hK); refine VS.region tabOk (id := 2) [] (by kernel_rfl) ?_; generalize hK : VS _ _ _ = KK; simp (maxSteps := 1000000) [hF, dHB]; (try subst hK); try (refine VS.keep [0, 1, 7, 8, 9] ?_; generalize hK : VS _ _ _ = KK; simp; (try subst hK)))
    | (refine VS.cond ?_; generalize hK1 : VS _ _ _ = KK1; generalize hK2 : VS _ _ _ = KK2; simp (maxSteps := 1000000) [hF, dHB]; (try subst hK1); (try subst hK2))
  refine ⟨fun hlt => ?_, fun hge => ?_⟩
  · have hi' : i < ls.length := by omega
    have hn := dInts_nth hi'
    repeat first
      | refine VS.seq ?_
      | refine VS.skip ?_
      | refine VS.block ?_
      | (refine VS.keepAt 3 [0, 1, 7, 8] ?_; generalize hK : VS _ _ _ = KK; (try simp); (try subst hK); refine VS.region tabOk (id := 3) [] (by kernel_rfl) ?_; generalize hK : VS _ _ _ = KK; simp (maxSteps := 1000000) [hF, dHB, hn, hi']; (try subst hK); try (refine VS.keep [0, 1, 5, 7, 8] ?_; generalize hK : VS _ _ _ = KK; simp; (try subst hK)))
      | (refine VS.keepAt 4 [0, 1, 5, 7, 8] ?_; generalize hK : VS _ _ _ = KK; (try simp); (try subst hK); refine VS.region tabOk (id := 4) [] (by kernel_rfl) ?_; generalize hK : VS _ _ _ = KK; simp (maxSteps := 1000000) [hF, dHB, hn, hi']; (try subst hK); try (refine VS.keep [0, 1, 5, 7, 8, 16] ?_; generalize hK : VS _ _ _ = KK; simp; (try subst hK)))
    refine (hg i hi').call [(1, [])] (by simp) (by simp (maxSteps := 1000000) [hF, dHB]) (by simp (maxSteps := 1000000) [hF, dHB]) (by simp (maxSteps := 1000000) [hF, dHB]) (by simp) ?_
    rintro av X κ ⟨rfl, rfl, rfl⟩
    generalize hK : VS _ _ _ = KK; simp (maxSteps := 1000000) [hF, dHB]; (try subst hK)
    cases hp : p ls[i] with
    | true =>
      have hr : ixF p ls = i := ixF_hit hi' (fun j h => hall j (by omega) h) hp
      repeat first
        | refine VS.seq ?_
        | (refine VS.keepAt 5 [5] ?_; generalize hK : VS _ _ _ = KK; (try simp); (try subst hK); refine VS.region tabOk (id := 5) [] (by kernel_rfl) ?_; generalize hK : VS _ _ _ = KK; simp (maxSteps := 1000000) [hF, hp]; (try subst hK); try (refine VS.keep [4] ?_; generalize hK : VS _ _ _ = KK; simp; (try subst hK)))
        | (refine VS.cond ?_; generalize hK1 : VS _ _ _ = KK1; generalize hK2 : VS _ _ _ = KK2; simp (maxSteps := 1000000) [hF, hp]; (try subst hK1); (try subst hK2))
      try refine VS.ret ?_
      repeat first | refine blockN_ret ?_ | refine loopN_ret ?_
      refine endK.of [4] [0, 1] [] (by simp [hF]) (by simp [covers, mpre]) ?_
      simp [hF, retK, dHB, hr]
    | false =>
      repeat first
        | refine VS.skip ?_
        | refine VS.nil ?_
        | refine blockN_normal ?_
        | refine loopN_normal ?_
        | (refine VS.keepAt 6 [0, 1, 7, 8] ?_; generalize hK : VS _ _ _ = KK; (try simp); (try subst hK); refine VS.region tabOk (id := 6) [] (by kernel_rfl) ?_; generalize hK : VS _ _ _ = KK; simp (maxSteps := 1000000) [hF, hp]; (try subst hK); try (refine VS.keep [0, 1, 7, 8] ?_; generalize hK : VS _ _ _ = KK; simp; (try subst hK)))
        | (refine VS.cond ?_; generalize hK1 : VS _ _ _ = KK1; generalize hK2 : VS _ _ _ = KK2; simp (maxSteps := 1000000) [hF, hp]; (try subst hK1); (try subst hK2))
      refine nextK.of [0, 1, 7, 8] [0, 1] (m - 1) (by omega) (by simp [hF]) ?_
      refine ⟨i + 1, by omega, ?_, ?_⟩
      · intro j hj hji
        rcases Nat.lt_or_ge j i with h' | h'
        · exact hall j hj h'
        · obtain rfl : j = i := by omega
          exact hp
      · simp [dHB]
        exact IntWalk.i64_in _ (by omega)
  · have hr : ixF p ls = -1 := ixF_miss (fun j h => hall j h (by omega))
    repeat first
      | refine VS.seq ?_
      | refine VS.exit ?_
      | (refine VS.keepAt 7 [] ?_; generalize hK : VS _ _ _ = KK; (try simp); (try subst hK); refine VS.region tabOk (id := 7) [] (by kernel_rfl) ?_; generalize hK : VS _ _ _ = KK; simp (maxSteps := 1000000) [hF]; (try subst hK); try (refine VS.keep [4] ?_; generalize hK : VS _ _ _ = KK; simp; (try subst hK)))
    try refine VS.ret ?_
    repeat first | refine blockN_ret ?_ | refine loopN_ret ?_
    refine endK.of [4] [0, 1] [] (by simp [hF]) (by simp [covers, mpre]) ?_
    simp [hF, retK, dHB, hr]

/- slices.ContainsFunc[[]int,int] -/
theorem containsFunc_hs (ex : Bool) (ls : List Int) (hs : Hs) (hl : ls.length ≤ 100000000) (p : Int → Bool)
    (hg : ∀ i, (h : i < ls.length) → Meets Try.prog 77 [dHB hs] (.cons (avInt ls[i]) (.cons (.ptr 0 [.d]) .nil)) fun av X κ => av = avBool (p ls[i]) ∧ X = [dHB hs] ∧ κ = []) :
    Meets Try.prog 76 [.sl true () 1 (dInts ls), dHB hs] (.cons (.sub 0 [] 0 ls.length ex) (.cons (.fn 77 (.cons (.ptr 1 [.d]) .nil)) .nil))
    fun av X κ => av = avBool (ls.any p) ∧ X = [.sl true () 1 (dInts ls), dHB hs] ∧ κ = [] := by
  refine Meets.of_vs tabOk Try.func76 (body := ?_) ?_ (by kernel_rfl) Try.ntmps76 (rs := [.tmp 4]) (by kernel_rfl) rfl (by simp [AV.len]) (by simp only [envOf]; exact rfl) ?_
  rotate_left
  · rfl
  intro w0 I0 F0 hF
  repeat first
    | refine VS.seq ?_
    | (refine VS.keepAt 0 [0, 1] ?_; generalize hK : VS _ _ _ = KK; (try simp); (try subst hK); refine VS.region tabOk (id := 0) [] (by kernel_rfl) ?_; generalize hK : VS _ _ _ = KK; simp (maxSteps := 1000000) [hF, dHB]; (try subst hK); try (refine VS.keep [0, 1] ?_; generalize hK : VS _ _ _ = KK; simp; (try subst hK)))
    | (refine VS.keepAt 1 [0, 1] ?_; generalize hK : VS _ _ _ = KK; (try simp); (try subst hK); refine VS.region tabOk (id := 1) [] (by kernel_rfl) ?_; generalize hK : VS _ _ _ = KK; simp (maxSteps := 1000000) [hF, dHB]; (try subst hK); try (refine VS.keep [4] ?_; generalize hK : VS _ _ _ = KK; simp; (try subst hK)))
  refine (indexFunc_hs ex ls hs hl p hg).call [(0, []), (1, [])] (by simp) (by simp (maxSteps := 1000000) [hF, dHB]) (by simp (maxSteps := 1000000) [hF, dHB]) (by simp (maxSteps := 1000000) [hF, dHB]) (by simp) ?_
  rintro av X κ ⟨rfl, rfl, rfl⟩
  generalize hK : VS _ _ _ = KK; simp (maxSteps := 1000000) [hF, dHB]; (try subst hK)
  have h : decide ((0 : Int) ≤ ixF p ls) = ls.any p := by simp only [ixF_ge, Bool.decide_eq_true]
  try refine VS.ret ?_
  repeat first | refine blockN_ret ?_ | refine loopN_ret ?_
  refine endK.of [4] [0, 1] [] (by simp [hF]) (by simp [covers, mpre]) ?_
  simp [hF, retK, dHB, h]

/- slices.IndexFunc[[]int,int] -/
theorem indexFunc_ai (ex : Bool) (ls : List Int) (hs : Hs) (who : Int) (hl : ls.length ≤ 100000000) (p : Int → Bool)
    (hg : ∀ i, (h : i < ls.length) → Meets Try.prog 78 [dHB hs, dIB who] (.cons (avInt ls[i]) (.cons (.ptr 0 [.d]) (.cons (.ptr 1 [.d]) .nil))) fun av X κ => av = avBool (p ls[i]) ∧ X = [dHB hs, dIB who] ∧ κ = []) :
    Meets Try.prog 99 [dHB hs, dIB who] (.cons (.imm 1 (dInts ls) ex) (.cons (.fn 78 (.cons (.ptr 0 [.d]) (.cons (.ptr 1 [.d]) .nil))) .nil))
    fun av X κ => av = avInt (ixF p ls) ∧ X = [dHB hs, dIB who] ∧ κ = [] := by
  refine Meets.of_vs tabOk Try.func99 (body := ?_) ?_ (by kernel_rfl) Try.ntmps99 (rs := [.tmp 4]) (by kernel_rfl) rfl (by simp [AV.len]) (by simp only [envOf]; exact rfl) ?_
  rotate_left
  · rfl
  intro w0 I0 F0 hF
  repeat first
    | refine VS.seq ?_
    | refine VS.block ?_
    | (refine VS.keepAt 0 [0, 1] ?_; generalize hK : VS _ _ _ = KK; (try simp); (try subst hK); refine VS.region tabOk (id := 0) [] (by kernel_rfl) ?_; generalize hK : VS _ _ _ = KK; simp (maxSteps := 1000000) [hF, dHB, dIB]; (try subst hK); try (refine VS.keep [0, 1] ?_; generalize hK : VS _ _ _ = KK; simp; (try subst hK)))
    | (refine VS.keepAt 1 [0, 1] ?_; generalize hK : VS _ _ _ = KK; (try simp); (try subst hK); refine VS.region tabOk (id := 1) [] (by kernel_rfl) ?_; generalize hK : VS _ _ _ = KK; simp (maxSteps := 1000000) [hF, dHB, dIB]; (try subst hK); try (refine VS.keep [0, 1, 7, 8] ?_; generalize hK : VS _ _ _ = KK; simp; (try subst hK)))
  refine VS.rounds (fun m st => ∃ (i : Nat), i + m = ls.length ∧ (∀ j, (h : j < ls.length) → j < i → p ls[j] = false) ∧ st = ⟨[(0, .imm 1 (dInts ls) ex), (1, .fn 78 (.cons (.ptr 0 [.d]) (.cons (.ptr 1 [.d]) .nil))), (7, avInt ls.length), (8, avInt i)], [dHB hs, dIB who], [], []⟩) ⟨ls.length, 0, by omega, by omega, by simp [dHB, dIB]⟩ ?_
  rintro m st ⟨i, hi, hall, rfl⟩
  repeat first
    | refine VS.seq ?_
    | (refine VS.keepAt 2 [0, 1, 7, 8] ?_; generalize hK : VS _ _ _ = KK; (try simp); (try subst hK); refine VS.region tabOk (id := 2) [] (by kernel_rfl) ?_; generalize hK : VS _ _ _ = KK; simp (maxSteps := 1000000) [hF, dHB, dIB]; (try subst hK); try (refine VS.keep [0, 1, 7, 8, 9] ?_; generalize hK : VS _ _ _ = KK; simp; (try subst hK)))
    | (refine VS.cond ?_; generalize hK1 : VS _ _ _ = KK1; generalize hK2 : VS _ _ _ = KK2; simp (maxSteps := 1000000) [hF, dHB, dIB]; (try subst hK1); (try subst hK2))
  refine ⟨fun hlt => ?_, fun hge => ?_⟩
  · have hi' : i < ls.length := by omega
    have hn := dInts_nth hi'
    repeat first
      | refine VS.seq ?_
      | refine VS.skip ?_
      | refine VS.block ?_
      | (refine VS.keepAt 3 [0, 1, 7, 8] ?_; generalize hK : VS _ _ _ = KK; (try simp); (try subst hK); refine VS.region tabOk (id := 3) [] (by kernel_rfl) ?_; generalize hK : VS _ _ _ = KK; simp (maxSteps := 1000000) [hF, dHB, dIB, hn, hi']; (try subst hK); try (refine VS.keep [0, 1, 5, 7, 8] ?_; generalize hK : VS _ _ _ = KK; simp; (try subst hK)))
      | (refine VS.keepAt 4 [0, 1, 5, 7, 8] ?_; generalize hK : VS _ _ _ = KK; (try simp); (try subst hK); refine VS.region tabOk (id := 4) [] (by kernel_rfl) ?_; generalize hK : VS _ _ _ = KK; simp (maxSteps := 1000000) [hF, dHB, dIB, hn, hi']; (try subst hK); try (refine VS.keep [0, 1, 5, 7, 8, 16] ?_; generalize hK : VS _ _ _ = KK; simp; (try subst hK)))
    refine (hg i hi').call [(0, []), (1, [])] (by simp) (by simp (maxSteps := 1000000) [hF, dHB, dIB]) (by simp (maxSteps := 1000000) [hF, dHB, dIB]) (by simp (maxSteps := 1000000) [hF, dHB, dIB]) (by simp) ?_
    rintro av X κ ⟨rfl, rfl, rfl⟩
    generalize hK : VS _ _ _ = KK; simp (maxSteps := 1000000) [hF, dHB, dIB]; (try subst hK)
    cases hp : p ls[i] with
    | true =>
      have hr : ixF p ls = i := ixF_hit hi' (fun j h => hall j (by omega) h) hp
      repeat first
        | refine VS.seq ?_
        | (refine VS.keepAt 5 [5] ?_; generalize hK : VS _ _ _ = KK; (try simp); (try subst hK); refine VS.region tabOk (id := 5) [] (by kernel_rfl) ?_; generalize hK : VS _ _ _ = KK; simp (maxSteps := 1000000) [hF, hp]; (try subst hK); try (refine VS.keep [4] ?_; generalize hK : VS _ _ _ = KK; simp; (try subst hK)))
        | (refine VS.cond ?_; generalize hK1 : VS _ _ _ = KK1; generalize hK2 : VS _ _ _ = KK2; simp (maxSteps := 1000000) [hF, hp]; (try subst hK1); (try subst hK2))
      try refine VS.ret ?_
      repeat first | refine blockN_ret ?_ | refine loopN_ret ?_
      refine endK.of [4] [0, 1] [] (by simp [hF]) (by simp [covers, mpre]) ?_
      simp [hF, retK, dHB, dIB, hr]
    | false =>
      repeat first
        | refine VS.skip ?_
        | refine VS.nil ?_
        | refine blockN_normal ?_
        | refine loopN_normal ?_
        | (refine VS.keepAt 6 [0, 1, 7, 8] ?_; generalize hK : VS _ _ _ = KK; (try simp); (try subst hK); refine VS.region tabOk (id := 6) [] (by kernel_rfl) ?_; generalize hK : VS _ _ _ = KK; simp (maxSteps := 1000000) [hF, hp]; (try subst hK); try (refine VS.keep [0, 1, 7, 8] ?_; generalize hK : VS _ _ _ = KK; simp; (try subst hK)))
        | (refine VS.cond ?_; generalize hK1 : VS _ _ _ = KK1; generalize hK2 : VS _ _ _ = KK2; simp (maxSteps := 1000000) [hF, hp]; (try subst hK1); (try subst hK2))
      refine nextK.of [0, 1, 7, 8] [0, 1] (m - 1) (by omega) (by simp [hF]) ?_
      refine ⟨i + 1, by omega, ?_, ?_⟩
      · intro j hj hji
        rcases Nat.lt_or_ge j i with h' | h'
        · exact hall j hj h'
        · obtain rfl : j = i := by omega
          exact hp
      · simp [dHB, dIB]
        exact IntWalk.i64_in _ (by omega)
  · have hr : ixF p ls = -1 := ixF_miss (fun j h => hall j h (by omega))
    repeat first
      | refine VS.seq ?_
      | refine VS.exit ?_
      | (refine VS.keepAt 7 [] ?_; generalize hK : VS _ _ _ = KK; (try simp); (try subst hK); refine VS.region tabOk (id := 7) [] (by kernel_rfl) ?_; generalize hK : VS _ _ _ = KK; simp (maxSteps := 1000000) [hF]; (try subst hK); try (refine VS.keep [4] ?_; generalize hK : VS _ _ _ = KK; simp; (try subst hK)))
    try refine VS.ret ?_
    repeat first | refine blockN_ret ?_ | refine loopN_ret ?_
    refine endK.of [4] [0, 1] [] (by simp [hF]) (by simp [covers, mpre]) ?_
    simp [hF, retK, dHB, dIB, hr]

/- slices.ContainsFunc[[]int,int] -/
theorem containsFunc_ai (ex : Bool) (ls : List Int) (hs : Hs) (who : Int) (hl : ls.length ≤ 100000000) (p : Int → Bool)
    (hg : ∀ i, (h : i < ls.length) → Meets Try.prog 78 [dHB hs, dIB who] (.cons (avInt ls[i]) (.cons (.ptr 0 [.d]) (.cons (.ptr 1 [.d]) .nil))) fun av X κ => av = avBool (p ls[i]) ∧ X = [dHB hs, dIB who] ∧ κ = []) :
    Meets Try.prog 76 [dHB hs, dIB who] (.cons (.imm 1 (dInts ls) ex) (.cons (.fn 78 (.cons (.ptr 0 [.d]) (.cons (.ptr 1 [.d]) .nil))) .nil))
    fun av X κ => av = avBool (ls.any p) ∧ X = [dHB hs, dIB who] ∧ κ = [] := by
  refine Meets.of_vs tabOk Try.func76 (body := ?_) ?_ (by kernel_rfl) Try.ntmps76 (rs := [.tmp 4]) (by kernel_rfl) rfl (by simp [AV.len]) (by simp only [envOf]; exact rfl) ?_
  rotate_left
  · rfl
  intro w0 I0 F0 hF
  repeat first
    | refine VS.seq ?_
    | (refine VS.keepAt 0 [0, 1] ?_; generalize hK : VS _ _ _ = KK; (try simp); (try subst hK); refine VS.region tabOk (id := 0) [] (by kernel_rfl) ?_; generalize hK : VS _ _ _ = KK; simp (maxSteps := 1000000) [hF, dHB, dIB]; (try subst hK); try (refine VS.keep [0, 1] ?_; generalize hK : VS _ _ _ = KK; simp; (try subst hK)))
    | (refine VS.keepAt 1 [0, 1] ?_; generalize hK : VS _ _ _ = KK; (try simp); (try subst hK); refine VS.region tabOk (id := 1) [] (by kernel_rfl) ?_; generalize hK : VS _ _ _ = KK; simp (maxSteps := 1000000) [hF, dHB, dIB]; (try subst hK); try (refine VS.keep [4] ?_; generalize hK : VS _ _ _ = KK; simp; (try subst hK)))
  refine (indexFunc_ai ex ls hs who hl p hg).call [(0, []), (1, [])] (by simp) (by simp (maxSteps := 1000000) [hF, dHB, dIB]) (by simp (maxSteps := 1000000) [hF, dHB, dIB]) (by simp (maxSteps := 1000000) [hF, dHB, dIB]) (by simp) ?_
  rintro av X κ ⟨rfl, rfl, rfl⟩
  generalize hK : VS _ _ _ = KK; simp (maxSteps := 1000000) [hF, dHB, dIB]; (try subst hK)
  have h : decide ((0 : Int) ≤ ixF p ls) = ls.any p := by simp only [ixF_ge, Bool.decide_eq_true]
  try refine VS.ret ?_
  repeat first | refine blockN_ret ?_ | refine loopN_ret ?_
  refine endK.of [4] [0, 1] [] (by simp [hF]) (by simp [covers, mpre]) ?_
  simp [hF, retK, dHB, dIB, h]

/- slices.IndexFunc[[]int,int] -/
theorem indexFunc_as (ex : Bool) (ls : List Int) (hs : Hs) (who : Int) (hl : ls.length ≤ 100000000) (p : Int → Bool)
    (hg : ∀ i, (h : i < ls.length) → Meets Try.prog 78 [dHB hs, dIB who] (.cons (avInt ls[i]) (.cons (.ptr 0 [.d]) (.cons (.ptr 1 [.d]) .nil))) fun av X κ => av = avBool (p ls[i]) ∧ X = [dHB hs, dIB who] ∧ κ = []) :
    Meets Try.prog 99 [.sl true () 1 (dInts ls), dHB hs, dIB who] (.cons (.sub 0 [] 0 ls.length ex) (.cons (.fn 78 (.cons (.ptr 1 [.d]) (.cons (.ptr 2 [.d]) .nil))) .nil))
    fun av X κ => av = avInt (ixF p ls) ∧ X = [.sl true () 1 (dInts ls), dHB hs, dIB who] ∧ κ = [] := by
  refine Meets.of_vs tabOk Try.func99 (body := ?_) ?_ (by kernel_rfl) Try.ntmps99 (rs := [.tmp 4]) (by kernel_rfl) rfl (by simp [AV.len]) (by simp only [envOf]; exact rfl) ?_
  rotate_left
  · rfl
  intro w0 I0 F0 hF
  repeat first
    | refine VS.seq ?_
    | refine VS.block ?_
    | (refine VS.keepAt 0 [0, 1] ?_; generalize hK : VS _ _ _ = KK; (try simp); (try subst hK); refine VS.region tabOk (id := 0) [] (by kernel_rfl) ?_; generalize hK : VS _ _ _ = KK; simp (maxSteps := 1000000) [hF, dHB, dIB]; (try subst hK); try (refine VS.keep [0, 1] ?_; generalize hK : VS _ _ _ = KK; simp; (try subst hK)))
    | (refine VS.keepAt 1 [0, 1] ?_; generalize hK : VS _ _ _ = KK; (try simp); (try subst hK); refine VS.region tabOk (id := 1) [] (by kernel_rfl) ?_; generalize hK : VS _ _ _ = KK; simp (maxSteps := 1000000) [hF, dHB, dIB]; (try subst hK); try (refine VS.keep [0, 1, 7, 8] ?_; generalize hK : VS _ _ _ = KK; simp; (try subst hK)))
  refine VS.rounds (fun m st => ∃ (i : Nat), i + m = ls.length ∧ (∀ j, (h : j < ls.length) → j < i → p ls[j] = false) ∧ st = ⟨[(0, .sub 0 [] 0 ls.length ex), (1, .fn 78 (.cons (.ptr 1 [.d]) (.cons (.ptr 2 [.d]) .nil))), (7, avInt ls.length), (8, avInt i)], [.sl true () 1 (dInts ls), dHB hs, dIB who], [], []⟩) ⟨ls.length, 0, by omega, by omega, by simp [dHB, dIB]⟩ ?_
  rintro m st ⟨i, hi, hall, rfl⟩
  repeat first
    | refine VS.seq ?_
    | (refine VS.keepAt 2 [0, 1, 7, 8] ?_; generalize hK : VS _ _ _ = KK; (try simp); (try subst hK); refine VS.region tabOk (id := 2) [] (by kernel_rfl) ?_; generalize hK : VS _ _ _ = KK; simp (maxSteps := 1000000) [hF, dHB, dIB]; (try subst hK); try (refine VS.keep [0, 1, 7, 8, 9] ?_; generalize hK : VS _ _ _ = KK; simp; (try subst hK)))
    | (refine VS.cond ?_; generalize hK1 : VS _ _ _ = KK1; generalize hK2 : VS _ _ _ = KK2; simp (maxSteps := 1000000) [hF, dHB, dIB]; (try subst hK1); (try subst hK2))
  refine ⟨fun hlt => ?_, fun hge => ?_⟩
  · have hi' : i < ls.length := by omega
    have hn := dInts_nth hi'
    repeat first
      | refine VS.seq ?_
      | refine VS.skip ?_
      | refine VS.block ?_
      | (refine VS.keepAt 3 [0, 1, 7, 8] ?_; generalize hK : VS _ _ _ = KK; (try simp); (try subst hK); refine VS.region tabOk (id := 3) [] (by kernel_rfl) ?_; generalize hK : VS _ _ _ = KK; simp (maxSteps := 1000000) [hF, dHB, dIB, hn, hi']; (try subst hK); try (refine VS.keep [0, 1, 5, 7, 8] ?_; generalize hK : VS _ _ _ = KK; simp; (try subst hK)))
      | (refine VS.keepAt 4 [0, 1, 5, 7, 8] ?_; generalize hK : VS _ _ _ = KK; (try simp); (try subst hK); refine VS.region tabOk (id := 4) [] (by kernel_rfl) ?_; generalize hK : VS _ _ _ = KK; simp (maxSteps := 1000000) [hF, dHB, dIB, hn, hi']; (try subst hK); try (refine VS.keep [0, 1, 5, 7, 8, 16] ?_; generalize hK : VS _ _ _ = KK; simp; (try subst hK)))
    refine (hg i hi').call [(1, []), (2, [])] (by simp) (by simp (maxSteps := 1000000) [hF, dHB, dIB]) (by simp (maxSteps := 1000000) [hF, dHB, dIB]) (by simp (maxSteps := 1000000) [hF, dHB, dIB]) (by simp) ?_
    rintro av X κ ⟨rfl, rfl, rfl⟩
    generalize hK : VS _ _ _ = KK; simp (maxSteps := 1000000) [hF, dHB, dIB]; (try subst hK)
    cases hp : p ls[i] with
    | true =>
      have hr : ixF p ls = i := ixF_hit hi' (fun j h => hall j (by omega) h) hp
      repeat first
        | refine VS.seq ?_
        | (refine VS.keepAt 5 [5] ?_; generalize hK : VS _ _ _ = KK; (try simp); (try subst hK); refine VS.region tabOk (id := 5) [] (by kernel_rfl) ?_; generalize hK : VS _ _ _ = KK; simp (maxSteps := 1000000) [hF, hp]; (try subst hK); try (refine VS.keep [4] ?_; generalize hK : VS _ _ _ = KK; simp; (try subst hK)))
        | (refine VS.cond ?_; generalize hK1 : VS _ _ _ = KK1; generalize hK2 : VS _ _ _ = KK2; simp (maxSteps := 1000000) [hF, hp]; (try subst hK1); (try subst hK2))
      try refine VS.ret ?_
      repeat first | refine blockN_ret ?_ | refine loopN_ret ?_
      refine endK.of [4] [0, 1, 2] [] (by simp [hF]) (by simp [covers, mpre]) ?_
      simp [hF, retK, dHB, dIB, hr]
    | false =>
      repeat first
        | refine VS.skip ?_
        | refine VS.nil ?_
        | refine blockN_normal ?_
        | refine loopN_normal ?_
        | (refine VS.keepAt 6 [0, 1, 7, 8] ?_; generalize hK : VS _ _ _ = KK; (try simp); (try subst hK); refine VS.region tabOk (id := 6) [] (by kernel_rfl) ?_; generalize hK : VS _ _ _ = KK; simp (maxSteps := 1000000) [hF, hp]; (try subst hK); try (refine VS.keep [0, 1, 7, 8] ?_; generalize hK : VS _ _ _ = KK; simp; (try subst hK)))
        | (refine VS.cond ?_; generalize hK1 : VS _ _ _ = KK1; generalize hK2 : VS _ _ _ = KK2; simp (maxSteps := 1000000) [hF, hp]; (try subst hK1); (try subst hK2))
      refine nextK.of [0, 1, 7, 8] [0, 1, 2] (m - 1) (by omega) (by simp [hF]) ?_
      refine ⟨i + 1, by omega, ?_, ?_⟩
      · intro j hj hji
        rcases Nat.lt_or_ge j i with h' | h'
        · exact hall j hj h'
        · obtain rfl : j = i := by omega
          exact hp
      · simp [dHB, dIB]
        exact IntWalk.i64_in _ (by omega)
  · have hr : ixF p ls = -1 := ixF_miss (fun j h => hall j h (by omega))
    repeat first
      | refine VS.seq ?_
      | refine VS.exit ?_
      | (refine VS.keepAt 7 [] ?_; generalize hK : VS _ _ _ = KK; (try simp); (try subst hK); refine VS.region tabOk (id := 7) [] (by kernel_rfl) ?_; generalize hK : VS _ _ _ = KK; simp (maxSteps := 1000000) [hF]; (try subst hK); try (refine VS.keep [4] ?_; generalize hK : VS _ _ _ = KK; simp; (try subst hK)))
    try refine VS.ret ?_
    repeat first | refine blockN_ret ?_ | refine loopN_ret ?_
    refine endK.of [4] [0, 1, 2] [] (by simp [hF]) (by simp [covers, mpre]) ?_
    simp [hF, retK, dHB, dIB, hr]

/- slices.ContainsFunc[[]int,int] -/
theorem containsFunc_as (ex : Bool) (ls : List Int) (hs : Hs) (who : Int) (hl : ls.length ≤ 100000000) (p : Int → Bool)
    (hg : ∀ i, (h : i < ls.length) → Meets Try.prog 78 [dHB hs, dIB who] (.cons (avInt ls[i]) (.cons (.ptr 0 [.d]) (.cons (.ptr 1 [.d]) .nil))) fun av X κ => av = avBool (p ls[i]) ∧ X = [dHB hs, dIB who] ∧ κ = []) :
    Meets Try.prog 76 [.sl true () 1 (dInts ls), dHB hs, dIB who] (.cons (.sub 0 [] 0 ls.length ex) (.cons (.fn 78 (.cons (.ptr 1 [.d]) (.cons (.ptr 2 [.d]) .nil))) .nil))
    fun av X κ => av = avBool (ls.any p) ∧ X = [.sl true () 1 (dInts ls), dHB hs, dIB who] ∧ κ = [] := by
  refine Meets.of_vs tabOk Try.func76 (body := ?_) ?_ (by kernel_rfl) Try.ntmps76 (rs := [.tmp 4]) (by kernel_rfl) rfl (by simp [AV.len]) (by simp only [envOf]; exact rfl) ?_
  rotate_left
  · rfl
  intro w0 I0 F0 hF
  repeat first
    | refine VS.seq ?_
    | (refine VS.keepAt 0 [0, 1] ?_; generalize hK : VS _ _ _ = KK; (try simp); (try subst hK); refine VS.region tabOk (id := 0) [] (by kernel_rfl) ?_; generalize hK : VS _ _ _ = KK; simp (maxSteps := 1000000) [hF, dHB, dIB]; (try subst hK); try (refine VS.keep [0, 1] ?_; generalize hK : VS _ _ _ = KK; simp; (try subst hK)))
    | (refine VS.keepAt 1 [0, 1] ?_; generalize hK : VS _ _ _ = KK; (try simp); (try subst hK); refine VS.region tabOk (id := 1) [] (by kernel_rfl) ?_; generalize hK : VS _ _ _ = KK; simp (maxSteps := 1000000) [hF, dHB, dIB]; (try subst hK); try (refine VS.keep [4] ?_; generalize hK : VS _ _ _ = KK; simp; (try subst hK)))
  refine (indexFunc_as ex ls hs who hl p hg).call [(0, []), (1, []), (2, [])] (by simp) (by simp (maxSteps := 1000000) [hF, dHB, dIB]) (by simp (maxSteps := 1000000) [hF, dHB, dIB]) (by simp (maxSteps := 1000000) [hF, dHB, dIB]) (by simp) ?_
  rintro av X κ ⟨rfl, rfl, rfl⟩
  generalize hK : VS _ _ _ = KK; simp (maxSteps := 1000000) [hF, dHB, dIB]; (try subst hK)
  have h : decide ((0 : Int) ≤ ixF p ls) = ls.any p := by simp only [ixF_ge, Bool.decide_eq_true]
  try refine VS.ret ?_
  repeat first | refine blockN_ret ?_ | refine loopN_ret ?_
  refine endK.of [4] [0, 1, 2] [] (by simp [hF]) (by simp [covers, mpre]) ?_
  simp [hF, retK, dHB, dIB, h]

/- slices.IndexFunc[[]int,int] -/
theorem indexFunc_si (ex : Bool) (ls : List Int) (hs : Hs) (hl : ls.length ≤ 100000000) (p : Int → Bool)
    (hg : ∀ i, (h : i < ls.length) → Meets Try.prog 98 [dHB hs] (.cons (avInt ls[i]) (.cons (.ptr 0 [.d]) .nil)) fun av X κ => av = avBool (p ls[i]) ∧ X = [dHB hs] ∧ κ = []) :
    Meets Try.prog 99 [dHB hs] (.cons (.imm 1 (dInts ls) ex) (.cons (.fn 98 (.cons (.ptr 0 [.d]) .nil)) .nil))
    fun av X κ => av = avInt (ixF p ls) ∧ X = [dHB hs] ∧ κ = [] := by
  refine Meets.of_vs tabOk Try.func99 (body := ?_) ?_ (by kernel_rfl) Try.ntmps99 (rs := [.tmp 4]) (by kernel_rfl) rfl (by simp [AV.len]) (by simp only [envOf]; exact rfl) ?_
  rotate_left
  · rfl
  intro w0 I0 F0 hF
  repeat first
    | refine VS.seq ?_
    | refine VS.block ?_
    | (refine VS.keepAt 0 [0, 1] ?_; generalize hK : VS _ _ _ = KK; (try simp); (try subst hK); refine VS.region tabOk (id := 0) [] (by kernel_rfl) ?_; generalize hK : VS _ _ _ = KK; simp (maxSteps := 1000000) [hF, dHB]; (try subst hK); try (refine VS.keep [0, 1] ?_; generalize hK : VS _ _ _ = KK; simp; (try subst hK)))
    | (refine VS.keepAt 1 [0, 1] ?_; generalize hK : VS _ _ _ = KK; (try simp); (try subst hK); refine VS.region tabOk (id := 1) [] (by kernel_rfl) ?_; generalize hK : VS _ _ _ = KK; simp (maxSteps := 1000000) [hF, dHB]; (try subst hK); try (refine VS.keep [0, 1, 7, 8] ?_; generalize hK : VS _ _ _ = KK; simp; (try subst hK)))
  refine VS.rounds (fun m st => ∃ (i : Nat), i + m = ls.length ∧ (∀ j, (h : j < ls.length) → j < i → p ls[j] = false) ∧ st = ⟨[(0, .imm 1 (dInts ls) ex), (1, .fn 98 (.cons (.ptr 0 [.d]) .nil)), (7, avInt ls.length), (8, avInt i)], [dHB hs], [], []⟩) ⟨ls.length, 0, by omega, by omega, by simp [dHB]⟩ ?_
  rintro m st ⟨i, hi, hall, rfl⟩
  repeat first
    | refine VS.seq ?_
    | (refine VS.keepAt 2 [0, 1, 7, 8] ?_; generalize hK : VS _ _ _ = KK; (try simp); (try subst hK); refine VS.region tabOk (id := 2) [] (by kernel_rfl) ?_; generalize hK : VS _ _ _ = KK; simp (maxSteps := 1000000) [hF, dHB]; (try subst hK); try (refine VS.keep [0, 1, 7, 8, 9] ?_; generalize hK : VS _ _ _ = KK; simp; (try subst hK)))
    | (refine VS.cond ?_; generalize hK1 : VS _ _ _ = KK1; generalize hK2 : VS _ _ _ = KK2; simp (maxSteps := 1000000) [hF, dHB]; (try subst hK1); (try subst hK2))
  refine ⟨fun hlt => ?_, fun hge => ?_⟩
  · have hi' : i < ls.length := by omega
    have hn := dInts_nth hi'
    repeat first
      | refine VS.seq ?_
      | refine VS.skip ?_
      | refine VS.block ?_
      | (refine VS.keepAt 3 [0, 1, 7, 8] ?_; generalize hK : VS _ _ _ = KK; (try simp); (try subst hK); refine VS.region tabOk (id := 3) [] (by kernel_rfl) ?_; generalize hK : VS _ _ _ = KK; simp (maxSteps := 1000000) [hF, dHB, hn, hi']; (try subst hK); try (refine VS.keep [0, 1, 5, 7, 8] ?_; generalize hK : VS _ _ _ = KK; simp; (try subst hK)))
      | (refine VS.keepAt 4 [0, 1, 5, 7, 8] ?_; generalize hK : VS _ _ _ = KK; (try simp); (try subst hK); refine VS.region tabOk (id := 4) [] (by kernel_rfl) ?_; generalize hK : VS _ _ _ = KK; simp (maxSteps := 1000000) [hF, dHB, hn, hi']; (try subst hK); try (refine VS.keep [0, 1, 5, 7, 8, 16] ?_; generalize hK : VS _ _ _ = KK; simp; (try subst hK)))
    refine (hg i hi').call [(0, [])] (by simp) (by simp (maxSteps := 1000000) [hF, dHB]) (by simp (maxSteps := 1000000) [hF, dHB]) (by simp (maxSteps := 1000000) [hF, dHB]) (by simp) ?_
    rintro av X κ ⟨rfl, rfl, rfl⟩
    generalize hK : VS _ _ _ = KK; simp (maxSteps := 1000000) [hF, dHB]; (try subst hK)
    cases hp : p ls[i] with
    | true =>
      have hr : ixF p ls = i := ixF_hit hi' (fun j h => hall j (by omega) h) hp
      repeat first
        | refine VS.seq ?_
        | (refine VS.keepAt 5 [5] ?_; generalize hK : VS _ _ _ = KK; (try simp); (try subst hK); refine VS.region tabOk (id := 5) [] (by kernel_rfl) ?_; generalize hK : VS _ _ _ = KK; simp (maxSteps := 1000000) [hF, hp]; (try subst hK); try (refine VS.keep [4] ?_; generalize hK : VS _ _ _ = KK; simp; (try subst hK)))
        | (refine VS.cond ?_; generalize hK1 : VS _ _ _ = KK1; generalize hK2 : VS _ _ _ = KK2; simp (maxSteps := 1000000) [hF, hp]; (try subst hK1); (try subst hK2))
      try refine VS.ret ?_
      repeat first | refine blockN_ret ?_ | refine loopN_ret ?_
      refine endK.of [4] [0] [] (by simp [hF]) (by simp [covers, mpre]) ?_
      simp [hF, retK, dHB, hr]
    | false =>
      repeat first
        | refine VS.skip ?_
        | refine VS.nil ?_
        | refine blockN_normal ?_
        | refine loopN_normal ?_
        | (refine VS.keepAt 6 [0, 1, 7, 8] ?_; generalize hK : VS _ _ _ = KK; (try simp); (try subst hK); refine VS.region tabOk (id := 6) [] (by kernel_rfl) ?_; generalize hK : VS _ _ _ = KK; simp (maxSteps := 1000000) [hF, hp]; (try subst hK); try (refine VS.keep [0, 1, 7, 8] ?_; generalize hK : VS _ _ _ = KK; simp; (try subst hK)))
        | (refine VS.cond ?_; generalize hK1 : VS _ _ _ = KK1; generalize hK2 : VS _ _ _ = KK2; simp (maxSteps := 1000000) [hF, hp]; (try subst hK1); (try subst hK2))
      refine nextK.of [0, 1, 7, 8] [0] (m - 1) (by omega) (by simp [hF]) ?_
      refine ⟨i + 1, by omega, ?_, ?_⟩
      · intro j hj hji
        rcases Nat.lt_or_ge j i with h' | h'
        · exact hall j hj h'
        · obtain rfl : j = i := by omega
          exact hp
      · simp [dHB]
        exact IntWalk.i64_in _ (by omega)
  · have hr : ixF p ls = -1 := ixF_miss (fun j h => hall j h (by omega))
    repeat first
      | refine VS.seq ?_
      | refine VS.exit ?_
      | (refine VS.keepAt 7 [] ?_; generalize hK : VS _ _ _ = KK; (try simp); (try subst hK); refine VS.region tabOk (id := 7) [] (by kernel_rfl) ?_; generalize hK : VS _ _ _ = KK; simp (maxSteps := 1000000) [hF]; (try subst hK); try (refine VS.keep [4] ?_; generalize hK : VS _ _ _ = KK; simp; (try subst hK)))
    try refine VS.ret ?_
    repeat first | refine blockN_ret ?_ | refine loopN_ret ?_
    refine endK.of [4] [0] [] (by simp [hF]) (by simp [covers, mpre]) ?_
    simp [hF, retK, dHB, hr]

/- slices.ContainsFunc[[]int,int] -/
theorem containsFunc_si (ex : Bool) (ls : List Int) (hs : Hs) (hl : ls.length ≤ 100000000) (p : Int → Bool)
    (hg : ∀ i, (h : i < ls.length) → Meets Try.prog 98 [dHB hs] (.cons (avInt ls[i]) (.cons (.ptr 0 [.d]) .nil)) fun av X κ => av = avBool (p ls[i]) ∧ X = [dHB hs] ∧ κ = []) :
    Meets Try.prog 76 [dHB hs] (.cons (.imm 1 (dInts ls) ex) (.cons (.fn 98 (.cons (.ptr 0 [.d]) .nil)) .nil))
    fun av X κ => av = avBool (ls.any p) ∧ X = [dHB hs] ∧ κ = [] := by
  refine Meets.of_vs tabOk Try.func76 (body := ?_) ?_ (by kernel_rfl) Try.ntmps76 (rs := [.tmp 4]) (by kernel_rfl) rfl (by simp [AV.len]) (by simp only [envOf]; exact rfl) ?_
  rotate_left
  · rfl
  intro w0 I0 F0 hF
  repeat first
    | refine VS.seq ?_
    | (refine VS.keepAt 0 [0, 1] ?_; generalize hK : VS _ _ _ = KK; (try simp); (try subst hK); refine VS.region tabOk (id := 0) [] (by kernel_rfl) ?_; generalize hK : VS _ _ _ = KK; simp (maxSteps := 1000000) [hF, dHB]; (try subst hK); try (refine VS.keep [0, 1] ?_; generalize hK : VS _ _ _ = KK; simp; (try subst hK)))
    | (refine VS.keepAt 1 [0, 1] ?_; generalize hK : VS _ _ _ = KK; (try simp); (try subst hK); refine VS.region tabOk (id := 1) [] (by kernel_rfl) ?_; generalize hK : VS _ _ _ = KK; simp (maxSteps := 1000000) [hF, dHB]; (try subst hK); try (refine VS.keep [4] ?_; generalize hK : VS _ _ _ = KK; simp; (try subst hK)))
  refine (indexFunc_si ex ls hs hl p hg).call [(0, [])] (by simp) (by simp (maxSteps := 1000000) [hF, dHB]) (by simp (maxSteps := 1000000) [hF, dHB]) (by simp (maxSteps := 1000000) [hF, dHB]) (by simp) ?_
  rintro av X κ ⟨rfl, rfl, rfl⟩
  generalize hK : VS _ _ _ = KK; simp (maxSteps := 1000000) [hF, dHB]; (try subst hK)
  have h : decide ((0 : Int) ≤ ixF p ls) = ls.any p := by simp only [ixF_ge, Bool.decide_eq_true]
  try refine VS.ret ?_
  repeat first | refine blockN_ret ?_ | refine loopN_ret ?_
  refine endK.of [4] [0] [] (by simp [hF]) (by simp [covers, mpre]) ?_
  simp [hF, retK, dHB, h]

/- slices.IndexFunc[[]int,int] -/
theorem indexFunc_ss (ex : Bool) (ls : List Int) (hs : Hs) (hl : ls.length ≤ 100000000) (p : Int → Bool)
    (hg : ∀ i, (h : i < ls.length) → Meets Try.prog 98 [dHB hs] (.cons (avInt ls[i]) (.cons (.ptr 0 [.d]) .nil)) fun av X κ => av = avBool (p ls[i]) ∧ X = [dHB hs] ∧ κ = []) :
    Meets Try.prog 99 [.sl true () 1 (dInts ls), dHB hs] (.cons (.sub 0 [] 0 ls.length ex) (.cons (.fn 98 (.cons (.ptr 1 [.d]) .nil)) .nil))
    fun av X κ => av = avInt (ixF p ls) ∧ X = [.sl true () 1 (dInts ls), dHB hs] ∧ κ = [] := by
  refine Meets.of_vs tabOk Try.func99 (body := ?_) ?_ (by kernel_rfl) Try.ntmps99 (rs := [.tmp 4]) (by kernel_rfl) rfl (by simp [AV.len]) (by simp only [envOf]; exact rfl) ?_
  rotate_left
  · rfl
  intro w0 I0 F0 hF
  repeat first
    | refine VS.seq ?_
    | refine VS.block ?_
    | (refine VS.keepAt 0 [0, 1] ?_; generalize hK : VS _ _ _ = KK; (try simp); (try subst hK); refine VS.region tabOk (id := 0) [] (by kernel_rfl) ?_; generalize hK : VS _ _ _ = KK; simp (maxSteps := 1000000) [hF, dHB]; (try subst hK); try (refine VS.keep [0, 1] ?_; generalize hK : VS _ _ _ = KK; simp; (try subst hK)))
    | (refine VS.keepAt 1 [0, 1] ?_; generalize hK : VS _ _ _ = KK; (try simp); (try subst hK); refine VS.region tabOk (id := 1) [] (by kernel_rfl) ?_; generalize hK : VS _ _ _ = KK; simp (maxSteps := 1000000) [hF, dHB]; (try subst hK); try (refine VS.keep [0, 1, 7, 8] ?_; generalize hK : VS _ _ _ = KK; simp; (try subst hK)))
  refine VS.rounds (fun m st => ∃ (i : Nat), i + m = ls.length ∧ (∀ j, (h : j < ls.length) → j < i → p ls[j] = false) ∧ st = ⟨[(0, .sub 0 [] 0 ls.length ex), (1, .fn 98 (.cons (.ptr 1 [.d]) .nil)), (7, avInt ls.length), (8, avInt i)], [.sl true () 1 (dInts ls), dHB hs], [], []⟩) ⟨ls.length, 0, by omega, by omega, by simp [dHB]⟩ ?_
  rintro m st ⟨i, hi, hall, rfl⟩
  repeat first
    | refine VS.seq ?_
    | (refine VS.keepAt 2 [0, 1, 7, 8] ?_; generalize hK : VS _ _ _ = KK; (try simp); (try subst hK); refine VS.region tabOk (id := 2) [] (by kernel_rfl) ?_; generalize hK : VS _ _ _ = KK; simp (maxSteps := 1000000) [hF, dHB]; (try subst hK); try (refine VS.keep [0, 1, 7, 8, 9] ?_; generalize hK : VS _ _ _ = KK; simp; (try subst hK)))
    | (refine VS.cond ?_; generalize hK1 : VS _ _ _ = KK1; generalize hK2 : VS _ _ _ = KK2; simp (maxSteps := 1000000) [hF, dHB]; (try subst hK1); (try subst hK2))
  refine ⟨fun hlt => ?_, fun hge => ?_⟩
  · have hi' : i < ls.length := by omega
    have hn := dInts_nth hi'
    repeat first
      | refine VS.seq ?_
      | refine VS.skip ?_
      | refine VS.block ?_
      | (refine VS.keepAt 3 [0, 1, 7, 8] ?_; generalize hK : VS _ _ _ = KK; (try simp); (try subst hK); refine VS.region tabOk (id := 3) [] (by kernel_rfl) ?_; generalize hK : VS _ _ _ = KK; simp (maxSteps := 1000000) [hF, dHB, hn, hi']; (try subst hK); try (refine VS.keep [0, 1, 5, 7, 8] ?_; generalize hK : VS _ _ _ = KK; simp; (try subst hK)))
      | (refine VS.keepAt 4 [0, 1, 5, 7, 8] ?_; generalize hK : VS _ _ _ = KK; (try simp); (try subst hK); refine VS.region tabOk (id := 4) [] (by kernel_rfl) ?_; generalize hK : VS _ _ _ = KK; simp (maxSteps := 1000000) [hF, dHB, hn, hi']; (try subst hK); try (refine VS.keep [0, 1, 5, 7, 8, 16] ?_; generalize hK : VS _ _ _ = KK; simp; (try subst hK)))
    refine (hg i hi').call [(1, [])] (by simp) (by simp (maxSteps := 1000000) [hF, dHB]) (by simp (maxSteps := 1000000) [hF, dHB]) (by simp (maxSteps := 1000000) [hF, dHB]) (by simp) ?_
    rintro av X κ ⟨rfl, rfl, rfl⟩
    generalize hK : VS _ _ _ = KK; simp (maxSteps := 1000000) [hF, dHB]; (try subst hK)
    cases hp : p ls[i] with
    | true =>
      have hr : ixF p ls = i := ixF_hit hi' (fun j h => hall j (by omega) h) hp
      repeat first
        | refine VS.seq ?_
        | (refine VS.keepAt 5 [5] ?_; generalize hK : VS _ _ _ = KK; (try simp); (try subst hK); refine VS.region tabOk (id := 5) [] (by kernel_rfl) ?_; generalize hK : VS _ _ _ = KK; simp (maxSteps := 1000000) [hF, hp]; (try subst hK); try (refine VS.keep [4] ?_; generalize hK : VS _ _ _ = KK; simp; (try subst hK)))
        | (refine VS.cond ?_; generalize hK1 : VS _ _ _ = KK1; generalize hK2 : VS _ _ _ = KK2; simp (maxSteps := 1000000) [hF, hp]; (try subst hK1); (try subst hK2))
      try refine VS.ret ?_
      repeat first | refine blockN_ret ?_ | refine loopN_ret ?_
      refine endK.of [4] [0, 1] [] (by simp [hF]) (by simp [covers, mpre]) ?_
      simp [hF, retK, dHB, hr]
    | false =>
      repeat first
        | refine VS.skip ?_
        | refine VS.nil ?_
        | refine blockN_normal ?_
        | refine loopN_normal ?_
        | (refine VS.keepAt 6 [0, 1, 7, 8] ?_; generalize hK : VS _ _ _ = KK; (try simp); (try subst hK); refine VS.region tabOk (id := 6) [] (by kernel_rfl) ?_; generalize hK : VS _ _ _ = KK; simp (maxSteps := 1000000) [hF, hp]; (try subst hK); try (refine VS.keep [0, 1, 7, 8] ?_; generalize hK : VS _ _ _ = KK; simp; (try subst hK)))
        | (refine VS.cond ?_; generalize hK1 : VS _ _ _ = KK1; generalize hK2 : VS _ _ _ = KK2; simp (maxSteps := 1000000) [hF, hp]; (try subst hK1); (try subst hK2))
      refine nextK.of [0, 1, 7, 8] [0, 1] (m - 1) (by omega) (by simp [hF]) ?_
      refine ⟨i + 1, by omega, ?_, ?_⟩
      · intro j hj hji
        rcases Nat.lt_or_ge j i with h' | h'
        · exact hall j hj h'
        · obtain rfl : j = i := by omega
          exact hp
      · simp [dHB]
        exact IntWalk.i64_in _ (by omega)
  · have hr : ixF p ls = -1 := ixF_miss (fun j h => hall j h (by omega))
    repeat first
      | refine VS.seq ?_
      | refine VS.exit ?_
      | (refine VS.keepAt 7 [] ?_; generalize hK : VS _ _ _ = KK; (try simp); (try subst hK); refine VS.region tabOk (id := 7) [] (by kernel_rfl) ?_; generalize hK : VS _ _ _ = KK; simp (maxSteps := 1000000) [hF]; (try subst hK); try (refine VS.keep [4] ?_; generalize hK : VS _ _ _ = KK; simp; (try subst hK)))
    try refine VS.ret ?_
    repeat first | refine blockN_ret ?_ | refine loopN_ret ?_
    refine endK.of [4] [0, 1] [] (by simp [hF]) (by simp [covers, mpre]) ?_
    simp [hF, retK, dHB, hr]

/- slices.ContainsFunc[[]int,int] -/
theorem containsFunc_ss (ex : Bool) (ls : List Int) (hs : Hs) (hl : ls.length ≤ 100000000) (p : Int → Bool)
    (hg : ∀ i, (h : i < ls.length) → Meets Try.prog 98 [dHB hs] (.cons (avInt ls[i]) (.cons (.ptr 0 [.d]) .nil)) fun av X κ => av = avBool (p ls[i]) ∧ X = [dHB hs] ∧ κ = []) :
    Meets Try.prog 76 [.sl true () 1 (dInts ls), dHB hs] (.cons (.sub 0 [] 0 ls.length ex) (.cons (.fn 98 (.cons (.ptr 1 [.d]) .nil)) .nil))
    fun av X κ => av = avBool (ls.any p) ∧ X = [.sl true () 1 (dInts ls), dHB hs] ∧ κ = [] := by
  refine Meets.of_vs tabOk Try.func76 (body := ?_) ?_ (by kernel_rfl) Try.ntmps76 (rs := [.tmp 4]) (by kernel_rfl) rfl (by simp [AV.len]) (by simp only [envOf]; exact rfl) ?_
  rotate_left
  · rfl
  intro w0 I0 F0 hF
  repeat first
    | refine VS.seq ?_
    | (refine VS.keepAt 0 [0, 1] ?_; generalize hK : VS _ _ _ = KK; (try simp); (try subst hK); refine VS.region tabOk (id := 0) [] (by kernel_rfl) ?_; generalize hK : VS _ _ _ = KK; simp (maxSteps := 1000000) [hF, dHB]; (try subst hK); try (refine VS.keep [0, 1] ?_; generalize hK : VS _ _ _ = KK; simp; (try subst hK)))
    | (refine VS.keepAt 1 [0, 1] ?_; generalize hK : VS _ _ _ = KK; (try simp); (try subst hK); refine VS.region tabOk (id := 1) [] (by kernel_rfl) ?_; generalize hK : VS _ _ _ = KK; simp (maxSteps := 1000000) [hF, dHB]; (try subst hK); try (refine VS.keep [4] ?_; generalize hK : VS _ _ _ = KK; simp; (try subst hK)))
  refine (indexFunc_ss ex ls hs hl p hg).call [(0, []), (1, [])] (by simp) (by simp (maxSteps := 1000000) [hF, dHB]) (by simp (maxSteps := 1000000) [hF, dHB]) (by simp (maxSteps := 1000000) [hF, dHB]) (by simp) ?_
  rintro av X κ ⟨rfl, rfl, rfl⟩
  generalize hK : VS _ _ _ = KK; simp (maxSteps := 1000000) [hF, dHB]; (try subst hK)
  have h : decide ((0 : Int) ≤ ixF p ls) = ls.any p := by simp only [ixF_ge, Bool.decide_eq_true]
  try refine VS.ret ?_
  repeat first | refine blockN_ret ?_ | refine loopN_ret ?_
  refine endK.of [4] [0, 1] [] (by simp [hF]) (by simp [covers, mpre]) ?_
  simp [hF, retK, dHB, h]

/- slices.IndexFunc[[]int,int] -/
theorem indexFunc_ti (ex : Bool) (ls : List Int) (x : List Int) (hl : ls.length ≤ 100000000) (p : Int → Bool)
    (hg : ∀ i, (h : i < ls.length) → Meets Try.prog 84 [dBox x] (.cons (avInt ls[i]) (.cons (.ptr 0 [.d]) .nil)) fun av X κ => av = avBool (p ls[i]) ∧ X = [dBox x] ∧ κ = []) :
    Meets Try.prog 99 [dBox x] (.cons (.imm 1 (dInts ls) ex) (.cons (.fn 84 (.cons (.ptr 0 [.d]) .nil)) .nil))
    fun av X κ => av = avInt (ixF p ls) ∧ X = [dBox x] ∧ κ = [] := by
  refine Meets.of_vs tabOk Try.func99 (body := ?_) ?_ (by kernel_rfl) Try.ntmps99 (rs := [.tmp 4]) (by kernel_rfl) rfl (by simp [AV.len]) (by simp only [envOf]; exact rfl) ?_
  rotate_left
  · rfl
  intro w0 I0 F0 hF
  repeat first
    | refine VS.seq ?_
    | refine VS.block ?_
    | (refine VS.keepAt 0 [0, 1] ?_; generalize hK : VS _ _ _ = KK; (try simp); (try subst hK); refine VS.region tabOk (id := 0) [] (by kernel_rfl) ?_; generalize hK : VS _ _ _ = KK; simp (maxSteps := 1000000) [hF, dBox]; (try subst hK); try (refine VS.keep [0, 1] ?_; generalize hK : VS _ _ _ = KK; simp; (try subst hK)))
    | (refine VS.keepAt 1 [0, 1] ?_; generalize hK : VS _ _ _ = KK; (try simp); (try subst hK); refine VS.region tabOk (id := 1) [] (by kernel_rfl) ?_; generalize hK : VS _ _ _ = KK; simp (maxSteps := 1000000) [hF, dBox]; (try subst hK); try (refine VS.keep [0, 1, 7, 8] ?_; generalize hK : VS _ _ _ = KK; simp; (try subst hK)))
  refine VS.rounds (fun m st => ∃ (i : Nat), i + m = ls.length ∧ (∀ j, (h : j < ls.length) → j < i → p ls[j] = false) ∧ st = ⟨[(0, .imm 1 (dInts ls) ex), (1, .fn 84 (.cons (.ptr 0 [.d]) .nil)), (7, avInt ls.length), (8, avInt i)], [dBox x], [], []⟩) ⟨ls.length, 0, by omega, by omega, by simp [dBox]⟩ ?_
  rintro m st ⟨i, hi, hall, rfl⟩
  repeat first
    | refine VS.seq ?_
    | (refine VS.keepAt 2 [0, 1, 7, 8] ?_; generalize hK : VS _ _ _ = KK; (try simp); (try subst hK); refine VS.region tabOk (id := 2) [] (by kernel_rfl) ?_; generalize hK : VS _ _ _ = KK; simp (maxSteps := 1000000) [hF, dBox]; (try subst hK); try (refine VS.keep [0, 1, 7, 8, 9] ?_; generalize hK : VS _ _ _ = KK; simp; (try subst hK)))
    | (refine VS.cond ?_; generalize hK1 : VS _ _ _ = KK1; generalize hK2 : VS _ _ _ = KK2; simp (maxSteps := 1000000) [hF, dBox]; (try subst hK1); (try subst hK2))
  refine ⟨fun hlt => ?_, fun hge => ?_⟩
  · have hi' : i < ls.length := by omega
    have hn := dInts_nth hi'
    repeat first
      | refine VS.seq ?_
      | refine VS.skip ?_
      | refine VS.block ?_
      | (refine VS.keepAt 3 [0, 1, 7, 8] ?_; generalize hK : VS _ _ _ = KK; (try simp); (try subst hK); refine VS.region tabOk (id := 3) [] (by kernel_rfl) ?_; generalize hK : VS _ _ _ = KK; simp (maxSteps := 1000000) [hF, dBox, hn, hi']; (try subst hK); try (refine VS.keep [0, 1, 5, 7, 8] ?_; generalize hK : VS _ _ _ = KK; simp; (try subst hK)))
      | (refine VS.keepAt 4 [0, 1, 5, 7, 8] ?_; generalize hK : VS _ _ _ = KK; (try simp); (try subst hK); refine VS.region tabOk (id := 4) [] (by kernel_rfl) ?_; generalize hK : VS _ _ _ = KK; simp (maxSteps := 1000000) [hF, dBox, hn, hi']; (try subst hK); try (refine VS.keep [0, 1, 5, 7, 8, 16] ?_; generalize hK : VS _ _ _ = KK; simp; (try subst hK)))
    refine (hg i hi').call [(0, [])] (by simp) (by simp (maxSteps := 1000000) [hF, dBox]) (by simp (maxSteps := 1000000) [hF, dBox]) (by simp (maxSteps := 1000000) [hF, dBox]) (by simp) ?_
    rintro av X κ ⟨rfl, rfl, rfl⟩
    generalize hK : VS _ _ _ = KK; simp (maxSteps := 1000000) [hF, dBox]; (try subst hK)
    cases hp : p ls[i] with
    | true =>
      have hr : ixF p ls = i := ixF_hit hi' (fun j h => hall j (by omega) h) hp
      repeat first
        | refine VS.seq ?_
        | (refine VS.keepAt 5 [5] ?_; generalize hK : VS _ _ _ = KK; (try simp); (try subst hK); refine VS.region tabOk (id := 5) [] (by kernel_rfl) ?_; generalize hK : VS _ _ _ = KK; simp (maxSteps := 1000000) [hF, hp]; (try subst hK); try (refine VS.keep [4] ?_; generalize hK : VS _ _ _ = KK; simp; (try subst hK)))
        | (refine VS.cond ?_; generalize hK1 : VS _ _ _ = KK1; generalize hK2 : VS _ _ _ = KK2; simp (maxSteps := 1000000) [hF, hp]; (try subst hK1); (try subst hK2))
      try refine VS.ret ?_
      repeat first | refine blockN_ret ?_ | refine loopN_ret ?_
      refine endK.of [4] [0] [] (by simp [hF]) (by simp [covers, mpre]) ?_
      simp [hF, retK, dBox, hr]
    | false =>
      repeat first
        | refine VS.skip ?_
        | refine VS.nil ?_
        | refine blockN_normal ?_
        | refine loopN_normal ?_
        | (refine VS.keepAt 6 [0, 1, 7, 8] ?_; generalize hK : VS _ _ _ = KK; (try simp); (try subst hK); refine VS.region tabOk (id := 6) [] (by kernel_rfl) ?_; generalize hK : VS _ _ _ = KK; simp (maxSteps := 1000000) [hF, hp]; (try subst hK); try (refine VS.keep [0, 1, 7, 8] ?_; generalize hK : VS _ _ _ = KK; simp; (try subst hK)))
        | (refine VS.cond ?_; generalize hK1 : VS _ _ _ = KK1; generalize hK2 : VS _ _ _ = KK2; simp (maxSteps := 1000000) [hF, hp]; (try subst hK1); (try subst hK2))
      refine nextK.of [0, 1, 7, 8] [0] (m - 1) (by omega) (by simp [hF]) ?_
      refine ⟨i + 1, by omega, ?_, ?_⟩
      · intro j hj hji
        rcases Nat.lt_or_ge j i with h' | h'
        · exact hall j hj h'
        · obtain rfl : j = i := by omega
          exact hp
      · simp [dBox]
        exact IntWalk.i64_in _ (by omega)
  · have hr : ixF p ls = -1 := ixF_miss (fun j h => hall j h (by omega))
    repeat first
      | refine VS.seq ?_
      | refine VS.exit ?_
      | (refine VS.keepAt 7 [] ?_; generalize hK : VS _ _ _ = KK; (try simp); (try subst hK); refine VS.region tabOk (id := 7) [] (by kernel_rfl) ?_; generalize hK : VS _ _ _ = KK; simp (maxSteps := 1000000) [hF]; (try subst hK); try (refine VS.keep [4] ?_; generalize hK : VS _ _ _ = KK; simp; (try subst hK)))
    try refine VS.ret ?_
    repeat first | refine blockN_ret ?_ | refine loopN_ret ?_
    refine endK.of [4] [0] [] (by simp [hF]) (by simp [covers, mpre]) ?_
    simp [hF, retK, dBox, hr]

/- slices.ContainsFunc[[]int,int] -/
theorem containsFunc_ti (ex : Bool) (ls : List Int) (x : List Int) (hl : ls.length ≤ 100000000) (p : Int → Bool)
    (hg : ∀ i, (h : i < ls.length) → Meets Try.prog 84 [dBox x] (.cons (avInt ls[i]) (.cons (.ptr 0 [.d]) .nil)) fun av X κ => av = avBool (p ls[i]) ∧ X = [dBox x] ∧ κ = []) :
    Meets Try.prog 76 [dBox x] (.cons (.imm 1 (dInts ls) ex) (.cons (.fn 84 (.cons (.ptr 0 [.d]) .nil)) .nil))
    fun av X κ => av = avBool (ls.any p) ∧ X = [dBox x] ∧ κ = [] := by
  refine Meets.of_vs tabOk Try.func76 (body := ?_) ?_ (by kernel_rfl) Try.ntmps76 (rs := [.tmp 4]) (by kernel_rfl) rfl (by simp [AV.len]) (by simp only [envOf]; exact rfl) ?_
  rotate_left
  · rfl
  intro w0 I0 F0 hF
  repeat first
    | refine VS.seq ?_
    | (refine VS.keepAt 0 [0, 1] ?_; generalize hK : VS _ _ _ = KK; (try simp); (try subst hK); refine VS.region tabOk (id := 0) [] (by kernel_rfl) ?_; generalize hK : VS _ _ _ = KK; simp (maxSteps := 1000000) [hF, dBox]; (try subst hK); try (refine VS.keep [0, 1] ?_; generalize hK : VS _ _ _ = KK; simp; (try subst hK)))
    | (refine VS.keepAt 1 [0, 1] ?_; generalize hK : VS _ _ _ = KK; (try simp); (try subst hK); refine VS.region tabOk (id := 1) [] (by kernel_rfl) ?_; generalize hK : VS _ _ _ = KK; simp (maxSteps := 1000000) [hF, dBox]; (try subst hK); try (refine VS.keep [4] ?_; generalize hK : VS _ _ _ = KK; simp; (try subst hK)))
  refine (indexFunc_ti ex ls x hl p hg).call [(0, [])] (by simp) (by simp (maxSteps := 1000000) [hF, dBox]) (by simp (maxSteps := 1000000) [hF, dBox]) (by simp (maxSteps := 1000000) [hF, dBox]) (by simp) ?_
  rintro av X κ ⟨rfl, rfl, rfl⟩
  generalize hK : VS _ _ _ = KK; simp (maxSteps := 1000000) [hF, dBox]; (try subst hK)
  have h : decide ((0 : Int) ≤ ixF p ls) = ls.any p := by simp only [ixF_ge, Bool.decide_eq_true]
  try refine VS.ret ?_
  repeat first | refine blockN_ret ?_ | refine loopN_ret ?_
  refine endK.of [4] [0] [] (by simp [hF]) (by simp [covers, mpre]) ?_
  simp [hF, retK, dBox, h]

/- slices.IndexFunc[[]int,int] -/
theorem indexFunc_ts (ex : Bool) (ls : List Int) (x : List Int) (hl : ls.length ≤ 100000000) (p : Int → Bool)
    (hg : ∀ i, (h : i < ls.length) → Meets Try.prog 84 [dBox x] (.cons (avInt ls[i]) (.cons (.ptr 0 [.d]) .nil)) fun av X κ => av = avBool (p ls[i]) ∧ X = [dBox x] ∧ κ = []) :
    Meets Try.prog 99 [.sl true () 1 (dInts ls), dBox x] (.cons (.sub 0 [] 0 ls.length ex) (.cons (.fn 84 (.cons (.ptr 1 [.d]) .nil)) .nil))
    fun av X κ => av = avInt (ixF p ls) ∧ X = [.sl true () 1 (dInts ls), dBox x] ∧ κ = [] := by
  refine Meets.of_vs tabOk Try.func99 (body := ?_) ?_ (by kernel_rfl) Try.ntmps99 (rs := [.tmp 4]) (by kernel_rfl) rfl (by simp [AV.len]) (by simp only [envOf]; exact rfl) ?_
  rotate_left
  · rfl
  intro w0 I0 F0 hF
  repeat first
    | refine VS.seq ?_
    | refine VS.block ?_
    | (refine VS.keepAt 0 [0, 1] ?_; generalize hK : VS _ _ _ = KK; (try simp); (try subst hK); refine VS.region tabOk (id := 0) [] (by kernel_rfl) ?_; generalize hK : VS _ _ _ = KK; simp (maxSteps := 1000000) [hF, dBox]; (try subst hK); try (refine VS.keep [0, 1] ?_; generalize hK : VS _ _ _ = KK; simp; (try subst hK)))
    | (refine VS.keepAt 1 [0, 1] ?_; generalize hK : VS _ _ _ = KK; (try simp); (try subst hK); refine VS.region tabOk (id := 1) [] (by kernel_rfl) ?_; generalize hK : VS _ _ _ = KK; simp (maxSteps := 1000000) [hF, dBox]; (try subst hK); try (refine VS.keep [0, 1, 7, 8] ?_; generalize hK : VS _ _ _ = KK; simp; (try subst hK)))
  refine VS.rounds (fun m st => ∃ (i : Nat), i + m = ls.length ∧ (∀ j, (h : j < ls.length) → j < i → p ls[j] = false) ∧ st = ⟨[(0, .sub 0 [] 0 ls.length ex), (1, .fn 84 (.cons (.ptr 1 [.d]) .nil)), (7, avInt ls.length), (8, avInt i)], [.sl true () 1 (dInts ls), dBox x], [], []⟩) ⟨ls.length, 0, by omega, by omega, by simp [dBox]⟩ ?_
  rintro m st ⟨i, hi, hall, rfl⟩
  repeat first
    | refine VS.seq ?_
    | (refine VS.keepAt 2 [0, 1, 7, 8] ?_; generalize hK : VS _ _ _ = KK; (try simp); (try subst hK); refine VS.region tabOk (id := 2) [] (by kernel_rfl) ?_; generalize hK : VS _ _ _ = KK; simp (maxSteps := 1000000) [hF, dBox]; (try subst hK); try (refine VS.keep [0, 1, 7, 8, 9] ?_; generalize hK : VS _ _ _ = KK; simp; (try subst hK)))
    | (refine VS.cond ?_; generalize hK1 : VS _ _ _ = KK1; generalize hK2 : VS _ _ _ = KK2; simp (maxSteps := 1000000) [hF, dBox]; (try subst hK1); (try subst hK2))
  refine ⟨fun hlt => ?_, fun hge => ?_⟩
  · have hi' : i < ls.length := by omega
    have hn := dInts_nth hi'
    repeat first
      | refine VS.seq ?_
      | refine VS.skip ?_
      | refine VS.block ?_
      | (refine VS.keepAt 3 [0, 1, 7, 8] ?_; generalize hK : VS _ _ _ = KK; (try simp); (try subst hK); refine VS.region tabOk (id := 3) [] (by kernel_rfl) ?_; generalize hK : VS _ _ _ = KK; simp (maxSteps := 1000000) [hF, dBox, hn, hi']; (try subst hK); try (refine VS.keep [0, 1, 5, 7, 8] ?_; generalize hK : VS _ _ _ = KK; simp; (try subst hK)))
      | (refine VS.keepAt 4 [0, 1, 5, 7, 8] ?_; generalize hK : VS _ _ _ = KK; (try simp); (try subst hK); refine VS.region tabOk (id := 4) [] (by kernel_rfl) ?_; generalize hK : VS _ _ _ = KK; simp (maxSteps := 1000000) [hF, dBox, hn, hi']; (try subst hK); try (refine VS.keep [0, 1, 5, 7, 8, 16] ?_; generalize hK : VS _ _ _ = KK; simp; (try subst hK)))
    refine (hg i hi').call [(1, [])] (by simp) (by simp (maxSteps := 1000000) [hF, dBox]) (by simp (maxSteps := 1000000) [hF, dBox]) (by simp (maxSteps := 1000000) [hF, dBox]) (by simp) ?_
    rintro av X κ ⟨rfl, rfl, rfl⟩
    generalize hK : VS _ _ _ = KK; simp (maxSteps := 1000000) [hF, dBox]; (try subst hK)
    cases hp : p ls[i] with
    | true =>
      have hr : ixF p ls = i := ixF_hit hi' (fun j h => hall j (by omega) h) hp
      repeat first
        | refine VS.seq ?_
        | (refine VS.keepAt 5 [5] ?_; generalize hK : VS _ _ _ = KK; (try simp); (try subst hK); refine VS.region tabOk (id := 5) [] (by kernel_rfl) ?_; generalize hK : VS _ _ _ = KK; simp (maxSteps := 1000000) [hF, hp]; (try subst hK); try (refine VS.keep [4] ?_; generalize hK : VS _ _ _ = KK; simp; (try subst hK)))
        | (refine VS.cond ?_; generalize hK1 : VS _ _ _ = KK1; generalize hK2 : VS _ _ _ = KK2; simp (maxSteps := 1000000) [hF, hp]; (try subst hK1); (try subst hK2))
      try refine VS.ret ?_
      repeat first | refine blockN_ret ?_ | refine loopN_ret ?_
      refine endK.of [4] [0, 1] [] (by simp [hF]) (by simp [covers, mpre]) ?_
      simp [hF, retK, dBox, hr]
    | false =>
      repeat first
        | refine VS.skip ?_
        | refine VS.nil ?_
        | refine blockN_normal ?_
        | refine loopN_normal ?_
        | (refine VS.keepAt 6 [0, 1, 7, 8] ?_; generalize hK : VS _ _ _ = KK; (try simp); (try subst hK); refine VS.region tabOk (id := 6) [] (by kernel_rfl) ?_; generalize hK : VS _ _ _ = KK; simp (maxSteps := 1000000) [hF, hp]; (try subst hK); try (refine VS.keep [0, 1, 7, 8] ?_; generalize hK : VS _ _ _ = KK; simp; (try subst hK)))
        | (refine VS.cond ?_; generalize hK1 : VS _ _ _ = KK1; generalize hK2 : VS _ _ _ = KK2; simp (maxSteps := 1000000) [hF, hp]; (try subst hK1); (try subst hK2))
      refine nextK.of [0, 1, 7, 8] [0, 1] (m - 1) (by omega) (by simp [hF]) ?_
      refine ⟨i + 1, by omega, ?_, ?_⟩
      · intro j hj hji
        rcases Nat.lt_or_ge j i with h' | h'
        · exact hall j hj h'
        · obtain rfl : j = i := by omega
          exact hp
      · simp [dBox]
        exact IntWalk.i64_in _ (by omega)
  · have hr : ixF p ls = -1 := ixF_miss (fun j h => hall j h (by omega))
    repeat first
      | refine VS.seq ?_
      | refine VS.exit ?_
      | (refine VS.keepAt 7 [] ?_; generalize hK : VS _ _ _ = KK; (try simp); (try subst hK); refine VS.region tabOk (id := 7) [] (by kernel_rfl) ?_; generalize hK : VS _ _ _ = KK; simp (maxSteps := 1000000) [hF]; (try subst hK); try (refine VS.keep [4] ?_; generalize hK : VS _ _ _ = KK; simp; (try subst hK)))
    try refine VS.ret ?_
    repeat first | refine blockN_ret ?_ | refine loopN_ret ?_
    refine endK.of [4] [0, 1] [] (by simp [hF]) (by simp [covers, mpre]) ?_
    simp [hF, retK, dBox, hr]

/- slices.ContainsFunc[[]int,int] -/
theorem containsFunc_ts (ex : Bool) (ls : List Int) (x : List Int) (hl : ls.length ≤ 100000000) (p : Int → Bool)
    (hg : ∀ i, (h : i < ls.length) → Meets Try.prog 84 [dBox x] (.cons (avInt ls[i]) (.cons (.ptr 0 [.d]) .nil)) fun av X κ => av = avBool (p ls[i]) ∧ X = [dBox x] ∧ κ = []) :
    Meets Try.prog 76 [.sl true () 1 (dInts ls), dBox x] (.cons (.sub 0 [] 0 ls.length ex) (.cons (.fn 84 (.cons (.ptr 1 [.d]) .nil)) .nil))
    fun av X κ => av = avBool (ls.any p) ∧ X = [.sl true () 1 (dInts ls), dBox x] ∧ κ = [] := by
  refine Meets.of_vs tabOk Try.func76 (body := ?_) ?_ (by kernel_rfl) Try.ntmps76 (rs := [.tmp 4]) (by kernel_rfl) rfl (by simp [AV.len]) (by simp only [envOf]; exact rfl) ?_
  rotate_left
  · rfl
  intro w0 I0 F0 hF
  repeat first
    | refine VS.seq ?_
    | (refine VS.keepAt 0 [0, 1] ?_; generalize hK : VS _ _ _ = KK; (try simp); (try subst hK); refine VS.region tabOk (id := 0) [] (by kernel_rfl) ?_; generalize hK : VS _ _ _ = KK; simp (maxSteps := 1000000) [hF, dBox]; (try subst hK); try (refine VS.keep [0, 1] ?_; generalize hK : VS _ _ _ = KK; simp; (try subst hK)))
    | (refine VS.keepAt 1 [0, 1] ?_; generalize hK : VS _ _ _ = KK; (try simp); (try subst hK); refine VS.region tabOk (id := 1) [] (by kernel_rfl) ?_; generalize hK : VS _ _ _ = KK; simp (maxSteps := 1000000) [hF, dBox]; (try subst hK); try (refine VS.keep [4] ?_; generalize hK : VS _ _ _ = KK; simp; (try subst hK)))
  refine (indexFunc_ts ex ls x hl p hg).call [(0, []), (1, [])] (by simp) (by simp (maxSteps := 1000000) [hF, dBox]) (by simp (maxSteps := 1000000) [hF, dBox]) (by simp (maxSteps := 1000000) [hF, dBox]) (by simp) ?_
  rintro av X κ ⟨rfl, rfl, rfl⟩
  generalize hK : VS _ _ _ = KK; simp (maxSteps := 1000000) [hF, dBox]; (try subst hK)
  have h : decide ((0 : Int) ≤ ixF p ls) = ls.any p := by simp only [ixF_ge, Bool.decide_eq_true]
  try refine VS.ret ?_
  repeat first | refine blockN_ret ?_ | refine loopN_ret ?_
  refine endK.of [4] [0, 1] [] (by simp [hF]) (by simp [covers, mpre]) ?_
  simp [hF, retK, dBox, h]

/- slices.IndexFunc[[]int,int] -/
theorem indexFunc_ui (ex : Bool) (ls : List Int) (x : List Int) (hl : ls.length ≤ 100000000) (p : Int → Bool)
    (hg : ∀ i, (h : i < ls.length) → Meets Try.prog 85 [dBox x] (.cons (avInt ls[i]) (.cons (.ptr 0 [.d]) .nil)) fun av X κ => av = avBool (p ls[i]) ∧ X = [dBox x] ∧ κ = []) :
    Meets Try.prog 99 [dBox x] (.cons (.imm 1 (dInts ls) ex) (.cons (.fn 85 (.cons (.ptr 0 [.d]) .nil)) .nil))
    fun av X κ => av = avInt (ixF p ls) ∧ X = [dBox x] ∧ κ = [] := by
  refine Meets.of_vs tabOk Try.func99 (body := ?_) ?_ (by kernel_rfl) Try.ntmps99 (rs := [.tmp 4]) (by kernel_rfl) rfl (by simp [AV.len]) (by simp only [envOf]; exact rfl) ?_
  rotate_left
  · rfl
  intro w0 I0 F0 hF
  repeat first
    | refine VS.seq ?_
    | refine VS.block ?_
    | (refine VS.keepAt 0 [0, 1] ?_; generalize hK : VS _ _ _ = KK; (try simp); (try subst hK); refine VS.region tabOk (id := 0) [] (by kernel_rfl) ?_; generalize hK : VS _ _ _ = KK; simp (maxSteps := 1000000) [hF, dBox]; (try subst hK); try (refine VS.keep [0, 1] ?_; generalize hK : VS _ _ _ = KK; simp; (try subst hK)))
    | (refine VS.keepAt 1 [0, 1] ?_; generalize hK : VS _ _ _ = KK; (try simp); (try subst hK); refine VS.region tabOk (id := 1) [] (by kernel_rfl) ?_; generalize hK : VS _ _ _ = KK; simp (maxSteps := 1000000) [hF, dBox]; (try subst hK); try (refine VS.keep [0, 1, 7, 8] ?_; generalize hK : VS _ _ _ = KK; simp; (try subst hK)))
  refine VS.rounds (fun m st => ∃ (i : Nat), i + m = ls.length ∧ (∀ j, (h : j < ls.length) → j < i → p ls[j] = false) ∧ st = ⟨[(0, .imm 1 (dInts ls) ex), (1, .fn 85 (.cons (.ptr 0 [.d]) .nil)), (7, avInt ls.length), (8, avInt i)], [dBox x], [], []⟩) ⟨ls.length, 0, by omega, by omega, by simp [dBox]⟩ ?_
  rintro m st ⟨i, hi, hall, rfl⟩
  repeat first
    | refine VS.seq ?_
    | (refine VS.keepAt 2 [0, 1, 7, 8] ?_; generalize hK : VS _ _ _ = KK; (try simp); (try subst hK); refine VS.region tabOk (id := 2) [] (by kernel_rfl) ?_; generalize hK : VS _ _ _ = KK; simp (maxSteps := 1000000) [hF, dBox]; (try subst hK); try (refine VS.keep [0, 1, 7, 8, 9] ?_; generalize hK : VS _ _ _ = KK; simp; (try subst hK)))
    | (refine VS.cond ?_; generalize hK1 : VS _ _ _ = KK1; generalize hK2 : VS _ _ _ = KK2; simp (maxSteps := 1000000) [hF, dBox]; (try subst hK1); (try subst hK2))
  refine ⟨fun hlt => ?_, fun hge => ?_⟩
  · have hi' : i < ls.length := by omega
    have hn := dInts_nth hi'
    repeat first
      | refine VS.seq ?_
      | refine VS.skip ?_
      | refine VS.block ?_
      | (refine VS.keepAt 3 [0, 1, 7, 8] ?_; generalize hK : VS _ _ _ = KK; (try simp); (try subst hK); refine VS.region tabOk (id := 3) [] (by kernel_rfl) ?_; generalize hK : VS _ _ _ = KK; simp (maxSteps := 1000000) [hF, dBox, hn, hi']; (try subst hK); try (refine VS.keep [0, 1, 5, 7, 8] ?_; generalize hK : VS _ _ _ = KK; simp; (try subst hK)))
      | (refine VS.keepAt 4 [0, 1, 5, 7, 8] ?_; generalize hK : VS _ _ _ = KK; (try simp); (try subst hK); refine VS.region tabOk (id := 4) [] (by kernel_rfl) ?_; generalize hK : VS _ _ _ = KK; simp (maxSteps := 1000000) [hF, dBox, hn, hi']; (try subst hK); try (refine VS.keep [0, 1, 5, 7, 8, 16] ?_; generalize hK : VS _ _ _ = KK; simp; (try subst hK)))
    refine (hg i hi').call [(0, [])] (by simp) (by simp (maxSteps := 1000000) [hF, dBox]) (by simp (maxSteps := 1000000) [hF, dBox]) (by simp (maxSteps := 1000000) [hF, dBox]) (by simp) ?_
    rintro av X κ ⟨rfl, rfl, rfl⟩
    generalize hK : VS _ _ _ = KK; simp (maxSteps := 1000000) [hF, dBox]; (try subst hK)
    cases hp : p ls[i] with
    | true =>
      have hr : ixF p ls = i := ixF_hit hi' (fun j h => hall j (by omega) h) hp
      repeat first
        | refine VS.seq ?_
        | (refine VS.keepAt 5 [5] ?_; generalize hK : VS _ _ _ = KK; (try simp); (try subst hK); refine VS.region tabOk (id := 5) [] (by kernel_rfl) ?_; generalize hK : VS _ _ _ = KK; simp (maxSteps := 1000000) [hF, hp]; (try subst hK); try (refine VS.keep [4] ?_; generalize hK : VS _ _ _ = KK; simp; (try subst hK)))
        | (refine VS.cond ?_; generalize hK1 : VS _ _ _ = KK1; generalize hK2 : VS _ _ _ = KK2; simp (maxSteps := 1000000) [hF, hp]; (try subst hK1); (try subst hK2))
      try refine VS.ret ?_
      repeat first | refine blockN_ret ?_ | refine loopN_ret ?_
      refine endK.of [4] [0] [] (by simp [hF]) (by simp [covers, mpre]) ?_
      simp [hF, retK, dBox, hr]
    | false =>
      repeat first
        | refine VS.skip ?_
        | refine VS.nil ?_
        | refine blockN_normal ?_
        | refine loopN_normal ?_
        | (refine VS.keepAt 6 [0, 1, 7, 8] ?_; generalize hK : VS _ _ _ = KK; (try simp); (try subst hK); refine VS.region tabOk (id := 6) [] (by kernel_rfl) ?_; generalize hK : VS _ _ _ = KK; simp (maxSteps := 1000000) [hF, hp]; (try subst hK); try (refine VS.keep [0, 1, 7, 8] ?_; generalize hK : VS _ _ _ = KK; simp; (try subst hK)))
        | (refine VS.cond ?_; generalize hK1 : VS _ _ _ = KK1; generalize hK2 : VS _ _ _ = KK2; simp (maxSteps := 1000000) [hF, hp]; (try subst hK1); (try subst hK2))
      refine nextK.of [0, 1, 7, 8] [0] (m - 1) (by omega) (by simp [hF]) ?_
      refine ⟨i + 1, by omega, ?_, ?_⟩
      · intro j hj hji
        rcases Nat.lt_or_ge j i with h' | h'
        · exact hall j hj h'
        · obtain rfl : j = i := by omega
          exact hp
      · simp [dBox]
        exact IntWalk.i64_in _ (by omega)
  · have hr : ixF p ls = -1 := ixF_miss (fun j h => hall j h (by omega))
    repeat first
      | refine VS.seq ?_
      | refine VS.exit ?_
      | (refine VS.keepAt 7 [] ?_; generalize hK : VS _ _ _ = KK; (try simp); (try subst hK); refine VS.region tabOk (id := 7) [] (by kernel_rfl) ?_; generalize hK : VS _ _ _ = KK; simp (maxSteps := 1000000) [hF]; (try subst hK); try (refine VS.keep [4] ?_; generalize hK : VS _ _ _ = KK; simp; (try subst hK)))
    try refine VS.ret ?_
    repeat first | refine blockN_ret ?_ | refine loopN_ret ?_
    refine endK.of [4] [0] [] (by simp [hF]) (by simp [covers, mpre]) ?_
    simp [hF, retK, dBox, hr]

/- slices.ContainsFunc[[]int,int] -/
theorem containsFunc_ui (ex : Bool) (ls : List Int) (x : List Int) (hl : ls.length ≤ 100000000) (p : Int → Bool)
    (hg : ∀ i, (h : i < ls.length) → Meets Try.prog 85 [dBox x] (.cons (avInt ls[i]) (.cons (.ptr 0 [.d]) .nil)) fun av X κ => av = avBool (p ls[i]) ∧ X = [dBox x] ∧ κ = []) :
    Meets Try.prog 76 [dBox x] (.cons (.imm 1 (dInts ls) ex) (.cons (.fn 85 (.cons (.ptr 0 [.d]) .nil)) .nil))
    fun av X κ => av = avBool (ls.any p) ∧ X = [dBox x] ∧ κ = [] := by
  refine Meets.of_vs tabOk Try.func76 (body := ?_) ?_ (by kernel_rfl) Try.ntmps76 (rs := [.tmp 4]) (by kernel_rfl) rfl (by simp [AV.len]) (by simp only [envOf]; exact rfl) ?_
  rotate_left
  · rfl
  intro w0 I0 F0 hF
  repeat first
    | refine VS.seq ?_
    | (refine VS.keepAt 0 [0, 1] ?_; generalize hK : VS _ _ _ = KK; (try simp); (try subst hK); refine VS.region tabOk (id := 0) [] (by kernel_rfl) ?_; generalize hK : VS _ _ _ = KK; simp (maxSteps := 1000000) [hF, dBox]; (try subst hK); try (refine VS.keep [0, 1] ?_; generalize hK : VS _ _ _ = KK; simp; (try subst hK)))
    | (refine VS.keepAt 1 [0, 1] ?_; generalize hK : VS _ _ _ = KK; (try simp); (try subst hK); refine VS.region tabOk (id := 1) [] (by kernel_rfl) ?_; generalize hK : VS _ _ _ = KK; simp (maxSteps := 1000000) [hF, dBox]; (try subst hK); try (refine VS.keep [4] ?_; generalize hK : VS _ _ _ = KK; simp; (try subst hK)))
  refine (indexFunc_ui ex ls x hl p hg).call [(0, [])] (by simp) (by simp (maxSteps := 1000000) [hF, dBox]) (by simp (maxSteps := 1000000) [hF, dBox]) (by simp (maxSteps := 1000000) [hF, dBox]) (by simp) ?_
  rintro av X κ ⟨rfl, rfl, rfl⟩
  generalize hK : VS _ _ _ = KK; simp (maxSteps := 1000000) [hF, dBox]; (try subst hK)
  have h : decide ((0 : Int) ≤ ixF p ls) = ls.any p := by simp only [ixF_ge, Bool.decide_eq_true]
  try refine VS.ret ?_
  repeat first | refine blockN_ret ?_ | refine loopN_ret ?_
  refine endK.of [4] [0] [] (by simp [hF]) (by simp [covers, mpre]) ?_
  simp [hF, retK, dBox, h]

/- slices.IndexFunc[[]int,int] -/
theorem indexFunc_us (ex : Bool) (ls : List Int) (x : List Int) (hl : ls.length ≤ 100000000) (p : Int → Bool)
    (hg : ∀ i, (h : i < ls.length) → Meets Try.prog 85 [dBox x] (.cons (avInt ls[i]) (.cons (.ptr 0 [.d]) .nil)) fun av X κ => av = avBool (p ls[i]) ∧ X = [dBox x] ∧ κ = []) :
    Meets Try.prog 99 [.sl true () 1 (dInts ls), dBox x] (.cons (.sub 0 [] 0 ls.length ex) (.cons (.fn 85 (.cons (.ptr 1 [.d]) .nil)) .nil))
    fun av X κ => av = avInt (ixF p ls) ∧ X = [.sl true () 1 (dInts ls), dBox x] ∧ κ = [] := by
  refine Meets.of_vs tabOk Try.func99 (body := ?_) ?_ (by kernel_rfl) Try.ntmps99 (rs := [.tmp 4]) (by kernel_rfl) rfl (by simp [AV.len]) (by simp only [envOf]; exact rfl) ?_
  rotate_left
  · rfl
  intro w0 I0 F0 hF
  repeat first
    | refine VS.seq ?_
    | refine VS.block ?_
    | (refine VS.keepAt 0 [0, 1] ?_; generalize hK : VS _ _ _ = KK; (try simp); (try subst hK); refine VS.region tabOk (id := 0) [] (by kernel_rfl) ?_; generalize hK : VS _ _ _ = KK; simp (maxSteps := 1000000) [hF, dBox]; (try subst hK); try (refine VS.keep [0, 1] ?_; generalize hK : VS _ _ _ = KK; simp; (try subst hK)))
    | (refine VS.keepAt 1 [0, 1] ?_; generalize hK : VS _ _ _ = KK; (try simp); (try subst hK); refine VS.region tabOk (id := 1) [] (by kernel_rfl) ?_; generalize hK : VS _ _ _ = KK; simp (maxSteps := 1000000) [hF, dBox]; (try subst hK); try (refine VS.keep [0, 1, 7, 8] ?_; generalize hK : VS _ _ _ = KK; simp; (try subst hK)))
  refine VS.rounds (fun m st => ∃ (i : Nat), i + m = ls.length ∧ (∀ j, (h : j < ls.length) → j < i → p ls[j] = false) ∧ st = ⟨[(0, .sub 0 [] 0 ls.length ex), (1, .fn 85 (.cons (.ptr 1 [.d]) .nil)), (7, avInt ls.length), (8, avInt i)], [.sl true () 1 (dInts ls), dBox x], [], []⟩) ⟨ls.length, 0, by omega, by omega, by simp [dBox]⟩ ?_
  rintro m st ⟨i, hi, hall, rfl⟩
  repeat first
    | refine VS.seq ?_
    | (refine VS.keepAt 2 [0, 1, 7, 8] ?_; generalize hK : VS _ _ _ = KK; (try simp); (try subst hK); refine VS.region tabOk (id := 2) [] (by kernel_rfl) ?_; generalize hK : VS _ _ _ = KK; simp (maxSteps := 1000000) [hF, dBox]; (try subst hK); try (refine VS.keep [0, 1, 7, 8, 9] ?_; generalize hK : VS _ _ _ = KK; simp; (try subst hK)))
    | (refine VS.cond ?_; generalize hK1 : VS _ _ _ = KK1; generalize hK2 : VS _ _ _ = KK2; simp (maxSteps := 1000000) [hF, dBox]; (try subst hK1); (try subst hK2))
  refine ⟨fun hlt => ?_, fun hge => ?_⟩
  · have hi' : i < ls.length := by omega
    have hn := dInts_nth hi'
    repeat first
      | refine VS.seq ?_
      | refine VS.skip ?_
      | refine VS.block ?_
      | (refine VS.keepAt 3 [0, 1, 7, 8] ?_; generalize hK : VS _ _ _ = KK; (try simp); (try subst hK); refine VS.region tabOk (id := 3) [] (by kernel_rfl) ?_; generalize hK : VS _ _ _ = KK; simp (maxSteps := 1000000) [hF, dBox, hn, hi']; (try subst hK); try (refine VS.keep [0, 1, 5, 7, 8] ?_; generalize hK : VS _ _ _ = KK; simp; (try subst hK)))
      | (refine VS.keepAt 4 [0, 1, 5, 7, 8] ?_; generalize hK : VS _ _ _ = KK; (try simp); (try subst hK); refine VS.region tabOk (id := 4) [] (by kernel_rfl) ?_; generalize hK : VS _ _ _ = KK; simp (maxSteps := 1000000) [hF, dBox, hn, hi']; (try subst hK); try (refine VS.keep [0, 1, 5, 7, 8, 16] ?_; generalize hK : VS _ _ _ = KK; simp; (try subst hK)))
    refine (hg i hi').call [(1, [])] (by simp) (by simp (maxSteps := 1000000) [hF, dBox]) (by simp (maxSteps := 1000000) [hF, dBox]) (by simp (maxSteps := 1000000) [hF, dBox]) (by simp) ?_
    rintro av X κ ⟨rfl, rfl, rfl⟩
    generalize hK : VS _ _ _ = KK; simp (maxSteps := 1000000) [hF, dBox]; (try subst hK)
    cases hp : p ls[i] with
    | true =>
      have hr : ixF p ls = i := ixF_hit hi' (fun j h => hall j (by omega) h) hp
      repeat first
        | refine VS.seq ?_
        | (refine VS.keepAt 5 [5] ?_; generalize hK : VS _ _ _ = KK; (try simp); (try subst hK); refine VS.region tabOk (id := 5) [] (by kernel_rfl) ?_; generalize hK : VS _ _ _ = KK; simp (maxSteps := 1000000) [hF, hp]; (try subst hK); try (refine VS.keep [4] ?_; generalize hK : VS _ _ _ = KK; simp; (try subst hK)))
        | (refine VS.cond ?_; generalize hK1 : VS _ _ _ = KK1; generalize hK2 : VS _ _ _ = KK2; simp (maxSteps := 1000000) [hF, hp]; (try subst hK1); (try subst hK2))
      try refine VS.ret ?_
      repeat first | refine blockN_ret ?_ | refine loopN_ret ?_
      refine endK.of [4] [0, 1] [] (by simp [hF]) (by simp [covers, mpre]) ?_
      simp [hF, retK, dBox, hr]
    | false =>
      repeat first
        | refine VS.skip ?_
        | refine VS.nil ?_
        | refine blockN_normal ?_
        | refine loopN_normal ?_
        | (refine VS.keepAt 6 [0, 1, 7, 8] ?_; generalize hK : VS _ _ _ = KK; (try simp); (try subst hK); refine VS.region tabOk (id := 6) [] (by kernel_rfl) ?_; generalize hK : VS _ _ _ = KK; simp (maxSteps := 1000000) [hF, hp]; (try subst hK); try (refine VS.keep [0, 1, 7, 8] ?_; generalize hK : VS _ _ _ = KK; simp; (try subst hK)))
        | (refine VS.cond ?_; generalize hK1 : VS _ _ _ = KK1; generalize hK2 : VS _ _ _ = KK2; simp (maxSteps := 1000000) [hF, hp]; (try subst hK1); (try subst hK2))
      refine nextK.of [0, 1, 7, 8] [0, 1] (m - 1) (by omega) (by simp [hF]) ?_
      refine ⟨i + 1, by omega, ?_, ?_⟩
      · intro j hj hji
        rcases Nat.lt_or_ge j i with h' | h'
        · exact hall j hj h'
        · obtain rfl : j = i := by omega
          exact hp
      · simp [dBox]
        exact IntWalk.i64_in _ (by omega)
  · have hr : ixF p ls = -1 := ixF_miss (fun j h => hall j h (by omega))
    repeat first
      | refine VS.seq ?_
      | refine VS.exit ?_
      | (refine VS.keepAt 7 [] ?_; generalize hK : VS _ _ _ = KK; (try simp); (try subst hK); refine VS.region tabOk (id := 7) [] (by kernel_rfl) ?_; generalize hK : VS _ _ _ = KK; simp (maxSteps := 1000000) [hF]; (try subst hK); try (refine VS.keep [4] ?_; generalize hK : VS _ _ _ = KK; simp; (try subst hK)))
    try refine VS.ret ?_
    repeat first | refine blockN_ret ?_ | refine loopN_ret ?_
    refine endK.of [4] [0, 1] [] (by simp [hF]) (by simp [covers, mpre]) ?_
    simp [hF, retK, dBox, hr]

/- slices.ContainsFunc[[]int,int] -/
theorem containsFunc_us (ex : Bool) (ls : List Int) (x : List Int) (hl : ls.length ≤ 100000000) (p : Int → Bool)
    (hg : ∀ i, (h : i < ls.length) → Meets Try.prog 85 [dBox x] (.cons (avInt ls[i]) (.cons (.ptr 0 [.d]) .nil)) fun av X κ => av = avBool (p ls[i]) ∧ X = [dBox x] ∧ κ = []) :
    Meets Try.prog 76 [.sl true () 1 (dInts ls), dBox x] (.cons (.sub 0 [] 0 ls.length ex) (.cons (.fn 85 (.cons (.ptr 1 [.d]) .nil)) .nil))
    fun av X κ => av = avBool (ls.any p) ∧ X = [.sl true () 1 (dInts ls), dBox x] ∧ κ = [] := by
  refine Meets.of_vs tabOk Try.func76 (body := ?_) ?_ (by kernel_rfl) Try.ntmps76 (rs := [.tmp 4]) (by kernel_rfl) rfl (by simp [AV.len]) (by simp only [envOf]; exact rfl) ?_
  rotate_left
  · rfl
  intro w0 I0 F0 hF
  repeat first
    | refine VS.seq ?_
    | (refine VS.keepAt 0 [0, 1] ?_; generalize hK : VS _ _ _ = KK; (try simp); (try subst hK); refine VS.region tabOk (id := 0) [] (by kernel_rfl) ?_; generalize hK : VS _ _ _ = KK; simp (maxSteps := 1000000) [hF, dBox]; (try subst hK); try (refine VS.keep [0, 1] ?_; generalize hK : VS _ _ _ = KK; simp; (try subst hK)))
    | (refine VS.keepAt 1 [0, 1] ?_; generalize hK : VS _ _ _ = KK; (try simp); (try subst hK); refine VS.region tabOk (id := 1) [] (by kernel_rfl) ?_; generalize hK : VS _ _ _ = KK; simp (maxSteps := 1000000) [hF, dBox]; (try subst hK); try (refine VS.keep [4] ?_; generalize hK : VS _ _ _ = KK; simp; (try subst hK)))
  refine (indexFunc_us ex ls x hl p hg).call [(0, []), (1, [])] (by simp) (by simp (maxSteps := 1000000) [hF, dBox]) (by simp (maxSteps := 1000000) [hF, dBox]) (by simp (maxSteps := 1000000) [hF, dBox]) (by simp) ?_
  rintro av X κ ⟨rfl, rfl, rfl⟩
  generalize hK : VS _ _ _ = KK; simp (maxSteps := 1000000) [hF, dBox]; (try subst hK)
  have h : decide ((0 : Int) ≤ ixF p ls) = ls.any p := by simp only [ixF_ge, Bool.decide_eq_true]
  try refine VS.ret ?_
  repeat first | refine blockN_ret ?_ | refine loopN_ret ?_
  refine endK.of [4] [0, 1] [] (by simp [hF]) (by simp [covers, mpre]) ?_
  simp [hF, retK, dBox, h]

end Go.Proofs.Ytkkbcpcihadkhaa

/- Whether things are there, and seen; the error of asking. -/
namespace Go.Proofs.Ytkkbcpcihadkhaa
set_option linter.all false
open Go.Vc Go.Proofs
set_option linter.unusedSimpArgs false
set_option linter.unusedVariables false
set_option maxRecDepth 100000
set_option maxHeartbeats 4000000
attribute [local irreducible] CallW EqK

theorem any_not {p : Int → Bool} (l : List Int) : (!l.any fun x => !p x) = l.all p := by
  induction l with
  | nil => rfl
  | cons a l ih => simp [ih]
/- (*cabochon/isolate.House).has -/
theorem has_i (h : Hs) (ex : Bool) (ls : List Int) (hl : ls.length ≤ 100000000) : Meets Try.prog 41 [] (.cons (avH h) (.cons (.imm 1 (dInts ls) ex) .nil))
    fun av X κ => av = avBool (ls.all (isT h)) ∧ X = [] ∧ κ = [] := by
  have ha := any_not (p := isT h) ls
  refine Meets.of_vs tabOk Try.func41 (body := ?_) ?_ (by kernel_rfl) Try.ntmps41 (rs := [.tmp 4]) (by kernel_rfl) rfl (by simp [AV.len]) (by simp only [envOf]; exact rfl) ?_
  rotate_left
  · rfl
  intro w0 I0 F0 hF
  repeat first
    | refine VS.seq ?_
    | (refine VS.keepAt 0 [0, 1] ?_; generalize hK : VS _ _ _ = KK; (try simp); (try subst hK); refine VS.region tabOk (id := 0) [] (by kernel_rfl) ?_; generalize hK : VS _ _ _ = KK; simp (maxSteps := 1000000) [hF]; (try subst hK); try (refine VS.keep [1, 2] ?_; generalize hK : VS _ _ _ = KK; simp; (try subst hK)))
    | (refine VS.keepAt 1 [1, 2] ?_; generalize hK : VS _ _ _ = KK; (try simp); (try subst hK); refine VS.region tabOk (id := 1) [(2, 7)] (by kernel_rfl) ?_; generalize hK : VS _ _ _ = KK; simp (maxSteps := 1000000) [hF]; (try subst hK); try (refine VS.keep [4] ?_; generalize hK : VS _ _ _ = KK; simp; (try subst hK)))
  refine (containsFunc_hi ex ls h hl (fun x => !isT h x) (fun i hi => has1_ok h ls[i])).call [(0, [])] (by simp) (by simp (maxSteps := 1000000) [hF, dHB, ha]) (by simp (maxSteps := 1000000) [hF, dHB, ha]) (by simp (maxSteps := 1000000) [hF, dHB, ha]) (by simp) ?_
  rintro av X κ ⟨rfl, rfl, rfl⟩
  generalize hK : VS _ _ _ = KK; simp (maxSteps := 1000000) [hF, dHB, ha]; (try subst hK)
  try refine VS.ret ?_
  repeat first | refine blockN_ret ?_ | refine loopN_ret ?_
  refine endK.of [4] [] [] (by simp [hF]) (by simp [covers, mpre]) ?_
  simp [hF, retK, ha]
theorem has_s (h : Hs) (ex : Bool) (ls : List Int) (hl : ls.length ≤ 100000000) : Meets Try.prog 41 [.sl true () 1 (dInts ls)] (.cons (avH h) (.cons (.sub 0 [] 0 ls.length ex) .nil))
    fun av X κ => av = avBool (ls.all (isT h)) ∧ X = [.sl true () 1 (dInts ls)] ∧ κ = [] := by
  have ha := any_not (p := isT h) ls
  refine Meets.of_vs tabOk Try.func41 (body := ?_) ?_ (by kernel_rfl) Try.ntmps41 (rs := [.tmp 4]) (by kernel_rfl) rfl (by simp [AV.len]) (by simp only [envOf]; exact rfl) ?_
  rotate_left
  · rfl
  intro w0 I0 F0 hF
  repeat first
    | refine VS.seq ?_
    | (refine VS.keepAt 0 [0, 1] ?_; generalize hK : VS _ _ _ = KK; (try simp); (try subst hK); refine VS.region tabOk (id := 0) [] (by kernel_rfl) ?_; generalize hK : VS _ _ _ = KK; simp (maxSteps := 1000000) [hF]; (try subst hK); try (refine VS.keep [1, 2] ?_; generalize hK : VS _ _ _ = KK; simp; (try subst hK)))
    | (refine VS.keepAt 1 [1, 2] ?_; generalize hK : VS _ _ _ = KK; (try simp); (try subst hK); refine VS.region tabOk (id := 1) [(2, 7)] (by kernel_rfl) ?_; generalize hK : VS _ _ _ = KK; simp (maxSteps := 1000000) [hF]; (try subst hK); try (refine VS.keep [4] ?_; generalize hK : VS _ _ _ = KK; simp; (try subst hK)))
  refine (containsFunc_hs ex ls h hl (fun x => !isT h x) (fun i hi => has1_ok h ls[i])).call [(0, []), (1, [])] (by simp) (by simp (maxSteps := 1000000) [hF, dHB, ha]) (by simp (maxSteps := 1000000) [hF, dHB, ha]) (by simp (maxSteps := 1000000) [hF, dHB, ha]) (by simp) ?_
  rintro av X κ ⟨rfl, rfl, rfl⟩
  generalize hK : VS _ _ _ = KK; simp (maxSteps := 1000000) [hF, dHB, ha]; (try subst hK)
  try refine VS.ret ?_
  repeat first | refine blockN_ret ?_ | refine loopN_ret ?_
  refine endK.of [4] [0] [] (by simp [hF]) (by simp [covers, mpre]) ?_
  simp [hF, retK, ha]

def seesB (h : Hs) (who x : Int) : Bool := decide ((h.things.getD x.toNat ⟨-2, false, 0, [], false⟩).owner = who ∨ (h.things.getD x.toNat ⟨-2, false, 0, [], false⟩).owner = -1)
/- (*cabochon/isolate.House).sees -/
theorem sees_ok (h : Hs) (who : Int) (x : Nat) (hx : x < h.things.length) : Meets Try.prog 79 [] (.cons (avH h) (.cons (avInt who) (.cons (avInt x) .nil))) fun av X κ => av = avBool (seesB h who x) ∧ X = [] ∧ κ = [] := by
  have hn := dTgs_nth (o := false) hx
  have hg : h.things[x]?.getD ⟨-2, false, 0, [], false⟩ = h.things[x] := by simp [hx]
  have hw : IntKind.i64.wrap (-1) = -1 := by decide
  refine Meets.of_vs tabOk Try.func79 (body := ?_) ?_ (by kernel_rfl) Try.ntmps79 (rs := [.tmp 6]) (by kernel_rfl) rfl (by simp [AV.len]) (by simp only [envOf]; exact rfl) ?_
  rotate_left
  · rfl
  intro w0 I0 F0 hF
  by_cases h1 : h.things[x].owner = who
  · repeat first
      | refine VS.seq ?_
      | (refine VS.keepAt 0 [0, 1, 2] ?_; generalize hK : VS _ _ _ = KK; (try simp); (try subst hK); refine VS.region tabOk (id := 0) [] (by kernel_rfl) ?_; generalize hK : VS _ _ _ = KK; simp (maxSteps := 1000000) [hF, dHI, hn, hx, h1]; (try subst hK); try (refine VS.keep [0, 1, 2] ?_; generalize hK : VS _ _ _ = KK; simp; (try subst hK)))
      | (refine VS.keepAt 1 [0, 1, 2] ?_; generalize hK : VS _ _ _ = KK; (try simp); (try subst hK); refine VS.region tabOk (id := 1) [] (by kernel_rfl) ?_; generalize hK : VS _ _ _ = KK; simp (maxSteps := 1000000) [hF, dHI, hn, hx, h1]; (try subst hK); try (refine VS.keep [1, 7] ?_; generalize hK : VS _ _ _ = KK; simp; (try subst hK)))
      | (refine VS.keepAt 2 [1, 7] ?_; generalize hK : VS _ _ _ = KK; (try simp); (try subst hK); refine VS.region tabOk (id := 2) [(3, 19)] (by kernel_rfl) ?_; generalize hK : VS _ _ _ = KK; simp (maxSteps := 1000000) [hF, dHI, hn, hx, h1]; (try subst hK); try (refine VS.keep [6] ?_; generalize hK : VS _ _ _ = KK; simp; (try subst hK)))
    try refine VS.ret ?_
    repeat first | refine blockN_ret ?_ | refine loopN_ret ?_
    refine endK.of [6] [] [] (by simp [hF]) (by simp [covers, mpre]) ?_
    simp [hF, retK, seesB, hg, h1]
  · repeat first
      | refine VS.seq ?_
      | (refine VS.keepAt 0 [0, 1, 2] ?_; generalize hK : VS _ _ _ = KK; (try simp); (try subst hK); refine VS.region tabOk (id := 0) [] (by kernel_rfl) ?_; generalize hK : VS _ _ _ = KK; simp (maxSteps := 1000000) [hF, dHI, hn, hx, h1]; (try subst hK); try (refine VS.keep [0, 1, 2] ?_; generalize hK : VS _ _ _ = KK; simp; (try subst hK)))
      | (refine VS.keepAt 1 [0, 1, 2] ?_; generalize hK : VS _ _ _ = KK; (try simp); (try subst hK); refine VS.region tabOk (id := 1) [] (by kernel_rfl) ?_; generalize hK : VS _ _ _ = KK; simp (maxSteps := 1000000) [hF, dHI, hn, hx, h1]; (try subst hK); try (refine VS.keep [1, 7] ?_; generalize hK : VS _ _ _ = KK; simp; (try subst hK)))
      | (refine VS.keepAt 2 [1, 7] ?_; generalize hK : VS _ _ _ = KK; (try simp); (try subst hK); refine VS.region tabOk (id := 2) [(3, 19)] (by kernel_rfl) ?_; generalize hK : VS _ _ _ = KK; simp (maxSteps := 1000000) [hF, dHI, hn, hx, h1]; (try subst hK); try (refine VS.keep [6] ?_; generalize hK : VS _ _ _ = KK; simp; (try subst hK)))
    try refine VS.ret ?_
    repeat first | refine blockN_ret ?_ | refine loopN_ret ?_
    refine endK.of [6] [] [] (by simp [hF]) (by simp [covers, mpre]) ?_
    simp [hF, retK, seesB, hg, h1]

/- (*cabochon/isolate.House).ask$1 -/
theorem ask1_ok (h : Hs) (who : Int) (x : Nat) (hx : x < h.things.length) : Meets Try.prog 78 [dHB h, dIB who] (.cons (avInt x) (.cons (.ptr 0 [.d]) (.cons (.ptr 1 [.d]) .nil)))
    fun av X κ => av = avBool (!seesB h who x) ∧ X = [dHB h, dIB who] ∧ κ = [] := by
  refine Meets.of_vs tabOk Try.func78 (body := ?_) ?_ (by kernel_rfl) Try.ntmps78 (rs := [.tmp 4]) (by kernel_rfl) rfl (by simp [AV.len]) (by simp only [envOf]; exact rfl) ?_
  rotate_left
  · rfl
  intro w0 I0 F0 hF
  repeat first
    | refine VS.seq ?_
    | (refine VS.keepAt 0 [0, 1, 2] ?_; generalize hK : VS _ _ _ = KK; (try simp); (try subst hK); refine VS.region tabOk (id := 0) [] (by kernel_rfl) ?_; generalize hK : VS _ _ _ = KK; simp (maxSteps := 1000000) [hF, dHB, dIB]; (try subst hK); try (refine VS.keep [0, 1, 2] ?_; generalize hK : VS _ _ _ = KK; simp; (try subst hK)))
    | (refine VS.keepAt 1 [0, 1, 2] ?_; generalize hK : VS _ _ _ = KK; (try simp); (try subst hK); refine VS.region tabOk (id := 1) [] (by kernel_rfl) ?_; generalize hK : VS _ _ _ = KK; simp (maxSteps := 1000000) [hF, dHB, dIB]; (try subst hK); try (refine VS.keep [4] ?_; generalize hK : VS _ _ _ = KK; simp; (try subst hK)))
  refine (sees_ok h who x hx).call [] (by simp) (by simp (maxSteps := 1000000) [hF]) (by simp (maxSteps := 1000000) [hF]) (by simp (maxSteps := 1000000) [hF]) (by simp) ?_
  rintro av X κ ⟨rfl, rfl, rfl⟩
  generalize hK : VS _ _ _ = KK; simp (maxSteps := 1000000) [hF]; (try subst hK)
  try refine VS.ret ?_
  repeat first | refine blockN_ret ?_ | refine loopN_ret ?_
  refine endK.of [4] [0, 1] [] (by simp [hF]) (by simp [covers, mpre]) ?_
  simp [hF, retK, dHB, dIB]

def overB (h : Hs) (who : Int) : Bool := (h.rooms.getD who.toNat ⟨[], false⟩).over
def askOf (h : Hs) (who : Int) (ls : List Int) : Int :=
  if (isR h who && ls.all (isT h)) = false then 1 else if overB h who = true then 8 else if ls.all (seesB h who) = false then 3 else 0
theorem isT_nat {h : Hs} {x : Int} (ht : isT h x = true) : ∃ k : Nat, x = k ∧ k < h.things.length := by
  simp only [isT, decide_eq_true_eq] at ht
  exact ⟨x.toNat, by omega, by omega⟩
theorem isR_nat {h : Hs} {x : Int} (ht : isR h x = true) : ∃ k : Nat, x = k ∧ k < h.rooms.length := by
  simp only [isR, decide_eq_true_eq] at ht
  exact ⟨x.toNat, by omega, by omega⟩
/- (*cabochon/isolate.House).ask -/
theorem ask_i (h : Hs) (who : Int) (ex : Bool) (ls : List Int) (hl : ls.length ≤ 100000000) : Meets Try.prog 42 [] (.cons (avH h) (.cons (avInt who) (.cons (.imm 1 (dInts ls) ex) .nil)))
    fun av X κ => av = avInt (askOf h who ls) ∧ X = [] ∧ κ = [] := by
  refine Meets.of_vs tabOk Try.func42 (body := ?_) ?_ (by kernel_rfl) Try.ntmps42 (rs := [.tmp 6]) (by kernel_rfl) rfl (by simp [AV.len]) (by simp only [envOf]; exact rfl) ?_
  rotate_left
  · rfl
  intro w0 I0 F0 hF
  repeat first
    | refine VS.seq ?_
    | refine VS.block ?_
    | (refine VS.keepAt 0 [0, 1, 2] ?_; generalize hK : VS _ _ _ = KK; (try simp); (try subst hK); refine VS.region tabOk (id := 0) [] (by kernel_rfl) ?_; generalize hK : VS _ _ _ = KK; simp (maxSteps := 1000000) [hF]; (try subst hK); try (refine VS.keep [2, 3, 4] ?_; generalize hK : VS _ _ _ = KK; simp; (try subst hK)))
    | (refine VS.keepAt 1 [2, 3, 4] ?_; generalize hK : VS _ _ _ = KK; (try simp); (try subst hK); refine VS.region tabOk (id := 1) [(4, 12)] (by kernel_rfl) ?_; generalize hK : VS _ _ _ = KK; simp (maxSteps := 1000000) [hF]; (try subst hK); try (refine VS.keep [2, 3, 4, 7] ?_; generalize hK : VS _ _ _ = KK; simp; (try subst hK)))
  cases hr : isR h who with
  | false =>
    have hc : askOf h who ls = 1 := by simp [askOf, hr]
    refine (is_ok h who).call [] (by simp) (by simp (maxSteps := 1000000) [hF, hr]) (by simp (maxSteps := 1000000) [hF, hr]) (by simp (maxSteps := 1000000) [hF, hr]) (by simp) ?_
    rintro av X κ ⟨rfl, rfl, rfl⟩
    generalize hK : VS _ _ _ = KK; simp (maxSteps := 1000000) [hF, hr]; (try subst hK)
    repeat first
      | refine VS.seq ?_
      | (refine VS.keepAt 2 [] ?_; generalize hK : VS _ _ _ = KK; (try simp); (try subst hK); refine VS.region tabOk (id := 2) [] (by kernel_rfl) ?_; generalize hK : VS _ _ _ = KK; simp (maxSteps := 1000000) [hF]; (try subst hK); try (refine VS.keep [6] ?_; generalize hK : VS _ _ _ = KK; simp; (try subst hK)))
      | (refine VS.cond ?_; generalize hK1 : VS _ _ _ = KK1; generalize hK2 : VS _ _ _ = KK2; simp (maxSteps := 1000000) [hF]; (try subst hK1); (try subst hK2))
    try refine VS.ret ?_
    repeat first | refine blockN_ret ?_ | refine loopN_ret ?_
    refine endK.of [6] [] [] (by simp [hF]) (by simp [covers, mpre]) ?_
    simp [hF, retK, hc]
  | true =>
    obtain ⟨k, rfl, hk⟩ := isR_nat hr
    refine (is_ok h k).call [] (by simp) (by simp (maxSteps := 1000000) [hF, hr]) (by simp (maxSteps := 1000000) [hF, hr]) (by simp (maxSteps := 1000000) [hF, hr]) (by simp) ?_
    rintro av X κ ⟨rfl, rfl, rfl⟩
    generalize hK : VS _ _ _ = KK; simp (maxSteps := 1000000) [hF, hr]; (try subst hK)
    cases ht : ls.all (isT h) with
    | false =>
      have hc : askOf h k ls = 1 := by simp [askOf, ht]
      refine (has_i h ex ls hl).call [] (by simp) (by simp (maxSteps := 1000000) [hF, ht]) (by simp (maxSteps := 1000000) [hF, ht]) (by simp (maxSteps := 1000000) [hF, ht]) (by simp) ?_
      rintro av X κ ⟨rfl, rfl, rfl⟩
      generalize hK : VS _ _ _ = KK; simp (maxSteps := 1000000) [hF, ht]; (try subst hK)
      repeat first
        | refine VS.seq ?_
        | (refine VS.keepAt 2 [] ?_; generalize hK : VS _ _ _ = KK; (try simp); (try subst hK); refine VS.region tabOk (id := 2) [] (by kernel_rfl) ?_; generalize hK : VS _ _ _ = KK; simp (maxSteps := 1000000) [hF]; (try subst hK); try (refine VS.keep [6] ?_; generalize hK : VS _ _ _ = KK; simp; (try subst hK)))
        | (refine VS.cond ?_; generalize hK1 : VS _ _ _ = KK1; generalize hK2 : VS _ _ _ = KK2; simp (maxSteps := 1000000) [hF]; (try subst hK1); (try subst hK2))
      try refine VS.ret ?_
      repeat first | refine blockN_ret ?_ | refine loopN_ret ?_
      refine endK.of [6] [] [] (by simp [hF]) (by simp [covers, mpre]) ?_
      simp [hF, retK, hc]
    | true =>
      have hn := dRms_nth (o := false) hk
      have hov : overB h k = h.rooms[k].over := by simp [overB, hk]
      have ha := any_not (p := seesB h k) ls
      refine (has_i h ex ls hl).call [] (by simp) (by simp (maxSteps := 1000000) [hF, ht]) (by simp (maxSteps := 1000000) [hF, ht]) (by simp (maxSteps := 1000000) [hF, ht]) (by simp) ?_
      rintro av X κ ⟨rfl, rfl, rfl⟩
      generalize hK : VS _ _ _ = KK; simp (maxSteps := 1000000) [hF, ht]; (try subst hK)
      repeat first
        | refine VS.seq ?_
        | (refine VS.keepAt 3 [2, 3, 4] ?_; generalize hK : VS _ _ _ = KK; (try simp); (try subst hK); refine VS.drawn tabOk mixedOk (id := 3) [] [⟨0, 8, 524288, 6⟩, ⟨1, 524288, 1048576, 5⟩, ⟨2, 1048576, 2097152, 5⟩, ⟨4, 2097152, 4194304, 6⟩, ⟨0, 16, 8388608, 6⟩, ⟨24, 12582912, 16777216, 5⟩, ⟨32, 16777216, 33554432, 5⟩, ⟨64, 33554432, 67108864, 6⟩, ⟨128, 67108864, 262144, 5⟩] (.take 0 (.take 1 (.take 2 (.take 3 (.take 4 (.take 5 (.take 6 (.take 7 (.take 8 (.done)))))))))) (.run [0, 1, 2, 3, 4, 5, 6, 7, 8] (.done)) (by kernel_rfl) (by kernel_rfl) (by kernel_rfl) ?_; generalize hK : VS _ _ _ = KK; simp only [opsVc_run, opsVc_both, opsVc_chk, opsVc_done, opsVc_yes, pick_cons, pick_nil, List.getElem?_cons_zero, List.getElem?_cons_succ]; simp (maxSteps := 1000000) [hF, dHI, hn, hk]; (try subst hK); try (refine VS.keep [2, 3, 4, 18] ?_; generalize hK : VS _ _ _ = KK; simp; (try subst hK)))
        | (refine VS.cond ?_; generalize hK1 : VS _ _ _ = KK1; generalize hK2 : VS _ _ _ = KK2; simp (maxSteps := 1000000) [hF, dHI, hn, hk]; (try subst hK1); (try subst hK2))
      refine ⟨fun ho => ?_, fun ho => ?_⟩
      · have hc : askOf h k ls = 8 := by simp [askOf, hr, ht, hov, ho]
        repeat first
          | refine VS.seq ?_
          | (refine VS.keepAt 4 [] ?_; generalize hK : VS _ _ _ = KK; (try simp); (try subst hK); refine VS.region tabOk (id := 4) [] (by kernel_rfl) ?_; generalize hK : VS _ _ _ = KK; simp (maxSteps := 1000000) [hF]; (try subst hK); try (refine VS.keep [6] ?_; generalize hK : VS _ _ _ = KK; simp; (try subst hK)))
        try refine VS.ret ?_
        repeat first | refine blockN_ret ?_ | refine loopN_ret ?_
        refine endK.of [6] [] [] (by simp [hF]) (by simp [covers, mpre]) ?_
        simp [hF, retK, hc]
      · repeat first
          | refine VS.seq ?_
          | (refine VS.keepAt 5 [2, 3, 4] ?_; generalize hK : VS _ _ _ = KK; (try simp); (try subst hK); refine VS.region tabOk (id := 5) [] (by kernel_rfl) ?_; generalize hK : VS _ _ _ = KK; simp (maxSteps := 1000000) [hF]; (try subst hK); try (refine VS.keep [27] ?_; generalize hK : VS _ _ _ = KK; simp; (try subst hK)))
        cases hs : ls.all (seesB h k) with
        | false =>
          have hc : askOf h k ls = 3 := by simp only [askOf, hr, ht, hov, ho, hs]; rfl
          have hs' : (ls.any fun x => !seesB h k x) = true := by rw [hs] at ha; simpa using ha
          refine (containsFunc_ai ex ls h k hl (fun x => !seesB h k x) (fun i hi => by obtain ⟨x, e, hx⟩ := isT_nat (List.all_eq_true.1 ht _ (List.getElem_mem hi)); rw [e]; exact ask1_ok h k x hx)).call [(0, []), (1, [])] (by simp) (by simp (maxSteps := 1000000) [hF, dHB, dHI, dIB, hs']) (by simp (maxSteps := 1000000) [hF, dHB, dHI, dIB, hs']) (by simp (maxSteps := 1000000) [hF, dHB, dHI, dIB, hs']) (by simp) ?_
          rintro av X κ ⟨rfl, rfl, rfl⟩
          generalize hK : VS _ _ _ = KK; simp (maxSteps := 1000000) [hF, dHB, dHI, dIB, hs']; (try subst hK)
          repeat first
            | refine VS.seq ?_
            | (refine VS.keepAt 6 [] ?_; generalize hK : VS _ _ _ = KK; (try simp); (try subst hK); refine VS.region tabOk (id := 6) [] (by kernel_rfl) ?_; generalize hK : VS _ _ _ = KK; simp (maxSteps := 1000000) [hF]; (try subst hK); try (refine VS.keep [6] ?_; generalize hK : VS _ _ _ = KK; simp; (try subst hK)))
            | (refine VS.cond ?_; generalize hK1 : VS _ _ _ = KK1; generalize hK2 : VS _ _ _ = KK2; simp (maxSteps := 1000000) [hF]; (try subst hK1); (try subst hK2))
          try refine VS.ret ?_
          repeat first | refine blockN_ret ?_ | refine loopN_ret ?_
          refine endK.of [6] [] [] (by simp [hF]) (by simp [covers, mpre]) ?_
          simp [hF, retK, hc]
        | true =>
          have hc : askOf h k ls = 0 := by simp only [askOf, hr, ht, hov, ho, hs]; rfl
          have hs' : (ls.any fun x => !seesB h k x) = false := by rw [hs] at ha; simpa using ha
          refine (containsFunc_ai ex ls h k hl (fun x => !seesB h k x) (fun i hi => by obtain ⟨x, e, hx⟩ := isT_nat (List.all_eq_true.1 ht _ (List.getElem_mem hi)); rw [e]; exact ask1_ok h k x hx)).call [(0, []), (1, [])] (by simp) (by simp (maxSteps := 1000000) [hF, dHB, dHI, dIB, hs']) (by simp (maxSteps := 1000000) [hF, dHB, dHI, dIB, hs']) (by simp (maxSteps := 1000000) [hF, dHB, dHI, dIB, hs']) (by simp) ?_
          rintro av X κ ⟨rfl, rfl, rfl⟩
          generalize hK : VS _ _ _ = KK; simp (maxSteps := 1000000) [hF, dHB, dHI, dIB, hs']; (try subst hK)
          repeat first
            | refine VS.seq ?_
            | refine VS.skip ?_
            | refine VS.nil ?_
            | (refine VS.keepAt 7 [] ?_; generalize hK : VS _ _ _ = KK; (try simp); (try subst hK); refine VS.region tabOk (id := 7) [] (by kernel_rfl) ?_; generalize hK : VS _ _ _ = KK; simp (maxSteps := 1000000) [hF]; (try subst hK); try (refine VS.keep [6] ?_; generalize hK : VS _ _ _ = KK; simp; (try subst hK)))
            | (refine VS.cond ?_; generalize hK1 : VS _ _ _ = KK1; generalize hK2 : VS _ _ _ = KK2; simp (maxSteps := 1000000) [hF]; (try subst hK1); (try subst hK2))
          try refine VS.ret ?_
          repeat first | refine blockN_ret ?_ | refine loopN_ret ?_
          refine endK.of [6] [] [] (by simp [hF]) (by simp [covers, mpre]) ?_
          simp [hF, retK, hc]
/- (*cabochon/isolate.House).ask -/
theorem ask_s (h : Hs) (who : Int) (ex : Bool) (ls : List Int) (hl : ls.length ≤ 100000000) : Meets Try.prog 42 [.sl true () 1 (dInts ls)] (.cons (avH h) (.cons (avInt who) (.cons (.sub 0 [] 0 ls.length ex) .nil)))
    fun av X κ => av = avInt (askOf h who ls) ∧ X = [.sl true () 1 (dInts ls)] ∧ κ = [] := by
  refine Meets.of_vs tabOk Try.func42 (body := ?_) ?_ (by kernel_rfl) Try.ntmps42 (rs := [.tmp 6]) (by kernel_rfl) rfl (by simp [AV.len]) (by simp only [envOf]; exact rfl) ?_
  rotate_left
  · rfl
  intro w0 I0 F0 hF
  repeat first
    | refine VS.seq ?_
    | refine VS.block ?_
    | (refine VS.keepAt 0 [0, 1, 2] ?_; generalize hK : VS _ _ _ = KK; (try simp); (try subst hK); refine VS.region tabOk (id := 0) [] (by kernel_rfl) ?_; generalize hK : VS _ _ _ = KK; simp (maxSteps := 1000000) [hF]; (try subst hK); try (refine VS.keep [2, 3, 4] ?_; generalize hK : VS _ _ _ = KK; simp; (try subst hK)))
    | (refine VS.keepAt 1 [2, 3, 4] ?_; generalize hK : VS _ _ _ = KK; (try simp); (try subst hK); refine VS.region tabOk (id := 1) [(4, 12)] (by kernel_rfl) ?_; generalize hK : VS _ _ _ = KK; simp (maxSteps := 1000000) [hF]; (try subst hK); try (refine VS.keep [2, 3, 4, 7] ?_; generalize hK : VS _ _ _ = KK; simp; (try subst hK)))
  cases hr : isR h who with
  | false =>
    have hc : askOf h who ls = 1 := by simp [askOf, hr]
    refine (is_ok h who).call [] (by simp) (by simp (maxSteps := 1000000) [hF, hr]) (by simp (maxSteps := 1000000) [hF, hr]) (by simp (maxSteps := 1000000) [hF, hr]) (by simp) ?_
    rintro av X κ ⟨rfl, rfl, rfl⟩
    generalize hK : VS _ _ _ = KK; simp (maxSteps := 1000000) [hF, hr]; (try subst hK)
    repeat first
      | refine VS.seq ?_
      | (refine VS.keepAt 2 [] ?_; generalize hK : VS _ _ _ = KK; (try simp); (try subst hK); refine VS.region tabOk (id := 2) [] (by kernel_rfl) ?_; generalize hK : VS _ _ _ = KK; simp (maxSteps := 1000000) [hF]; (try subst hK); try (refine VS.keep [6] ?_; generalize hK : VS _ _ _ = KK; simp; (try subst hK)))
      | (refine VS.cond ?_; generalize hK1 : VS _ _ _ = KK1; generalize hK2 : VS _ _ _ = KK2; simp (maxSteps := 1000000) [hF]; (try subst hK1); (try subst hK2))
    try refine VS.ret ?_
    repeat first | refine blockN_ret ?_ | refine loopN_ret ?_
    refine endK.of [6] [0] [] (by simp [hF]) (by simp [covers, mpre]) ?_
    simp [hF, retK, hc]
  | true =>
    obtain ⟨k, rfl, hk⟩ := isR_nat hr
    refine (is_ok h k).call [] (by simp) (by simp (maxSteps := 1000000) [hF, hr]) (by simp (maxSteps := 1000000) [hF, hr]) (by simp (maxSteps := 1000000) [hF, hr]) (by simp) ?_
    rintro av X κ ⟨rfl, rfl, rfl⟩
    generalize hK : VS _ _ _ = KK; simp (maxSteps := 1000000) [hF, hr]; (try subst hK)
    cases ht : ls.all (isT h) with
    | false =>
      have hc : askOf h k ls = 1 := by simp [askOf, ht]
      refine (has_s h ex ls hl).call [(0, [])] (by simp) (by simp (maxSteps := 1000000) [hF, ht]) (by simp (maxSteps := 1000000) [hF, ht]) (by simp (maxSteps := 1000000) [hF, ht]) (by simp) ?_
      rintro av X κ ⟨rfl, rfl, rfl⟩
      generalize hK : VS _ _ _ = KK; simp (maxSteps := 1000000) [hF, ht]; (try subst hK)
      repeat first
        | refine VS.seq ?_
        | (refine VS.keepAt 2 [] ?_; generalize hK : VS _ _ _ = KK; (try simp); (try subst hK); refine VS.region tabOk (id := 2) [] (by kernel_rfl) ?_; generalize hK : VS _ _ _ = KK; simp (maxSteps := 1000000) [hF]; (try subst hK); try (refine VS.keep [6] ?_; generalize hK : VS _ _ _ = KK; simp; (try subst hK)))
        | (refine VS.cond ?_; generalize hK1 : VS _ _ _ = KK1; generalize hK2 : VS _ _ _ = KK2; simp (maxSteps := 1000000) [hF]; (try subst hK1); (try subst hK2))
      try refine VS.ret ?_
      repeat first | refine blockN_ret ?_ | refine loopN_ret ?_
      refine endK.of [6] [0] [] (by simp [hF]) (by simp [covers, mpre]) ?_
      simp [hF, retK, hc]
    | true =>
      have hn := dRms_nth (o := false) hk
      have hov : overB h k = h.rooms[k].over := by simp [overB, hk]
      have ha := any_not (p := seesB h k) ls
      refine (has_s h ex ls hl).call [(0, [])] (by simp) (by simp (maxSteps := 1000000) [hF, ht]) (by simp (maxSteps := 1000000) [hF, ht]) (by simp (maxSteps := 1000000) [hF, ht]) (by simp) ?_
      rintro av X κ ⟨rfl, rfl, rfl⟩
      generalize hK : VS _ _ _ = KK; simp (maxSteps := 1000000) [hF, ht]; (try subst hK)
      repeat first
        | refine VS.seq ?_
        | (refine VS.keepAt 3 [2, 3, 4] ?_; generalize hK : VS _ _ _ = KK; (try simp); (try subst hK); refine VS.drawn tabOk mixedOk (id := 3) [] [⟨0, 8, 524288, 6⟩, ⟨1, 524288, 1048576, 5⟩, ⟨2, 1048576, 2097152, 5⟩, ⟨4, 2097152, 4194304, 6⟩, ⟨0, 16, 8388608, 6⟩, ⟨24, 12582912, 16777216, 5⟩, ⟨32, 16777216, 33554432, 5⟩, ⟨64, 33554432, 67108864, 6⟩, ⟨128, 67108864, 262144, 5⟩] (.take 0 (.take 1 (.take 2 (.take 3 (.take 4 (.take 5 (.take 6 (.take 7 (.take 8 (.done)))))))))) (.run [0, 1, 2, 3, 4, 5, 6, 7, 8] (.done)) (by kernel_rfl) (by kernel_rfl) (by kernel_rfl) ?_; generalize hK : VS _ _ _ = KK; simp only [opsVc_run, opsVc_both, opsVc_chk, opsVc_done, opsVc_yes, pick_cons, pick_nil, List.getElem?_cons_zero, List.getElem?_cons_succ]; simp (maxSteps := 1000000) [hF, dHI, hn, hk]; (try subst hK); try (refine VS.keep [2, 3, 4, 18] ?_; generalize hK : VS _ _ _ = KK; simp; (try subst hK)))
        | (refine VS.cond ?_; generalize hK1 : VS _ _ _ = KK1; generalize hK2 : VS _ _ _ = KK2; simp (maxSteps := 1000000) [hF, dHI, hn, hk]; (try subst hK1); (try subst hK2))
      refine ⟨fun ho => ?_, fun ho => ?_⟩
      · have hc : askOf h k ls = 8 := by simp [askOf, hr, ht, hov, ho]
        repeat first
          | refine VS.seq ?_
          | (refine VS.keepAt 4 [] ?_; generalize hK : VS _ _ _ = KK; (try simp); (try subst hK); refine VS.region tabOk (id := 4) [] (by kernel_rfl) ?_; generalize hK : VS _ _ _ = KK; simp (maxSteps := 1000000) [hF]; (try subst hK); try (refine VS.keep [6] ?_; generalize hK : VS _ _ _ = KK; simp; (try subst hK)))
        try refine VS.ret ?_
        repeat first | refine blockN_ret ?_ | refine loopN_ret ?_
        refine endK.of [6] [0] [] (by simp [hF]) (by simp [covers, mpre]) ?_
        simp [hF, retK, hc]
      · repeat first
          | refine VS.seq ?_
          | (refine VS.keepAt 5 [2, 3, 4] ?_; generalize hK : VS _ _ _ = KK; (try simp); (try subst hK); refine VS.region tabOk (id := 5) [] (by kernel_rfl) ?_; generalize hK : VS _ _ _ = KK; simp (maxSteps := 1000000) [hF]; (try subst hK); try (refine VS.keep [27] ?_; generalize hK : VS _ _ _ = KK; simp; (try subst hK)))
        cases hs : ls.all (seesB h k) with
        | false =>
          have hc : askOf h k ls = 3 := by simp only [askOf, hr, ht, hov, ho, hs]; rfl
          have hs' : (ls.any fun x => !seesB h k x) = true := by rw [hs] at ha; simpa using ha
          refine (containsFunc_as ex ls h k hl (fun x => !seesB h k x) (fun i hi => by obtain ⟨x, e, hx⟩ := isT_nat (List.all_eq_true.1 ht _ (List.getElem_mem hi)); rw [e]; exact ask1_ok h k x hx)).call [(0, []), (1, []), (2, [])] (by simp) (by simp (maxSteps := 1000000) [hF, dHB, dHI, dIB, hs']) (by simp (maxSteps := 1000000) [hF, dHB, dHI, dIB, hs']) (by simp (maxSteps := 1000000) [hF, dHB, dHI, dIB, hs']) (by simp) ?_
          rintro av X κ ⟨rfl, rfl, rfl⟩
          generalize hK : VS _ _ _ = KK; simp (maxSteps := 1000000) [hF, dHB, dHI, dIB, hs']; (try subst hK)
          repeat first
            | refine VS.seq ?_
            | (refine VS.keepAt 6 [] ?_; generalize hK : VS _ _ _ = KK; (try simp); (try subst hK); refine VS.region tabOk (id := 6) [] (by kernel_rfl) ?_; generalize hK : VS _ _ _ = KK; simp (maxSteps := 1000000) [hF]; (try subst hK); try (refine VS.keep [6] ?_; generalize hK : VS _ _ _ = KK; simp; (try subst hK)))
            | (refine VS.cond ?_; generalize hK1 : VS _ _ _ = KK1; generalize hK2 : VS _ _ _ = KK2; simp (maxSteps := 1000000) [hF]; (try subst hK1); (try subst hK2))
          try refine VS.ret ?_
          repeat first | refine blockN_ret ?_ | refine loopN_ret ?_
          refine endK.of [6] [0] [] (by simp [hF]) (by simp [covers, mpre]) ?_
          simp [hF, retK, hc]
        | true =>
          have hc : askOf h k ls = 0 := by simp only [askOf, hr, ht, hov, ho, hs]; rfl
          have hs' : (ls.any fun x => !seesB h k x) = false := by rw [hs] at ha; simpa using ha
          refine (containsFunc_as ex ls h k hl (fun x => !seesB h k x) (fun i hi => by obtain ⟨x, e, hx⟩ := isT_nat (List.all_eq_true.1 ht _ (List.getElem_mem hi)); rw [e]; exact ask1_ok h k x hx)).call [(0, []), (1, []), (2, [])] (by simp) (by simp (maxSteps := 1000000) [hF, dHB, dHI, dIB, hs']) (by simp (maxSteps := 1000000) [hF, dHB, dHI, dIB, hs']) (by simp (maxSteps := 1000000) [hF, dHB, dHI, dIB, hs']) (by simp) ?_
          rintro av X κ ⟨rfl, rfl, rfl⟩
          generalize hK : VS _ _ _ = KK; simp (maxSteps := 1000000) [hF, dHB, dHI, dIB, hs']; (try subst hK)
          repeat first
            | refine VS.seq ?_
            | refine VS.skip ?_
            | refine VS.nil ?_
            | (refine VS.keepAt 7 [] ?_; generalize hK : VS _ _ _ = KK; (try simp); (try subst hK); refine VS.region tabOk (id := 7) [] (by kernel_rfl) ?_; generalize hK : VS _ _ _ = KK; simp (maxSteps := 1000000) [hF]; (try subst hK); try (refine VS.keep [6] ?_; generalize hK : VS _ _ _ = KK; simp; (try subst hK)))
            | (refine VS.cond ?_; generalize hK1 : VS _ _ _ = KK1; generalize hK2 : VS _ _ _ = KK2; simp (maxSteps := 1000000) [hF]; (try subst hK1); (try subst hK2))
          try refine VS.ret ?_
          repeat first | refine blockN_ret ?_ | refine loopN_ret ?_
          refine endK.of [6] [0] [] (by simp [hF]) (by simp [covers, mpre]) ?_
          simp [hF, retK, hc]
end Go.Proofs.Ytkkbcpcihadkhaa

/- What a thing reaches. -/
namespace Go.Proofs.Ytkkbcpcihadkhaa
set_option linter.all false
open Go.Vc Go.Proofs
set_option linter.unusedSimpArgs false
set_option linter.unusedVariables false
set_option maxRecDepth 100000
set_option maxHeartbeats 4000000
attribute [local irreducible] CallW EqK

/- slices.Backward[[]int,int] -/
theorem backward_ok (ex : Bool) (l : List Int) : Meets Try.prog 80 [] (.cons (.imm 1 (dInts l) ex) .nil)
    fun av X κ => av = .fn 100 (.cons (.ptr 0 [.d]) .nil) ∧ X = [dBox l] ∧ κ = [] := by
  refine Meets.of_vs tabOk Try.func80 (body := ?_) ?_ (by kernel_rfl) Try.ntmps80 (rs := [.tmp 2]) (by kernel_rfl) rfl (by simp [AV.len]) (by simp only [envOf]; exact rfl) ?_
  rotate_left
  · rfl
  intro w0 I0 F0 hF
  repeat first
    | refine VS.seq ?_
    | (refine VS.keepAt 0 [0] ?_; generalize hK : VS _ _ _ = KK; (try simp); (try subst hK); refine VS.region tabOk (id := 0) [] (by kernel_rfl) ?_; generalize hK : VS _ _ _ = KK; simp (maxSteps := 1000000) [hF]; (try subst hK); try (refine VS.keep [1] ?_; generalize hK : VS _ _ _ = KK; simp; (try subst hK)))
    | (refine VS.keepAt 1 [1] ?_; generalize hK : VS _ _ _ = KK; (try simp); (try subst hK); refine VS.region tabOk (id := 1) [] (by kernel_rfl) ?_; generalize hK : VS _ _ _ = KK; simp (maxSteps := 1000000) [hF]; (try subst hK); try (refine VS.keep [2] ?_; generalize hK : VS _ _ _ = KK; simp; (try subst hK)))
  try refine VS.ret ?_
  repeat first | refine blockN_ret ?_ | refine loopN_ret ?_
  refine endK.of [2] [0] [] (by simp [hF]) (by simp [covers, mpre]) ?_
  simp [hF, retK, dBox]

end Go.Proofs.Ytkkbcpcihadkhaa

/- What a thing reaches, plainly. -/
namespace Go.Proofs.Ytkkbcpcihadkhaa
set_option linter.all false
open Go.Vc Go.Proofs

/-- The items of the things that were not met. -/
def muS : List Tg → List Bool → Nat
  | t :: L, b :: s => (if b then 0 else t.items.length) + muS L s
  | _, _ => 0
theorem muS_set : ∀ {L : List Tg} {s : List Bool} {i : Nat} (h1 : i < L.length) (h2 : i < s.length), s[i] = false → muS L (s.set i true) + L[i].items.length = muS L s
  | t :: L, b :: s, 0, _, _, h => by simp at h; subst h; simp [muS]; omega
  | t :: L, b :: s, i + 1, h1, h2, h => by
    have := muS_set (L := L) (s := s) (i := i) (by simpa using h1) (by simpa using h2) (by simpa using h)
    simp only [List.set_cons_succ, muS, List.getElem_cons_succ]; omega
  | [], _, _, h1, _, _ => by simp at h1
  | _ :: _, [], _, _, h2, _ => by simp at h2
def tgD : Tg := ⟨-2, false, 0, [], false⟩
def itemsOf (L : List Tg) (y : Int) : List Int := (L.getD y.toNat tgD).items
/-- The walk: what is left to do lies with its next at the end. -/
def reachN : Nat → List Tg → List Bool → List Int → List Int → List Int
  | 0, _, _, out, _ => out
  | n + 1, L, seen, out, work => match work.getLast? with
    | none => out
    | some y => if seen.getD y.toNat true = true then reachN n L seen out work.dropLast else reachN n L (seen.set y.toNat true) (out ++ [y]) (work.dropLast ++ (itemsOf L y).reverse)
def reachOf (L : List Tg) (x : Int) : List Int := reachN (muS L (List.replicate L.length false) + 2) L (List.replicate L.length false) [] [x]
theorem reachN_nil (n : Nat) (L : List Tg) (seen : List Bool) (out : List Int) : reachN n L seen out [] = out := by
  cases n <;> simp [reachN]
theorem reachN_seen {n : Nat} {L : List Tg} {seen : List Bool} {out w : List Int} {y : Nat} (hy : y < seen.length) (hs : seen[y] = true) : reachN (n + 1) L seen out (w ++ [(y : Int)]) = reachN n L seen out w := by
  simp [reachN, hy, hs]
theorem reachN_new {n : Nat} {L : List Tg} {seen : List Bool} {out w : List Int} {y : Nat} (hy : y < seen.length) (hs : seen[y] = false) : reachN (n + 1) L seen out (w ++ [(y : Int)]) = reachN n L (seen.set y true) (out ++ [(y : Int)]) (w ++ (itemsOf L y).reverse) := by
  simp [reachN, hy, hs]
end Go.Proofs.Ytkkbcpcihadkhaa
