/- The table of this program's types. -/
import Derived.Test.YtkkbcpcihadkhaaK4
import Derived.Test.YtkkbcpcihadkhaaProg
import Derived.KernelRfl
import Derived.RangeFuncBox
import Derived.RangeFuncLeaves
import Derived.Shelf.Abstract
import Derived.WalkKit
import Derived.OwnWalkIn
import Derived.TacticsInMore
import Derived.LoopNIn
import Derived.LoopIn
import Derived.IntWalk
namespace Go.Proofs.Ytkkbcpcihadkhaa
set_option linter.all false
open Go.Vc Go.Proofs
theorem all_some {l : List Field} (h : l.all (fun f => (Try.prog.info? f.type).isSome) = true) : ∀ f ∈ l, (Try.prog.info? f.type).isSome = true := List.all_eq_true.1 h
noncomputable def tab : Tab := fun t => match t with
  | 1 => { ld := some (false, 1), zero := some (.val (.nilFunc)) }
  | 2 => { ld := some (false, 1), zero := some (.val (.int .i64 0)), int := some .i64 }
  | 3 => { ld := some (false, 1), zero := some (.val (.int .i64 0)), int := some .i64 }
  | 4 => { ld := some (false, 1), zero := some (.val (.bool false)), bool := true }
  | 5 => { ld := some (false, 1), zero := some (.val (.int .u8 0)), int := some .u8 }
  | 6 => { ld := some (false, 1), zero := some (.val (.int .u8 0)), int := some .u8 }
  | 7 => { ld := some (true, 4), zero := some (.agg (.cons (.val (.int .i64 0)) (.cons (.val (.int .i64 0)) (.cons (.val (.bool false)) (.cons (.val (.int .u8 0)) .nil))))), st := some [(0, 1), (1, 1), (2, 1), (3, 1)] }
  | 8 => { ld := some (true, 4), zero := some (.agg (.cons (.val (.int .i64 0)) (.cons (.val (.int .i64 0)) (.cons (.val (.bool false)) (.cons (.val (.int .u8 0)) .nil))))), st := some [(0, 1), (1, 1), (2, 1), (3, 1)] }
  | 9 => { ld := some (false, 1), zero := some (.val (.string ⟨#[]⟩)), str := true }
  | 10 => { ld := some (false, 1), zero := some (.val (.string ⟨#[]⟩)), str := true }
  | 11 => { ld := some (false, 1), zero := some (.val (.string ⟨#[]⟩)), str := true }
  | 12 => { ld := some (false, 1), zero := some (.val (.int .u64 0)), int := some .u64 }
  | 13 => { ld := some (true, 2), zero := some (.agg (.cons (.val (.string ⟨#[]⟩)) (.cons (.val (.int .u64 0)) .nil))), st := some [(0, 1), (1, 1)] }
  | 14 => { ld := some (true, 2), zero := some (.agg (.cons (.val (.string ⟨#[]⟩)) (.cons (.val (.int .u64 0)) .nil))), st := some [(0, 1), (1, 1)] }
  | 15 => { ld := some (false, 1), zero := some (.val (.pointer none)), ptr := true }
  | 16 => { ld := some (false, 1), zero := some (.val (.pointer none)), ptr := true }
  | 17 => { ld := some (false, 1), zero := some (.val (.pointer none)), ptr := true }
  | 18 => { ld := some (true, 1), zero := some (.agg (.cons (.val (.pointer none)) .nil)), st := some [(0, 1)] }
  | 19 => { ld := some (true, 1), zero := some (.agg (.cons (.val (.pointer none)) .nil)), st := some [(0, 1)] }
  | 21 => { ld := some (false, 1), zero := some (.val (.int .i32 0)), int := some .i32 }
  | 22 => { sl := some (52, 6, 64, (.agg #[.int .i64 0, .int .i64 0, .int .i64 0, .int .i64 0, .int .i64 0, .slice none 0 0])), ld := some (false, 1), zero := some (.sl true (.slice none 0 0) 6 .nil) }
  | 23 => { ld := some (true, 3), zero := some (.agg (.cons (.val (.int .i64 0)) (.cons (.val (.int .i64 0)) (.cons (.val (.int .i64 0)) .nil)))), st := some [(0, 1), (1, 1), (2, 1)] }
  | 24 => { ld := some (true, 3), zero := some (.agg (.cons (.val (.int .i64 0)) (.cons (.val (.int .i64 0)) (.cons (.val (.int .i64 0)) .nil)))), st := some [(0, 1), (1, 1), (2, 1)] }
  | 25 => { ld := some (false, 1), zero := some (.val (.pointer none)), ptr := true }
  | 26 => { ld := some (false, 1), zero := some (.val (.pointer none)), ptr := true }
  | 28 => { ld := some (false, 1), zero := some (.val (.nilFunc)) }
  | 29 => { sl := some (48, 2, 32, (.agg #[.bool false, .slice none 0 0])), ld := some (false, 1), zero := some (.sl true (.slice none 0 0) 2 .nil) }
  | 30 => { sl := some (110, 5, 48, (.agg #[.bool false, .bool false, .int .i64 0, .int .i64 0, .slice none 0 0])), ld := some (false, 1), zero := some (.sl true (.slice none 0 0) 5 .nil) }
  | 31 => { ld := some (true, 3), zero := some (.agg (.cons (.val (.bool false)) (.cons (.sl true (.slice none 0 0) 2 .nil) (.cons (.sl true (.slice none 0 0) 5 .nil) .nil)))), st := some [(0, 1), (1, 1), (2, 1)] }
  | 32 => { ld := some (true, 3), zero := some (.agg (.cons (.val (.bool false)) (.cons (.sl true (.slice none 0 0) 2 .nil) (.cons (.sl true (.slice none 0 0) 5 .nil) .nil)))), st := some [(0, 1), (1, 1), (2, 1)] }
  | 33 => { ld := some (false, 1), zero := some (.val (.nilFunc)) }
  | 34 => { ld := some (false, 1), zero := some (.val (.nilFunc)) }
  | 35 => { ld := some (false, 1), zero := some (.val (.int .i64 0)), int := some .i64 }
  | 37 => { ld := some (false, 1), zero := some (.val (.nilFunc)) }
  | 38 => { sl := some (92, 5, 80, (.agg #[.int .i64 0, .int .i64 0, .string ⟨#[]⟩, .slice none 0 0, .slice none 0 0])), ld := some (false, 1), zero := some (.sl true (.slice none 0 0) 5 .nil) }
  | 40 => { ld := some (false, 1), zero := some (.val (.nilFunc)) }
  | 41 => { ld := some (false, 1), zero := some (.val (.nilFunc)) }
  | 42 => { ld := some (false, 1), zero := some (.val (.nilFunc)) }
  | 43 => { ld := some (false, 1), zero := some (.val (.nilFunc)) }
  | 44 => { ld := some (false, 1), zero := some (.val (.nilFunc)) }
  | 45 => { sl := some (3, 1, 8, (.int .i64 0)), ld := some (false, 1), zero := some (.sl true (.slice none 0 0) 1 .nil) }
  | 46 => { sl := some (38, 1, 24, (.slice none 0 0)), ld := some (false, 1), zero := some (.sl true (.slice none 0 0) 1 .nil) }
  | 47 => { ld := some (true, 2), zero := some (.agg (.cons (.val (.bool false)) (.cons (.sl true (.slice none 0 0) 1 .nil) .nil))), st := some [(0, 1), (1, 1)] }
  | 48 => { ld := some (true, 2), zero := some (.agg (.cons (.val (.bool false)) (.cons (.sl true (.slice none 0 0) 1 .nil) .nil))), st := some [(0, 1), (1, 1)] }
  | 49 => { ld := some (false, 1), zero := some (.val (.nilFunc)) }
  | 50 => { ld := some (false, 1), zero := some (.val (.nilFunc)) }
  | 51 => { ld := some (true, 6), zero := some (.agg (.cons (.val (.int .i64 0)) (.cons (.val (.int .i64 0)) (.cons (.val (.int .i64 0)) (.cons (.val (.int .i64 0)) (.cons (.val (.int .i64 0)) (.cons (.sl true (.slice none 0 0) 1 .nil) .nil))))))), st := some [(0, 1), (1, 1), (2, 1), (3, 1), (4, 1), (5, 1)] }
  | 52 => { ld := some (true, 6), zero := some (.agg (.cons (.val (.int .i64 0)) (.cons (.val (.int .i64 0)) (.cons (.val (.int .i64 0)) (.cons (.val (.int .i64 0)) (.cons (.val (.int .i64 0)) (.cons (.sl true (.slice none 0 0) 1 .nil) .nil))))))), st := some [(0, 1), (1, 1), (2, 1), (3, 1), (4, 1), (5, 1)] }
  | 53 => { ld := some (false, 1), zero := some (.val (.nilFunc)) }
  | 54 => { ld := some (false, 1), zero := some (.val (.nilFunc)) }
  | 55 => { sl := some (64, 5, 40, (.agg #[.int .i64 0, .int .i64 0, .int .i64 0, .int .i64 0, .int .i64 0])), ld := some (false, 1), zero := some (.sl true (.slice none 0 0) 5 .nil) }
  | 56 => { ld := some (false, 1), zero := some (.val (.int .u64 0)), int := some .u64 }
  | 58 => { ld := some (false, 1), zero := some (.val (.nilFunc)) }
  | 60 => { ld := some (false, 1), zero := some (.val (.nilFunc)) }
  | 62 => { ld := some (false, 1), zero := some (.val (.nilFunc)) }
  | 63 => { ld := some (true, 5), zero := some (.agg (.cons (.val (.int .i64 0)) (.cons (.val (.int .i64 0)) (.cons (.val (.int .i64 0)) (.cons (.val (.int .i64 0)) (.cons (.val (.int .i64 0)) .nil)))))), st := some [(0, 1), (1, 1), (2, 1), (3, 1), (4, 1)] }
  | 64 => { ld := some (true, 5), zero := some (.agg (.cons (.val (.int .i64 0)) (.cons (.val (.int .i64 0)) (.cons (.val (.int .i64 0)) (.cons (.val (.int .i64 0)) (.cons (.val (.int .i64 0)) .nil)))))), st := some [(0, 1), (1, 1), (2, 1), (3, 1), (4, 1)] }
  | 65 => { ld := some (false, 1), zero := some (.val (.nilFunc)) }
  | 66 => { ld := some (true, 5), zero := some (.agg (.cons (.val (.int .i64 0)) (.cons (.val (.int .i64 0)) (.cons (.val (.int .i64 0)) (.cons (.val (.int .i64 0)) (.cons (.val (.int .i64 0)) .nil)))))), st := some [(0, 1), (1, 1), (2, 1), (3, 1), (4, 1)] }
  | 67 => { ld := some (false, 1), zero := some (.val (.nilFunc)) }
  | 68 => { ld := some (false, 1), zero := some (.val (.nilFunc)) }
  | 69 => { ld := some (false, 1), zero := some (.val (.nilFunc)) }
  | 70 => { ld := some (false, 1), zero := some (.val (.nilFunc)) }
  | 71 => { ld := some (false, 1), zero := some (.val (.nilFunc)) }
  | 72 => { sl := some (107, 2, 32, (.agg #[.slice none 0 0, .bool false])), ld := some (false, 1), zero := some (.sl true (.slice none 0 0) 2 .nil) }
  | 73 => { sl := some (87, 5, 56, (.agg #[.int .i64 0, .bool false, .int .i64 0, .slice none 0 0, .bool false])), ld := some (false, 1), zero := some (.sl true (.slice none 0 0) 5 .nil) }
  | 74 => { ld := some (true, 2), zero := some (.agg (.cons (.sl true (.slice none 0 0) 2 .nil) (.cons (.sl true (.slice none 0 0) 5 .nil) .nil))), st := some [(0, 1), (1, 1)] }
  | 75 => { ld := some (true, 2), zero := some (.agg (.cons (.sl true (.slice none 0 0) 2 .nil) (.cons (.sl true (.slice none 0 0) 5 .nil) .nil))), st := some [(0, 1), (1, 1)] }
  | 76 => { ld := some (false, 1), zero := some (.val (.nilFunc)) }
  | 77 => { ld := some (false, 1), zero := some (.val (.nilFunc)) }
  | 79 => { ld := some (false, 1), zero := some (.val (.nilFunc)) }
  | 80 => { ld := some (false, 1), zero := some (.val (.nilFunc)) }
  | 81 => { ld := some (false, 1), zero := some (.val (.nilFunc)) }
  | 82 => { ld := some (false, 1), zero := some (.val (.nilFunc)) }
  | 83 => { sl := some (35, 1, 8, (.int .i64 0)), ld := some (false, 1), zero := some (.sl true (.slice none 0 0) 1 .nil) }
  | 84 => { ld := some (false, 1), zero := some (.val (.nilFunc)) }
  | 85 => { ld := some (false, 1), zero := some (.val (.nilFunc)) }
  | 86 => { ld := some (true, 5), zero := some (.agg (.cons (.val (.int .i64 0)) (.cons (.val (.bool false)) (.cons (.val (.int .i64 0)) (.cons (.sl true (.slice none 0 0) 1 .nil) (.cons (.val (.bool false)) .nil)))))), st := some [(0, 1), (1, 1), (2, 1), (3, 1), (4, 1)] }
  | 87 => { ld := some (true, 5), zero := some (.agg (.cons (.val (.int .i64 0)) (.cons (.val (.bool false)) (.cons (.val (.int .i64 0)) (.cons (.sl true (.slice none 0 0) 1 .nil) (.cons (.val (.bool false)) .nil)))))), st := some [(0, 1), (1, 1), (2, 1), (3, 1), (4, 1)] }
  | 88 => { ld := some (false, 1), zero := some (.val (.nilFunc)) }
  | 89 => { ld := some (false, 1), zero := some (.val (.nilFunc)) }
  | 90 => { sl := some (9, 1, 16, (.string ⟨#[]⟩)), ld := some (false, 1), zero := some (.sl true (.slice none 0 0) 1 .nil) }
  | 91 => { ld := some (true, 5), zero := some (.agg (.cons (.val (.int .i64 0)) (.cons (.val (.int .i64 0)) (.cons (.val (.string ⟨#[]⟩)) (.cons (.sl true (.slice none 0 0) 1 .nil) (.cons (.sl true (.slice none 0 0) 1 .nil) .nil)))))), st := some [(0, 1), (1, 1), (2, 1), (3, 1), (4, 1)] }
  | 92 => { ld := some (true, 5), zero := some (.agg (.cons (.val (.int .i64 0)) (.cons (.val (.int .i64 0)) (.cons (.val (.string ⟨#[]⟩)) (.cons (.sl true (.slice none 0 0) 1 .nil) (.cons (.sl true (.slice none 0 0) 1 .nil) .nil)))))), st := some [(0, 1), (1, 1), (2, 1), (3, 1), (4, 1)] }
  | 93 => { ld := some (false, 1), zero := some (.val (.nilFunc)) }
  | 94 => { ld := some (false, 1), zero := some (.val (.nilFunc)) }
  | 95 => { ld := some (false, 1), zero := some (.val (.nilFunc)) }
  | 96 => { ld := some (false, 1), zero := some (.val (.nilFunc)) }
  | 97 => { ld := some (false, 1), zero := some (.val (.nilFunc)) }
  | 98 => { ld := some (false, 1), zero := some (.val (.nilFunc)) }
  | 99 => { ld := some (false, 1), zero := some (.val (.nilFunc)) }
  | 100 => { ld := some (false, 1), zero := some (.val (.nilFunc)) }
  | 101 => { sl := some (126, 3, 40, (.agg #[.bool false, .int .i64 0, .slice none 0 0])), ld := some (false, 1), zero := some (.sl true (.slice none 0 0) 3 .nil) }
  | 103 => { ld := some (false, 1), zero := some (.val (.nilFunc)) }
  | 104 => { ld := some (false, 1), zero := some (.val (.nilFunc)) }
  | 105 => { ld := some (false, 1), zero := some (.val (.nilFunc)) }
  | 106 => { ld := some (true, 2), zero := some (.agg (.cons (.sl true (.slice none 0 0) 1 .nil) (.cons (.val (.bool false)) .nil))), st := some [(0, 1), (1, 1)] }
  | 107 => { ld := some (true, 2), zero := some (.agg (.cons (.sl true (.slice none 0 0) 1 .nil) (.cons (.val (.bool false)) .nil))), st := some [(0, 1), (1, 1)] }
  | 108 => { ld := some (false, 1), zero := some (.val (.nilFunc)) }
  | 109 => { ld := some (true, 5), zero := some (.agg (.cons (.val (.bool false)) (.cons (.val (.bool false)) (.cons (.val (.int .i64 0)) (.cons (.val (.int .i64 0)) (.cons (.sl true (.slice none 0 0) 1 .nil) .nil)))))), st := some [(0, 1), (1, 1), (2, 1), (3, 1), (4, 1)] }
  | 110 => { ld := some (true, 5), zero := some (.agg (.cons (.val (.bool false)) (.cons (.val (.bool false)) (.cons (.val (.int .i64 0)) (.cons (.val (.int .i64 0)) (.cons (.sl true (.slice none 0 0) 1 .nil) .nil)))))), st := some [(0, 1), (1, 1), (2, 1), (3, 1), (4, 1)] }
  | 111 => { ld := some (false, 1), zero := some (.val (.nilFunc)) }
  | 112 => { ld := some (false, 1), zero := some (.val (.pointer none)), ptr := true }
  | 113 => { ld := some (false, 1), zero := some (.val (.pointer none)), ptr := true }
  | 114 => { ld := some (false, 1), zero := some (.val (.nilFunc)) }
  | 115 => { ld := some (false, 1), zero := some (.val (.nilFunc)) }
  | 116 => { sl := some (4, 1, 1, (.bool false)), ld := some (false, 1), zero := some (.sl true (.slice none 0 0) 1 .nil) }
  | 117 => { ld := some (false, 1), zero := some (.val (.nilFunc)) }
  | 118 => { ld := some (false, 1), zero := some (.val (.nilFunc)) }
  | 119 => { ld := some (false, 1), zero := some (.val (.nilFunc)) }
  | 120 => { ld := some (false, 1), zero := some (.val (.nilFunc)) }
  | 121 => { ld := some (false, 1), zero := some (.val (.nilFunc)) }
  | 122 => { ld := some (false, 1), zero := some (.val (.nilFunc)) }
  | 123 => { ld := some (false, 1), zero := some (.val (.nilFunc)) }
  | 124 => { ld := some (false, 1), zero := some (.val (.nilFunc)) }
  | 125 => { ld := some (true, 3), zero := some (.agg (.cons (.val (.bool false)) (.cons (.val (.int .i64 0)) (.cons (.sl true (.slice none 0 0) 1 .nil) .nil)))), st := some [(0, 1), (1, 1), (2, 1)] }
  | 126 => { ld := some (true, 3), zero := some (.agg (.cons (.val (.bool false)) (.cons (.val (.int .i64 0)) (.cons (.sl true (.slice none 0 0) 1 .nil) .nil)))), st := some [(0, 1), (1, 1), (2, 1)] }
  | 127 => { ld := some (false, 1), zero := some (.val (.nilFunc)) }
  | _ => {}
theorem tab_3 : tab 3 = { ld := some (false, 1), zero := some (.val (.int .i64 0)), int := some .i64 } := rfl
theorem tab_4 : tab 4 = { ld := some (false, 1), zero := some (.val (.bool false)), bool := true } := rfl
theorem tab_25 : tab 25 = { ld := some (false, 1), zero := some (.val (.pointer none)), ptr := true } := rfl
theorem tab_26 : tab 26 = { ld := some (false, 1), zero := some (.val (.pointer none)), ptr := true } := rfl
theorem tab_29 : tab 29 = { sl := some (48, 2, 32, (.agg #[.bool false, .slice none 0 0])), ld := some (false, 1), zero := some (.sl true (.slice none 0 0) 2 .nil) } := rfl
theorem tab_30 : tab 30 = { sl := some (110, 5, 48, (.agg #[.bool false, .bool false, .int .i64 0, .int .i64 0, .slice none 0 0])), ld := some (false, 1), zero := some (.sl true (.slice none 0 0) 5 .nil) } := rfl
theorem tab_32 : tab 32 = { ld := some (true, 3), zero := some (.agg (.cons (.val (.bool false)) (.cons (.sl true (.slice none 0 0) 2 .nil) (.cons (.sl true (.slice none 0 0) 5 .nil) .nil)))), st := some [(0, 1), (1, 1), (2, 1)] } := rfl
theorem tab_45 : tab 45 = { sl := some (3, 1, 8, (.int .i64 0)), ld := some (false, 1), zero := some (.sl true (.slice none 0 0) 1 .nil) } := rfl
theorem tab_48 : tab 48 = { ld := some (true, 2), zero := some (.agg (.cons (.val (.bool false)) (.cons (.sl true (.slice none 0 0) 1 .nil) .nil))), st := some [(0, 1), (1, 1)] } := rfl
theorem tab_55 : tab 55 = { sl := some (64, 5, 40, (.agg #[.int .i64 0, .int .i64 0, .int .i64 0, .int .i64 0, .int .i64 0])), ld := some (false, 1), zero := some (.sl true (.slice none 0 0) 5 .nil) } := rfl
theorem tab_56 : tab 56 = { ld := some (false, 1), zero := some (.val (.int .u64 0)), int := some .u64 } := rfl
theorem tab_64 : tab 64 = { ld := some (true, 5), zero := some (.agg (.cons (.val (.int .i64 0)) (.cons (.val (.int .i64 0)) (.cons (.val (.int .i64 0)) (.cons (.val (.int .i64 0)) (.cons (.val (.int .i64 0)) .nil)))))), st := some [(0, 1), (1, 1), (2, 1), (3, 1), (4, 1)] } := rfl
theorem tab_66 : tab 66 = { ld := some (true, 5), zero := some (.agg (.cons (.val (.int .i64 0)) (.cons (.val (.int .i64 0)) (.cons (.val (.int .i64 0)) (.cons (.val (.int .i64 0)) (.cons (.val (.int .i64 0)) .nil)))))), st := some [(0, 1), (1, 1), (2, 1), (3, 1), (4, 1)] } := rfl
theorem tab_72 : tab 72 = { sl := some (107, 2, 32, (.agg #[.slice none 0 0, .bool false])), ld := some (false, 1), zero := some (.sl true (.slice none 0 0) 2 .nil) } := rfl
theorem tab_73 : tab 73 = { sl := some (87, 5, 56, (.agg #[.int .i64 0, .bool false, .int .i64 0, .slice none 0 0, .bool false])), ld := some (false, 1), zero := some (.sl true (.slice none 0 0) 5 .nil) } := rfl
theorem tab_75 : tab 75 = { ld := some (true, 2), zero := some (.agg (.cons (.sl true (.slice none 0 0) 2 .nil) (.cons (.sl true (.slice none 0 0) 5 .nil) .nil))), st := some [(0, 1), (1, 1)] } := rfl
theorem tab_87 : tab 87 = { ld := some (true, 5), zero := some (.agg (.cons (.val (.int .i64 0)) (.cons (.val (.bool false)) (.cons (.val (.int .i64 0)) (.cons (.sl true (.slice none 0 0) 1 .nil) (.cons (.val (.bool false)) .nil)))))), st := some [(0, 1), (1, 1), (2, 1), (3, 1), (4, 1)] } := rfl
theorem tab_107 : tab 107 = { ld := some (true, 2), zero := some (.agg (.cons (.sl true (.slice none 0 0) 1 .nil) (.cons (.val (.bool false)) .nil))), st := some [(0, 1), (1, 1)] } := rfl
theorem tab_110 : tab 110 = { ld := some (true, 5), zero := some (.agg (.cons (.val (.bool false)) (.cons (.val (.bool false)) (.cons (.val (.int .i64 0)) (.cons (.val (.int .i64 0)) (.cons (.sl true (.slice none 0 0) 1 .nil) .nil)))))), st := some [(0, 1), (1, 1), (2, 1), (3, 1), (4, 1)] } := rfl
theorem tab_116 : tab 116 = { sl := some (4, 1, 1, (.bool false)), ld := some (false, 1), zero := some (.sl true (.slice none 0 0) 1 .nil) } := rfl
set_option linter.defProp false
def tabd_3 := @tab_3
def tabd_4 := @tab_4
def tabd_25 := @tab_25
def tabd_26 := @tab_26
def tabd_29 := @tab_29
def tabd_30 := @tab_30
def tabd_32 := @tab_32
def tabd_45 := @tab_45
def tabd_48 := @tab_48
def tabd_55 := @tab_55
def tabd_56 := @tab_56
def tabd_64 := @tab_64
def tabd_66 := @tab_66
def tabd_72 := @tab_72
def tabd_73 := @tab_73
def tabd_75 := @tab_75
def tabd_87 := @tab_87
def tabd_107 := @tab_107
def tabd_110 := @tab_110
def tabd_116 := @tab_116
attribute [simp] tabd_3 tabd_4 tabd_25 tabd_26 tabd_29 tabd_30 tabd_32 tabd_45 tabd_48 tabd_55 tabd_56 tabd_64 tabd_66 tabd_72 tabd_73 tabd_75 tabd_87 tabd_107 tabd_110 tabd_116
theorem tabOk_1 : (tab 1).Ok Try.prog 1 := .okI Try.t1 (.nilFunc) rfl rfl
theorem tabOk_2 : (tab 2).Ok Try.prog 2 := .okI Try.t2 (.int .i64 0) rfl rfl (int := by intro k h; cases h; kernel_rfl)
theorem tabOk_3 : (tab 3).Ok Try.prog 3 := .okI Try.t3 (.int .i64 0) rfl rfl (int := by intro k h; cases h; kernel_rfl)
theorem tabOk_4 : (tab 4).Ok Try.prog 4 := .okI Try.t4 (.bool false) rfl rfl (bool := by intro _; kernel_rfl)
theorem tabOk_5 : (tab 5).Ok Try.prog 5 := .okI Try.t5 (.int .u8 0) rfl rfl (int := by intro k h; cases h; kernel_rfl)
theorem tabOk_6 : (tab 6).Ok Try.prog 6 := .okI Try.t6 (.int .u8 0) rfl rfl (int := by intro k h; cases h; kernel_rfl)
theorem tabOk_7 : (tab 7).Ok Try.prog 7 := .okI Try.t7 (.agg #[.int .i64 0, .int .i64 0, .bool false, .int .u8 0]) rfl rfl (st := by intro l h; cases h; exact ⟨_, Try.underlying7, by kernel_rfl, (by exact all_some (by kernel_rfl)), by kernel_rfl⟩)
theorem tabOk_8 : (tab 8).Ok Try.prog 8 := .okI Try.t8 (.agg #[.int .i64 0, .int .i64 0, .bool false, .int .u8 0]) rfl rfl (st := by intro l h; cases h; exact ⟨_, Try.underlying8, by kernel_rfl, (by exact all_some (by kernel_rfl)), by kernel_rfl⟩)
theorem tabOk_9 : (tab 9).Ok Try.prog 9 := .okI Try.t9 (.string ⟨#[]⟩) rfl rfl (str := by intro _; kernel_rfl)
theorem tabOk_10 : (tab 10).Ok Try.prog 10 := .okI Try.t10 (.string ⟨#[]⟩) rfl rfl (str := by intro _; kernel_rfl)
theorem tabOk_11 : (tab 11).Ok Try.prog 11 := .okI Try.t11 (.string ⟨#[]⟩) rfl rfl (str := by intro _; kernel_rfl)
theorem tabOk_12 : (tab 12).Ok Try.prog 12 := .okI Try.t12 (.int .u64 0) rfl rfl (int := by intro k h; cases h; kernel_rfl)
theorem tabOk_13 : (tab 13).Ok Try.prog 13 := .okI Try.t13 (.agg #[.string ⟨#[]⟩, .int .u64 0]) rfl rfl (st := by intro l h; cases h; exact ⟨_, Try.underlying13, by kernel_rfl, (by exact all_some (by kernel_rfl)), by kernel_rfl⟩)
theorem tabOk_14 : (tab 14).Ok Try.prog 14 := .okI Try.t14 (.agg #[.string ⟨#[]⟩, .int .u64 0]) rfl rfl (st := by intro l h; cases h; exact ⟨_, Try.underlying14, by kernel_rfl, (by exact all_some (by kernel_rfl)), by kernel_rfl⟩)
theorem tabOk_15 : (tab 15).Ok Try.prog 15 := .okI Try.t15 (.pointer none) rfl rfl (ptr := by intro _; exact ⟨130, by kernel_rfl⟩)
theorem tabOk_16 : (tab 16).Ok Try.prog 16 := .okI Try.t16 (.pointer none) rfl rfl (ptr := by intro _; exact ⟨133, by kernel_rfl⟩)
theorem tabOk_17 : (tab 17).Ok Try.prog 17 := .okI Try.t17 (.pointer none) rfl rfl (ptr := by intro _; exact ⟨142, by kernel_rfl⟩)
theorem tabOk_18 : (tab 18).Ok Try.prog 18 := .okI Try.t18 (.agg #[.pointer none]) rfl rfl (st := by intro l h; cases h; exact ⟨_, Try.underlying18, by kernel_rfl, (by exact all_some (by kernel_rfl)), by kernel_rfl⟩)
theorem tabOk_19 : (tab 19).Ok Try.prog 19 := .okI Try.t19 (.agg #[.pointer none]) rfl rfl (st := by intro l h; cases h; exact ⟨_, Try.underlying19, by kernel_rfl, (by exact all_some (by kernel_rfl)), by kernel_rfl⟩)
theorem tabOk_21 : (tab 21).Ok Try.prog 21 := .okI Try.t21 (.int .i32 0) rfl rfl (int := by intro k h; cases h; kernel_rfl)
theorem tabOk_22 : (tab 22).Ok Try.prog 22 := .okI Try.t22 (.slice none 0 0) rfl rfl (sl := by intro e z b v h; cases h; exact ⟨by kernel_rfl, Try.t52, by kernel_rfl, by kernel_rfl, by kernel_rfl, by kernel_rfl, by kernel_rfl⟩)
theorem tabOk_23 : (tab 23).Ok Try.prog 23 := .okI Try.t23 (.agg #[.int .i64 0, .int .i64 0, .int .i64 0]) rfl rfl (st := by intro l h; cases h; exact ⟨_, Try.underlying23, by kernel_rfl, (by exact all_some (by kernel_rfl)), by kernel_rfl⟩)
theorem tabOk_24 : (tab 24).Ok Try.prog 24 := .okI Try.t24 (.agg #[.int .i64 0, .int .i64 0, .int .i64 0]) rfl rfl (st := by intro l h; cases h; exact ⟨_, Try.underlying24, by kernel_rfl, (by exact all_some (by kernel_rfl)), by kernel_rfl⟩)
theorem tabOk_25 : (tab 25).Ok Try.prog 25 := .okI Try.t25 (.pointer none) rfl rfl (ptr := by intro _; exact ⟨75, by kernel_rfl⟩)
theorem tabOk_26 : (tab 26).Ok Try.prog 26 := .okI Try.t26 (.pointer none) rfl rfl (ptr := by intro _; exact ⟨32, by kernel_rfl⟩)
theorem tabOk_28 : (tab 28).Ok Try.prog 28 := .okI Try.t28 (.nilFunc) rfl rfl
theorem tabOk_29 : (tab 29).Ok Try.prog 29 := .okI Try.t29 (.slice none 0 0) rfl rfl (sl := by intro e z b v h; cases h; exact ⟨by kernel_rfl, Try.t48, by kernel_rfl, by kernel_rfl, by kernel_rfl, by kernel_rfl, by kernel_rfl⟩)
theorem tabOk_30 : (tab 30).Ok Try.prog 30 := .okI Try.t30 (.slice none 0 0) rfl rfl (sl := by intro e z b v h; cases h; exact ⟨by kernel_rfl, Try.t110, by kernel_rfl, by kernel_rfl, by kernel_rfl, by kernel_rfl, by kernel_rfl⟩)
theorem tabOk_31 : (tab 31).Ok Try.prog 31 := .okI Try.t31 (.agg #[.bool false, .slice none 0 0, .slice none 0 0]) rfl rfl (st := by intro l h; cases h; exact ⟨_, Try.underlying31, by kernel_rfl, (by exact all_some (by kernel_rfl)), by kernel_rfl⟩)
theorem tabOk_32 : (tab 32).Ok Try.prog 32 := .okI Try.t32 (.agg #[.bool false, .slice none 0 0, .slice none 0 0]) rfl rfl (st := by intro l h; cases h; exact ⟨_, Try.underlying32, by kernel_rfl, (by exact all_some (by kernel_rfl)), by kernel_rfl⟩)
theorem tabOk_33 : (tab 33).Ok Try.prog 33 := .okI Try.t33 (.nilFunc) rfl rfl
theorem tabOk_34 : (tab 34).Ok Try.prog 34 := .okI Try.t34 (.nilFunc) rfl rfl
theorem tabOk_35 : (tab 35).Ok Try.prog 35 := .okI Try.t35 (.int .i64 0) rfl rfl (int := by intro k h; cases h; kernel_rfl)
theorem tabOk_37 : (tab 37).Ok Try.prog 37 := .okI Try.t37 (.nilFunc) rfl rfl
theorem tabOk_38 : (tab 38).Ok Try.prog 38 := .okI Try.t38 (.slice none 0 0) rfl rfl (sl := by intro e z b v h; cases h; exact ⟨by kernel_rfl, Try.t92, by kernel_rfl, by kernel_rfl, by kernel_rfl, by kernel_rfl, by kernel_rfl⟩)
theorem tabOk_40 : (tab 40).Ok Try.prog 40 := .okI Try.t40 (.nilFunc) rfl rfl
theorem tabOk_41 : (tab 41).Ok Try.prog 41 := .okI Try.t41 (.nilFunc) rfl rfl
theorem tabOk_42 : (tab 42).Ok Try.prog 42 := .okI Try.t42 (.nilFunc) rfl rfl
theorem tabOk_43 : (tab 43).Ok Try.prog 43 := .okI Try.t43 (.nilFunc) rfl rfl
theorem tabOk_44 : (tab 44).Ok Try.prog 44 := .okI Try.t44 (.nilFunc) rfl rfl
theorem tabOk_45 : (tab 45).Ok Try.prog 45 := .okI Try.t45 (.slice none 0 0) rfl rfl (sl := by intro e z b v h; cases h; exact ⟨by kernel_rfl, Try.t3, by kernel_rfl, by kernel_rfl, by kernel_rfl, by kernel_rfl, by kernel_rfl⟩)
theorem tabOk_46 : (tab 46).Ok Try.prog 46 := .okI Try.t46 (.slice none 0 0) rfl rfl (sl := by intro e z b v h; cases h; exact ⟨by kernel_rfl, Try.t38, by kernel_rfl, by kernel_rfl, by kernel_rfl, by kernel_rfl, by kernel_rfl⟩)
theorem tabOk_47 : (tab 47).Ok Try.prog 47 := .okI Try.t47 (.agg #[.bool false, .slice none 0 0]) rfl rfl (st := by intro l h; cases h; exact ⟨_, Try.underlying47, by kernel_rfl, (by exact all_some (by kernel_rfl)), by kernel_rfl⟩)
theorem tabOk_48 : (tab 48).Ok Try.prog 48 := .okI Try.t48 (.agg #[.bool false, .slice none 0 0]) rfl rfl (st := by intro l h; cases h; exact ⟨_, Try.underlying48, by kernel_rfl, (by exact all_some (by kernel_rfl)), by kernel_rfl⟩)
theorem tabOk_49 : (tab 49).Ok Try.prog 49 := .okI Try.t49 (.nilFunc) rfl rfl
theorem tabOk_50 : (tab 50).Ok Try.prog 50 := .okI Try.t50 (.nilFunc) rfl rfl
theorem tabOk_51 : (tab 51).Ok Try.prog 51 := .okI Try.t51 (.agg #[.int .i64 0, .int .i64 0, .int .i64 0, .int .i64 0, .int .i64 0, .slice none 0 0]) rfl rfl (st := by intro l h; cases h; exact ⟨_, Try.underlying51, by kernel_rfl, (by exact all_some (by kernel_rfl)), by kernel_rfl⟩)
theorem tabOk_52 : (tab 52).Ok Try.prog 52 := .okI Try.t52 (.agg #[.int .i64 0, .int .i64 0, .int .i64 0, .int .i64 0, .int .i64 0, .slice none 0 0]) rfl rfl (st := by intro l h; cases h; exact ⟨_, Try.underlying52, by kernel_rfl, (by exact all_some (by kernel_rfl)), by kernel_rfl⟩)
theorem tabOk_53 : (tab 53).Ok Try.prog 53 := .okI Try.t53 (.nilFunc) rfl rfl
theorem tabOk_54 : (tab 54).Ok Try.prog 54 := .okI Try.t54 (.nilFunc) rfl rfl
theorem tabOk_55 : (tab 55).Ok Try.prog 55 := .okI Try.t55 (.slice none 0 0) rfl rfl (sl := by intro e z b v h; cases h; exact ⟨by kernel_rfl, Try.t64, by kernel_rfl, by kernel_rfl, by kernel_rfl, by kernel_rfl, by kernel_rfl⟩)
theorem tabOk_56 : (tab 56).Ok Try.prog 56 := .okI Try.t56 (.int .u64 0) rfl rfl (int := by intro k h; cases h; kernel_rfl)
theorem tabOk_58 : (tab 58).Ok Try.prog 58 := .okI Try.t58 (.nilFunc) rfl rfl
theorem tabOk_60 : (tab 60).Ok Try.prog 60 := .okI Try.t60 (.nilFunc) rfl rfl
theorem tabOk_62 : (tab 62).Ok Try.prog 62 := .okI Try.t62 (.nilFunc) rfl rfl
theorem tabOk_63 : (tab 63).Ok Try.prog 63 := .okI Try.t63 (.agg #[.int .i64 0, .int .i64 0, .int .i64 0, .int .i64 0, .int .i64 0]) rfl rfl (st := by intro l h; cases h; exact ⟨_, Try.underlying63, by kernel_rfl, (by exact all_some (by kernel_rfl)), by kernel_rfl⟩)
theorem tabOk_64 : (tab 64).Ok Try.prog 64 := .okI Try.t64 (.agg #[.int .i64 0, .int .i64 0, .int .i64 0, .int .i64 0, .int .i64 0]) rfl rfl (st := by intro l h; cases h; exact ⟨_, Try.underlying64, by kernel_rfl, (by exact all_some (by kernel_rfl)), by kernel_rfl⟩)
theorem tabOk_65 : (tab 65).Ok Try.prog 65 := .okI Try.t65 (.nilFunc) rfl rfl
theorem tabOk_66 : (tab 66).Ok Try.prog 66 := .okI Try.t66 (.agg #[.int .i64 0, .int .i64 0, .int .i64 0, .int .i64 0, .int .i64 0]) rfl rfl (st := by intro l h; cases h; exact ⟨_, Try.underlying66, by kernel_rfl, (by exact all_some (by kernel_rfl)), by kernel_rfl⟩)
theorem tabOk_67 : (tab 67).Ok Try.prog 67 := .okI Try.t67 (.nilFunc) rfl rfl
theorem tabOk_68 : (tab 68).Ok Try.prog 68 := .okI Try.t68 (.nilFunc) rfl rfl
theorem tabOk_69 : (tab 69).Ok Try.prog 69 := .okI Try.t69 (.nilFunc) rfl rfl
theorem tabOk_70 : (tab 70).Ok Try.prog 70 := .okI Try.t70 (.nilFunc) rfl rfl
theorem tabOk_71 : (tab 71).Ok Try.prog 71 := .okI Try.t71 (.nilFunc) rfl rfl
theorem tabOk_72 : (tab 72).Ok Try.prog 72 := .okI Try.t72 (.slice none 0 0) rfl rfl (sl := by intro e z b v h; cases h; exact ⟨by kernel_rfl, Try.t107, by kernel_rfl, by kernel_rfl, by kernel_rfl, by kernel_rfl, by kernel_rfl⟩)
theorem tabOk_73 : (tab 73).Ok Try.prog 73 := .okI Try.t73 (.slice none 0 0) rfl rfl (sl := by intro e z b v h; cases h; exact ⟨by kernel_rfl, Try.t87, by kernel_rfl, by kernel_rfl, by kernel_rfl, by kernel_rfl, by kernel_rfl⟩)
theorem tabOk_74 : (tab 74).Ok Try.prog 74 := .okI Try.t74 (.agg #[.slice none 0 0, .slice none 0 0]) rfl rfl (st := by intro l h; cases h; exact ⟨_, Try.underlying74, by kernel_rfl, (by exact all_some (by kernel_rfl)), by kernel_rfl⟩)
theorem tabOk_75 : (tab 75).Ok Try.prog 75 := .okI Try.t75 (.agg #[.slice none 0 0, .slice none 0 0]) rfl rfl (st := by intro l h; cases h; exact ⟨_, Try.underlying75, by kernel_rfl, (by exact all_some (by kernel_rfl)), by kernel_rfl⟩)
theorem tabOk_76 : (tab 76).Ok Try.prog 76 := .okI Try.t76 (.nilFunc) rfl rfl
theorem tabOk_77 : (tab 77).Ok Try.prog 77 := .okI Try.t77 (.nilFunc) rfl rfl
theorem tabOk_79 : (tab 79).Ok Try.prog 79 := .okI Try.t79 (.nilFunc) rfl rfl
theorem tabOk_80 : (tab 80).Ok Try.prog 80 := .okI Try.t80 (.nilFunc) rfl rfl
theorem tabOk_81 : (tab 81).Ok Try.prog 81 := .okI Try.t81 (.nilFunc) rfl rfl
theorem tabOk_82 : (tab 82).Ok Try.prog 82 := .okI Try.t82 (.nilFunc) rfl rfl
theorem tabOk_83 : (tab 83).Ok Try.prog 83 := .okI Try.t83 (.slice none 0 0) rfl rfl (sl := by intro e z b v h; cases h; exact ⟨by kernel_rfl, Try.t35, by kernel_rfl, by kernel_rfl, by kernel_rfl, by kernel_rfl, by kernel_rfl⟩)
theorem tabOk_84 : (tab 84).Ok Try.prog 84 := .okI Try.t84 (.nilFunc) rfl rfl
theorem tabOk_85 : (tab 85).Ok Try.prog 85 := .okI Try.t85 (.nilFunc) rfl rfl
theorem tabOk_86 : (tab 86).Ok Try.prog 86 := .okI Try.t86 (.agg #[.int .i64 0, .bool false, .int .i64 0, .slice none 0 0, .bool false]) rfl rfl (st := by intro l h; cases h; exact ⟨_, Try.underlying86, by kernel_rfl, (by exact all_some (by kernel_rfl)), by kernel_rfl⟩)
theorem tabOk_87 : (tab 87).Ok Try.prog 87 := .okI Try.t87 (.agg #[.int .i64 0, .bool false, .int .i64 0, .slice none 0 0, .bool false]) rfl rfl (st := by intro l h; cases h; exact ⟨_, Try.underlying87, by kernel_rfl, (by exact all_some (by kernel_rfl)), by kernel_rfl⟩)
theorem tabOk_88 : (tab 88).Ok Try.prog 88 := .okI Try.t88 (.nilFunc) rfl rfl
theorem tabOk_89 : (tab 89).Ok Try.prog 89 := .okI Try.t89 (.nilFunc) rfl rfl
theorem tabOk_90 : (tab 90).Ok Try.prog 90 := .okI Try.t90 (.slice none 0 0) rfl rfl (sl := by intro e z b v h; cases h; exact ⟨by kernel_rfl, Try.t9, by kernel_rfl, by kernel_rfl, by kernel_rfl, by kernel_rfl, by kernel_rfl⟩)
theorem tabOk_91 : (tab 91).Ok Try.prog 91 := .okI Try.t91 (.agg #[.int .i64 0, .int .i64 0, .string ⟨#[]⟩, .slice none 0 0, .slice none 0 0]) rfl rfl (st := by intro l h; cases h; exact ⟨_, Try.underlying91, by kernel_rfl, (by exact all_some (by kernel_rfl)), by kernel_rfl⟩)
theorem tabOk_92 : (tab 92).Ok Try.prog 92 := .okI Try.t92 (.agg #[.int .i64 0, .int .i64 0, .string ⟨#[]⟩, .slice none 0 0, .slice none 0 0]) rfl rfl (st := by intro l h; cases h; exact ⟨_, Try.underlying92, by kernel_rfl, (by exact all_some (by kernel_rfl)), by kernel_rfl⟩)
theorem tabOk_93 : (tab 93).Ok Try.prog 93 := .okI Try.t93 (.nilFunc) rfl rfl
theorem tabOk_94 : (tab 94).Ok Try.prog 94 := .okI Try.t94 (.nilFunc) rfl rfl
theorem tabOk_95 : (tab 95).Ok Try.prog 95 := .okI Try.t95 (.nilFunc) rfl rfl
theorem tabOk_96 : (tab 96).Ok Try.prog 96 := .okI Try.t96 (.nilFunc) rfl rfl
theorem tabOk_97 : (tab 97).Ok Try.prog 97 := .okI Try.t97 (.nilFunc) rfl rfl
theorem tabOk_98 : (tab 98).Ok Try.prog 98 := .okI Try.t98 (.nilFunc) rfl rfl
theorem tabOk_99 : (tab 99).Ok Try.prog 99 := .okI Try.t99 (.nilFunc) rfl rfl
theorem tabOk_100 : (tab 100).Ok Try.prog 100 := .okI Try.t100 (.nilFunc) rfl rfl
theorem tabOk_101 : (tab 101).Ok Try.prog 101 := .okI Try.t101 (.slice none 0 0) rfl rfl (sl := by intro e z b v h; cases h; exact ⟨by kernel_rfl, Try.t126, by kernel_rfl, by kernel_rfl, by kernel_rfl, by kernel_rfl, by kernel_rfl⟩)
theorem tabOk_103 : (tab 103).Ok Try.prog 103 := .okI Try.t103 (.nilFunc) rfl rfl
theorem tabOk_104 : (tab 104).Ok Try.prog 104 := .okI Try.t104 (.nilFunc) rfl rfl
theorem tabOk_105 : (tab 105).Ok Try.prog 105 := .okI Try.t105 (.nilFunc) rfl rfl
theorem tabOk_106 : (tab 106).Ok Try.prog 106 := .okI Try.t106 (.agg #[.slice none 0 0, .bool false]) rfl rfl (st := by intro l h; cases h; exact ⟨_, Try.underlying106, by kernel_rfl, (by exact all_some (by kernel_rfl)), by kernel_rfl⟩)
theorem tabOk_107 : (tab 107).Ok Try.prog 107 := .okI Try.t107 (.agg #[.slice none 0 0, .bool false]) rfl rfl (st := by intro l h; cases h; exact ⟨_, Try.underlying107, by kernel_rfl, (by exact all_some (by kernel_rfl)), by kernel_rfl⟩)
theorem tabOk_108 : (tab 108).Ok Try.prog 108 := .okI Try.t108 (.nilFunc) rfl rfl
theorem tabOk_109 : (tab 109).Ok Try.prog 109 := .okI Try.t109 (.agg #[.bool false, .bool false, .int .i64 0, .int .i64 0, .slice none 0 0]) rfl rfl (st := by intro l h; cases h; exact ⟨_, Try.underlying109, by kernel_rfl, (by exact all_some (by kernel_rfl)), by kernel_rfl⟩)
theorem tabOk_110 : (tab 110).Ok Try.prog 110 := .okI Try.t110 (.agg #[.bool false, .bool false, .int .i64 0, .int .i64 0, .slice none 0 0]) rfl rfl (st := by intro l h; cases h; exact ⟨_, Try.underlying110, by kernel_rfl, (by exact all_some (by kernel_rfl)), by kernel_rfl⟩)
theorem tabOk_111 : (tab 111).Ok Try.prog 111 := .okI Try.t111 (.nilFunc) rfl rfl
theorem tabOk_112 : (tab 112).Ok Try.prog 112 := .okI Try.t112 (.pointer none) rfl rfl (ptr := by intro _; exact ⟨45, by kernel_rfl⟩)
theorem tabOk_113 : (tab 113).Ok Try.prog 113 := .okI Try.t113 (.pointer none) rfl rfl (ptr := by intro _; exact ⟨87, by kernel_rfl⟩)
theorem tabOk_114 : (tab 114).Ok Try.prog 114 := .okI Try.t114 (.nilFunc) rfl rfl
theorem tabOk_115 : (tab 115).Ok Try.prog 115 := .okI Try.t115 (.nilFunc) rfl rfl
theorem tabOk_116 : (tab 116).Ok Try.prog 116 := .okI Try.t116 (.slice none 0 0) rfl rfl (sl := by intro e z b v h; cases h; exact ⟨by kernel_rfl, Try.t4, by kernel_rfl, by kernel_rfl, by kernel_rfl, by kernel_rfl, by kernel_rfl⟩)
theorem tabOk_117 : (tab 117).Ok Try.prog 117 := .okI Try.t117 (.nilFunc) rfl rfl
theorem tabOk_118 : (tab 118).Ok Try.prog 118 := .okI Try.t118 (.nilFunc) rfl rfl
theorem tabOk_119 : (tab 119).Ok Try.prog 119 := .okI Try.t119 (.nilFunc) rfl rfl
theorem tabOk_120 : (tab 120).Ok Try.prog 120 := .okI Try.t120 (.nilFunc) rfl rfl
theorem tabOk_121 : (tab 121).Ok Try.prog 121 := .okI Try.t121 (.nilFunc) rfl rfl
theorem tabOk_122 : (tab 122).Ok Try.prog 122 := .okI Try.t122 (.nilFunc) rfl rfl
theorem tabOk_123 : (tab 123).Ok Try.prog 123 := .okI Try.t123 (.nilFunc) rfl rfl
theorem tabOk_124 : (tab 124).Ok Try.prog 124 := .okI Try.t124 (.nilFunc) rfl rfl
theorem tabOk_125 : (tab 125).Ok Try.prog 125 := .okI Try.t125 (.agg #[.bool false, .int .i64 0, .slice none 0 0]) rfl rfl (st := by intro l h; cases h; exact ⟨_, Try.underlying125, by kernel_rfl, (by exact all_some (by kernel_rfl)), by kernel_rfl⟩)
theorem tabOk_126 : (tab 126).Ok Try.prog 126 := .okI Try.t126 (.agg #[.bool false, .int .i64 0, .slice none 0 0]) rfl rfl (st := by intro l h; cases h; exact ⟨_, Try.underlying126, by kernel_rfl, (by exact all_some (by kernel_rfl)), by kernel_rfl⟩)
theorem tabOk_127 : (tab 127).Ok Try.prog 127 := .okI Try.t127 (.nilFunc) rfl rfl
theorem tabOk : Tab.Ok Try.prog tab := fun t => by
  unfold tab
  split
  · exact tabOk_1
  · exact tabOk_2
  · exact tabOk_3
  · exact tabOk_4
  · exact tabOk_5
  · exact tabOk_6
  · exact tabOk_7
  · exact tabOk_8
  · exact tabOk_9
  · exact tabOk_10
  · exact tabOk_11
  · exact tabOk_12
  · exact tabOk_13
  · exact tabOk_14
  · exact tabOk_15
  · exact tabOk_16
  · exact tabOk_17
  · exact tabOk_18
  · exact tabOk_19
  · exact tabOk_21
  · exact tabOk_22
  · exact tabOk_23
  · exact tabOk_24
  · exact tabOk_25
  · exact tabOk_26
  · exact tabOk_28
  · exact tabOk_29
  · exact tabOk_30
  · exact tabOk_31
  · exact tabOk_32
  · exact tabOk_33
  · exact tabOk_34
  · exact tabOk_35
  · exact tabOk_37
  · exact tabOk_38
  · exact tabOk_40
  · exact tabOk_41
  · exact tabOk_42
  · exact tabOk_43
  · exact tabOk_44
  · exact tabOk_45
  · exact tabOk_46
  · exact tabOk_47
  · exact tabOk_48
  · exact tabOk_49
  · exact tabOk_50
  · exact tabOk_51
  · exact tabOk_52
  · exact tabOk_53
  · exact tabOk_54
  · exact tabOk_55
  · exact tabOk_56
  · exact tabOk_58
  · exact tabOk_60
  · exact tabOk_62
  · exact tabOk_63
  · exact tabOk_64
  · exact tabOk_65
  · exact tabOk_66
  · exact tabOk_67
  · exact tabOk_68
  · exact tabOk_69
  · exact tabOk_70
  · exact tabOk_71
  · exact tabOk_72
  · exact tabOk_73
  · exact tabOk_74
  · exact tabOk_75
  · exact tabOk_76
  · exact tabOk_77
  · exact tabOk_79
  · exact tabOk_80
  · exact tabOk_81
  · exact tabOk_82
  · exact tabOk_83
  · exact tabOk_84
  · exact tabOk_85
  · exact tabOk_86
  · exact tabOk_87
  · exact tabOk_88
  · exact tabOk_89
  · exact tabOk_90
  · exact tabOk_91
  · exact tabOk_92
  · exact tabOk_93
  · exact tabOk_94
  · exact tabOk_95
  · exact tabOk_96
  · exact tabOk_97
  · exact tabOk_98
  · exact tabOk_99
  · exact tabOk_100
  · exact tabOk_101
  · exact tabOk_103
  · exact tabOk_104
  · exact tabOk_105
  · exact tabOk_106
  · exact tabOk_107
  · exact tabOk_108
  · exact tabOk_109
  · exact tabOk_110
  · exact tabOk_111
  · exact tabOk_112
  · exact tabOk_113
  · exact tabOk_114
  · exact tabOk_115
  · exact tabOk_116
  · exact tabOk_117
  · exact tabOk_118
  · exact tabOk_119
  · exact tabOk_120
  · exact tabOk_121
  · exact tabOk_122
  · exact tabOk_123
  · exact tabOk_124
  · exact tabOk_125
  · exact tabOk_126
  · exact tabOk_127
  · exact .okN
theorem mixedOk : Try.prog.follows .mixedOrders = true := by kernel_rfl
theorem fb {f : FuncId} {fn : Func} {body : Code} {Y : List D} {args : AV} {R : AV → List D → List (Nat × Path) → Prop} (hf : Try.prog.funcs[f]? = some fn) {nt : Nat} (hnt : fn.ntmps = nt) (rs : List ResultVar) {st : St}
    (h : ∀ w0 I0 F0, F0.length = Y.length → VS ⟨Try.prog, nt, w0, I0, F0⟩ [body] (endK Y.length tab rs R) st)
    (hb : fn.body = some body := by rfl) (hname : (fn.name == "runtime.NumGoroutine") = false := by kernel_rfl) (hrs : fn.results.toList = rs := by kernel_rfl)
    (hl : args.isList = true := by rfl) (hlen : args.len ≤ nt := by simp [AV.len]) (hst : ⟨envOf 0 args, Y, [], []⟩ = st := by simp only [envOf]; exact rfl) : Meets Try.prog f Y args R :=
  Meets.of_vs tabOk hf hb hname hnt hrs hl hlen hst h
section
variable {nt : Nat} {w0 : World} {I0 : Nat → Prop} {F0 : List G} {l : List Code} {K : Exit → St → Prop} {st : St}
theorem rg (id : Nat) {ops : List Oper} (pre post : List Tmp) (gs : List (Nat × Tmp)) (h : vcOps ⟨Try.prog, nt, w0, I0, F0⟩ tab gs ops 0 (st.keep pre) (VSk ⟨Try.prog, nt, w0, I0, F0⟩ l K post))
    (hd : regOk nt ops gs = true := by kernel_rfl) : VS ⟨Try.prog, nt, w0, I0, F0⟩ (.region id ops.toArray false :: l) K st := VS.rg tabOk id pre post gs h hd
theorem dr (id : Nat) {ops : List Oper} (EM : Nat) (pre post : List Tmp) (gs : List (Nat × Tmp)) (T : List Rw) (p : Plan) (o : OP)
    (h : opsVc ⟨Try.prog, nt, w0, I0, F0⟩ tab gs ops o (st.keep pre) (VSk ⟨Try.prog, nt, w0, I0, F0⟩ l K post))
    (hT : ops.map (rowOf ops.toArray) = T := by kernel_rfl) (hok : drawOk EM nt ops gs T p = true := by kernel_rfl) (ho : opOf EM p = o := by kernel_rfl) : VS ⟨Try.prog, nt, w0, I0, F0⟩ (.region id ops.toArray true :: l) K st := VS.dr tabOk mixedOk id EM pre post gs T p o h hT hok ho
end
end Go.Proofs.Ytkkbcpcihadkhaa

/- The iterator of slices.Backward over numbers. -/
namespace Go.Proofs.Ytkkbcpcihadkhaa
set_option linter.all false
open Go.RowKit Go.Shelf Go.Proofs Go
attribute [local go_sem] Oper.semAt_some
def Ints (W : World) (sv : Value) (zs : List Int) : Prop :=
  (∃ A c, sv = .slice A 0 c ∧ zs = []) ∨ ∃ b off cap, sv = .slice (some ⟨b, off, none⟩) zs.length cap ∧ ∀ j, j < zs.length → W.cell? ⟨b, off + j, none⟩ = some (.int .i64 (zs[j]?.getD 0))
set_option maxRecDepth 100000 in
set_option maxHeartbeats 2000000 in
theorem back_in (n : Nat) (hn : 1 ≤ n) (lo Bs Bo : Nat) (zs : List Int) (hz : zs.length ≤ 1000000) (J : Nat → World → Prop)
    (hY : ∀ j W, J j W → j < zs.length → YieldAt Fence.wide (n - 1) Try.prog lo #[.int .i64 ((zs.length - 1 - j : Nat) : Int), .int .i64 (zs[zs.length - 1 - j]?.getD 0)] W fun e W' => e = .returned (.bool true) ∧ J (j + 1) W')
    (hread : ∀ j W, J j W → ∃ sv, W.cell? ⟨Bs, Bo, none⟩ = some sv ∧ Ints W sv zs) (W : World) (h0 : J 0 W) :
    CallsIn Fence.wide n Try.prog 100 #[.func (.yield lo) #[] #[], .pointer (some ⟨Bs, Bo, none⟩)] W fun e W' => (∃ v, e = .returned v) ∧ J zs.length W' := by
  refine callsIn_of_wp Try.func100 rfl trivial ?_ rfl
  simp only [Try.ntmps100, List.size_toArray, List.length_cons, List.length_nil, Nat.reduceAdd, Nat.reduceSub, Array.replicate_succ, Array.replicate_zero, List.push_toArray, List.append_toArray, List.nil_append, List.cons_append]
  obtain ⟨sv, hb, hi⟩ := hread 0 W h0
  obtain ⟨A, cap, rfl⟩ : ∃ A cap, sv = .slice A zs.length cap := by
    rcases hi with ⟨A, c, rfl, rfl⟩ | ⟨b, off, cap, rfl, _⟩
    · exact ⟨_, _, rfl⟩
    · exact ⟨_, _, rfl⟩
  gi_wp2
  gi_loopw [3] (fun i wr => ∃ k : Nat, k ≤ zs.length ∧ i = .int .i64 ((zs.length : Int) - 1 - k) ∧ J k wr) (fun i _ => (intOf i + 1).toNat)
  case atStart => exact ⟨0, Nat.zero_le _, by simp, h0⟩
  case round =>
    obtain ⟨k, hk, rfl, hJ⟩ := hrel
    by_cases hlt : k < zs.length
    · obtain ⟨m, hm⟩ : ∃ m : Nat, m = zs.length - 1 - k := ⟨_, rfl⟩
      have hmi : (zs.length : Int) - 1 - k = (m : Int) := by omega
      rw [hmi]
      obtain ⟨sv, hb', hi'⟩ := hread k wr hJ
      rcases hi' with ⟨_, _, _, e⟩ | ⟨b, off, cap', rfl, hc⟩
      · rw [e] at hlt; simp at hlt
      have hml : m < zs.length := by omega
      have hcx := hc m hml
      obtain ⟨fn, tmps, assign, body, hy, hR⟩ := hY k wr hJ hlt
      rw [← hm] at hy
      clear hm
      have hel : zs[m]?.getD 0 = zs[m] := by simp [hml]
      rw [hel] at hy hcx
      gi_wp2
      refine hR.mono ?_
      rintro e W3 ⟨rfl, hJ3⟩
      gi_wp2
      go_roundw
      case rel => exact ⟨k + 1, by omega, by simp <;> omega, hJ3⟩
      case measure => simp [intOf] <;> omega
    · obtain rfl : k = zs.length := by omega
      gi_wp2
      go_end0
      exact ⟨⟨_, rfl⟩, hJ⟩
end Go.Proofs.Ytkkbcpcihadkhaa

/- The iterator of slices.Backward, as the loop's rule wants it. -/
namespace Go.Proofs.Ytkkbcpcihadkhaa
set_option linter.all false
open Go.Vc Go.Proofs Go
def RdB (l : List Int) (lbs : List Value) (W : World) : Prop := ∃ Bs Bo sv, lbs = [.pointer (some ⟨Bs, Bo, none⟩)] ∧ W.cell? ⟨Bs, Bo, none⟩ = some sv ∧ Ints W sv l
theorem back_iter (l : List Int) (hz : l.length ≤ 1000000) (lbs : List Value) :
    IterC Try.prog 100 lbs.toArray l.length (fun j => #[.int .i64 ((l.length - 1 - j : Nat) : Int), .int .i64 (l[l.length - 1 - j]?.getD 0)]) (RdB l lbs) := by
  intro n hn lo J hY hrd W h0
  obtain ⟨Bs, Bo, sv, rfl, _, _⟩ := hrd 0 W h0
  refine back_in n hn lo Bs Bo l hz J hY (fun j W h => ?_) W h0
  obtain ⟨Bs', Bo', sv', e, h1, h2⟩ := hrd j W h
  simp only [List.cons.injEq, Value.pointer.injEq, Option.some.injEq, Addr.mk.injEq, and_true] at e
  obtain ⟨rfl, rfl⟩ := e
  exact ⟨sv', h1, h2⟩
theorem erase_dInts {s : G} : ∀ {l : List Int}, s.erase = dInts l → s.cells = l.map (Value.int .i64)
  | l, h => by
    induction l generalizing s with
    | nil => cases s <;> simp [dInts, sq, T.erase] at h; rfl
    | cons x l ih =>
      cases s <;> simp [dInts, sq, T.erase, dInt] at h
      rename_i a t
      obtain ⟨h1, h2⟩ := h
      have h3 : t.cells = l.map (Value.int .i64) := ih (by simpa [dInts, dInt] using h2)
      cases a <;> simp [T.erase] at h1
      subst h1
      simp [T.cells, h3]
theorem read_box {W : World} {I : Nat → Prop} {F : List G} {k : Nat} {X : List D} {l : List Int} {lbs : List Value} (hX : F.map T.erase = X) (hk : X[k]? = some (.box true () (.sl false () 1 (dInts l))))
    (hh : ∀ g ∈ F, T.Holds W.heap I g) (hr : Rl W.heap I F (.cons (.ptr k [.d]) .nil) true lbs) : RdB l lbs W := by
  rw [← hX, List.getElem?_map] at hk
  cases hg : F[k]? with
  | none => rw [hg] at hk; cases hk
  | some g =>
    rw [hg] at hk
    simp only [Option.map_some, Option.some.injEq] at hk
    have hhg := hh g (List.mem_of_getElem? hg)
    obtain ⟨a, x, rfl, hx⟩ : ∃ a x, g = .box true a x ∧ x.erase = .sl false () 1 (dInts l) := by
      cases g <;> simp [T.erase] at hk
      rename_i o a x
      exact ⟨a, x, by rw [hk.1], hk.2⟩
    obtain ⟨v, s, rfl, hs⟩ : ∃ v s, x = .sl false v 1 s ∧ s.erase = dInts l := by
      cases x <;> simp [T.erase] at hx
      rename_i o v z s
      exact ⟨v, s, by rw [hx.1, hx.2.1], hx.2.2⟩
    have hcs := erase_dInts hs
    obtain ⟨hsl, _, hbx⟩ := hhg
    split at hbx
    case h_2 => exact hbx.elim
    rename_i y
    obtain ⟨y1, _, _, row, e, fr, r1, r2⟩ := hbx
    obtain ⟨yb, yo, ys⟩ := y
    simp only at y1
    subst y1
    obtain ⟨v1, vs', rfl, hv1, hv2⟩ := hr
    obtain ⟨b, o, hl, hv1⟩ := hv1
    have hv1 : v1 = .pointer (some ⟨b, o, none⟩) := by simpa using hv1
    have hv2 : vs' = [] := hv2
    subst hv1; subst hv2
    have hbo : b = yb ∧ o = yo := by
      simp [locF, hg, T.loc, T.headAt] at hl
      exact ⟨hl.1.symm, hl.2.symm⟩
    obtain ⟨rfl, rfl⟩ := hbo
    refine ⟨b, o, v, rfl, ?_, ?_⟩
    · have := r2 0 v (by simp [T.cells])
      simp only [Nat.add_zero] at this
      simp [World.cell?, r1, this]
    · obtain ⟨_, _, _, hsv⟩ := hsl
      have hlen : s.len = l.length := by rw [← T.erase_len, hs]; simp
      split at hsv
      · rename_i n c _
        have : l = [] := List.eq_nil_of_length_eq_zero (by omega)
        exact .inl ⟨none, c, by rw [hsv.1], this⟩
      · rename_i x n _
        obtain ⟨h1, _, h3⟩ := hsv
        subst h1
        have : l = [] := List.eq_nil_of_length_eq_zero (by omega)
        subst this
        exact .inl ⟨some x, 0, rfl, rfl⟩
      · rename_i x n c _
        obtain ⟨h1, h2, _, _, _, row', e', fr', q1, _, _, q2⟩ := hsv
        obtain ⟨xb, xo, xs⟩ := x
        simp only at h1
        subst h1
        rw [hlen] at h2
        subst h2
        refine .inr ⟨xb, xo, c + 1, rfl, fun j hj => ?_⟩
        have := q2 j (.int .i64 l[j]) (by rw [hcs]; simp [hj])
        simp [World.cell?, q1, this, hj]
      · exact hsv.elim
end Go.Proofs.Ytkkbcpcihadkhaa

/- How houses are laid. -/
namespace Go.Proofs.Ytkkbcpcihadkhaa
set_option linter.all false
open Go.Vc Go.Proofs
abbrev avInt (n : Int) : AV := .val (.int .i64 n)
abbrev avBool (b : Bool) : AV := .val (.bool b)
abbrev avTwo (a : AV) (e : Int) : AV := .tup (.cons a (.cons (avInt e) .nil))
abbrev two (x : Int × Int) : AV := avTwo (avInt x.1) x.2
abbrev avNil : AV := .val (.pointer none)
@[simp] theorem dInts_nil : dInts [] = .nil := rfl
theorem freeze_sq (l : List D) : (sq l).freeze = sq (l.map T.freeze) := by
  induction l with
  | nil => rfl
  | cons a l ih => simp [sq, T.freeze, ih]
@[simp] theorem freeze_ints (l : List Int) : (dInts l).freeze = dInts l := by
  rw [dInts, freeze_sq, List.map_map]; rfl
@[simp] theorem dInts_mid_all (l : List Int) : (dInts l).mid 0 l.length = dInts l := sq_mid_all _ _ (by simp)
theorem dInts_mid (l : List Int) (lo n : Nat) : (dInts l).mid lo n = dInts ((l.drop lo).take n) := by simp only [dInts, sq_mid, ← List.map_drop, ← List.map_take]
theorem dInts_app (l m : List Int) : (dInts l).app (dInts m) = dInts (l ++ m) := by simp only [dInts, sq_app, List.map_append]
theorem dInts_app1 (l : List Int) (x : Int) : (dInts l).app (.cons (.val (.int .i64 x)) .nil) = dInts (l ++ [x]) := dInts_app l [x]
theorem dInts_set (l : List Int) (i : Nat) (x : Int) : (dInts l).setN i (.val (.int .i64 x)) = dInts (l.set i x) := by simp only [dInts, sq_setN, List.map_set]; rfl
def dBools (l : List Bool) : D := sq (l.map fun b => .val (.bool b))
@[simp] theorem dBools_len (l : List Bool) : (dBools l).len = l.length := by simp [dBools]
@[simp] theorem dBools_free (l : List Bool) : (dBools l).free = true := sq_free fun x hx => by obtain ⟨n, _, rfl⟩ := List.mem_map.1 hx; simp
theorem dBools_nth {l : List Bool} {i : Nat} (h : i < l.length) : (dBools l).nth i = .val (.bool l[i]) := by
  rw [dBools, sq_nth_lt (by simpa using h)]; simp
theorem dBools_set (l : List Bool) (i : Nat) (b : Bool) : (dBools l).setN i (.val (.bool b)) = dBools (l.set i b) := by simp only [dBools, sq_setN, List.map_set]
theorem zeros_bools (n : Nat) : (sq (List.replicate n (.val (.bool false))) : D) = dBools (List.replicate n false) := by simp [dBools]
@[simp] theorem dBools_mid_all (l : List Bool) : (dBools l).mid 0 l.length = dBools l := sq_mid_all _ _ (by simp)
structure Rm where
  queue : List Int
  over : Bool
structure Tg where
  owner : Int
  list : Bool
  word : Int
  items : List Int
  frozen : Bool
structure Hs where
  rooms : List Rm
  things : List Tg
def dRm (o : Bool) (r : Rm) : D := .agg (.cons (.sl o () 1 (dInts r.queue)) (.cons (.val (.bool r.over)) .nil))
def dTg (o : Bool) (t : Tg) : D := .agg (.cons (.val (.int .i64 t.owner)) (.cons (.val (.bool t.list)) (.cons (.val (.int .i64 t.word)) (.cons (.sl o () 1 (dInts t.items)) (.cons (.val (.bool t.frozen)) .nil)))))
def dRms (o : Bool) (l : List Rm) : D := sq (l.map (dRm o))
def dTgs (o : Bool) (l : List Tg) : D := sq (l.map (dTg o))
def dH (h : Hs) : D := .box true () (.agg (.cons (.sl true () 2 (dRms true h.rooms)) (.cons (.sl true () 5 (dTgs true h.things)) .nil)))
def dHI (h : Hs) : D := .agg (.cons (.sl false () 2 (dRms false h.rooms)) (.cons (.sl false () 5 (dTgs false h.things)) .nil))
@[simp high] theorem head_dH (h : Hs) : isHead (dH h) = true := by rw [dH, isHead]
@[simp] theorem dRms_len (o : Bool) (l : List Rm) : (dRms o l).len = l.length := by simp [dRms]
@[simp] theorem dTgs_len (o : Bool) (l : List Tg) : (dTgs o l).len = l.length := by simp [dTgs]
@[simp] theorem dRms_free (l : List Rm) : (dRms false l).free = true := sq_free fun x hx => by obtain ⟨n, _, rfl⟩ := List.mem_map.1 hx; simp [dRm]
@[simp] theorem dTgs_free (l : List Tg) : (dTgs false l).free = true := sq_free fun x hx => by obtain ⟨n, _, rfl⟩ := List.mem_map.1 hx; simp [dTg]
theorem dRms_nth {o : Bool} {l : List Rm} {i : Nat} (h : i < l.length) : (dRms o l).nth i = .agg (.cons (.sl o () 1 (dInts l[i].queue)) (.cons (.val (.bool l[i].over)) .nil)) := by
  rw [dRms, sq_nth_lt (by simpa using h)]; simp; rfl
theorem dTgs_nth {o : Bool} {l : List Tg} {i : Nat} (h : i < l.length) : (dTgs o l).nth i = .agg (.cons (.val (.int .i64 l[i].owner)) (.cons (.val (.bool l[i].list)) (.cons (.val (.int .i64 l[i].word)) (.cons (.sl o () 1 (dInts l[i].items)) (.cons (.val (.bool l[i].frozen)) .nil))))) := by
  rw [dTgs, sq_nth_lt (by simpa using h)]; simp; rfl
theorem dRms_set (o : Bool) (l : List Rm) (i : Nat) (r : Rm) : (dRms o l).setN i (.agg (.cons (.sl o () 1 (dInts r.queue)) (.cons (.val (.bool r.over)) .nil))) = dRms o (l.set i r) := by
  simp only [dRms, sq_setN, List.map_set]; rfl
theorem dTgs_set (o : Bool) (l : List Tg) (i : Nat) (t : Tg) : (dTgs o l).setN i (.agg (.cons (.val (.int .i64 t.owner)) (.cons (.val (.bool t.list)) (.cons (.val (.int .i64 t.word)) (.cons (.sl o () 1 (dInts t.items)) (.cons (.val (.bool t.frozen)) .nil)))))) = dTgs o (l.set i t) := by
  simp only [dTgs, sq_setN, List.map_set]; rfl
theorem dTgs_push (o : Bool) (l : List Tg) (t : Tg) : (dTgs o l).app (.cons (.agg (.cons (.val (.int .i64 t.owner)) (.cons (.val (.bool t.list)) (.cons (.val (.int .i64 t.word)) (.cons (.sl o () 1 (dInts t.items)) (.cons (.val (.bool t.frozen)) .nil)))))) .nil) = dTgs o (l ++ [t]) := by
  simp only [dTgs, List.map_append, ← sq_app]; rfl
@[simp] theorem dRms_mid_all (o : Bool) (l : List Rm) : (dRms o l).mid 0 l.length = dRms o l := sq_mid_all _ _ (by simp)
@[simp] theorem dTgs_mid_all (o : Bool) (l : List Tg) : (dTgs o l).mid 0 l.length = dTgs o l := sq_mid_all _ _ (by simp)
theorem freeze_rms (l : List Rm) : (dRms true l).freeze = dRms false l := by
  rw [dRms, freeze_sq, dRms, List.map_map]
  congr 1
  exact List.map_congr_left fun r _ => by simp [dRm, T.freeze]
theorem freeze_tgs (l : List Tg) : (dTgs true l).freeze = dTgs false l := by
  rw [dTgs, freeze_sq, dTgs, List.map_map]
  congr 1
  exact List.map_congr_left fun r _ => by simp [dTg, T.freeze]
theorem freeze_h (h : Hs) : ∃ d, dH h = .box true () d ∧ d.freeze = dHI h := ⟨_, rfl, by simp only [T.freeze, dHI, freeze_rms, freeze_tgs]⟩
end Go.Proofs.Ytkkbcpcihadkhaa

/- What is asked of a house that cannot change. -/
namespace Go.Proofs.Ytkkbcpcihadkhaa
set_option linter.all false
open Go.Vc Go.Proofs
set_option linter.unusedSimpArgs false
set_option linter.unusedVariables false
set_option maxRecDepth 100000
set_option maxHeartbeats 4000000
attribute [local irreducible] CallW EqK
def dHB (h : Hs) : D := .box true () (.box false () (dHI h))
@[simp high] theorem head_dHB (h : Hs) : isHead (dHB h) = true := by rw [dHB, isHead]
abbrev avH (h : Hs) : AV := .iptr (dHI h)
def isR (h : Hs) (who : Int) : Bool := decide (0 ≤ who ∧ who < h.rooms.length)
def isT (h : Hs) (x : Int) : Bool := decide (0 ≤ x ∧ x < h.things.length)
theorem is_ok (h : Hs) (who : Int) : Meets Try.prog 50 [] (.cons (avH h) (.cons (avInt who) .nil)) fun av X κ => av = avBool (isR h who) ∧ X = [] ∧ κ = [] := by
 refine fb Try.func50 Try.ntmps50 [.tmp 4] fun w0 I0 F0 hF => ?_
 by_cases h1 : 0 ≤ who
 ·by_cases h2 : who < h.rooms.length
  ·repeat first|refine n1 ?_|((first|refine rg 0 [0, 1] [0, 1] [] ?_|refine rg 1 [0, 1] [4] [(2, 7), (6, 11)] ?_);simp (maxSteps := 1000000) [hF, dHI, h1, h2])
   (try refine nr ?_);(repeat first|refine nb_ ?_|refine nl_ ?_);refine endK.o [4] [] [] ?_;simp [hF, retK, covers, mpre, isR, h1, h2]
  ·repeat first|refine n1 ?_|((first|refine rg 0 [0, 1] [0, 1] [] ?_|refine rg 1 [0, 1] [4] [(2, 7), (6, 11)] ?_);simp (maxSteps := 1000000) [hF, dHI, h1, h2])
   (try refine nr ?_);(repeat first|refine nb_ ?_|refine nl_ ?_);refine endK.o [4] [] [] ?_;simp [hF, retK, covers, mpre, isR, h1, h2]
 ·repeat first|refine n1 ?_|((first|refine rg 0 [0, 1] [0, 1] [] ?_|refine rg 1 [0, 1] [4] [(2, 7), (6, 11)] ?_);simp (maxSteps := 1000000) [hF, dHI, h1])
  (try refine nr ?_);(repeat first|refine nb_ ?_|refine nl_ ?_);refine endK.o [4] [] [] ?_;simp [hF, retK, covers, mpre, isR, h1]
theorem has1_ok (h : Hs) (x : Int) : Meets Try.prog 77 [dHB h] (.cons (avInt x) (.cons (.ptr 0 [.d]) .nil)) fun av X κ => av = avBool (!isT h x) ∧ X = [dHB h] ∧ κ = [] := by
 refine fb Try.func77 Try.ntmps77 [.tmp 3] fun w0 I0 F0 hF => ?_
 by_cases h1 : x < 0
 ·have h0 : ¬ 0 ≤ x := by omega
  repeat first|refine n1 ?_|((first|refine rg 0 [0, 1] [0, 1] [] ?_|refine rg 1 [0, 1] [3] [(2, 6)] ?_);simp (maxSteps := 1000000) [hF, dHB, dHI, h1])
  (try refine nr ?_);(repeat first|refine nb_ ?_|refine nl_ ?_);refine endK.o [3] [0] [] ?_;simp [hF, retK, covers, mpre, dHB, dHI, isT, h0]
 ·have h0 : 0 ≤ x := by omega
  by_cases h2 : (h.things.length : Int) ≤ x
  ·have h3 : ¬ x < h.things.length := by omega
   repeat first|refine n1 ?_|((first|refine rg 0 [0, 1] [0, 1] [] ?_|refine rg 1 [0, 1] [3] [(2, 6)] ?_);simp (maxSteps := 1000000) [hF, dHB, dHI, h1, h2])
   (try refine nr ?_);(repeat first|refine nb_ ?_|refine nl_ ?_);refine endK.o [3] [0] [] ?_;simp [hF, retK, covers, mpre, dHB, dHI, isT, h3]
  ·have h3 : x < h.things.length := by omega
   repeat first|refine n1 ?_|((first|refine rg 0 [0, 1] [0, 1] [] ?_|refine rg 1 [0, 1] [3] [(2, 6)] ?_);simp (maxSteps := 1000000) [hF, dHB, dHI, h1, h2])
   (try refine nr ?_);(repeat first|refine nb_ ?_|refine nl_ ?_);refine endK.o [3] [0] [] ?_;simp [hF, retK, covers, mpre, dHB, dHI, isT, h0, h3]
def ixF {α : Type} (p : α → Bool) (l : List α) : Int := if l.any p then (l.findIdx p : Int) else -1
theorem ixF_hit {α : Type} {p : α → Bool} {l : List α} {i : Nat} (hi : i < l.length) (hall : ∀ j, (h : j < i) → p (l[j]'(by omega)) = false) (hp : p l[i] = true) : ixF p l = i := by
 have h1 : l.any p = true := List.any_eq_true.2 ⟨_, List.getElem_mem hi, hp⟩
 have h2 : l.findIdx p = i := (List.findIdx_eq hi).2 ⟨hp, fun j hj => hall j hj⟩
 rw [ixF, if_pos h1, h2]
theorem ixF_miss {α : Type} {p : α → Bool} {l : List α} (hall : ∀ j, (h : j < l.length) → p l[j] = false) : ixF p l = -1 := by
 have h1 : ¬ l.any p = true := by
  rw [List.any_eq_true]
  rintro ⟨x, hx, hp⟩
  obtain ⟨i, hi, rfl⟩ := List.getElem_of_mem hx
  rw [hall i hi] at hp; cases hp
 rw [ixF, if_neg h1]
theorem ixF_ge {α : Type} {p : α → Bool} {l : List α} : (0 ≤ ixF p l) = (l.any p = true) := by
 unfold ixF
 by_cases h : l.any p = true
 ·rw [if_pos h]; simp [h]
 ·rw [if_neg h]; simp [h]
theorem ixF_lt {α : Type} {p : α → Bool} {l : List α} : ixF p l < l.length := by
 unfold ixF
 split
 ·rename_i h
  have := List.findIdx_lt_length_of_exists (p := p) (xs := l) (by simpa using h)
  omega
 ·omega
theorem ixF_low {α : Type} {p : α → Bool} {l : List α} : -1 ≤ ixF p l := by unfold ixF; split <;> omega
def hasN (l : List Int) (v : Int) : Bool := l.any fun x => decide (x = v)
theorem hasN_iff {l : List Int} {v : Int} : hasN l v = true ↔ v ∈ l := by simp [hasN]
theorem index_ok (ex : Bool) (l : List Int) (v : Int) (hl : l.length ≤ 100000000) : Meets Try.prog 44 [] (.cons (.imm 1 (dInts l) ex) (.cons (avInt v) .nil))
  fun av X κ => av = avInt (ixF (fun x => decide (x = v)) l) ∧ X = [] ∧ κ = [] := by
 refine fb Try.func44 Try.ntmps44 [.tmp 4] fun w0 I0 F0 hF => ?_
 repeat first|refine n1 ?_|refine n3 ?_|((first|refine rg 0 [0, 1] [0, 1] [] ?_|refine rg 1 [0, 1] [0, 1, 7, 8] [] ?_);simp (maxSteps := 1000000) [hF])
 refine VS.rounds (fun m st => ∃ (i : Nat), i + m = l.length ∧ (∀ j, (h : j < l.length) → j < i → ¬ l[j] = v) ∧ st = ⟨[(0, .imm 1 (dInts l) ex), (1, avInt v), (7, avInt l.length), (8, avInt i)], [], [], []⟩) ⟨l.length, 0, by omega, by omega, by simp⟩ ?_
 rintro m st ⟨i, hi, hall, rfl⟩
 repeat first|refine n1 ?_|((first|refine rg 2 [0, 1, 7, 8] [0, 1, 7, 8, 9] [] ?_|refine nc ?_);simp (maxSteps := 1000000) [hF])
 refine ⟨fun hlt => ?_, fun hge => ?_⟩
 ·have hi' : i < l.length := by omega
  have hn := dInts_nth hi'
  repeat first|refine n1 ?_|refine n2 ?_|refine n3 ?_|((first|refine rg 3 [0, 1, 7, 8] [0, 1, 5, 7, 8] [] ?_|refine rg 4 [0, 1, 5, 7, 8] [0, 1, 5, 7, 8, 16] [] ?_|refine nc ?_);simp (maxSteps := 1000000) [hF, hn, hi'])
  refine ⟨fun he => ?_, fun he => ?_⟩
  ·have hr : ixF (fun x => decide (x = v)) l = i := ixF_hit hi' (fun j h => by simpa using hall j (by omega) h) (by simpa using he.symm)
   repeat first|refine n1 ?_|(refine rg 5 [5] [4] [] ?_;simp (maxSteps := 1000000) [hF])
   (try refine nr ?_);(repeat first|refine nb_ ?_|refine nl_ ?_);refine endK.o [4] [] [] ?_;simp [hF, retK, covers, mpre, hr]
  ·repeat first|refine n2 ?_|refine n4 ?_|refine n5 ?_|refine n6 ?_|(refine rg 6 [0, 1, 7, 8] [0, 1, 7, 8] [] ?_;simp (maxSteps := 1000000) [hF])
   refine nextK.of [0, 1, 7, 8] [] (m - 1) (by omega) (by simp [hF]) ?_
   refine ⟨i + 1, by omega, ?_, ?_⟩
   ·intro j hj hji
    rcases Nat.lt_or_ge j i with h' | h'
    ·exact hall j hj h'
    ·obtain rfl : j = i := by omega
     exact fun e => he e.symm
   ·simp
    exact IntWalk.i64_in _ (by omega)
 ·have hr : ixF (fun x => decide (x = v)) l = -1 := ixF_miss (fun j h => by simpa using hall j h (by omega))
  repeat first|refine n1 ?_|refine n7 ?_|(refine rg 7 [] [4] [] ?_;simp (maxSteps := 1000000) [hF])
  (try refine nr ?_);(repeat first|refine nb_ ?_|refine nl_ ?_);refine endK.o [4] [] [] ?_;simp [hF, retK, covers, mpre, hr]
theorem contains_ok (ex : Bool) (l : List Int) (v : Int) (hl : l.length ≤ 100000000) : Meets Try.prog 83 [] (.cons (.imm 1 (dInts l) ex) (.cons (avInt v) .nil))
  fun av X κ => av = avBool (hasN l v) ∧ X = [] ∧ κ = [] := by
 refine fb Try.func83 Try.ntmps83 [.tmp 4] fun w0 I0 F0 hF => ?_
 repeat first|refine n1 ?_|((first|refine rg 0 [0, 1] [0, 1] [] ?_|refine rg 1 [0, 1] [4] [] ?_);simp (maxSteps := 1000000) [hF])
 refine (index_ok ex l v hl).go [] (by simp (maxSteps := 1000000) [hF]) ?_;rintro av X κ ⟨rfl, rfl, rfl⟩;simp (maxSteps := 1000000) [hF]
 have h : decide (0 ≤ ixF (fun x => decide (x = v)) l) = hasN l v := by simp only [ixF_ge, hasN, Bool.decide_eq_true]
 (try refine nr ?_);(repeat first|refine nb_ ?_|refine nl_ ?_);refine endK.o [4] [] [] ?_;simp [hF, retK, covers, mpre, h]
def dBox (x : List Int) : D := .box true () (.sl false () 1 (dInts x))
def dIB (x : Int) : D := .box true () (.val (.int .i64 x))
@[simp high] theorem head_dBox (l : List Int) : isHead (dBox l) = true := by rw [dBox, isHead]
@[simp high] theorem head_dIB (x : Int) : isHead (dIB x) = true := by rw [dIB, isHead]
theorem indexFunc_hi (ex : Bool) (ls : List Int) (hs : Hs) (hl : ls.length ≤ 100000000) (p : Int → Bool)
  (hg : ∀ i, (h : i < ls.length) → Meets Try.prog 77 [dHB hs] (.cons (avInt ls[i]) (.cons (.ptr 0 [.d]) .nil)) fun av X κ => av = avBool (p ls[i]) ∧ X = [dHB hs] ∧ κ = []) :
  Meets Try.prog 99 [dHB hs] (.cons (.imm 1 (dInts ls) ex) (.cons (.fn 77 (.cons (.ptr 0 [.d]) .nil)) .nil))
  fun av X κ => av = avInt (ixF p ls) ∧ X = [dHB hs] ∧ κ = [] := by
 refine fb Try.func99 Try.ntmps99 [.tmp 4] fun w0 I0 F0 hF => ?_
 repeat first|refine n1 ?_|refine n3 ?_|((first|refine rg 0 [0, 1] [0, 1] [] ?_|refine rg 1 [0, 1] [0, 1, 7, 8] [] ?_);simp (maxSteps := 1000000) [hF, dHB])
 refine VS.rounds (fun m st => ∃ (i : Nat), i + m = ls.length ∧ (∀ j, (h : j < ls.length) → j < i → p ls[j] = false) ∧ st = ⟨[(0, .imm 1 (dInts ls) ex), (1, .fn 77 (.cons (.ptr 0 [.d]) .nil)), (7, avInt ls.length), (8, avInt i)], [dHB hs], [], []⟩) ⟨ls.length, 0, by omega, by omega, by simp [dHB]⟩ ?_
 rintro m st ⟨i, hi, hall, rfl⟩
 repeat first|refine n1 ?_|((first|refine rg 2 [0, 1, 7, 8] [0, 1, 7, 8, 9] [] ?_|refine nc ?_);simp (maxSteps := 1000000) [hF, dHB])
 refine ⟨fun hlt => ?_, fun hge => ?_⟩
 ·have hi' : i < ls.length := by omega
  have hn := dInts_nth hi'
  repeat first|refine n1 ?_|refine n2 ?_|refine n3 ?_|((first|refine rg 3 [0, 1, 7, 8] [0, 1, 5, 7, 8] [] ?_|refine rg 4 [0, 1, 5, 7, 8] [0, 1, 5, 7, 8, 16] [] ?_);simp (maxSteps := 1000000) [hF, dHB, hn, hi'])
  refine (hg i hi').go [(0, [])] (by simp (maxSteps := 1000000) [hF, dHB]) ?_;rintro av X κ ⟨rfl, rfl, rfl⟩;simp (maxSteps := 1000000) [hF, dHB]
  cases hp : p ls[i] with
  | true =>
   have hr : ixF p ls = i := ixF_hit hi' (fun j h => hall j (by omega) h) hp
   repeat first|refine n1 ?_|((first|refine rg 5 [5] [4] [] ?_|refine nc ?_);simp (maxSteps := 1000000) [hF, hp])
   (try refine nr ?_);(repeat first|refine nb_ ?_|refine nl_ ?_);refine endK.o [4] [0] [] ?_;simp [hF, retK, covers, mpre, dHB, hr]
  | false =>
   repeat first|refine n2 ?_|refine n4 ?_|refine n5 ?_|refine n6 ?_|((first|refine rg 6 [0, 1, 7, 8] [0, 1, 7, 8] [] ?_|refine nc ?_);simp (maxSteps := 1000000) [hF, hp])
   refine nextK.of [0, 1, 7, 8] [0] (m - 1) (by omega) (by simp [hF]) ?_
   refine ⟨i + 1, by omega, ?_, ?_⟩
   ·intro j hj hji
    rcases Nat.lt_or_ge j i with h' | h'
    ·exact hall j hj h'
    ·obtain rfl : j = i := by omega
     exact hp
   ·simp [dHB]
    exact IntWalk.i64_in _ (by omega)
 ·have hr : ixF p ls = -1 := ixF_miss (fun j h => hall j h (by omega))
  repeat first|refine n1 ?_|refine n7 ?_|(refine rg 7 [] [4] [] ?_;simp (maxSteps := 1000000) [hF])
  (try refine nr ?_);(repeat first|refine nb_ ?_|refine nl_ ?_);refine endK.o [4] [0] [] ?_;simp [hF, retK, covers, mpre, dHB, hr]
theorem containsFunc_hi (ex : Bool) (ls : List Int) (hs : Hs) (hl : ls.length ≤ 100000000) (p : Int → Bool)
  (hg : ∀ i, (h : i < ls.length) → Meets Try.prog 77 [dHB hs] (.cons (avInt ls[i]) (.cons (.ptr 0 [.d]) .nil)) fun av X κ => av = avBool (p ls[i]) ∧ X = [dHB hs] ∧ κ = []) :
  Meets Try.prog 76 [dHB hs] (.cons (.imm 1 (dInts ls) ex) (.cons (.fn 77 (.cons (.ptr 0 [.d]) .nil)) .nil))
  fun av X κ => av = avBool (ls.any p) ∧ X = [dHB hs] ∧ κ = [] := by
 refine fb Try.func76 Try.ntmps76 [.tmp 4] fun w0 I0 F0 hF => ?_
 repeat first|refine n1 ?_|((first|refine rg 0 [0, 1] [0, 1] [] ?_|refine rg 1 [0, 1] [4] [] ?_);simp (maxSteps := 1000000) [hF, dHB])
 refine (indexFunc_hi ex ls hs hl p hg).go [(0, [])] (by simp (maxSteps := 1000000) [hF, dHB]) ?_;rintro av X κ ⟨rfl, rfl, rfl⟩;simp (maxSteps := 1000000) [hF, dHB]
 have h : decide ((0 : Int) ≤ ixF p ls) = ls.any p := by simp only [ixF_ge, Bool.decide_eq_true]
 (try refine nr ?_);(repeat first|refine nb_ ?_|refine nl_ ?_);refine endK.o [4] [0] [] ?_;simp [hF, retK, covers, mpre, dHB, h]
theorem indexFunc_hs (ex : Bool) (ls : List Int) (hs : Hs) (hl : ls.length ≤ 100000000) (p : Int → Bool)
  (hg : ∀ i, (h : i < ls.length) → Meets Try.prog 77 [dHB hs] (.cons (avInt ls[i]) (.cons (.ptr 0 [.d]) .nil)) fun av X κ => av = avBool (p ls[i]) ∧ X = [dHB hs] ∧ κ = []) :
  Meets Try.prog 99 [.sl true () 1 (dInts ls), dHB hs] (.cons (.sub 0 [] 0 ls.length ex) (.cons (.fn 77 (.cons (.ptr 1 [.d]) .nil)) .nil))
  fun av X κ => av = avInt (ixF p ls) ∧ X = [.sl true () 1 (dInts ls), dHB hs] ∧ κ = [] := by
 refine fb Try.func99 Try.ntmps99 [.tmp 4] fun w0 I0 F0 hF => ?_
 repeat first|refine n1 ?_|refine n3 ?_|((first|refine rg 0 [0, 1] [0, 1] [] ?_|refine rg 1 [0, 1] [0, 1, 7, 8] [] ?_);simp (maxSteps := 1000000) [hF, dHB])
 refine VS.rounds (fun m st => ∃ (i : Nat), i + m = ls.length ∧ (∀ j, (h : j < ls.length) → j < i → p ls[j] = false) ∧ st = ⟨[(0, .sub 0 [] 0 ls.length ex), (1, .fn 77 (.cons (.ptr 1 [.d]) .nil)), (7, avInt ls.length), (8, avInt i)], [.sl true () 1 (dInts ls), dHB hs], [], []⟩) ⟨ls.length, 0, by omega, by omega, by simp [dHB]⟩ ?_
 rintro m st ⟨i, hi, hall, rfl⟩
 repeat first|refine n1 ?_|((first|refine rg 2 [0, 1, 7, 8] [0, 1, 7, 8, 9] [] ?_|refine nc ?_);simp (maxSteps := 1000000) [hF, dHB])
 refine ⟨fun hlt => ?_, fun hge => ?_⟩
 ·have hi' : i < ls.length := by omega
  have hn := dInts_nth hi'
  repeat first|refine n1 ?_|refine n2 ?_|refine n3 ?_|((first|refine rg 3 [0, 1, 7, 8] [0, 1, 5, 7, 8] [] ?_|refine rg 4 [0, 1, 5, 7, 8] [0, 1, 5, 7, 8, 16] [] ?_);simp (maxSteps := 1000000) [hF, dHB, hn, hi'])
  refine (hg i hi').go [(1, [])] (by simp (maxSteps := 1000000) [hF, dHB]) ?_;rintro av X κ ⟨rfl, rfl, rfl⟩;simp (maxSteps := 1000000) [hF, dHB]
  cases hp : p ls[i] with
  | true =>
   have hr : ixF p ls = i := ixF_hit hi' (fun j h => hall j (by omega) h) hp
   repeat first|refine n1 ?_|((first|refine rg 5 [5] [4] [] ?_|refine nc ?_);simp (maxSteps := 1000000) [hF, hp])
   (try refine nr ?_);(repeat first|refine nb_ ?_|refine nl_ ?_);refine endK.o [4] [0, 1] [] ?_;simp [hF, retK, covers, mpre, dHB, hr]
  | false =>
   repeat first|refine n2 ?_|refine n4 ?_|refine n5 ?_|refine n6 ?_|((first|refine rg 6 [0, 1, 7, 8] [0, 1, 7, 8] [] ?_|refine nc ?_);simp (maxSteps := 1000000) [hF, hp])
   refine nextK.of [0, 1, 7, 8] [0, 1] (m - 1) (by omega) (by simp [hF]) ?_
   refine ⟨i + 1, by omega, ?_, ?_⟩
   ·intro j hj hji
    rcases Nat.lt_or_ge j i with h' | h'
    ·exact hall j hj h'
    ·obtain rfl : j = i := by omega
     exact hp
   ·simp [dHB]
    exact IntWalk.i64_in _ (by omega)
 ·have hr : ixF p ls = -1 := ixF_miss (fun j h => hall j h (by omega))
  repeat first|refine n1 ?_|refine n7 ?_|(refine rg 7 [] [4] [] ?_;simp (maxSteps := 1000000) [hF])
  (try refine nr ?_);(repeat first|refine nb_ ?_|refine nl_ ?_);refine endK.o [4] [0, 1] [] ?_;simp [hF, retK, covers, mpre, dHB, hr]
theorem containsFunc_hs (ex : Bool) (ls : List Int) (hs : Hs) (hl : ls.length ≤ 100000000) (p : Int → Bool)
  (hg : ∀ i, (h : i < ls.length) → Meets Try.prog 77 [dHB hs] (.cons (avInt ls[i]) (.cons (.ptr 0 [.d]) .nil)) fun av X κ => av = avBool (p ls[i]) ∧ X = [dHB hs] ∧ κ = []) :
  Meets Try.prog 76 [.sl true () 1 (dInts ls), dHB hs] (.cons (.sub 0 [] 0 ls.length ex) (.cons (.fn 77 (.cons (.ptr 1 [.d]) .nil)) .nil))
  fun av X κ => av = avBool (ls.any p) ∧ X = [.sl true () 1 (dInts ls), dHB hs] ∧ κ = [] := by
 refine fb Try.func76 Try.ntmps76 [.tmp 4] fun w0 I0 F0 hF => ?_
 repeat first|refine n1 ?_|((first|refine rg 0 [0, 1] [0, 1] [] ?_|refine rg 1 [0, 1] [4] [] ?_);simp (maxSteps := 1000000) [hF, dHB])
 refine (indexFunc_hs ex ls hs hl p hg).go [(0, []), (1, [])] (by simp (maxSteps := 1000000) [hF, dHB]) ?_;rintro av X κ ⟨rfl, rfl, rfl⟩;simp (maxSteps := 1000000) [hF, dHB]
 have h : decide ((0 : Int) ≤ ixF p ls) = ls.any p := by simp only [ixF_ge, Bool.decide_eq_true]
 (try refine nr ?_);(repeat first|refine nb_ ?_|refine nl_ ?_);refine endK.o [4] [0, 1] [] ?_;simp [hF, retK, covers, mpre, dHB, h]
theorem indexFunc_ai (ex : Bool) (ls : List Int) (hs : Hs) (who : Int) (hl : ls.length ≤ 100000000) (p : Int → Bool)
  (hg : ∀ i, (h : i < ls.length) → Meets Try.prog 78 [dHB hs, dIB who] (.cons (avInt ls[i]) (.cons (.ptr 0 [.d]) (.cons (.ptr 1 [.d]) .nil))) fun av X κ => av = avBool (p ls[i]) ∧ X = [dHB hs, dIB who] ∧ κ = []) :
  Meets Try.prog 99 [dHB hs, dIB who] (.cons (.imm 1 (dInts ls) ex) (.cons (.fn 78 (.cons (.ptr 0 [.d]) (.cons (.ptr 1 [.d]) .nil))) .nil))
  fun av X κ => av = avInt (ixF p ls) ∧ X = [dHB hs, dIB who] ∧ κ = [] := by
 refine fb Try.func99 Try.ntmps99 [.tmp 4] fun w0 I0 F0 hF => ?_
 repeat first|refine n1 ?_|refine n3 ?_|((first|refine rg 0 [0, 1] [0, 1] [] ?_|refine rg 1 [0, 1] [0, 1, 7, 8] [] ?_);simp (maxSteps := 1000000) [hF, dHB, dIB])
 refine VS.rounds (fun m st => ∃ (i : Nat), i + m = ls.length ∧ (∀ j, (h : j < ls.length) → j < i → p ls[j] = false) ∧ st = ⟨[(0, .imm 1 (dInts ls) ex), (1, .fn 78 (.cons (.ptr 0 [.d]) (.cons (.ptr 1 [.d]) .nil))), (7, avInt ls.length), (8, avInt i)], [dHB hs, dIB who], [], []⟩) ⟨ls.length, 0, by omega, by omega, by simp [dHB, dIB]⟩ ?_
 rintro m st ⟨i, hi, hall, rfl⟩
 repeat first|refine n1 ?_|((first|refine rg 2 [0, 1, 7, 8] [0, 1, 7, 8, 9] [] ?_|refine nc ?_);simp (maxSteps := 1000000) [hF, dHB, dIB])
 refine ⟨fun hlt => ?_, fun hge => ?_⟩
 ·have hi' : i < ls.length := by omega
  have hn := dInts_nth hi'
  repeat first|refine n1 ?_|refine n2 ?_|refine n3 ?_|((first|refine rg 3 [0, 1, 7, 8] [0, 1, 5, 7, 8] [] ?_|refine rg 4 [0, 1, 5, 7, 8] [0, 1, 5, 7, 8, 16] [] ?_);simp (maxSteps := 1000000) [hF, dHB, dIB, hn, hi'])
  refine (hg i hi').go [(0, []), (1, [])] (by simp (maxSteps := 1000000) [hF, dHB, dIB]) ?_;rintro av X κ ⟨rfl, rfl, rfl⟩;simp (maxSteps := 1000000) [hF, dHB, dIB]
  cases hp : p ls[i] with
  | true =>
   have hr : ixF p ls = i := ixF_hit hi' (fun j h => hall j (by omega) h) hp
   repeat first|refine n1 ?_|((first|refine rg 5 [5] [4] [] ?_|refine nc ?_);simp (maxSteps := 1000000) [hF, hp])
   (try refine nr ?_);(repeat first|refine nb_ ?_|refine nl_ ?_);refine endK.o [4] [0, 1] [] ?_;simp [hF, retK, covers, mpre, dHB, dIB, hr]
  | false =>
   repeat first|refine n2 ?_|refine n4 ?_|refine n5 ?_|refine n6 ?_|((first|refine rg 6 [0, 1, 7, 8] [0, 1, 7, 8] [] ?_|refine nc ?_);simp (maxSteps := 1000000) [hF, hp])
   refine nextK.of [0, 1, 7, 8] [0, 1] (m - 1) (by omega) (by simp [hF]) ?_
   refine ⟨i + 1, by omega, ?_, ?_⟩
   ·intro j hj hji
    rcases Nat.lt_or_ge j i with h' | h'
    ·exact hall j hj h'
    ·obtain rfl : j = i := by omega
     exact hp
   ·simp [dHB, dIB]
    exact IntWalk.i64_in _ (by omega)
 ·have hr : ixF p ls = -1 := ixF_miss (fun j h => hall j h (by omega))
  repeat first|refine n1 ?_|refine n7 ?_|(refine rg 7 [] [4] [] ?_;simp (maxSteps := 1000000) [hF])
  (try refine nr ?_);(repeat first|refine nb_ ?_|refine nl_ ?_);refine endK.o [4] [0, 1] [] ?_;simp [hF, retK, covers, mpre, dHB, dIB, hr]
theorem containsFunc_ai (ex : Bool) (ls : List Int) (hs : Hs) (who : Int) (hl : ls.length ≤ 100000000) (p : Int → Bool)
  (hg : ∀ i, (h : i < ls.length) → Meets Try.prog 78 [dHB hs, dIB who] (.cons (avInt ls[i]) (.cons (.ptr 0 [.d]) (.cons (.ptr 1 [.d]) .nil))) fun av X κ => av = avBool (p ls[i]) ∧ X = [dHB hs, dIB who] ∧ κ = []) :
  Meets Try.prog 76 [dHB hs, dIB who] (.cons (.imm 1 (dInts ls) ex) (.cons (.fn 78 (.cons (.ptr 0 [.d]) (.cons (.ptr 1 [.d]) .nil))) .nil))
  fun av X κ => av = avBool (ls.any p) ∧ X = [dHB hs, dIB who] ∧ κ = [] := by
 refine fb Try.func76 Try.ntmps76 [.tmp 4] fun w0 I0 F0 hF => ?_
 repeat first|refine n1 ?_|((first|refine rg 0 [0, 1] [0, 1] [] ?_|refine rg 1 [0, 1] [4] [] ?_);simp (maxSteps := 1000000) [hF, dHB, dIB])
 refine (indexFunc_ai ex ls hs who hl p hg).go [(0, []), (1, [])] (by simp (maxSteps := 1000000) [hF, dHB, dIB]) ?_;rintro av X κ ⟨rfl, rfl, rfl⟩;simp (maxSteps := 1000000) [hF, dHB, dIB]
 have h : decide ((0 : Int) ≤ ixF p ls) = ls.any p := by simp only [ixF_ge, Bool.decide_eq_true]
 (try refine nr ?_);(repeat first|refine nb_ ?_|refine nl_ ?_);refine endK.o [4] [0, 1] [] ?_;simp [hF, retK, covers, mpre, dHB, dIB, h]
theorem indexFunc_as (ex : Bool) (ls : List Int) (hs : Hs) (who : Int) (hl : ls.length ≤ 100000000) (p : Int → Bool)
  (hg : ∀ i, (h : i < ls.length) → Meets Try.prog 78 [dHB hs, dIB who] (.cons (avInt ls[i]) (.cons (.ptr 0 [.d]) (.cons (.ptr 1 [.d]) .nil))) fun av X κ => av = avBool (p ls[i]) ∧ X = [dHB hs, dIB who] ∧ κ = []) :
  Meets Try.prog 99 [.sl true () 1 (dInts ls), dHB hs, dIB who] (.cons (.sub 0 [] 0 ls.length ex) (.cons (.fn 78 (.cons (.ptr 1 [.d]) (.cons (.ptr 2 [.d]) .nil))) .nil))
  fun av X κ => av = avInt (ixF p ls) ∧ X = [.sl true () 1 (dInts ls), dHB hs, dIB who] ∧ κ = [] := by
 refine fb Try.func99 Try.ntmps99 [.tmp 4] fun w0 I0 F0 hF => ?_
 repeat first|refine n1 ?_|refine n3 ?_|((first|refine rg 0 [0, 1] [0, 1] [] ?_|refine rg 1 [0, 1] [0, 1, 7, 8] [] ?_);simp (maxSteps := 1000000) [hF, dHB, dIB])
 refine VS.rounds (fun m st => ∃ (i : Nat), i + m = ls.length ∧ (∀ j, (h : j < ls.length) → j < i → p ls[j] = false) ∧ st = ⟨[(0, .sub 0 [] 0 ls.length ex), (1, .fn 78 (.cons (.ptr 1 [.d]) (.cons (.ptr 2 [.d]) .nil))), (7, avInt ls.length), (8, avInt i)], [.sl true () 1 (dInts ls), dHB hs, dIB who], [], []⟩) ⟨ls.length, 0, by omega, by omega, by simp [dHB, dIB]⟩ ?_
 rintro m st ⟨i, hi, hall, rfl⟩
 repeat first|refine n1 ?_|((first|refine rg 2 [0, 1, 7, 8] [0, 1, 7, 8, 9] [] ?_|refine nc ?_);simp (maxSteps := 1000000) [hF, dHB, dIB])
 refine ⟨fun hlt => ?_, fun hge => ?_⟩
 ·have hi' : i < ls.length := by omega
  have hn := dInts_nth hi'
  repeat first|refine n1 ?_|refine n2 ?_|refine n3 ?_|((first|refine rg 3 [0, 1, 7, 8] [0, 1, 5, 7, 8] [] ?_|refine rg 4 [0, 1, 5, 7, 8] [0, 1, 5, 7, 8, 16] [] ?_);simp (maxSteps := 1000000) [hF, dHB, dIB, hn, hi'])
  refine (hg i hi').go [(1, []), (2, [])] (by simp (maxSteps := 1000000) [hF, dHB, dIB]) ?_;rintro av X κ ⟨rfl, rfl, rfl⟩;simp (maxSteps := 1000000) [hF, dHB, dIB]
  cases hp : p ls[i] with
  | true =>
   have hr : ixF p ls = i := ixF_hit hi' (fun j h => hall j (by omega) h) hp
   repeat first|refine n1 ?_|((first|refine rg 5 [5] [4] [] ?_|refine nc ?_);simp (maxSteps := 1000000) [hF, hp])
   (try refine nr ?_);(repeat first|refine nb_ ?_|refine nl_ ?_);refine endK.o [4] [0, 1, 2] [] ?_;simp [hF, retK, covers, mpre, dHB, dIB, hr]
  | false =>
   repeat first|refine n2 ?_|refine n4 ?_|refine n5 ?_|refine n6 ?_|((first|refine rg 6 [0, 1, 7, 8] [0, 1, 7, 8] [] ?_|refine nc ?_);simp (maxSteps := 1000000) [hF, hp])
   refine nextK.of [0, 1, 7, 8] [0, 1, 2] (m - 1) (by omega) (by simp [hF]) ?_
   refine ⟨i + 1, by omega, ?_, ?_⟩
   ·intro j hj hji
    rcases Nat.lt_or_ge j i with h' | h'
    ·exact hall j hj h'
    ·obtain rfl : j = i := by omega
     exact hp
   ·simp [dHB, dIB]
    exact IntWalk.i64_in _ (by omega)
 ·have hr : ixF p ls = -1 := ixF_miss (fun j h => hall j h (by omega))
  repeat first|refine n1 ?_|refine n7 ?_|(refine rg 7 [] [4] [] ?_;simp (maxSteps := 1000000) [hF])
  (try refine nr ?_);(repeat first|refine nb_ ?_|refine nl_ ?_);refine endK.o [4] [0, 1, 2] [] ?_;simp [hF, retK, covers, mpre, dHB, dIB, hr]
theorem containsFunc_as (ex : Bool) (ls : List Int) (hs : Hs) (who : Int) (hl : ls.length ≤ 100000000) (p : Int → Bool)
  (hg : ∀ i, (h : i < ls.length) → Meets Try.prog 78 [dHB hs, dIB who] (.cons (avInt ls[i]) (.cons (.ptr 0 [.d]) (.cons (.ptr 1 [.d]) .nil))) fun av X κ => av = avBool (p ls[i]) ∧ X = [dHB hs, dIB who] ∧ κ = []) :
  Meets Try.prog 76 [.sl true () 1 (dInts ls), dHB hs, dIB who] (.cons (.sub 0 [] 0 ls.length ex) (.cons (.fn 78 (.cons (.ptr 1 [.d]) (.cons (.ptr 2 [.d]) .nil))) .nil))
  fun av X κ => av = avBool (ls.any p) ∧ X = [.sl true () 1 (dInts ls), dHB hs, dIB who] ∧ κ = [] := by
 refine fb Try.func76 Try.ntmps76 [.tmp 4] fun w0 I0 F0 hF => ?_
 repeat first|refine n1 ?_|((first|refine rg 0 [0, 1] [0, 1] [] ?_|refine rg 1 [0, 1] [4] [] ?_);simp (maxSteps := 1000000) [hF, dHB, dIB])
 refine (indexFunc_as ex ls hs who hl p hg).go [(0, []), (1, []), (2, [])] (by simp (maxSteps := 1000000) [hF, dHB, dIB]) ?_;rintro av X κ ⟨rfl, rfl, rfl⟩;simp (maxSteps := 1000000) [hF, dHB, dIB]
 have h : decide ((0 : Int) ≤ ixF p ls) = ls.any p := by simp only [ixF_ge, Bool.decide_eq_true]
 (try refine nr ?_);(repeat first|refine nb_ ?_|refine nl_ ?_);refine endK.o [4] [0, 1, 2] [] ?_;simp [hF, retK, covers, mpre, dHB, dIB, h]
theorem indexFunc_ss (ex : Bool) (ls : List Int) (hs : Hs) (hl : ls.length ≤ 100000000) (p : Int → Bool)
  (hg : ∀ i, (h : i < ls.length) → Meets Try.prog 98 [dHB hs] (.cons (avInt ls[i]) (.cons (.ptr 0 [.d]) .nil)) fun av X κ => av = avBool (p ls[i]) ∧ X = [dHB hs] ∧ κ = []) :
  Meets Try.prog 99 [.sl true () 1 (dInts ls), dHB hs] (.cons (.sub 0 [] 0 ls.length ex) (.cons (.fn 98 (.cons (.ptr 1 [.d]) .nil)) .nil))
  fun av X κ => av = avInt (ixF p ls) ∧ X = [.sl true () 1 (dInts ls), dHB hs] ∧ κ = [] := by
 refine fb Try.func99 Try.ntmps99 [.tmp 4] fun w0 I0 F0 hF => ?_
 repeat first|refine n1 ?_|refine n3 ?_|((first|refine rg 0 [0, 1] [0, 1] [] ?_|refine rg 1 [0, 1] [0, 1, 7, 8] [] ?_);simp (maxSteps := 1000000) [hF, dHB])
 refine VS.rounds (fun m st => ∃ (i : Nat), i + m = ls.length ∧ (∀ j, (h : j < ls.length) → j < i → p ls[j] = false) ∧ st = ⟨[(0, .sub 0 [] 0 ls.length ex), (1, .fn 98 (.cons (.ptr 1 [.d]) .nil)), (7, avInt ls.length), (8, avInt i)], [.sl true () 1 (dInts ls), dHB hs], [], []⟩) ⟨ls.length, 0, by omega, by omega, by simp [dHB]⟩ ?_
 rintro m st ⟨i, hi, hall, rfl⟩
 repeat first|refine n1 ?_|((first|refine rg 2 [0, 1, 7, 8] [0, 1, 7, 8, 9] [] ?_|refine nc ?_);simp (maxSteps := 1000000) [hF, dHB])
 refine ⟨fun hlt => ?_, fun hge => ?_⟩
 ·have hi' : i < ls.length := by omega
  have hn := dInts_nth hi'
  repeat first|refine n1 ?_|refine n2 ?_|refine n3 ?_|((first|refine rg 3 [0, 1, 7, 8] [0, 1, 5, 7, 8] [] ?_|refine rg 4 [0, 1, 5, 7, 8] [0, 1, 5, 7, 8, 16] [] ?_);simp (maxSteps := 1000000) [hF, dHB, hn, hi'])
  refine (hg i hi').go [(1, [])] (by simp (maxSteps := 1000000) [hF, dHB]) ?_;rintro av X κ ⟨rfl, rfl, rfl⟩;simp (maxSteps := 1000000) [hF, dHB]
  cases hp : p ls[i] with
  | true =>
   have hr : ixF p ls = i := ixF_hit hi' (fun j h => hall j (by omega) h) hp
   repeat first|refine n1 ?_|((first|refine rg 5 [5] [4] [] ?_|refine nc ?_);simp (maxSteps := 1000000) [hF, hp])
   (try refine nr ?_);(repeat first|refine nb_ ?_|refine nl_ ?_);refine endK.o [4] [0, 1] [] ?_;simp [hF, retK, covers, mpre, dHB, hr]
  | false =>
   repeat first|refine n2 ?_|refine n4 ?_|refine n5 ?_|refine n6 ?_|((first|refine rg 6 [0, 1, 7, 8] [0, 1, 7, 8] [] ?_|refine nc ?_);simp (maxSteps := 1000000) [hF, hp])
   refine nextK.of [0, 1, 7, 8] [0, 1] (m - 1) (by omega) (by simp [hF]) ?_
   refine ⟨i + 1, by omega, ?_, ?_⟩
   ·intro j hj hji
    rcases Nat.lt_or_ge j i with h' | h'
    ·exact hall j hj h'
    ·obtain rfl : j = i := by omega
     exact hp
   ·simp [dHB]
    exact IntWalk.i64_in _ (by omega)
 ·have hr : ixF p ls = -1 := ixF_miss (fun j h => hall j h (by omega))
  repeat first|refine n1 ?_|refine n7 ?_|(refine rg 7 [] [4] [] ?_;simp (maxSteps := 1000000) [hF])
  (try refine nr ?_);(repeat first|refine nb_ ?_|refine nl_ ?_);refine endK.o [4] [0, 1] [] ?_;simp [hF, retK, covers, mpre, dHB, hr]
theorem containsFunc_ss (ex : Bool) (ls : List Int) (hs : Hs) (hl : ls.length ≤ 100000000) (p : Int → Bool)
  (hg : ∀ i, (h : i < ls.length) → Meets Try.prog 98 [dHB hs] (.cons (avInt ls[i]) (.cons (.ptr 0 [.d]) .nil)) fun av X κ => av = avBool (p ls[i]) ∧ X = [dHB hs] ∧ κ = []) :
  Meets Try.prog 76 [.sl true () 1 (dInts ls), dHB hs] (.cons (.sub 0 [] 0 ls.length ex) (.cons (.fn 98 (.cons (.ptr 1 [.d]) .nil)) .nil))
  fun av X κ => av = avBool (ls.any p) ∧ X = [.sl true () 1 (dInts ls), dHB hs] ∧ κ = [] := by
 refine fb Try.func76 Try.ntmps76 [.tmp 4] fun w0 I0 F0 hF => ?_
 repeat first|refine n1 ?_|((first|refine rg 0 [0, 1] [0, 1] [] ?_|refine rg 1 [0, 1] [4] [] ?_);simp (maxSteps := 1000000) [hF, dHB])
 refine (indexFunc_ss ex ls hs hl p hg).go [(0, []), (1, [])] (by simp (maxSteps := 1000000) [hF, dHB]) ?_;rintro av X κ ⟨rfl, rfl, rfl⟩;simp (maxSteps := 1000000) [hF, dHB]
 have h : decide ((0 : Int) ≤ ixF p ls) = ls.any p := by simp only [ixF_ge, Bool.decide_eq_true]
 (try refine nr ?_);(repeat first|refine nb_ ?_|refine nl_ ?_);refine endK.o [4] [0, 1] [] ?_;simp [hF, retK, covers, mpre, dHB, h]
theorem indexFunc_ti (ex : Bool) (ls : List Int) (x : List Int) (hl : ls.length ≤ 100000000) (p : Int → Bool)
  (hg : ∀ i, (h : i < ls.length) → Meets Try.prog 84 [dBox x] (.cons (avInt ls[i]) (.cons (.ptr 0 [.d]) .nil)) fun av X κ => av = avBool (p ls[i]) ∧ X = [dBox x] ∧ κ = []) :
  Meets Try.prog 99 [dBox x] (.cons (.imm 1 (dInts ls) ex) (.cons (.fn 84 (.cons (.ptr 0 [.d]) .nil)) .nil))
  fun av X κ => av = avInt (ixF p ls) ∧ X = [dBox x] ∧ κ = [] := by
 refine fb Try.func99 Try.ntmps99 [.tmp 4] fun w0 I0 F0 hF => ?_
 repeat first|refine n1 ?_|refine n3 ?_|((first|refine rg 0 [0, 1] [0, 1] [] ?_|refine rg 1 [0, 1] [0, 1, 7, 8] [] ?_);simp (maxSteps := 1000000) [hF, dBox])
 refine VS.rounds (fun m st => ∃ (i : Nat), i + m = ls.length ∧ (∀ j, (h : j < ls.length) → j < i → p ls[j] = false) ∧ st = ⟨[(0, .imm 1 (dInts ls) ex), (1, .fn 84 (.cons (.ptr 0 [.d]) .nil)), (7, avInt ls.length), (8, avInt i)], [dBox x], [], []⟩) ⟨ls.length, 0, by omega, by omega, by simp [dBox]⟩ ?_
 rintro m st ⟨i, hi, hall, rfl⟩
 repeat first|refine n1 ?_|((first|refine rg 2 [0, 1, 7, 8] [0, 1, 7, 8, 9] [] ?_|refine nc ?_);simp (maxSteps := 1000000) [hF, dBox])
 refine ⟨fun hlt => ?_, fun hge => ?_⟩
 ·have hi' : i < ls.length := by omega
  have hn := dInts_nth hi'
  repeat first|refine n1 ?_|refine n2 ?_|refine n3 ?_|((first|refine rg 3 [0, 1, 7, 8] [0, 1, 5, 7, 8] [] ?_|refine rg 4 [0, 1, 5, 7, 8] [0, 1, 5, 7, 8, 16] [] ?_);simp (maxSteps := 1000000) [hF, dBox, hn, hi'])
  refine (hg i hi').go [(0, [])] (by simp (maxSteps := 1000000) [hF, dBox]) ?_;rintro av X κ ⟨rfl, rfl, rfl⟩;simp (maxSteps := 1000000) [hF, dBox]
  cases hp : p ls[i] with
  | true =>
   have hr : ixF p ls = i := ixF_hit hi' (fun j h => hall j (by omega) h) hp
   repeat first|refine n1 ?_|((first|refine rg 5 [5] [4] [] ?_|refine nc ?_);simp (maxSteps := 1000000) [hF, hp])
   (try refine nr ?_);(repeat first|refine nb_ ?_|refine nl_ ?_);refine endK.o [4] [0] [] ?_;simp [hF, retK, covers, mpre, dBox, hr]
  | false =>
   repeat first|refine n2 ?_|refine n4 ?_|refine n5 ?_|refine n6 ?_|((first|refine rg 6 [0, 1, 7, 8] [0, 1, 7, 8] [] ?_|refine nc ?_);simp (maxSteps := 1000000) [hF, hp])
   refine nextK.of [0, 1, 7, 8] [0] (m - 1) (by omega) (by simp [hF]) ?_
   refine ⟨i + 1, by omega, ?_, ?_⟩
   ·intro j hj hji
    rcases Nat.lt_or_ge j i with h' | h'
    ·exact hall j hj h'
    ·obtain rfl : j = i := by omega
     exact hp
   ·simp [dBox]
    exact IntWalk.i64_in _ (by omega)
 ·have hr : ixF p ls = -1 := ixF_miss (fun j h => hall j h (by omega))
  repeat first|refine n1 ?_|refine n7 ?_|(refine rg 7 [] [4] [] ?_;simp (maxSteps := 1000000) [hF])
  (try refine nr ?_);(repeat first|refine nb_ ?_|refine nl_ ?_);refine endK.o [4] [0] [] ?_;simp [hF, retK, covers, mpre, dBox, hr]
theorem containsFunc_ti (ex : Bool) (ls : List Int) (x : List Int) (hl : ls.length ≤ 100000000) (p : Int → Bool)
  (hg : ∀ i, (h : i < ls.length) → Meets Try.prog 84 [dBox x] (.cons (avInt ls[i]) (.cons (.ptr 0 [.d]) .nil)) fun av X κ => av = avBool (p ls[i]) ∧ X = [dBox x] ∧ κ = []) :
  Meets Try.prog 76 [dBox x] (.cons (.imm 1 (dInts ls) ex) (.cons (.fn 84 (.cons (.ptr 0 [.d]) .nil)) .nil))
  fun av X κ => av = avBool (ls.any p) ∧ X = [dBox x] ∧ κ = [] := by
 refine fb Try.func76 Try.ntmps76 [.tmp 4] fun w0 I0 F0 hF => ?_
 repeat first|refine n1 ?_|((first|refine rg 0 [0, 1] [0, 1] [] ?_|refine rg 1 [0, 1] [4] [] ?_);simp (maxSteps := 1000000) [hF, dBox])
 refine (indexFunc_ti ex ls x hl p hg).go [(0, [])] (by simp (maxSteps := 1000000) [hF, dBox]) ?_;rintro av X κ ⟨rfl, rfl, rfl⟩;simp (maxSteps := 1000000) [hF, dBox]
 have h : decide ((0 : Int) ≤ ixF p ls) = ls.any p := by simp only [ixF_ge, Bool.decide_eq_true]
 (try refine nr ?_);(repeat first|refine nb_ ?_|refine nl_ ?_);refine endK.o [4] [0] [] ?_;simp [hF, retK, covers, mpre, dBox, h]
theorem indexFunc_ui (ex : Bool) (ls : List Int) (x : List Int) (hl : ls.length ≤ 100000000) (p : Int → Bool)
  (hg : ∀ i, (h : i < ls.length) → Meets Try.prog 85 [dBox x] (.cons (avInt ls[i]) (.cons (.ptr 0 [.d]) .nil)) fun av X κ => av = avBool (p ls[i]) ∧ X = [dBox x] ∧ κ = []) :
  Meets Try.prog 99 [dBox x] (.cons (.imm 1 (dInts ls) ex) (.cons (.fn 85 (.cons (.ptr 0 [.d]) .nil)) .nil))
  fun av X κ => av = avInt (ixF p ls) ∧ X = [dBox x] ∧ κ = [] := by
 refine fb Try.func99 Try.ntmps99 [.tmp 4] fun w0 I0 F0 hF => ?_
 repeat first|refine n1 ?_|refine n3 ?_|((first|refine rg 0 [0, 1] [0, 1] [] ?_|refine rg 1 [0, 1] [0, 1, 7, 8] [] ?_);simp (maxSteps := 1000000) [hF, dBox])
 refine VS.rounds (fun m st => ∃ (i : Nat), i + m = ls.length ∧ (∀ j, (h : j < ls.length) → j < i → p ls[j] = false) ∧ st = ⟨[(0, .imm 1 (dInts ls) ex), (1, .fn 85 (.cons (.ptr 0 [.d]) .nil)), (7, avInt ls.length), (8, avInt i)], [dBox x], [], []⟩) ⟨ls.length, 0, by omega, by omega, by simp [dBox]⟩ ?_
 rintro m st ⟨i, hi, hall, rfl⟩
 repeat first|refine n1 ?_|((first|refine rg 2 [0, 1, 7, 8] [0, 1, 7, 8, 9] [] ?_|refine nc ?_);simp (maxSteps := 1000000) [hF, dBox])
 refine ⟨fun hlt => ?_, fun hge => ?_⟩
 ·have hi' : i < ls.length := by omega
  have hn := dInts_nth hi'
  repeat first|refine n1 ?_|refine n2 ?_|refine n3 ?_|((first|refine rg 3 [0, 1, 7, 8] [0, 1, 5, 7, 8] [] ?_|refine rg 4 [0, 1, 5, 7, 8] [0, 1, 5, 7, 8, 16] [] ?_);simp (maxSteps := 1000000) [hF, dBox, hn, hi'])
  refine (hg i hi').go [(0, [])] (by simp (maxSteps := 1000000) [hF, dBox]) ?_;rintro av X κ ⟨rfl, rfl, rfl⟩;simp (maxSteps := 1000000) [hF, dBox]
  cases hp : p ls[i] with
  | true =>
   have hr : ixF p ls = i := ixF_hit hi' (fun j h => hall j (by omega) h) hp
   repeat first|refine n1 ?_|((first|refine rg 5 [5] [4] [] ?_|refine nc ?_);simp (maxSteps := 1000000) [hF, hp])
   (try refine nr ?_);(repeat first|refine nb_ ?_|refine nl_ ?_);refine endK.o [4] [0] [] ?_;simp [hF, retK, covers, mpre, dBox, hr]
  | false =>
   repeat first|refine n2 ?_|refine n4 ?_|refine n5 ?_|refine n6 ?_|((first|refine rg 6 [0, 1, 7, 8] [0, 1, 7, 8] [] ?_|refine nc ?_);simp (maxSteps := 1000000) [hF, hp])
   refine nextK.of [0, 1, 7, 8] [0] (m - 1) (by omega) (by simp [hF]) ?_
   refine ⟨i + 1, by omega, ?_, ?_⟩
   ·intro j hj hji
    rcases Nat.lt_or_ge j i with h' | h'
    ·exact hall j hj h'
    ·obtain rfl : j = i := by omega
     exact hp
   ·simp [dBox]
    exact IntWalk.i64_in _ (by omega)
 ·have hr : ixF p ls = -1 := ixF_miss (fun j h => hall j h (by omega))
  repeat first|refine n1 ?_|refine n7 ?_|(refine rg 7 [] [4] [] ?_;simp (maxSteps := 1000000) [hF])
  (try refine nr ?_);(repeat first|refine nb_ ?_|refine nl_ ?_);refine endK.o [4] [0] [] ?_;simp [hF, retK, covers, mpre, dBox, hr]
theorem containsFunc_ui (ex : Bool) (ls : List Int) (x : List Int) (hl : ls.length ≤ 100000000) (p : Int → Bool)
  (hg : ∀ i, (h : i < ls.length) → Meets Try.prog 85 [dBox x] (.cons (avInt ls[i]) (.cons (.ptr 0 [.d]) .nil)) fun av X κ => av = avBool (p ls[i]) ∧ X = [dBox x] ∧ κ = []) :
  Meets Try.prog 76 [dBox x] (.cons (.imm 1 (dInts ls) ex) (.cons (.fn 85 (.cons (.ptr 0 [.d]) .nil)) .nil))
  fun av X κ => av = avBool (ls.any p) ∧ X = [dBox x] ∧ κ = [] := by
 refine fb Try.func76 Try.ntmps76 [.tmp 4] fun w0 I0 F0 hF => ?_
 repeat first|refine n1 ?_|((first|refine rg 0 [0, 1] [0, 1] [] ?_|refine rg 1 [0, 1] [4] [] ?_);simp (maxSteps := 1000000) [hF, dBox])
 refine (indexFunc_ui ex ls x hl p hg).go [(0, [])] (by simp (maxSteps := 1000000) [hF, dBox]) ?_;rintro av X κ ⟨rfl, rfl, rfl⟩;simp (maxSteps := 1000000) [hF, dBox]
 have h : decide ((0 : Int) ≤ ixF p ls) = ls.any p := by simp only [ixF_ge, Bool.decide_eq_true]
 (try refine nr ?_);(repeat first|refine nb_ ?_|refine nl_ ?_);refine endK.o [4] [0] [] ?_;simp [hF, retK, covers, mpre, dBox, h]
theorem any_not {p : Int → Bool} (l : List Int) : (!l.any fun x => !p x) = l.all p := by
 induction l with
 | nil => rfl
 | cons a l ih => simp [ih]
theorem has_i (h : Hs) (ex : Bool) (ls : List Int) (hl : ls.length ≤ 100000000) : Meets Try.prog 41 [] (.cons (avH h) (.cons (.imm 1 (dInts ls) ex) .nil))
  fun av X κ => av = avBool (ls.all (isT h)) ∧ X = [] ∧ κ = [] := by
 have ha := any_not (p := isT h) ls
 refine fb Try.func41 Try.ntmps41 [.tmp 4] fun w0 I0 F0 hF => ?_
 repeat first|refine n1 ?_|((first|refine rg 0 [0, 1] [1, 2] [] ?_|refine rg 1 [1, 2] [4] [(2, 7)] ?_);simp (maxSteps := 1000000) [hF])
 refine (containsFunc_hi ex ls h hl (fun x => !isT h x) (fun i hi => has1_ok h ls[i])).go [(0, [])] (by simp (maxSteps := 1000000) [hF, dHB, ha]) ?_;rintro av X κ ⟨rfl, rfl, rfl⟩;simp (maxSteps := 1000000) [hF, dHB, ha]
 (try refine nr ?_);(repeat first|refine nb_ ?_|refine nl_ ?_);refine endK.o [4] [] [] ?_;simp [hF, retK, covers, mpre, ha]
theorem has_s (h : Hs) (ex : Bool) (ls : List Int) (hl : ls.length ≤ 100000000) : Meets Try.prog 41 [.sl true () 1 (dInts ls)] (.cons (avH h) (.cons (.sub 0 [] 0 ls.length ex) .nil))
  fun av X κ => av = avBool (ls.all (isT h)) ∧ X = [.sl true () 1 (dInts ls)] ∧ κ = [] := by
 have ha := any_not (p := isT h) ls
 refine fb Try.func41 Try.ntmps41 [.tmp 4] fun w0 I0 F0 hF => ?_
 repeat first|refine n1 ?_|((first|refine rg 0 [0, 1] [1, 2] [] ?_|refine rg 1 [1, 2] [4] [(2, 7)] ?_);simp (maxSteps := 1000000) [hF])
 refine (containsFunc_hs ex ls h hl (fun x => !isT h x) (fun i hi => has1_ok h ls[i])).go [(0, []), (1, [])] (by simp (maxSteps := 1000000) [hF, dHB, ha]) ?_;rintro av X κ ⟨rfl, rfl, rfl⟩;simp (maxSteps := 1000000) [hF, dHB, ha]
 (try refine nr ?_);(repeat first|refine nb_ ?_|refine nl_ ?_);refine endK.o [4] [0] [] ?_;simp [hF, retK, covers, mpre, ha]
def seesB (h : Hs) (who x : Int) : Bool := decide ((h.things.getD x.toNat ⟨-2, false, 0, [], false⟩).owner = who ∨ (h.things.getD x.toNat ⟨-2, false, 0, [], false⟩).owner = -1)
theorem sees_ok (h : Hs) (who : Int) (x : Nat) (hx : x < h.things.length) : Meets Try.prog 79 [] (.cons (avH h) (.cons (avInt who) (.cons (avInt x) .nil))) fun av X κ => av = avBool (seesB h who x) ∧ X = [] ∧ κ = [] := by
 have hn := dTgs_nth (o := false) hx
 have hg : h.things[x]?.getD ⟨-2, false, 0, [], false⟩ = h.things[x] := by simp [hx]
 have hw : IntKind.i64.wrap (-1) = -1 := by decide
 refine fb Try.func79 Try.ntmps79 [.tmp 6] fun w0 I0 F0 hF => ?_
 by_cases h1 : h.things[x].owner = who
 ·repeat first|refine n1 ?_|((first|refine rg 0 [0, 1, 2] [0, 1, 2] [] ?_|refine rg 1 [0, 1, 2] [1, 7] [] ?_|refine rg 2 [1, 7] [6] [(3, 19)] ?_);simp (maxSteps := 1000000) [hF, dHI, hn, hx, h1])
  (try refine nr ?_);(repeat first|refine nb_ ?_|refine nl_ ?_);refine endK.o [6] [] [] ?_;simp [hF, retK, covers, mpre, seesB, hg, h1]
 ·repeat first|refine n1 ?_|((first|refine rg 0 [0, 1, 2] [0, 1, 2] [] ?_|refine rg 1 [0, 1, 2] [1, 7] [] ?_|refine rg 2 [1, 7] [6] [(3, 19)] ?_);simp (maxSteps := 1000000) [hF, dHI, hn, hx, h1])
  (try refine nr ?_);(repeat first|refine nb_ ?_|refine nl_ ?_);refine endK.o [6] [] [] ?_;simp [hF, retK, covers, mpre, seesB, hg, h1]
theorem ask1_ok (h : Hs) (who : Int) (x : Nat) (hx : x < h.things.length) : Meets Try.prog 78 [dHB h, dIB who] (.cons (avInt x) (.cons (.ptr 0 [.d]) (.cons (.ptr 1 [.d]) .nil)))
  fun av X κ => av = avBool (!seesB h who x) ∧ X = [dHB h, dIB who] ∧ κ = [] := by
 refine fb Try.func78 Try.ntmps78 [.tmp 4] fun w0 I0 F0 hF => ?_
 repeat first|refine n1 ?_|((first|refine rg 0 [0, 1, 2] [0, 1, 2] [] ?_|refine rg 1 [0, 1, 2] [4] [] ?_);simp (maxSteps := 1000000) [hF, dHB, dIB])
 refine (sees_ok h who x hx).go [] (by simp (maxSteps := 1000000) [hF]) ?_;rintro av X κ ⟨rfl, rfl, rfl⟩;simp (maxSteps := 1000000) [hF]
 (try refine nr ?_);(repeat first|refine nb_ ?_|refine nl_ ?_);refine endK.o [4] [0, 1] [] ?_;simp [hF, retK, covers, mpre, dHB, dIB]
def overB (h : Hs) (who : Int) : Bool := (h.rooms.getD who.toNat ⟨[], false⟩).over
def askOf (h : Hs) (who : Int) (ls : List Int) : Int :=
 if (isR h who && ls.all (isT h)) = false then 1 else if overB h who = true then 8 else if ls.all (seesB h who) = false then 3 else 0
theorem isT_nat {h : Hs} {x : Int} (ht : isT h x = true) : ∃ k : Nat, x = k ∧ k < h.things.length := by
 simp only [isT, decide_eq_true_eq] at ht
 exact ⟨x.toNat, by omega, by omega⟩
theorem isR_nat {h : Hs} {x : Int} (ht : isR h x = true) : ∃ k : Nat, x = k ∧ k < h.rooms.length := by
 simp only [isR, decide_eq_true_eq] at ht
 exact ⟨x.toNat, by omega, by omega⟩
theorem ask_i (h : Hs) (who : Int) (ex : Bool) (ls : List Int) (hl : ls.length ≤ 100000000) : Meets Try.prog 42 [] (.cons (avH h) (.cons (avInt who) (.cons (.imm 1 (dInts ls) ex) .nil)))
  fun av X κ => av = avInt (askOf h who ls) ∧ X = [] ∧ κ = [] := by
 refine fb Try.func42 Try.ntmps42 [.tmp 6] fun w0 I0 F0 hF => ?_
 repeat first|refine n1 ?_|refine n3 ?_|((first|refine rg 0 [0, 1, 2] [2, 3, 4] [] ?_|refine rg 1 [2, 3, 4] [2, 3, 4, 7] [(4, 12)] ?_);simp (maxSteps := 1000000) [hF])
 cases hr : isR h who with
 | false =>
  have hc : askOf h who ls = 1 := by simp [askOf, hr]
  refine (is_ok h who).go [] (by simp (maxSteps := 1000000) [hF, hr]) ?_;rintro av X κ ⟨rfl, rfl, rfl⟩;simp (maxSteps := 1000000) [hF, hr]
  repeat first|refine n1 ?_|((first|refine rg 2 [] [6] [] ?_|refine nc ?_);simp (maxSteps := 1000000) [hF])
  (try refine nr ?_);(repeat first|refine nb_ ?_|refine nl_ ?_);refine endK.o [6] [] [] ?_;simp [hF, retK, covers, mpre, hc]
 | true =>
  obtain ⟨k, rfl, hk⟩ := isR_nat hr
  refine (is_ok h k).go [] (by simp (maxSteps := 1000000) [hF, hr]) ?_;rintro av X κ ⟨rfl, rfl, rfl⟩;simp (maxSteps := 1000000) [hF, hr]
  cases ht : ls.all (isT h) with
  | false =>
   have hc : askOf h k ls = 1 := by simp [askOf, ht]
   refine (has_i h ex ls hl).go [] (by simp (maxSteps := 1000000) [hF, ht]) ?_;rintro av X κ ⟨rfl, rfl, rfl⟩;simp (maxSteps := 1000000) [hF, ht]
   repeat first|refine n1 ?_|((first|refine rg 2 [] [6] [] ?_|refine nc ?_);simp (maxSteps := 1000000) [hF])
   (try refine nr ?_);(repeat first|refine nb_ ?_|refine nl_ ?_);refine endK.o [6] [] [] ?_;simp [hF, retK, covers, mpre, hc]
  | true =>
   have hn := dRms_nth (o := false) hk
   have hov : overB h k = h.rooms[k].over := by simp [overB, hk]
   have ha := any_not (p := seesB h k) ls
   refine (has_i h ex ls hl).go [] (by simp (maxSteps := 1000000) [hF, ht]) ?_;rintro av X κ ⟨rfl, rfl, rfl⟩;simp (maxSteps := 1000000) [hF, ht]
   repeat first|refine n1 ?_|((first|(refine dr 3 0 [2, 3, 4] [2, 3, 4, 18] [] [⟨0, 8, 524288, 6⟩, ⟨1, 524288, 1048576, 5⟩, ⟨2, 1048576, 2097152, 5⟩, ⟨4, 2097152, 4194304, 6⟩, ⟨0, 16, 8388608, 6⟩, ⟨24, 12582912, 16777216, 5⟩, ⟨32, 16777216, 33554432, 5⟩, ⟨64, 33554432, 67108864, 6⟩, ⟨128, 67108864, 262144, 5⟩] (.take 0 (.take 1 (.take 2 (.take 3 (.take 4 (.take 5 (.take 6 (.take 7 (.take 8 (.done)))))))))) (.run [0, 1, 2, 3, 4, 5, 6, 7, 8] (.done)) ?_;simp only [drs])|refine nc ?_);simp (maxSteps := 1000000) [hF, dHI, hn, hk])
   refine ⟨fun ho => ?_, fun ho => ?_⟩
   ·have hc : askOf h k ls = 8 := by simp [askOf, hr, ht, hov, ho]
    repeat first|refine n1 ?_|(refine rg 4 [] [6] [] ?_;simp (maxSteps := 1000000) [hF])
    (try refine nr ?_);(repeat first|refine nb_ ?_|refine nl_ ?_);refine endK.o [6] [] [] ?_;simp [hF, retK, covers, mpre, hc]
   ·repeat first|refine n1 ?_|(refine rg 5 [2, 3, 4] [27] [] ?_;simp (maxSteps := 1000000) [hF])
    cases hs : ls.all (seesB h k) with
    | false =>
     have hc : askOf h k ls = 3 := by simp only [askOf, hr, ht, hov, ho, hs]; rfl
     have hs' : (ls.any fun x => !seesB h k x) = true := by rw [hs] at ha; simpa using ha
     refine (containsFunc_ai ex ls h k hl (fun x => !seesB h k x) (fun i hi => by obtain ⟨x, e, hx⟩ := isT_nat (List.all_eq_true.1 ht _ (List.getElem_mem hi)); rw [e]; exact ask1_ok h k x hx)).go [(0, []), (1, [])] (by simp (maxSteps := 1000000) [hF, dHB, dHI, dIB, hs']) ?_;rintro av X κ ⟨rfl, rfl, rfl⟩;simp (maxSteps := 1000000) [hF, dHB, dHI, dIB, hs']
     repeat first|refine n1 ?_|((first|refine rg 6 [] [6] [] ?_|refine nc ?_);simp (maxSteps := 1000000) [hF])
     (try refine nr ?_);(repeat first|refine nb_ ?_|refine nl_ ?_);refine endK.o [6] [] [] ?_;simp [hF, retK, covers, mpre, hc]
    | true =>
     have hc : askOf h k ls = 0 := by simp only [askOf, hr, ht, hov, ho, hs]; rfl
     have hs' : (ls.any fun x => !seesB h k x) = false := by rw [hs] at ha; simpa using ha
     refine (containsFunc_ai ex ls h k hl (fun x => !seesB h k x) (fun i hi => by obtain ⟨x, e, hx⟩ := isT_nat (List.all_eq_true.1 ht _ (List.getElem_mem hi)); rw [e]; exact ask1_ok h k x hx)).go [(0, []), (1, [])] (by simp (maxSteps := 1000000) [hF, dHB, dHI, dIB, hs']) ?_;rintro av X κ ⟨rfl, rfl, rfl⟩;simp (maxSteps := 1000000) [hF, dHB, dHI, dIB, hs']
     repeat first|refine n1 ?_|refine n2 ?_|refine n4 ?_|((first|refine rg 7 [] [6] [] ?_|refine nc ?_);simp (maxSteps := 1000000) [hF])
     (try refine nr ?_);(repeat first|refine nb_ ?_|refine nl_ ?_);refine endK.o [6] [] [] ?_;simp [hF, retK, covers, mpre, hc]
theorem ask_s (h : Hs) (who : Int) (ex : Bool) (ls : List Int) (hl : ls.length ≤ 100000000) : Meets Try.prog 42 [.sl true () 1 (dInts ls)] (.cons (avH h) (.cons (avInt who) (.cons (.sub 0 [] 0 ls.length ex) .nil)))
  fun av X κ => av = avInt (askOf h who ls) ∧ X = [.sl true () 1 (dInts ls)] ∧ κ = [] := by
 refine fb Try.func42 Try.ntmps42 [.tmp 6] fun w0 I0 F0 hF => ?_
 repeat first|refine n1 ?_|refine n3 ?_|((first|refine rg 0 [0, 1, 2] [2, 3, 4] [] ?_|refine rg 1 [2, 3, 4] [2, 3, 4, 7] [(4, 12)] ?_);simp (maxSteps := 1000000) [hF])
 cases hr : isR h who with
 | false =>
  have hc : askOf h who ls = 1 := by simp [askOf, hr]
  refine (is_ok h who).go [] (by simp (maxSteps := 1000000) [hF, hr]) ?_;rintro av X κ ⟨rfl, rfl, rfl⟩;simp (maxSteps := 1000000) [hF, hr]
  repeat first|refine n1 ?_|((first|refine rg 2 [] [6] [] ?_|refine nc ?_);simp (maxSteps := 1000000) [hF])
  (try refine nr ?_);(repeat first|refine nb_ ?_|refine nl_ ?_);refine endK.o [6] [0] [] ?_;simp [hF, retK, covers, mpre, hc]
 | true =>
  obtain ⟨k, rfl, hk⟩ := isR_nat hr
  refine (is_ok h k).go [] (by simp (maxSteps := 1000000) [hF, hr]) ?_;rintro av X κ ⟨rfl, rfl, rfl⟩;simp (maxSteps := 1000000) [hF, hr]
  cases ht : ls.all (isT h) with
  | false =>
   have hc : askOf h k ls = 1 := by simp [askOf, ht]
   refine (has_s h ex ls hl).go [(0, [])] (by simp (maxSteps := 1000000) [hF, ht]) ?_;rintro av X κ ⟨rfl, rfl, rfl⟩;simp (maxSteps := 1000000) [hF, ht]
   repeat first|refine n1 ?_|((first|refine rg 2 [] [6] [] ?_|refine nc ?_);simp (maxSteps := 1000000) [hF])
   (try refine nr ?_);(repeat first|refine nb_ ?_|refine nl_ ?_);refine endK.o [6] [0] [] ?_;simp [hF, retK, covers, mpre, hc]
  | true =>
   have hn := dRms_nth (o := false) hk
   have hov : overB h k = h.rooms[k].over := by simp [overB, hk]
   have ha := any_not (p := seesB h k) ls
   refine (has_s h ex ls hl).go [(0, [])] (by simp (maxSteps := 1000000) [hF, ht]) ?_;rintro av X κ ⟨rfl, rfl, rfl⟩;simp (maxSteps := 1000000) [hF, ht]
   repeat first|refine n1 ?_|((first|(refine dr 3 0 [2, 3, 4] [2, 3, 4, 18] [] [⟨0, 8, 524288, 6⟩, ⟨1, 524288, 1048576, 5⟩, ⟨2, 1048576, 2097152, 5⟩, ⟨4, 2097152, 4194304, 6⟩, ⟨0, 16, 8388608, 6⟩, ⟨24, 12582912, 16777216, 5⟩, ⟨32, 16777216, 33554432, 5⟩, ⟨64, 33554432, 67108864, 6⟩, ⟨128, 67108864, 262144, 5⟩] (.take 0 (.take 1 (.take 2 (.take 3 (.take 4 (.take 5 (.take 6 (.take 7 (.take 8 (.done)))))))))) (.run [0, 1, 2, 3, 4, 5, 6, 7, 8] (.done)) ?_;simp only [drs])|refine nc ?_);simp (maxSteps := 1000000) [hF, dHI, hn, hk])
   refine ⟨fun ho => ?_, fun ho => ?_⟩
   ·have hc : askOf h k ls = 8 := by simp [askOf, hr, ht, hov, ho]
    repeat first|refine n1 ?_|(refine rg 4 [] [6] [] ?_;simp (maxSteps := 1000000) [hF])
    (try refine nr ?_);(repeat first|refine nb_ ?_|refine nl_ ?_);refine endK.o [6] [0] [] ?_;simp [hF, retK, covers, mpre, hc]
   ·repeat first|refine n1 ?_|(refine rg 5 [2, 3, 4] [27] [] ?_;simp (maxSteps := 1000000) [hF])
    cases hs : ls.all (seesB h k) with
    | false =>
     have hc : askOf h k ls = 3 := by simp only [askOf, hr, ht, hov, ho, hs]; rfl
     have hs' : (ls.any fun x => !seesB h k x) = true := by rw [hs] at ha; simpa using ha
     refine (containsFunc_as ex ls h k hl (fun x => !seesB h k x) (fun i hi => by obtain ⟨x, e, hx⟩ := isT_nat (List.all_eq_true.1 ht _ (List.getElem_mem hi)); rw [e]; exact ask1_ok h k x hx)).go [(0, []), (1, []), (2, [])] (by simp (maxSteps := 1000000) [hF, dHB, dHI, dIB, hs']) ?_;rintro av X κ ⟨rfl, rfl, rfl⟩;simp (maxSteps := 1000000) [hF, dHB, dHI, dIB, hs']
     repeat first|refine n1 ?_|((first|refine rg 6 [] [6] [] ?_|refine nc ?_);simp (maxSteps := 1000000) [hF])
     (try refine nr ?_);(repeat first|refine nb_ ?_|refine nl_ ?_);refine endK.o [6] [0] [] ?_;simp [hF, retK, covers, mpre, hc]
    | true =>
     have hc : askOf h k ls = 0 := by simp only [askOf, hr, ht, hov, ho, hs]; rfl
     have hs' : (ls.any fun x => !seesB h k x) = false := by rw [hs] at ha; simpa using ha
     refine (containsFunc_as ex ls h k hl (fun x => !seesB h k x) (fun i hi => by obtain ⟨x, e, hx⟩ := isT_nat (List.all_eq_true.1 ht _ (List.getElem_mem hi)); rw [e]; exact ask1_ok h k x hx)).go [(0, []), (1, []), (2, [])] (by simp (maxSteps := 1000000) [hF, dHB, dHI, dIB, hs']) ?_;rintro av X κ ⟨rfl, rfl, rfl⟩;simp (maxSteps := 1000000) [hF, dHB, dHI, dIB, hs']
     repeat first|refine n1 ?_|refine n2 ?_|refine n4 ?_|((first|refine rg 7 [] [6] [] ?_|refine nc ?_);simp (maxSteps := 1000000) [hF])
     (try refine nr ?_);(repeat first|refine nb_ ?_|refine nl_ ?_);refine endK.o [6] [0] [] ?_;simp [hF, retK, covers, mpre, hc]
theorem backward_ok (ex : Bool) (l : List Int) : Meets Try.prog 80 [] (.cons (.imm 1 (dInts l) ex) .nil)
  fun av X κ => av = .fn 100 (.cons (.ptr 0 [.d]) .nil) ∧ X = [dBox l] ∧ κ = [] := by
 refine fb Try.func80 Try.ntmps80 [.tmp 2] fun w0 I0 F0 hF => ?_
 repeat first|refine n1 ?_|((first|refine rg 0 [0] [1] [] ?_|refine rg 1 [1] [2] [] ?_);simp (maxSteps := 1000000) [hF])
 (try refine nr ?_);(repeat first|refine nb_ ?_|refine nl_ ?_);refine endK.o [2] [0] [] ?_;simp [hF, retK, covers, mpre, dBox]
end Go.Proofs.Ytkkbcpcihadkhaa

/- What a thing reaches, plainly. -/
namespace Go.Proofs.Ytkkbcpcihadkhaa
set_option linter.all false
open Go.Vc Go.Proofs
def muS : List Tg → List Bool → Nat
 | t :: L, b :: s => (if b then 0 else t.items.length) + muS L s
 | _, _ => 0
theorem muS_set : ∀ {L : List Tg} {s : List Bool} {i : Nat} (h1 : i < L.length) (h2 : i < s.length), s[i] = false → muS L (s.set i true) + L[i].items.length = muS L s
 | t :: L, b :: s, 0, _, _, h => by simp at h; subst h; simp [muS]; omega
 | t :: L, b :: s, i + 1, h1, h2, h => by
  have := muS_set (L := L) (s := s) (i := i) (by simpa using h1) (by simpa using h2) (by simpa using h)
  simp only [List.set_cons_succ, muS, List.getElem_cons_succ]; omega
 | [], _, _, h1, _, _ => by simp at h1
 | _ :: _, [], _, _, h2, _ => by simp at h2
def tgD : Tg := ⟨-2, false, 0, [], false⟩
def itemsOf (L : List Tg) (y : Int) : List Int := (L.getD y.toNat tgD).items
def reachN : Nat → List Tg → List Bool → List Int → List Int → List Int
 | 0, _, _, out, _ => out
 | n + 1, L, seen, out, work => match work.getLast? with
  | none => out
  | some y => if seen.getD y.toNat true = true then reachN n L seen out work.dropLast else reachN n L (seen.set y.toNat true) (out ++ [y]) (work.dropLast ++ (itemsOf L y).reverse)
theorem reachN_nil (n : Nat) (L : List Tg) (seen : List Bool) (out : List Int) : reachN n L seen out [] = out := by
 cases n <;> simp [reachN]
theorem reachN_seen {n : Nat} {L : List Tg} {seen : List Bool} {out w : List Int} {y : Nat} (hy : y < seen.length) (hs : seen[y] = true) : reachN (n + 1) L seen out (w ++ [(y : Int)]) = reachN n L seen out w := by
 simp [reachN, hy, hs]
theorem reachN_new {n : Nat} {L : List Tg} {seen : List Bool} {out w : List Int} {y : Nat} (hy : y < seen.length) (hs : seen[y] = false) : reachN (n + 1) L seen out (w ++ [(y : Int)]) = reachN n L (seen.set y true) (out ++ [(y : Int)]) (w ++ (itemsOf L y).reverse) := by
 simp [reachN, hy, hs]
def rW (L : List Tg) (seen : List Bool) (out work : List Int) : List Int := reachN (muS L seen + work.length) L seen out work
theorem rW_nil (L : List Tg) (seen : List Bool) (out : List Int) : rW L seen out [] = out := reachN_nil _ _ _ _
theorem rW_seen {L : List Tg} {seen : List Bool} {out w : List Int} {y : Nat} (hy : y < seen.length) (hs : seen[y] = true) : rW L seen out (w ++ [(y : Int)]) = rW L seen out w := by
  have e : muS L seen + (w ++ [(y : Int)]).length = (muS L seen + w.length) + 1 := by simp; omega
  rw [rW, e, reachN_seen hy hs, rW]
theorem rW_new {L : List Tg} {seen : List Bool} {out w : List Int} {y : Nat} (h1 : y < L.length) (hy : y < seen.length) (hs : seen[y] = false) :
    rW L seen out (w ++ [(y : Int)]) = rW L (seen.set y true) (out ++ [(y : Int)]) (w ++ (itemsOf L y).reverse) := by
  have hi : itemsOf L (y : Int) = L[y].items := by simp [itemsOf, h1]
  have hm := muS_set h1 hy hs
  have e : muS L seen + (w ++ [(y : Int)]).length = (muS L (seen.set y true) + (w ++ (itemsOf L y).reverse).length) + 1 := by simp [hi]; omega
  rw [rW, e, reachN_new hy hs, rW]
def ItemsOk (L : List Tg) : Prop := ∀ t ∈ L, ∀ z ∈ t.items, 0 ≤ z ∧ z < L.length
theorem itemsOf_ok {L : List Tg} (h : ItemsOk L) (y : Int) : ∀ z ∈ itemsOf L y, 0 ≤ z ∧ z < L.length := by
  intro z hz
  by_cases hy : y.toNat < L.length
  · have e : itemsOf L y = L[y.toNat].items := by simp [itemsOf, hy]
    rw [e] at hz
    exact h _ (List.getElem_mem hy) z hz
  · have e : itemsOf L y = [] := by simp [itemsOf, tgD, List.getElem?_eq_none (Nat.le_of_not_lt hy)]
    rw [e] at hz; cases hz
def rV (ok : Int → Bool) (L : List Tg) : Nat → List Int → Int → List Int
  | 0, out, _ => out
  | n + 1, out, y => if decide (y ∈ out) || !ok y then out else (itemsOf L y).foldl (rV ok L n) (out ++ [y])
def left (L : List Tg) (out : List Int) : Nat := ((List.range L.length).filter fun i : Nat => decide (¬ (i : Int) ∈ out)).length
theorem left_le (L : List Tg) {o o' : List Int} (h : ∀ z ∈ o, z ∈ o') : left L o' ≤ left L o := by
  refine List.Sublist.length_le ?_
  have : ∀ l : List Nat, (l.filter fun i : Nat => decide (¬ (i : Int) ∈ o')).Sublist (l.filter fun i : Nat => decide (¬ (i : Int) ∈ o)) := by
    intro l
    induction l with
    | nil => simp
    | cons a l ih =>
      by_cases h1 : (a : Int) ∈ o
      · have h2 := h _ h1
        simpa [List.filter_cons, h1, h2] using ih
      · by_cases h2 : (a : Int) ∈ o'
        · simpa [List.filter_cons, h1, h2] using ih.trans (List.sublist_cons_self _ _)
        · simpa [List.filter_cons, h1, h2] using ih
  exact this _
theorem left_lt (L : List Tg) {o : List Int} {y : Int} (hy : 0 ≤ y ∧ y < L.length) (h : y ∉ o) : left L (o ++ [y]) + 1 ≤ left L o := by
  have key : ∀ l : List Nat, l.Nodup → y.toNat ∈ l → (l.filter fun i : Nat => decide (¬ (i : Int) ∈ o ++ [y])).length + 1 = (l.filter fun i : Nat => decide (¬ (i : Int) ∈ o)).length := by
    intro l
    induction l with
    | nil => intro _ hm; cases hm
    | cons a l ih =>
      intro hn hm
      rw [List.nodup_cons] at hn
      by_cases ha : a = y.toNat
      · have hya : (a : Int) = y := by omega
        have e1 : (l.filter fun i : Nat => decide (¬ (i : Int) ∈ o ++ [y])) = l.filter fun i : Nat => decide (¬ (i : Int) ∈ o) := by
          refine List.filter_congr fun i hi => ?_
          have : (i : Int) ≠ y := fun e => hn.1 (by have : i = a := by omega
                                                    rwa [this] at hi)
          simp [this]
        simp only [List.filter_cons, hya]
        rw [e1]
        simp [h]
      · have hya : (a : Int) ≠ y := by omega
        have hm' : y.toNat ∈ l := by
          rcases List.mem_cons.1 hm with h' | h'
          · exact absurd h'.symm ha
          · exact h'
        have := ih hn.2 hm'
        simp only [List.filter_cons, List.mem_append, List.mem_singleton, hya, or_false] at this ⊢
        split <;> simp_all <;> omega
  exact Nat.le_of_eq (key _ List.nodup_range (by rw [List.mem_range]; omega))
theorem left_nil (L : List Tg) : left L [] = L.length := by rw [left, List.filter_eq_self.2 (fun _ _ => by simp), List.length_range]
def Marks (L : List Tg) (seen : List Bool) (out : List Int) : Prop := seen.length = L.length ∧ (∀ y (h : y < seen.length), seen[y] = true ↔ (y : Int) ∈ out) ∧ ∀ z ∈ out, 0 ≤ z ∧ z < L.length
theorem Marks.new {L : List Tg} {seen : List Bool} {out : List Int} (h : Marks L seen out) {y : Nat} (hy : y < L.length) : Marks L (seen.set y true) (out ++ [(y : Int)]) := by
  refine ⟨by simp [h.1], fun i hi => ?_, fun z hz => ?_⟩
  · rw [List.length_set] at hi
    rw [List.getElem_set]
    by_cases e : y = i
    · subst e; simp
    · have := h.2.1 i hi
      rw [if_neg e, this]
      have : (i : Int) ≠ y := by omega
      simp [this]
  · rcases List.mem_append.1 hz with hz | hz
    · exact h.2.2 z hz
    · rw [List.mem_singleton] at hz; omega
theorem Marks.start (L : List Tg) : Marks L (List.replicate L.length false) [] := ⟨by simp, fun y h => by simp, fun _ h => by cases h⟩
theorem rV_mem (ok : Int → Bool) (L : List Tg) : ∀ (n : Nat) (out : List Int) (y z : Int), z ∈ out → z ∈ rV ok L n out y
  | 0, _, _, _, h => h
  | n + 1, out, y, z, h => by
    have hf : ∀ (l : List Int) (o : List Int), z ∈ o → z ∈ l.foldl (rV ok L n) o := by
      intro l
      induction l with
      | nil => exact fun _ h => h
      | cons a l ih => exact fun o ho => ih _ (rV_mem ok L n o a z ho)
    rw [rV]
    split
    · exact h
    · exact hf _ _ (by simp [h])
theorem fold_mem (ok : Int → Bool) (L : List Tg) (n : Nat) (z : Int) : ∀ (l : List Int) (o : List Int), z ∈ o → z ∈ l.foldl (rV ok L n) o := by
  intro l
  induction l with
  | nil => exact fun _ h => h
  | cons a l ih => exact fun o ho => ih _ (rV_mem ok L n o a z ho)
theorem rW_rV {L : List Tg} (hL : ItemsOk L) : ∀ (n : Nat) (zs : List Int) (seen : List Bool) (out w : List Int), Marks L seen out → left L out ≤ n → (∀ z ∈ zs, 0 ≤ z ∧ z < L.length) →
    ∃ seen', Marks L seen' (zs.foldl (rV (fun _ => true) L n) out) ∧ rW L seen out (w ++ zs.reverse) = rW L seen' (zs.foldl (rV (fun _ => true) L n) out) w := by
  intro n
  induction n with
  | zero =>
    intro zs
    induction zs with
    | nil => intro seen out w hm _ _; exact ⟨seen, hm, by simp⟩
    | cons a zs ih =>
      intro seen out w hm hn hz
      have ha := hz a (by simp)
      obtain ⟨k, rfl⟩ : ∃ k : Nat, a = k := ⟨a.toNat, by omega⟩
      have hk : k < seen.length := by rw [hm.1]; omega
      have hin : (k : Int) ∈ out := by
        refine Classical.byContradiction fun h => ?_
        have := left_lt L ha h; omega
      obtain ⟨s', h1, h2⟩ := ih seen out w hm hn (fun z h => hz z (by simp [h]))
      refine ⟨s', by simpa [rV] using h1, ?_⟩
      rw [List.reverse_cons, ← List.append_assoc, rW_seen hk ((hm.2.1 k hk).2 hin), h2]
      simp [rV]
  | succ n ihn =>
    intro zs
    induction zs with
    | nil => intro seen out w hm _ _; exact ⟨seen, hm, by simp⟩
    | cons a zs ih =>
      intro seen out w hm hn hz
      have ha := hz a (by simp)
      obtain ⟨k, rfl⟩ : ∃ k : Nat, a = k := ⟨a.toNat, by omega⟩
      have hk : k < seen.length := by rw [hm.1]; omega
      have hkL : k < L.length := by omega
      by_cases hin : (k : Int) ∈ out
      · obtain ⟨s', h1, h2⟩ := ih seen out w hm hn (fun z h => hz z (by simp [h]))
        refine ⟨s', by simpa [rV, hin] using h1, ?_⟩
        rw [List.reverse_cons, ← List.append_assoc, rW_seen hk ((hm.2.1 k hk).2 hin), h2]
        simp [rV, hin]
      · have hns : seen[k] = false := by
          cases hb : seen[k] with
          | false => rfl
          | true => exact absurd ((hm.2.1 k hk).1 hb) hin
        have hle := left_lt L ha hin
        obtain ⟨s1, g1, g2⟩ := ihn (itemsOf L k) (seen.set k true) (out ++ [(k : Int)]) (w ++ zs.reverse) (hm.new hkL) (by omega) (itemsOf_ok hL k)
        have e1 : rV (fun _ => true) L (n + 1) out (k : Int) = (itemsOf L k).foldl (rV (fun _ => true) L n) (out ++ [(k : Int)]) := by simp [rV, hin]
        have hle2 : left L ((itemsOf L k).foldl (rV (fun _ => true) L n) (out ++ [(k : Int)])) ≤ n + 1 :=
          Nat.le_trans (left_le L fun z h => fold_mem _ L n z _ _ h) (by omega)
        obtain ⟨s', h1, h2⟩ := ih s1 _ w g1 hle2 (fun z h => hz z (by simp [h]))
        refine ⟨s', by rw [List.foldl_cons, e1]; exact h1, ?_⟩
        rw [List.reverse_cons, ← List.append_assoc, rW_new hkL hk hns, g2, h2, List.foldl_cons, e1]
def reachA (L : List Tg) (x : Int) : List Int := rV (fun _ => true) L L.length [] x
theorem rW_reach {L : List Tg} (hL : ItemsOk L) {x : Nat} (hx : x < L.length) : rW L (List.replicate L.length false) [] [(x : Int)] = reachA L x := by
  obtain ⟨s, _, h⟩ := rW_rV hL L.length [(x : Int)] (List.replicate L.length false) [] [] (Marks.start L) (by rw [left_nil]; exact Nat.le_refl _) (fun z h => by simp at h; omega)
  simpa [rW_nil, reachA] using h
structure Hok (h : Hs) : Prop where
  rooms : h.rooms.length ≤ 8
  things : h.things.length ≤ 400
  few : ∀ t ∈ h.things, t.items.length ≤ 50
  items : ItemsOk h.things
  queues : ∀ r ∈ h.rooms, r.queue.length ≤ 50 ∧ ∀ z ∈ r.queue, 0 ≤ z ∧ z < h.things.length
  owners : ∀ t ∈ h.things, -2 ≤ t.owner ∧ t.owner < h.rooms.length
  leaves : ∀ t ∈ h.things, t.list = false → t.items = []
  apart : ∀ t ∈ h.things, ∀ z ∈ t.items, (h.things.getD z.toNat tgD).owner = t.owner ∨ (h.things.getD z.toNat tgD).owner = -1
theorem muS_le {L : List Tg} (h : ∀ t ∈ L, t.items.length ≤ 50) : ∀ seen : List Bool, muS L seen ≤ 50 * L.length := by
  induction L with
  | nil => intro s; simp [muS]
  | cons t L ih =>
    intro s
    cases s with
    | nil => simp [muS]
    | cons b s =>
      have h1 := h t (by simp)
      have h2 := ih (fun t ht => h t (by simp [ht])) s
      simp only [muS, List.length_cons]
      split <;> omega
theorem Hok.muS {h : Hs} (hk : Hok h) (s : List Bool) : muS h.things s ≤ 20000 := by
  have := muS_le hk.few s
  have := hk.things
  omega
def gd (L : List Tg) (z : Int) : Tg := L.getD z.toNat tgD
def gr (l : List Rm) (z : Int) : Rm := l.getD z.toNat ⟨[], false⟩
@[simp] theorem gd_at {L : List Tg} {k : Nat} (hk : k < L.length) : gd L (k : Int) = L[k] := by simp [gd, hk]
@[simp] theorem gr_at {L : List Rm} {k : Nat} (hk : k < L.length) : gr L (k : Int) = L[k] := by simp [gr, hk]
def notSh (L : List Tg) (z : Int) : Bool := decide (¬ (gd L z).owner = -1)
def ownA (L : List Tg) (x : Int) : List Int := (reachA L x).filter (notSh L)
def paint (f : Tg → Tg) (l : List Int) (L : List Tg) : List Tg := L.mapIdx fun i t => if (i : Int) ∈ l then f t else t
def setTg (h : Hs) (x : Int) (t : Tg) : Hs := { h with things := h.things.set x.toNat t }
def setRm (h : Hs) (x : Int) (r : Rm) : Hs := { h with rooms := h.rooms.set x.toNat r }
def addOf (h : Hs) (t : Tg) : Hs × Int × Int := if 400 ≤ h.things.length then (h, 0, 9) else ({ h with things := h.things ++ [t] }, h.things.length, 0)
def leafOf (h : Hs) (who w : Int) : Hs × Int × Int :=
  if w < -1000000000000000 ∨ 1000000000000000 < w then (h, 0, 1) else if ¬ askOf h who [] = 0 then (h, 0, askOf h who []) else addOf h ⟨who, false, w, [], false⟩
def listOf (h : Hs) (who : Int) (l : List Int) : Hs × Int × Int :=
  if 50 < l.length then (h, 0, 1) else if ¬ askOf h who l = 0 then (h, 0, askOf h who l) else addOf h ⟨who, true, 0, l, false⟩
def indexOf (h : Hs) (x i : Int) : Int := if isT h x = true ∧ ((gd h.things x).list = false ∨ i < 0 ∨ (gd h.things x).items.length ≤ i) then 1 else 0
def getOf (h : Hs) (who x i : Int) : Int × Int :=
  if ¬ indexOf h x i = 0 then (0, 1) else if ¬ askOf h who [x] = 0 then (0, askOf h who [x]) else ((gd h.things x).items.getD i.toNat 0, 0)
def setOf (h : Hs) (who x i z : Int) : Hs × Int :=
  if ¬ indexOf h x i = 0 then (h, 1) else if ¬ askOf h who [x, z] = 0 then (h, askOf h who [x, z]) else if (gd h.things x).frozen = true then (h, 13)
  else (setTg h x { gd h.things x with items := (gd h.things x).items.set i.toNat z }, 0)
def pushOf (h : Hs) (who x z : Int) : Hs × Int :=
  if isT h x = true ∧ (gd h.things x).list = false then (h, 1) else if ¬ askOf h who [x, z] = 0 then (h, askOf h who [x, z]) else if (gd h.things x).frozen = true then (h, 13)
  else if 50 ≤ (gd h.things x).items.length then (h, 9) else (setTg h x { gd h.things x with items := (gd h.things x).items ++ [z] }, 0)
def freezeOf (h : Hs) (who x : Int) : Hs × Int :=
  if askOf h who [x] = 0 ∧ (gd h.things x).list = true then (setTg h x { gd h.things x with frozen := true }, 0) else (h, askOf h who [x])
def shbl (L : List Tg) (x : Int) : Bool := (reachA L x).all fun y => !(notSh L y && (gd L y).list && !(gd L y).frozen)
def shareF (t : Tg) : Tg := { t with owner := -1, frozen := true }
def ownF (to : Int) (t : Tg) : Tg := { t with owner := to }
def shareOf (h : Hs) (who x : Int) : Hs × Int :=
  if isR h who = true ∧ isT h x = true ∧ ¬ (gd h.things x).owner = -2 ∧ shbl h.things x = false then (h, 1)
  else if ¬ askOf h who [x] = 0 then (h, askOf h who [x]) else ({ h with things := paint shareF (reachA h.things x) h.things }, 0)
def sendsOf (h : Hs) (who to x : Int) : Int :=
  if isR h who = false ∨ isR h to = false ∨ isT h x = false then 1 else if overB h who = true ∨ overB h to = true then 8 else if seesB h who x = false then 3 else if 50 ≤ (gr h.rooms to).queue.length then 9 else 0
def putOf (h : Hs) (to x : Int) : Hs := setRm h to { gr h.rooms to with queue := (gr h.rooms to).queue ++ [x] }
def ixE (l : List Int) (y : Int) : Int := ixF (fun x => decide (x = y)) l
def placeOf (l : List Int) (first : Int) (y : Int) : Int := if 0 ≤ ixE l y then first + ixE l y else y
def copyT (l : List Int) (first to : Int) (t : Tg) : Tg := { t with owner := to, items := t.items.map (placeOf l first) }
def sendOf (h : Hs) (who to x : Int) : Hs × Int × Int :=
  if ¬ sendsOf h who to x = 0 then (h, 0, sendsOf h who to x) else if 400 < h.things.length + (ownA h.things x).length then (h, 0, 9) else
  (putOf { h with things := h.things ++ (ownA h.things x).map fun y => copyT (ownA h.things x) h.things.length to (gd h.things y) } to (placeOf (ownA h.things x) h.things.length x), placeOf (ownA h.things x) h.things.length x, 0)
def tiedAt (h : Hs) (who : Int) (l : List Int) (y : Nat) : Bool := decide ((gd h.things y).owner = who) && !hasN l y && (gd h.things y).items.any (hasN l)
def tiedOf (h : Hs) (who : Int) (l : List Int) : Bool :=
  ((List.range h.things.length).any (tiedAt h who l)) || (gr h.rooms who).queue.any (hasN l)
def moveOf (h : Hs) (who to x : Int) : Hs × Int :=
  if isR h who = true ∧ isR h to = true ∧ isT h x = true ∧ (gd h.things x).owner = who ∧ tiedOf h who (ownA h.things x) = true then (h, 1)
  else if ¬ sendsOf h who to x = 0 then (h, sendsOf h who to x) else (putOf { h with things := paint (ownF to) (ownA h.things x) h.things } to x, 0)
def takeOf (h : Hs) (who : Int) : Hs × Int × Int :=
  if ¬ askOf h who [] = 0 then (h, 0, askOf h who []) else match (gr h.rooms who).queue with
    | [] => (h, 0, 3)
    | x :: q => (setRm h who { gr h.rooms who with queue := q }, x, 0)
def goneF (who : Int) (t : Tg) : Tg := if t.owner = who then { t with owner := -2 } else t
def overOf (h : Hs) (who : Int) : Hs × Int :=
  if ¬ askOf h who [] = 0 then (h, askOf h who []) else
  ({ rooms := h.rooms.set who.toNat ⟨[], true⟩, things := h.things.map (goneF who) }, 0)
structure Cl where
  list : Bool
  word : Int
  items : List Int
theorem rV_ext {ok : Int → Bool} {L : List Tg} {Q : Int → Prop} (hc : ∀ y, Q y → ∀ z ∈ itemsOf L y, Q z) : ∀ (n : Nat) (out : List Int) (y : Int), Q y → ∃ e, rV ok L n out y = out ++ e ∧ ∀ z ∈ e, Q z
  | 0, out, y, _ => ⟨[], by simp [rV], by simp⟩
  | n + 1, out, y, hy => by
    have hf : ∀ (l : List Int), (∀ z ∈ l, Q z) → ∀ o : List Int, ∃ e, l.foldl (rV ok L n) o = o ++ e ∧ ∀ z ∈ e, Q z := by
      intro l
      induction l with
      | nil => exact fun _ o => ⟨[], by simp, by simp⟩
      | cons a l ih =>
        intro hl o
        obtain ⟨e1, h1, g1⟩ := rV_ext hc n o a (hl a (by simp))
        obtain ⟨e2, h2, g2⟩ := ih (fun z h => hl z (by simp [h])) (o ++ e1)
        exact ⟨e1 ++ e2, by rw [List.foldl_cons, h1, h2, List.append_assoc], fun z hz => (List.mem_append.1 hz).elim (g1 z) (g2 z)⟩
    rw [rV]
    split
    · exact ⟨[], by simp, by simp⟩
    · obtain ⟨e, h1, g1⟩ := hf _ (hc y hy) (out ++ [y])
      exact ⟨y :: e, by rw [h1]; simp, fun z hz => by rcases List.mem_cons.1 hz with rfl | h; exact hy; exact g1 z h⟩
theorem rV_nodup {ok : Int → Bool} {L : List Tg} : ∀ (n : Nat) (out : List Int) (y : Int), out.Nodup → (rV ok L n out y).Nodup
  | 0, _, _, h => h
  | n + 1, out, y, h => by
    have hf : ∀ (l : List Int) (o : List Int), o.Nodup → (l.foldl (rV ok L n) o).Nodup := by
      intro l
      induction l with
      | nil => exact fun _ h => h
      | cons a l ih => exact fun o ho => ih _ (rV_nodup n o a ho)
    rw [rV]
    split
    · exact h
    · rename_i hy
      refine hf _ _ (List.nodup_append.2 ⟨h, by simp, fun a ha b hb e => hy ?_⟩)
      rw [List.mem_singleton] at hb
      subst hb; subst e; simp [ha]
theorem rV_closed {L : List Tg} (hL : ItemsOk L) : ∀ (n : Nat) (out : List Int) (y : Int), left L out ≤ n → 0 ≤ y ∧ y < L.length →
    y ∈ rV (fun _ => true) L n out y ∧ ∀ u ∈ rV (fun _ => true) L n out y, u ∉ out → ∀ z ∈ itemsOf L u, z ∈ rV (fun _ => true) L n out y
  | 0, out, y, hn, hy => by
    have : y ∈ out := by
      refine Classical.byContradiction fun h => ?_
      have := left_lt L hy h; omega
    exact ⟨by simpa [rV] using this, fun u hu hx => absurd (by simpa [rV] using hu) hx⟩
  | n + 1, out, y, hn, hy => by
    have hf : ∀ (l : List Int) (o : List Int), left L o ≤ n → (∀ z ∈ l, 0 ≤ z ∧ z < L.length) → (∀ z ∈ l, z ∈ l.foldl (rV (fun _ => true) L n) o) ∧ ∀ u ∈ l.foldl (rV (fun _ => true) L n) o, u ∉ o → ∀ z ∈ itemsOf L u, z ∈ l.foldl (rV (fun _ => true) L n) o := by
      intro l
      induction l with
      | nil => exact fun o _ _ => ⟨by simp, fun u hu hx => absurd hu hx⟩
      | cons a l ih =>
        intro o ho hl
        obtain ⟨h1, h2⟩ := rV_closed hL n o a ho (hl a (by simp))
        obtain ⟨g1, g2⟩ := ih (rV (fun _ => true) L n o a) (Nat.le_trans (left_le L fun z h => rV_mem _ L n _ _ _ h) ho) (fun z h => hl z (by simp [h]))
        refine ⟨fun z hz => ?_, fun u hu hx z hz => ?_⟩
        · rcases List.mem_cons.1 hz with rfl | hz
          · exact fold_mem _ L n _ l _ h1
          · exact g1 z hz
        · by_cases hu' : u ∈ rV (fun _ => true) L n o a
          · exact fold_mem _ L n _ l _ (h2 u hu' hx z hz)
          · exact g2 u hu hu' z hz
    by_cases hin : y ∈ out
    · have e : rV (fun _ => true) L (n + 1) out y = out := by simp [rV, hin]
      rw [e]
      exact ⟨hin, fun u hu hx => absurd hu hx⟩
    · have hlt := left_lt L hy hin
      obtain ⟨h1, h2⟩ := hf (itemsOf L y) (out ++ [y]) (by omega) (itemsOf_ok hL y)
      have e : rV (fun _ => true) L (n + 1) out y = (itemsOf L y).foldl (rV (fun _ => true) L n) (out ++ [y]) := by simp [rV, hin]
      rw [e]
      refine ⟨fold_mem _ L n _ _ _ (by simp), fun u hu hx z hz => ?_⟩
      by_cases hy' : u = y
      · subst hy'; exact h1 z hz
      · exact h2 u hu (by simp [hx, hy']) z hz
theorem reachA_valid {L : List Tg} (hL : ItemsOk L) {x : Int} (hx : 0 ≤ x ∧ x < L.length) : ∀ z ∈ reachA L x, 0 ≤ z ∧ z < L.length := by
  obtain ⟨e, h1, h2⟩ := rV_ext (ok := fun _ => true) (L := L) (Q := fun z => 0 ≤ z ∧ z < L.length) (fun y _ z hz => itemsOf_ok hL y z hz) L.length [] x hx
  intro z hz; rw [reachA, h1] at hz; exact h2 z (by simpa using hz)
theorem reachA_nodup (L : List Tg) (x : Int) : (reachA L x).Nodup := rV_nodup _ _ _ (by simp)
theorem reachA_closed {L : List Tg} (hL : ItemsOk L) {x : Int} (hx : 0 ≤ x ∧ x < L.length) {y : Int} (hy : y ∈ reachA L x) : ∀ z ∈ itemsOf L y, z ∈ reachA L x :=
  (rV_closed hL L.length [] x (by rw [left_nil]; exact Nat.le_refl _) hx).2 y hy (by simp)
theorem reachA_ind {L : List Tg} {Q : Int → Prop} (hc : ∀ y, Q y → ∀ z ∈ itemsOf L y, Q z) {x : Int} (hx : Q x) : ∀ z ∈ reachA L x, Q z := by
  obtain ⟨e, h1, h2⟩ := rV_ext (ok := fun _ => true) hc L.length [] x hx
  intro z hz; rw [reachA, h1] at hz; exact h2 z (by simpa using hz)
theorem nodup_len {l : List Int} {n : Nat} (hn : l.Nodup) (h : ∀ z ∈ l, 0 ≤ z ∧ z < n) : l.length ≤ n := by
  have h2 : (l.map Int.toNat) ⊆ List.range n := fun z hz => by
    obtain ⟨a, ha, rfl⟩ := List.mem_map.1 hz
    have := h a ha
    rw [List.mem_range]; omega
  have h1 : (l.map Int.toNat).Nodup := by
    clear h2
    induction l with
    | nil => simp
    | cons a l ih =>
      rw [List.nodup_cons] at hn
      rw [List.map_cons, List.nodup_cons]
      refine ⟨fun hm => hn.1 ?_, ih hn.2 fun z hz => h z (by simp [hz])⟩
      obtain ⟨b, hb, e⟩ := List.mem_map.1 hm
      have ha := h a (by simp)
      have hb' := h b (by simp [hb])
      have : b = a := by omega
      exact this ▸ hb
  have := h1.length_le_of_subset h2
  simpa using this
def upto (f : Tg → Tg) (L : List Tg) (i : Nat) : List Tg := L.mapIdx fun j t => if j < i then f t else t
@[simp] theorem upto_len (f : Tg → Tg) (L : List Tg) (i : Nat) : (upto f L i).length = L.length := by simp [upto]
theorem upto_zero (f : Tg → Tg) (L : List Tg) : upto f L 0 = L := by
  refine List.ext_getElem (by simp) fun i h1 h2 => ?_
  simp [upto]
theorem upto_at {f : Tg → Tg} {L : List Tg} {i : Nat} (h : i < L.length) : (upto f L i)[i]'(by simpa using h) = L[i] := by simp [upto]
theorem upto_set {f : Tg → Tg} {L : List Tg} {i : Nat} (h : i < L.length) : (upto f L i).set i (f L[i]) = upto f L (i + 1) := by
  refine List.ext_getElem (by simp) fun j h1 h2 => ?_
  rw [List.getElem_set]
  by_cases e : i = j
  · subst e; simp [upto]
  · rw [if_neg e]
    simp only [upto, List.getElem_mapIdx]
    by_cases h3 : j < i
    · rw [if_pos h3, if_pos (by omega)]
    · rw [if_neg h3, if_neg (by omega)]
theorem upto_skip {f : Tg → Tg} {L : List Tg} {i : Nat} (h : i < L.length) (hf : f L[i] = L[i]) : upto f L (i + 1) = upto f L i := by
  rw [← upto_set h, hf]
  refine List.ext_getElem (by simp) fun j h1 h2 => ?_
  rw [List.getElem_set]
  by_cases e : i = j
  · subst e; rw [if_pos rfl, upto_at h]
  · rw [if_neg e]
theorem upto_all (f : Tg → Tg) (L : List Tg) : upto f L L.length = L.map f := by
  refine List.ext_getElem (by simp) fun j h1 h2 => ?_
  simp at h1
  simp [upto, h1]
@[simp] theorem paint_len (f : Tg → Tg) (l : List Int) (L : List Tg) : (paint f l L).length = L.length := by simp [paint]
theorem paint_nil (f : Tg → Tg) (L : List Tg) : paint f [] L = L := by
  refine List.ext_getElem (by simp) fun i h1 h2 => ?_
  simp [paint]
theorem paint_at {f : Tg → Tg} {l : List Int} {L : List Tg} {i : Nat} (h : i < L.length) : (paint f l L)[i]'(by simpa using h) = if (i : Int) ∈ l then f L[i] else L[i] := by simp [paint]
theorem paint_step {f : Tg → Tg} (hf : ∀ t, f (f t) = f t) {l : List Int} {L : List Tg} {y : Nat} (h : y < L.length) :
    (paint f l L).set y (f ((paint f l L)[y]'(by simpa using h))) = paint f (l ++ [(y : Int)]) L := by
  refine List.ext_getElem (by simp) fun j h1 h2 => ?_
  have hj : j < L.length := by simpa using h2
  rw [List.getElem_set]
  have e2 : (paint f (l ++ [(y : Int)]) L)[j] = if (j : Int) ∈ l ++ [(y : Int)] then f L[j] else L[j] := paint_at hj
  rw [e2]
  by_cases e : y = j
  · subst e
    have e1 := paint_at (f := f) (l := l) hj
    rw [if_pos rfl, if_pos (by simp), e1]
    split
    · rw [hf]
    · rfl
  · have e1 := paint_at (f := f) (l := l) hj
    rw [if_neg e, e1]
    have : (j : Int) ≠ y := by omega
    simp [this]
end Go.Proofs.Ytkkbcpcihadkhaa

/- What a thing reaches. -/
namespace Go.Proofs.Ytkkbcpcihadkhaa
set_option linter.all false
open Go.Vc Go.Proofs
set_option linter.unusedSimpArgs false
set_option linter.unusedVariables false
set_option maxRecDepth 100000
set_option maxHeartbeats 4000000
attribute [local irreducible] CallW EqK
def dWk (l : List Int) : D := .box true () (.sl true () 1 (dInts l))
@[simp high] theorem head_dWk (l : List Int) : isHead (dWk l) = true := by rw [dWk, isHead]
theorem reach_ok (h : Hs) (hok : Hok h) (x : Nat) (hx : x < h.things.length) : Meets Try.prog 43 [] (.cons (avH h) (.cons (avInt x) .nil)) fun av X κ => av = .sub 0 [] 0 (reachA h.things x).length false ∧ X = [.sl true () 1 (dInts (reachA h.things x))] ∧ κ = [] := by
 have hl := hok.things
 have hmx : muS h.things (List.replicate h.things.length false) + 1 ≤ 1000000 := by have := hok.muS (List.replicate h.things.length false); omega
 have b1 : (h.things.length : Int) ≤ 140737488355328 := by omega
 have b2 : (h.things.length : Int) ≤ 9223372036854775807 := by omega
 have hz := zeros_bools h.things.length
 refine Meets.of_vsI tabOk Try.func43 (body := ?_) ?_ (by kernel_rfl) Try.ntmps43 (rs := [.tmp 4]) (by kernel_rfl) rfl (by simp [AV.len]) (by simp only [envOf]; exact rfl) ?_
 rotate_left
 ·rfl
 intro w0 I0 F0 hF hI
 repeat first|refine n1 ?_|refine n3 ?_|((first|refine rg 0 [0, 1, 10, 54] [0, 1, 10, 54] [] ?_|refine rg 1 [0, 1, 10, 54] [0, 1, 5, 10, 54] [] ?_|refine rg 2 [0, 1, 5, 10, 54] [0, 1, 5, 6, 10, 54] [] ?_|refine rg 3 [0, 1, 5, 6, 10, 54] [0, 5, 6, 7, 10, 54] [] ?_);simp (maxSteps := 1000000) [hF, dHI, b1, b2])
 refine VS.hold0 5 1 (by simp) ?_
 generalize hK : VS _ _ _ = KK; simp; (try subst hK)
 refine VS.pick [0, 5, 6, 7, 10, 54] [0, 3, 2] (by simp [hF]) ?_;simp [hF]
 refine VS.rounds (fun m st => ∃ (seen : List Bool) (out work : List Int), seen.length = h.things.length ∧ (∀ y ∈ work, isT h y = true) ∧ muS h.things seen + work.length = m ∧ out.length + m ≤ 1000000 ∧ rW h.things seen out work = reachA h.things x ∧ st = ⟨[(0, avH h), (5, .sub 1 [] 0 out.length false), (6, .sub 0 [] 0 h.things.length true), (7, .ptr 2 [.d]), (10, .bad), (54, .bad)],
  [.sl true () 1 (dBools seen), .sl true () 1 (dInts out), dWk work], [], []⟩) ⟨muS h.things (List.replicate h.things.length false) + 1, List.replicate h.things.length false, [], [(x : Int)], by simp, by simp [isT, hx], by simp, by simpa using hmx, rW_reach hok.items hx, by simp [dWk, hz]; rfl⟩ ?_
 rintro m st ⟨seen, out, work, hsl, hwk, hmu, hmb, hrw, rfl⟩
 repeat first|refine n1 ?_|((first|refine rg 4 [0, 5, 6, 7, 10, 54] [0, 5, 6, 7, 10, 21, 54] [] ?_|refine nc ?_);simp (maxSteps := 1000000) [hF, dWk])
 refine ⟨fun hne => ?_, fun he => ?_⟩
 ·obtain ⟨w, y, rfl⟩ : ∃ w y, work = w ++ [y] := ⟨work.dropLast, work.getLast (by intro e; subst e; simp at hne), (List.dropLast_concat_getLast _).symm⟩
  obtain ⟨y, rfl, hy⟩ := isT_nat (hwk y (by simp))
  have hys : y < seen.length := by omega
  simp only [List.length_append, List.length_cons, List.length_nil] at hmu
  have hlen : (w ++ [(y : Int)]).length = w.length + 1 := by simp
  have hn : (dInts (w ++ [(y : Int)])).nth w.length = .val (.int .i64 y) := by rw [dInts_nth (by simp)]; simp
  have hsub : IntKind.i64.wrap (w.length : Int) = (w.length : Int) := IntWalk.i64_in _ (by omega)
  have c1 : (w.length : Int) < (w.length : Int) + 1 := by omega
  have c2 : w.length < w.length + 1 := by omega
  have hmid : (dInts (w ++ [(y : Int)])).mid 0 w.length = dInts w := by rw [dInts_mid]; simp
  repeat first|refine n1 ?_|refine n2 ?_|refine n3 ?_|(refine rg 5 [0, 5, 6, 7, 10, 54] [0, 5, 6, 7, 8, 10, 54] [] ?_;simp (maxSteps := 1000000) [hF, dWk, hlen, hn, hsub, c1, c2])
  refine ghostL 2 [.d] ?_;simp (maxSteps := 1000000) [hF, St.lift, AV.lift, liftPl, stripP, nodeAV, isNode, dWk, hlen]
  repeat first|refine n1 ?_|(refine rg 6 [0, 5, 6, 7, 8, 10, 54] [0, 5, 6, 7, 8, 10, 54] [] ?_;simp (maxSteps := 1000000) [hF, hlen, hsub, c1, c2, hmid])
  have hbn := dBools_nth hys
  have c3 : (y : Int) < h.things.length := by omega
  refine VS.pick [0, 5, 6, 7, 8, 10, 54] [0, 1, 2] (by simp [hF]) ?_;simp [hF]
  cases hb : seen[y] with
  | true =>
   rw [hb] at hbn
   repeat first|refine n4 ?_|refine n6 ?_|refine n7 ?_|((first|refine rg 7 [0, 5, 6, 7, 8, 10, 54] [0, 5, 6, 7, 8, 10, 36, 54] [] ?_|refine nc ?_);simp (maxSteps := 1000000) [hF, hbn, hy, hys, c3, hsl])
   refine nextK.of [0, 5, 6, 7, 10, 54] [0, 1, 2] (m - 1) (by omega) (by simp [hF]) ?_
   refine ⟨seen, out, w, hsl, fun z hz => hwk z (by simp [hz]), by omega, by omega, by rw [← hrw, rW_seen hys hb], ?_⟩
   simp [dWk]
  | false =>
   rw [hb] at hbn
   have c4 : (out.length + 1) * 8 ≤ 140737488355328 := by omega
   have c5 : out.length ≤ 9223372036854775806 := by omega
   have htn := dTgs_nth (o := false) hy
   have hset := dBools_set seen y true
   repeat first|refine n1 ?_|refine n2 ?_|((first|refine rg 7 [0, 5, 6, 7, 8, 10, 52, 54] [0, 5, 6, 7, 8, 10, 36, 52, 54] [] ?_|refine rg 8 [0, 5, 6, 7, 8, 10, 52, 54] [0, 5, 6, 7, 8, 10, 52, 54] [] ?_|refine rg 9 [0, 5, 6, 7, 8, 10, 52, 54] [0, 5, 6, 7, 8, 10, 52, 54] [] ?_|refine rg 10 [0, 5, 6, 7, 8, 10, 52, 54] [0, 5, 6, 7, 10, 52, 54] [] ?_|refine nc ?_);simp (maxSteps := 1000000) [hF, hbn, hy, hys, c3, hsl, c4, c5, dHI, htn, hset])
   refine (backward_ok false h.things[y].items).go [] (by simp (maxSteps := 1000000) [hF]) ?_;rintro av X κ ⟨rfl, rfl, rfl⟩;simp (maxSteps := 1000000) [hF]
   repeat first|refine n3 ?_
   have hin : h.things[y].items.length ≤ 1000000 := by have := hok.few _ (List.getElem_mem hy); omega
   refine VS.pick [0, 5, 6, 7, 10, 52, 54] [0, 1, 2, 4] (by simp [hF]) ?_;simp [hF]
   generalize hI2 : h.things[y].items = its at *
   refine VS.rangeFunc hI (gf := 100) (s := .cons (.ptr 3 [.d]) .nil) rfl (by exact ⟨_, Try.func100, by rfl, by rfl⟩) its.length (fun j => .int .i64 ((its.length - 1 - j : Nat) : Int)) (fun j => .int .i64 (its[its.length - 1 - j]?.getD 0)) (fun _ => rfl) (fun _ => rfl) (by show 53 < 60; decide) (by show 54 < 60; decide)
    (fun j => [.sl true () 1 (dBools (seen.set y true)), .sl true () 1 (dInts (out ++ [(y : Int)])), .box true () (.sl true () 1 (dInts (w ++ its.reverse.take j))), dBox its]) (by simp)
    (fun j => [(0, avH h), (5, .sub 1 [] 0 (out.length + 1) false), (6, .sub 0 [] 0 h.things.length true), (7, .ptr 2 [.d]), (10, avInt (its[its.length - 1 - j]?.getD 0)), (52, .fn 100 (.cons (.ptr 3 [.d]) .nil))])
    (RdB its) (back_iter its hin) (fun j W I F lbs hX hh hr => read_box hX (by simp; rfl) hh hr) ?_ ?_ ?_
   ·intro j hj w0' I0' F0' hF1
    simp only [List.length_cons, List.length_nil, Nat.reduceAdd] at hF1
    refine VI.regionPick (c := ⟨Try.prog, 60, w0', I0', F0'⟩) tabOk [0, 5, 6, 7, 10, 52] [0, 1, 2, 3] [] (by kernel_rfl) ?_
    simp (maxSteps := 1000000) [hF1]
   ·intro j hj w0' I0' F0' hF1
    simp only [List.length_cons, List.length_nil, Nat.reduceAdd] at hF1
    refine VI.block ?_
    refine VI.lift (c := ⟨Try.prog, 60, w0', I0', F0'⟩) 2 [.d] (by simp) (by simp [St.tree]) (by simp [St.tree]) (by simp [St.tree]) ?_
    refine VI.regionPick (c := ⟨Try.prog, 60, w0', I0', F0'⟩) tabOk [0, 5, 6, 7, 10, 52] [0, 1, 2, 3] [] (by kernel_rfl) ?_
    have hFz : F0.length = 0 := hF
    simp (maxSteps := 1000000) [hF1]
    have hL : (w ++ its.reverse.take j).length = w.length + min j its.length := by simp
    have hT : its.reverse.take (j + 1) = its.reverse.take j ++ [its[its.length - 1 - j]?.getD 0] := by
     rw [List.take_add_one, List.getElem?_reverse hj, List.getElem?_eq_getElem (by omega)]; rfl
    refine ⟨⟨by omega, by omega⟩, ?_, fun k q => ⟨fun hk => by omega, fun hk => by omega⟩⟩
    rw [← hL, dInts_mid_all, dInts_app1, hT, ← List.append_assoc]
    have e := dInts_mid_all (w ++ its.reverse.take j ++ [its[its.length - 1 - j]?.getD 0])
    rwa [List.length_append, List.length_singleton] at e
   ·have hy3 : (seen.set y true).length = h.things.length := by simp [hsl]
    have hmm := muS_set hy hys hb
    have hLr : (w ++ its.reverse).length = w.length + its.length := by simp
    rw [hI2] at hmm
    dsimp only
    repeat first|refine n4 ?_|refine n6 ?_
    refine nextK.of [0, 5, 6, 7, 10, 54] [0, 1, 2] (m - 1) (by omega) (by simp [hF]) ?_
    refine ⟨seen.set y true, out ++ [(y : Int)], w ++ its.reverse, hy3, fun z hz => ?_, by omega, by simp; omega, ?_, ?_⟩
    ·rcases List.mem_append.1 hz with hz | hz
     ·exact hwk z (by simp [hz])
     ·have := hok.items _ (List.getElem_mem hy) z (by rw [hI2]; simpa using hz)
      simpa [isT] using this
    ·rw [← hrw, rW_new hy hys hb]
     simp [itemsOf, hy, hI2]
    ·rw [List.take_of_length_le (by simp)]
     simp [dWk]
 ·have he : work = [] := by simpa using he
  subst he
  repeat first|refine n1 ?_|refine n7 ?_|(refine rg 13 [5] [4] [] ?_;simp (maxSteps := 1000000) [hF])
  rw [rW_nil] at hrw
  (try refine nr ?_);(repeat first|refine nb_ ?_|refine nl_ ?_);refine endK.o [4] [1] [] ?_;simp [hF, retK, covers, mpre, hrw]
theorem has_s1 (h : Hs) (ex : Bool) (x : Int) : Meets Try.prog 41 [.sl true () 1 (.cons (.val (.int .i64 x)) .nil)] (.cons (avH h) (.cons (.sub 0 [] 0 1 ex) .nil))
  fun av X κ => av = avBool (isT h x) ∧ X = [.sl true () 1 (.cons (.val (.int .i64 x)) .nil)] ∧ κ = [] := by
 have h1 := has_s h ex [x] (by simp)
 simpa [List.all, dInts, sq, dInt] using h1
theorem ask_s1 (h : Hs) (who : Int) (ex : Bool) (x : Int) : Meets Try.prog 42 [.sl true () 1 (.cons (.val (.int .i64 x)) .nil)] (.cons (avH h) (.cons (avInt who) (.cons (.sub 0 [] 0 1 ex) .nil)))
  fun av X κ => av = avInt (askOf h who [x]) ∧ X = [.sl true () 1 (.cons (.val (.int .i64 x)) .nil)] ∧ κ = [] := by
 have h1 := ask_s h who ex [x] (by simp)
 simpa [dInts, sq, dInt] using h1
theorem hindex_ok (h : Hs) (x i : Int) : Meets Try.prog 63 [] (.cons (avH h) (.cons (avInt x) (.cons (avInt i) .nil))) fun av X κ => av = avInt (indexOf h x i) ∧ X = [] ∧ κ = [] := by
 refine fb Try.func63 Try.ntmps63 [.tmp 6] fun w0 I0 F0 hF => ?_
 repeat first|refine n1 ?_|((first|refine rg 0 [0, 1, 2] [0, 1, 2] [] ?_|refine rg 1 [0, 1, 2] [38] [(4, 11), (14, 21), (18, 25)] ?_);simp (maxSteps := 1000000) [hF])
 cases ht : isT h x with
 | false =>
  have hc : indexOf h x i = 0 := by simp [indexOf, ht]
  refine (has_s1 h true x).go [(0, [])] (by simp (maxSteps := 1000000) [hF, ht, dHI]) ?_;rintro av X κ ⟨rfl, rfl, rfl⟩;simp (maxSteps := 1000000) [hF, ht, dHI]
  repeat first|refine n1 ?_|refine n2 ?_|((first|refine rg 3 [] [6] [] ?_|refine nc ?_);simp (maxSteps := 1000000) [hF])
  (try refine nr ?_);(repeat first|refine nb_ ?_|refine nl_ ?_);refine endK.o [6] [] [] ?_;simp [hF, retK, covers, mpre, hc]
 | true =>
  obtain ⟨k, rfl, hk⟩ := isT_nat ht
  have hn := dTgs_nth (o := false) hk
  cases hl : h.things[k].list with
  | false =>
   have hc : indexOf h k i = 1 := by simp [indexOf, ht, hk, hl]
   rw [hl] at hn
   refine (has_s1 h true k).go [(0, [])] (by simp (maxSteps := 1000000) [hF, ht, dHI, hn, hk]) ?_;rintro av X κ ⟨rfl, rfl, rfl⟩;simp (maxSteps := 1000000) [hF, ht, dHI, hn, hk]
   repeat first|refine n1 ?_|((first|refine rg 2 [] [6] [] ?_|refine nc ?_);simp (maxSteps := 1000000) [hF, dHI, hn, hk])
   (try refine nr ?_);(repeat first|refine nb_ ?_|refine nl_ ?_);refine endK.o [6] [] [] ?_;simp [hF, retK, covers, mpre, hc]
  | true =>
   rw [hl] at hn
   by_cases h1 : i < 0
   ·have hc : indexOf h k i = 1 := by simp [indexOf, ht, hk, hl, h1]
    refine (has_s1 h true k).go [(0, [])] (by simp (maxSteps := 1000000) [hF, ht, dHI, hn, hk, h1]) ?_;rintro av X κ ⟨rfl, rfl, rfl⟩;simp (maxSteps := 1000000) [hF, ht, dHI, hn, hk, h1]
    repeat first|refine n1 ?_|((first|refine rg 2 [] [6] [] ?_|refine nc ?_);simp (maxSteps := 1000000) [hF, dHI, hn, hk, h1])
    (try refine nr ?_);(repeat first|refine nb_ ?_|refine nl_ ?_);refine endK.o [6] [] [] ?_;simp [hF, retK, covers, mpre, hc]
   ·by_cases h2 : (h.things[k].items.length : Int) ≤ i
    ·have hc : indexOf h k i = 1 := by simp [indexOf, ht, hk, hl, h1, h2]
     refine (has_s1 h true k).go [(0, [])] (by simp (maxSteps := 1000000) [hF, ht, dHI, hn, hk, h1, h2]) ?_;rintro av X κ ⟨rfl, rfl, rfl⟩;simp (maxSteps := 1000000) [hF, ht, dHI, hn, hk, h1, h2]
     repeat first|refine n1 ?_|((first|refine rg 2 [] [6] [] ?_|refine nc ?_);simp (maxSteps := 1000000) [hF, dHI, hn, hk, h1, h2])
     (try refine nr ?_);(repeat first|refine nb_ ?_|refine nl_ ?_);refine endK.o [6] [] [] ?_;simp [hF, retK, covers, mpre, hc]
    ·have hc : indexOf h k i = 0 := by simp [indexOf, ht, hk, hl, h1, h2]
     refine (has_s1 h true k).go [(0, [])] (by simp (maxSteps := 1000000) [hF, ht, dHI, hn, hk, h1, h2]) ?_;rintro av X κ ⟨rfl, rfl, rfl⟩;simp (maxSteps := 1000000) [hF, ht, dHI, hn, hk, h1, h2]
     repeat first|refine n1 ?_|refine n2 ?_|((first|refine rg 3 [] [6] [] ?_|refine nc ?_);simp (maxSteps := 1000000) [hF, dHI, hn, hk, h1, h2])
     (try refine nr ?_);(repeat first|refine nb_ ?_|refine nl_ ?_);refine endK.o [6] [] [] ?_;simp [hF, retK, covers, mpre, hc]
theorem get_ok (h : Hs) (who x i : Int) : Meets Try.prog 22 [] (.cons (avH h) (.cons (avInt who) (.cons (avInt x) (.cons (avInt i) .nil)))) fun av X κ => av = two (getOf h who x i) ∧ X = [] ∧ κ = [] := by
 refine fb Try.func22 Try.ntmps22 [.tmp 8, .tmp 9] fun w0 I0 F0 hF => ?_
 repeat first|refine n1 ?_|((first|refine rg 0 [0, 1, 2, 3] [0, 1, 2, 3] [] ?_|refine rg 1 [0, 1, 2, 3] [0, 1, 2, 3, 15] [] ?_);simp (maxSteps := 1000000) [hF])
 by_cases hi : indexOf h x i = 0
 ·by_cases hz : askOf h who [x] = 0
  ·have ht : isT h x = true := by
    cases ht : isT h x with
    | true => rfl
    | false => simp [askOf, ht] at hz
   obtain ⟨k, rfl, hk⟩ := isT_nat ht
   have hn := dTgs_nth (o := false) hk
   have hl : 0 ≤ i ∧ i < h.things[k].items.length := by
    simp only [indexOf, ht, gd_at hk, true_and] at hi
    split at hi
    ·cases hi
    ·omega
   obtain ⟨j, rfl⟩ : ∃ j : Nat, i = j := ⟨i.toNat, by omega⟩
   have hj : j < h.things[k].items.length := by omega
   have hm := dInts_nth hj
   have hc : getOf h who k j = (h.things[k].items[j], 0) := by simp [getOf, hi, hz, hk, hj]
   refine (hindex_ok h k j).go [] (by simp (maxSteps := 1000000) [hF, hi]) ?_;rintro av X κ ⟨rfl, rfl, rfl⟩;simp (maxSteps := 1000000) [hF, hi]
   repeat first|refine n1 ?_|refine n2 ?_|((first|refine rg 3 [0, 1, 2, 3] [0, 2, 3, 10] [] ?_|refine nc ?_);simp (maxSteps := 1000000) [hF, hi])
   refine (ask_s1 h who true k).go [(0, [])] (by simp (maxSteps := 1000000) [hF, hz]) ?_;rintro av X κ ⟨rfl, rfl, rfl⟩;simp (maxSteps := 1000000) [hF, hz]
   repeat first|refine n1 ?_|refine n2 ?_|((first|refine rg 4 [0, 2, 3, 10] [0, 2, 3, 10, 22] [] ?_|refine rg 6 [0, 2, 3] [8, 9] [] ?_|refine nc ?_);simp (maxSteps := 1000000) [hF, hz, dHI, hn, hk, hm, hj])
   (try refine nr ?_);(repeat first|refine nb_ ?_|refine nl_ ?_);refine endK.o [8, 9] [] [] ?_;simp [hF, retK, covers, mpre, hc]
  ·have hc : getOf h who x i = (0, askOf h who [x]) := by simp [getOf, hi, hz]
   refine (hindex_ok h x i).go [] (by simp (maxSteps := 1000000) [hF, hi]) ?_;rintro av X κ ⟨rfl, rfl, rfl⟩;simp (maxSteps := 1000000) [hF, hi]
   repeat first|refine n1 ?_|refine n2 ?_|((first|refine rg 3 [0, 1, 2, 3] [0, 2, 3, 10] [] ?_|refine nc ?_);simp (maxSteps := 1000000) [hF, hi])
   refine (ask_s1 h who true x).go [(0, [])] (by simp (maxSteps := 1000000) [hF, hz]) ?_;rintro av X κ ⟨rfl, rfl, rfl⟩;simp (maxSteps := 1000000) [hF, hz]
   repeat first|refine n1 ?_|((first|refine rg 4 [0, 2, 3, 10] [0, 2, 3, 10, 22] [] ?_|refine rg 5 [10] [8, 9] [] ?_|refine nc ?_);simp (maxSteps := 1000000) [hF, hz])
   (try refine nr ?_);(repeat first|refine nb_ ?_|refine nl_ ?_);refine endK.o [8, 9] [] [] ?_;simp [hF, retK, covers, mpre, hc]
 ·have hc : getOf h who x i = (0, 1) := by simp [getOf, hi]
  refine (hindex_ok h x i).go [] (by simp (maxSteps := 1000000) [hF, hi]) ?_;rintro av X κ ⟨rfl, rfl, rfl⟩;simp (maxSteps := 1000000) [hF, hi]
  repeat first|refine n1 ?_|((first|refine rg 2 [] [8, 9] [] ?_|refine nc ?_);simp (maxSteps := 1000000) [hF, hi])
  (try refine nr ?_);(repeat first|refine nb_ ?_|refine nl_ ?_);refine endK.o [8, 9] [] [] ?_;simp [hF, retK, covers, mpre, hc]
theorem set_mid {kp mid r : List Int} {v : Int} (h : 0 < mid.length) : (kp ++ (mid ++ r)).set kp.length v = kp ++ v :: (mid.tail ++ r) := by
 cases mid with
 | nil => simp at h
 | cons a l => simp
theorem ixF_some {p : Int → Bool} {l : List Int} (h : l.any p = true) : ∃ i, ∃ hi : i < l.length, ixF p l = i ∧ p l[i] = true ∧ ∀ j, (hj : j < i) → p (l[j]'(by omega)) = false := by
 obtain ⟨x, hx, hp⟩ := List.any_eq_true.1 h
 have hi : l.findIdx p < l.length := List.findIdx_lt_length_of_exists ⟨x, hx, hp⟩
 refine ⟨l.findIdx p, hi, by rw [ixF, if_pos h], List.findIdx_getElem (w := hi), fun j hj => ?_⟩
 have := List.not_of_lt_findIdx hj
 simpa using this
theorem indexFunc_os (ex : Bool) (ls : List Int) (hs : Hs) (hl : ls.length ≤ 100000000) (p : Int → Bool)
  (hg : ∀ i, (h : i < ls.length) → Meets Try.prog 82 [dHB hs] (.cons (avInt ls[i]) (.cons (.ptr 0 [.d]) .nil)) fun av X κ => av = avBool (p ls[i]) ∧ X = [dHB hs] ∧ κ = []) :
  Meets Try.prog 99 [.sl true () 1 (dInts ls), dHB hs] (.cons (.sub 0 [] 0 ls.length ex) (.cons (.fn 82 (.cons (.ptr 1 [.d]) .nil)) .nil))
  fun av X κ => av = avInt (ixF p ls) ∧ X = [.sl true () 1 (dInts ls), dHB hs] ∧ κ = [] := by
 refine fb Try.func99 Try.ntmps99 [.tmp 4] fun w0 I0 F0 hF => ?_
 repeat first|refine n1 ?_|refine n3 ?_|((first|refine rg 0 [0, 1] [0, 1] [] ?_|refine rg 1 [0, 1] [0, 1, 7, 8] [] ?_);simp (maxSteps := 1000000) [hF, dHB])
 refine VS.rounds (fun m st => ∃ (i : Nat), i + m = ls.length ∧ (∀ j, (h : j < ls.length) → j < i → p ls[j] = false) ∧ st = ⟨[(0, .sub 0 [] 0 ls.length ex), (1, .fn 82 (.cons (.ptr 1 [.d]) .nil)), (7, avInt ls.length), (8, avInt i)], [.sl true () 1 (dInts ls), dHB hs], [], []⟩) ⟨ls.length, 0, by omega, by omega, by simp [dHB]⟩ ?_
 rintro m st ⟨i, hi, hall, rfl⟩
 repeat first|refine n1 ?_|((first|refine rg 2 [0, 1, 7, 8] [0, 1, 7, 8, 9] [] ?_|refine nc ?_);simp (maxSteps := 1000000) [hF, dHB])
 refine ⟨fun hlt => ?_, fun hge => ?_⟩
 ·have hi' : i < ls.length := by omega
  have hn := dInts_nth hi'
  repeat first|refine n1 ?_|refine n2 ?_|refine n3 ?_|((first|refine rg 3 [0, 1, 7, 8] [0, 1, 5, 7, 8] [] ?_|refine rg 4 [0, 1, 5, 7, 8] [0, 1, 5, 7, 8, 16] [] ?_);simp (maxSteps := 1000000) [hF, dHB, hn, hi'])
  refine (hg i hi').go [(1, [])] (by simp (maxSteps := 1000000) [hF, dHB]) ?_;rintro av X κ ⟨rfl, rfl, rfl⟩;simp (maxSteps := 1000000) [hF, dHB]
  cases hp : p ls[i] with
  | true =>
   have hr : ixF p ls = i := ixF_hit hi' (fun j h => hall j (by omega) h) hp
   repeat first|refine n1 ?_|((first|refine rg 5 [5] [4] [] ?_|refine nc ?_);simp (maxSteps := 1000000) [hF, hp])
   (try refine nr ?_);(repeat first|refine nb_ ?_|refine nl_ ?_);refine endK.o [4] [0, 1] [] ?_;simp [hF, retK, covers, mpre, dHB, hr]
  | false =>
   repeat first|refine n2 ?_|refine n4 ?_|refine n5 ?_|refine n6 ?_|((first|refine rg 6 [0, 1, 7, 8] [0, 1, 7, 8] [] ?_|refine nc ?_);simp (maxSteps := 1000000) [hF, hp])
   refine nextK.of [0, 1, 7, 8] [0, 1] (m - 1) (by omega) (by simp [hF]) ?_
   refine ⟨i + 1, by omega, ?_, ?_⟩
   ·intro j hj hji
    rcases Nat.lt_or_ge j i with h' | h'
    ·exact hall j hj h'
    ·obtain rfl : j = i := by omega
     exact hp
   ·simp [dHB]
    exact IntWalk.i64_in _ (by omega)
 ·have hr : ixF p ls = -1 := ixF_miss (fun j h => hall j h (by omega))
  repeat first|refine n1 ?_|refine n7 ?_|(refine rg 7 [] [4] [] ?_;simp (maxSteps := 1000000) [hF])
  (try refine nr ?_);(repeat first|refine nb_ ?_|refine nl_ ?_);refine endK.o [4] [0, 1] [] ?_;simp [hF, retK, covers, mpre, dHB, hr]
theorem deleteFunc_os (ex : Bool) (ls : List Int) (hs : Hs) (hl : ls.length ≤ 100000000) (p : Int → Bool)
  (hg : ∀ i, (h : i < ls.length) → Meets Try.prog 82 [dHB hs] (.cons (avInt ls[i]) (.cons (.ptr 0 [.d]) .nil)) fun av X κ => av = avBool (p ls[i]) ∧ X = [dHB hs] ∧ κ = []) :
  Meets Try.prog 81 [.sl true () 1 (dInts ls), dHB hs] (.cons (.sub 0 [] 0 ls.length ex) (.cons (.fn 82 (.cons (.ptr 1 [.d]) .nil)) .nil))
  fun av X κ => ∃ e z, (ex = false → e = false) ∧ av = .sub 0 [] 0 (ls.filter fun x => !p x).length e ∧ X = [.sl true () 1 (dInts ((ls.filter fun x => !p x) ++ z)), dHB hs] ∧ κ = [(0, [.i 0])] := by
 refine fb Try.func81 Try.ntmps81 [.tmp 4] fun w0 I0 F0 hF => ?_
 repeat first|refine n1 ?_|((first|refine rg 0 [0, 1] [0, 1] [] ?_|refine rg 1 [0, 1] [0, 1, 5] [] ?_);simp (maxSteps := 1000000) [hF, dHB])
 refine (indexFunc_os ex ls hs hl p hg).go [(0, []), (1, [])] (by simp (maxSteps := 1000000) [hF, dHB]) ?_;rintro av X κ ⟨rfl, rfl, rfl⟩;simp (maxSteps := 1000000) [hF, dHB]
 by_cases ha : ls.any p = true
 ·obtain ⟨i, hi, hix, hpi, hpre⟩ := ixF_some ha
  have hw : IntKind.i64.wrap ((i : Int) + 1) = (i + 1 : Nat) := by rw [IntWalk.i64_in _ (by omega)]; rfl
  have hti : (ls.take (i + 1)).filter (fun x => !p x) = ls.take i := by
   rw [List.take_add_one, List.filter_append, List.getElem?_eq_getElem hi]
   rw [List.filter_eq_self.2 fun x hx => by
    obtain ⟨j, hj, rfl⟩ := List.mem_take_iff_getElem.1 hx
    simpa using hpre j (by omega)]
   simp [hpi]
  repeat first|refine n1 ?_|refine n2 ?_|refine n3 ?_|((first|refine rg 2 [0, 1, 5] [0, 1, 5, 12] [] ?_|refine rg 4 [0, 1, 5] [0, 1, 5, 6] [] ?_|refine nc ?_);simp (maxSteps := 1000000) [hF, hix, hw])
  refine VS.rounds (fun m st => ∃ (j : Nat) (mid : List Int), j + m = ls.length ∧ ((ls.take j).filter fun x => !p x).length + mid.length = j ∧ 0 < mid.length ∧ st = ⟨[(0, .sub 0 [] 0 ls.length ex), (1, .fn 82 (.cons (.ptr 1 [.d]) .nil)), (5, avInt ((ls.take j).filter fun x => !p x).length), (6, avInt j)], [.sl true () 1 (dInts (((ls.take j).filter fun x => !p x) ++ mid ++ ls.drop j)), dHB hs], [], []⟩) ⟨ls.length - (i + 1), i + 1, [ls[i]], by omega, by rw [hti]; simp; omega, by simp, by
   rw [hti]
   have e : ls.take i ++ [ls[i]] ++ ls.drop (i + 1) = ls := by simp
   rw [e]
   simp [Nat.min_eq_left (Nat.le_of_lt hi), dHB, ]⟩ ?_
  rintro m st ⟨j, mid, hj, hk, hmd, rfl⟩
  repeat first|refine n1 ?_|((first|refine rg 5 [0, 1, 5, 6] [0, 1, 5, 6, 19] [] ?_|refine nc ?_);simp (maxSteps := 1000000) [hF, dHB])
  refine ⟨fun hlt => ?_, fun hge => ?_⟩
  ·have hn : (dInts (((ls.take j).filter fun x => !p x) ++ (mid ++ ls.drop j))).nth j = .val (.int .i64 ls[j]) := by
    rw [dInts_nth (by simp; omega)]
    have : (((ls.take j).filter fun x => !p x) ++ (mid ++ ls.drop j))[j]? = some ls[j] := by
     rw [List.getElem?_append_right (by omega), List.getElem?_append_right (by omega), List.getElem?_drop, List.getElem?_eq_getElem (by omega)]
     congr 2; omega
    rw [(List.getElem_eq_iff _).2 this]
   have hw1 : IntKind.i64.wrap ((j : Int) + 1) = (j + 1 : Nat) := by rw [IntWalk.i64_in _ (by omega)]; rfl
   have ht1 : ls.take (j + 1) = ls.take j ++ [ls[j]] := by rw [List.take_add_one, List.getElem?_eq_getElem hlt]; rfl
   have hd1 : ls.drop j = ls[j] :: ls.drop (j + 1) := List.drop_eq_getElem_cons hlt
   repeat first|refine n1 ?_|refine n2 ?_|refine n3 ?_|((first|refine rg 7 [0, 1, 5, 6] [0, 1, 5, 6, 7] [] ?_|refine rg 8 [0, 1, 5, 6, 7] [0, 1, 5, 6, 7, 29] [] ?_);simp (maxSteps := 1000000) [hF, dHB, hn, hlt])
   refine (hg j hlt).go [(1, [])] (by simp (maxSteps := 1000000) [hF, dHB]) ?_;rintro av X κ ⟨rfl, rfl, rfl⟩;simp (maxSteps := 1000000) [hF, dHB]
   cases hp : p ls[j] with
   | true =>
    have hf1 : (ls.take (j + 1)).filter (fun x => !p x) = (ls.take j).filter (fun x => !p x) := by rw [ht1, List.filter_append]; simp [hp]
    repeat first|refine n2 ?_|refine n4 ?_|refine n5 ?_|refine n6 ?_|((first|refine rg 6 [0, 1, 5, 6] [0, 1, 5, 6] [] ?_|refine nc ?_);simp (maxSteps := 1000000) [hF, hp, hw1])
    refine nextK.of [0, 1, 5, 6] [0, 1] (m - 1) (by omega) (by simp [hF]) ?_
    refine ⟨j + 1, mid ++ [ls[j]], by omega, by rw [hf1]; simp; omega, by simp, ?_⟩
    rw [hf1, hd1]
    simp [dHB]
   | false =>
    have hf1 : (ls.take (j + 1)).filter (fun x => !p x) = (ls.take j).filter (fun x => !p x) ++ [ls[j]] := by rw [ht1, List.filter_append]; simp [hp]
    have hw2 : IntKind.i64.wrap ((((ls.take j).filter fun x => !p x).length : Int) + 1) = (((ls.take j).filter fun x => !p x).length + 1 : Nat) := by rw [IntWalk.i64_in _ (by omega)]; rfl
    have hkl : ((ls.take j).filter fun x => !p x).length < ls.length := by omega
    have hset : (dInts (((ls.take j).filter fun x => !p x) ++ (mid ++ ls.drop j))).setN ((ls.take j).filter fun x => !p x).length (.val (.int .i64 ls[j])) = dInts (((ls.take j).filter fun x => !p x) ++ (ls[j] :: (mid.tail ++ ls.drop j))) := by
     rw [dInts_set, set_mid hmd]
    obtain ⟨v0, hnk⟩ : ∃ v0, (dInts (((ls.take j).filter fun x => !p x) ++ (mid ++ ls.drop j))).nth ((ls.take j).filter fun x => !p x).length = .val (.int .i64 v0) := ⟨_, dInts_nth (by simp; omega)⟩
    have hpos : 0 < mid.length + (ls.length - j) := by omega
    repeat first|refine n1 ?_|refine n4 ?_|refine n5 ?_|refine n6 ?_|((first|refine rg 6 [0, 1, 5, 6] [0, 1, 5, 6] [] ?_|refine rg 9 [0, 1, 5, 6, 7] [0, 1, 5, 6] [] ?_|refine rg 10 [0, 1, 5, 6] [0, 1, 5, 6] [] ?_|refine nc ?_);simp (maxSteps := 1000000) [hF, hp, hw1, hw2, hkl, hset, hnk, hpos])
    refine nextK.of [0, 1, 5, 6] [0, 1] (m - 1) (by omega) (by simp [hF]) ?_
    refine ⟨j + 1, mid.tail ++ [ls[j]], by omega, by rw [hf1]; simp; omega, by simp, ?_⟩
    rw [hf1, hd1]
    simp [dHB]
  ·have hjl : j = ls.length := by omega
   subst hjl
   rw [List.take_of_length_le (Nat.le_refl _)] at hk
   simp only [List.take_of_length_le (Nat.le_refl _), List.drop_of_length_le (Nat.le_refl _)] 
   have hkl : (ls.filter fun x => !p x).length ≤ ls.length := by omega
   have htk : ((dInts ((ls.filter fun x => !p x) ++ mid)).take (ls.filter fun x => !p x).length).app (sq (List.replicate (ls.length - (ls.filter fun x => !p x).length) (.val (.int .i64 0)))) = dInts ((ls.filter fun x => !p x) ++ List.replicate (ls.length - (ls.filter fun x => !p x).length) 0) := by
    have e : (dInts ((ls.filter fun x => !p x) ++ mid)).take (ls.filter fun x => !p x).length = dInts (ls.filter fun x => !p x) := by
     have := dInts_mid ((ls.filter fun x => !p x) ++ mid) 0 (ls.filter fun x => !p x).length
     simpa [T.mid, T.drop] using this
    have e2 : (sq (List.replicate (ls.length - (ls.filter fun x => !p x).length) (.val (.int .i64 0))) : D) = dInts (List.replicate (ls.length - (ls.filter fun x => !p x).length) 0) := by simp [dInts, dInt]
    rw [e, e2, dInts_app]
   repeat first|refine n1 ?_|refine n7 ?_|((first|refine rg 11 [0, 5] [0, 5] [] ?_|refine rg 12 [0, 5] [4] [] ?_);simp (maxSteps := 1000000) [hF, hkl, hk, htk])
   (try refine nr ?_);(repeat first|refine nb_ ?_|refine nl_ ?_);refine endK.o [4] [0, 1] [(0, [.i 0])] ?_;simp [hF, retK, covers, mpre, dHB, htk]
   exact ⟨_, rfl⟩
 ·have hix : ixF p ls = -1 := by rw [ixF, if_neg ha]
  have hfi : (ls.filter fun x => !p x) = ls := List.filter_eq_self.2 fun x hx => by
   cases hp : p x with
   | false => rfl
   | true => exact absurd (List.any_eq_true.2 ⟨x, hx, hp⟩) ha
  repeat first|refine n1 ?_|((first|refine rg 2 [0, 1, 5] [0, 1, 5, 12] [] ?_|refine rg 3 [0] [4] [] ?_|refine nc ?_);simp (maxSteps := 1000000) [hF, hix])
  refine VS.widen [(0, [.i 0])] (by simp [covers, mpre]) ?_
  (try refine nr ?_);(repeat first|refine nb_ ?_|refine nl_ ?_);refine endK.o [4] [0, 1] [(0, [.i 0])] ?_;simp [hF, retK, covers, mpre, dHB, hfi]
  cases ex with
  | false => exact .inl ⟨rfl, [], by simp⟩
  | true => exact .inr ⟨rfl, [], by simp⟩
theorem indexFunc_ds (ex : Bool) (ls : List Int) (hl : ls.length ≤ 100000000) (p : Int → Bool)
  (hg : ∀ i, (h : i < ls.length) → Meets Try.prog 97 [] (.cons (avInt ls[i]) .nil) fun av X κ => av = avBool (p ls[i]) ∧ X = [] ∧ κ = []) :
  Meets Try.prog 99 [.sl true () 1 (dInts ls)] (.cons (.sub 0 [] 0 ls.length ex) (.cons (.fn 97 .nil) .nil))
  fun av X κ => av = avInt (ixF p ls) ∧ X = [.sl true () 1 (dInts ls)] ∧ κ = [] := by
 refine fb Try.func99 Try.ntmps99 [.tmp 4] fun w0 I0 F0 hF => ?_
 repeat first|refine n1 ?_|refine n3 ?_|((first|refine rg 0 [0, 1] [0, 1] [] ?_|refine rg 1 [0, 1] [0, 1, 7, 8] [] ?_);simp (maxSteps := 1000000) [hF])
 refine VS.rounds (fun m st => ∃ (i : Nat), i + m = ls.length ∧ (∀ j, (h : j < ls.length) → j < i → p ls[j] = false) ∧ st = ⟨[(0, .sub 0 [] 0 ls.length ex), (1, .fn 97 .nil), (7, avInt ls.length), (8, avInt i)], [.sl true () 1 (dInts ls)], [], []⟩) ⟨ls.length, 0, by omega, by omega, by simp []⟩ ?_
 rintro m st ⟨i, hi, hall, rfl⟩
 repeat first|refine n1 ?_|((first|refine rg 2 [0, 1, 7, 8] [0, 1, 7, 8, 9] [] ?_|refine nc ?_);simp (maxSteps := 1000000) [hF])
 refine ⟨fun hlt => ?_, fun hge => ?_⟩
 ·have hi' : i < ls.length := by omega
  have hn := dInts_nth hi'
  repeat first|refine n1 ?_|refine n2 ?_|refine n3 ?_|((first|refine rg 3 [0, 1, 7, 8] [0, 1, 5, 7, 8] [] ?_|refine rg 4 [0, 1, 5, 7, 8] [0, 1, 5, 7, 8, 16] [] ?_);simp (maxSteps := 1000000) [hF, hn, hi'])
  refine (hg i hi').go [] (by simp (maxSteps := 1000000) [hF]) ?_;rintro av X κ ⟨rfl, rfl, rfl⟩;simp (maxSteps := 1000000) [hF]
  cases hp : p ls[i] with
  | true =>
   have hr : ixF p ls = i := ixF_hit hi' (fun j h => hall j (by omega) h) hp
   repeat first|refine n1 ?_|((first|refine rg 5 [5] [4] [] ?_|refine nc ?_);simp (maxSteps := 1000000) [hF, hp])
   (try refine nr ?_);(repeat first|refine nb_ ?_|refine nl_ ?_);refine endK.o [4] [0] [] ?_;simp [hF, retK, covers, mpre, hr]
  | false =>
   repeat first|refine n2 ?_|refine n4 ?_|refine n5 ?_|refine n6 ?_|((first|refine rg 6 [0, 1, 7, 8] [0, 1, 7, 8] [] ?_|refine nc ?_);simp (maxSteps := 1000000) [hF, hp])
   refine nextK.of [0, 1, 7, 8] [0] (m - 1) (by omega) (by simp [hF]) ?_
   refine ⟨i + 1, by omega, ?_, ?_⟩
   ·intro j hj hji
    rcases Nat.lt_or_ge j i with h' | h'
    ·exact hall j hj h'
    ·obtain rfl : j = i := by omega
     exact hp
   ·simp []
    exact IntWalk.i64_in _ (by omega)
 ·have hr : ixF p ls = -1 := ixF_miss (fun j h => hall j h (by omega))
  repeat first|refine n1 ?_|refine n7 ?_|(refine rg 7 [] [4] [] ?_;simp (maxSteps := 1000000) [hF])
  (try refine nr ?_);(repeat first|refine nb_ ?_|refine nl_ ?_);refine endK.o [4] [0] [] ?_;simp [hF, retK, covers, mpre, hr]
theorem deleteFunc_ds (ex : Bool) (ls : List Int) (hl : ls.length ≤ 100000000) (p : Int → Bool)
  (hg : ∀ i, (h : i < ls.length) → Meets Try.prog 97 [] (.cons (avInt ls[i]) .nil) fun av X κ => av = avBool (p ls[i]) ∧ X = [] ∧ κ = []) :
  Meets Try.prog 81 [.sl true () 1 (dInts ls)] (.cons (.sub 0 [] 0 ls.length ex) (.cons (.fn 97 .nil) .nil))
  fun av X κ => ∃ e z, (ex = false → e = false) ∧ av = .sub 0 [] 0 (ls.filter fun x => !p x).length e ∧ X = [.sl true () 1 (dInts ((ls.filter fun x => !p x) ++ z))] ∧ κ = [(0, [.i 0])] := by
 refine fb Try.func81 Try.ntmps81 [.tmp 4] fun w0 I0 F0 hF => ?_
 repeat first|refine n1 ?_|((first|refine rg 0 [0, 1] [0, 1] [] ?_|refine rg 1 [0, 1] [0, 1, 5] [] ?_);simp (maxSteps := 1000000) [hF])
 refine (indexFunc_ds ex ls hl p hg).go [(0, [])] (by simp (maxSteps := 1000000) [hF]) ?_;rintro av X κ ⟨rfl, rfl, rfl⟩;simp (maxSteps := 1000000) [hF]
 by_cases ha : ls.any p = true
 ·obtain ⟨i, hi, hix, hpi, hpre⟩ := ixF_some ha
  have hw : IntKind.i64.wrap ((i : Int) + 1) = (i + 1 : Nat) := by rw [IntWalk.i64_in _ (by omega)]; rfl
  have hti : (ls.take (i + 1)).filter (fun x => !p x) = ls.take i := by
   rw [List.take_add_one, List.filter_append, List.getElem?_eq_getElem hi]
   rw [List.filter_eq_self.2 fun x hx => by
    obtain ⟨j, hj, rfl⟩ := List.mem_take_iff_getElem.1 hx
    simpa using hpre j (by omega)]
   simp [hpi]
  repeat first|refine n1 ?_|refine n2 ?_|refine n3 ?_|((first|refine rg 2 [0, 1, 5] [0, 1, 5, 12] [] ?_|refine rg 4 [0, 1, 5] [0, 1, 5, 6] [] ?_|refine nc ?_);simp (maxSteps := 1000000) [hF, hix, hw])
  refine VS.rounds (fun m st => ∃ (j : Nat) (mid : List Int), j + m = ls.length ∧ ((ls.take j).filter fun x => !p x).length + mid.length = j ∧ 0 < mid.length ∧ st = ⟨[(0, .sub 0 [] 0 ls.length ex), (1, .fn 97 .nil), (5, avInt ((ls.take j).filter fun x => !p x).length), (6, avInt j)], [.sl true () 1 (dInts (((ls.take j).filter fun x => !p x) ++ mid ++ ls.drop j)), ], [], []⟩) ⟨ls.length - (i + 1), i + 1, [ls[i]], by omega, by rw [hti]; simp; omega, by simp, by
   rw [hti]
   have e : ls.take i ++ [ls[i]] ++ ls.drop (i + 1) = ls := by simp
   rw [e]
   simp [Nat.min_eq_left (Nat.le_of_lt hi), ]⟩ ?_
  rintro m st ⟨j, mid, hj, hk, hmd, rfl⟩
  repeat first|refine n1 ?_|((first|refine rg 5 [0, 1, 5, 6] [0, 1, 5, 6, 19] [] ?_|refine nc ?_);simp (maxSteps := 1000000) [hF])
  refine ⟨fun hlt => ?_, fun hge => ?_⟩
  ·have hn : (dInts (((ls.take j).filter fun x => !p x) ++ (mid ++ ls.drop j))).nth j = .val (.int .i64 ls[j]) := by
    rw [dInts_nth (by simp; omega)]
    have : (((ls.take j).filter fun x => !p x) ++ (mid ++ ls.drop j))[j]? = some ls[j] := by
     rw [List.getElem?_append_right (by omega), List.getElem?_append_right (by omega), List.getElem?_drop, List.getElem?_eq_getElem (by omega)]
     congr 2; omega
    rw [(List.getElem_eq_iff _).2 this]
   have hw1 : IntKind.i64.wrap ((j : Int) + 1) = (j + 1 : Nat) := by rw [IntWalk.i64_in _ (by omega)]; rfl
   have ht1 : ls.take (j + 1) = ls.take j ++ [ls[j]] := by rw [List.take_add_one, List.getElem?_eq_getElem hlt]; rfl
   have hd1 : ls.drop j = ls[j] :: ls.drop (j + 1) := List.drop_eq_getElem_cons hlt
   repeat first|refine n1 ?_|refine n2 ?_|refine n3 ?_|((first|refine rg 7 [0, 1, 5, 6] [0, 1, 5, 6, 7] [] ?_|refine rg 8 [0, 1, 5, 6, 7] [0, 1, 5, 6, 7, 29] [] ?_);simp (maxSteps := 1000000) [hF, hn, hlt])
   refine (hg j hlt).go [] (by simp (maxSteps := 1000000) [hF]) ?_;rintro av X κ ⟨rfl, rfl, rfl⟩;simp (maxSteps := 1000000) [hF]
   cases hp : p ls[j] with
   | true =>
    have hf1 : (ls.take (j + 1)).filter (fun x => !p x) = (ls.take j).filter (fun x => !p x) := by rw [ht1, List.filter_append]; simp [hp]
    repeat first|refine n2 ?_|refine n4 ?_|refine n5 ?_|refine n6 ?_|((first|refine rg 6 [0, 1, 5, 6] [0, 1, 5, 6] [] ?_|refine nc ?_);simp (maxSteps := 1000000) [hF, hp, hw1])
    refine nextK.of [0, 1, 5, 6] [0] (m - 1) (by omega) (by simp [hF]) ?_
    refine ⟨j + 1, mid ++ [ls[j]], by omega, by rw [hf1]; simp; omega, by simp, ?_⟩
    rw [hf1, hd1]
    simp []
   | false =>
    have hf1 : (ls.take (j + 1)).filter (fun x => !p x) = (ls.take j).filter (fun x => !p x) ++ [ls[j]] := by rw [ht1, List.filter_append]; simp [hp]
    have hw2 : IntKind.i64.wrap ((((ls.take j).filter fun x => !p x).length : Int) + 1) = (((ls.take j).filter fun x => !p x).length + 1 : Nat) := by rw [IntWalk.i64_in _ (by omega)]; rfl
    have hkl : ((ls.take j).filter fun x => !p x).length < ls.length := by omega
    have hset : (dInts (((ls.take j).filter fun x => !p x) ++ (mid ++ ls.drop j))).setN ((ls.take j).filter fun x => !p x).length (.val (.int .i64 ls[j])) = dInts (((ls.take j).filter fun x => !p x) ++ (ls[j] :: (mid.tail ++ ls.drop j))) := by
     rw [dInts_set, set_mid hmd]
    obtain ⟨v0, hnk⟩ : ∃ v0, (dInts (((ls.take j).filter fun x => !p x) ++ (mid ++ ls.drop j))).nth ((ls.take j).filter fun x => !p x).length = .val (.int .i64 v0) := ⟨_, dInts_nth (by simp; omega)⟩
    have hpos : 0 < mid.length + (ls.length - j) := by omega
    repeat first|refine n1 ?_|refine n4 ?_|refine n5 ?_|refine n6 ?_|((first|refine rg 6 [0, 1, 5, 6] [0, 1, 5, 6] [] ?_|refine rg 9 [0, 1, 5, 6, 7] [0, 1, 5, 6] [] ?_|refine rg 10 [0, 1, 5, 6] [0, 1, 5, 6] [] ?_|refine nc ?_);simp (maxSteps := 1000000) [hF, hp, hw1, hw2, hkl, hset, hnk, hpos])
    refine nextK.of [0, 1, 5, 6] [0] (m - 1) (by omega) (by simp [hF]) ?_
    refine ⟨j + 1, mid.tail ++ [ls[j]], by omega, by rw [hf1]; simp; omega, by simp, ?_⟩
    rw [hf1, hd1]
    simp []
  ·have hjl : j = ls.length := by omega
   subst hjl
   rw [List.take_of_length_le (Nat.le_refl _)] at hk
   simp only [List.take_of_length_le (Nat.le_refl _), List.drop_of_length_le (Nat.le_refl _)] 
   have hkl : (ls.filter fun x => !p x).length ≤ ls.length := by omega
   have htk : ((dInts ((ls.filter fun x => !p x) ++ mid)).take (ls.filter fun x => !p x).length).app (sq (List.replicate (ls.length - (ls.filter fun x => !p x).length) (.val (.int .i64 0)))) = dInts ((ls.filter fun x => !p x) ++ List.replicate (ls.length - (ls.filter fun x => !p x).length) 0) := by
    have e : (dInts ((ls.filter fun x => !p x) ++ mid)).take (ls.filter fun x => !p x).length = dInts (ls.filter fun x => !p x) := by
     have := dInts_mid ((ls.filter fun x => !p x) ++ mid) 0 (ls.filter fun x => !p x).length
     simpa [T.mid, T.drop] using this
    have e2 : (sq (List.replicate (ls.length - (ls.filter fun x => !p x).length) (.val (.int .i64 0))) : D) = dInts (List.replicate (ls.length - (ls.filter fun x => !p x).length) 0) := by simp [dInts, dInt]
    rw [e, e2, dInts_app]
   repeat first|refine n1 ?_|refine n7 ?_|((first|refine rg 11 [0, 5] [0, 5] [] ?_|refine rg 12 [0, 5] [4] [] ?_);simp (maxSteps := 1000000) [hF, hkl, hk, htk])
   (try refine nr ?_);(repeat first|refine nb_ ?_|refine nl_ ?_);refine endK.o [4] [0] [(0, [.i 0])] ?_;simp [hF, retK, covers, mpre, htk]
   exact ⟨_, rfl⟩
 ·have hix : ixF p ls = -1 := by rw [ixF, if_neg ha]
  have hfi : (ls.filter fun x => !p x) = ls := List.filter_eq_self.2 fun x hx => by
   cases hp : p x with
   | false => rfl
   | true => exact absurd (List.any_eq_true.2 ⟨x, hx, hp⟩) ha
  repeat first|refine n1 ?_|((first|refine rg 2 [0, 1, 5] [0, 1, 5, 12] [] ?_|refine rg 3 [0] [4] [] ?_|refine nc ?_);simp (maxSteps := 1000000) [hF, hix])
  refine VS.widen [(0, [.i 0])] (by simp [covers, mpre]) ?_
  (try refine nr ?_);(repeat first|refine nb_ ?_|refine nl_ ?_);refine endK.o [4] [0] [(0, [.i 0])] ?_;simp [hF, retK, covers, mpre, hfi]
  cases ex with
  | false => exact .inl ⟨rfl, [], by simp⟩
  | true => exact .inr ⟨rfl, [], by simp⟩
theorem own1_ok (h : Hs) (x : Nat) (hx : x < h.things.length) : Meets Try.prog 82 [dHB h] (.cons (avInt x) (.cons (.ptr 0 [.d]) .nil)) fun av X κ => av = avBool (!notSh h.things x) ∧ X = [dHB h] ∧ κ = [] := by
 have hn := dTgs_nth (o := false) hx
 have hw : IntKind.i64.wrap (-1) = -1 := by decide
 by_cases h1 : h.things[x].owner = -1
 ·have hc : notSh h.things x = false := by simp [notSh, hx, h1]
  refine fb Try.func82 Try.ntmps82 [.tmp 3] fun w0 I0 F0 hF => ?_
  repeat first|refine n1 ?_|((first|refine rg 0 [0, 1] [0, 1] [] ?_|refine rg 1 [0, 1] [3] [] ?_);simp (maxSteps := 1000000) [hF, dHB, dHI, hn, hx, h1])
  (try refine nr ?_);(repeat first|refine nb_ ?_|refine nl_ ?_);refine endK.o [3] [0] [] ?_;simp [hF, retK, covers, mpre, dHB, dHI, hc]
 ·have hc : notSh h.things x = true := by simp [notSh, hx, h1]
  refine fb Try.func82 Try.ntmps82 [.tmp 3] fun w0 I0 F0 hF => ?_
  repeat first|refine n1 ?_|((first|refine rg 0 [0, 1] [0, 1] [] ?_|refine rg 1 [0, 1] [3] [] ?_);simp (maxSteps := 1000000) [hF, dHB, dHI, hn, hx, h1])
  (try refine nr ?_);(repeat first|refine nb_ ?_|refine nl_ ?_);refine endK.o [3] [0] [] ?_;simp [hF, retK, covers, mpre, dHB, dHI, hc]
theorem reach_len {h : Hs} (hok : Hok h) {x : Nat} (hx : x < h.things.length) : (reachA h.things x).length ≤ 400 :=
 Nat.le_trans (nodup_len (reachA_nodup _ _) (reachA_valid hok.items ⟨by omega, by omega⟩)) hok.things
theorem reach_nat {h : Hs} (hok : Hok h) {x : Nat} (hx : x < h.things.length) {i : Nat} (hi : i < (reachA h.things x).length) : ∃ k : Nat, (reachA h.things x)[i] = k ∧ k < h.things.length := by
 have := reachA_valid hok.items (x := x) ⟨by omega, by omega⟩ _ (List.getElem_mem hi)
 exact ⟨(reachA h.things x)[i].toNat, by omega, by omega⟩
theorem own_ok (h : Hs) (hok : Hok h) (x : Nat) (hx : x < h.things.length) : Meets Try.prog 46 [] (.cons (avH h) (.cons (avInt x) .nil))
  fun av X κ => ∃ z, av = .sub 0 [] 0 (ownA h.things x).length false ∧ X = [.sl true () 1 (dInts (ownA h.things x ++ z))] ∧ κ = [] := by
 have hl := reach_len hok hx
 refine fb Try.func46 Try.ntmps46 [.tmp 4] fun w0 I0 F0 hF => ?_
 repeat first|refine n1 ?_|((first|refine rg 0 [0, 1] [1, 2] [] ?_|refine rg 1 [1, 2] [4] [] ?_);simp (maxSteps := 1000000) [hF])
 refine (reach_ok h hok x hx).go [] (by simp (maxSteps := 1000000) [hF]) ?_;rintro av X κ ⟨rfl, rfl, rfl⟩;simp (maxSteps := 1000000) [hF]
 refine (deleteFunc_os false (reachA h.things x) h (by omega) (fun y => !notSh h.things y) (fun i hi => by obtain ⟨k, e, hk⟩ := reach_nat hok hx hi; rw [e]; exact own1_ok h k hk)).go [(1, []), (0, [])] (by simp (maxSteps := 1000000) [hF, dHB]) ?_;rintro av X κ ⟨e, z, he, rfl, rfl, rfl⟩;simp (maxSteps := 1000000) [hF, dHB]
 obtain rfl := he rfl
 have hf : (reachA h.things x).filter (fun y => notSh h.things y) = ownA h.things x := rfl
 rw [hf]
 (try refine nr ?_);(repeat first|refine nb_ ?_|refine nl_ ?_);refine endK.o [4] [1] [] ?_;simp [hF, retK, covers, mpre, hf]
 exact ⟨_, rfl⟩
theorem shareable1_ok (h : Hs) (x : Nat) (hx : x < h.things.length) : Meets Try.prog 98 [dHB h] (.cons (avInt x) (.cons (.ptr 0 [.d]) .nil))
  fun av X κ => av = avBool (notSh h.things x && (gd h.things x).list && !(gd h.things x).frozen) ∧ X = [dHB h] ∧ κ = [] := by
 have hn := dTgs_nth (o := false) hx
 have hw : IntKind.i64.wrap (-1) = -1 := by decide
 by_cases h1 : h.things[x].owner = -1
 ·have hc : notSh h.things x = false := by simp [notSh, hx, h1]
  refine fb Try.func98 Try.ntmps98 [.tmp 3] fun w0 I0 F0 hF => ?_
  repeat first|refine n1 ?_|((first|refine rg 0 [0, 1] [0, 1] [] ?_|refine rg 1 [0, 1] [4] [] ?_|refine rg 2 [4] [3] [(3, 15), (7, 19)] ?_);simp (maxSteps := 1000000) [hF, dHB, dHI, hn, hx, h1])
  (try refine nr ?_);(repeat first|refine nb_ ?_|refine nl_ ?_);refine endK.o [3] [0] [] ?_;simp [hF, retK, covers, mpre, dHB, dHI, hc]
 ·have hc : notSh h.things x = true := by simp [notSh, hx, h1]
  cases h2 : h.things[x].list with
  | true =>
   rw [h2] at hn
   refine fb Try.func98 Try.ntmps98 [.tmp 3] fun w0 I0 F0 hF => ?_
   repeat first|refine n1 ?_|((first|refine rg 0 [0, 1] [0, 1] [] ?_|refine rg 1 [0, 1] [4] [] ?_|refine rg 2 [4] [3] [(3, 15), (7, 19)] ?_);simp (maxSteps := 1000000) [hF, dHB, dHI, hn, hx, h1])
   (try refine nr ?_);(repeat first|refine nb_ ?_|refine nl_ ?_);refine endK.o [3] [0] [] ?_;simp [hF, retK, covers, mpre, dHB, dHI, hc, hx, h2]
  | false =>
   rw [h2] at hn
   refine fb Try.func98 Try.ntmps98 [.tmp 3] fun w0 I0 F0 hF => ?_
   repeat first|refine n1 ?_|((first|refine rg 0 [0, 1] [0, 1] [] ?_|refine rg 1 [0, 1] [4] [] ?_|refine rg 2 [4] [3] [(3, 15), (7, 19)] ?_);simp (maxSteps := 1000000) [hF, dHB, dHI, hn, hx, h1])
   (try refine nr ?_);(repeat first|refine nb_ ?_|refine nl_ ?_);refine endK.o [3] [0] [] ?_;simp [hF, retK, covers, mpre, dHB, dHI, hc, hx, h2]
theorem shareable_ok (h : Hs) (hok : Hok h) (x : Nat) (hx : x < h.things.length) : Meets Try.prog 75 [] (.cons (avH h) (.cons (avInt x) .nil))
  fun av X κ => av = avBool (shbl h.things x) ∧ X = [] ∧ κ = [] := by
 have hl := reach_len hok hx
 have hb : (!(reachA h.things x).any fun y => notSh h.things y && (gd h.things y).list && !(gd h.things y).frozen) = shbl h.things x := by rw [shbl, ← any_not]; simp
 refine fb Try.func75 Try.ntmps75 [.tmp 4] fun w0 I0 F0 hF => ?_
 repeat first|refine n1 ?_|((first|refine rg 0 [0, 1] [1, 2] [] ?_|refine rg 1 [1, 2] [4] [] ?_);simp (maxSteps := 1000000) [hF])
 refine (reach_ok h hok x hx).go [] (by simp (maxSteps := 1000000) [hF]) ?_;rintro av X κ ⟨rfl, rfl, rfl⟩;simp (maxSteps := 1000000) [hF]
 refine (containsFunc_ss false (reachA h.things x) h (by omega) (fun y => notSh h.things y && (gd h.things y).list && !(gd h.things y).frozen) (fun i hi => by obtain ⟨k, e, hk⟩ := reach_nat hok hx hi; rw [e]; exact shareable1_ok h k hk)).go [(1, []), (0, [])] (by simp (maxSteps := 1000000) [hF, dHB]) ?_;rintro av X κ ⟨rfl, rfl, rfl⟩;simp (maxSteps := 1000000) [hF, dHB]
 rw [hb]
 (try refine nr ?_);(repeat first|refine nb_ ?_|refine nl_ ?_);refine endK.o [4] [] [] ?_;simp [hF, retK, covers, mpre, hb]
theorem sends_ok (h : Hs) (who to x : Int) : Meets Try.prog 45 [] (.cons (avH h) (.cons (avInt who) (.cons (avInt to) (.cons (avInt x) .nil))))
  fun av X κ => av = avInt (sendsOf h who to x) ∧ X = [] ∧ κ = [] := by
 refine fb Try.func45 Try.ntmps45 [.tmp 8] fun w0 I0 F0 hF => ?_
 repeat first|refine n1 ?_|refine n3 ?_|((first|refine rg 0 [0, 1, 2, 3] [0, 1, 2, 3] [] ?_|refine rg 1 [0, 1, 2, 3] [0, 1, 2, 3, 9] [(4, 14), (10, 20)] ?_);simp (maxSteps := 1000000) [hF])
 cases hw : isR h who with
 | false =>
  have hc : sendsOf h who to x = 1 := by simp [sendsOf, hw]
  refine (is_ok h who).go [] (by simp (maxSteps := 1000000) [hF, hw]) ?_;rintro av X κ ⟨rfl, rfl, rfl⟩;simp (maxSteps := 1000000) [hF, hw]
  repeat first|refine n1 ?_|((first|refine rg 2 [] [8] [] ?_|refine nc ?_);simp (maxSteps := 1000000) [hF])
  (try refine nr ?_);(repeat first|refine nb_ ?_|refine nl_ ?_);refine endK.o [8] [] [] ?_;simp [hF, retK, covers, mpre, hc]
 | true =>
  obtain ⟨w, rfl, hwl⟩ := isR_nat hw
  refine (is_ok h w).go [] (by simp (maxSteps := 1000000) [hF, hw]) ?_;rintro av X κ ⟨rfl, rfl, rfl⟩;simp (maxSteps := 1000000) [hF, hw]
  cases hto : isR h to with
  | false =>
   have hc : sendsOf h w to x = 1 := by simp [sendsOf, hto]
   refine (is_ok h to).go [] (by simp (maxSteps := 1000000) [hF, hto]) ?_;rintro av X κ ⟨rfl, rfl, rfl⟩;simp (maxSteps := 1000000) [hF, hto]
   repeat first|refine n1 ?_|((first|refine rg 2 [] [8] [] ?_|refine nc ?_);simp (maxSteps := 1000000) [hF])
   (try refine nr ?_);(repeat first|refine nb_ ?_|refine nl_ ?_);refine endK.o [8] [] [] ?_;simp [hF, retK, covers, mpre, hc]
  | true =>
   obtain ⟨t, rfl, htl⟩ := isR_nat hto
   refine (is_ok h t).go [] (by simp (maxSteps := 1000000) [hF, hto]) ?_;rintro av X κ ⟨rfl, rfl, rfl⟩;simp (maxSteps := 1000000) [hF, hto]
   cases hx : isT h x with
   | false =>
    have hc : sendsOf h w t x = 1 := by simp [sendsOf, hx]
    refine (has_s1 h true x).go [(0, [])] (by simp (maxSteps := 1000000) [hF, hx]) ?_;rintro av X κ ⟨rfl, rfl, rfl⟩;simp (maxSteps := 1000000) [hF, hx]
    repeat first|refine n1 ?_|((first|refine rg 2 [] [8] [] ?_|refine nc ?_);simp (maxSteps := 1000000) [hF])
    (try refine nr ?_);(repeat first|refine nb_ ?_|refine nl_ ?_);refine endK.o [8] [] [] ?_;simp [hF, retK, covers, mpre, hc]
   | true =>
    obtain ⟨k, rfl, hk⟩ := isT_nat hx
    have hn1 := dRms_nth (o := false) hwl
    have hn2 := dRms_nth (o := false) htl
    have hov1 : overB h w = h.rooms[w].over := by simp [overB, hwl]
    have hov2 : overB h t = h.rooms[t].over := by simp [overB, htl]
    cases ho1 : h.rooms[w].over with
    | true =>
     have hc : sendsOf h w t k = 8 := by simp [sendsOf, hw, hto, hx, hov1, ho1]
     rw [ho1] at hn1
     refine (has_s1 h true k).go [(0, [])] (by simp (maxSteps := 1000000) [hF, hx]) ?_;rintro av X κ ⟨rfl, rfl, rfl⟩;simp (maxSteps := 1000000) [hF, hx]
     repeat first|refine n1 ?_|((first|refine rg 3 [0, 1, 2, 3] [0, 1, 2, 3, 27] [(8, 36)] ?_|refine rg 4 [] [8] [] ?_|refine nc ?_);simp (maxSteps := 1000000) [hF, dHI, hn1, hwl])
     (try refine nr ?_);(repeat first|refine nb_ ?_|refine nl_ ?_);refine endK.o [8] [] [] ?_;simp [hF, retK, covers, mpre, hc]
    | false =>
     rw [ho1] at hn1
     cases ho2 : h.rooms[t].over with
     | true =>
      have hc : sendsOf h w t k = 8 := by simp [sendsOf, hw, hto, hx, hov2, ho2]
      rw [ho2] at hn2
      refine (has_s1 h true k).go [(0, [])] (by simp (maxSteps := 1000000) [hF, hx]) ?_;rintro av X κ ⟨rfl, rfl, rfl⟩;simp (maxSteps := 1000000) [hF, hx]
      repeat first|refine n1 ?_|((first|refine rg 3 [0, 1, 2, 3] [0, 1, 2, 3, 27] [(8, 36)] ?_|refine rg 4 [] [8] [] ?_|refine nc ?_);simp (maxSteps := 1000000) [hF, dHI, hn1, hwl, hn2, htl])
      (try refine nr ?_);(repeat first|refine nb_ ?_|refine nl_ ?_);refine endK.o [8] [] [] ?_;simp [hF, retK, covers, mpre, hc]
     | false =>
      rw [ho2] at hn2
      refine (has_s1 h true k).go [(0, [])] (by simp (maxSteps := 1000000) [hF, hx]) ?_;rintro av X κ ⟨rfl, rfl, rfl⟩;simp (maxSteps := 1000000) [hF, hx]
      repeat first|refine n1 ?_|((first|refine rg 3 [0, 1, 2, 3] [0, 1, 2, 3, 27] [(8, 36)] ?_|refine rg 5 [0, 1, 2, 3] [0, 2, 46] [] ?_|refine nc ?_);simp (maxSteps := 1000000) [hF, dHI, hn1, hwl, hn2, htl])
      cases hs : seesB h w k with
      | false =>
       have hc : sendsOf h w t k = 3 := by simp [sendsOf, hw, hto, hx, hov1, ho1, hov2, ho2, hs]
       refine (sees_ok h w k hk).go [] (by simp (maxSteps := 1000000) [hF, hs, dHI]) ?_;rintro av X κ ⟨rfl, rfl, rfl⟩;simp (maxSteps := 1000000) [hF, hs, dHI]
       repeat first|refine n1 ?_|((first|refine rg 6 [] [8] [] ?_|refine nc ?_);simp (maxSteps := 1000000) [hF, hs])
       (try refine nr ?_);(repeat first|refine nb_ ?_|refine nl_ ?_);refine endK.o [8] [] [] ?_;simp [hF, retK, covers, mpre, hc]
      | true =>
       refine (sees_ok h w k hk).go [] (by simp (maxSteps := 1000000) [hF, hs, dHI]) ?_;rintro av X κ ⟨rfl, rfl, rfl⟩;simp (maxSteps := 1000000) [hF, hs, dHI]
       by_cases hq : 50 ≤ h.rooms[t].queue.length
       ·have hc : sendsOf h w t k = 9 := by simp [sendsOf, hw, hto, hx, hov1, ho1, hov2, ho2, hs, htl, hq]
        have hqi : (50 : Int) ≤ h.rooms[t].queue.length := by omega
        repeat first|refine n1 ?_|((first|refine rg 7 [0, 2] [52] [] ?_|refine rg 8 [] [8] [] ?_|refine nc ?_);simp (maxSteps := 1000000) [hF, hs, dHI, hn2, htl, hqi])
        (try refine nr ?_);(repeat first|refine nb_ ?_|refine nl_ ?_);refine endK.o [8] [] [] ?_;simp [hF, retK, covers, mpre, hc]
       ·have hc : sendsOf h w t k = 0 := by simp [sendsOf, hw, hto, hx, hov1, ho1, hov2, ho2, hs, htl, hq]
        have hqi : ¬ (50 : Int) ≤ h.rooms[t].queue.length := by omega
        repeat first|refine n1 ?_|refine n2 ?_|refine n4 ?_|((first|refine rg 7 [0, 2] [52] [] ?_|refine rg 9 [] [8] [] ?_|refine nc ?_);simp (maxSteps := 1000000) [hF, hs, dHI, hn2, htl, hqi])
        (try refine nr ?_);(repeat first|refine nb_ ?_|refine nl_ ?_);refine endK.o [8] [] [] ?_;simp [hF, retK, covers, mpre, hc]
theorem tied1_ok (l : List Int) (hl : l.length ≤ 100000000) (x : Int) : Meets Try.prog 84 [dBox l] (.cons (avInt x) (.cons (.ptr 0 [.d]) .nil)) fun av X κ => av = avBool (hasN l x) ∧ X = [dBox l] ∧ κ = [] := by
 refine fb Try.func84 Try.ntmps84 [.tmp 3] fun w0 I0 F0 hF => ?_
 repeat first|refine n1 ?_|((first|refine rg 0 [0, 1] [0, 1] [] ?_|refine rg 1 [0, 1] [3] [] ?_);simp (maxSteps := 1000000) [hF, dBox])
 refine (contains_ok false l x hl).go [] (by simp (maxSteps := 1000000) [hF]) ?_;rintro av X κ ⟨rfl, rfl, rfl⟩;simp (maxSteps := 1000000) [hF]
 (try refine nr ?_);(repeat first|refine nb_ ?_|refine nl_ ?_);refine endK.o [3] [0] [] ?_;simp [hF, retK, covers, mpre, dBox]
theorem tied2_ok (l : List Int) (hl : l.length ≤ 100000000) (x : Int) : Meets Try.prog 85 [dBox l] (.cons (avInt x) (.cons (.ptr 0 [.d]) .nil)) fun av X κ => av = avBool (hasN l x) ∧ X = [dBox l] ∧ κ = [] := by
 refine fb Try.func85 Try.ntmps85 [.tmp 3] fun w0 I0 F0 hF => ?_
 repeat first|refine n1 ?_|((first|refine rg 0 [0, 1] [0, 1] [] ?_|refine rg 1 [0, 1] [3] [] ?_);simp (maxSteps := 1000000) [hF, dBox])
 refine (contains_ok false l x hl).go [] (by simp (maxSteps := 1000000) [hF]) ?_;rintro av X κ ⟨rfl, rfl, rfl⟩;simp (maxSteps := 1000000) [hF]
 (try refine nr ?_);(repeat first|refine nb_ ?_|refine nl_ ?_);refine endK.o [3] [0] [] ?_;simp [hF, retK, covers, mpre, dBox]
theorem tied_i (h : Hs) (hok : Hok h) (who : Nat) (hw : who < h.rooms.length) (l : List Int) (e : Bool) (hl : l.length ≤ 400) : Meets Try.prog 51 [] (.cons (avH h) (.cons (avInt who) (.cons (.imm 1 (dInts l) e) .nil)))
  fun av X κ => av = avBool (tiedOf h who l) ∧ X = [] ∧ κ = [] := by
 have hbd := hok.things
 refine fb Try.func51 Try.ntmps51 [.tmp 6] fun w0 I0 F0 hF => ?_
 repeat first|refine n1 ?_|refine n3 ?_|((first|refine rg 0 [0, 1, 2] [0, 1, 5] [] ?_|refine rg 1 [0, 1, 5] [0, 1, 5, 12, 13, 14] [] ?_);simp (maxSteps := 1000000) [hF, dHI])
 refine VS.rounds (fun m st => ∃ (i : Nat), i + m = h.things.length ∧ (∀ y, y < i → tiedAt h who l y = false) ∧ st = ⟨[(0, avH h), (1, avInt who), (5, .ptr 0 [.d]), (12, .imm 5 (dTgs false h.things) false), (13, avInt h.things.length), (14, avInt i)], [dBox l], [], []⟩) ⟨h.things.length, 0, by omega, by omega, by simp [dBox, dHI]⟩ ?_
 rintro m st ⟨i, hi, hall, rfl⟩
 repeat first|refine n1 ?_|((first|refine rg 2 [0, 1, 5, 12, 13, 14] [0, 1, 5, 12, 13, 14, 15] [] ?_|refine nc ?_);simp (maxSteps := 1000000) [hF])
 refine ⟨fun hlt => ?_, fun hge => ?_⟩
 ·have hn := dTgs_nth (o := false) hlt
  have hil := hok.few _ (List.getElem_mem hlt)
  have hw1 : IntKind.i64.wrap ((i : Int) + 1) = (i + 1 : Nat) := by rw [IntWalk.i64_in _ (by omega)]; rfl
  by_cases ho : h.things[i].owner = who
  ·repeat first|refine n1 ?_|refine n2 ?_|refine n3 ?_|(refine rg 3 [0, 1, 5, 12, 13, 14] [0, 1, 5, 7, 8, 12, 13, 14] [] ?_;simp (maxSteps := 1000000) [hF, hn, hlt])
   repeat first|(refine rg 4 [0, 1, 5, 7, 8, 12, 13, 14] [0, 1, 5, 12, 13, 14, 34] [(4, 23), (10, 29)] ?_;simp (maxSteps := 1000000) [hF, hn, hlt, ho, dBox])
   cases hc : hasN l (i : Int) with
   | true =>
    have ht : tiedAt h who l i = false := by simp [tiedAt, hc]
    refine (contains_ok false l i (by omega)).go [] (by simp (maxSteps := 1000000) [hF, hc]) ?_;rintro av X κ ⟨rfl, rfl, rfl⟩;simp (maxSteps := 1000000) [hF, hc]
    repeat first|refine n2 ?_|refine n4 ?_|refine n5 ?_|refine n6 ?_|((first|refine rg 6 [0, 1, 5, 12, 13, 14] [0, 1, 5, 12, 13, 14] [] ?_|refine nc ?_);simp (maxSteps := 1000000) [hF, hc, hw1])
    refine nextK.of [0, 1, 5, 12, 13, 14] [0] (m - 1) (by omega) (by simp [hF]) ?_
    refine ⟨i + 1, by omega, fun y hy => ?_, by simp [dBox]⟩
    rcases Nat.lt_or_ge y i with h' | h'
    ·exact hall y h'
    ·obtain rfl : y = i := by omega
     exact ht
   | false =>
    refine (contains_ok false l i (by omega)).go [] (by simp (maxSteps := 1000000) [hF, hc]) ?_;rintro av X κ ⟨rfl, rfl, rfl⟩;simp (maxSteps := 1000000) [hF, hc]
    have htt : tiedAt h who l i = h.things[i].items.any (hasN l) := by simp [tiedAt, hc, hlt, ho]
    refine (containsFunc_ti false h.things[i].items l (by omega) (hasN l) (fun j hj => tied1_ok l (by omega) _)).go [(0, [])] (by simp (maxSteps := 1000000) [hF, dBox]) ?_;rintro av X κ ⟨rfl, rfl, rfl⟩;simp (maxSteps := 1000000) [hF, dBox]
    cases ha : h.things[i].items.any (hasN l) with
    | true =>
     have hc2 : tiedOf h who l = true := by
      have : (List.range h.things.length).any (tiedAt h who l) = true := List.any_eq_true.2 ⟨i, by simpa using hlt, by rw [htt, ha]⟩
      simp [tiedOf, this]
     repeat first|refine n1 ?_|((first|refine rg 5 [] [6] [] ?_|refine nc ?_);simp (maxSteps := 1000000) [hF, ha])
     (try refine nr ?_);(repeat first|refine nb_ ?_|refine nl_ ?_);refine endK.o [6] [] [] ?_;simp [hF, retK, covers, mpre, hc2]
    | false =>
     repeat first|refine n2 ?_|refine n4 ?_|refine n5 ?_|refine n6 ?_|((first|refine rg 6 [0, 1, 5, 12, 13, 14] [0, 1, 5, 12, 13, 14] [] ?_|refine nc ?_);simp (maxSteps := 1000000) [hF, ha, hw1])
     refine nextK.of [0, 1, 5, 12, 13, 14] [0] (m - 1) (by omega) (by simp [hF]) ?_
     refine ⟨i + 1, by omega, fun y hy => ?_, by simp [dBox]⟩
     rcases Nat.lt_or_ge y i with h' | h'
     ·exact hall y h'
     ·obtain rfl : y = i := by omega
      rw [htt, ha]
  ·have ht : tiedAt h who l i = false := by simp [tiedAt, hlt, ho]
   repeat first|refine n1 ?_|refine n2 ?_|refine n3 ?_|refine n4 ?_|refine n5 ?_|refine n6 ?_|((first|refine rg 3 [0, 1, 5, 12, 13, 14] [0, 1, 5, 7, 8, 12, 13, 14] [] ?_|refine rg 4 [0, 1, 5, 7, 8, 12, 13, 14] [0, 1, 5, 12, 13, 14, 34] [(4, 23), (10, 29)] ?_|refine rg 6 [0, 1, 5, 12, 13, 14] [0, 1, 5, 12, 13, 14] [] ?_|refine nc ?_);simp (maxSteps := 1000000) [hF, hn, hlt, ho, hw1])
   refine nextK.of [0, 1, 5, 12, 13, 14] [0] (m - 1) (by omega) (by simp [hF]) ?_
   refine ⟨i + 1, by omega, fun y hy => ?_, by simp [dBox]⟩
   rcases Nat.lt_or_ge y i with h' | h'
   ·exact hall y h'
   ·obtain rfl : y = i := by omega
    exact ht
 ·have hr : (List.range h.things.length).any (tiedAt h who l) = false := by
   rw [List.any_eq_false]
   intro y hy
   rw [hall y (by rw [List.mem_range] at hy; omega)]; simp
  have hn := dRms_nth (o := false) hw
  have hql := (hok.queues _ (List.getElem_mem hw)).1
  have hc : tiedOf h who l = h.rooms[who].queue.any (hasN l) := by simp [tiedOf, hr, hw]
  repeat first|refine n1 ?_|refine n7 ?_|(refine rg 7 [0, 1, 5] [6] [] ?_;simp (maxSteps := 1000000) [hF, dHI, hn, hw])
  refine (containsFunc_ui false h.rooms[who].queue l (by omega) (hasN l) (fun j hj => tied2_ok l (by omega) _)).go [(0, [])] (by simp (maxSteps := 1000000) [hF, dBox]) ?_;rintro av X κ ⟨rfl, rfl, rfl⟩;simp (maxSteps := 1000000) [hF, dBox]
  (try refine nr ?_);(repeat first|refine nb_ ?_|refine nl_ ?_);refine endK.o [6] [] [] ?_;simp [hF, retK, covers, mpre, hc]
def dCl (c : Cl) : D := .agg (.cons (.val (.int .i64 (if c.list = true then 6 else 3))) (.cons (.val (.int .i64 c.word)) (.cons (.val (.string ⟨#[]⟩)) (.cons (.sl true () 1 .nil) (.cons (.sl true () 1 (dInts c.items)) .nil)))))
def dCls (l : List Cl) : D := sq (l.map dCl)
@[simp] theorem dCls_len (l : List Cl) : (dCls l).len = l.length := by simp [dCls]
theorem own_sq {l : List D} (h : ∀ x ∈ l, x.allOwn = true) : (sq l).allOwn = true := by
 induction l with
 | nil => rfl
 | cons a l ih => simp [sq, T.allOwn, h a (by simp), ih fun x hx => h x (by simp [hx])]
@[simp] theorem own_ints (l : List Int) : (dInts l).allOwn = true := own_sq fun x hx => by obtain ⟨n, _, rfl⟩ := List.mem_map.1 hx; rfl
theorem chillH {h : Hs} {t : AV} : (AV.cons (.ptr 0 [.d]) t).chilled (dH h) = .cons (avH h) (t.chilled (dH h)) := by
 obtain ⟨d, h1, h2⟩ := freeze_h h
 rw [AV.chilled]
 congr 1
 rw [h1, AV.chilled, h2]
theorem warmH {f : FuncId} {h : Hs} {Y Z : List D} {t t0 a a' : AV} (hm : Meets Try.prog f Y (.cons (avH h) t0) fun av X κ => av = a ∧ X = Z ∧ κ = []) (ht : t.chilled (dH h) = t0) (ha : a.plain = true) (hZ : ∀ x ∈ Z, x.allOwn = true) (he : a.emb [] 1 = a') :
  Meets Try.prog f (dH h :: Y) (.cons (.ptr 0 [.d]) t) fun av X κ => av = a' ∧ X = dH h :: Z ∧ κ = [] := by
 have e : (AV.cons (.ptr 0 [.d]) t).chilled (dH h) = .cons (avH h) t0 := by rw [chillH, ht]
 refine Meets.mono (Meets.warm (d0 := dH h) (Y := Y) (t := .cons (.ptr 0 [.d]) t) (by rw [e]; exact hm) ?_) ?_
 ·rintro av X κ ⟨rfl, rfl, rfl⟩
  exact ⟨ha, hZ, rfl⟩
 ·rintro av X κ ⟨av0, X0, ⟨rfl, rfl, _⟩, rfl, rfl, rfl⟩
  exact ⟨he, rfl, rfl⟩
theorem is_c (h : Hs) (who : Int) : Meets Try.prog 50 [dH h] (.cons (.ptr 0 [.d]) (.cons (avInt who) .nil)) fun av X κ => av = avBool (isR h who) ∧ X = [dH h] ∧ κ = [] :=
 warmH (is_ok h who) rfl rfl (by simp) rfl
theorem has_c1 (h : Hs) (ex : Bool) (x : Int) : Meets Try.prog 41 [dH h, .sl true () 1 (.cons (.val (.int .i64 x)) .nil)] (.cons (.ptr 0 [.d]) (.cons (.sub 1 [] 0 1 ex) .nil))
  fun av X κ => av = avBool (isT h x) ∧ X = [dH h, .sl true () 1 (.cons (.val (.int .i64 x)) .nil)] ∧ κ = [] :=
 warmH (has_s1 h ex x) rfl rfl (by simp [T.allOwn]) rfl
theorem ask_c1 (h : Hs) (who : Int) (ex : Bool) (x : Int) : Meets Try.prog 42 [dH h, .sl true () 1 (.cons (.val (.int .i64 x)) .nil)] (.cons (.ptr 0 [.d]) (.cons (avInt who) (.cons (.sub 1 [] 0 1 ex) .nil)))
  fun av X κ => av = avInt (askOf h who [x]) ∧ X = [dH h, .sl true () 1 (.cons (.val (.int .i64 x)) .nil)] ∧ κ = [] :=
 warmH (ask_s1 h who ex x) rfl rfl (by simp [T.allOwn]) rfl
theorem ask_c2 (h : Hs) (who : Int) (ex : Bool) (x y : Int) : Meets Try.prog 42 [dH h, .sl true () 1 (.cons (.val (.int .i64 x)) (.cons (.val (.int .i64 y)) .nil))] (.cons (.ptr 0 [.d]) (.cons (avInt who) (.cons (.sub 1 [] 0 2 ex) .nil)))
  fun av X κ => av = avInt (askOf h who [x, y]) ∧ X = [dH h, .sl true () 1 (.cons (.val (.int .i64 x)) (.cons (.val (.int .i64 y)) .nil))] ∧ κ = [] := by
 have h1 := ask_s h who ex [x, y] (by simp)
 have h2 : Meets Try.prog 42 [.sl true () 1 (.cons (.val (.int .i64 x)) (.cons (.val (.int .i64 y)) .nil))] (.cons (avH h) (.cons (avInt who) (.cons (.sub 0 [] 0 2 ex) .nil)))
  fun av X κ => av = avInt (askOf h who [x, y]) ∧ X = [.sl true () 1 (.cons (.val (.int .i64 x)) (.cons (.val (.int .i64 y)) .nil))] ∧ κ = [] := by simpa [dInts, sq, dInt] using h1
 exact warmH h2 rfl rfl (by simp [T.allOwn]) rfl
theorem ask_ci (h : Hs) (who : Int) (ex : Bool) (l : List Int) (hl : l.length ≤ 100000000) : Meets Try.prog 42 [dH h] (.cons (.ptr 0 [.d]) (.cons (avInt who) (.cons (.imm 1 (dInts l) ex) .nil)))
  fun av X κ => av = avInt (askOf h who l) ∧ X = [dH h] ∧ κ = [] :=
 warmH (ask_i h who ex l hl) rfl rfl (by simp) rfl
theorem ask_n (h : Hs) (who : Int) : Meets Try.prog 42 [] (.cons (avH h) (.cons (avInt who) (.cons (.nils 1) .nil)))
  fun av X κ => av = avInt (askOf h who []) ∧ X = [] ∧ κ = [] := Meets.nilled (ask_i h who true [] (by simp))
theorem ask_cn (h : Hs) (who : Int) : Meets Try.prog 42 [dH h] (.cons (.ptr 0 [.d]) (.cons (avInt who) (.cons (.nils 1) .nil)))
  fun av X κ => av = avInt (askOf h who []) ∧ X = [dH h] ∧ κ = [] :=
 warmH (ask_n h who) rfl rfl (by simp) rfl
theorem index_c (h : Hs) (x i : Int) : Meets Try.prog 63 [dH h] (.cons (.ptr 0 [.d]) (.cons (avInt x) (.cons (avInt i) .nil))) fun av X κ => av = avInt (indexOf h x i) ∧ X = [dH h] ∧ κ = [] :=
 warmH (hindex_ok h x i) rfl rfl (by simp) rfl
theorem get_c (h : Hs) (who x i : Int) : Meets Try.prog 22 [dH h] (.cons (.ptr 0 [.d]) (.cons (avInt who) (.cons (avInt x) (.cons (avInt i) .nil)))) fun av X κ => av = two (getOf h who x i) ∧ X = [dH h] ∧ κ = [] :=
 warmH (get_ok h who x i) rfl rfl (by simp) rfl
theorem reach_c (h : Hs) (hok : Hok h) (x : Nat) (hx : x < h.things.length) : Meets Try.prog 43 [dH h] (.cons (.ptr 0 [.d]) (.cons (avInt x) .nil))
  fun av X κ => av = .sub 1 [] 0 (reachA h.things x).length false ∧ X = [dH h, .sl true () 1 (dInts (reachA h.things x))] ∧ κ = [] :=
 warmH (reach_ok h hok x hx) rfl rfl (by simp [T.allOwn]) rfl
theorem shareable_c (h : Hs) (hok : Hok h) (x : Nat) (hx : x < h.things.length) : Meets Try.prog 75 [dH h] (.cons (.ptr 0 [.d]) (.cons (avInt x) .nil)) fun av X κ => av = avBool (shbl h.things x) ∧ X = [dH h] ∧ κ = [] :=
 warmH (shareable_ok h hok x hx) rfl rfl (by simp) rfl
theorem sends_c (h : Hs) (who to x : Int) : Meets Try.prog 45 [dH h] (.cons (.ptr 0 [.d]) (.cons (avInt who) (.cons (avInt to) (.cons (avInt x) .nil)))) fun av X κ => av = avInt (sendsOf h who to x) ∧ X = [dH h] ∧ κ = [] :=
 warmH (sends_ok h who to x) rfl rfl (by simp) rfl
theorem own_c (h : Hs) (hok : Hok h) (x : Nat) (hx : x < h.things.length) : Meets Try.prog 46 [dH h] (.cons (.ptr 0 [.d]) (.cons (avInt x) .nil))
  fun av X κ => ∃ z, av = .sub 1 [] 0 (ownA h.things x).length false ∧ X = [dH h, .sl true () 1 (dInts (ownA h.things x ++ z))] ∧ κ = [] := by
 have e : (AV.cons (.ptr 0 [.d]) (.cons (avInt x) .nil)).chilled (dH h) = .cons (avH h) (.cons (avInt x) .nil) := by rw [chillH]; rfl
 refine Meets.mono (Meets.warm (d0 := dH h) (Y := []) (t := .cons (.ptr 0 [.d]) (.cons (avInt x) .nil)) (by rw [e]; exact own_ok h hok x hx) ?_) ?_
 ·rintro av X κ ⟨z, rfl, rfl, rfl⟩
  exact ⟨rfl, by simp [T.allOwn], rfl⟩
 ·rintro av X κ ⟨av0, X0, ⟨z, rfl, rfl, _⟩, rfl, rfl, rfl⟩
  exact ⟨z, rfl, rfl, rfl⟩
theorem tied_c (h : Hs) (hok : Hok h) (who : Nat) (hw : who < h.rooms.length) (l z : List Int) (ex : Bool) (hl : l.length ≤ 400) : Meets Try.prog 51 [dH h, .sl true () 1 (dInts (l ++ z))] (.cons (.ptr 0 [.d]) (.cons (avInt who) (.cons (.sub 1 [] 0 l.length ex) .nil)))
  fun av X κ => av = avBool (tiedOf h who l) ∧ X = [dH h, .sl true () 1 (dInts (l ++ z))] ∧ κ = [] := by
 have hm : (dInts (l ++ z)).mid 0 l.length = dInts l := by rw [dInts_mid]; simp
 have e : (AV.cons (avH h) (.cons (avInt who) (.cons (.sub 0 [] 0 l.length ex) .nil))).chilled (.sl true () 1 (dInts (l ++ z))) = .cons (avH h) (.cons (avInt who) (.cons (.imm 1 (dInts l) ex) .nil)) := by
  simp only [AV.chilled, hm, freeze_ints]
 have h1 : Meets Try.prog 51 [.sl true () 1 (dInts (l ++ z))] (.cons (avH h) (.cons (avInt who) (.cons (.sub 0 [] 0 l.length ex) .nil)))
   fun av X κ => av = avBool (tiedOf h who l) ∧ X = [.sl true () 1 (dInts (l ++ z))] ∧ κ = [] := by
  refine Meets.mono (Meets.warm (Y := []) (by rw [e]; exact tied_i h hok who hw l ex hl) ?_) ?_
  ·rintro av X κ ⟨rfl, rfl, rfl⟩
   exact ⟨rfl, by simp, rfl⟩
  ·rintro av X κ ⟨av0, X0, ⟨rfl, rfl, _⟩, rfl, rfl, rfl⟩
   exact ⟨rfl, rfl, rfl⟩
 exact warmH h1 rfl rfl (by simp [T.allOwn]) rfl
theorem tg_app (L : List Tg) (o : Int) (l : Bool) (w : Int) (its : List Int) (f : Bool) : (dTgs true L).app (.cons (.agg (.cons (.val (.int .i64 o)) (.cons (.val (.bool l)) (.cons (.val (.int .i64 w)) (.cons (.sl true () 1 (dInts its)) (.cons (.val (.bool f)) .nil)))))) .nil) = dTgs true (L ++ [⟨o, l, w, its, f⟩]) := dTgs_push true L ⟨o, l, w, its, f⟩
theorem tgs_mid (L : List Tg) (t : Tg) : (dTgs true (L ++ [t])).mid 0 (L.length + 1) = dTgs true (L ++ [t]) := by
 have := dTgs_mid_all true (L ++ [t])
 simpa using this
theorem add_l (h : Hs) (hl : h.things.length ≤ 400) (o : Int) (l : Bool) (w : Int) (its : List Int) (f : Bool) : Meets Try.prog 74 [dH h, .sl true () 1 (dInts its)]
  (.cons (.ptr 0 [.d]) (.cons (.agg (.cons (avInt o) (.cons (avBool l) (.cons (avInt w) (.cons (.sub 1 [] 0 its.length false) (.cons (avBool f) .nil)))))) .nil))
  fun av X κ => av = two (addOf h ⟨o, l, w, its, f⟩).2 ∧ X = [dH (addOf h ⟨o, l, w, its, f⟩).1, .junk ()] ∧ κ = [(0, [.d]), (1, [])] := by
 have hp := tg_app h.things o l w its f
 have hm := tgs_mid h.things ⟨o, l, w, its, f⟩
 have him : (dInts its).mid 0 its.length = dInts its := by simp
 by_cases hf : (400 : Int) ≤ h.things.length
 ·have hf' : 400 ≤ h.things.length := by omega
  have hc : addOf h ⟨o, l, w, its, f⟩ = (h, 0, 9) := by simp [addOf, hf']
  refine fb Try.func74 Try.ntmps74 [.tmp 4, .tmp 5] fun w0 I0 F0 hF => ?_
  refine ghostL 1 [] ?_;simp (maxSteps := 1000000) [hF, St.lift, AV.lift, liftPl, stripP, nodeAV, isNode]
  repeat first|refine n1 ?_|((first|refine rg 0 [0, 1] [0, 3] [] ?_|refine rg 1 [0, 3] [0, 3, 11] [] ?_|refine rg 2 [] [4, 5] [] ?_|refine nc ?_);simp (maxSteps := 1000000) [hF, dH, hf])
  refine VS.widen [(0, [.d]), (1, [])] (by simp [covers, mpre]) ?_
  (try refine nr ?_);(repeat first|refine nb_ ?_|refine nl_ ?_);refine endK.o [4, 5] [0, 1] [(0, [.d]), (1, [])] ?_;simp [hF, retK, covers, mpre, dH, hc]
 ·have hf' : ¬ 400 ≤ h.things.length := by omega
  have hc : addOf h ⟨o, l, w, its, f⟩ = ({ h with things := h.things ++ [(⟨o, l, w, its, f⟩ : Tg)] }, (h.things.length : Int), 0) := by simp [addOf, hf']
  refine fb Try.func74 Try.ntmps74 [.tmp 4, .tmp 5] fun w0 I0 F0 hF => ?_
  refine ghostL 1 [] ?_;simp (maxSteps := 1000000) [hF, St.lift, AV.lift, liftPl, stripP, nodeAV, isNode]
  repeat first|refine n1 ?_|refine n2 ?_|((first|refine rg 0 [0, 1] [0, 3] [] ?_|refine rg 1 [0, 3] [0, 3, 11] [] ?_|refine nc ?_);simp (maxSteps := 1000000) [hF, dH, hf])
  have c1 : (h.things.length + 1) * 56 ≤ 140737488355328 := by omega
  have c2 : h.things.length ≤ 9223372036854775806 := by omega
  have hw : IntKind.i64.wrap ((h.things.length : Int) + 1 - 1) = h.things.length := by rw [IntWalk.i64_in _ (by omega)]; omega
  have hw' : IntKind.i64.wrap (h.things.length : Int) = h.things.length := IntWalk.i64_in _ (by omega)
  refine ghostL 3 [.d, .f 3] ?_;simp (maxSteps := 1000000) [hF, St.lift, AV.lift, liftPl, stripP, nodeAV, isNode]
  refine ghostL 0 [.d, .f 1] ?_;simp (maxSteps := 1000000) [hF, St.lift, AV.lift, liftPl, stripP, nodeAV, isNode]
  repeat first|refine n1 ?_|((first|(refine dr 3 0 [0, 3] [0] [] [⟨0, 1, 4096, 5⟩, ⟨0, 1, 8192, 5⟩, ⟨2, 8192, 16384, 5⟩, ⟨4, 16384, 32768, 5⟩, ⟨8, 32768, 65536, 6⟩, ⟨0, 8, 131072, 6⟩, ⟨32, 131072, 262144, 4⟩, ⟨80, 327680, 524288, 0⟩, ⟨255, 4096, 1048576, 5⟩, ⟨511, 1048576, 2097152, 5⟩, ⟨767, 2621440, 0, 0⟩] (.take 0 (.take 1 (.take 2 (.take 3 (.take 4 (.take 5 (.fork (.alt 6 (.fork (.alt 7 (.take 8 (.take 9 (.fork (.alt 10 (.done) (.nil))))) (.nil))) (.nil))))))))) (.run [0, 1, 2, 3, 4, 5, 6, 7, 8, 9, 10] (.done)) ?_;simp only [drs])|refine rg 4 [0] [4, 5] [] ?_);simp (maxSteps := 1000000) [hF, hp, hm, him, c1, c2, hw, hw'])
  refine VS.widen [(0, [.d]), (1, [])] (by simp [covers, mpre]) ?_
  (try refine nr ?_);(repeat first|refine nb_ ?_|refine nl_ ?_);refine endK.o [4, 5] [0, 1] [(0, [.d]), (1, [])] ?_;simp [hF, retK, covers, mpre, dH, hc]
theorem add_n (h : Hs) (hl : h.things.length ≤ 400) (o : Int) (l : Bool) (w : Int) (f : Bool) : Meets Try.prog 74 [dH h]
  (.cons (.ptr 0 [.d]) (.cons (.agg (.cons (avInt o) (.cons (avBool l) (.cons (avInt w) (.cons (.nils 1) (.cons (avBool f) .nil)))))) .nil))
  fun av X κ => av = two (addOf h ⟨o, l, w, [], f⟩).2 ∧ X = [dH (addOf h ⟨o, l, w, [], f⟩).1] ∧ κ = [(0, [.d])] := by
 have hp := tg_app h.things o l w [] f
 rw [dInts_nil] at hp
 have hm := tgs_mid h.things ⟨o, l, w, [], f⟩
 by_cases hf : (400 : Int) ≤ h.things.length
 ·have hf' : 400 ≤ h.things.length := by omega
  have hc : addOf h ⟨o, l, w, [], f⟩ = (h, 0, 9) := by simp [addOf, hf']
  refine fb Try.func74 Try.ntmps74 [.tmp 4, .tmp 5] fun w0 I0 F0 hF => ?_
  repeat first|refine n1 ?_|((first|refine rg 0 [0, 1] [0, 3] [] ?_|refine rg 1 [0, 3] [0, 3, 11] [] ?_|refine rg 2 [] [4, 5] [] ?_|refine nc ?_);simp (maxSteps := 1000000) [hF, dH, hf])
  refine VS.widen [(0, [.d])] (by simp [covers, mpre]) ?_
  (try refine nr ?_);(repeat first|refine nb_ ?_|refine nl_ ?_);refine endK.o [4, 5] [0] [(0, [.d])] ?_;simp [hF, retK, covers, mpre, dH, hc]
 ·have hf' : ¬ 400 ≤ h.things.length := by omega
  have hc : addOf h ⟨o, l, w, [], f⟩ = ({ h with things := h.things ++ [(⟨o, l, w, [], f⟩ : Tg)] }, (h.things.length : Int), 0) := by simp [addOf, hf']
  have c1 : (h.things.length + 1) * 56 ≤ 140737488355328 := by omega
  have c2 : h.things.length ≤ 9223372036854775806 := by omega
  have hw : IntKind.i64.wrap ((h.things.length : Int) + 1 - 1) = h.things.length := by rw [IntWalk.i64_in _ (by omega)]; omega
  have hw' : IntKind.i64.wrap (h.things.length : Int) = h.things.length := IntWalk.i64_in _ (by omega)
  refine fb Try.func74 Try.ntmps74 [.tmp 4, .tmp 5] fun w0 I0 F0 hF => ?_
  repeat first|refine n1 ?_|refine n2 ?_|((first|refine rg 0 [0, 1] [0, 3] [] ?_|refine rg 1 [0, 3] [0, 3, 11] [] ?_|refine nc ?_);simp (maxSteps := 1000000) [hF, dH, hf])
  refine ghostL 1 [.d, .f 3] ?_;simp (maxSteps := 1000000) [hF, St.lift, AV.lift, liftPl, stripP, nodeAV, isNode]
  refine ghostL 0 [.d, .f 1] ?_;simp (maxSteps := 1000000) [hF, St.lift, AV.lift, liftPl, stripP, nodeAV, isNode]
  repeat first|refine n1 ?_|((first|(refine dr 3 0 [0, 3] [0] [] [⟨0, 1, 4096, 5⟩, ⟨0, 1, 8192, 5⟩, ⟨2, 8192, 16384, 5⟩, ⟨4, 16384, 32768, 5⟩, ⟨8, 32768, 65536, 6⟩, ⟨0, 8, 131072, 6⟩, ⟨32, 131072, 262144, 4⟩, ⟨80, 327680, 524288, 0⟩, ⟨255, 4096, 1048576, 5⟩, ⟨511, 1048576, 2097152, 5⟩, ⟨767, 2621440, 0, 0⟩] (.take 0 (.take 1 (.take 2 (.take 3 (.take 4 (.take 5 (.fork (.alt 6 (.fork (.alt 7 (.take 8 (.take 9 (.fork (.alt 10 (.done) (.nil))))) (.nil))) (.nil))))))))) (.run [0, 1, 2, 3, 4, 5, 6, 7, 8, 9, 10] (.done)) ?_;simp only [drs])|refine rg 4 [0] [4, 5] [] ?_);simp (maxSteps := 1000000) [hF, hp, hm, c1, c2, hw, hw'])
  refine VS.widen [(0, [.d])] (by simp [covers, mpre]) ?_
  (try refine nr ?_);(repeat first|refine nb_ ?_|refine nl_ ?_);refine endK.o [4, 5] [0] [(0, [.d])] ?_;simp [hF, retK, covers, mpre, dH, hc]
theorem leaf_ok (h : Hs) (hl : h.things.length ≤ 400) (who w : Int) : Meets Try.prog 31 [dH h] (.cons (.ptr 0 [.d]) (.cons (avInt who) (.cons (avInt w) .nil)))
  fun av X κ => av = two (leafOf h who w).2 ∧ X = [dH (leafOf h who w).1] ∧ κ = [(0, [.d])] := by
 have hw0 : IntKind.i64.wrap (-1000000000000000) = -1000000000000000 := by decide
 by_cases h1 : w < -1000000000000000
 ·have hc : leafOf h who w = (h, 0, 1) := by simp [leafOf, h1]
  refine fb Try.func31 Try.ntmps31 [.tmp 6, .tmp 7] fun w0 I0 F0 hF => ?_
  repeat first|refine n1 ?_|((first|refine rg 0 [0, 1, 2] [0, 1, 2] [] ?_|refine rg 1 [0, 1, 2] [0, 1, 2, 14] [(2, 11)] ?_|refine rg 2 [] [6, 7] [] ?_|refine nc ?_);simp (maxSteps := 1000000) [hF, h1])
  refine VS.widen [(0, [.d])] (by simp [covers, mpre]) ?_
  (try refine nr ?_);(repeat first|refine nb_ ?_|refine nl_ ?_);refine endK.o [6, 7] [0] [(0, [.d])] ?_;simp [hF, retK, covers, mpre, dH, hc]
 ·by_cases h2 : 1000000000000000 < w
  ·have hc : leafOf h who w = (h, 0, 1) := by simp [leafOf, h2]
   refine fb Try.func31 Try.ntmps31 [.tmp 6, .tmp 7] fun w0 I0 F0 hF => ?_
   repeat first|refine n1 ?_|((first|refine rg 0 [0, 1, 2] [0, 1, 2] [] ?_|refine rg 1 [0, 1, 2] [0, 1, 2, 14] [(2, 11)] ?_|refine rg 2 [] [6, 7] [] ?_|refine nc ?_);simp (maxSteps := 1000000) [hF, h1, h2])
   refine VS.widen [(0, [.d])] (by simp [covers, mpre]) ?_
   (try refine nr ?_);(repeat first|refine nb_ ?_|refine nl_ ?_);refine endK.o [6, 7] [0] [(0, [.d])] ?_;simp [hF, retK, covers, mpre, dH, hc]
  ·refine fb Try.func31 Try.ntmps31 [.tmp 6, .tmp 7] fun w0 I0 F0 hF => ?_
   repeat first|refine n1 ?_|refine n2 ?_|((first|refine rg 0 [0, 1, 2] [0, 1, 2] [] ?_|refine rg 1 [0, 1, 2] [0, 1, 2, 14] [(2, 11)] ?_|refine rg 3 [0, 1, 2] [0, 1, 2, 8] [] ?_|refine nc ?_);simp (maxSteps := 1000000) [hF, h1, h2])
   by_cases hz : askOf h who [] = 0
   ·have hc : leafOf h who w = addOf h ⟨who, false, w, [], false⟩ := by simp [leafOf, h1, h2, hz]
    refine (ask_cn h who).go [(0, [])] (by simp (maxSteps := 1000000) [hF, hz, dH]) ?_;rintro av X κ ⟨rfl, rfl, rfl⟩;simp (maxSteps := 1000000) [hF, hz, dH]
    repeat first|refine n1 ?_|refine n2 ?_|((first|refine rg 4 [0, 1, 2, 8] [0, 1, 2, 8, 19] [] ?_|refine rg 6 [0, 1, 2] [6, 7] [] ?_|refine nc ?_);simp (maxSteps := 1000000) [hF, hz])
    refine (add_n h hl who false w false).go [(0, [])] (by simp (maxSteps := 1000000) [hF, dH]) ?_;rintro av X κ ⟨rfl, rfl, rfl⟩;simp (maxSteps := 1000000) [hF, dH]
    refine VS.widen [(0, [.d])] (by simp [covers, mpre]) ?_
    (try refine nr ?_);(repeat first|refine nb_ ?_|refine nl_ ?_);refine endK.o [6, 7] [0] [(0, [.d])] ?_;simp [hF, retK, covers, mpre, dH, hc]
   ·have hc : leafOf h who w = (h, 0, askOf h who []) := by simp [leafOf, h1, h2, hz]
    refine (ask_cn h who).go [(0, [])] (by simp (maxSteps := 1000000) [hF, hz, dH]) ?_;rintro av X κ ⟨rfl, rfl, rfl⟩;simp (maxSteps := 1000000) [hF, hz, dH]
    repeat first|refine n1 ?_|((first|refine rg 4 [0, 1, 2, 8] [0, 1, 2, 8, 19] [] ?_|refine rg 5 [8] [6, 7] [] ?_|refine nc ?_);simp (maxSteps := 1000000) [hF, hz])
    refine VS.widen [(0, [.d])] (by simp [covers, mpre]) ?_
    (try refine nr ?_);(repeat first|refine nb_ ?_|refine nl_ ?_);refine endK.o [6, 7] [0] [(0, [.d])] ?_;simp [hF, retK, covers, mpre, dH, hc]
theorem clone_ok (ex : Bool) (l : List Int) (hl : l.length ≤ 100000000) : Meets Try.prog 48 [] (.cons (.imm 1 (dInts l) ex) .nil)
  fun av X κ => av = .sub 0 [] 0 l.length false ∧ X = [.sl true () 1 (dInts l)] ∧ κ = [] := by
 refine fb Try.func48 Try.ntmps48 [.tmp 2] fun w0 I0 F0 hF => ?_
 repeat first|refine n1 ?_|((first|refine rg 0 [0] [0] [] ?_|refine rg 1 [0] [0, 4] [] ?_);simp (maxSteps := 1000000) [hF])
 refine ⟨?_, fun h0 => ?_⟩
 ·repeat first|refine n1 ?_|refine n2 ?_|refine ⟨⟨by omega, by omega⟩, ?_⟩|((first|refine rg 3 [0] [2] [] ?_|refine nc ?_);simp (maxSteps := 1000000) [hF])
  (try refine nr ?_);(repeat first|refine nb_ ?_|refine nl_ ?_);refine endK.o [2] [0] [] ?_;simp [hF, retK, covers, mpre]
 ·repeat first|refine n1 ?_|((first|refine rg 2 [] [2] [] ?_|refine nc ?_);simp (maxSteps := 1000000) [hF])
  refine VS.hold0 2 1 (by simp) ?_
  subst h0
  (try refine nr ?_);(repeat first|refine nb_ ?_|refine nl_ ?_);refine endK.o [2] [0] [] ?_;simp [hF, retK, covers, mpre, dInts]
theorem list_ok (h : Hs) (hl : h.things.length ≤ 400) (who : Int) (l : List Int) (ex : Bool) (hll : l.length ≤ 100000000) : Meets Try.prog 32 [dH h] (.cons (.ptr 0 [.d]) (.cons (avInt who) (.cons (.imm 1 (dInts l) ex) .nil)))
  fun av X κ => av = two (listOf h who l).2 ∧ X = [dH (listOf h who l).1] ∧ κ = [(0, [.d])] := by
 by_cases h1 : 50 < l.length
 ·have hc : listOf h who l = (h, 0, 1) := by simp [listOf, h1]
  have h1i : (50 : Int) < l.length := by omega
  refine fb Try.func32 Try.ntmps32 [.tmp 6, .tmp 7] fun w0 I0 F0 hF => ?_
  repeat first|refine n1 ?_|((first|refine rg 0 [0, 1, 2] [0, 1, 2] [] ?_|refine rg 1 [0, 1, 2] [0, 1, 2, 11] [] ?_|refine rg 2 [] [6, 7] [] ?_|refine nc ?_);simp (maxSteps := 1000000) [hF, h1, h1i])
  refine VS.widen [(0, [.d])] (by simp [covers, mpre]) ?_
  (try refine nr ?_);(repeat first|refine nb_ ?_|refine nl_ ?_);refine endK.o [6, 7] [0] [(0, [.d])] ?_;simp [hF, retK, covers, mpre, dH, hc]
 ·have h1i : ¬ (50 : Int) < l.length := by omega
  refine fb Try.func32 Try.ntmps32 [.tmp 6, .tmp 7] fun w0 I0 F0 hF => ?_
  repeat first|refine n1 ?_|refine n2 ?_|((first|refine rg 0 [0, 1, 2] [0, 1, 2] [] ?_|refine rg 1 [0, 1, 2] [0, 1, 2, 11] [] ?_|refine rg 3 [0, 1, 2] [0, 1, 2, 8] [] ?_|refine nc ?_);simp (maxSteps := 1000000) [hF, h1, h1i])
  by_cases hz : askOf h who l = 0
  ·have hc : listOf h who l = addOf h ⟨who, true, 0, l, false⟩ := by simp [listOf, h1, hz]
   refine (ask_ci h who ex l hll).go [(0, [])] (by simp (maxSteps := 1000000) [hF, hz, dH]) ?_;rintro av X κ ⟨rfl, rfl, rfl⟩;simp (maxSteps := 1000000) [hF, hz, dH]
   repeat first|refine n1 ?_|refine n2 ?_|((first|refine rg 4 [0, 1, 2, 8] [0, 1, 2, 8, 17] [] ?_|refine rg 6 [0, 1, 2] [6, 7] [] ?_|refine nc ?_);simp (maxSteps := 1000000) [hF, hz])
   refine (clone_ok ex l hll).go [] (by simp (maxSteps := 1000000) [hF, dH]) ?_;rintro av X κ ⟨rfl, rfl, rfl⟩;simp (maxSteps := 1000000) [hF, dH]
   refine (add_l h hl who true 0 l false).go [(0, []), (1, [])] (by simp (maxSteps := 1000000) [hF, dH]) ?_;rintro av X κ ⟨rfl, rfl, rfl⟩;simp (maxSteps := 1000000) [hF, dH]
   refine VS.widen [(0, [.d])] (by simp [covers, mpre]) ?_
   (try refine nr ?_);(repeat first|refine nb_ ?_|refine nl_ ?_);refine endK.o [6, 7] [0] [(0, [.d])] ?_;simp [hF, retK, covers, mpre, dH, hc]
  ·have hc : listOf h who l = (h, 0, askOf h who l) := by simp [listOf, h1, hz]
   refine (ask_ci h who ex l hll).go [(0, [])] (by simp (maxSteps := 1000000) [hF, hz, dH]) ?_;rintro av X κ ⟨rfl, rfl, rfl⟩;simp (maxSteps := 1000000) [hF, hz, dH]
   repeat first|refine n1 ?_|((first|refine rg 4 [0, 1, 2, 8] [0, 1, 2, 8, 17] [] ?_|refine rg 5 [8] [6, 7] [] ?_|refine nc ?_);simp (maxSteps := 1000000) [hF, hz])
   refine VS.widen [(0, [.d])] (by simp [covers, mpre]) ?_
   (try refine nr ?_);(repeat first|refine nb_ ?_|refine nl_ ?_);refine endK.o [6, 7] [0] [(0, [.d])] ?_;simp [hF, retK, covers, mpre, dH, hc]
def newH (n : Nat) : Hs := ⟨List.replicate n ⟨[], false⟩, []⟩
theorem new_bad (n : Int) (hn : n < 1 ∨ 8 < n) : Meets Try.prog 23 [] (.cons (avInt n) .nil) fun av X κ => av = avTwo avNil 1 ∧ X = [] ∧ κ = [] := by
 by_cases h1 : n < 1
 ·refine fb Try.func23 Try.ntmps23 [.tmp 2, .tmp 3] fun w0 I0 F0 hF => ?_
  repeat first|refine n1 ?_|((first|refine rg 0 [0] [0] [] ?_|refine rg 1 [0] [0, 9] [(2, 6)] ?_|refine rg 2 [] [2, 3] [] ?_|refine nc ?_);simp (maxSteps := 1000000) [hF, h1])
  (try refine nr ?_);(repeat first|refine nb_ ?_|refine nl_ ?_);refine endK.o [2, 3] [] [] ?_;simp [hF, retK, covers, mpre]
 ·have h2 : 8 < n := by omega
  refine fb Try.func23 Try.ntmps23 [.tmp 2, .tmp 3] fun w0 I0 F0 hF => ?_
  repeat first|refine n1 ?_|((first|refine rg 0 [0] [0] [] ?_|refine rg 1 [0] [0, 9] [(2, 6)] ?_|refine rg 2 [] [2, 3] [] ?_|refine nc ?_);simp (maxSteps := 1000000) [hF, h1, h2])
  (try refine nr ?_);(repeat first|refine nb_ ?_|refine nl_ ?_);refine endK.o [2, 3] [] [] ?_;simp [hF, retK, covers, mpre]
theorem new_ok (n : Nat) (h1 : 1 ≤ n) (h2 : n ≤ 8) : Meets Try.prog 23 [] (.cons (avInt n) .nil) fun av X κ => av = avTwo (.ptr 0 [.d]) 0 ∧ X = [dH (newH n)] ∧ κ = [] := by
 have h1i : ¬ (n : Int) < 1 := by omega
 have h2i : ¬ (8 : Int) < n := by omega
 have c1 : (n : Int) * 32 ≤ 140737488355328 := by omega
 have c2 : (n : Int) ≤ 9223372036854775807 := by omega
 have hz : ∀ X q k, emptySub X k q n true = none := fun X q k => by
  obtain ⟨m, rfl⟩ : ∃ m, n = m + 1 := ⟨n - 1, by omega⟩
  rfl
 have hr : (sq (List.replicate n (.agg (.cons (.sl true () 1 .nil) (.cons (.val (.bool false)) .nil)))) : D) = dRms true (List.replicate n ⟨[], false⟩) := by simp [dRms, dRm]
 have hm : (dRms true (List.replicate n ⟨[], false⟩)).mid 0 n = dRms true (List.replicate n ⟨[], false⟩) := by
  have := dRms_mid_all true (List.replicate n ⟨[], false⟩)
  simpa using this
 refine fb Try.func23 Try.ntmps23 [.tmp 2, .tmp 3] fun w0 I0 F0 hF => ?_
 repeat first|refine n1 ?_|refine n2 ?_|((first|refine rg 0 [0] [0] [] ?_|refine rg 1 [0] [0, 9] [(2, 6)] ?_|refine rg 3 [0] [2, 3] [] ?_|refine nc ?_);simp (maxSteps := 1000000) [hF, h1i, h2i, c1, c2, hz, hr, hm])
 (try refine nr ?_);(repeat first|refine nb_ ?_|refine nl_ ?_);refine endK.o [2, 3] [1] [] ?_;simp [hF, retK, covers, mpre, dH, newH, dTgs, sq]
theorem ask_ok {h : Hs} {who : Int} {l : List Int} (hz : askOf h who l = 0) : isR h who = true ∧ (∀ x ∈ l, isT h x = true) ∧ overB h who = false ∧ ∀ x ∈ l, seesB h who x = true := by
 unfold askOf at hz
 split at hz
 ·cases hz
 ·rename_i h1
  split at hz
  ·cases hz
  ·rename_i h2
   split at hz
   ·cases hz
   ·rename_i h3
    simp only [Bool.not_eq_false, Bool.and_eq_true, List.all_eq_true] at h1 h3
    exact ⟨h1.1, h1.2, by simpa using h2, h3⟩
theorem set_ok (h : Hs) (hok : Hok h) (who x i z : Int) : Meets Try.prog 36 [dH h] (.cons (.ptr 0 [.d]) (.cons (avInt who) (.cons (avInt x) (.cons (avInt i) (.cons (avInt z) .nil)))))
  fun av X κ => av = avInt (setOf h who x i z).2 ∧ X = [dH (setOf h who x i z).1] ∧ κ = [(0, [.d])] := by
 refine fb Try.func36 Try.ntmps36 [.tmp 10] fun w0 I0 F0 hF => ?_
 repeat first|refine n1 ?_|((first|refine rg 0 [0, 1, 2, 3, 4] [0, 1, 2, 3, 4] [] ?_|refine rg 1 [0, 1, 2, 3, 4] [0, 1, 2, 3, 4, 16] [] ?_);simp (maxSteps := 1000000) [hF])
 by_cases hi : indexOf h x i = 0
 ·refine (index_c h x i).go [(0, [])] (by simp (maxSteps := 1000000) [hF, hi, dH]) ?_;rintro av X κ ⟨rfl, rfl, rfl⟩;simp (maxSteps := 1000000) [hF, hi, dH]
  repeat first|refine n1 ?_|refine n2 ?_|((first|refine rg 3 [0, 1, 2, 3, 4] [0, 2, 3, 4, 11] [] ?_|refine nc ?_);simp (maxSteps := 1000000) [hF, hi])
  by_cases hz : askOf h who [x, z] = 0
  ·have ht : isT h x = true := (ask_ok hz).2.1 x (by simp)
   obtain ⟨k, rfl, hk⟩ := isT_nat ht
   have hn := dTgs_nth (o := true) hk
   have hl : 0 ≤ i ∧ i < h.things[k].items.length := by
    simp only [indexOf, ht, gd_at hk, true_and] at hi
    split at hi
    ·cases hi
    ·omega
   obtain ⟨j, rfl⟩ : ∃ j : Nat, i = j := ⟨i.toNat, by omega⟩
   have hj : j < h.things[k].items.length := by omega
   have hm := dInts_nth hj
   have hs1 := dInts_set h.things[k].items j z
   have hs2 := dTgs_set true h.things k { h.things[k] with items := h.things[k].items.set j z }
   cases hf : h.things[k].frozen with
   | true =>
    rw [hf] at hn
    have hc : setOf h who k j z = (h, 13) := by simp [setOf, hi, hz, hk, hf]
    refine (ask_c2 h who true k z).go [(0, []), (1, [])] (by simp (maxSteps := 1000000) [hF, hz, dH]) ?_;rintro av X κ ⟨rfl, rfl, rfl⟩;simp (maxSteps := 1000000) [hF, hz, dH]
    repeat first|refine n1 ?_|refine n2 ?_|((first|refine rg 4 [0, 2, 3, 4, 11] [0, 2, 3, 4, 11, 24] [] ?_|refine rg 6 [0, 2, 3, 4] [0, 2, 3, 4, 33] [] ?_|refine rg 7 [] [10] [] ?_|refine nc ?_);simp (maxSteps := 1000000) [hF, hz, dH, hn, hk])
    refine VS.widen [(0, [.d])] (by simp [covers, mpre]) ?_
    (try refine nr ?_);(repeat first|refine nb_ ?_|refine nl_ ?_);refine endK.o [10] [0] [(0, [.d])] ?_;simp [hF, retK, covers, mpre, dH, hc]
   | false =>
    rw [hf] at hn
    have hc : setOf h who k j z = ({ h with things := h.things.set k { h.things[k] with items := h.things[k].items.set j z } }, 0) := by simp [setOf, hi, hz, hk, hf, setTg]
    simp only [hf] at hs2 hc
    refine (ask_c2 h who true k z).go [(0, []), (1, [])] (by simp (maxSteps := 1000000) [hF, hz, dH]) ?_;rintro av X κ ⟨rfl, rfl, rfl⟩;simp (maxSteps := 1000000) [hF, hz, dH]
    repeat first|refine n1 ?_|refine n2 ?_|((first|refine rg 4 [0, 2, 3, 4, 11] [0, 2, 3, 4, 11, 24] [] ?_|refine rg 6 [0, 2, 3, 4] [0, 2, 3, 4, 33] [] ?_|refine rg 8 [0, 2, 3, 4] [] [] ?_|refine rg 9 [] [10] [] ?_|refine nc ?_);simp (maxSteps := 1000000) [hF, hz, dH, hn, hk, hm, hj, hs1, hs2])
    refine VS.widen [(0, [.d])] (by simp [covers, mpre]) ?_
    (try refine nr ?_);(repeat first|refine nb_ ?_|refine nl_ ?_);refine endK.o [10] [0] [(0, [.d])] ?_;simp [hF, retK, covers, mpre, dH, hc]
  ·have hc : setOf h who x i z = (h, askOf h who [x, z]) := by simp [setOf, hi, hz]
   refine (ask_c2 h who true x z).go [(0, []), (1, [])] (by simp (maxSteps := 1000000) [hF, hz, dH]) ?_;rintro av X κ ⟨rfl, rfl, rfl⟩;simp (maxSteps := 1000000) [hF, hz, dH]
   repeat first|refine n1 ?_|((first|refine rg 4 [0, 2, 3, 4, 11] [0, 2, 3, 4, 11, 24] [] ?_|refine rg 5 [11] [10] [] ?_|refine nc ?_);simp (maxSteps := 1000000) [hF, hz])
   refine VS.widen [(0, [.d])] (by simp [covers, mpre]) ?_
   (try refine nr ?_);(repeat first|refine nb_ ?_|refine nl_ ?_);refine endK.o [10] [0] [(0, [.d])] ?_;simp [hF, retK, covers, mpre, dH, hc]
 ·have hc : setOf h who x i z = (h, 1) := by simp [setOf, hi]
  refine (index_c h x i).go [(0, [])] (by simp (maxSteps := 1000000) [hF, hi, dH]) ?_;rintro av X κ ⟨rfl, rfl, rfl⟩;simp (maxSteps := 1000000) [hF, hi, dH]
  repeat first|refine n1 ?_|((first|refine rg 2 [] [10] [] ?_|refine nc ?_);simp (maxSteps := 1000000) [hF, hi])
  refine VS.widen [(0, [.d])] (by simp [covers, mpre]) ?_
  (try refine nr ?_);(repeat first|refine nb_ ?_|refine nl_ ?_);refine endK.o [10] [0] [(0, [.d])] ?_;simp [hF, retK, covers, mpre, dH, hc]
theorem freeze_ok (h : Hs) (hok : Hok h) (who x : Int) : Meets Try.prog 38 [dH h] (.cons (.ptr 0 [.d]) (.cons (avInt who) (.cons (avInt x) .nil)))
  fun av X κ => av = avInt (freezeOf h who x).2 ∧ X = [dH (freezeOf h who x).1] ∧ κ = [(0, [.d])] := by
 refine fb Try.func38 Try.ntmps38 [.tmp 6] fun w0 I0 F0 hF => ?_
 repeat first|refine n1 ?_|((first|refine rg 0 [0, 1, 2] [0, 1, 2] [] ?_|refine rg 1 [0, 1, 2] [0, 2, 7] [] ?_);simp (maxSteps := 1000000) [hF])
 by_cases hz : askOf h who [x] = 0
 ·have ht : isT h x = true := (ask_ok hz).2.1 x (by simp)
  obtain ⟨k, rfl, hk⟩ := isT_nat ht
  have hn := dTgs_nth (o := true) hk
  have hs2 := dTgs_set true h.things k { h.things[k] with frozen := true }
  cases hl : h.things[k].list with
  | true =>
   rw [hl] at hn
   have hc : freezeOf h who k = ({ h with things := h.things.set k { h.things[k] with frozen := true } }, 0) := by simp [freezeOf, hz, hk, hl, setTg]
   simp only [hl] at hs2 hc
   refine (ask_c1 h who true k).go [(0, []), (1, [])] (by simp (maxSteps := 1000000) [hF, hz, dH]) ?_;rintro av X κ ⟨rfl, rfl, rfl⟩;simp (maxSteps := 1000000) [hF, hz, dH]
   repeat first|refine n1 ?_|((first|refine rg 2 [0, 2, 7] [0, 2, 7, 24] [(2, 15)] ?_|refine rg 3 [0, 2, 7] [7] [] ?_|refine rg 4 [7] [6] [] ?_|refine nc ?_);simp (maxSteps := 1000000) [hF, hz, dH, hn, hk, hs2])
   refine VS.widen [(0, [.d])] (by simp [covers, mpre]) ?_
   (try refine nr ?_);(repeat first|refine nb_ ?_|refine nl_ ?_);refine endK.o [6] [0] [(0, [.d])] ?_;simp [hF, retK, covers, mpre, dH, hc]
  | false =>
   rw [hl] at hn
   have hc : freezeOf h who k = (h, 0) := by simp [freezeOf, hz, hk, hl]
   refine (ask_c1 h who true k).go [(0, []), (1, [])] (by simp (maxSteps := 1000000) [hF, hz, dH]) ?_;rintro av X κ ⟨rfl, rfl, rfl⟩;simp (maxSteps := 1000000) [hF, hz, dH]
   repeat first|refine n1 ?_|refine n2 ?_|((first|refine rg 2 [0, 2, 7] [0, 2, 7, 24] [(2, 15)] ?_|refine rg 4 [7] [6] [] ?_|refine nc ?_);simp (maxSteps := 1000000) [hF, hz, dH, hn, hk])
   refine VS.widen [(0, [.d])] (by simp [covers, mpre]) ?_
   (try refine nr ?_);(repeat first|refine nb_ ?_|refine nl_ ?_);refine endK.o [6] [0] [(0, [.d])] ?_;simp [hF, retK, covers, mpre, dH, hc]
 ·have hc : freezeOf h who x = (h, askOf h who [x]) := by simp [freezeOf, hz]
  refine (ask_c1 h who true x).go [(0, []), (1, [])] (by simp (maxSteps := 1000000) [hF, hz, dH]) ?_;rintro av X κ ⟨rfl, rfl, rfl⟩;simp (maxSteps := 1000000) [hF, hz, dH]
  repeat first|refine n1 ?_|refine n2 ?_|((first|refine rg 2 [0, 2, 7] [0, 2, 7, 24] [(2, 15)] ?_|refine rg 4 [7] [6] [] ?_|refine nc ?_);simp (maxSteps := 1000000) [hF, hz])
  refine VS.widen [(0, [.d])] (by simp [covers, mpre]) ?_
  (try refine nr ?_);(repeat first|refine nb_ ?_|refine nl_ ?_);refine endK.o [6] [0] [(0, [.d])] ?_;simp [hF, retK, covers, mpre, dH, hc]
theorem put_ok (h : Hs) (to : Nat) (x : Int) (ht : to < h.rooms.length) (hq : h.rooms[to].queue.length ≤ 1000) : Meets Try.prog 49 [dH h] (.cons (.ptr 0 [.d]) (.cons (avInt to) (.cons (avInt x) .nil)))
  fun av X κ => X = [dH (putOf h to x)] ∧ κ = [(0, [.d])] := by
 have hn := dRms_nth (o := true) ht
 have hs2 := dRms_set true h.rooms to { h.rooms[to] with queue := h.rooms[to].queue ++ [x] }
 have hp := dInts_app1 h.rooms[to].queue x
 have hm : (dInts (h.rooms[to].queue ++ [x])).mid 0 (h.rooms[to].queue.length + 1) = dInts (h.rooms[to].queue ++ [x]) := sq_mid_all _ _ (by simp)
 have hc : putOf h to x = { h with rooms := h.rooms.set to { h.rooms[to] with queue := h.rooms[to].queue ++ [x] } } := by simp [putOf, setRm, ht]
 have c1 : (h.rooms[to].queue.length + 1) * 8 ≤ 140737488355328 := by omega
 have c2 : h.rooms[to].queue.length ≤ 9223372036854775806 := by omega
 refine fb Try.func49 Try.ntmps49 [] fun w0 I0 F0 hF => ?_
 refine ghostL 0 [.d, .f 0, .i to, .f 0] ?_;simp (maxSteps := 1000000) [hF, St.lift, AV.lift, liftPl, stripP, nodeAV, isNode, dH, hn, ht]
 repeat first|((refine dr 0 0 [0, 1, 2] [] [] [⟨0, 1, 64, 5⟩, ⟨1, 64, 128, 5⟩, ⟨2, 128, 256, 5⟩, ⟨4, 256, 512, 6⟩, ⟨0, 2, 1024, 5⟩, ⟨0, 1, 2048, 5⟩, ⟨32, 2048, 4096, 5⟩, ⟨64, 4096, 8192, 5⟩, ⟨128, 8192, 16384, 6⟩, ⟨0, 2, 32768, 5⟩, ⟨768, 49152, 65536, 5⟩, ⟨1024, 65536, 131072, 5⟩, ⟨2048, 131072, 262144, 6⟩, ⟨0, 4, 524288, 5⟩, ⟨8192, 524288, 1048576, 4⟩, ⟨20480, 1310720, 2097152, 0⟩, ⟨65535, 1536, 4194304, 5⟩, ⟨131071, 4194304, 8388608, 5⟩, ⟨196607, 10485760, 0, 0⟩] (.take 0 (.take 1 (.take 2 (.take 4 (.take 5 (.take 6 (.take 7 (.take 8 (.take 9 (.take 10 (.take 11 (.take 12 (.take 13 (.fork (.alt 3 (.fork (.alt 14 (.fork (.alt 15 (.take 16 (.take 17 (.fork (.alt 18 (.done) (.nil))))) (.nil))) (.nil))) (.alt 14 (.fork (.alt 3 (.fork (.alt 15 (.take 16 (.take 17 (.fork (.alt 18 (.done) (.nil))))) (.nil))) (.alt 15 (.take 3 (.take 16 (.take 17 (.fork (.alt 18 (.done) (.nil)))))) (.nil)))) (.nil))))))))))))))))) (.run [0, 1, 2, 4, 5, 6, 7, 8, 9, 10, 11, 12, 13] (.both (.run [3, 14, 15, 16, 17, 18] (.done)) (.run [14] (.both (.run [3, 15, 16, 17, 18] (.done)) (.run [15, 3, 16, 17, 18] (.done)))))) ?_;simp only [drs]);simp (maxSteps := 1000000) [hF, hn, ht, hs2, hp, hm, c1, c2, T.nth_setN_same])
 repeat' first | refine And.intro ?_ ?_ | refine VS.nil ?_
 all_goals ((try refine nr ?_);(repeat first|refine nb_ ?_|refine nl_ ?_);refine endK.o [] [0] [(0, [.d])] ?_;simp [hF, retK, covers, mpre, dH, hc])
theorem push_ok (h : Hs) (hok : Hok h) (who x z : Int) : Meets Try.prog 37 [dH h] (.cons (.ptr 0 [.d]) (.cons (avInt who) (.cons (avInt x) (.cons (avInt z) .nil))))
  fun av X κ => av = avInt (pushOf h who x z).2 ∧ X = [dH (pushOf h who x z).1] ∧ κ = [(0, [.d])] := by
 refine fb Try.func37 Try.ntmps37 [.tmp 8] fun w0 I0 F0 hF => ?_
 repeat first|refine n1 ?_|((first|refine rg 0 [0, 1, 2, 3] [0, 1, 2, 3] [] ?_|refine rg 1 [0, 1, 2, 3] [0, 1, 2, 3, 25] [(4, 15)] ?_);simp (maxSteps := 1000000) [hF])
 cases ht : isT h x with
 | false =>
  have hz : askOf h who [x, z] = 1 := by simp [askOf, ht]
  have hc : pushOf h who x z = (h, 1) := by simp [pushOf, ht, hz]
  refine (has_c1 h true x).go [(0, []), (1, [])] (by simp (maxSteps := 1000000) [hF, ht, dH]) ?_;rintro av X κ ⟨rfl, rfl, rfl⟩;simp (maxSteps := 1000000) [hF, ht, dH]
  repeat first|refine n1 ?_|refine n2 ?_|((first|refine rg 3 [0, 1, 2, 3] [0, 2, 3, 9] [] ?_|refine nc ?_);simp (maxSteps := 1000000) [hF])
  refine (ask_c2 h who true x z).go [(0, []), (2, [])] (by simp (maxSteps := 1000000) [hF, hz, dH]) ?_;rintro av X κ ⟨rfl, rfl, rfl⟩;simp (maxSteps := 1000000) [hF, hz, dH]
  repeat first|refine n1 ?_|((first|refine rg 4 [0, 2, 3, 9] [0, 2, 3, 9, 33] [] ?_|refine rg 5 [9] [8] [] ?_|refine nc ?_);simp (maxSteps := 1000000) [hF, hz])
  refine VS.widen [(0, [.d])] (by simp [covers, mpre]) ?_
  (try refine nr ?_);(repeat first|refine nb_ ?_|refine nl_ ?_);refine endK.o [8] [0] [(0, [.d])] ?_;simp [hF, retK, covers, mpre, dH, hc]
 | true =>
  obtain ⟨k, rfl, hk⟩ := isT_nat ht
  have hn := dTgs_nth (o := true) hk
  cases hl : h.things[k].list with
  | false =>
   rw [hl] at hn
   have hc : pushOf h who k z = (h, 1) := by simp [pushOf, ht, hk, hl]
   refine (has_c1 h true k).go [(0, []), (1, [])] (by simp (maxSteps := 1000000) [hF, ht, dH, hn, hk]) ?_;rintro av X κ ⟨rfl, rfl, rfl⟩;simp (maxSteps := 1000000) [hF, ht, dH, hn, hk]
   repeat first|refine n1 ?_|((first|refine rg 2 [] [8] [] ?_|refine nc ?_);simp (maxSteps := 1000000) [hF, dH, hn, hk])
   refine VS.widen [(0, [.d])] (by simp [covers, mpre]) ?_
   (try refine nr ?_);(repeat first|refine nb_ ?_|refine nl_ ?_);refine endK.o [8] [0] [(0, [.d])] ?_;simp [hF, retK, covers, mpre, dH, hc]
  | true =>
   rw [hl] at hn
   refine (has_c1 h true k).go [(0, []), (1, [])] (by simp (maxSteps := 1000000) [hF, ht, dH, hn, hk]) ?_;rintro av X κ ⟨rfl, rfl, rfl⟩;simp (maxSteps := 1000000) [hF, ht, dH, hn, hk]
   repeat first|refine n1 ?_|refine n2 ?_|((first|refine rg 3 [0, 1, 2, 3] [0, 2, 3, 9] [] ?_|refine nc ?_);simp (maxSteps := 1000000) [hF, dH, hn, hk])
   by_cases hz : askOf h who [(k : Int), z] = 0
   ·cases hf : h.things[k].frozen with
    | true =>
     rw [hf] at hn
     have hc : pushOf h who k z = (h, 13) := by simp [pushOf, ht, hk, hl, hz, hf]
     refine (ask_c2 h who true k z).go [(0, []), (2, [])] (by simp (maxSteps := 1000000) [hF, hz, dH]) ?_;rintro av X κ ⟨rfl, rfl, rfl⟩;simp (maxSteps := 1000000) [hF, hz, dH]
     repeat first|refine n1 ?_|refine n2 ?_|refine n3 ?_|((first|refine rg 4 [0, 2, 3, 9] [0, 2, 3, 9, 33] [] ?_|refine rg 6 [0, 2, 3] [3, 10] [] ?_|refine rg 7 [3, 10] [3, 10, 41] [] ?_|refine rg 8 [] [8] [] ?_|refine nc ?_);simp (maxSteps := 1000000) [hF, hz, dH, hn, hk])
     refine VS.widen [(0, [.d])] (by simp [covers, mpre]) ?_
     (try refine nr ?_);(repeat first|refine nb_ ?_|refine nl_ ?_);refine endK.o [8] [0] [(0, [.d])] ?_;simp [hF, retK, covers, mpre, dH, hc]
    | false =>
     rw [hf] at hn
     by_cases h5 : 50 ≤ h.things[k].items.length
     ·have h5i : (50 : Int) ≤ h.things[k].items.length := by omega
      have hc : pushOf h who k z = (h, 9) := by simp [pushOf, ht, hk, hl, hz, hf, h5]
      refine (ask_c2 h who true k z).go [(0, []), (2, [])] (by simp (maxSteps := 1000000) [hF, hz, dH]) ?_;rintro av X κ ⟨rfl, rfl, rfl⟩;simp (maxSteps := 1000000) [hF, hz, dH]
      repeat first|refine n1 ?_|refine n2 ?_|refine n3 ?_|((first|refine rg 4 [0, 2, 3, 9] [0, 2, 3, 9, 33] [] ?_|refine rg 6 [0, 2, 3] [3, 10] [] ?_|refine rg 7 [3, 10] [3, 10, 41] [] ?_|refine rg 9 [3, 10] [3, 10, 46] [] ?_|refine rg 10 [] [8] [] ?_|refine nc ?_);simp (maxSteps := 1000000) [hF, hz, dH, hn, hk, h5i])
      refine VS.widen [(0, [.d])] (by simp [covers, mpre]) ?_
      (try refine nr ?_);(repeat first|refine nb_ ?_|refine nl_ ?_);refine endK.o [8] [0] [(0, [.d])] ?_;simp [hF, retK, covers, mpre, dH, hc]
     ·have h5i : ¬ (50 : Int) ≤ h.things[k].items.length := by omega
      have hc : pushOf h who k z = ({ h with things := h.things.set k { h.things[k] with items := h.things[k].items ++ [z] } }, 0) := by simp [pushOf, ht, hk, hl, hz, hf, h5, setTg]
      have hs2 := dTgs_set true h.things k { h.things[k] with items := h.things[k].items ++ [z] }
      simp only [hf, hl] at hs2 hc
      have hp := dInts_app1 h.things[k].items z
      have hm : (dInts (h.things[k].items ++ [z])).mid 0 (h.things[k].items.length + 1) = dInts (h.things[k].items ++ [z]) := sq_mid_all _ _ (by simp)
      have c1 : (h.things[k].items.length + 1) * 8 ≤ 140737488355328 := by omega
      have c2 : h.things[k].items.length ≤ 9223372036854775806 := by omega
      refine (ask_c2 h who true k z).go [(0, []), (2, [])] (by simp (maxSteps := 1000000) [hF, hz, dH]) ?_;rintro av X κ ⟨rfl, rfl, rfl⟩;simp (maxSteps := 1000000) [hF, hz, dH]
      repeat first|refine n1 ?_|refine n2 ?_|refine n3 ?_|refine n4 ?_|((first|refine rg 4 [0, 2, 3, 9] [0, 2, 3, 9, 33] [] ?_|refine rg 6 [0, 2, 3] [3, 10] [] ?_|refine rg 7 [3, 10] [3, 10, 41] [] ?_|refine rg 9 [3, 10] [3, 10, 46] [] ?_|refine nc ?_);simp (maxSteps := 1000000) [hF, hz, dH, hn, hk, h5i])
      refine ghostL 0 [.d, .f 1, .i k, .f 3] ?_;simp (maxSteps := 1000000) [hF, St.lift, AV.lift, liftPl, stripP, nodeAV, isNode, hn, hk]
      repeat first|refine n1 ?_|((first|refine rg 11 [3, 10] [] [] ?_|refine rg 12 [] [8] [] ?_);simp (maxSteps := 1000000) [hF, hn, hk, hs2, hp, hm, c1, c2, T.nth_setN_same])
      refine VS.widen [(0, [.d])] (by simp [covers, mpre]) ?_
      (try refine nr ?_);(repeat first|refine nb_ ?_|refine nl_ ?_);refine endK.o [8] [0] [(0, [.d])] ?_;simp [hF, retK, covers, mpre, dH, hc]
   ·have hc : pushOf h who k z = (h, askOf h who [(k : Int), z]) := by simp [pushOf, ht, hk, hl, hz]
    refine (ask_c2 h who true k z).go [(0, []), (2, [])] (by simp (maxSteps := 1000000) [hF, hz, dH]) ?_;rintro av X κ ⟨rfl, rfl, rfl⟩;simp (maxSteps := 1000000) [hF, hz, dH]
    repeat first|refine n1 ?_|((first|refine rg 4 [0, 2, 3, 9] [0, 2, 3, 9, 33] [] ?_|refine rg 5 [9] [8] [] ?_|refine nc ?_);simp (maxSteps := 1000000) [hF, hz])
    refine VS.widen [(0, [.d])] (by simp [covers, mpre]) ?_
    (try refine nr ?_);(repeat first|refine nb_ ?_|refine nl_ ?_);refine endK.o [8] [0] [(0, [.d])] ?_;simp [hF, retK, covers, mpre, dH, hc]
theorem take_ok (h : Hs) (hok : Hok h) (who : Int) : Meets Try.prog 34 [dH h] (.cons (.ptr 0 [.d]) (.cons (avInt who) .nil))
  fun av X κ => av = two (takeOf h who).2 ∧ X = [dH (takeOf h who).1] ∧ κ = [(0, [.d])] := by
 refine fb Try.func34 Try.ntmps34 [.tmp 4, .tmp 5] fun w0 I0 F0 hF => ?_
 repeat first|refine n1 ?_|((first|refine rg 0 [0, 1] [0, 1] [] ?_|refine rg 1 [0, 1] [0, 1, 6] [] ?_);simp (maxSteps := 1000000) [hF])
 by_cases hz : askOf h who [] = 0
 ·obtain ⟨k, rfl, hk⟩ := isR_nat (ask_ok hz).1
  have hn := dRms_nth (o := true) hk
  have hql := (hok.queues _ (List.getElem_mem hk)).1
  cases hq : h.rooms[k].queue with
  | nil =>
   have hc : takeOf h k = (h, 0, 3) := by simp [takeOf, hz, hk, hq]
   rw [hq] at hn
   refine (ask_cn h k).go [(0, [])] (by simp (maxSteps := 1000000) [hF, hz, dH]) ?_;rintro av X κ ⟨rfl, rfl, rfl⟩;simp (maxSteps := 1000000) [hF, hz, dH]
   repeat first|refine n1 ?_|refine n2 ?_|((first|refine rg 2 [0, 1, 6] [0, 1, 6, 13] [] ?_|refine rg 4 [0, 1] [7] [] ?_|refine rg 5 [7] [7, 26] [] ?_|refine rg 6 [] [4, 5] [] ?_|refine nc ?_);simp (maxSteps := 1000000) [hF, hz, dH, hn, hk])
   refine VS.widen [(0, [.d])] (by simp [covers, mpre]) ?_
   (try refine nr ?_);(repeat first|refine nb_ ?_|refine nl_ ?_);refine endK.o [4, 5] [0] [(0, [.d])] ?_;simp [hF, retK, covers, mpre, dH, hc]
  | cons x q =>
   have hc : takeOf h k = ({ h with rooms := h.rooms.set k (⟨q, h.rooms[k].over⟩ : Rm) }, x, 0) := by simp [takeOf, hz, hk, hq, setRm]
   have hs2 := dRms_set true h.rooms k ⟨q, h.rooms[k].over⟩
   rw [hq] at hn hql
   have hn0 : (dInts (x :: q)).nth 0 = .val (.int .i64 x) := by rw [dInts_nth (by simp)]; rfl
   have hm : (dInts (x :: q)).mid 1 q.length = dInts q := by rw [dInts_mid]; simp
   have c1 : ¬ (q.length : Int) + 1 = 0 := by omega
   refine (ask_cn h k).go [(0, [])] (by simp (maxSteps := 1000000) [hF, hz, dH]) ?_;rintro av X κ ⟨rfl, rfl, rfl⟩;simp (maxSteps := 1000000) [hF, hz, dH]
   repeat first|refine n1 ?_|refine n2 ?_|((first|refine rg 2 [0, 1, 6] [0, 1, 6, 13] [] ?_|refine rg 4 [0, 1] [7] [] ?_|refine rg 5 [7] [7, 26] [] ?_|refine nc ?_);simp (maxSteps := 1000000) [hF, hz, dH, hn, hk, c1])
   refine ghostL 0 [.d, .f 0, .i k, .f 0] ?_;simp (maxSteps := 1000000) [hF, St.lift, AV.lift, liftPl, stripP, nodeAV, isNode, dH, hn, hk]
   repeat first|refine n1 ?_|((first|refine rg 7 [7] [7, 8] [] ?_|refine rg 8 [7, 8] [8] [] ?_|refine rg 9 [8] [4, 5] [] ?_);simp (maxSteps := 1000000) [hF, hz, hn, hk, hn0, hs2, hm, T.nth_setN_same])
   trace_state
   refine VS.widen [(0, [.d])] (by simp [covers, mpre]) ?_
   (try refine nr ?_);(repeat first|refine nb_ ?_|refine nl_ ?_);refine endK.o [4, 5] [0] [(0, [.d])] ?_;simp [hF, retK, covers, mpre, dH, hc]
 ·have hc : takeOf h who = (h, 0, askOf h who []) := by simp [takeOf, hz]
  refine (ask_cn h who).go [(0, [])] (by simp (maxSteps := 1000000) [hF, hz, dH]) ?_;rintro av X κ ⟨rfl, rfl, rfl⟩;simp (maxSteps := 1000000) [hF, hz, dH]
  repeat first|refine n1 ?_|((first|refine rg 2 [0, 1, 6] [0, 1, 6, 13] [] ?_|refine rg 3 [6] [4, 5] [] ?_|refine nc ?_);simp (maxSteps := 1000000) [hF, hz])
  refine VS.widen [(0, [.d])] (by simp [covers, mpre]) ?_
  (try refine nr ?_);(repeat first|refine nb_ ?_|refine nl_ ?_);refine endK.o [4, 5] [0] [(0, [.d])] ?_;simp [hF, retK, covers, mpre, dH, hc]
theorem over_ok (h : Hs) (hok : Hok h) (who : Int) : Meets Try.prog 40 [dH h] (.cons (.ptr 0 [.d]) (.cons (avInt who) .nil))
  fun av X κ => av = avInt (overOf h who).2 ∧ X = [dH (overOf h who).1] ∧ κ = [(0, [.d])] := by
 have hw : IntKind.i64.wrap (-2) = -2 := by decide
 have hbd := hok.things
 refine fb Try.func40 Try.ntmps40 [.tmp 4] fun w0 I0 F0 hF => ?_
 repeat first|refine n1 ?_|((first|refine rg 0 [0, 1] [0, 1] [] ?_|refine rg 1 [0, 1] [0, 1, 5] [] ?_);simp (maxSteps := 1000000) [hF])
 by_cases hz : askOf h who [] = 0
 ·obtain ⟨k, rfl, hk⟩ := isR_nat (ask_ok hz).1
  have hc : overOf h k = ({ rooms := h.rooms.set k ⟨[], true⟩, things := h.things.map (goneF k) }, 0) := by simp [overOf, hz]
  refine (ask_cn h k).go [(0, [])] (by simp (maxSteps := 1000000) [hF, hz, dH]) ?_;rintro av X κ ⟨rfl, rfl, rfl⟩;simp (maxSteps := 1000000) [hF, hz, dH]
  repeat first|refine n1 ?_|refine n2 ?_|refine n3 ?_|((first|refine rg 2 [0, 1, 5] [0, 1, 5, 11] [] ?_|refine rg 4 [0, 1] [0, 1, 17, 18] [] ?_|refine nc ?_);simp (maxSteps := 1000000) [hF, hz, dH])
  refine VS.widen [(0, [.d])] (by simp [covers, mpre]) ?_
  refine VS.rounds (fun m st => ∃ (i : Nat) (P : List Tg), i + m = h.things.length ∧ P = upto (goneF k) h.things i ∧ st = ⟨[(0, .ptr 0 [.d]), (1, avInt k), (17, avInt h.things.length), (18, avInt i)], [dH { h with things := P }], [(0, [.d])], []⟩) ⟨h.things.length, 0, h.things, by omega, (upto_zero _ _).symm, by simp [dH]⟩ ?_
  rintro m st ⟨i, P, hi, hP, rfl⟩
  have hPl : P.length = h.things.length := by simp [hP]
  repeat first|refine n1 ?_|((first|refine rg 5 [0, 1, 17, 18] [0, 1, 17, 18, 19] [] ?_|refine nc ?_);simp (maxSteps := 1000000) [hF])
  refine ⟨fun hlt => ?_, fun hge => ?_⟩
  ·have hlP : i < P.length := by omega
   have hn := dTgs_nth (o := true) hlP
   have hPi : P[i] = h.things[i] := by subst hP; exact upto_at hlt
   have hset := dTgs_set true P i ⟨-2, h.things[i].list, h.things[i].word, h.things[i].items, h.things[i].frozen⟩
   rw [hPi] at hn
   have hw1 : IntKind.i64.wrap ((i : Int) + 1) = (i + 1 : Nat) := by rw [IntWalk.i64_in _ (by omega)]; rfl
   by_cases ho : h.things[i].owner = k
   ·have hst : P.set i ⟨-2, h.things[i].list, h.things[i].word, h.things[i].items, h.things[i].frozen⟩ = upto (goneF k) h.things (i + 1) := by
     rw [← upto_set hlt, hP]; simp [goneF, ho]
    repeat first|refine n1 ?_|refine n2 ?_|refine n3 ?_|refine n4 ?_|refine n5 ?_|refine n6 ?_|((first|refine rg 6 [0, 1, 17, 18] [0, 1, 6, 17, 18] [] ?_|refine rg 7 [0, 1, 6, 17, 18] [0, 1, 6, 17, 18, 30] [] ?_|refine rg 8 [0, 1, 6, 17, 18] [0, 1, 17, 18] [] ?_|refine rg 9 [0, 1, 17, 18] [0, 1, 17, 18] [] ?_|refine nc ?_);simp (maxSteps := 1000000) [hF, dH, hn, hlP, ho, hset, hw1, hw])
    refine nextK.of [0, 1, 17, 18] [0] (m - 1) (by omega) (by simp [hF]) ?_
    refine ⟨i + 1, _, by omega, hst, ?_⟩
    simp [dH]
   ·have hst : P = upto (goneF k) h.things (i + 1) := by
     rw [upto_skip hlt (by simp [goneF, ho]), hP]
    repeat first|refine n1 ?_|refine n2 ?_|refine n3 ?_|refine n4 ?_|refine n5 ?_|refine n6 ?_|((first|refine rg 6 [0, 1, 17, 18] [0, 1, 6, 17, 18] [] ?_|refine rg 7 [0, 1, 6, 17, 18] [0, 1, 6, 17, 18, 30] [] ?_|refine rg 9 [0, 1, 17, 18] [0, 1, 17, 18] [] ?_|refine nc ?_);simp (maxSteps := 1000000) [hF, dH, hn, hlP, ho, hset, hw1, hw])
    refine nextK.of [0, 1, 17, 18] [0] (m - 1) (by omega) (by simp [hF]) ?_
    refine ⟨i + 1, P, by omega, hst, ?_⟩
    simp [dH]
  ·have hPf : P = h.things.map (goneF k) := by rw [hP, show i = h.things.length by omega, upto_all]
   have hn := dRms_nth (o := true) hk
   have hs2 := dRms_set true h.rooms k ⟨[], true⟩
   rw [dInts_nil] at hs2
   repeat first|refine n1 ?_|refine n7 ?_|((first|refine rg 10 [0, 1] [] [] ?_|refine rg 11 [] [4] [] ?_);simp (maxSteps := 1000000) [hF, dH, hn, hk, hs2])
   refine VS.widen [(0, [.d])] (by simp [covers, mpre]) ?_
   (try refine nr ?_);(repeat first|refine nb_ ?_|refine nl_ ?_);refine endK.o [4] [0] [(0, [.d])] ?_;simp [hF, retK, covers, mpre, dH, hc, hPf]
 ·have hc : overOf h who = (h, askOf h who []) := by simp [overOf, hz]
  refine (ask_cn h who).go [(0, [])] (by simp (maxSteps := 1000000) [hF, hz, dH]) ?_;rintro av X κ ⟨rfl, rfl, rfl⟩;simp (maxSteps := 1000000) [hF, hz, dH]
  repeat first|refine n1 ?_|((first|refine rg 2 [0, 1, 5] [0, 1, 5, 11] [] ?_|refine rg 3 [5] [4] [] ?_|refine nc ?_);simp (maxSteps := 1000000) [hF, hz])
  refine VS.widen [(0, [.d])] (by simp [covers, mpre]) ?_
  (try refine nr ?_);(repeat first|refine nb_ ?_|refine nl_ ?_);refine endK.o [4] [0] [(0, [.d])] ?_;simp [hF, retK, covers, mpre, dH, hc]
theorem share_ok (h : Hs) (hok : Hok h) (who x : Int) : Meets Try.prog 39 [dH h] (.cons (.ptr 0 [.d]) (.cons (avInt who) (.cons (avInt x) .nil)))
  fun av X κ => av = avInt (shareOf h who x).2 ∧ X = [dH (shareOf h who x).1] ∧ κ = [(0, [.d])] := by
 have hw : IntKind.i64.wrap (-2) = -2 := by decide
 have hw1 : IntKind.i64.wrap (-1) = -1 := by decide
 refine fb Try.func39 Try.ntmps39 [.tmp 6] fun w0 I0 F0 hF => ?_
 repeat first|refine n1 ?_|((first|refine rg 0 [0, 1, 2] [0, 1, 2] [] ?_|refine rg 1 [0, 1, 2] [0, 1, 2, 35] [(3, 13), (9, 19), (20, 30)] ?_);simp (maxSteps := 1000000) [hF])
 cases hr : isR h who with
 | false =>
  have hz : askOf h who [x] = 1 := by simp [askOf, hr]
  have hc : shareOf h who x = (h, 1) := by simp [shareOf, hr, hz]
  refine (is_c h who).go [(0, [])] (by simp (maxSteps := 1000000) [hF, hr, dH]) ?_;rintro av X κ ⟨rfl, rfl, rfl⟩;simp (maxSteps := 1000000) [hF, hr, dH]
  repeat first|refine n1 ?_|refine n2 ?_|((first|refine rg 3 [0, 1, 2] [0, 2, 7] [] ?_|refine nc ?_);simp (maxSteps := 1000000) [hF])
  refine (ask_c1 h who true x).go [(0, []), (1, [])] (by simp (maxSteps := 1000000) [hF, hz, dH]) ?_;rintro av X κ ⟨rfl, rfl, rfl⟩;simp (maxSteps := 1000000) [hF, hz, dH]
  repeat first|refine n1 ?_|((first|refine rg 4 [0, 2, 7] [0, 2, 7, 42] [] ?_|refine rg 5 [7] [6] [] ?_|refine nc ?_);simp (maxSteps := 1000000) [hF, hz])
  refine VS.widen [(0, [.d])] (by simp [covers, mpre]) ?_
  (try refine nr ?_);(repeat first|refine nb_ ?_|refine nl_ ?_);refine endK.o [6] [0] [(0, [.d])] ?_;simp [hF, retK, covers, mpre, dH, hc]
 | true =>
  refine (is_c h who).go [(0, [])] (by simp (maxSteps := 1000000) [hF, hr, dH]) ?_;rintro av X κ ⟨rfl, rfl, rfl⟩;simp (maxSteps := 1000000) [hF, hr, dH]
  cases ht : isT h x with
  | false =>
   have hz : askOf h who [x] = 1 := by simp [askOf, ht]
   have hc : shareOf h who x = (h, 1) := by simp [shareOf, ht, hz]
   refine (has_c1 h true x).go [(0, []), (1, [])] (by simp (maxSteps := 1000000) [hF, ht, dH]) ?_;rintro av X κ ⟨rfl, rfl, rfl⟩;simp (maxSteps := 1000000) [hF, ht, dH]
   repeat first|refine n1 ?_|refine n2 ?_|((first|refine rg 3 [0, 1, 2] [0, 2, 7] [] ?_|refine nc ?_);simp (maxSteps := 1000000) [hF])
   refine (ask_c1 h who true x).go [(0, []), (2, [])] (by simp (maxSteps := 1000000) [hF, hz, dH]) ?_;rintro av X κ ⟨rfl, rfl, rfl⟩;simp (maxSteps := 1000000) [hF, hz, dH]
   repeat first|refine n1 ?_|((first|refine rg 4 [0, 2, 7] [0, 2, 7, 42] [] ?_|refine rg 5 [7] [6] [] ?_|refine nc ?_);simp (maxSteps := 1000000) [hF, hz])
   refine VS.widen [(0, [.d])] (by simp [covers, mpre]) ?_
   (try refine nr ?_);(repeat first|refine nb_ ?_|refine nl_ ?_);refine endK.o [6] [0] [(0, [.d])] ?_;simp [hF, retK, covers, mpre, dH, hc]
  | true =>
   obtain ⟨k, rfl, hk⟩ := isT_nat ht
   have hn := dTgs_nth (o := true) hk
   by_cases hg : h.things[k].owner = -2
   ·have hz : ¬ askOf h who [(k : Int)] = 0 := fun hz => by
     have h1 := (ask_ok hz).2.2.2 k (by simp)
     have h2 := (ask_ok hz).1
     simp [seesB, hk, hg, isR] at h1 h2
     omega
    have hc : shareOf h who k = (h, askOf h who [(k : Int)]) := by simp [shareOf, ht, hk, hg, hz]
    refine (has_c1 h true k).go [(0, []), (1, [])] (by simp (maxSteps := 1000000) [hF, ht, dH, hn, hk, hg, hw]) ?_;rintro av X κ ⟨rfl, rfl, rfl⟩;simp (maxSteps := 1000000) [hF, ht, dH, hn, hk, hg, hw]
    repeat first|refine n1 ?_|refine n2 ?_|((first|refine rg 3 [0, 1, 2] [0, 2, 7] [] ?_|refine nc ?_);simp (maxSteps := 1000000) [hF, hn, hk, hg])
    refine (ask_c1 h who true k).go [(0, []), (2, [])] (by simp (maxSteps := 1000000) [hF, hz, dH]) ?_;rintro av X κ ⟨rfl, rfl, rfl⟩;simp (maxSteps := 1000000) [hF, hz, dH]
    repeat first|refine n1 ?_|((first|refine rg 4 [0, 2, 7] [0, 2, 7, 42] [] ?_|refine rg 5 [7] [6] [] ?_|refine nc ?_);simp (maxSteps := 1000000) [hF, hz])
    refine VS.widen [(0, [.d])] (by simp [covers, mpre]) ?_
    (try refine nr ?_);(repeat first|refine nb_ ?_|refine nl_ ?_);refine endK.o [6] [0] [(0, [.d])] ?_;simp [hF, retK, covers, mpre, dH, hc]
   ·refine (has_c1 h true k).go [(0, []), (1, [])] (by simp (maxSteps := 1000000) [hF, ht, dH, hn, hk, hg, hw]) ?_;rintro av X κ ⟨rfl, rfl, rfl⟩;simp (maxSteps := 1000000) [hF, ht, dH, hn, hk, hg, hw]
    cases hsb : shbl h.things (k : Int) with
    | false =>
     have hc : shareOf h who k = (h, 1) := by simp [shareOf, hr, ht, hk, hg, hsb]
     refine (shareable_c h hok k hk).go [(0, [])] (by simp (maxSteps := 1000000) [hF, hsb, dH]) ?_;rintro av X κ ⟨rfl, rfl, rfl⟩;simp (maxSteps := 1000000) [hF, hsb, dH]
     repeat first|refine n1 ?_|((first|refine rg 2 [] [6] [] ?_|refine nc ?_);simp (maxSteps := 1000000) [hF, hsb])
     refine VS.widen [(0, [.d])] (by simp [covers, mpre]) ?_
     (try refine nr ?_);(repeat first|refine nb_ ?_|refine nl_ ?_);refine endK.o [6] [0] [(0, [.d])] ?_;simp [hF, retK, covers, mpre, dH, hc]
    | true =>
     refine (shareable_c h hok k hk).go [(0, [])] (by simp (maxSteps := 1000000) [hF, hsb, dH]) ?_;rintro av X κ ⟨rfl, rfl, rfl⟩;simp (maxSteps := 1000000) [hF, hsb, dH]
     repeat first|refine n1 ?_|refine n2 ?_|((first|refine rg 3 [0, 1, 2] [0, 2, 7] [] ?_|refine nc ?_);simp (maxSteps := 1000000) [hF, hsb])
     by_cases hz : askOf h who [(k : Int)] = 0
     ·have hc : shareOf h who k = ({ h with things := paint shareF (reachA h.things k) h.things }, 0) := by simp [shareOf, hr, ht, hk, hg, hsb, hz]
      have hrl := reach_len hok hk
      refine (ask_c1 h who true k).go [(0, []), (2, [])] (by simp (maxSteps := 1000000) [hF, hz, dH]) ?_;rintro av X κ ⟨rfl, rfl, rfl⟩;simp (maxSteps := 1000000) [hF, hz, dH]
      repeat first|refine n1 ?_|refine n2 ?_|((first|refine rg 4 [0, 2, 7] [0, 2, 7, 42] [] ?_|refine rg 6 [0, 2] [0, 46, 47, 48] [] ?_|refine nc ?_);simp (maxSteps := 1000000) [hF, hz])
      refine (reach_c h hok k hk).go [(0, [])] (by simp (maxSteps := 1000000) [hF, dH]) ?_;rintro av X κ ⟨rfl, rfl, rfl⟩;simp (maxSteps := 1000000) [hF, dH]
      repeat first|refine n3 ?_
      refine VS.cool 46 (by simp (maxSteps := 1000000) [hF]) ?_;simp [hF, St.cool]
      refine VS.widen [(0, [.d])] (by simp [covers, mpre]) ?_
      refine VS.pick [0, 46, 47, 48] [0] (by simp [hF]) ?_;simp [hF]
      have hLv : ∀ i, (hi : i < (reachA h.things (k : Int)).length) → ∃ y : Nat, (reachA h.things (k : Int))[i] = y ∧ y < h.things.length := fun i hi => reach_nat hok hk hi
      generalize hL : reachA h.things (k : Int) = L at *
      refine VS.rounds (fun m st => ∃ (i : Nat) (P : List Tg), i + m = L.length ∧ P = paint shareF (L.take i) h.things ∧ st = ⟨[(0, .ptr 0 [.d]), (46, .imm 1 (dInts L) false), (47, avInt L.length), (48, avInt i)], [dH { h with things := P }], [(0, [.d])], []⟩) ⟨L.length, 0, h.things, by omega, by simp [paint_nil], by simp [dH]⟩ ?_
      rintro m st ⟨i, P, hi, hP, rfl⟩
      have hPl : P.length = h.things.length := by simp [hP]
      repeat first|refine n1 ?_|((first|refine rg 7 [0, 46, 47, 48] [0, 46, 47, 48, 49] [] ?_|refine nc ?_);simp (maxSteps := 1000000) [hF])
      refine ⟨fun hlt => ?_, fun hge => ?_⟩
      ·obtain ⟨y, hy, hyl⟩ := hLv i hlt
       have hyP : y < P.length := by omega
       have hn2 := dTgs_nth (o := true) hyP
       have hin : (dInts L).nth i = .val (.int .i64 y) := by rw [dInts_nth hlt, hy]
       have hw2 : IntKind.i64.wrap ((i : Int) + 1) = (i + 1 : Nat) := by rw [IntWalk.i64_in _ (by omega)]; rfl
       have hset := dTgs_set true P y ⟨-1, P[y].list, P[y].word, P[y].items, true⟩
       have hst : P.set y ⟨-1, P[y].list, P[y].word, P[y].items, true⟩ = paint shareF (L.take (i + 1)) h.things := by
        have e : L.take (i + 1) = L.take i ++ [(y : Int)] := by rw [List.take_add_one, List.getElem?_eq_getElem hlt, hy]; rfl
        rw [e, ← paint_step (f := shareF) (fun _ => rfl) hyl]
        subst hP; rfl
       have hpos : y < h.things.length := hyl
       repeat first|refine n1 ?_|refine n2 ?_|refine n3 ?_|refine n4 ?_|refine n5 ?_|refine n6 ?_|((first|refine rg 8 [0, 46, 47, 48] [0, 9, 46, 47, 48] [] ?_|(refine dr 9 0 [0, 9, 46, 47, 48] [0, 46, 47, 48] [] [⟨0, 1, 4503599627370496, 5⟩, ⟨1, 4503599627370496, 9007199254740992, 5⟩, ⟨2, 9007199254740992, 18014398509481984, 5⟩, ⟨4, 18014398509481984, 36028797018963968, 6⟩, ⟨0, 512, 72057594037927936, 5⟩, ⟨0, 1, 144115188075855872, 5⟩, ⟨32, 144115188075855872, 288230376151711744, 5⟩, ⟨64, 288230376151711744, 576460752303423488, 5⟩, ⟨128, 576460752303423488, 1152921504606846976, 6⟩, ⟨0, 512, 2305843009213693952, 5⟩, ⟨287, 108086391056891904, 4611686018427387904, 5⟩, ⟨1311, 4611686018427387904, 9223372036854775808, 5⟩, ⟨2335, 9223372036854775808, 0, 0⟩, ⟨8191, 3458764513820540928, 18446744073709551616, 5⟩, ⟨16383, 18446744073709551616, 36893488147419103232, 5⟩, ⟨24575, 36893488147419103232, 0, 0⟩] (.take 0 (.take 1 (.take 2 (.take 3 (.take 4 (.take 5 (.take 6 (.take 7 (.take 8 (.take 9 (.take 10 (.take 11 (.fork (.alt 12 (.take 13 (.take 14 (.fork (.alt 15 (.done) (.nil))))) (.nil))))))))))))))) (.run [0, 1, 2, 3, 4, 5, 6, 7, 8, 9, 10, 11, 12, 13, 14, 15] (.done)) ?_;simp only [drs])|refine rg 10 [0, 46, 47, 48] [0, 46, 47, 48] [] ?_);simp (maxSteps := 1000000) [hF, hin, hlt, dH, hn2, hyP, hpos, hset, hw1, hw2, T.nth_setN_same])
       refine nextK.of [0, 46, 47, 48] [0] (m - 1) (by omega) (by simp [hF]) ?_
       refine ⟨i + 1, _, by omega, hst, ?_⟩
       simp [dH]
      ·have hPf : P = paint shareF L h.things := by rw [hP, List.take_of_length_le (by omega)]
       repeat first|refine n1 ?_|refine n7 ?_|(refine rg 11 [] [6] [] ?_;simp (maxSteps := 1000000) [hF])
       (try refine nr ?_);(repeat first|refine nb_ ?_|refine nl_ ?_);refine endK.o [6] [0] [(0, [.d])] ?_;simp [hF, retK, covers, mpre, dH, hc, hPf]
     ·have hc : shareOf h who k = (h, askOf h who [(k : Int)]) := by simp [shareOf, hr, ht, hk, hg, hsb, hz]
      refine (ask_c1 h who true k).go [(0, []), (2, [])] (by simp (maxSteps := 1000000) [hF, hz, dH]) ?_;rintro av X κ ⟨rfl, rfl, rfl⟩;simp (maxSteps := 1000000) [hF, hz, dH]
      repeat first|refine n1 ?_|((first|refine rg 4 [0, 2, 7] [0, 2, 7, 42] [] ?_|refine rg 5 [7] [6] [] ?_|refine nc ?_);simp (maxSteps := 1000000) [hF, hz])
      refine VS.widen [(0, [.d])] (by simp [covers, mpre]) ?_
      (try refine nr ?_);(repeat first|refine nb_ ?_|refine nl_ ?_);refine endK.o [6] [0] [(0, [.d])] ?_;simp [hF, retK, covers, mpre, dH, hc]
end Go.Proofs.Ytkkbcpcihadkhaa
