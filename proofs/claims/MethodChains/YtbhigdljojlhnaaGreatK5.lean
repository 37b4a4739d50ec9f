/- The table of this program's types. -/
import Derived.Test.YtbhigdljojlhnaaGreatK3
import Derived.Test.YtbhigdljojlhnaaGreatK4
import Derived.Test.YtbhigdljojlhnaaGreatProg
import Derived.KernelRfl
import Derived.IntWalk
import Derived.ChangeArms
import Derived.ChangeSlices
import Derived.Carry
namespace Go.Proofs.YtbhigdljojlhnaaGreat
set_option linter.all false
open Go.Vc Go.Proofs
theorem all_some {l:List Field} (h:l.all (fun f=>(Tryz.prog.info? f.type).isSome) = true):∀ f∈l,(Tryz.prog.info? f.type).isSome = true:=List.all_eq_true.1 h
noncomputable def tab:Tab:=fun t=>match t with
 | 2=>{ ld:=some (false,1),zero:=some (.val (.int .i64 0)),int:=some .i64 }
 | 3=>{ ld:=some (false,1),zero:=some (.val (.int .i64 0)),int:=some .i64 }
 | 4=>{ ld:=some (false,1),zero:=some (.val (.bool false)),bool:=true }
 | 5=>{ ld:=some (false,1),zero:=some (.val (.int .u8 0)),int:=some .u8 }
 | 6=>{ ld:=some (false,1),zero:=some (.val (.int .u8 0)),int:=some .u8 }
 | 7=>{ ld:=some (true,4),zero:=some (.agg (.cons (.val (.int .i64 0)) (.cons (.val (.int .i64 0)) (.cons (.val (.bool false)) (.cons (.val (.int .u8 0)) .nil))))),st:=some [(0,1),(1,1),(2,1),(3,1)] }
 | 8=>{ ld:=some (true,4),zero:=some (.agg (.cons (.val (.int .i64 0)) (.cons (.val (.int .i64 0)) (.cons (.val (.bool false)) (.cons (.val (.int .u8 0)) .nil))))),st:=some [(0,1),(1,1),(2,1),(3,1)] }
 | 9=>{ ld:=some (false,1),zero:=some (.val (.string ⟨#[]⟩)),str:=true }
 | 10=>{ ld:=some (false,1),zero:=some (.val (.string ⟨#[]⟩)),str:=true }
 | 11=>{ ld:=some (false,1),zero:=some (.val (.string ⟨#[]⟩)),str:=true }
 | 12=>{ ld:=some (false,1),zero:=some (.val (.int .u64 0)),int:=some .u64 }
 | 13=>{ ld:=some (true,2),zero:=some (.agg (.cons (.val (.string ⟨#[]⟩)) (.cons (.val (.int .u64 0)) .nil))),st:=some [(0,1),(1,1)] }
 | 14=>{ ld:=some (true,2),zero:=some (.agg (.cons (.val (.string ⟨#[]⟩)) (.cons (.val (.int .u64 0)) .nil))),st:=some [(0,1),(1,1)] }
 | 15=>{ ld:=some (false,1),zero:=some (.val (.pointer none)),ptr:=true }
 | 16=>{ ld:=some (false,1),zero:=some (.val (.pointer none)),ptr:=true }
 | 17=>{ ld:=some (false,1),zero:=some (.val (.pointer none)),ptr:=true }
 | 18=>{ ld:=some (true,1),zero:=some (.agg (.cons (.val (.pointer none)) .nil)),st:=some [(0,1)] }
 | 19=>{ ld:=some (true,1),zero:=some (.agg (.cons (.val (.pointer none)) .nil)),st:=some [(0,1)] }
 | 21=>{ ld:=some (false,1),zero:=some (.val (.int .i32 0)),int:=some .i32 }
 | 22=>{ sl:=some (55,8,72,(.agg #[.int .i64 0,.int .i64 0,.int .i64 0,.int .i64 0,.int .i64 0,.int .i64 0,.int .i64 0,.string ⟨#[]⟩])),ld:=some (false,1),zero:=some (.sl true (.slice none 0 0) 8 .nil) }
 | 23=>{ ld:=some (false,1),zero:=some (.val (.pointer none)),ptr:=true }
 | 24=>{ ld:=some (false,1),zero:=some (.val (.pointer none)),ptr:=true }
 | 25=>{ ld:=some (true,2),zero:=some (.agg (.cons (.val (.pointer none)) (.cons (.val (.pointer none)) .nil))),st:=some [(0,1),(1,1)] }
 | 26=>{ ld:=some (true,2),zero:=some (.agg (.cons (.val (.pointer none)) (.cons (.val (.pointer none)) .nil))),st:=some [(0,1),(1,1)] }
 | 30=>{ ld:=some (false,1),zero:=some (.val (.int .u64 0)),int:=some .u64 }
 | 31=>{ ld:=some (false,1),zero:=some (.val (.pointer none)),ptr:=true }
 | 32=>{ sl:=some (127,7,72,(.agg #[.int .i64 0,.int .i64 0,.string ⟨#[]⟩,.int .i64 0,.int .i64 0,.int .i64 0,.string ⟨#[]⟩])),ld:=some (false,1),zero:=some (.sl true (.slice none 0 0) 7 .nil) }
 | 33=>{ sl:=some (3,1,8,(.int .i64 0)),ld:=some (false,1),zero:=some (.sl true (.slice none 0 0) 1 .nil) }
 | 34=>{ ld:=some (true,4),zero:=some (.agg (.cons (.val (.bool false)) (.cons (.val (.pointer none)) (.cons (.sl true (.slice none 0 0) 7 .nil) (.cons (.sl true (.slice none 0 0) 1 .nil) .nil))))),st:=some [(0,1),(1,1),(2,1),(3,1)] }
 | 35=>{ ld:=some (true,4),zero:=some (.agg (.cons (.val (.bool false)) (.cons (.val (.pointer none)) (.cons (.sl true (.slice none 0 0) 7 .nil) (.cons (.sl true (.slice none 0 0) 1 .nil) .nil))))),st:=some [(0,1),(1,1),(2,1),(3,1)] }
 | 37=>{ ld:=some (false,1),zero:=some (.val (.int .i64 0)),int:=some .i64 }
 | 40=>{ ld:=some (true,4),zero:=some (.agg (.cons (.val (.int .i64 0)) (.cons (.val (.int .i64 0)) (.cons (.val (.int .i64 0)) (.cons (.val (.string ⟨#[]⟩)) .nil))))),st:=some [(0,1),(1,1),(2,1),(3,1)] }
 | 41=>{ ld:=some (true,4),zero:=some (.agg (.cons (.val (.int .i64 0)) (.cons (.val (.int .i64 0)) (.cons (.val (.int .i64 0)) (.cons (.val (.string ⟨#[]⟩)) .nil))))),st:=some [(0,1),(1,1),(2,1),(3,1)] }
 | 42=>{ ld:=some (true,6),zero:=some (.agg (.cons (.agg (.cons (.val (.int .i64 0)) (.cons (.val (.int .i64 0)) (.cons (.val (.int .i64 0)) (.cons (.val (.string ⟨#[]⟩)) .nil))))) (.cons (.val (.int .i64 0)) (.cons (.val (.int .i64 0)) .nil)))),st:=some [(0,4),(4,1),(5,1)] }
 | 43=>{ ld:=some (true,6),zero:=some (.agg (.cons (.agg (.cons (.val (.int .i64 0)) (.cons (.val (.int .i64 0)) (.cons (.val (.int .i64 0)) (.cons (.val (.string ⟨#[]⟩)) .nil))))) (.cons (.val (.int .i64 0)) (.cons (.val (.int .i64 0)) .nil)))),st:=some [(0,4),(4,1),(5,1)] }
 | 51=>{ ld:=some (false,1),zero:=some (.val (.pointer none)),ptr:=true }
 | 54=>{ ld:=some (true,8),zero:=some (.agg (.cons (.val (.int .i64 0)) (.cons (.val (.int .i64 0)) (.cons (.val (.int .i64 0)) (.cons (.val (.int .i64 0)) (.cons (.val (.int .i64 0)) (.cons (.val (.int .i64 0)) (.cons (.val (.int .i64 0)) (.cons (.val (.string ⟨#[]⟩)) .nil))))))))),st:=some [(0,1),(1,1),(2,1),(3,1),(4,1),(5,1),(6,1),(7,1)] }
 | 55=>{ ld:=some (true,8),zero:=some (.agg (.cons (.val (.int .i64 0)) (.cons (.val (.int .i64 0)) (.cons (.val (.int .i64 0)) (.cons (.val (.int .i64 0)) (.cons (.val (.int .i64 0)) (.cons (.val (.int .i64 0)) (.cons (.val (.int .i64 0)) (.cons (.val (.string ⟨#[]⟩)) .nil))))))))),st:=some [(0,1),(1,1),(2,1),(3,1),(4,1),(5,1),(6,1),(7,1)] }
 | 57=>{ ld:=some (true,9),zero:=some (.agg (.cons (.val (.int .i64 0)) (.cons (.val (.int .i64 0)) (.cons (.val (.int .i64 0)) (.cons (.val (.int .i64 0)) (.cons (.val (.int .i64 0)) (.cons (.val (.int .i64 0)) (.cons (.val (.string ⟨#[]⟩)) (.cons (.val (.bool false)) (.cons (.sl true (.slice none 0 0) 1 .nil) .nil)))))))))),st:=some [(0,1),(1,1),(2,1),(3,1),(4,1),(5,1),(6,1),(7,1),(8,1)] }
 | 58=>{ ld:=some (true,9),zero:=some (.agg (.cons (.val (.int .i64 0)) (.cons (.val (.int .i64 0)) (.cons (.val (.int .i64 0)) (.cons (.val (.int .i64 0)) (.cons (.val (.int .i64 0)) (.cons (.val (.int .i64 0)) (.cons (.val (.string ⟨#[]⟩)) (.cons (.val (.bool false)) (.cons (.sl true (.slice none 0 0) 1 .nil) .nil)))))))))),st:=some [(0,1),(1,1),(2,1),(3,1),(4,1),(5,1),(6,1),(7,1),(8,1)] }
 | 63=>{ sl:=some (43,6,56,(.agg #[.int .i64 0,.int .i64 0,.int .i64 0,.string ⟨#[]⟩,.int .i64 0,.int .i64 0])),ld:=some (false,1),zero:=some (.sl true (.slice none 0 0) 6 .nil) }
 | 72=>{ sl:=some (5,1,1,(.int .u8 0)),ld:=some (false,1),zero:=some (.sl true (.slice none 0 0) 1 .nil) }
 | 73=>{ sl:=some (147,6,80,(.agg #[.int .i64 0,.int .i64 0,.int .i64 0,.int .i64 0,.slice none 0 0,.slice none 0 0])),ld:=some (false,1),zero:=some (.sl true (.slice none 0 0) 6 .nil) }
 | 74=>{ ld:=some (true,2),zero:=some (.agg (.cons (.val (.bool false)) (.cons (.sl true (.slice none 0 0) 6 .nil) .nil))),st:=some [(0,1),(1,1)] }
 | 75=>{ ld:=some (true,2),zero:=some (.agg (.cons (.val (.bool false)) (.cons (.sl true (.slice none 0 0) 6 .nil) .nil))),st:=some [(0,1),(1,1)] }
 | 78=>{ ld:=some (true,2),zero:=some (.agg (.cons (.val (.int .i64 0)) (.cons (.val (.int .i64 0)) .nil))),st:=some [(0,1),(1,1)] }
 | 79=>{ ld:=some (true,2),zero:=some (.agg (.cons (.val (.int .i64 0)) (.cons (.val (.int .i64 0)) .nil))),st:=some [(0,1),(1,1)] }
 | 81=>{ ld:=some (false,1),zero:=some (.val (.map none)),mp:=some (41,.str) }
 | 82=>{ ld:=some (false,1),zero:=some (.val (.map none)),mp:=some (81,.two) }
 | 83=>{ ld:=some (false,1),zero:=some (.val (.map none)),mp:=some (4,.int .i64) }
 | 84=>{ ld:=some (true,3),zero:=some (.agg (.cons (.val (.pointer none)) (.cons (.val (.map none)) (.cons (.val (.map none)) .nil)))),st:=some [(0,1),(1,1),(2,1)] }
 | 85=>{ ld:=some (true,3),zero:=some (.agg (.cons (.val (.pointer none)) (.cons (.val (.map none)) (.cons (.val (.map none)) .nil)))),st:=some [(0,1),(1,1),(2,1)] }
 | 89=>{ sl:=some (9,1,16,(.string ⟨#[]⟩)),ld:=some (false,1),zero:=some (.sl true (.slice none 0 0) 1 .nil) }
 | 106=>{ ld:=some (true,6),zero:=some (.agg (.cons (.val (.int .i64 0)) (.cons (.val (.int .i64 0)) (.cons (.val (.int .i64 0)) (.cons (.val (.int .i64 0)) (.cons (.sl true (.slice none 0 0) 1 .nil) (.cons (.sl true (.slice none 0 0) 1 .nil) .nil))))))),st:=some [(0,1),(1,1),(2,1),(3,1),(4,1),(5,1)] }
 | 107=>{ ld:=some (true,6),zero:=some (.agg (.cons (.val (.int .i64 0)) (.cons (.val (.int .i64 0)) (.cons (.val (.int .i64 0)) (.cons (.val (.int .i64 0)) (.cons (.sl true (.slice none 0 0) 1 .nil) (.cons (.sl true (.slice none 0 0) 1 .nil) .nil))))))),st:=some [(0,1),(1,1),(2,1),(3,1),(4,1),(5,1)] }
 | 108=>{ sl:=some (107,6,80,(.agg #[.int .i64 0,.int .i64 0,.int .i64 0,.int .i64 0,.slice none 0 0,.slice none 0 0])),ld:=some (false,1),zero:=some (.sl true (.slice none 0 0) 6 .nil) }
 | 109=>{ ld:=some (true,1),zero:=some (.agg (.cons (.sl true (.slice none 0 0) 6 .nil) .nil)),st:=some [(0,1)] }
 | 110=>{ ld:=some (true,1),zero:=some (.agg (.cons (.sl true (.slice none 0 0) 6 .nil) .nil)),st:=some [(0,1)] }
 | 119=>{ sl:=some (79,2,16,(.agg #[.int .i64 0,.int .i64 0])),ld:=some (false,1),zero:=some (.sl true (.slice none 0 0) 2 .nil) }
 | 125=>{ ld:=some (true,4),zero:=some (.agg (.cons (.val (.int .i64 0)) (.cons (.val (.int .i64 0)) (.cons (.val (.int .i64 0)) (.cons (.val (.string ⟨#[]⟩)) .nil))))),st:=some [(0,1),(1,1),(2,1),(3,1)] }
 | 126=>{ ld:=some (true,7),zero:=some (.agg (.cons (.val (.int .i64 0)) (.cons (.val (.int .i64 0)) (.cons (.val (.string ⟨#[]⟩)) (.cons (.agg (.cons (.val (.int .i64 0)) (.cons (.val (.int .i64 0)) (.cons (.val (.int .i64 0)) (.cons (.val (.string ⟨#[]⟩)) .nil))))) .nil))))),st:=some [(0,1),(1,1),(2,1),(3,4)] }
 | 127=>{ ld:=some (true,7),zero:=some (.agg (.cons (.val (.int .i64 0)) (.cons (.val (.int .i64 0)) (.cons (.val (.string ⟨#[]⟩)) (.cons (.agg (.cons (.val (.int .i64 0)) (.cons (.val (.int .i64 0)) (.cons (.val (.int .i64 0)) (.cons (.val (.string ⟨#[]⟩)) .nil))))) .nil))))),st:=some [(0,1),(1,1),(2,1),(3,4)] }
 | 129=>{ ld:=some (false,1),zero:=some (.val (.map none)),mp:=some (4,.str) }
 | 132=>{ ld:=some (true,6),zero:=some (.agg (.cons (.agg (.cons (.val (.int .i64 0)) (.cons (.val (.int .i64 0)) (.cons (.val (.int .i64 0)) (.cons (.val (.string ⟨#[]⟩)) .nil))))) (.cons (.val (.int .i64 0)) (.cons (.val (.int .i64 0)) .nil)))),st:=some [(0,4),(4,1),(5,1)] }
 | 133=>{ ld:=some (true,6),zero:=some (.agg (.cons (.agg (.cons (.val (.int .i64 0)) (.cons (.val (.int .i64 0)) (.cons (.val (.int .i64 0)) (.cons (.val (.string ⟨#[]⟩)) .nil))))) (.cons (.val (.int .i64 0)) (.cons (.val (.int .i64 0)) .nil)))),st:=some [(0,4),(4,1),(5,1)] }
 | 138=>{ sl:=some (133,6,56,(.agg #[.int .i64 0,.int .i64 0,.int .i64 0,.string ⟨#[]⟩,.int .i64 0,.int .i64 0])),ld:=some (false,1),zero:=some (.sl true (.slice none 0 0) 6 .nil) }
 | 146=>{ ld:=some (true,6),zero:=some (.agg (.cons (.val (.int .i64 0)) (.cons (.val (.int .i64 0)) (.cons (.val (.int .i64 0)) (.cons (.val (.int .i64 0)) (.cons (.sl true (.slice none 0 0) 1 .nil) (.cons (.sl true (.slice none 0 0) 1 .nil) .nil))))))),st:=some [(0,1),(1,1),(2,1),(3,1),(4,1),(5,1)] }
 | 147=>{ ld:=some (true,6),zero:=some (.agg (.cons (.val (.int .i64 0)) (.cons (.val (.int .i64 0)) (.cons (.val (.int .i64 0)) (.cons (.val (.int .i64 0)) (.cons (.sl true (.slice none 0 0) 1 .nil) (.cons (.sl true (.slice none 0 0) 1 .nil) .nil))))))),st:=some [(0,1),(1,1),(2,1),(3,1),(4,1),(5,1)] }
 | 153=>{ ld:=some (false,1),zero:=some (.val (.pointer none)),ptr:=true }
 | 154=>{ ld:=some (false,1),zero:=some (.val (.pointer none)),ptr:=true }
 | 160=>{ ld:=some (false,1),zero:=some (.val (.map none)),mp:=some (33,.int .i64) }
 | 161=>{ ld:=some (false,1),zero:=some (.val (.map none)),mp:=some (33,.int .i64) }
 | 169=>{ sl:=some (33,1,24,(.slice none 0 0)),ld:=some (false,1),zero:=some (.sl true (.slice none 0 0) 1 .nil) }
 | 179=>{ ld:=some (false,1),zero:=some (.val (.pointer none)),ptr:=true }
 | 180=>{ sl:=some (4,1,1,(.bool false)),ld:=some (false,1),zero:=some (.sl true (.slice none 0 0) 1 .nil) }
 | 181=>{ ld:=some (true,2),zero:=some (.agg (.cons (.sl true (.slice none 0 0) 1 .nil) (.cons (.sl true (.slice none 0 0) 1 .nil) .nil))),st:=some [(0,1),(1,1)] }
 | 182=>{ ld:=some (true,2),zero:=some (.agg (.cons (.sl true (.slice none 0 0) 1 .nil) (.cons (.sl true (.slice none 0 0) 1 .nil) .nil))),st:=some [(0,1),(1,1)] }
 | 186=>{ ld:=some (false,1),zero:=some (.val (.int .i64 0)),int:=some .i64 }
 | 195=>{ ld:=some (false,1),zero:=some (.val (.int .u32 0)),int:=some .u32 }
 | 197=>{ ld:=some (false,1),zero:=some (.val (.int .u64 0)),int:=some .u64 }
 | 202=>{ ld:=some (false,1),zero:=some (.val (.int .u64 0)),int:=some .u64 }
 | 206=>{ ld:=some (false,1),zero:=some (.val (.pointer none)),ptr:=true }
 | 208=>{ ld:=some (false,1),zero:=some (.val (.pointer none)),ptr:=true }
 | _=>{}
theorem tab_3:tab 3 = { ld:=some (false,1),zero:=some (.val (.int .i64 0)),int:=some .i64 }:=rfl
theorem tab_4:tab 4 = { ld:=some (false,1),zero:=some (.val (.bool false)),bool:=true }:=rfl
theorem tab_9:tab 9 = { ld:=some (false,1),zero:=some (.val (.string ⟨#[]⟩)),str:=true }:=rfl
theorem tab_22:tab 22 = { sl:=some (55,8,72,(.agg #[.int .i64 0,.int .i64 0,.int .i64 0,.int .i64 0,.int .i64 0,.int .i64 0,.int .i64 0,.string ⟨#[]⟩])),ld:=some (false,1),zero:=some (.sl true (.slice none 0 0) 8 .nil) }:=rfl
theorem tab_23:tab 23 = { ld:=some (false,1),zero:=some (.val (.pointer none)),ptr:=true }:=rfl
theorem tab_24:tab 24 = { ld:=some (false,1),zero:=some (.val (.pointer none)),ptr:=true }:=rfl
theorem tab_26:tab 26 = { ld:=some (true,2),zero:=some (.agg (.cons (.val (.pointer none)) (.cons (.val (.pointer none)) .nil))),st:=some [(0,1),(1,1)] }:=rfl
theorem tab_30:tab 30 = { ld:=some (false,1),zero:=some (.val (.int .u64 0)),int:=some .u64 }:=rfl
theorem tab_31:tab 31 = { ld:=some (false,1),zero:=some (.val (.pointer none)),ptr:=true }:=rfl
theorem tab_32:tab 32 = { sl:=some (127,7,72,(.agg #[.int .i64 0,.int .i64 0,.string ⟨#[]⟩,.int .i64 0,.int .i64 0,.int .i64 0,.string ⟨#[]⟩])),ld:=some (false,1),zero:=some (.sl true (.slice none 0 0) 7 .nil) }:=rfl
theorem tab_33:tab 33 = { sl:=some (3,1,8,(.int .i64 0)),ld:=some (false,1),zero:=some (.sl true (.slice none 0 0) 1 .nil) }:=rfl
theorem tab_35:tab 35 = { ld:=some (true,4),zero:=some (.agg (.cons (.val (.bool false)) (.cons (.val (.pointer none)) (.cons (.sl true (.slice none 0 0) 7 .nil) (.cons (.sl true (.slice none 0 0) 1 .nil) .nil))))),st:=some [(0,1),(1,1),(2,1),(3,1)] }:=rfl
theorem tab_41:tab 41 = { ld:=some (true,4),zero:=some (.agg (.cons (.val (.int .i64 0)) (.cons (.val (.int .i64 0)) (.cons (.val (.int .i64 0)) (.cons (.val (.string ⟨#[]⟩)) .nil))))),st:=some [(0,1),(1,1),(2,1),(3,1)] }:=rfl
theorem tab_43:tab 43 = { ld:=some (true,6),zero:=some (.agg (.cons (.agg (.cons (.val (.int .i64 0)) (.cons (.val (.int .i64 0)) (.cons (.val (.int .i64 0)) (.cons (.val (.string ⟨#[]⟩)) .nil))))) (.cons (.val (.int .i64 0)) (.cons (.val (.int .i64 0)) .nil)))),st:=some [(0,4),(4,1),(5,1)] }:=rfl
theorem tab_51:tab 51 = { ld:=some (false,1),zero:=some (.val (.pointer none)),ptr:=true }:=rfl
theorem tab_55:tab 55 = { ld:=some (true,8),zero:=some (.agg (.cons (.val (.int .i64 0)) (.cons (.val (.int .i64 0)) (.cons (.val (.int .i64 0)) (.cons (.val (.int .i64 0)) (.cons (.val (.int .i64 0)) (.cons (.val (.int .i64 0)) (.cons (.val (.int .i64 0)) (.cons (.val (.string ⟨#[]⟩)) .nil))))))))),st:=some [(0,1),(1,1),(2,1),(3,1),(4,1),(5,1),(6,1),(7,1)] }:=rfl
theorem tab_63:tab 63 = { sl:=some (43,6,56,(.agg #[.int .i64 0,.int .i64 0,.int .i64 0,.string ⟨#[]⟩,.int .i64 0,.int .i64 0])),ld:=some (false,1),zero:=some (.sl true (.slice none 0 0) 6 .nil) }:=rfl
theorem tab_73:tab 73 = { sl:=some (147,6,80,(.agg #[.int .i64 0,.int .i64 0,.int .i64 0,.int .i64 0,.slice none 0 0,.slice none 0 0])),ld:=some (false,1),zero:=some (.sl true (.slice none 0 0) 6 .nil) }:=rfl
theorem tab_75:tab 75 = { ld:=some (true,2),zero:=some (.agg (.cons (.val (.bool false)) (.cons (.sl true (.slice none 0 0) 6 .nil) .nil))),st:=some [(0,1),(1,1)] }:=rfl
theorem tab_79:tab 79 = { ld:=some (true,2),zero:=some (.agg (.cons (.val (.int .i64 0)) (.cons (.val (.int .i64 0)) .nil))),st:=some [(0,1),(1,1)] }:=rfl
theorem tab_81:tab 81 = { ld:=some (false,1),zero:=some (.val (.map none)),mp:=some (41,.str) }:=rfl
theorem tab_82:tab 82 = { ld:=some (false,1),zero:=some (.val (.map none)),mp:=some (81,.two) }:=rfl
theorem tab_83:tab 83 = { ld:=some (false,1),zero:=some (.val (.map none)),mp:=some (4,.int .i64) }:=rfl
theorem tab_85:tab 85 = { ld:=some (true,3),zero:=some (.agg (.cons (.val (.pointer none)) (.cons (.val (.map none)) (.cons (.val (.map none)) .nil)))),st:=some [(0,1),(1,1),(2,1)] }:=rfl
theorem tab_89:tab 89 = { sl:=some (9,1,16,(.string ⟨#[]⟩)),ld:=some (false,1),zero:=some (.sl true (.slice none 0 0) 1 .nil) }:=rfl
theorem tab_107:tab 107 = { ld:=some (true,6),zero:=some (.agg (.cons (.val (.int .i64 0)) (.cons (.val (.int .i64 0)) (.cons (.val (.int .i64 0)) (.cons (.val (.int .i64 0)) (.cons (.sl true (.slice none 0 0) 1 .nil) (.cons (.sl true (.slice none 0 0) 1 .nil) .nil))))))),st:=some [(0,1),(1,1),(2,1),(3,1),(4,1),(5,1)] }:=rfl
theorem tab_108:tab 108 = { sl:=some (107,6,80,(.agg #[.int .i64 0,.int .i64 0,.int .i64 0,.int .i64 0,.slice none 0 0,.slice none 0 0])),ld:=some (false,1),zero:=some (.sl true (.slice none 0 0) 6 .nil) }:=rfl
theorem tab_110:tab 110 = { ld:=some (true,1),zero:=some (.agg (.cons (.sl true (.slice none 0 0) 6 .nil) .nil)),st:=some [(0,1)] }:=rfl
theorem tab_119:tab 119 = { sl:=some (79,2,16,(.agg #[.int .i64 0,.int .i64 0])),ld:=some (false,1),zero:=some (.sl true (.slice none 0 0) 2 .nil) }:=rfl
theorem tab_125:tab 125 = { ld:=some (true,4),zero:=some (.agg (.cons (.val (.int .i64 0)) (.cons (.val (.int .i64 0)) (.cons (.val (.int .i64 0)) (.cons (.val (.string ⟨#[]⟩)) .nil))))),st:=some [(0,1),(1,1),(2,1),(3,1)] }:=rfl
theorem tab_127:tab 127 = { ld:=some (true,7),zero:=some (.agg (.cons (.val (.int .i64 0)) (.cons (.val (.int .i64 0)) (.cons (.val (.string ⟨#[]⟩)) (.cons (.agg (.cons (.val (.int .i64 0)) (.cons (.val (.int .i64 0)) (.cons (.val (.int .i64 0)) (.cons (.val (.string ⟨#[]⟩)) .nil))))) .nil))))),st:=some [(0,1),(1,1),(2,1),(3,4)] }:=rfl
theorem tab_133:tab 133 = { ld:=some (true,6),zero:=some (.agg (.cons (.agg (.cons (.val (.int .i64 0)) (.cons (.val (.int .i64 0)) (.cons (.val (.int .i64 0)) (.cons (.val (.string ⟨#[]⟩)) .nil))))) (.cons (.val (.int .i64 0)) (.cons (.val (.int .i64 0)) .nil)))),st:=some [(0,4),(4,1),(5,1)] }:=rfl
theorem tab_147:tab 147 = { ld:=some (true,6),zero:=some (.agg (.cons (.val (.int .i64 0)) (.cons (.val (.int .i64 0)) (.cons (.val (.int .i64 0)) (.cons (.val (.int .i64 0)) (.cons (.sl true (.slice none 0 0) 1 .nil) (.cons (.sl true (.slice none 0 0) 1 .nil) .nil))))))),st:=some [(0,1),(1,1),(2,1),(3,1),(4,1),(5,1)] }:=rfl
theorem tab_161:tab 161 = { ld:=some (false,1),zero:=some (.val (.map none)),mp:=some (33,.int .i64) }:=rfl
theorem tab_169:tab 169 = { sl:=some (33,1,24,(.slice none 0 0)),ld:=some (false,1),zero:=some (.sl true (.slice none 0 0) 1 .nil) }:=rfl
theorem tab_180:tab 180 = { sl:=some (4,1,1,(.bool false)),ld:=some (false,1),zero:=some (.sl true (.slice none 0 0) 1 .nil) }:=rfl
theorem tab_182:tab 182 = { ld:=some (true,2),zero:=some (.agg (.cons (.sl true (.slice none 0 0) 1 .nil) (.cons (.sl true (.slice none 0 0) 1 .nil) .nil))),st:=some [(0,1),(1,1)] }:=rfl
set_option linter.defProp false
def tabd_3:=@tab_3
def tabd_4:=@tab_4
def tabd_9:=@tab_9
def tabd_22:=@tab_22
def tabd_23:=@tab_23
def tabd_24:=@tab_24
def tabd_26:=@tab_26
def tabd_30:=@tab_30
def tabd_31:=@tab_31
def tabd_32:=@tab_32
def tabd_33:=@tab_33
def tabd_35:=@tab_35
def tabd_41:=@tab_41
def tabd_43:=@tab_43
def tabd_51:=@tab_51
def tabd_55:=@tab_55
def tabd_63:=@tab_63
def tabd_73:=@tab_73
def tabd_75:=@tab_75
def tabd_79:=@tab_79
def tabd_81:=@tab_81
def tabd_82:=@tab_82
def tabd_83:=@tab_83
def tabd_85:=@tab_85
def tabd_89:=@tab_89
def tabd_107:=@tab_107
def tabd_108:=@tab_108
def tabd_110:=@tab_110
def tabd_119:=@tab_119
def tabd_125:=@tab_125
def tabd_127:=@tab_127
def tabd_133:=@tab_133
def tabd_147:=@tab_147
def tabd_161:=@tab_161
def tabd_169:=@tab_169
def tabd_180:=@tab_180
def tabd_182:=@tab_182
attribute [simp] tabd_3 tabd_4 tabd_9 tabd_22 tabd_23 tabd_24 tabd_26 tabd_30 tabd_31 tabd_32 tabd_33 tabd_35 tabd_41 tabd_43 tabd_51 tabd_55 tabd_63 tabd_73 tabd_75 tabd_79 tabd_81 tabd_82 tabd_83 tabd_85 tabd_89 tabd_107 tabd_108 tabd_110 tabd_119 tabd_125 tabd_127 tabd_133 tabd_147 tabd_161 tabd_169 tabd_180 tabd_182
theorem tabOk_2:(tab 2).Ok Tryz.prog 2:=.okI Tryz.t2 (.int .i64 0) rfl rfl (int:=by intro k h;cases h;kernel_rfl)
theorem tabOk_3:(tab 3).Ok Tryz.prog 3:=.okI Tryz.t3 (.int .i64 0) rfl rfl (int:=by intro k h;cases h;kernel_rfl)
theorem tabOk_4:(tab 4).Ok Tryz.prog 4:=.okI Tryz.t4 (.bool false) rfl rfl (bool:=by intro _;kernel_rfl)
theorem tabOk_5:(tab 5).Ok Tryz.prog 5:=.okI Tryz.t5 (.int .u8 0) rfl rfl (int:=by intro k h;cases h;kernel_rfl)
theorem tabOk_6:(tab 6).Ok Tryz.prog 6:=.okI Tryz.t6 (.int .u8 0) rfl rfl (int:=by intro k h;cases h;kernel_rfl)
theorem tabOk_7:(tab 7).Ok Tryz.prog 7:=.okI Tryz.t7 (.agg #[.int .i64 0,.int .i64 0,.bool false,.int .u8 0]) rfl rfl (st:=by intro l h;cases h;exact ⟨_,Tryz.underlying7,by kernel_rfl,(by exact all_some (by kernel_rfl)),by kernel_rfl⟩)
theorem tabOk_8:(tab 8).Ok Tryz.prog 8:=.okI Tryz.t8 (.agg #[.int .i64 0,.int .i64 0,.bool false,.int .u8 0]) rfl rfl (st:=by intro l h;cases h;exact ⟨_,Tryz.underlying8,by kernel_rfl,(by exact all_some (by kernel_rfl)),by kernel_rfl⟩)
theorem tabOk_9:(tab 9).Ok Tryz.prog 9:=.okI Tryz.t9 (.string ⟨#[]⟩) rfl rfl (str:=by intro _;kernel_rfl)
theorem tabOk_10:(tab 10).Ok Tryz.prog 10:=.okI Tryz.t10 (.string ⟨#[]⟩) rfl rfl (str:=by intro _;kernel_rfl)
theorem tabOk_11:(tab 11).Ok Tryz.prog 11:=.okI Tryz.t11 (.string ⟨#[]⟩) rfl rfl (str:=by intro _;kernel_rfl)
theorem tabOk_12:(tab 12).Ok Tryz.prog 12:=.okI Tryz.t12 (.int .u64 0) rfl rfl (int:=by intro k h;cases h;kernel_rfl)
theorem tabOk_13:(tab 13).Ok Tryz.prog 13:=.okI Tryz.t13 (.agg #[.string ⟨#[]⟩,.int .u64 0]) rfl rfl (st:=by intro l h;cases h;exact ⟨_,Tryz.underlying13,by kernel_rfl,(by exact all_some (by kernel_rfl)),by kernel_rfl⟩)
theorem tabOk_14:(tab 14).Ok Tryz.prog 14:=.okI Tryz.t14 (.agg #[.string ⟨#[]⟩,.int .u64 0]) rfl rfl (st:=by intro l h;cases h;exact ⟨_,Tryz.underlying14,by kernel_rfl,(by exact all_some (by kernel_rfl)),by kernel_rfl⟩)
theorem tabOk_15:(tab 15).Ok Tryz.prog 15:=.okI Tryz.t15 (.pointer none) rfl rfl (ptr:=by intro _;exact ⟨213,by kernel_rfl⟩)
theorem tabOk_16:(tab 16).Ok Tryz.prog 16:=.okI Tryz.t16 (.pointer none) rfl rfl (ptr:=by intro _;exact ⟨216,by kernel_rfl⟩)
theorem tabOk_17:(tab 17).Ok Tryz.prog 17:=.okI Tryz.t17 (.pointer none) rfl rfl (ptr:=by intro _;exact ⟨224,by kernel_rfl⟩)
theorem tabOk_18:(tab 18).Ok Tryz.prog 18:=.okI Tryz.t18 (.agg #[.pointer none]) rfl rfl (st:=by intro l h;cases h;exact ⟨_,Tryz.underlying18,by kernel_rfl,(by exact all_some (by kernel_rfl)),by kernel_rfl⟩)
theorem tabOk_19:(tab 19).Ok Tryz.prog 19:=.okI Tryz.t19 (.agg #[.pointer none]) rfl rfl (st:=by intro l h;cases h;exact ⟨_,Tryz.underlying19,by kernel_rfl,(by exact all_some (by kernel_rfl)),by kernel_rfl⟩)
theorem tabOk_21:(tab 21).Ok Tryz.prog 21:=.okI Tryz.t21 (.int .i32 0) rfl rfl (int:=by intro k h;cases h;kernel_rfl)
theorem tabOk_22:(tab 22).Ok Tryz.prog 22:=.okI Tryz.t22 (.slice none 0 0) rfl rfl (sl:=by intro e z b v h;cases h;exact ⟨by kernel_rfl,Tryz.t55,by kernel_rfl,by kernel_rfl,by kernel_rfl,by kernel_rfl,by kernel_rfl⟩)
theorem tabOk_23:(tab 23).Ok Tryz.prog 23:=.okI Tryz.t23 (.pointer none) rfl rfl (ptr:=by intro _;exact ⟨85,by kernel_rfl⟩)
theorem tabOk_24:(tab 24).Ok Tryz.prog 24:=.okI Tryz.t24 (.pointer none) rfl rfl (ptr:=by intro _;exact ⟨35,by kernel_rfl⟩)
theorem tabOk_25:(tab 25).Ok Tryz.prog 25:=.okI Tryz.t25 (.agg #[.pointer none,.pointer none]) rfl rfl (st:=by intro l h;cases h;exact ⟨_,Tryz.underlying25,by kernel_rfl,(by exact all_some (by kernel_rfl)),by kernel_rfl⟩)
theorem tabOk_26:(tab 26).Ok Tryz.prog 26:=.okI Tryz.t26 (.agg #[.pointer none,.pointer none]) rfl rfl (st:=by intro l h;cases h;exact ⟨_,Tryz.underlying26,by kernel_rfl,(by exact all_some (by kernel_rfl)),by kernel_rfl⟩)
theorem tabOk_30:(tab 30).Ok Tryz.prog 30:=.okI Tryz.t30 (.int .u64 0) rfl rfl (int:=by intro k h;cases h;kernel_rfl)
theorem tabOk_31:(tab 31).Ok Tryz.prog 31:=.okI Tryz.t31 (.pointer none) rfl rfl (ptr:=by intro _;exact ⟨75,by kernel_rfl⟩)
theorem tabOk_32:(tab 32).Ok Tryz.prog 32:=.okI Tryz.t32 (.slice none 0 0) rfl rfl (sl:=by intro e z b v h;cases h;exact ⟨by kernel_rfl,Tryz.t127,by kernel_rfl,by kernel_rfl,by kernel_rfl,by kernel_rfl,by kernel_rfl⟩)
theorem tabOk_33:(tab 33).Ok Tryz.prog 33:=.okI Tryz.t33 (.slice none 0 0) rfl rfl (sl:=by intro e z b v h;cases h;exact ⟨by kernel_rfl,Tryz.t3,by kernel_rfl,by kernel_rfl,by kernel_rfl,by kernel_rfl,by kernel_rfl⟩)
theorem tabOk_34:(tab 34).Ok Tryz.prog 34:=.okI Tryz.t34 (.agg #[.bool false,.pointer none,.slice none 0 0,.slice none 0 0]) rfl rfl (st:=by intro l h;cases h;exact ⟨_,Tryz.underlying34,by kernel_rfl,(by exact all_some (by kernel_rfl)),by kernel_rfl⟩)
theorem tabOk_35:(tab 35).Ok Tryz.prog 35:=.okI Tryz.t35 (.agg #[.bool false,.pointer none,.slice none 0 0,.slice none 0 0]) rfl rfl (st:=by intro l h;cases h;exact ⟨_,Tryz.underlying35,by kernel_rfl,(by exact all_some (by kernel_rfl)),by kernel_rfl⟩)
theorem tabOk_37:(tab 37).Ok Tryz.prog 37:=.okI Tryz.t37 (.int .i64 0) rfl rfl (int:=by intro k h;cases h;kernel_rfl)
theorem tabOk_40:(tab 40).Ok Tryz.prog 40:=.okI Tryz.t40 (.agg #[.int .i64 0,.int .i64 0,.int .i64 0,.string ⟨#[]⟩]) rfl rfl (st:=by intro l h;cases h;exact ⟨_,Tryz.underlying40,by kernel_rfl,(by exact all_some (by kernel_rfl)),by kernel_rfl⟩)
theorem tabOk_41:(tab 41).Ok Tryz.prog 41:=.okI Tryz.t41 (.agg #[.int .i64 0,.int .i64 0,.int .i64 0,.string ⟨#[]⟩]) rfl rfl (st:=by intro l h;cases h;exact ⟨_,Tryz.underlying41,by kernel_rfl,(by exact all_some (by kernel_rfl)),by kernel_rfl⟩)
theorem tabOk_42:(tab 42).Ok Tryz.prog 42:=.okI Tryz.t42 (.agg #[.int .i64 0,.int .i64 0,.int .i64 0,.string ⟨#[]⟩,.int .i64 0,.int .i64 0]) rfl rfl (st:=by intro l h;cases h;exact ⟨_,Tryz.underlying42,by kernel_rfl,(by exact all_some (by kernel_rfl)),by kernel_rfl⟩)
theorem tabOk_43:(tab 43).Ok Tryz.prog 43:=.okI Tryz.t43 (.agg #[.int .i64 0,.int .i64 0,.int .i64 0,.string ⟨#[]⟩,.int .i64 0,.int .i64 0]) rfl rfl (st:=by intro l h;cases h;exact ⟨_,Tryz.underlying43,by kernel_rfl,(by exact all_some (by kernel_rfl)),by kernel_rfl⟩)
theorem tabOk_51:(tab 51).Ok Tryz.prog 51:=.okI Tryz.t51 (.pointer none) rfl rfl (ptr:=by intro _;exact ⟨110,by kernel_rfl⟩)
theorem tabOk_54:(tab 54).Ok Tryz.prog 54:=.okI Tryz.t54 (.agg #[.int .i64 0,.int .i64 0,.int .i64 0,.int .i64 0,.int .i64 0,.int .i64 0,.int .i64 0,.string ⟨#[]⟩]) rfl rfl (st:=by intro l h;cases h;exact ⟨_,Tryz.underlying54,by kernel_rfl,(by exact all_some (by kernel_rfl)),by kernel_rfl⟩)
theorem tabOk_55:(tab 55).Ok Tryz.prog 55:=.okI Tryz.t55 (.agg #[.int .i64 0,.int .i64 0,.int .i64 0,.int .i64 0,.int .i64 0,.int .i64 0,.int .i64 0,.string ⟨#[]⟩]) rfl rfl (st:=by intro l h;cases h;exact ⟨_,Tryz.underlying55,by kernel_rfl,(by exact all_some (by kernel_rfl)),by kernel_rfl⟩)
theorem tabOk_57:(tab 57).Ok Tryz.prog 57:=.okI Tryz.t57 (.agg #[.int .i64 0,.int .i64 0,.int .i64 0,.int .i64 0,.int .i64 0,.int .i64 0,.string ⟨#[]⟩,.bool false,.slice none 0 0]) rfl rfl (st:=by intro l h;cases h;exact ⟨_,Tryz.underlying57,by kernel_rfl,(by exact all_some (by kernel_rfl)),by kernel_rfl⟩)
theorem tabOk_58:(tab 58).Ok Tryz.prog 58:=.okI Tryz.t58 (.agg #[.int .i64 0,.int .i64 0,.int .i64 0,.int .i64 0,.int .i64 0,.int .i64 0,.string ⟨#[]⟩,.bool false,.slice none 0 0]) rfl rfl (st:=by intro l h;cases h;exact ⟨_,Tryz.underlying58,by kernel_rfl,(by exact all_some (by kernel_rfl)),by kernel_rfl⟩)
theorem tabOk_63:(tab 63).Ok Tryz.prog 63:=.okI Tryz.t63 (.slice none 0 0) rfl rfl (sl:=by intro e z b v h;cases h;exact ⟨by kernel_rfl,Tryz.t43,by kernel_rfl,by kernel_rfl,by kernel_rfl,by kernel_rfl,by kernel_rfl⟩)
theorem tabOk_72:(tab 72).Ok Tryz.prog 72:=.okI Tryz.t72 (.slice none 0 0) rfl rfl (sl:=by intro e z b v h;cases h;exact ⟨by kernel_rfl,Tryz.t5,by kernel_rfl,by kernel_rfl,by kernel_rfl,by kernel_rfl,by kernel_rfl⟩)
theorem tabOk_73:(tab 73).Ok Tryz.prog 73:=.okI Tryz.t73 (.slice none 0 0) rfl rfl (sl:=by intro e z b v h;cases h;exact ⟨by kernel_rfl,Tryz.t147,by kernel_rfl,by kernel_rfl,by kernel_rfl,by kernel_rfl,by kernel_rfl⟩)
theorem tabOk_74:(tab 74).Ok Tryz.prog 74:=.okI Tryz.t74 (.agg #[.bool false,.slice none 0 0]) rfl rfl (st:=by intro l h;cases h;exact ⟨_,Tryz.underlying74,by kernel_rfl,(by exact all_some (by kernel_rfl)),by kernel_rfl⟩)
theorem tabOk_75:(tab 75).Ok Tryz.prog 75:=.okI Tryz.t75 (.agg #[.bool false,.slice none 0 0]) rfl rfl (st:=by intro l h;cases h;exact ⟨_,Tryz.underlying75,by kernel_rfl,(by exact all_some (by kernel_rfl)),by kernel_rfl⟩)
theorem tabOk_78:(tab 78).Ok Tryz.prog 78:=.okI Tryz.t78 (.agg #[.int .i64 0,.int .i64 0]) rfl rfl (st:=by intro l h;cases h;exact ⟨_,Tryz.underlying78,by kernel_rfl,(by exact all_some (by kernel_rfl)),by kernel_rfl⟩)
theorem tabOk_79:(tab 79).Ok Tryz.prog 79:=.okI Tryz.t79 (.agg #[.int .i64 0,.int .i64 0]) rfl rfl (st:=by intro l h;cases h;exact ⟨_,Tryz.underlying79,by kernel_rfl,(by exact all_some (by kernel_rfl)),by kernel_rfl⟩)
theorem tabOk_81:(tab 81).Ok Tryz.prog 81:=.okI Tryz.t81 (.map none) rfl rfl (mp:=by intro e k h;cases h;exact ⟨9,by kernel_rfl,.str (by kernel_rfl)⟩)
theorem tabOk_82:(tab 82).Ok Tryz.prog 82:=.okI Tryz.t82 (.map none) rfl rfl (mp:=by intro e k h;cases h;exact ⟨79,by kernel_rfl,.two Tryz.underlying79 (by kernel_rfl) ⟨by decide,rfl,by kernel_rfl⟩ ⟨by decide,rfl,by kernel_rfl⟩⟩)
theorem tabOk_83:(tab 83).Ok Tryz.prog 83:=.okI Tryz.t83 (.map none) rfl rfl (mp:=by intro e k h;cases h;exact ⟨3,by kernel_rfl,.int (by kernel_rfl)⟩)
theorem tabOk_84:(tab 84).Ok Tryz.prog 84:=.okI Tryz.t84 (.agg #[.pointer none,.map none,.map none]) rfl rfl (st:=by intro l h;cases h;exact ⟨_,Tryz.underlying84,by kernel_rfl,(by exact all_some (by kernel_rfl)),by kernel_rfl⟩)
theorem tabOk_85:(tab 85).Ok Tryz.prog 85:=.okI Tryz.t85 (.agg #[.pointer none,.map none,.map none]) rfl rfl (st:=by intro l h;cases h;exact ⟨_,Tryz.underlying85,by kernel_rfl,(by exact all_some (by kernel_rfl)),by kernel_rfl⟩)
theorem tabOk_89:(tab 89).Ok Tryz.prog 89:=.okI Tryz.t89 (.slice none 0 0) rfl rfl (sl:=by intro e z b v h;cases h;exact ⟨by kernel_rfl,Tryz.t9,by kernel_rfl,by kernel_rfl,by kernel_rfl,by kernel_rfl,by kernel_rfl⟩)
theorem tabOk_106:(tab 106).Ok Tryz.prog 106:=.okI Tryz.t106 (.agg #[.int .i64 0,.int .i64 0,.int .i64 0,.int .i64 0,.slice none 0 0,.slice none 0 0]) rfl rfl (st:=by intro l h;cases h;exact ⟨_,Tryz.underlying106,by kernel_rfl,(by exact all_some (by kernel_rfl)),by kernel_rfl⟩)
theorem tabOk_107:(tab 107).Ok Tryz.prog 107:=.okI Tryz.t107 (.agg #[.int .i64 0,.int .i64 0,.int .i64 0,.int .i64 0,.slice none 0 0,.slice none 0 0]) rfl rfl (st:=by intro l h;cases h;exact ⟨_,Tryz.underlying107,by kernel_rfl,(by exact all_some (by kernel_rfl)),by kernel_rfl⟩)
theorem tabOk_108:(tab 108).Ok Tryz.prog 108:=.okI Tryz.t108 (.slice none 0 0) rfl rfl (sl:=by intro e z b v h;cases h;exact ⟨by kernel_rfl,Tryz.t107,by kernel_rfl,by kernel_rfl,by kernel_rfl,by kernel_rfl,by kernel_rfl⟩)
theorem tabOk_109:(tab 109).Ok Tryz.prog 109:=.okI Tryz.t109 (.agg #[.slice none 0 0]) rfl rfl (st:=by intro l h;cases h;exact ⟨_,Tryz.underlying109,by kernel_rfl,(by exact all_some (by kernel_rfl)),by kernel_rfl⟩)
theorem tabOk_110:(tab 110).Ok Tryz.prog 110:=.okI Tryz.t110 (.agg #[.slice none 0 0]) rfl rfl (st:=by intro l h;cases h;exact ⟨_,Tryz.underlying110,by kernel_rfl,(by exact all_some (by kernel_rfl)),by kernel_rfl⟩)
theorem tabOk_119:(tab 119).Ok Tryz.prog 119:=.okI Tryz.t119 (.slice none 0 0) rfl rfl (sl:=by intro e z b v h;cases h;exact ⟨by kernel_rfl,Tryz.t79,by kernel_rfl,by kernel_rfl,by kernel_rfl,by kernel_rfl,by kernel_rfl⟩)
theorem tabOk_125:(tab 125).Ok Tryz.prog 125:=.okI Tryz.t125 (.agg #[.int .i64 0,.int .i64 0,.int .i64 0,.string ⟨#[]⟩]) rfl rfl (st:=by intro l h;cases h;exact ⟨_,Tryz.underlying125,by kernel_rfl,(by exact all_some (by kernel_rfl)),by kernel_rfl⟩)
theorem tabOk_126:(tab 126).Ok Tryz.prog 126:=.okI Tryz.t126 (.agg #[.int .i64 0,.int .i64 0,.string ⟨#[]⟩,.int .i64 0,.int .i64 0,.int .i64 0,.string ⟨#[]⟩]) rfl rfl (st:=by intro l h;cases h;exact ⟨_,Tryz.underlying126,by kernel_rfl,(by exact all_some (by kernel_rfl)),by kernel_rfl⟩)
theorem tabOk_127:(tab 127).Ok Tryz.prog 127:=.okI Tryz.t127 (.agg #[.int .i64 0,.int .i64 0,.string ⟨#[]⟩,.int .i64 0,.int .i64 0,.int .i64 0,.string ⟨#[]⟩]) rfl rfl (st:=by intro l h;cases h;exact ⟨_,Tryz.underlying127,by kernel_rfl,(by exact all_some (by kernel_rfl)),by kernel_rfl⟩)
theorem tabOk_129:(tab 129).Ok Tryz.prog 129:=.okI Tryz.t129 (.map none) rfl rfl (mp:=by intro e k h;cases h;exact ⟨9,by kernel_rfl,.str (by kernel_rfl)⟩)
theorem tabOk_132:(tab 132).Ok Tryz.prog 132:=.okI Tryz.t132 (.agg #[.int .i64 0,.int .i64 0,.int .i64 0,.string ⟨#[]⟩,.int .i64 0,.int .i64 0]) rfl rfl (st:=by intro l h;cases h;exact ⟨_,Tryz.underlying132,by kernel_rfl,(by exact all_some (by kernel_rfl)),by kernel_rfl⟩)
theorem tabOk_133:(tab 133).Ok Tryz.prog 133:=.okI Tryz.t133 (.agg #[.int .i64 0,.int .i64 0,.int .i64 0,.string ⟨#[]⟩,.int .i64 0,.int .i64 0]) rfl rfl (st:=by intro l h;cases h;exact ⟨_,Tryz.underlying133,by kernel_rfl,(by exact all_some (by kernel_rfl)),by kernel_rfl⟩)
theorem tabOk_138:(tab 138).Ok Tryz.prog 138:=.okI Tryz.t138 (.slice none 0 0) rfl rfl (sl:=by intro e z b v h;cases h;exact ⟨by kernel_rfl,Tryz.t133,by kernel_rfl,by kernel_rfl,by kernel_rfl,by kernel_rfl,by kernel_rfl⟩)
theorem tabOk_146:(tab 146).Ok Tryz.prog 146:=.okI Tryz.t146 (.agg #[.int .i64 0,.int .i64 0,.int .i64 0,.int .i64 0,.slice none 0 0,.slice none 0 0]) rfl rfl (st:=by intro l h;cases h;exact ⟨_,Tryz.underlying146,by kernel_rfl,(by exact all_some (by kernel_rfl)),by kernel_rfl⟩)
theorem tabOk_147:(tab 147).Ok Tryz.prog 147:=.okI Tryz.t147 (.agg #[.int .i64 0,.int .i64 0,.int .i64 0,.int .i64 0,.slice none 0 0,.slice none 0 0]) rfl rfl (st:=by intro l h;cases h;exact ⟨_,Tryz.underlying147,by kernel_rfl,(by exact all_some (by kernel_rfl)),by kernel_rfl⟩)
theorem tabOk_153:(tab 153).Ok Tryz.prog 153:=.okI Tryz.t153 (.pointer none) rfl rfl (ptr:=by intro _;exact ⟨107,by kernel_rfl⟩)
theorem tabOk_154:(tab 154).Ok Tryz.prog 154:=.okI Tryz.t154 (.pointer none) rfl rfl (ptr:=by intro _;exact ⟨33,by kernel_rfl⟩)
theorem tabOk_160:(tab 160).Ok Tryz.prog 160:=.okI Tryz.t160 (.map none) rfl rfl (mp:=by intro e k h;cases h;exact ⟨3,by kernel_rfl,.int (by kernel_rfl)⟩)
theorem tabOk_161:(tab 161).Ok Tryz.prog 161:=.okI Tryz.t161 (.map none) rfl rfl (mp:=by intro e k h;cases h;exact ⟨3,by kernel_rfl,.int (by kernel_rfl)⟩)
theorem tabOk_169:(tab 169).Ok Tryz.prog 169:=.okI Tryz.t169 (.slice none 0 0) rfl rfl (sl:=by intro e z b v h;cases h;exact ⟨by kernel_rfl,Tryz.t33,by kernel_rfl,by kernel_rfl,by kernel_rfl,by kernel_rfl,by kernel_rfl⟩)
theorem tabOk_179:(tab 179).Ok Tryz.prog 179:=.okI Tryz.t179 (.pointer none) rfl rfl (ptr:=by intro _;exact ⟨182,by kernel_rfl⟩)
theorem tabOk_180:(tab 180).Ok Tryz.prog 180:=.okI Tryz.t180 (.slice none 0 0) rfl rfl (sl:=by intro e z b v h;cases h;exact ⟨by kernel_rfl,Tryz.t4,by kernel_rfl,by kernel_rfl,by kernel_rfl,by kernel_rfl,by kernel_rfl⟩)
theorem tabOk_181:(tab 181).Ok Tryz.prog 181:=.okI Tryz.t181 (.agg #[.slice none 0 0,.slice none 0 0]) rfl rfl (st:=by intro l h;cases h;exact ⟨_,Tryz.underlying181,by kernel_rfl,(by exact all_some (by kernel_rfl)),by kernel_rfl⟩)
theorem tabOk_182:(tab 182).Ok Tryz.prog 182:=.okI Tryz.t182 (.agg #[.slice none 0 0,.slice none 0 0]) rfl rfl (st:=by intro l h;cases h;exact ⟨_,Tryz.underlying182,by kernel_rfl,(by exact all_some (by kernel_rfl)),by kernel_rfl⟩)
theorem tabOk_186:(tab 186).Ok Tryz.prog 186:=.okI Tryz.t186 (.int .i64 0) rfl rfl (int:=by intro k h;cases h;kernel_rfl)
theorem tabOk_195:(tab 195).Ok Tryz.prog 195:=.okI Tryz.t195 (.int .u32 0) rfl rfl (int:=by intro k h;cases h;kernel_rfl)
theorem tabOk_197:(tab 197).Ok Tryz.prog 197:=.okI Tryz.t197 (.int .u64 0) rfl rfl (int:=by intro k h;cases h;kernel_rfl)
theorem tabOk_202:(tab 202).Ok Tryz.prog 202:=.okI Tryz.t202 (.int .u64 0) rfl rfl (int:=by intro k h;cases h;kernel_rfl)
theorem tabOk_206:(tab 206).Ok Tryz.prog 206:=.okI Tryz.t206 (.pointer none) rfl rfl (ptr:=by intro _;exact ⟨3,by kernel_rfl⟩)
theorem tabOk_208:(tab 208).Ok Tryz.prog 208:=.okI Tryz.t208 (.pointer none) rfl rfl (ptr:=by intro _;exact ⟨202,by kernel_rfl⟩)
theorem tabOk:Tab.Ok Tryz.prog tab:=fun t=>by
 unfold tab
 split
 ·exact tabOk_2
 ·exact tabOk_3
 ·exact tabOk_4
 ·exact tabOk_5
 ·exact tabOk_6
 ·exact tabOk_7
 ·exact tabOk_8
 ·exact tabOk_9
 ·exact tabOk_10
 ·exact tabOk_11
 ·exact tabOk_12
 ·exact tabOk_13
 ·exact tabOk_14
 ·exact tabOk_15
 ·exact tabOk_16
 ·exact tabOk_17
 ·exact tabOk_18
 ·exact tabOk_19
 ·exact tabOk_21
 ·exact tabOk_22
 ·exact tabOk_23
 ·exact tabOk_24
 ·exact tabOk_25
 ·exact tabOk_26
 ·exact tabOk_30
 ·exact tabOk_31
 ·exact tabOk_32
 ·exact tabOk_33
 ·exact tabOk_34
 ·exact tabOk_35
 ·exact tabOk_37
 ·exact tabOk_40
 ·exact tabOk_41
 ·exact tabOk_42
 ·exact tabOk_43
 ·exact tabOk_51
 ·exact tabOk_54
 ·exact tabOk_55
 ·exact tabOk_57
 ·exact tabOk_58
 ·exact tabOk_63
 ·exact tabOk_72
 ·exact tabOk_73
 ·exact tabOk_74
 ·exact tabOk_75
 ·exact tabOk_78
 ·exact tabOk_79
 ·exact tabOk_81
 ·exact tabOk_82
 ·exact tabOk_83
 ·exact tabOk_84
 ·exact tabOk_85
 ·exact tabOk_89
 ·exact tabOk_106
 ·exact tabOk_107
 ·exact tabOk_108
 ·exact tabOk_109
 ·exact tabOk_110
 ·exact tabOk_119
 ·exact tabOk_125
 ·exact tabOk_126
 ·exact tabOk_127
 ·exact tabOk_129
 ·exact tabOk_132
 ·exact tabOk_133
 ·exact tabOk_138
 ·exact tabOk_146
 ·exact tabOk_147
 ·exact tabOk_153
 ·exact tabOk_154
 ·exact tabOk_160
 ·exact tabOk_161
 ·exact tabOk_169
 ·exact tabOk_179
 ·exact tabOk_180
 ·exact tabOk_181
 ·exact tabOk_182
 ·exact tabOk_186
 ·exact tabOk_195
 ·exact tabOk_197
 ·exact tabOk_202
 ·exact tabOk_206
 ·exact tabOk_208
 ·exact .okN
theorem mixedOk:Tryz.prog.follows .mixedOrders = true:=by kernel_rfl
theorem fb {f:FuncId} {fn:Func} {body:Code} {Y:List D} {args:AV} {R:AV→List D→List (Nat×Path)→Prop} (hf:Tryz.prog.funcs[f]? = some fn) {nt:Nat} (hnt:fn.ntmps = nt) (rs:List ResultVar) {st:St}
  (h:∀ w0 I0 F0,F0.length = Y.length→VS ⟨Tryz.prog,nt,w0,I0,F0⟩ [body] (endK Y.length tab rs R) st)
  (hb:fn.body = some body:=by rfl) (hname:(fn.name == "runtime.NumGoroutine") = false:=by kernel_rfl) (hrs:fn.results.toList = rs:=by kernel_rfl)
  (hl:args.isList = true:=by rfl) (hlen:args.len≤nt:=by simp [AV.len]) (hst:⟨envOf 0 args,Y,[],[]⟩ = st:=by simp only [envOf];exact rfl):Meets Tryz.prog f Y args R :=
 Meets.of_vs tabOk hf hb hname hnt hrs hl hlen hst h
theorem fbS {f:FuncId} {fn:Func} {body:Code} {Y:List D} {args:AV} {R:AV→List D→List (Nat×Path)→Prop} (hf:Tryz.prog.funcs[f]? = some fn) {nt:Nat} (hnt:fn.ntmps = nt) (rs:List ResultVar) {st:St}
  (h:∀ w0 I0 F0,F0.length = Y.length→VS ⟨Tryz.prog,nt,w0,I0,F0⟩ [body] (endS ⟨Tryz.prog,nt,w0,I0,F0⟩ tab rs R) st)
  (hb:fn.body = some body:=by rfl) (hname:(fn.name == "runtime.NumGoroutine") = false:=by kernel_rfl) (hrs:fn.results.toList = rs:=by kernel_rfl)
  (hl:args.isList = true:=by rfl) (hlen:args.len≤nt:=by simp [AV.len]) (hst:⟨envOf 0 args,Y,[],[]⟩ = st:=by simp only [envOf];exact rfl):Meets Tryz.prog f Y args R :=
 Meets.of_vsS tabOk hf hb hname hnt hrs hl hlen hst h
theorem fbP {f:FuncId} {fn:Func} {body:Code} {Y:List D} {pl:List (Nat×Path×AV)} {args:AV} {R:AV→List D→List (Nat×Path)→Prop} (hf:Tryz.prog.funcs[f]? = some fn) {nt:Nat} (hnt:fn.ntmps = nt) (rs:List ResultVar) {st:St}
  (h:∀ w0 I0 F0,F0.length = Y.length→VS ⟨Tryz.prog,nt,w0,I0,F0⟩ [body] (endK Y.length tab rs R) st)
  (hb:fn.body = some body:=by rfl) (hname:(fn.name == "runtime.NumGoroutine") = false:=by kernel_rfl) (hrs:fn.results.toList = rs:=by kernel_rfl)
  (hl:args.isList = true:=by rfl) (hlen:args.len≤nt:=by simp [AV.len]) (hst:⟨envOf 0 args,Y,[],pl⟩ = st:=by simp only [envOf];exact rfl):MeetsP Tryz.prog f Y pl args R :=
 MeetsP.of_vs tabOk hf hb hname hnt hrs hl hlen hst h
section
variable {nt:Nat} {w0:World} {I0:Nat→Prop} {F0:List G} {l:List Code} {K:Exit→St→Prop} {st:St}
theorem rg (id:Nat) {ops:List Oper} (pre post:List Tmp) (gs:List (Nat×Tmp)) (h:vcOps ⟨Tryz.prog,nt,w0,I0,F0⟩ tab gs ops 0 (st.keep pre) (VSk ⟨Tryz.prog,nt,w0,I0,F0⟩ l K post))
  (hd:regOk nt ops gs = true:=by kernel_rfl):VS ⟨Tryz.prog,nt,w0,I0,F0⟩ (.region id ops.toArray false :: l) K st:=VS.rg tabOk id pre post gs h hd
theorem dr (id:Nat) {ops:List Oper} (EM:Nat) (pre post:List Tmp) (gs:List (Nat×Tmp)) (T:List Rw) (p:Plan) (o:OP)
  (h:opsVc ⟨Tryz.prog,nt,w0,I0,F0⟩ tab gs ops o (st.keep pre) (VSk ⟨Tryz.prog,nt,w0,I0,F0⟩ l K post))
  (hT:ops.map (rowOf ops.toArray) = T:=by kernel_rfl) (hok:drawOk EM nt ops gs T p = true:=by kernel_rfl) (ho:opOf EM p = o:=by kernel_rfl):VS ⟨Tryz.prog,nt,w0,I0,F0⟩ (.region id ops.toArray true :: l) K st:=VS.dr tabOk mixedOk id EM pre post gs T p o h hT hok ho
end
end Go.Proofs.YtbhigdljojlhnaaGreat

/- How lists, things, lineages and maps of orders are laid. -/
namespace Go.Proofs.YtbhigdljojlhnaaGreat
set_option linter.all false
open Go.Vc Go.Proofs
open Go.Vc.T (keyT)
abbrev avInt (n:Int):AV:=.val (.int .i64 n)
abbrev avBool (b:Bool):AV:=.val (.bool b)
@[simp] theorem dInts_nil:dInts [] = .nil:=rfl
theorem freeze_sq (l:List D):(sq l).freeze = sq (l.map T.freeze):=by
 induction l with
 | nil=>rfl
 | cons a l ih=>simp [sq,T.freeze,ih]
@[simp] theorem freeze_ints (l:List Int):(dInts l).freeze = dInts l:=by
 rw [dInts,freeze_sq,List.map_map];rfl
@[simp] theorem dInts_mid_all (l:List Int):(dInts l).mid 0 l.length = dInts l:=sq_mid_all _ _ (by simp)
theorem dInts_mid (l:List Int) (lo n:Nat):(dInts l).mid lo n = dInts ((l.drop lo).take n):=by simp only [dInts,sq_mid,←List.map_drop,←List.map_take]
theorem dInts_app (l m:List Int):(dInts l).app (dInts m) = dInts (l ++ m):=by simp only [dInts,sq_app,List.map_append]
theorem dInts_set (l:List Int) (i:Nat) (x:Int):(dInts l).setN i (.val (.int .i64 x)) = dInts (l.set i x):=by simp only [dInts,sq_setN,List.map_set];rfl
theorem zeros_ints (n:Nat):(sq (List.replicate n (.val (.int .i64 0))):D) = dInts (List.replicate n 0):=by simp [dInts,dInt]
def dLs (l:List (List Int)):D:=sq (l.map fun o=>.sl false () 1 (dInts o))
@[simp] theorem dLs_len (l:List (List Int)):(dLs l).len = l.length:=by simp [dLs]
@[simp] theorem dLs_nil:dLs [] = .nil:=rfl
@[simp] theorem dLs_free (l:List (List Int)):(dLs l).free = true:=sq_free fun x hx=>by obtain ⟨n,_,rfl⟩:=List.mem_map.1 hx;simp
theorem dLs_nth {l:List (List Int)} {i:Nat} (h:i < l.length):(dLs l).nth i = .sl false () 1 (dInts l[i]):=by
 rw [dLs,sq_nth_lt (by simpa using h)];simp
theorem dLs_set (l:List (List Int)) (i:Nat) (x:List Int):(dLs l).setN i (.sl false () 1 (dInts x)) = dLs (l.set i x):=by simp only [dLs,sq_setN,List.map_set]
theorem dLs_app (l m:List (List Int)):(dLs l).app (dLs m) = dLs (l ++ m):=by simp only [dLs,sq_app,List.map_append]
theorem dLs_app1 (l:List (List Int)) (x:List Int):(dLs l).app (.cons (.sl false () 1 (dInts x)) .nil) = dLs (l ++ [x]):=dLs_app l [x]
theorem dLs_mid (l:List (List Int)) (lo n:Nat):(dLs l).mid lo n = dLs ((l.drop lo).take n):=by simp only [dLs,sq_mid,←List.map_drop,←List.map_take]
@[simp] theorem dLs_mid_all (l:List (List Int)):(dLs l).mid 0 l.length = dLs l:=sq_mid_all _ _ (by simp)
structure Th where
 kind:Int
 sup:Int
 obj:Int
 own:Int
 bef:List Int
 ins:List Int
def dTh (t:Th):D:=.agg (.cons (.val (.int .i64 t.kind)) (.cons (.val (.int .i64 t.sup)) (.cons (.val (.int .i64 t.obj)) (.cons (.val (.int .i64 t.own)) (.cons (.sl false () 1 (dInts t.bef)) (.cons (.sl false () 1 (dInts t.ins)) .nil))))))
def dThs (l:List Th):D:=sq (l.map dTh)
def dL (l:List Th):D:=.box true () (.agg (.cons (.sl true () 6 (dThs l)) .nil))
def avTh (t:Th):AV:=.agg (.cons (avInt t.kind) (.cons (avInt t.sup) (.cons (avInt t.obj) (.cons (avInt t.own) (.cons (.imm 1 (dInts t.bef) false) (.cons (.imm 1 (dInts t.ins) false) .nil))))))
@[simp high] theorem head_dL (l:List Th):isHead (dL l) = true:=by rw [dL,isHead]
@[simp] theorem dThs_len (l:List Th):(dThs l).len = l.length:=by simp [dThs]
@[simp] theorem dThs_free (l:List Th):(dThs l).free = true:=sq_free fun x hx=>by obtain ⟨n,_,rfl⟩:=List.mem_map.1 hx;simp [dTh]
theorem dThs_nth {l:List Th} {i:Nat} (h:i < l.length):(dThs l).nth i = .agg (.cons (.val (.int .i64 l[i].kind)) (.cons (.val (.int .i64 l[i].sup)) (.cons (.val (.int .i64 l[i].obj)) (.cons (.val (.int .i64 l[i].own)) (.cons (.sl false () 1 (dInts l[i].bef)) (.cons (.sl false () 1 (dInts l[i].ins)) .nil)))))):=by
 rw [dThs,sq_nth_lt (by simpa using h)];simp;rfl
theorem dThs_set (l:List Th) (i:Nat) (t:Th):(dThs l).setN i (.agg (.cons (.val (.int .i64 t.kind)) (.cons (.val (.int .i64 t.sup)) (.cons (.val (.int .i64 t.obj)) (.cons (.val (.int .i64 t.own)) (.cons (.sl false () 1 (dInts t.bef)) (.cons (.sl false () 1 (dInts t.ins)) .nil))))))) = dThs (l.set i t):=by
 simp only [dThs,sq_setN,List.map_set];rfl
theorem dThs_push (l:List Th) (t:Th):(dThs l).app (.cons (.agg (.cons (.val (.int .i64 t.kind)) (.cons (.val (.int .i64 t.sup)) (.cons (.val (.int .i64 t.obj)) (.cons (.val (.int .i64 t.own)) (.cons (.sl false () 1 (dInts t.bef)) (.cons (.sl false () 1 (dInts t.ins)) .nil))))))) .nil) = dThs (l ++ [t]):=by
 simp only [dThs,List.map_append,←sq_app];rfl
@[simp] theorem dThs_mid_all (l:List Th):(dThs l).mid 0 l.length = dThs l:=sq_mid_all _ _ (by simp)
def dEn (e:Int×List Int):D:=.agg (.cons (.val (.int .i64 e.1)) (.cons (.sl false () 1 (dInts e.2)) .nil))
def dEns (l:List (Int×List Int)):D:=sq (l.map dEn)
def dM (l:List (Int×List Int)):D:=.map true () (dEns l)
@[simp high] theorem head_dM (l:List (Int×List Int)):isHead (dM l) = true:=by rw [dM,isHead]
@[simp] theorem dEns_nil:dEns [] = .nil:=rfl
theorem dEns_cons (e:Int×List Int) (l:List (Int×List Int)):dEns (e :: l) = .cons (.agg (.cons (.val (.int .i64 e.1)) (.cons (.sl false () 1 (dInts e.2)) .nil))) (dEns l):=rfl
@[simp] theorem dEns_keys (l:List (Int×List Int)):mkeysOk (.int .i64) (dEns l) = True:=by
 refine eq_true ?_
 induction l with
 | nil=>trivial
 | cons e l ih=>rw [dEns_cons];exact ⟨⟨.int .i64 e.1,rfl,rfl⟩,ih⟩
theorem keyT_int {α:Type} (k:IntKind) (n:Int):(keyT (.int k n):T α) = .val (.int k n):=rfl
theorem keyT_str {α:Type} (s:ByteArray):(keyT (.string s):T α) = .val (.string s):=rfl
def got (l:List (Int×List Int)) (k:Int):Option (List Int):=(l.find? fun e=>e.1 = k).map (·.2)
theorem dEns_find (l:List (Int×List Int)) (k:Int):mfind (.int .i64 k) (dEns l) = (got l k).map fun o=>.sl false () 1 (dInts o):=by
 induction l with
 | nil=>rfl
 | cons e l ih =>
  rw [dEns_cons]
  unfold mfind
  by_cases h:e.1 = k
  ·rw [if_pos (by rw [h];rfl)];simp [got,h]
  ·rw [if_neg (by simpa [keyT_int] using h),ih];simp [got,h]
end Go.Proofs.YtbhigdljojlhnaaGreat

/- Where something is in a list: slices.Index and Contains. -/
namespace Go.Proofs.YtbhigdljojlhnaaGreat
set_option linter.all false
open Go.Vc Go.Proofs
set_option linter.unusedSimpArgs false
set_option maxRecDepth 100000
set_option maxHeartbeats 4000000
attribute [local irreducible] CallW EqK
def ixF {α:Type} (p:α→Bool) (l:List α):Int:=if l.any p then (l.findIdx p:Int) else -1
theorem ixF_hit {α:Type} {p:α→Bool} {l:List α} {i:Nat} (hi:i < l.length) (hall:∀ j,(h:j < i)→p (l[j]'(by omega)) = false) (hp:p l[i] = true):ixF p l = i:=by
 have h1:l.any p = true:=List.any_eq_true.2 ⟨_,List.getElem_mem hi,hp⟩
 have h2:l.findIdx p = i:=(List.findIdx_eq hi).2 ⟨hp,fun j hj=>hall j hj⟩
 rw [ixF,if_pos h1,h2]
theorem ixF_miss {α:Type} {p:α→Bool} {l:List α} (hall:∀ j,(h:j < l.length)→p l[j] = false):ixF p l = -1:=by
 have h1:¬ l.any p = true:=by
  rw [List.any_eq_true]
  rintro ⟨x,hx,hp⟩
  obtain ⟨i,hi,rfl⟩:=List.getElem_of_mem hx
  rw [hall i hi] at hp;cases hp
 rw [ixF,if_neg h1]
theorem ixF_ge {α:Type} {p:α→Bool} {l:List α}:(0≤ixF p l) = (l.any p = true):=by
 unfold ixF
 by_cases h:l.any p = true
 ·rw [if_pos h];simp [h]
 ·rw [if_neg h];simp [h]
def hasN (l:List Int) (v:Int):Bool:=l.any fun x=>decide (x = v)
theorem hasN_iff {l:List Int} {v:Int}:hasN l v = true↔v∈l:=by simp [hasN]
theorem index_ok (ex:Bool) (l:List Int) (v:Int) (hl:l.length≤100000000):Meets Tryz.prog 134 [] (.cons (.imm 1 (dInts l) ex) (.cons (avInt v) .nil))
  fun av X κ=>av = avInt (ixF (fun x=>decide (x = v)) l)∧X = []∧κ = []:=by
 refine fb Tryz.func134 Tryz.ntmps134 [.tmp 4] fun w0 I0 F0 hF=>?_
 repeat first|refine n1 ?_|refine n3 ?_|((first|refine rg 0 [0,1] [0,1] [] ?_|refine rg 1 [0,1] [0,1,7,8] [] ?_);simp (maxSteps:=1000000) [hF])
 refine VS.rounds (fun m st=>∃ (i:Nat),i + m = l.length∧(∀ j,(h:j < l.length)→j < i→¬ l[j] = v)∧st = ⟨[(0,.imm 1 (dInts l) ex),(1,avInt v),(7,avInt l.length),(8,avInt i)],[],[],[]⟩) ⟨l.length,0,by omega,by omega,by simp⟩ ?_
 rintro m st ⟨i,hi,hall,rfl⟩
 repeat first|refine n1 ?_|((first|refine rg 2 [0,1,7,8] [0,1,7,8,9] [] ?_|refine nc ?_);simp (maxSteps:=1000000) [hF])
 refine ⟨fun hlt=>?_,fun hge=>?_⟩
 ·have hi':i < l.length:=by omega
  have hn:=dInts_nth hi'
  repeat first|refine n1 ?_|refine n2 ?_|refine n3 ?_|((first|refine rg 3 [0,1,7,8] [0,1,5,7,8] [] ?_|refine rg 4 [0,1,5,7,8] [0,1,5,7,8,16] [] ?_|refine nc ?_);simp (maxSteps:=1000000) [hF,hn,hi'])
  refine ⟨fun he=>?_,fun he=>?_⟩
  ·have hr:ixF (fun x=>decide (x = v)) l = i:=ixF_hit hi' (fun j h=>by simpa using hall j (by omega) h) (by simpa using he.symm)
   repeat first|refine n1 ?_|((refine rg 5 [5] [4] [] ?_);simp (maxSteps:=1000000) [hF])
   (try refine nr ?_);(repeat first|refine nb_ ?_|refine nl_ ?_);refine endK.o [4] [] [] ?_;simp [hF,retK,covers,mpre,hr]
  ·repeat first|refine n2 ?_|refine n4 ?_|refine n5 ?_|refine n6 ?_|((refine rg 6 [0,1,7,8] [0,1,7,8] [] ?_);simp (maxSteps:=1000000) [hF])
   refine nextK.of [0,1,7,8] [] (m - 1) (by omega) (by simp [hF]) ?_
   refine ⟨i + 1,by omega,?_,?_⟩
   ·intro j hj hji
    rcases Nat.lt_or_ge j i with h' | h'
    ·exact hall j hj h'
    ·obtain rfl:j = i:=by omega
     exact fun e=>he e.symm
   ·simp
    exact IntWalk.i64_in _ (by omega)
 ·have hr:ixF (fun x=>decide (x = v)) l = -1:=ixF_miss (fun j h=>by simpa using hall j h (by omega))
  repeat first|refine n1 ?_|refine n7 ?_|((refine rg 7 [] [4] [] ?_);simp (maxSteps:=1000000) [hF])
  (try refine nr ?_);(repeat first|refine nb_ ?_|refine nl_ ?_);refine endK.o [4] [] [] ?_;simp [hF,retK,covers,mpre,hr]
theorem contains_ok (ex:Bool) (l:List Int) (v:Int) (hl:l.length≤100000000):Meets Tryz.prog 124 [] (.cons (.imm 1 (dInts l) ex) (.cons (avInt v) .nil))
  fun av X κ=>av = avBool (hasN l v)∧X = []∧κ = []:=by
 refine fb Tryz.func124 Tryz.ntmps124 [.tmp 4] fun w0 I0 F0 hF=>?_
 repeat first|refine n1 ?_|((first|refine rg 0 [0,1] [0,1] [] ?_|refine rg 1 [0,1] [4] [] ?_);simp (maxSteps:=1000000) [hF])
 refine (index_ok ex l v hl).go [] (by simp (maxSteps:=1000000) [hF]) ?_;rintro av X κ ⟨rfl,rfl,rfl⟩;simp (maxSteps:=1000000) [hF]
 repeat first|refine n1 ?_
 have h:decide (0≤ixF (fun x=>decide (x = v)) l) = hasN l v:=by simp only [ixF_ge,hasN,Bool.decide_eq_true]
 (try refine nr ?_);(repeat first|refine nb_ ?_|refine nl_ ?_);refine endK.o [4] [] [] ?_;simp [hF,retK,covers,mpre,h]
def dBox (x:List Int):D:=.box true () (.sl false () 1 (dInts x))
def dBoxL (l:List (List Int)):D:=.box true () (.sl true () 1 (dLs l))
@[simp high] theorem head_dBox (l:List Int):isHead (dBox l) = true:=by rw [dBox,isHead]
@[simp high] theorem head_dBoxL (l:List (List Int)):isHead (dBoxL l) = true:=by rw [dBoxL,isHead]
theorem indexFunc_1 (ex:Bool) (ls:List (List Int)) (hl:ls.length≤100000000) (p:List Int→Bool)
  (hg:∀ i,(h:i < ls.length)→Meets Tryz.prog 152 [] (.cons (.imm 1 (dInts ls[i]) false) .nil) fun av X κ=>av = avBool (p ls[i])∧X = []∧κ = []) :
  Meets Tryz.prog 153 [.sl true () 1 (dLs ls)] (.cons (.sub 0 [] 0 ls.length ex) (.cons (.fn 152 .nil) .nil))
  fun av X κ=>av = avInt (ixF p ls)∧X = [.sl true () 1 (dLs ls)]∧κ = []:=by
 refine fb Tryz.func153 Tryz.ntmps153 [.tmp 4] fun w0 I0 F0 hF=>?_
 repeat first|refine n1 ?_|refine n3 ?_|((first|refine rg 0 [0,1] [0,1] [] ?_|refine rg 1 [0,1] [0,1,7,8] [] ?_);simp (maxSteps:=1000000) [hF])
 refine VS.rounds (fun m st=>∃ (i:Nat),i + m = ls.length∧(∀ j,(h:j < ls.length)→j < i→p ls[j] = false)∧st = ⟨[(0,.sub 0 [] 0 ls.length ex),(1,.fn 152 .nil),(7,avInt ls.length),(8,avInt i)],[.sl true () 1 (dLs ls)],[],[]⟩) ⟨ls.length,0,by omega,by omega,by simp⟩ ?_
 rintro m st ⟨i,hi,hall,rfl⟩
 repeat first|refine n1 ?_|((first|refine rg 2 [0,1,7,8] [0,1,7,8,9] [] ?_|refine nc ?_);simp (maxSteps:=1000000) [hF])
 refine ⟨fun hlt=>?_,fun hge=>?_⟩
 ·have hi':i < ls.length:=by omega
  have hn:=dLs_nth hi'
  repeat first|refine n1 ?_|refine n2 ?_|refine n3 ?_|((first|refine rg 3 [0,1,7,8] [0,1,5,7,8] [] ?_|refine rg 4 [0,1,5,7,8] [0,1,5,7,8,16] [] ?_);simp (maxSteps:=1000000) [hF,hn,hi'])
  refine (hg i hi').go [] (by simp (maxSteps:=1000000) [hF]) ?_;rintro av X κ ⟨rfl,rfl,rfl⟩;simp (maxSteps:=1000000) [hF]
  cases hp:p ls[i] with
  | true =>
   have hr:ixF p ls = i:=ixF_hit hi' (fun j h=>hall j (by omega) h) hp
   repeat first|refine n1 ?_|((first|refine rg 5 [5] [4] [] ?_|refine nc ?_);simp (maxSteps:=1000000) [hF,hp])
   (try refine nr ?_);(repeat first|refine nb_ ?_|refine nl_ ?_);refine endK.o [4] [0] [] ?_;simp [hF,retK,covers,mpre,hr]
  | false =>
   repeat first|refine n2 ?_|refine n4 ?_|refine n5 ?_|refine n6 ?_|((first|refine rg 6 [0,1,7,8] [0,1,7,8] [] ?_|refine nc ?_);simp (maxSteps:=1000000) [hF,hp])
   refine nextK.of [0,1,7,8] [0] (m - 1) (by omega) (by simp [hF]) ?_
   refine ⟨i + 1,by omega,?_,?_⟩
   ·intro j hj hji
    rcases Nat.lt_or_ge j i with h' | h'
    ·exact hall j hj h'
    ·obtain rfl:j = i:=by omega
     exact hp
   ·simp
    exact IntWalk.i64_in _ (by omega)
 ·have hr:ixF p ls = -1:=ixF_miss (fun j h=>hall j h (by omega))
  repeat first|refine n1 ?_|refine n7 ?_|((refine rg 7 [] [4] [] ?_);simp (maxSteps:=1000000) [hF])
  (try refine nr ?_);(repeat first|refine nb_ ?_|refine nl_ ?_);refine endK.o [4] [0] [] ?_;simp [hF,retK,covers,mpre,hr]
theorem indexFunc_2 (ex:Bool) (ls:List (List Int)) (hl:ls.length≤100000000) (p:List Int→Bool)
  (hg:∀ i,(h:i < ls.length)→Meets Tryz.prog 154 [dBoxL ls] (.cons (.imm 1 (dInts ls[i]) false) (.cons (.ptr 0 [.d]) .nil)) fun av X κ=>av = avBool (p ls[i])∧X = [dBoxL ls]∧κ = []) :
  Meets Tryz.prog 153 [dBoxL ls] (.cons (.sub 0 [.d] 0 ls.length ex) (.cons (.fn 154 (.cons (.ptr 0 [.d]) .nil)) .nil))
  fun av X κ=>av = avInt (ixF p ls)∧X = [dBoxL ls]∧κ = []:=by
 refine fb Tryz.func153 Tryz.ntmps153 [.tmp 4] fun w0 I0 F0 hF=>?_
 repeat first|refine n1 ?_|refine n3 ?_|((first|refine rg 0 [0,1] [0,1] [] ?_|refine rg 1 [0,1] [0,1,7,8] [] ?_);simp (maxSteps:=1000000) [hF,dBoxL])
 refine VS.rounds (fun m st=>∃ (i:Nat),i + m = ls.length∧(∀ j,(h:j < ls.length)→j < i→p ls[j] = false)∧st = ⟨[(0,.sub 0 [.d] 0 ls.length ex),(1,.fn 154 (.cons (.ptr 0 [.d]) .nil)),(7,avInt ls.length),(8,avInt i)],[dBoxL ls],[],[]⟩) ⟨ls.length,0,by omega,by omega,by simp [dBoxL]⟩ ?_
 rintro m st ⟨i,hi,hall,rfl⟩
 repeat first|refine n1 ?_|((first|refine rg 2 [0,1,7,8] [0,1,7,8,9] [] ?_|refine nc ?_);simp (maxSteps:=1000000) [hF,dBoxL])
 refine ⟨fun hlt=>?_,fun hge=>?_⟩
 ·have hi':i < ls.length:=by omega
  have hn:=dLs_nth hi'
  repeat first|refine n1 ?_|refine n2 ?_|refine n3 ?_|((first|refine rg 3 [0,1,7,8] [0,1,5,7,8] [] ?_|refine rg 4 [0,1,5,7,8] [0,1,5,7,8,16] [] ?_);simp (maxSteps:=1000000) [hF,dBoxL,hn,hi'])
  refine (hg i hi').go [(0,[])] (by simp (maxSteps:=1000000) [hF,dBoxL]) ?_;rintro av X κ ⟨rfl,rfl,rfl⟩;simp (maxSteps:=1000000) [hF,dBoxL]
  cases hp:p ls[i] with
  | true =>
   have hr:ixF p ls = i:=ixF_hit hi' (fun j h=>hall j (by omega) h) hp
   repeat first|refine n1 ?_|((first|refine rg 5 [5] [4] [] ?_|refine nc ?_);simp (maxSteps:=1000000) [hF,hp])
   (try refine nr ?_);(repeat first|refine nb_ ?_|refine nl_ ?_);refine endK.o [4] [0] [] ?_;simp [hF,retK,covers,mpre,dBoxL,hr]
  | false =>
   repeat first|refine n2 ?_|refine n4 ?_|refine n5 ?_|refine n6 ?_|((first|refine rg 6 [0,1,7,8] [0,1,7,8] [] ?_|refine nc ?_);simp (maxSteps:=1000000) [hF,hp])
   refine nextK.of [0,1,7,8] [0] (m - 1) (by omega) (by simp [hF]) ?_
   refine ⟨i + 1,by omega,?_,?_⟩
   ·intro j hj hji
    rcases Nat.lt_or_ge j i with h' | h'
    ·exact hall j hj h'
    ·obtain rfl:j = i:=by omega
     exact hp
   ·simp [dBoxL]
    exact IntWalk.i64_in _ (by omega)
 ·have hr:ixF p ls = -1:=ixF_miss (fun j h=>hall j h (by omega))
  repeat first|refine n1 ?_|refine n7 ?_|((refine rg 7 [] [4] [] ?_);simp (maxSteps:=1000000) [hF])
  (try refine nr ?_);(repeat first|refine nb_ ?_|refine nl_ ?_);refine endK.o [4] [0] [] ?_;simp [hF,retK,covers,mpre,dBoxL,hr]
theorem indexFunc_3 (ex:Bool) (ls:List (List Int)) (x:List Int) (hl:ls.length≤100000000) (p:List Int→Bool)
  (hg:∀ i,(h:i < ls.length)→Meets Tryz.prog 156 [dBox x] (.cons (.imm 1 (dInts ls[i]) false) (.cons (.ptr 0 [.d]) .nil)) fun av X κ=>av = avBool (p ls[i])∧X = [dBox x]∧κ = []) :
  Meets Tryz.prog 153 [dBoxL ls,dBox x] (.cons (.sub 0 [.d] 0 ls.length ex) (.cons (.fn 156 (.cons (.ptr 1 [.d]) .nil)) .nil))
  fun av X κ=>av = avInt (ixF p ls)∧X = [dBoxL ls,dBox x]∧κ = []:=by
 refine fb Tryz.func153 Tryz.ntmps153 [.tmp 4] fun w0 I0 F0 hF=>?_
 repeat first|refine n1 ?_|refine n3 ?_|((first|refine rg 0 [0,1] [0,1] [] ?_|refine rg 1 [0,1] [0,1,7,8] [] ?_);simp (maxSteps:=1000000) [hF,dBoxL,dBox])
 refine VS.rounds (fun m st=>∃ (i:Nat),i + m = ls.length∧(∀ j,(h:j < ls.length)→j < i→p ls[j] = false)∧st = ⟨[(0,.sub 0 [.d] 0 ls.length ex),(1,.fn 156 (.cons (.ptr 1 [.d]) .nil)),(7,avInt ls.length),(8,avInt i)],[dBoxL ls,dBox x],[],[]⟩) ⟨ls.length,0,by omega,by omega,by simp [dBoxL,dBox]⟩ ?_
 rintro m st ⟨i,hi,hall,rfl⟩
 repeat first|refine n1 ?_|((first|refine rg 2 [0,1,7,8] [0,1,7,8,9] [] ?_|refine nc ?_);simp (maxSteps:=1000000) [hF,dBoxL,dBox])
 refine ⟨fun hlt=>?_,fun hge=>?_⟩
 ·have hi':i < ls.length:=by omega
  have hn:=dLs_nth hi'
  repeat first|refine n1 ?_|refine n2 ?_|refine n3 ?_|((first|refine rg 3 [0,1,7,8] [0,1,5,7,8] [] ?_|refine rg 4 [0,1,5,7,8] [0,1,5,7,8,16] [] ?_);simp (maxSteps:=1000000) [hF,dBoxL,dBox,hn,hi'])
  refine (hg i hi').go [(1,[])] (by simp (maxSteps:=1000000) [hF,dBoxL,dBox]) ?_;rintro av X κ ⟨rfl,rfl,rfl⟩;simp (maxSteps:=1000000) [hF,dBoxL,dBox]
  cases hp:p ls[i] with
  | true =>
   have hr:ixF p ls = i:=ixF_hit hi' (fun j h=>hall j (by omega) h) hp
   repeat first|refine n1 ?_|((first|refine rg 5 [5] [4] [] ?_|refine nc ?_);simp (maxSteps:=1000000) [hF,hp])
   (try refine nr ?_);(repeat first|refine nb_ ?_|refine nl_ ?_);refine endK.o [4] [0,1] [] ?_;simp [hF,retK,covers,mpre,dBoxL,dBox,hr]
  | false =>
   repeat first|refine n2 ?_|refine n4 ?_|refine n5 ?_|refine n6 ?_|((first|refine rg 6 [0,1,7,8] [0,1,7,8] [] ?_|refine nc ?_);simp (maxSteps:=1000000) [hF,hp])
   refine nextK.of [0,1,7,8] [0,1] (m - 1) (by omega) (by simp [hF]) ?_
   refine ⟨i + 1,by omega,?_,?_⟩
   ·intro j hj hji
    rcases Nat.lt_or_ge j i with h' | h'
    ·exact hall j hj h'
    ·obtain rfl:j = i:=by omega
     exact hp
   ·simp [dBoxL,dBox]
    exact IntWalk.i64_in _ (by omega)
 ·have hr:ixF p ls = -1:=ixF_miss (fun j h=>hall j h (by omega))
  repeat first|refine n1 ?_|refine n7 ?_|((refine rg 7 [] [4] [] ?_);simp (maxSteps:=1000000) [hF])
  (try refine nr ?_);(repeat first|refine nb_ ?_|refine nl_ ?_);refine endK.o [4] [0,1] [] ?_;simp [hF,retK,covers,mpre,dBoxL,dBox,hr]
theorem dInts_tail (y:List Int):(dInts y).mid 1 (y.length - 1) = dInts y.tail:=by
 rw [dInts_mid,List.take_of_length_le (by simp),List.drop_one]
def nul (x:List Int):Bool:=decide (x.length = 0)
theorem m1_ok (ex:Bool) (x:List Int):Meets Tryz.prog 152 [] (.cons (.imm 1 (dInts x) ex) .nil) fun av X κ=>av = avBool (nul x)∧X = []∧κ = []:=by
 refine fb Tryz.func152 Tryz.ntmps152 [.tmp 2] fun w0 I0 F0 hF=>?_
 repeat first|refine n1 ?_|((first|refine rg 0 [0] [0] [] ?_|refine rg 1 [0] [2] [] ?_);simp (maxSteps:=1000000) [hF])
 (try refine nr ?_);(repeat first|refine nb_ ?_|refine nl_ ?_);refine endK.o [2] [] [] ?_;simp [hF,retK,covers,mpre,nul]
theorem m21_ok (ex:Bool) (y x:List Int) (hy:0 < y.length) (hy2:y.length≤100000000) (hx:0 < x.length):Meets Tryz.prog 156 [dBox x] (.cons (.imm 1 (dInts y) ex) (.cons (.ptr 0 [.d]) .nil))
  fun av X κ=>av = avBool (hasN y.tail x[0])∧X = [dBox x]∧κ = []:=by
 have hn:=dInts_nth hx
 have h1:1≤y.length:=hy
 have h2:(1:Int)≤y.length:=by omega
 refine fb Tryz.func156 Tryz.ntmps156 [.tmp 3] fun w0 I0 F0 hF=>?_
 repeat first|refine n1 ?_|((first|refine rg 0 [0,1] [0,1] [] ?_|(refine dr 1 0 [0,1] [3] [] [⟨0,1,16,5⟩,⟨1,16,32,5⟩,⟨0,2,64,6⟩,⟨4,64,128,5⟩,⟨8,128,256,6⟩,⟨18,288,512,0⟩,⟨63,512,8,5⟩] (.take 0 (.take 1 (.take 2 (.take 3 (.take 4 (.fork (.alt 5 (.take 6 (.done)) (.nil)))))))) (.run [0,1,2,3,4,5,6] (.done)) ?_;simp only [drs]));simp (maxSteps:=1000000) [hF,dBox,hn,hx,h1,h2,dInts_tail])
 refine (contains_ok ex y.tail x[0] (by simp;omega)).go [] (by simp (maxSteps:=1000000) [hF]) ?_;rintro av X κ ⟨rfl,rfl,rfl⟩;simp (maxSteps:=1000000) [hF]
 repeat first|refine n1 ?_
 (try refine nr ?_);(repeat first|refine nb_ ?_|refine nl_ ?_);refine endK.o [3] [0] [] ?_;simp [hF,retK,covers,mpre,dBox]
def inTails (ls:List (List Int)) (v:Int):Bool:=ls.any fun y=>hasN y.tail v
theorem containsFunc_ok (ex:Bool) (ls:List (List Int)) (x:List Int) (hl:ls.length≤100000000) (hne:∀ y∈ls,0 < y.length) (hle:∀ y∈ls,y.length≤100000000) (hx:0 < x.length) :
  Meets Tryz.prog 155 [dBoxL ls,dBox x] (.cons (.sub 0 [.d] 0 ls.length ex) (.cons (.fn 156 (.cons (.ptr 1 [.d]) .nil)) .nil))
  fun av X κ=>av = avBool (inTails ls x[0])∧X = [dBoxL ls,dBox x]∧κ = []:=by
 refine fb Tryz.func155 Tryz.ntmps155 [.tmp 4] fun w0 I0 F0 hF=>?_
 repeat first|refine n1 ?_|((first|refine rg 0 [0,1] [0,1] [] ?_|refine rg 1 [0,1] [4] [] ?_);simp (maxSteps:=1000000) [hF])
 refine (indexFunc_3 ex ls x hl (fun y=>hasN y.tail x[0]) (fun i h=>m21_ok false ls[i] x (hne _ (List.getElem_mem h)) (hle _ (List.getElem_mem h)) hx)).go [(0,[]),(1,[])] (by simp (maxSteps:=1000000) [hF,dBoxL,dBox]) ?_;rintro av X κ ⟨rfl,rfl,rfl⟩;simp (maxSteps:=1000000) [hF,dBoxL,dBox]
 repeat first|refine n1 ?_
 have h:decide ((0:Int)≤ixF (fun y=>hasN y.tail x[0]) ls) = inTails ls x[0]:=by simp only [ixF_ge,inTails,Bool.decide_eq_true]
 (try refine nr ?_);(repeat first|refine nb_ ?_|refine nl_ ?_);refine endK.o [4] [0,1] [] ?_;simp [hF,retK,covers,mpre,h,dBoxL,dBox]
theorem m2_ok (ex:Bool) (ls:List (List Int)) (x:List Int) (hl:ls.length≤100000000) (hne:∀ y∈ls,0 < y.length) (hle:∀ y∈ls,y.length≤100000000) (hx:0 < x.length) :
  Meets Tryz.prog 154 [dBoxL ls] (.cons (.imm 1 (dInts x) ex) (.cons (.ptr 0 [.d]) .nil))
  fun av X κ=>av = avBool (!inTails ls x[0])∧X = [dBoxL ls]∧κ = []:=by
 refine fb Tryz.func154 Tryz.ntmps154 [.tmp 3] fun w0 I0 F0 hF=>?_
 repeat first|refine n1 ?_|((first|refine rg 0 [0,1] [1,2] [] ?_|refine rg 1 [1,2] [3] [] ?_);simp (maxSteps:=1000000) [hF,dBoxL])
 refine (containsFunc_ok false ls x hl hne hle hx).go [(0,[]),(1,[])] (by simp (maxSteps:=1000000) [hF,dBoxL,dBox]) ?_;rintro av X κ ⟨rfl,rfl,rfl⟩;simp (maxSteps:=1000000) [hF,dBoxL,dBox]
 repeat first|refine n1 ?_
 (try refine nr ?_);(repeat first|refine nb_ ?_|refine nl_ ?_);refine endK.o [3] [0] [] ?_;simp [hF,retK,covers,mpre,dBoxL]
end Go.Proofs.YtbhigdljojlhnaaGreat

/- slices.DeleteFunc of lists of lists: the empty ones go. -/
namespace Go.Proofs.YtbhigdljojlhnaaGreat
set_option linter.all false
open Go.Vc Go.Proofs
set_option linter.unusedSimpArgs false
set_option maxRecDepth 100000
set_option maxHeartbeats 4000000
attribute [local irreducible] CallW EqK
section
variable {α:Type} {q:α→Bool} {cur ls:List α} {i j:Nat}
theorem del_init (hi:i < ls.length) (hall:∀ k,(h:k < i)→q (ls[k]'(by omega)) = true) (hq:q ls[i] = false):ls.take i = (ls.take (i + 1)).filter q:=by
 rw [List.take_add_one,List.getElem?_eq_getElem hi,List.filter_append]
 simp only [Option.toList_some,List.filter_cons,hq,List.filter_nil,Bool.false_eq_true,if_false,List.append_nil]
 refine (List.filter_eq_self.2 fun x hx=>?_).symm
 obtain ⟨k,hk,rfl⟩:=List.getElem_of_mem hx
 rw [List.length_take] at hk
 rw [List.getElem_take]
 exact hall k (by omega)
theorem del_at (hl:cur.length = ls.length) (hj:j < ls.length) (hd:cur.drop j = ls.drop j):cur[j]'(by omega) = ls[j]:=by
 have h1:(cur.drop j)[0]? = (ls.drop j)[0]?:=by rw [hd]
 simp only [List.getElem?_drop,Nat.add_zero] at h1
 rw [List.getElem?_eq_getElem (by omega),List.getElem?_eq_getElem hj] at h1
 exact Option.some.inj h1
theorem del_gone (hj:j < ls.length) (ht:cur.take i = (ls.take j).filter q) (hd:cur.drop j = ls.drop j) (hq:q ls[j] = false):cur.take i = (ls.take (j + 1)).filter q∧cur.drop (j + 1) = ls.drop (j + 1):=by
 constructor
 ·rw [ht,List.take_add_one,List.getElem?_eq_getElem hj,List.filter_append]
  simp [hq]
 ·have:(cur.drop j).drop 1 = (ls.drop j).drop 1:=by rw [hd]
  simpa [List.drop_drop,Nat.add_comm] using this
theorem del_stays (hl:cur.length = ls.length) (hi:i < j) (hj:j < ls.length) (ht:cur.take i = (ls.take j).filter q) (hd:cur.drop j = ls.drop j) (hq:q ls[j] = true) :
  (cur.set i ls[j]).take (i + 1) = (ls.take (j + 1)).filter q∧(cur.set i ls[j]).drop (j + 1) = ls.drop (j + 1):=by
 constructor
 ·rw [List.take_add_one,List.getElem?_set_self (by omega),List.take_set_of_le (by omega),ht,List.take_add_one,List.getElem?_eq_getElem hj,List.filter_append]
  simp [hq]
 ·rw [List.drop_set_of_lt (by omega)]
  have:(cur.drop j).drop 1 = (ls.drop j).drop 1:=by rw [hd]
  simpa [List.drop_drop,Nat.add_comm] using this
end
theorem ixF_none {α:Type} {p:α→Bool} {l:List α} (h:ixF p l = -1):l.filter (fun x=>!p x) = l:=by
 refine List.filter_eq_self.2 fun x hx=>?_
 have:¬ (l.any p = true):=by rw [←ixF_ge,h];omega
 rw [List.any_eq_true] at this
 cases hp:p x with
 | true=>exact absurd ⟨x,hx,hp⟩ this
 | false=>rfl
theorem ixF_some {α:Type} {p:α→Bool} {l:List α} (h:¬ ixF p l = -1):∃ (i:Nat) (hi:i < l.length),ixF p l = i∧p l[i] = true∧∀ k,(hk:k < i)→p (l[k]'(by omega)) = false:=by
 by_cases ha:l.any p = true
 ·have h1:=List.findIdx_lt_length_of_exists (p:=p) (xs:=l) (by simpa using ha)
  refine ⟨l.findIdx p,h1,by rw [ixF,if_pos ha],List.findIdx_getElem,fun k hk=>?_⟩
  have:=List.not_of_lt_findIdx hk
  simpa using this
 ·exact absurd (by rw [ixF,if_neg ha]) h
theorem tail_mid {l:List D} {i n:Nat} {x:D} (hi:i≤l.length):(((sq l).take i).app (sq (List.replicate n x))).mid 0 i = sq (l.take i):=by
 rw [sq_take,sq_app,sq_mid,List.drop_zero,List.take_append_of_le_length (by simp;omega),List.take_of_length_le (by simp;omega)]
theorem delLs_ok (ls:List (List Int)) (hl:ls.length≤100000000):Meets Tryz.prog 151 [.sl true () 1 (dLs ls)] (.cons (.sub 0 [] 0 ls.length false) (.cons (.fn 152 .nil) .nil))
  fun av X κ=>∃ s m,av = .sub 1 [] 0 m false∧X = [.junk (),.sl true () 1 s]∧κ = [(0,[])]∧s.mid 0 m = dLs (ls.filter fun x=>!nul x)∧m = (ls.filter fun x=>!nul x).length:=by
 refine fb Tryz.func151 Tryz.ntmps151 [.tmp 4] fun w0 I0 F0 hF=>?_
 repeat first|refine n1 ?_|((refine rg 0 [0,1] [0,1] [] ?_);simp (maxSteps:=1000000) [hF])
 refine ghostL 0 [] ?_;simp (maxSteps:=1000000) [hF,St.lift,AV.lift,liftPl,stripP,nodeAV,isNode]
 repeat first|((refine rg 1 [0,1] [0,1,5] [] ?_);simp (maxSteps:=1000000) [hF])
 refine (indexFunc_1 false ls hl nul (fun i h=>m1_ok false ls[i])).go [(1,[])] (by simp (maxSteps:=1000000) [hF]) ?_;rintro av X κ ⟨rfl,rfl,rfl⟩;simp (maxSteps:=1000000) [hF]
 repeat first|refine n1 ?_|((first|refine rg 2 [0,1,5] [0,1,5,12] [] ?_|refine nc ?_);simp (maxSteps:=1000000) [hF])
 refine ⟨fun hm=>?_,fun hm=>?_⟩
 ·have hf:=ixF_none hm
  repeat first|refine n1 ?_|((refine rg 3 [0] [4] [] ?_);simp (maxSteps:=1000000) [hF])
  (try refine nr ?_);(repeat first|refine nb_ ?_|refine nl_ ?_);refine endK.o [4] [0,1] [(0,[])] ?_;simp [hF,retK,covers,mpre,hf]
 ·obtain ⟨i0,hi0,he,hp0,hall⟩:=ixF_some hm
  repeat first|refine n1 ?_|refine n2 ?_|refine n3 ?_|((refine rg 4 [0,1,5] [0,1,5,6] [] ?_);simp (maxSteps:=1000000) [hF,he])
  refine VS.forget ?_;simp [hF,St.forget]
  refine VS.rounds (fun m st=>∃ (cur:List (List Int)) (i j:Nat),j + m = ls.length∧i < j∧cur.length = ls.length∧cur.take i = (ls.take j).filter (fun x=>!nul x)∧cur.drop j = ls.drop j ∧
   st = ⟨[(0,.sub 1 [] 0 ls.length false),(1,.fn 152 .nil),(5,avInt i),(6,avInt j)],[.junk (),.sl true () 1 (dLs cur)],[(0,[])],[]⟩)
   ⟨ls.length - (i0 + 1),ls,i0,i0 + 1,by omega,by omega,rfl,del_init hi0 (fun k hk=>by simp [hall k hk]) (by simp [hp0]),rfl,?_⟩ ?_
  ·simp [he]
   exact IntWalk.i64_in _ (by omega)
  rintro m st ⟨cur,i,j,hjm,hij,hcl,htk,hdr,rfl⟩
  repeat first|refine n1 ?_|((first|refine rg 5 [0,1,5,6] [0,1,5,6,19] [] ?_|refine nc ?_);simp (maxSteps:=1000000) [hF])
  refine ⟨fun hlt=>?_,fun hge=>?_⟩
  ·have hj:j < ls.length:=by omega
   have hjc:j < cur.length:=by omega
   have hn:=dLs_nth hjc
   have hat:=del_at hcl hj hdr
   repeat first|refine n1 ?_|refine n2 ?_|refine n3 ?_|((first|refine rg 7 [0,1,5,6] [0,1,5,6,7] [] ?_|refine rg 8 [0,1,5,6,7] [0,1,5,6,7,29] [] ?_);simp (maxSteps:=1000000) [hF,hn,hjc,hj])
   refine (m1_ok false cur[j]).go [] (by simp (maxSteps:=1000000) [hF]) ?_;rintro av X κ ⟨rfl,rfl,rfl⟩;simp (maxSteps:=1000000) [hF]
   cases hp:nul cur[j] with
   | true =>
    repeat first|refine n2 ?_|refine n4 ?_|refine n5 ?_|refine n6 ?_|((first|refine rg 6 [0,1,5,6] [0,1,5,6] [] ?_|refine nc ?_);simp (maxSteps:=1000000) [hF,hp])
    obtain ⟨n1,n2⟩:=del_gone (q:=fun x=>!nul x) hj htk hdr (by rw [←hat];simp [hp])
    refine nextK.of [0,1,5,6] [0,1] (m - 1) (by omega) (by simp [hF]) ?_
    refine ⟨cur,i,j + 1,by omega,by omega,hcl,n1,n2,?_⟩
    simp
    exact IntWalk.i64_in _ (by omega)
   | false =>
    have hi:i < ls.length:=by omega
    have hic:i < cur.length:=by omega
    have hset:=dLs_set cur i cur[j]
    have hni:=dLs_nth hic
    repeat first|refine n1 ?_|refine n4 ?_|refine n5 ?_|refine n6 ?_|((first|refine rg 6 [0,1,5,6] [0,1,5,6] [] ?_|refine rg 9 [0,1,5,6,7] [0,1,5,6] [] ?_|refine rg 10 [0,1,5,6] [0,1,5,6] [] ?_|refine nc ?_);simp (maxSteps:=1000000) [hF,hp,hi,hic,hset,hni,hcl])
    obtain ⟨n1,n2⟩:=del_stays (q:=fun x=>!nul x) hcl hij hj htk hdr (by rw [←hat];simp [hp])
    refine nextK.of [0,1,5,6] [0,1] (m - 1) (by omega) (by simp [hF]) ?_
    refine ⟨cur.set i cur[j],i + 1,j + 1,by omega,by omega,by simpa using hcl,by rw [hat];exact n1,by rw [hat];exact n2,?_⟩
    simp
    exact ⟨IntWalk.i64_in _ (by omega),IntWalk.i64_in _ (by omega)⟩
  ·obtain rfl:j = ls.length:=by omega
   have hil:i≤ls.length:=by omega
   have hil2:(i:Int)≤ls.length:=by omega
   rw [List.take_length] at htk
   have hlen:(ls.filter fun x=>!nul x).length = i:=by rw [←htk,List.length_take];omega
   have hfin:∀ n x,(((dLs cur).take i).app (sq (List.replicate n x))).mid 0 i = dLs (ls.filter fun x=>!nul x):=fun n x=>by
    rw [←htk,dLs,tail_mid (by simp;omega),←List.map_take,←dLs]
   repeat first|refine n1 ?_|refine n7 ?_|((first|refine rg 11 [0,5] [0,5] [] ?_|refine rg 12 [0,5] [4] [] ?_);simp (maxSteps:=1000000) [hF,hil,hil2,hcl])
   (try refine nr ?_);(repeat first|refine nb_ ?_|refine nl_ ?_);refine endK.o [4] [0,1] [(0,[])] ?_;simp [hF,retK,covers,mpre,hfin,hlen]
end Go.Proofs.YtbhigdljojlhnaaGreat

/- slices.IndexFunc and DeleteFunc of numbers: those of another list go. -/
namespace Go.Proofs.YtbhigdljojlhnaaGreat
set_option linter.all false
open Go.Vc Go.Proofs
set_option linter.unusedSimpArgs false
set_option maxRecDepth 100000
set_option maxHeartbeats 4000000
attribute [local irreducible] CallW EqK
theorem f1_ok (fr:List Int) (hf:fr.length≤100000000) (n:Int):Meets Tryz.prog 130 [dBox fr] (.cons (avInt n) (.cons (.ptr 0 [.d]) .nil)) fun av X κ=>av = avBool (hasN fr n)∧X = [dBox fr]∧κ = []:=by
 refine fb Tryz.func130 Tryz.ntmps130 [.tmp 3] fun w0 I0 F0 hF=>?_
 repeat first|refine n1 ?_|((first|refine rg 0 [0,1] [0,1] [] ?_|refine rg 1 [0,1] [3] [] ?_);simp (maxSteps:=1000000) [hF,dBox])
 refine (contains_ok false fr n hf).go [] (by simp (maxSteps:=1000000) [hF]) ?_;rintro av X κ ⟨rfl,rfl,rfl⟩;simp (maxSteps:=1000000) [hF]
 repeat first|refine n1 ?_
 (try refine nr ?_);(repeat first|refine nb_ ?_|refine nl_ ?_);refine endK.o [3] [0] [] ?_;simp [hF,retK,covers,mpre,dBox]
theorem indexFunc_i (ex:Bool) (ls x:List Int) (hl:ls.length≤100000000) (p:Int→Bool)
  (hg:∀ i,(h:i < ls.length)→Meets Tryz.prog 130 [dBox x] (.cons (avInt ls[i]) (.cons (.ptr 0 [.d]) .nil)) fun av X κ=>av = avBool (p ls[i])∧X = [dBox x]∧κ = []) :
  Meets Tryz.prog 116 [.sl true () 1 (dInts ls),dBox x] (.cons (.sub 0 [] 0 ls.length ex) (.cons (.fn 130 (.cons (.ptr 1 [.d]) .nil)) .nil))
  fun av X κ=>av = avInt (ixF p ls)∧X = [.sl true () 1 (dInts ls),dBox x]∧κ = []:=by
 refine fb Tryz.func116 Tryz.ntmps116 [.tmp 4] fun w0 I0 F0 hF=>?_
 repeat first|refine n1 ?_|refine n3 ?_|((first|refine rg 0 [0,1] [0,1] [] ?_|refine rg 1 [0,1] [0,1,7,8] [] ?_);simp (maxSteps:=1000000) [hF,dBox])
 refine VS.rounds (fun m st=>∃ (i:Nat),i + m = ls.length∧(∀ j,(h:j < ls.length)→j < i→p ls[j] = false)∧st = ⟨[(0,.sub 0 [] 0 ls.length ex),(1,.fn 130 (.cons (.ptr 1 [.d]) .nil)),(7,avInt ls.length),(8,avInt i)],[.sl true () 1 (dInts ls),dBox x],[],[]⟩) ⟨ls.length,0,by omega,by omega,by simp [dBox]⟩ ?_
 rintro m st ⟨i,hi,hall,rfl⟩
 repeat first|refine n1 ?_|((first|refine rg 2 [0,1,7,8] [0,1,7,8,9] [] ?_|refine nc ?_);simp (maxSteps:=1000000) [hF,dBox])
 refine ⟨fun hlt=>?_,fun hge=>?_⟩
 ·have hi':i < ls.length:=by omega
  have hn:=dInts_nth hi'
  repeat first|refine n1 ?_|refine n2 ?_|refine n3 ?_|((first|refine rg 3 [0,1,7,8] [0,1,5,7,8] [] ?_|refine rg 4 [0,1,5,7,8] [0,1,5,7,8,16] [] ?_);simp (maxSteps:=1000000) [hF,dBox,hn,hi'])
  refine (hg i hi').go [(1,[])] (by simp (maxSteps:=1000000) [hF,dBox]) ?_;rintro av X κ ⟨rfl,rfl,rfl⟩;simp (maxSteps:=1000000) [hF,dBox]
  cases hp:p ls[i] with
  | true =>
   have hr:ixF p ls = i:=ixF_hit hi' (fun j h=>hall j (by omega) h) hp
   repeat first|refine n1 ?_|((first|refine rg 5 [5] [4] [] ?_|refine nc ?_);simp (maxSteps:=1000000) [hF,hp])
   (try refine nr ?_);(repeat first|refine nb_ ?_|refine nl_ ?_);refine endK.o [4] [0,1] [] ?_;simp [hF,retK,covers,mpre,dBox,hr]
  | false =>
   repeat first|refine n2 ?_|refine n4 ?_|refine n5 ?_|refine n6 ?_|((first|refine rg 6 [0,1,7,8] [0,1,7,8] [] ?_|refine nc ?_);simp (maxSteps:=1000000) [hF,hp])
   refine nextK.of [0,1,7,8] [0,1] (m - 1) (by omega) (by simp [hF]) ?_
   refine ⟨i + 1,by omega,?_,?_⟩
   ·intro j hj hji
    rcases Nat.lt_or_ge j i with h' | h'
    ·exact hall j hj h'
    ·obtain rfl:j = i:=by omega
     exact hp
   ·simp [dBox]
    exact IntWalk.i64_in _ (by omega)
 ·have hr:ixF p ls = -1:=ixF_miss (fun j h=>hall j h (by omega))
  repeat first|refine n1 ?_|refine n7 ?_|((refine rg 7 [] [4] [] ?_);simp (maxSteps:=1000000) [hF])
  (try refine nr ?_);(repeat first|refine nb_ ?_|refine nl_ ?_);refine endK.o [4] [0,1] [] ?_;simp [hF,retK,covers,mpre,dBox,hr]
theorem delIs_ok (ls fr:List Int) (hfr:fr.length≤100000000) (hl:ls.length≤100000000):Meets Tryz.prog 129 [.sl true () 1 (dInts ls),dBox fr] (.cons (.sub 0 [] 0 ls.length false) (.cons (.fn 130 (.cons (.ptr 1 [.d]) .nil)) .nil))
  fun av X κ=>∃ s m,av = .sub 2 [] 0 m false∧X = [.junk (),dBox fr,.sl true () 1 s]∧κ = [(0,[])]∧s.mid 0 m = dInts (ls.filter fun x=>!hasN fr x)∧m = (ls.filter fun x=>!hasN fr x).length:=by
 refine fb Tryz.func129 Tryz.ntmps129 [.tmp 4] fun w0 I0 F0 hF=>?_
 repeat first|refine n1 ?_|((refine rg 0 [0,1] [0,1] [] ?_);simp (maxSteps:=1000000) [hF])
 refine ghostL 0 [] ?_;simp (maxSteps:=1000000) [hF,St.lift,AV.lift,liftPl,stripP,nodeAV,isNode,dBox]
 repeat first|((refine rg 1 [0,1] [0,1,5] [] ?_);simp (maxSteps:=1000000) [hF])
 refine (indexFunc_i false ls fr hl (hasN fr) (fun i h=>f1_ok fr hfr ls[i])).go [(2,[]),(1,[])] (by simp (maxSteps:=1000000) [hF,dBox]) ?_;rintro av X κ ⟨rfl,rfl,rfl⟩;simp (maxSteps:=1000000) [hF,dBox]
 repeat first|refine n1 ?_|((first|refine rg 2 [0,1,5] [0,1,5,12] [] ?_|refine nc ?_);simp (maxSteps:=1000000) [hF])
 refine ⟨fun hm=>?_,fun hm=>?_⟩
 ·have hf:=ixF_none hm
  repeat first|refine n1 ?_|((refine rg 3 [0] [4] [] ?_);simp (maxSteps:=1000000) [hF])
  (try refine nr ?_);(repeat first|refine nb_ ?_|refine nl_ ?_);refine endK.o [4] [0,1,2] [(0,[])] ?_;simp [hF,retK,covers,mpre,dBox,hf]
 ·obtain ⟨i0,hi0,he,hp0,hall⟩:=ixF_some hm
  repeat first|refine n1 ?_|refine n2 ?_|refine n3 ?_|((refine rg 4 [0,1,5] [0,1,5,6] [] ?_);simp (maxSteps:=1000000) [hF,he])
  refine VS.forget ?_;simp [hF,St.forget]
  refine VS.rounds (fun m st=>∃ (cur:List Int) (i j:Nat),j + m = ls.length∧i < j∧cur.length = ls.length∧cur.take i = (ls.take j).filter (fun x=>!hasN fr x)∧cur.drop j = ls.drop j ∧
   st = ⟨[(0,.sub 2 [] 0 ls.length false),(1,.fn 130 (.cons (.ptr 1 [.d]) .nil)),(5,avInt i),(6,avInt j)],[.junk (),dBox fr,.sl true () 1 (dInts cur)],[(0,[])],[]⟩)
   ⟨ls.length - (i0 + 1),ls,i0,i0 + 1,by omega,by omega,rfl,del_init hi0 (fun k hk=>by simp [hall k hk]) (by simp [hp0]),rfl,?_⟩ ?_
  ·simp [he,dBox]
   exact IntWalk.i64_in _ (by omega)
  rintro m st ⟨cur,i,j,hjm,hij,hcl,htk,hdr,rfl⟩
  repeat first|refine n1 ?_|((first|refine rg 5 [0,1,5,6] [0,1,5,6,19] [] ?_|refine nc ?_);simp (maxSteps:=1000000) [hF])
  refine ⟨fun hlt=>?_,fun hge=>?_⟩
  ·have hj:j < ls.length:=by omega
   have hjc:j < cur.length:=by omega
   have hn:=dInts_nth hjc
   have hat:=del_at hcl hj hdr
   repeat first|refine n1 ?_|refine n2 ?_|refine n3 ?_|((first|refine rg 7 [0,1,5,6] [0,1,5,6,7] [] ?_|refine rg 8 [0,1,5,6,7] [0,1,5,6,7,29] [] ?_);simp (maxSteps:=1000000) [hF,hn,hjc,hj])
   refine (f1_ok fr hfr cur[j]).go [(1,[])] (by simp (maxSteps:=1000000) [hF,dBox]) ?_;rintro av X κ ⟨rfl,rfl,rfl⟩;simp (maxSteps:=1000000) [hF,dBox]
   cases hp:hasN fr cur[j] with
   | true =>
    repeat first|refine n2 ?_|refine n4 ?_|refine n5 ?_|refine n6 ?_|((first|refine rg 6 [0,1,5,6] [0,1,5,6] [] ?_|refine nc ?_);simp (maxSteps:=1000000) [hF,hp])
    obtain ⟨n1,n2⟩:=del_gone (q:=fun x=>!hasN fr x) hj htk hdr (by rw [←hat];simp [hp])
    refine nextK.of [0,1,5,6] [0,1,2] (m - 1) (by omega) (by simp [hF]) ?_
    refine ⟨cur,i,j + 1,by omega,by omega,hcl,n1,n2,?_⟩
    simp [dBox]
    exact IntWalk.i64_in _ (by omega)
   | false =>
    have hi:i < ls.length:=by omega
    have hic:i < cur.length:=by omega
    have hset:=dInts_set cur i cur[j]
    have hni:=dInts_nth hic
    repeat first|refine n1 ?_|refine n4 ?_|refine n5 ?_|refine n6 ?_|((first|refine rg 6 [0,1,5,6] [0,1,5,6] [] ?_|refine rg 9 [0,1,5,6,7] [0,1,5,6] [] ?_|refine rg 10 [0,1,5,6] [0,1,5,6] [] ?_|refine nc ?_);simp (maxSteps:=1000000) [hF,hp,hi,hic,hset,hni,hcl])
    obtain ⟨n1,n2⟩:=del_stays (q:=fun x=>!hasN fr x) hcl hij hj htk hdr (by rw [←hat];simp [hp])
    refine nextK.of [0,1,5,6] [0,1,2] (m - 1) (by omega) (by simp [hF]) ?_
    refine ⟨cur.set i cur[j],i + 1,j + 1,by omega,by omega,by simpa using hcl,by rw [hat];exact n1,by rw [hat];exact n2,?_⟩
    simp [dBox]
    exact ⟨IntWalk.i64_in _ (by omega),IntWalk.i64_in _ (by omega)⟩
  ·obtain rfl:j = ls.length:=by omega
   have hil:i≤ls.length:=by omega
   have hil2:(i:Int)≤ls.length:=by omega
   rw [List.take_length] at htk
   have hlen:(ls.filter fun x=>!hasN fr x).length = i:=by rw [←htk,List.length_take];omega
   have hfin:∀ n x,(((dInts cur).take i).app (sq (List.replicate n x))).mid 0 i = dInts (ls.filter fun x=>!hasN fr x):=fun n x=>by
    rw [←htk,dInts,tail_mid (by simp;omega),←List.map_take,←dInts]
   repeat first|refine n1 ?_|refine n7 ?_|((first|refine rg 11 [0,5] [0,5] [] ?_|refine rg 12 [0,5] [4] [] ?_);simp (maxSteps:=1000000) [hF,hil,hil2,hcl])
   (try refine nr ?_);(repeat first|refine nb_ ?_|refine nl_ ?_);refine endK.o [4] [0,1,2] [(0,[])] ?_;simp [hF,retK,covers,mpre,dBox,hfin,hlen]
theorem grow_ok (n:Nat) (h1:1≤n) (h2:n≤100000000):Meets Tryz.prog 135 [] (.cons (.nils 1) (.cons (avInt n) .nil))
  fun av X κ=>av = .sub 0 [] 0 0 false∧X = [.sl true () 1 (dInts (List.replicate n 0))]∧κ = []:=by
 have b1:¬ (n:Int) < 0:=by omega
 have b2:(0:Int) < n:=by omega
 have b3:IntKind.i64.wrap (n:Int) = n:=IntWalk.i64_in _ (by omega)
 have b4:IntKind.i64.wrap 0 = 0:=by decide
 have b5:0 < n:=h1
 have b6:(n:Int) * 8≤140737488355328:=by omega
 have b7:(n:Int)≤9223372036854775807:=by omega
 refine fb Tryz.func135 Tryz.ntmps135 [.tmp 4] fun w0 I0 F0 hF=>?_
 repeat first|refine n1 ?_|refine n2 ?_|((first|refine rg 0 [0,1] [0,1] [] ?_|refine rg 1 [0,1] [0,1,6] [] ?_|refine rg 3 [0,1] [0,1] [] ?_|refine rg 4 [0,1] [0,1,16] [] ?_|refine rg 5 [0,1] [0] [] ?_|refine rg 6 [0] [4] [] ?_|refine nc ?_);simp (maxSteps:=1000000) [hF,b1,b2,b3,b4,b5,b6,b7,zeros_ints])
 (try refine nr ?_);(repeat first|refine nb_ ?_|refine nl_ ?_);refine endK.o [4] [0] [] ?_;simp [hF,retK,covers,mpre]
def dOs (l:List (Bool×List Int)):D:=sq (l.map fun o=>.sl o.1 () 1 (dInts o.2))
@[simp] theorem dOs_len (l:List (Bool×List Int)):(dOs l).len = l.length:=by simp [dOs]
theorem dOs_nth {l:List (Bool×List Int)} {i:Nat} (h:i < l.length):(dOs l).nth i = .sl l[i].1 () 1 (dInts l[i].2):=by
 rw [dOs,sq_nth_lt (by simpa using h)];simp
def sizeOs:List (Bool×List Int)→Nat
 | []=>0
 | o :: l=>o.2.length + sizeOs l
def flatOs:List (Bool×List Int)→List Int
 | []=>[]
 | o :: l=>o.2 ++ flatOs l
theorem sizeOs_take:∀ {l:List (Bool×List Int)} {i:Nat} (h:i < l.length),sizeOs (l.take (i + 1)) = sizeOs (l.take i) + l[i].2.length
 | o :: l,0,_=>by simp [sizeOs]
 | o :: l,i + 1,h=>by
  have:=sizeOs_take (l:=l) (i:=i) (by simpa using h)
  simp only [List.take_succ_cons,sizeOs,List.getElem_cons_succ] at this ⊢
  omega
theorem flatOs_take:∀ {l:List (Bool×List Int)} {i:Nat} (h:i < l.length),flatOs (l.take (i + 1)) = flatOs (l.take i) ++ l[i].2
 | o :: l,0,_=>by simp [flatOs]
 | o :: l,i + 1,h=>by
  have:=flatOs_take (l:=l) (i:=i) (by simpa using h)
  simp only [List.take_succ_cons,flatOs,List.getElem_cons_succ] at this ⊢
  rw [this,List.append_assoc]
theorem flatOs_len:∀ l:List (Bool×List Int),(flatOs l).length = sizeOs l
 | []=>rfl
 | o :: l=>by simp [flatOs,sizeOs,flatOs_len l]
theorem sizeOs_le:∀ (l:List (Bool×List Int)) (i:Nat),sizeOs (l.take i)≤sizeOs l
 | [],i=>by simp [sizeOs]
 | o :: l,0=>by simp [sizeOs]
 | o :: l,i + 1=>by
  have:=sizeOs_le l i
  simp only [List.take_succ_cons,sizeOs]
  omega
theorem concat_ok (ex:Bool) (l:List (Bool×List Int)) (hl:l.length≤1000) (h1:1≤sizeOs l) (h2:sizeOs l≤100000000):Meets Tryz.prog 125 [.sl true () 1 (dOs l)] (.cons (.sub 0 [] 0 l.length ex) .nil)
  fun av X κ=>av = .imm 1 (dInts (flatOs l)) false∧X = [.sl true () 1 (dOs l)]∧κ = []:=by
 refine fb Tryz.func125 Tryz.ntmps125 [.tmp 2] fun w0 I0 F0 hF=>?_
 repeat first|refine n1 ?_|refine n3 ?_|((first|refine rg 0 [0] [0] [] ?_|refine rg 1 [0] [0,3] [] ?_|refine rg 2 [0,3] [0,3,9,10,11] [] ?_);simp (maxSteps:=1000000) [hF])
 refine VS.rounds (fun m st=>∃ (i:Nat),i + m = l.length∧st = ⟨[(0,.sub 0 [] 0 l.length ex),(3,avInt (sizeOs (l.take i))),(9,.sub 0 [] 0 l.length ex),(10,avInt l.length),(11,avInt i)],[.sl true () 1 (dOs l)],[],[]⟩) ⟨l.length,0,by omega,by simp [sizeOs]⟩ ?_
 rintro m st ⟨i,hi,rfl⟩
 repeat first|refine n1 ?_|((first|refine rg 3 [0,3,9,10,11] [0,3,9,10,11,12] [] ?_|refine nc ?_);simp (maxSteps:=1000000) [hF])
 refine ⟨fun hlt=>?_,fun hge=>?_⟩
 ·have hi':i < l.length:=by omega
  have hn:=dOs_nth hi'
  have hs:=sizeOs_take hi'
  have hle:=sizeOs_le l (i + 1)
  have hw:IntKind.i64.wrap ((sizeOs (l.take i):Int) + (l[i].2.length:Int)) = ((sizeOs (l.take (i + 1)):Nat):Int):=by rw [IntWalk.i64_in _ (by omega)];omega
  have hneg:¬ ((sizeOs (l.take (i + 1)):Nat):Int) < 0:=by omega
  cases ho:l[i].1 with
  | true =>
   rw [ho] at hn
   repeat first|refine n1 ?_|refine n2 ?_|refine n3 ?_|refine n4 ?_|refine n5 ?_|refine n6 ?_|((first|refine rg 4 [0,3,9,10,11] [0,3,5,9,10,11] [] ?_|refine rg 5 [0,3,5,9,10,11] [0,3,9,10,11] [] ?_|refine rg 6 [0,3,9,10,11] [0,3,9,10,11,20] [] ?_|refine rg 8 [0,3,9,10,11] [0,3,9,10,11] [] ?_|refine nc ?_);simp (maxSteps:=1000000) [hF,hn,hi',hw,hneg])
   refine nextK.of [0,3,9,10,11] [0] (m - 1) (by omega) (by simp [hF]) ?_
   refine ⟨i + 1,by omega,?_⟩
   simp
   exact IntWalk.i64_in _ (by omega)
  | false =>
   rw [ho] at hn
   repeat first|refine n1 ?_|refine n2 ?_|refine n3 ?_|refine n4 ?_|refine n5 ?_|refine n6 ?_|((first|refine rg 4 [0,3,9,10,11] [0,3,5,9,10,11] [] ?_|refine rg 5 [0,3,5,9,10,11] [0,3,9,10,11] [] ?_|refine rg 6 [0,3,9,10,11] [0,3,9,10,11,20] [] ?_|refine rg 8 [0,3,9,10,11] [0,3,9,10,11] [] ?_|refine nc ?_);simp (maxSteps:=1000000) [hF,hn,hi',hw,hneg])
   refine nextK.of [0,3,9,10,11] [0] (m - 1) (by omega) (by simp [hF]) ?_
   refine ⟨i + 1,by omega,?_⟩
   simp
   exact IntWalk.i64_in _ (by omega)
 ·obtain rfl:i = l.length:=by omega
  rw [List.take_length]
  repeat first|refine n1 ?_|refine n7 ?_|((refine rg 9 [0,3] [0,6] [] ?_);simp (maxSteps:=1000000) [hF])
  refine (grow_ok (sizeOs l) h1 h2).go [] (by simp (maxSteps:=1000000) [hF]) ?_;rintro av X κ ⟨rfl,rfl,rfl⟩;simp (maxSteps:=1000000) [hF]
  repeat first|refine n1 ?_|refine n3 ?_|((refine rg 10 [0,6] [6,25,26,27] [] ?_);simp (maxSteps:=1000000) [hF])
  refine VS.rounds (fun m st=>∃ (i:Nat) (s:D),i + m = l.length∧s.mid 0 (sizeOs (l.take i)) = dInts (flatOs (l.take i))∧st = ⟨[(6,.sub 1 [] 0 (sizeOs (l.take i)) false),(25,.sub 0 [] 0 l.length ex),(26,avInt l.length),(27,avInt i)],[.sl true () 1 (dOs l),.sl true () 1 s],[],[]⟩) ⟨l.length,0,dInts (List.replicate (sizeOs l) 0),by omega,?_,?_⟩ ?_
  ·simp [sizeOs,flatOs,dInts_mid]
  ·simp [sizeOs]
  rintro m st ⟨i,s,hi,hs0,rfl⟩
  repeat first|refine n1 ?_|((first|refine rg 11 [6,25,26,27] [6,25,26,27,28] [] ?_|refine nc ?_);simp (maxSteps:=1000000) [hF])
  refine ⟨fun hlt=>?_,fun hge=>?_⟩
  ·have hi':i < l.length:=by omega
   have hn:=dOs_nth hi'
   have hs:=sizeOs_take hi'
   have hf:=flatOs_take hi'
   have hle:=sizeOs_le l (i + 1)
   have ha:=dInts_app (flatOs (l.take i)) l[i].2
   have b1:(sizeOs (l.take i) + l[i].2.length) * 8≤140737488355328:=by omega
   have b2:sizeOs (l.take i) + l[i].2.length≤9223372036854775807:=by omega
   have hfin:(dInts (flatOs (l.take i) ++ l[i].2)).mid 0 (sizeOs (l.take i) + l[i].2.length) = dInts (flatOs (l.take i) ++ l[i].2):=by
    rw [←hf,←hs,←flatOs_len];simp
   cases ho:l[i].1 with
   | true =>
    rw [ho] at hn
    repeat first|refine n1 ?_|refine n2 ?_|refine n3 ?_|refine n4 ?_|refine n5 ?_|refine n6 ?_|((first|refine rg 12 [6,25,26,27] [6,8,25,26,27] [] ?_|refine rg 13 [6,8,25,26,27] [6,25,26,27] [] ?_|refine rg 14 [6,25,26,27] [6,25,26,27] [] ?_);simp (maxSteps:=1000000) [hF,hn,hi',hs0,ha,b1,b2])
    refine nextK.of [6,25,26,27] [0,1] (m - 1) (by omega) (by simp [hF]) ?_
    refine ⟨i + 1,dInts (flatOs (l.take i) ++ l[i].2),by omega,by rw [hs,hf];exact hfin,?_⟩
    simp [hs]
    exact IntWalk.i64_in _ (by omega)
   | false =>
    rw [ho] at hn
    repeat first|refine n1 ?_|refine n2 ?_|refine n3 ?_|refine n4 ?_|refine n5 ?_|refine n6 ?_|((first|refine rg 12 [6,25,26,27] [6,8,25,26,27] [] ?_|refine rg 13 [6,8,25,26,27] [6,25,26,27] [] ?_|refine rg 14 [6,25,26,27] [6,25,26,27] [] ?_);simp (maxSteps:=1000000) [hF,hn,hi',hs0,ha,b1,b2])
    refine nextK.of [6,25,26,27] [0,1] (m - 1) (by omega) (by simp [hF]) ?_
    refine ⟨i + 1,dInts (flatOs (l.take i) ++ l[i].2),by omega,by rw [hs,hf];exact hfin,?_⟩
    simp [hs]
    exact IntWalk.i64_in _ (by omega)
  ·obtain rfl:i = l.length:=by omega
   rw [List.take_length] at hs0
   repeat first|refine n1 ?_|refine n7 ?_|((refine rg 15 [6] [2] [] ?_);simp (maxSteps:=1000000) [hF])
   refine VS.cool 2 (by simp (maxSteps:=1000000) [hF,hs0]) ?_;simp [hF,St.cool,hs0]
   (try refine nr ?_);(repeat first|refine nb_ ?_|refine nl_ ?_);refine endK.o [2] [0] [] ?_;simp [hF,retK,covers,mpre]
theorem clone_ok (ex:Bool) (l:List Int) (hl:l.length≤100000000):Meets Tryz.prog 96 [] (.cons (.imm 1 (dInts l) ex) .nil)
  fun av X κ=>av = .sub 0 [] 0 l.length false∧X = [.sl true () 1 (dInts l)]∧κ = []:=by
 refine fb Tryz.func96 Tryz.ntmps96 [.tmp 2] fun w0 I0 F0 hF=>?_
 repeat first|refine n1 ?_|((first|refine rg 0 [0] [0] [] ?_|refine rg 1 [0] [0,4] [] ?_);simp (maxSteps:=1000000) [hF])
 refine ⟨?_,fun h0=>?_⟩
 ·repeat first|refine n1 ?_|refine n2 ?_|refine ⟨⟨by omega,by omega⟩,?_⟩|((first|refine rg 3 [0] [2] [] ?_|refine nc ?_);simp (maxSteps:=1000000) [hF])
  (try refine nr ?_);(repeat first|refine nb_ ?_|refine nl_ ?_);refine endK.o [2] [0] [] ?_;simp [hF,retK,covers,mpre]
 ·repeat first|refine n1 ?_|((first|refine rg 2 [] [2] [] ?_|refine nc ?_);simp (maxSteps:=1000000) [hF])
  refine VS.hold0 2 1 (by simp) ?_
  subst h0
  (try refine nr ?_);(repeat first|refine nb_ ?_|refine nl_ ?_);refine endK.o [2] [0] [] ?_;simp [hF,retK,covers,mpre,dInts]
theorem cloneI_ok (ex:Bool) (l:List Int) (hl:l.length≤100000000):Meets Tryz.prog 96 [] (.cons (.imm 1 (dInts l) ex) .nil)
  fun av X κ=>av = .imm 1 (dInts l) false∧X = []∧κ = []:=by
 refine fb Tryz.func96 Tryz.ntmps96 [.tmp 2] fun w0 I0 F0 hF=>?_
 repeat first|refine n1 ?_|((first|refine rg 0 [0] [0] [] ?_|refine rg 1 [0] [0,4] [] ?_);simp (maxSteps:=1000000) [hF])
 refine ⟨?_,fun h0=>?_⟩
 ·repeat first|refine n1 ?_|refine n2 ?_|refine ⟨⟨by omega,by omega⟩,?_⟩|((first|refine rg 3 [0] [2] [] ?_|refine nc ?_);simp (maxSteps:=1000000) [hF])
  refine VS.cool 2 (by simp (maxSteps:=1000000) [hF]) ?_;simp [hF,St.cool]
  (try refine nr ?_);(repeat first|refine nb_ ?_|refine nl_ ?_);refine endK.o [2] [] [] ?_;simp [hF,retK,covers,mpre]
 ·repeat first|refine n1 ?_|((first|refine rg 2 [] [2] [] ?_|refine nc ?_);simp (maxSteps:=1000000) [hF])
  refine VS.hold0 2 1 (by simp) ?_
  subst h0
  refine VS.cool 2 (by simp (maxSteps:=1000000) [hF,T.freeze,T.mid,T.drop,T.take]) ?_;simp [hF,St.cool,T.freeze,T.mid,T.drop,T.take]
  (try refine nr ?_);(repeat first|refine nb_ ?_|refine nl_ ?_);refine endK.o [2] [] [] ?_;simp [hF,retK,covers,mpre]
def hd (x:List Int):Int:=x.headD 0
def total:List (List Int)→Nat
 | []=>0
 | x :: l=>x.length + total l
def dropHd (v:Int) (y:List Int):List Int:=if hd y = v then y.tail else y
def mergeF:Nat→List (List Int)→List Int→Option (List Int)
 | 0,_,_=>none
 | n + 1,ls,out =>
  if (ls.filter fun x=>!nul x) = [] then some out
  else match (ls.filter fun x=>!nul x).find? fun x=>!inTails (ls.filter fun x=>!nul x) (hd x) with
   | none=>none
   | some x=>mergeF n ((ls.filter fun x=>!nul x).map (dropHd (hd x))) (out ++ [hd x])
def mergeOf (ls:List (List Int)):Option (List Int):=mergeF (total ls + 1) ls []
theorem hd_eq {x:List Int} (h:0 < x.length):hd x = x[0]:=by
 cases x with
 | nil=>cases h
 | cons a l=>rfl
theorem dInts_app1 (l:List Int) (x:Int):(dInts l).app (.cons (.val (.int .i64 x)) .nil) = dInts (l ++ [x]):=dInts_app l [x]
theorem total_len {ls:List (List Int)} (h:∀ y∈ls,0 < y.length):ls.length≤total ls:=by
 induction ls with
 | nil=>exact Nat.le_refl _
 | cons x l ih =>
  have h1:=h x List.mem_cons_self
  have h2:=ih fun y hy=>h y (List.mem_cons_of_mem _ hy)
  simp only [List.length_cons,total];omega
theorem total_filter (ls:List (List Int)):total (ls.filter fun x=>!nul x) = total ls:=by
 induction ls with
 | nil=>rfl
 | cons x l ih =>
  by_cases h:nul x = true
  ·have:x.length = 0:=by simpa [nul] using h
   simp [h,total,ih,this]
  ·simp [h,total,ih]
theorem total_drop_le (v:Int) (ls:List (List Int)):total (ls.map (dropHd v))≤total ls:=by
 induction ls with
 | nil=>exact Nat.le_refl _
 | cons x l ih =>
  have:(dropHd v x).length≤x.length:=by unfold dropHd;split <;> simp
  simp only [List.map_cons,total];omega
theorem total_drop_lt {v:Int} {ls:List (List Int)} {x:List Int} (hx:x∈ls) (h0:0 < x.length) (hv:hd x = v):total (ls.map (dropHd v)) < total ls:=by
 induction ls with
 | nil=>cases hx
 | cons y l ih =>
  have hy:(dropHd v y).length≤y.length:=by unfold dropHd;split <;> simp
  have hl:=total_drop_le v l
  simp only [List.map_cons,total]
  rcases List.mem_cons.1 hx with rfl | hx
  ·have:(dropHd v x).length < x.length:=by unfold dropHd;rw [if_pos hv];simp;omega
   omega
  ·have:=ih hx;omega
theorem filter_pos {ls:List (List Int)} {y:List Int} (h:y∈ls.filter fun x=>!nul x):0 < y.length:=by
 have:=(List.mem_filter.1 h).2
 simp [nul] at this
 exact List.length_pos_iff.2 this
theorem total_mem {ls:List (List Int)} {y:List Int} (h:y∈ls):y.length≤total ls:=by
 induction ls with
 | nil=>cases h
 | cons x l ih =>
  simp only [total]
  rcases List.mem_cons.1 h with rfl | h
  ·omega
  ·have:=ih h;omega
theorem merge_ok (ls:List (List Int)) (hl:ls.length≤10000) (ht:total ls≤100000000):Meets Tryz.prog 137 [.sl true () 1 (dLs ls)] (.cons (.sub 0 [] 0 ls.length false) .nil)
  fun av X κ=>match mergeOf ls with
   | some o=>av = .tup (.cons (.sub 1 [] 0 o.length false) (.cons (avBool true) .nil))∧X = [.junk (),.sl true () 1 (dInts o)]∧κ = [(0,[])]
   | none=>av = .tup (.cons (.nils 1) (.cons (avBool false) .nil))∧X = [.junk ()]∧κ = [(0,[])]:=by
 refine fb Tryz.func137 Tryz.ntmps137 [.tmp 2,.tmp 3] fun w0 I0 F0 hF=>?_
 repeat first|refine n1 ?_
 refine ghostL 0 [] ?_;simp (maxSteps:=1000000) [hF,St.lift,AV.lift,liftPl,stripP,nodeAV,isNode]
 refine VS.forget ?_;simp [hF,St.forget]
 repeat first|refine n1 ?_|refine n3 ?_|((first|refine rg 0 [0] [1] [] ?_|refine rg 1 [1] [1,4] [] ?_);simp (maxSteps:=1000000) [hF])
 refine VS.hold0 4 1 (by simp) ?_
 refine VS.pick [1,4] [0,2,3] (by simp [hF]) ?_;simp [hF]
 refine VS.rounds (fun m st=>∃ (cur:List (List Int)) (out:List Int) (f:Nat),m = total cur∧total cur < f∧mergeF f cur out = mergeOf ls∧cur.length≤ls.length∧total cur + out.length≤total ls ∧
  st = ⟨[(1,.ptr 1 [.d]),(4,.sub 2 [] 0 out.length false)],[.junk (),dBoxL cur,.sl true () 1 (dInts out)],[(0,[])],[]⟩)
  ⟨total ls,ls,[],total ls + 1,rfl,by omega,rfl,Nat.le_refl _,by simp,by simp [dBoxL]⟩ ?_
 rintro m st ⟨cur,out,f,rfl,hf,hmo,hcl,htot,rfl⟩
 obtain ⟨f,rfl⟩:∃ f',f = f' + 1:=⟨f - 1,by omega⟩
 have hpos:∀ y∈(cur.filter fun x=>!nul x),0 < y.length:=fun y hy=>filter_pos hy
 have htf:=total_filter cur
 have hll:=total_len hpos
 have hfl:(cur.filter fun x=>!nul x).length≤cur.length:=List.length_filter_le _ _
 have hle:∀ y∈(cur.filter fun x=>!nul x),y.length≤100000000:=fun y hy=>by have:=total_mem hy;omega
 unfold mergeF at hmo
 repeat first|refine n1 ?_|refine n3 ?_|((refine rg 2 [1,4] [1,4] [] ?_);simp (maxSteps:=1000000) [hF,dBoxL])
 refine (delLs_ok cur (by omega)).go [(1,[.d])] (by simp (maxSteps:=1000000) [hF,dBoxL]) ?_;rintro av X κ ⟨s1,m1,rfl,rfl,rfl,hs1,hm1⟩;simp (maxSteps:=1000000) [hF,dBoxL]
 generalize (cur.filter fun x=>!nul x) = l at *
 subst hm1
 repeat first|refine n1 ?_|((first|refine rg 3 [1,4] [1,4,13] [] ?_|refine nc ?_);simp (maxSteps:=1000000) [hF,hs1])
 refine ⟨fun hl0=>?_,fun hl0=>?_⟩
 ·rw [if_pos hl0] at hmo
  rw [←hmo]
  repeat first|refine n1 ?_|((refine rg 4 [4] [2,3] [] ?_);simp (maxSteps:=1000000) [hF])
  (try refine nr ?_);(repeat first|refine nb_ ?_|refine nl_ ?_);refine endK.o [2,3] [0,2] [(0,[])] ?_;simp [hF,retK,covers,mpre]
 ·rw [if_neg hl0] at hmo
  refine VS.pick [1,4] [0,1,2] (by simp [hF]) ?_;simp [hF]
  repeat first|refine n1 ?_|refine n2 ?_|((refine rg 5 [1,4] [1,4,5] [] ?_);simp (maxSteps:=1000000) [hF])
  refine (indexFunc_2 false l (by omega) (fun x=>!inTails l (hd x)) (fun i h=>by have hp:=hpos _ (List.getElem_mem h);rw [hd_eq hp];exact m2_ok false l l[i] (by omega) hpos hle hp)).go [(1,[])] (by simp (maxSteps:=1000000) [hF,dBoxL]) ?_;rintro av X κ ⟨rfl,rfl,rfl⟩;simp (maxSteps:=1000000) [hF,dBoxL]
  by_cases hat:ixF (fun x=>!inTails l (hd x)) l = -1
  ·have hfind:l.find? (fun x=>!inTails l (hd x)) = none:=by
    rw [List.find?_eq_none]
    intro x hx
    have:=ixF_none hat
    rw [List.filter_eq_self] at this
    have:=this x hx
    simpa using this
   rw [hfind] at hmo
   simp only at hmo
   rw [←hmo]
   repeat first|refine n1 ?_|((first|refine rg 6 [1,4,5] [1,4,5,19] [] ?_|refine rg 7 [] [2,3] [] ?_|refine nc ?_);simp (maxSteps:=1000000) [hF,hat])
   (try refine nr ?_);(repeat first|refine nb_ ?_|refine nl_ ?_);refine endK.o [2,3] [0] [(0,[])] ?_;simp [hF,retK,covers,mpre]
  ·obtain ⟨i0,hi0,he,hp0,hall⟩:=ixF_some hat
   have hfind:l.find? (fun x=>!inTails l (hd x)) = some l[i0]:=by
    rw [List.find?_eq_some_iff_getElem]
    exact ⟨hp0,i0,hi0,rfl,fun j hj=>by simpa using hall j hj⟩
   rw [hfind] at hmo
   simp only at hmo
   have hn:=dLs_nth hi0
   have hx0:=hpos _ (List.getElem_mem hi0)
   have hn0:=dInts_nth hx0
   have hhd:=hd_eq hx0
   have hlt:=total_drop_lt (List.getElem_mem hi0) hx0 rfl
   rw [hhd] at hmo hlt
   have happ:=dInts_app1 out l[i0][0]
   have b1:(out.length + 1) * 8≤140737488355328:=by omega
   have b2:out.length + 1≤9223372036854775807:=by omega
   have hneg:¬ (i0:Int) < 0:=by omega
   repeat first|refine n1 ?_|refine n2 ?_|refine n3 ?_|((first|refine rg 6 [1,4,5] [1,4,5,19] [] ?_|refine rg 8 [1,4,5] [1,4,6] [] ?_|refine rg 9 [1,4,6] [1,4,6] [] ?_|refine rg 10 [1,4,6] [1,4,6,30,31,32] [] ?_|refine nc ?_);simp (maxSteps:=1000000) [hF,he,hn,hx0,hn0,hi0,happ,b1,b2,hneg,dBoxL])
   have hdone:((dInts (out ++ [l[i0][0]])).mid 0 (out.length + 1)) = dInts (out ++ [l[i0][0]]):=sq_mid_all _ _ (by simp)
   generalize l[i0][0] = v at *
   refine VS.pick [1,4,6,30,31,32] [0,1,2] (by simp [hF]) ?_;simp [hF]
   refine VS.rounds (fun m2 st=>∃ (k:Nat),k + m2 = l.length∧st = ⟨[(1,.ptr 1 [.d]),(4,.sub 2 [] 0 (out.length + 1) false),(6,avInt v),(30,.sub 1 [.d] 0 l.length false),(31,avInt l.length),(32,avInt k)],
    [.junk (),dBoxL ((l.map (dropHd v)).take k ++ l.drop k),.sl true () 1 (dInts (out ++ [v]))],[(0,[])],[]⟩) ⟨l.length,0,by omega,by simp [dBoxL]⟩ ?_
   rintro m2 st ⟨k,hk,rfl⟩
   repeat first|refine n1 ?_|((first|refine rg 11 [1,4,6,30,31,32] [1,4,6,30,31,32,33] [] ?_|refine nc ?_);simp (maxSteps:=1000000) [hF,dBoxL])
   refine ⟨fun hlt2=>?_,fun hge2=>?_⟩
   ·have hkl:k < l.length:=by omega
    have hclen:((l.map (dropHd v)).take k ++ l.drop k).length = l.length:=by simp;omega
    have hkl2:k < ((l.map (dropHd v)).take k ++ l.drop k).length:=by omega
    have hcur:((l.map (dropHd v)).take k ++ l.drop k)[k] = l[k]:=by
     rw [List.getElem_append_right (by simp;omega)]
     simp [Nat.min_eq_left (Nat.le_of_lt hkl)]
    have hnk:=dLs_nth hkl2
    rw [hcur] at hnk
    have hx1:=hpos _ (List.getElem_mem hkl)
    have hn1:=dInts_nth hx1
    have hhk:=hd_eq hx1
    have hnext:∀ y,y = dropHd v l[k]→((l.map (dropHd v)).take k ++ l.drop k).set k y = (l.map (dropHd v)).take (k + 1) ++ l.drop (k + 1):=fun y hy=>by
     subst hy
     rw [List.set_append_right _ _ (by simp;omega)]
     simp only [List.length_map,List.length_take,Nat.min_eq_left (Nat.le_of_lt hkl),Nat.sub_self]
     rw [List.drop_eq_getElem_cons hkl,List.set_cons_zero,List.take_add_one,List.getElem?_map,List.getElem?_eq_getElem hkl]
     simp
    have hsetk:=dLs_set ((l.map (dropHd v)).take k ++ l.drop k) k l[k].tail
    have htl:=dInts_tail l[k]
    have hx1':(1:Int)≤l[k].length:=by omega
    have hx1'':1≤l[k].length:=by omega
    repeat first|refine n1 ?_|refine n2 ?_|refine n3 ?_|((first|refine rg 12 [1,4,6,30,31,32] [1,4,6,7,8,30,31,32] [] ?_|refine rg 13 [1,4,6,7,8,30,31,32] [1,4,6,7,8,30,31,32,41] [] ?_|refine nc ?_);simp (maxSteps:=1000000) [hF,hkl,hkl2,hclen,hnk,hx1,hn1,dBoxL])
    refine ⟨fun hv=>?_,fun hv=>?_⟩
    ·have hd1:=hnext l[k].tail (by unfold dropHd;rw [if_pos (by rw [hhk,hv])])
     repeat first|refine n4 ?_|refine n5 ?_|refine n6 ?_|((first|(refine dr 14 0 [1,4,6,7,8,30,31,32] [1,4,6,30,31,32] [] [⟨0,2,4398046511104,6⟩,⟨0,128,8796093022208,5⟩,⟨0,256,17592186044416,5⟩,⟨4,17592186044416,35184372088832,5⟩,⟨15,13194139533312,70368744177664,5⟩,⟨31,105553116266496,0,0⟩] (.take 0 (.take 1 (.take 2 (.take 3 (.take 4 (.fork (.alt 5 (.done) (.nil)))))))) (.run [0,1,2,3,4,5] (.done)) ?_;simp only [drs])|refine rg 15 [1,4,6,30,31,32] [1,4,6,30,31,32] [] ?_);simp (maxSteps:=1000000) [hF,hkl,hkl2,hclen,hnk,hx1,hn1,htl,hsetk,hx1',hx1'',dBoxL])
     refine nextK.of [1,4,6,30,31,32] [0,1,2] (m2 - 1) (by omega) (by simp [hF]) ?_
     refine ⟨k + 1,by omega,?_⟩
     rw [←hd1]
     simp [dBoxL]
     exact IntWalk.i64_in _ (by omega)
    ·have hd1:=hnext l[k] (by unfold dropHd;rw [if_neg (by rw [hhk];exact hv)])
     have hself:((l.map (dropHd v)).take k ++ l.drop k).set k l[k] = (l.map (dropHd v)).take k ++ l.drop k:=by
      rw [←hcur];exact List.set_getElem_self _
     rw [hself] at hd1
     repeat first|refine n2 ?_|refine n4 ?_|refine n5 ?_|refine n6 ?_|((refine rg 15 [1,4,6,30,31,32] [1,4,6,30,31,32] [] ?_);simp (maxSteps:=1000000) [hF])
     refine nextK.of [1,4,6,30,31,32] [0,1,2] (m2 - 1) (by omega) (by simp [hF]) ?_
     refine ⟨k + 1,by omega,?_⟩
     rw [←hd1]
     simp [dBoxL]
     exact IntWalk.i64_in _ (by omega)
   ·obtain rfl:k = l.length:=by omega
    have hall2:(l.map (dropHd v)).take l.length = l.map (dropHd v):=List.take_of_length_le (by simp)
    repeat first|refine n4 ?_|refine n6 ?_|refine n7 ?_
    refine nextK.of [1,4] [0,1,2] (total (l.map (dropHd v))) (by omega) (by simp [hF]) ?_
    refine ⟨l.map (dropHd v),out ++ [v],f,rfl,by omega,hmo,by simp;omega,by simp;omega,?_⟩
    simp [dBoxL,hall2]
end Go.Proofs.YtbhigdljojlhnaaGreat

/- The orders of things: plain facts, no program in sight. -/
namespace Go.Proofs.YtbhigdljojlhnaaGreat
set_option linter.all false
open Go.Vc Go.Proofs
theorem mem_dropHd {v u:Int} {y:List Int} (h:u∈dropHd v y):u∈y:=by
 unfold dropHd at h
 split at h
 ·exact List.mem_of_mem_tail h
 ·exact h
theorem inTails_false {ls:List (List Int)} {v:Int} (h:inTails ls v = false):∀ y∈ls,v∉y.tail:=by
 intro y hy hv
 have:inTails ls v = true:=List.any_eq_true.2 ⟨y,hy,hasN_iff.2 hv⟩
 rw [h] at this;cases this
theorem not_mem_dropHd {v:Int} {y:List Int} (h:v∉y.tail):v∉dropHd v y:=by
 unfold dropHd
 split
 ·exact h
 ·rename_i hh
  cases y with
  | nil=>simp
  | cons a l =>
   intro hm
   rcases List.mem_cons.1 hm with rfl | hm
   ·exact hh rfl
   ·exact h hm
theorem dropHd_sub {v:Int} {y rest:List Int} (h0:0 < y.length) (h:(dropHd v y).Sublist rest):y.Sublist (v :: rest):=by
 unfold dropHd at h
 split at h
 ·rename_i hh
  cases y with
  | nil=>cases h0
  | cons a l=>obtain rfl:a = v:=hh;exact h.cons₂ _
 ·exact h.cons _
theorem merge_spec:∀ (f:Nat) (ls:List (List Int)) (out o:List Int),mergeF f ls out = some o→(∀ y∈ls,y.Nodup) →
  ∃ rest,o = out ++ rest∧rest.Nodup∧(∀ y∈ls,y.Sublist rest)∧∀ v∈rest,∃ y∈ls,v∈y
 | 0,_,_,_,h,_=>by cases h
 | f + 1,ls,out,o,h,hn=>by
  unfold mergeF at h
  have hnil:∀ y∈ls,y∉(ls.filter fun x=>!nul x)→y = []:=fun y hy hm=>by
   have:¬ (!nul y) = true:=fun h=>hm (List.mem_filter.2 ⟨hy,h⟩)
   simpa [nul] using this
  split at h
  ·rename_i h0
   cases h
   refine ⟨[],by simp,List.nodup_nil,fun y hy=>?_,fun v hv=>by cases hv⟩
   rw [hnil y hy (by rw [h0];simp)]
   exact List.Sublist.slnil
  ·split at h
   ·cases h
   ·rename_i x hx
    have hxm:=List.mem_of_find?_eq_some hx
    have hxp:=List.find?_some hx
    have hxt:=inTails_false (by simpa using hxp)
    have hfl:∀ y∈(ls.filter fun x=>!nul x),y∈ls:=fun y hy=>(List.mem_filter.1 hy).1
    have hsub:∀ y∈(ls.filter fun x=>!nul x).map (dropHd (hd x)),y.Nodup:=fun y hy=>by
     obtain ⟨z,hz,rfl⟩:=List.mem_map.1 hy
     have:=hn z (hfl z hz)
     unfold dropHd
     split
     ·exact this.sublist (List.tail_sublist _)
     ·exact this
    obtain ⟨rest,ho,hr,hs,hm⟩:=merge_spec f _ _ _ h hsub
    have hall:∀ z∈rest,∃ y∈ls,z∈y:=fun z hz=>by
     obtain ⟨y,hy,hzy⟩:=hm z hz
     obtain ⟨u,hu,rfl⟩:=List.mem_map.1 hy
     exact ⟨u,hfl u hu,mem_dropHd hzy⟩
    refine ⟨hd x :: rest,by rw [ho];simp,List.nodup_cons.2 ⟨fun hz=>?_,hr⟩,fun y hy=>?_,fun v hv=>?_⟩
    ·obtain ⟨y,hy,hzy⟩:=hm _ hz
     obtain ⟨u,hu,rfl⟩:=List.mem_map.1 hy
     exact not_mem_dropHd (hxt u hu) hzy
    ·by_cases hyf:y∈(ls.filter fun x=>!nul x)
     ·exact dropHd_sub (filter_pos hyf) (hs _ (List.mem_map.2 ⟨y,hyf,rfl⟩))
     ·rw [hnil y hy hyf];exact List.nil_sublist _
    ·rcases List.mem_cons.1 hv with rfl | hv
     ·refine ⟨x,hfl x hxm,?_⟩
      have:=filter_pos hxm
      rw [hd_eq this];exact List.getElem_mem _
     ·exact hall v hv
def ordersOf (g:Int→Option (List Int)):List Int→Option (List (List Int))
 | []=>some []
 | t :: l=>match g t with
  | none=>none
  | some o=>(ordersOf g l).map fun r=>o :: r
def mergedF (g:Int→Option (List Int)) (things:List Int):Option (List Int):=(ordersOf g things).bind fun ls=>mergeOf (ls ++ [things])
theorem ordersOf_mem {g:Int→Option (List Int)}:∀ {l:List Int} {ls:List (List Int)},ordersOf g l = some ls→(∀ o∈ls,∃ t∈l,g t = some o)∧(∀ t∈l,∃ o∈ls,g t = some o)∧ls.length = l.length
 | [],ls,h=>by cases h;exact ⟨(fun o h=>by cases h),(fun o h=>by cases h),rfl⟩
 | t :: l,ls,h=>by
  unfold ordersOf at h
  split at h
  ·cases h
  ·rename_i o ho
   cases hr:ordersOf g l with
   | none=>rw [hr] at h;cases h
   | some r =>
    rw [hr] at h
    cases h
    obtain ⟨h1,h2,h3⟩:=ordersOf_mem hr
    refine ⟨fun o' ho'=>?_,fun t' ht'=>?_,by simp [h3]⟩
    ·rcases List.mem_cons.1 ho' with rfl | ho'
     ·exact ⟨t,List.mem_cons_self,ho⟩
     ·obtain ⟨t',q1,q2⟩:=h1 o' ho';exact ⟨t',List.mem_cons_of_mem _ q1,q2⟩
    ·rcases List.mem_cons.1 ht' with rfl | ht'
     ·exact ⟨o,List.mem_cons_self,ho⟩
     ·obtain ⟨o',q1,q2⟩:=h2 t' ht';exact ⟨o',List.mem_cons_of_mem _ q1,q2⟩
theorem ordersOf_congr {g g':Int→Option (List Int)}:∀ {l:List Int},(∀ t∈l,g t = g' t)→ordersOf g l = ordersOf g' l
 | [],_=>rfl
 | t :: l,h=>by
  unfold ordersOf
  rw [h t List.mem_cons_self,ordersOf_congr fun t ht=>h t (List.mem_cons_of_mem _ ht)]
theorem ordersOf_mono {g g':Int→Option (List Int)} (hg:∀ t o,g t = some o→g' t = some o):∀ {l:List Int} {ls:List (List Int)},ordersOf g l = some ls→ordersOf g' l = some ls
 | [],_,h=>h
 | t :: l,ls,h=>by
  unfold ordersOf at h ⊢
  split at h
  ·cases h
  ·rename_i o ho
   rw [hg t o ho]
   cases hr:ordersOf g l with
   | none=>rw [hr] at h;cases h
   | some r=>rw [hr] at h;simp only;rw [ordersOf_mono hg hr];exact h
theorem mergedF_congr {g g':Int→Option (List Int)} {l:List Int} (h:∀ t∈l,g t = g' t):mergedF g l = mergedF g' l:=by
 unfold mergedF;rw [ordersOf_congr h]
theorem mergedF_mono {g g':Int→Option (List Int)} (hg:∀ t o,g t = some o→g' t = some o) {l o:List Int} (h:mergedF g l = some o):mergedF g' l = some o:=by
 unfold mergedF at *
 cases hr:ordersOf g l with
 | none=>rw [hr] at h;cases h
 | some r=>rw [hr] at h;rw [ordersOf_mono hg hr];exact h
theorem merged_spec {g:Int→Option (List Int)} {l o:List Int} (h:mergedF g l = some o) (hl:l.Nodup) (hg:∀ t∈l,∀ ot,g t = some ot→ot.Nodup) :
  o.Nodup∧l.Sublist o∧(∀ t∈l,∃ ot,g t = some ot∧ot.Sublist o)∧∀ v∈o,v∈l∨∃ t∈l,∃ ot,g t = some ot∧v∈ot:=by
 unfold mergedF at h
 cases hr:ordersOf g l with
 | none=>rw [hr] at h;cases h
 | some ls =>
  rw [hr] at h
  simp only [Option.bind_some] at h
  obtain ⟨h1,h2,_⟩:=ordersOf_mem hr
  obtain ⟨rest,ho,hn,hs,hm⟩:=merge_spec _ _ _ _ h (fun y hy=>by
   rcases List.mem_append.1 hy with hy | hy
   ·obtain ⟨t,ht,he⟩:=h1 y hy;exact hg t ht y he
   ·simp only [List.mem_singleton] at hy;subst hy;exact hl)
  simp only [List.nil_append] at ho
  subst ho
  refine ⟨hn,hs _ (by simp),fun t ht=>?_,fun v hv=>?_⟩
  ·obtain ⟨ot,q1,q2⟩:=h2 t ht
   exact ⟨ot,q2,hs _ (by simp [q1])⟩
  ·obtain ⟨y,hy,hvy⟩:=hm v hv
   rcases List.mem_append.1 hy with hy | hy
   ·obtain ⟨t,ht,he⟩:=h1 y hy;exact .inr ⟨t,ht,y,he,hvy⟩
   ·simp only [List.mem_singleton] at hy;subst hy;exact .inl hvy
def parents (x:Th):List Int:=x.ins ++ if 0≤x.sup then [x.sup] else []
def ordF:Nat→List Th→Int→Option (List Int)
 | 0,_,_=>none
 | n + 1,L,t=>match L[t.toNat]? with
  | none=>none
  | some x=>match mergedF (ordF n L) x.bef with
   | none=>none
   | some front=>match mergedF (ordF n L) (parents x) with
    | none=>none
    | some behind=>some (front ++ [t] ++ behind.filter fun v=>!hasN front v)
theorem ordF_succ {L:List Th}:∀ {n:Nat} {t:Int} {o:List Int},ordF n L t = some o→ordF (n + 1) L t = some o
 | 0,_,_,h=>by cases h
 | n + 1,t,o,h=>by
  unfold ordF at h ⊢
  split at h
  ·cases h
  ·split at h
   ·cases h
   ·rename_i front hf
    split at h
    ·cases h
    ·rename_i behind hb
     rw [mergedF_mono (fun t o=>ordF_succ (n:=n)) hf]
     simp only
     rw [mergedF_mono (fun t o=>ordF_succ (n:=n)) hb]
     exact h
theorem ordF_mono {L:List Th} {n m:Nat} (h:n≤m) {t:Int} {o:List Int} (ho:ordF n L t = some o):ordF m L t = some o:=by
 induction h with
 | refl=>exact ho
 | step _ ih=>exact ordF_succ ih
structure Base (L:List Th) (r:Int→Nat):Prop where
 edge:∀ (t:Nat) (x:Th),L[t]? = some x→∀ u,u∈x.bef∨u∈parents x→0≤u∧u < L.length∧r u < r t
 nb:∀ (t:Nat) (x:Th),L[t]? = some x→x.bef.Nodup
 np:∀ (t:Nat) (x:Th),L[t]? = some x→(parents x).Nodup
 len:L.length≤1000
theorem ordF_stable {L:List Th} {r:Int→Nat} (B:Base L r):∀ {n m:Nat} {t:Int},0≤t→r t < n→r t < m→ordF n L t = ordF m L t
 | 0,_,_,_,h,_=>by omega
 | _,0,_,_,_,h=>by omega
 | n + 1,m + 1,t,h0,hn,hm=>by
  unfold ordF
  cases hx:L[t.toNat]? with
  | none=>rfl
  | some x =>
   have hg:∀ u,u∈x.bef∨u∈parents x→ordF n L u = ordF m L u:=fun u hu=>by
    obtain ⟨q1,q2,q3⟩:=B.edge _ _ hx u hu
    have ht:((t.toNat:Nat):Int) = t:=by omega
    rw [ht] at q3
    exact ordF_stable B q1 (by omega) (by omega)
   simp only
   rw [mergedF_congr fun u hu=>hg u (.inl hu),mergedF_congr fun u hu=>hg u (.inr hu)]
open Classical in
noncomputable def ordOf (L:List Th) (t:Int):Option (List Int):=if h:∃ o n,ordF n L t = some o then some (Classical.choose h) else none
theorem ordOf_of {L:List Th} {n:Nat} {t:Int} {o:List Int} (h:ordF n L t = some o):ordOf L t = some o:=by
 have hex:∃ o n,ordF n L t = some o:=⟨o,n,h⟩
 unfold ordOf
 rw [dif_pos hex]
 obtain ⟨m,hm⟩:=Classical.choose_spec hex
 have h1:=ordF_mono (Nat.le_max_left n m) h
 have h2:=ordF_mono (Nat.le_max_right n m) hm
 rw [h1] at h2
 exact h2.symm
theorem ordOf_eq {L:List Th} {r:Int→Nat} (B:Base L r) {n:Nat} {t:Int} (h0:0≤t) (hn:r t < n):ordOf L t = ordF n L t:=by
 cases h:ordF n L t with
 | some o=>exact ordOf_of h
 | none =>
  unfold ordOf
  rw [dif_neg]
  rintro ⟨o,m,hm⟩
  have h2:=ordF_mono (Nat.le_max_right n m) hm
  have h3:=ordF_stable B h0 hn (show r t < max n m by omega)
  rw [h,h2] at h3
  cases h3
theorem ordOf_step {L:List Th} {r:Int→Nat} (B:Base L r) {t:Nat} {x:Th} (hx:L[t]? = some x) :
  ordOf L t = match mergedF (ordOf L) x.bef with
   | none=>none
   | some front=>match mergedF (ordOf L) (parents x) with
    | none=>none
    | some behind=>some (front ++ [(t:Int)] ++ behind.filter fun v=>!hasN front v):=by
 have hg:∀ u,u∈x.bef∨u∈parents x→ordF (r t) L u = ordOf L u:=fun u hu=>by
  obtain ⟨q1,q2,q3⟩:=B.edge _ _ hx u hu
  exact (ordOf_eq B q1 q3).symm
 rw [ordOf_eq B (n:=r t + 1) (by omega) (by omega)]
 unfold ordF
 simp only [Int.toNat_natCast,hx]
 rw [mergedF_congr fun u hu=>hg u (.inl hu),mergedF_congr fun u hu=>hg u (.inr hu)]
theorem ordF_spec {L:List Th} {r:Int→Nat} (B:Base L r):∀ {n t:Nat} {o:List Int},t < L.length→ordF n L t = some o →
  o.Nodup∧(t:Int)∈o∧∀ v∈o,0≤v∧v < L.length∧(v = t∨r v < r t)
 | 0,_,_,_,h=>by cases h
 | n + 1,t,o,ht,h=>by
  unfold ordF at h
  simp only [Int.toNat_natCast] at h
  cases hx:L[t]? with
  | none=>rw [hx] at h;cases h
  | some x =>
   rw [hx] at h
   simp only at h
   split at h
   ·cases h
   ·rename_i front hf
    split at h
    ·cases h
    ·rename_i behind hb
     cases h
     have each:∀ u,u∈x.bef∨u∈parents x→∀ ou,ordF n L u = some ou→ou.Nodup∧∀ v∈ou,0≤v∧v < L.length∧r v < r t:=fun u hu ou hou=>by
      obtain ⟨q1,q2,q3⟩:=B.edge _ _ hx u hu
      obtain ⟨k,rfl⟩:∃ k:Nat,u = k:=⟨u.toNat,by omega⟩
      obtain ⟨s1,s2,s3⟩:=ordF_spec B (n:=n) (by omega) hou
      refine ⟨s1,fun v hv=>?_⟩
      obtain ⟨w1,w2,w3⟩:=s3 v hv
      refine ⟨w1,w2,?_⟩
      rcases w3 with rfl | w3 <;> omega
     obtain ⟨f1,f2,f3,f4⟩:=merged_spec hf (B.nb _ _ hx) (fun u hu ou ho=>(each u (.inl hu) ou ho).1)
     obtain ⟨b1,b2,b3,b4⟩:=merged_spec hb (B.np _ _ hx) (fun u hu ou ho=>(each u (.inr hu) ou ho).1)
     have hfv:∀ v∈front,0≤v∧v < L.length∧r v < r t:=fun v hv=>by
      rcases f4 v hv with h | ⟨u,hu,ou,ho,hv⟩
      ·exact B.edge _ _ hx v (.inl h)
      ·exact (each u (.inl hu) ou ho).2 v hv
     have hbv:∀ v∈behind,0≤v∧v < L.length∧r v < r t:=fun v hv=>by
      rcases b4 v hv with h | ⟨u,hu,ou,ho,hv⟩
      ·exact B.edge _ _ hx v (.inr h)
      ·exact (each u (.inr hu) ou ho).2 v hv
     have hne:∀ v,r v < r t→v≠t:=fun v hv e=>by subst e;omega
     refine ⟨?_,by simp,fun v hv=>?_⟩
     ·rw [List.nodup_append,List.nodup_append]
      refine ⟨⟨f1,by simp,fun a ha b hb=>?_⟩,b1.filter _,fun a ha b hb=>?_⟩
      ·simp only [List.mem_singleton] at hb;subst hb
       exact hne a (hfv a ha).2.2
      ·obtain ⟨hb1,hb2⟩:=List.mem_filter.1 hb
       rcases List.mem_append.1 ha with ha | ha
       ·intro e;subst e
        simp [hasN_iff.2 ha] at hb2
       ·simp only [List.mem_singleton] at ha;subst ha
        exact (hne b (hbv b hb1).2.2).symm
     ·rcases List.mem_append.1 hv with hv | hv
      ·rcases List.mem_append.1 hv with hv | hv
       ·obtain ⟨q1,q2,q3⟩:=hfv v hv;exact ⟨q1,q2,.inr q3⟩
       ·simp only [List.mem_singleton] at hv;subst hv
        exact ⟨by omega,by omega,.inl rfl⟩
      ·obtain ⟨q1,q2,q3⟩:=hbv v (List.mem_filter.1 hv).1;exact ⟨q1,q2,.inr q3⟩
theorem ordOf_some {L:List Th} {t:Int} {o:List Int} (h:ordOf L t = some o):∃ n,ordF n L t = some o:=by
 unfold ordOf at h
 split at h
 ·rename_i hex
  cases h
  exact Classical.choose_spec hex
 ·cases h
theorem ordOf_spec {L:List Th} {r:Int→Nat} (B:Base L r) {t:Nat} {o:List Int} (ht:t < L.length) (h:ordOf L t = some o) :
  o.Nodup∧(t:Int)∈o∧∀ v∈o,0≤v∧v < L.length∧(v = t∨r v < r t):=by
 obtain ⟨n,hn⟩:=ordOf_some h
 exact ordF_spec B ht hn
theorem nodup_bound:∀ (N:Nat) (l:List Int),l.Nodup→(∀ x∈l,0≤x∧x < N)→l.length≤N
 | 0,l,_,h=>by
  cases l with
  | nil=>exact Nat.le_refl _
  | cons a l=>have:=h a List.mem_cons_self;omega
 | N + 1,l,hn,h=>by
  have h1:=nodup_bound N (l.erase (N:Int)) (hn.erase _) (fun x hx=>by
   have h2:=h x (List.mem_of_mem_erase hx)
   have h3:x≠N:=fun e=>by subst e;exact (hn.not_mem_erase) hx
   omega)
  by_cases hm:(N:Int)∈l
  ·rw [List.length_erase_of_mem hm] at h1;omega
  ·rw [List.erase_of_not_mem hm] at h1;omega
def putE:List (Int×List Int)→Int→List Int→List (Int×List Int)
 | [],k,o=>[(k,o)]
 | e :: l,k,o=>if e.1 = k then (k,o) :: l else e :: putE l k o
theorem dEns_putE (l:List (Int×List Int)) (k:Int) (o:List Int):mput (.int .i64 k) (.sl false () 1 (dInts o)) (dEns l) = dEns (putE l k o):=by
 induction l with
 | nil=>rfl
 | cons e l ih =>
  rw [dEns_cons]
  unfold mput putE
  by_cases h:e.1 = k
  ·rw [if_pos (by rw [h];rfl),if_pos h,dEns_cons,h]
  ·rw [if_neg (by simpa [keyT_int] using h),if_neg h,dEns_cons,ih]
theorem got_putE (l:List (Int×List Int)) (k k':Int) (o:List Int):got (putE l k o) k' = if k' = k then some o else got l k':=by
 induction l with
 | nil =>
  by_cases h:k' = k
  ·simp [putE,got,h]
  ·simp [putE,got,h,Ne.symm h]
 | cons e l ih =>
  unfold putE
  by_cases h:e.1 = k
  ·rw [if_pos h]
   by_cases h':k' = k
   ·simp [got,h']
   ·simp [got,h,h',Ne.symm h']
  ·rw [if_neg h]
   by_cases h2:e.1 = k'
   ·have:¬ k' = k:=fun e'=>h (h2.trans e')
    simp [got,h2,this]
   ·have:got (e :: putE l k o) k' = got (putE l k o) k':=by simp [got,h2]
    rw [this,ih]
    have:got (e :: l) k' = got l k':=by simp [got,h2]
    rw [this]
end Go.Proofs.YtbhigdljojlhnaaGreat

/- merged and find. -/
namespace Go.Proofs.YtbhigdljojlhnaaGreat
set_option linter.all false
open Go.Vc Go.Proofs
set_option linter.unusedSimpArgs false
set_option maxRecDepth 100000
set_option maxHeartbeats 4000000
attribute [local irreducible] CallW EqK
def MemoOk (L:List Th) (M:List (Int×List Int)):Prop:=∀ k o,got M k = some o→ordOf L k = some o
def FindR (L:List Th) (t:Int) (av:AV) (X:List D) (κ:List (Nat×Path)):Prop :=
 ∃ M,MemoOk L M∧X = [dL L,dM M]∧κ = [(1,[.i 0])]∧av = match ordOf L t with
  | some o=>.tup (.cons (.imm 1 (dInts o) false) (.cons (avBool true) .nil))
  | none=>.tup (.cons (.nils 1) (.cons (avBool false) .nil))
def FindOk (L:List Th) (r:Int→Nat) (n:Nat):Prop:=∀ t:Nat,t < L.length→r t < n→∀ M,MemoOk L M →
 Meets Tryz.prog 114 [dL L,dM M] (.cons (.ptr 0 [.d]) (.cons (avInt t) (.cons (.mp 1 []) .nil))) (FindR L t)
section
variable {L:List Th} {r:Int→Nat} {n t:Nat} {M:List (Int×List Int)}
theorem FindOk.yes (h:FindOk L r n) (ht:t < L.length) (hr:r t < n) (hM:MemoOk L M) {o:List Int} (ho:ordOf L t = some o) :
  Meets Tryz.prog 114 [dL L,dM M] (.cons (.ptr 0 [.d]) (.cons (avInt t) (.cons (.mp 1 []) .nil)))
  fun av X κ=>∃ M,MemoOk L M∧X = [dL L,dM M]∧κ = [(1,[.i 0])]∧av = .tup (.cons (.imm 1 (dInts o) false) (.cons (avBool true) .nil)) :=
 Meets.mono (h t ht hr M hM) fun av X κ ⟨M,h1,h2,h3,h4⟩=>⟨M,h1,h2,h3,by rw [ho] at h4;exact h4⟩
theorem FindOk.no (h:FindOk L r n) (ht:t < L.length) (hr:r t < n) (hM:MemoOk L M) (ho:ordOf L t = none) :
  Meets Tryz.prog 114 [dL L,dM M] (.cons (.ptr 0 [.d]) (.cons (avInt t) (.cons (.mp 1 []) .nil)))
  fun av X κ=>∃ M,MemoOk L M∧X = [dL L,dM M]∧κ = [(1,[.i 0])]∧av = .tup (.cons (.nils 1) (.cons (avBool false) .nil)) :=
 Meets.mono (h t ht hr M hM) fun av X κ ⟨M,h1,h2,h3,h4⟩=>⟨M,h1,h2,h3,by rw [ho] at h4;exact h4⟩
end
theorem ordersOf_cons (g:Int→Option (List Int)) (t:Int) (l:List Int):ordersOf g (t :: l) = match g t with
  | none=>none
  | some o=>(ordersOf g l).map fun r=>o :: r:=rfl
theorem ord_len {L:List Th} {r:Int→Nat} (B:Base L r) {t:Nat} {o:List Int} (ht:t < L.length) (h:ordOf L t = some o):o.length≤1000:=by
 obtain ⟨h1,_,h3⟩:=ordOf_spec B ht h
 have:=nodup_bound L.length o h1 fun x hx=>⟨(h3 x hx).1,(h3 x hx).2.1⟩
 have:=B.len
 omega
theorem merged_len {L:List Th} {r:Int→Nat} (B:Base L r) {things o:List Int} (hth:∀ u∈things,0≤u∧u < L.length) (hnd:things.Nodup) (h:mergedF (ordOf L) things = some o) :
  o.Nodup∧(∀ v∈o,0≤v∧v < L.length)∧o.length≤1000:=by
 have each:∀ u∈things,∀ ou,ordOf L u = some ou→ou.Nodup∧∀ v∈ou,0≤v∧v < L.length:=fun u hu ou ho=>by
  have:=hth u hu
  obtain ⟨k,rfl⟩:∃ k:Nat,u = k:=⟨u.toNat,by omega⟩
  obtain ⟨h1,_,h3⟩:=ordOf_spec B (by omega) ho
  exact ⟨h1,fun v hv=>⟨(h3 v hv).1,(h3 v hv).2.1⟩⟩
 obtain ⟨f1,f2,f3,f4⟩:=merged_spec h hnd fun u hu ou ho=>(each u hu ou ho).1
 have hv:∀ v∈o,0≤v∧v < L.length:=fun v hv=>by
  rcases f4 v hv with h | ⟨u,hu,ou,ho,hv⟩
  ·exact hth v h
  ·exact (each u hu ou ho).2 v hv
 have:=nodup_bound L.length o f1 hv
 have:=B.len
 exact ⟨f1,hv,by omega⟩
theorem dInts_one (x:Int):dInts [x] = .cons (.val (.int .i64 x)) .nil:=rfl
theorem total_bound {ls:List (List Int)} (h:∀ y∈ls,y.length≤1000):total ls≤1000 * ls.length:=by
 induction ls with
 | nil=>simp [total]
 | cons x l ih =>
  have h1:=h x List.mem_cons_self
  have h2:=ih fun y hy=>h y (List.mem_cons_of_mem _ hy)
  simp only [total,List.length_cons];omega
theorem merged_ok {L:List Th} {r:Int→Nat} (B:Base L r) {n:Nat} (hF:FindOk L r n) (things:List Int) (hth:∀ u∈things,0≤u∧u < L.length∧r u < n) (hnd:things.Nodup) (M:List (Int×List Int)) (hM:MemoOk L M) (ex:Bool) :
  Meets Tryz.prog 128 [dL L,dM M] (.cons (.ptr 0 [.d]) (.cons (.imm 1 (dInts things) ex) (.cons (.mp 1 []) .nil)))
  fun av X κ=>∃ M,MemoOk L M∧κ = [(1,[.i 0])]∧match mergedF (ordOf L) things with
   | some o=>av = .tup (.cons (.sub 2 [] 0 o.length false) (.cons (avBool true) .nil))∧X = [dL L,dM M,.sl true () 1 (dInts o)]
   | none=>av = .tup (.cons (.nils 1) (.cons (avBool false) .nil))∧X = [dL L,dM M]:=by
 have hfind:=hF
 clear hF
 have hlen:=nodup_bound L.length things hnd fun x hx=>⟨(hth x hx).1,(hth x hx).2.1⟩
 have hL:=B.len
 refine fb Tryz.func128 Tryz.ntmps128 [.tmp 6,.tmp 7] fun w0 I0 F0 hF=>?_
 repeat first|refine n1 ?_|refine n3 ?_|((first|refine rg 0 [0,1,2] [0,1,2] [] ?_|refine rg 1 [0,1,2] [0,1,2,8] [] ?_|refine rg 2 [0,1,2,8] [0,1,2,8,13,14,15] [] ?_);simp (maxSteps:=1000000) [hF])
 refine VS.hold0 8 1 (by simp) ?_
 refine VS.widen [(1,[.i 0])] (by simp [covers,mpre]) ?_
 refine VS.pick [0,1,2,8,13,14,15] [0,1,2] (by simp [hF]) ?_;simp [hF]
 refine VS.rounds (fun m st=>∃ (i:Nat) (acc:List (List Int)) (s:D) (M:List (Int×List Int)),i + m = things.length∧acc.length = i∧(∀ y∈acc,y.length≤1000)∧MemoOk L M∧ordersOf (ordOf L) things = (ordersOf (ordOf L) (things.drop i)).map (fun r=>acc ++ r) ∧
  s.mid 0 i = dLs acc∧st = ⟨[(0,.ptr 0 [.d]),(1,.imm 1 (dInts things) ex),(2,.mp 1 []),(8,.sub 2 [] 0 i false),(13,.imm 1 (dInts things) ex),(14,avInt things.length),(15,avInt i)],[dL L,dM M,.sl true () 1 s],[(1,[.i 0])],[]⟩)
  ⟨things.length,0,[],.nil,M,by omega,rfl,(fun y hy=>by cases hy),hM,by simp,by simp [T.mid,T.drop,T.take],by simp [dL,dM]⟩ ?_
 rintro m st ⟨i,acc,s,M,hi,hal,hacc,hM,hord,hs0,rfl⟩
 repeat first|refine n1 ?_|((first|refine rg 3 [0,1,2,8,13,14,15] [0,1,2,8,13,14,15,16] [] ?_|refine nc ?_);simp (maxSteps:=1000000) [hF])
 refine ⟨fun hlt=>?_,fun hge=>?_⟩
 ·have hi':i < things.length:=by omega
  have hn:=dInts_nth hi'
  obtain ⟨u0,u1,u2⟩:=hth _ (List.getElem_mem hi')
  have hdrop:=List.drop_eq_getElem_cons hi'
  rw [hdrop,ordersOf_cons] at hord
  repeat first|refine n1 ?_|refine n2 ?_|refine n3 ?_|((first|refine rg 4 [0,1,2,8,13,14,15] [0,1,2,8,10,13,14,15] [] ?_|refine rg 5 [0,1,2,8,10,13,14,15] [0,1,2,8,11,12,13,14,15] [] ?_);simp (maxSteps:=1000000) [hF,hn,hi'])
  generalize things[i] = u at *
  obtain ⟨u,rfl⟩:∃ k:Nat,u = k:=⟨u.toNat,by omega⟩
  have hul:u < L.length:=by omega
  cases ho:ordOf L u with
  | none =>
   rw [ho] at hord
   have hmf:mergedF (ordOf L) things = none:=by unfold mergedF;rw [hord];rfl
   rw [hmf]
   refine (hfind.no hul u2 hM ho).go [(0,[]),(1,[])] (by simp (maxSteps:=1000000) [hF,dL,dM]) ?_;rintro av X κ ⟨M,hM,rfl,rfl,rfl⟩;simp (maxSteps:=1000000) [hF,dL,dM]
   repeat first|refine n1 ?_|((first|refine rg 6 [0,1,2,8,11,12,13,14,15] [0,1,2,8,11,13,14,15,27] [] ?_|refine rg 7 [] [6,7] [] ?_|refine nc ?_);simp (maxSteps:=1000000) [hF])
   (try refine nr ?_);(repeat first|refine nb_ ?_|refine nl_ ?_);refine endK.o [6,7] [0,1] [(1,[.i 0])] ?_;simp [hF,retK,covers,mpre,dL,dM]
   exact ⟨M,hM,rfl⟩
  | some o =>
   rw [ho] at hord
   have hol:=ord_len B hul ho
   have happ:=dLs_app1 acc o
   have b1:(i + 1) * 24≤140737488355328:=by omega
   have b2:i + 1≤9223372036854775807:=by omega
   refine (hfind.yes hul u2 hM ho).go [(0,[]),(1,[])] (by simp (maxSteps:=1000000) [hF,dL,dM]) ?_;rintro av X κ ⟨M,hM,rfl,rfl,rfl⟩;simp (maxSteps:=1000000) [hF,dL,dM]
   repeat first|refine n1 ?_|refine n2 ?_|refine n4 ?_|refine n5 ?_|((first|refine rg 6 [0,1,2,8,11,12,13,14,15] [0,1,2,8,11,13,14,15,27] [] ?_|refine rg 8 [0,1,2,8,11,13,14,15] [0,1,2,8,13,14,15] [] ?_|refine nc ?_);simp (maxSteps:=1000000) [hF,hs0,happ,b1,b2])
   refine VS.widen [(1,[.i 0])] (by simp [covers,mpre]) ?_
   repeat first|refine n4 ?_|refine n6 ?_|((refine rg 9 [0,1,2,8,13,14,15] [0,1,2,8,13,14,15] [] ?_);simp (maxSteps:=1000000) [hF])
   refine nextK.of [0,1,2,8,13,14,15] [0,1,2] (m - 1) (by omega) (by simp [hF]) ?_
   refine ⟨i + 1,acc ++ [o],dLs (acc ++ [o]),M,by omega,by simp [hal],fun y hy=>?_,hM,?_,?_,?_⟩
   ·rcases List.mem_append.1 hy with hy | hy
    ·exact hacc y hy
    ·simp only [List.mem_singleton] at hy;subst hy;exact hol
   ·rw [hord];simp [Option.map_map,Function.comp_def]
   ·exact sq_mid_all _ _ (by simp [hal])
   ·simp [dL,dM]
    exact IntWalk.i64_in _ (by omega)
 ·obtain rfl:i = things.length:=by omega
  have hord2:ordersOf (ordOf L) things = some acc:=by rw [hord,List.drop_length];simp [ordersOf]
  have hmf:mergedF (ordOf L) things = mergeOf (acc ++ [things]):=by unfold mergedF;rw [hord2];rfl
  rw [hmf]
  have happ:=dLs_app1 acc things
  have b1:(things.length + 1) * 24≤140737488355328:=by omega
  have b2:things.length + 1≤9223372036854775807:=by omega
  have hlen2:(acc ++ [things]).length = things.length + 1:=by simp [hal]
  have htot:total (acc ++ [things])≤100000000:=by
   have:=total_bound (ls:=acc ++ [things]) (fun y hy=>by
    rcases List.mem_append.1 hy with hy | hy
    ·exact hacc y hy
    ·simp only [List.mem_singleton] at hy;subst hy;omega)
   omega
  have hmg:=merge_ok (acc ++ [things]) (by omega) htot
  rw [hlen2] at hmg
  repeat first|refine n1 ?_|refine n7 ?_|((refine rg 10 [1,8] [6,7] [] ?_);simp (maxSteps:=1000000) [hF])
  refine (cloneI_ok ex things (by omega)).go [] (by simp (maxSteps:=1000000) [hF,hs0,happ,b1,b2]) ?_;rintro av X κ ⟨rfl,rfl,rfl⟩;simp (maxSteps:=1000000) [hF,hs0,happ,b1,b2]
  cases hmo:mergeOf (acc ++ [things]) with
  | none =>
   rw [hmo] at hmg
   refine (hmg).go [(2,[])] (by simp (maxSteps:=1000000) [hF,hs0,happ]) ?_;rintro av X κ ⟨rfl,rfl,rfl⟩;simp (maxSteps:=1000000) [hF,hs0,happ]
   repeat first|refine n1 ?_
   (try refine nr ?_);(repeat first|refine nb_ ?_|refine nl_ ?_);refine endK.o [6,7] [0,1] [(1,[.i 0])] ?_;simp [hF,retK,covers,mpre,dL,dM]
   exact ⟨M,hM,rfl⟩
  | some o =>
   rw [hmo] at hmg
   refine (hmg).go [(2,[])] (by simp (maxSteps:=1000000) [hF,hs0,happ]) ?_;rintro av X κ ⟨rfl,rfl,rfl⟩;simp (maxSteps:=1000000) [hF,hs0,happ]
   repeat first|refine n1 ?_
   (try refine nr ?_);(repeat first|refine nb_ ?_|refine nl_ ?_);refine endK.o [6,7] [0,1,4] [(1,[.i 0])] ?_;simp [hF,retK,covers,mpre,dL,dM]
   exact ⟨M,hM,rfl⟩
section
variable {L:List Th} {r:Int→Nat} (B:Base L r) {n:Nat} (hF:FindOk L r n) (things:List Int) (hth:∀ u∈things,0≤u∧u < L.length∧r u < n) (hnd:things.Nodup) (M:List (Int×List Int)) (hM:MemoOk L M) (ex:Bool)
include B hF hth hnd hM
theorem merged_no (h:mergedF (ordOf L) things = none):Meets Tryz.prog 128 [dL L,dM M] (.cons (.ptr 0 [.d]) (.cons (.imm 1 (dInts things) ex) (.cons (.mp 1 []) .nil)))
  fun av X κ=>∃ M,MemoOk L M∧av = .tup (.cons (.nils 1) (.cons (avBool false) .nil))∧X = [dL L,dM M]∧κ = [(1,[.i 0])] :=
 Meets.mono (merged_ok B hF things hth hnd M hM ex) fun av X κ ⟨M,h1,h2,h3⟩=>by rw [h] at h3;exact ⟨M,h1,h3.1,h3.2,h2⟩
theorem merged_yes {o:List Int} (h:mergedF (ordOf L) things = some o):Meets Tryz.prog 128 [dL L,dM M] (.cons (.ptr 0 [.d]) (.cons (.imm 1 (dInts things) ex) (.cons (.mp 1 []) .nil)))
  fun av X κ=>∃ M,MemoOk L M∧av = .tup (.cons (.sub 2 [] 0 o.length false) (.cons (avBool true) .nil))∧X = [dL L,dM M,.sl true () 1 (dInts o)]∧κ = [(1,[.i 0])] :=
 Meets.mono (merged_ok B hF things hth hnd M hM ex) fun av X κ ⟨M,h1,h2,h3⟩=>by rw [h] at h3;exact ⟨M,h1,h3.1,h3.2,h2⟩
end
theorem find_step {L:List Th} {r:Int→Nat} (B:Base L r) {n:Nat} (hF:FindOk L r n) (t:Nat) (ht:t < L.length) (hr:r t < n + 1) (M:List (Int×List Int)) (hM:MemoOk L M) :
  Meets Tryz.prog 114 [dL L,dM M] (.cons (.ptr 0 [.d]) (.cons (avInt t) (.cons (.mp 1 []) .nil))) (FindR L t):=by
 have hfind:=hF
 clear hF
 unfold FindR
 have hL:=B.len
 have hx:L[t]? = some L[t]:=List.getElem?_eq_getElem ht
 have hstep:=ordOf_step B hx
 have hn:=dThs_nth ht
 have hedge:=B.edge _ _ hx
 have hnb:=B.nb _ _ hx
 have hnp:=B.np _ _ hx
 have hlb:=nodup_bound L.length _ hnb fun x hx=>⟨(hedge x (.inl hx)).1,(hedge x (.inl hx)).2.1⟩
 have hlp:=nodup_bound L.length _ hnp fun x hx=>⟨(hedge x (.inr hx)).1,(hedge x (.inr hx)).2.1⟩
 generalize L[t] = x at *
 have hfnd:=dEns_find M t
 cases hg:got M t with
 | some o =>
  have ho:=hM _ _ hg
  rw [hg] at hfnd
  simp only [Option.map_some] at hfnd
  rw [ho]
  refine fb Tryz.func114 Tryz.ntmps114 [.tmp 6,.tmp 7] fun w0 I0 F0 hF=>?_
  repeat first|refine n1 ?_|((first|refine rg 0 [0,1,2] [0,1,2] [] ?_|refine rg 1 [0,1,2] [0,1,2,8,9] [] ?_|refine rg 2 [0,1,2,8,9] [0,1,2,8,21] [] ?_|refine rg 3 [8] [6,7] [] ?_|refine nc ?_);simp (maxSteps:=1000000) [hF,dM,hfnd])
  (try refine nr ?_);(repeat first|refine nb_ ?_|refine nl_ ?_);refine endK.o [6,7] [0,1] [(1,[.i 0])] ?_;simp [hF,retK,covers,mpre,dL,dM]
  exact ⟨M,hM,rfl⟩
 | none =>
  rw [hg] at hfnd
  simp only [Option.map_none] at hfnd
  refine fb Tryz.func114 Tryz.ntmps114 [.tmp 6,.tmp 7] fun w0 I0 F0 hF=>?_
  repeat first|refine n1 ?_|refine n2 ?_|((first|refine rg 0 [0,1,2] [0,1,2] [] ?_|refine rg 1 [0,1,2] [0,1,2,8,9] [] ?_|refine rg 2 [0,1,2,8,9] [0,1,2,8,21] [] ?_|refine rg 4 [0,1,2] [0,1,2,10] [] ?_|refine rg 5 [0,1,2,10] [0,1,2,10,11,12] [] ?_|refine nc ?_);simp (maxSteps:=1000000) [hF,dM,hfnd,dL,hn,ht])
  have hthb:∀ u∈x.bef,0≤u∧u < L.length∧r u < n:=fun u hu=>by have:=hedge u (.inl hu);omega
  have hthp:∀ u∈parents x,0≤u∧u < L.length∧r u < n:=fun u hu=>by have:=hedge u (.inr hu);omega
  cases hf:mergedF (ordOf L) x.bef with
  | none =>
   rw [hf] at hstep
   simp only at hstep
   rw [hstep]
   refine (merged_no B hfind x.bef hthb hnb M hM false hf).go [(0,[]),(1,[])] (by simp (maxSteps:=1000000) [hF,dL,dM]) ?_;rintro av X κ ⟨M,hM,rfl,rfl,rfl⟩;simp (maxSteps:=1000000) [hF,dL,dM]
   repeat first|refine n1 ?_|((first|refine rg 6 [0,1,2,10,11,12] [0,1,2,10,11,39] [] ?_|refine rg 7 [] [6,7] [] ?_|refine nc ?_);simp (maxSteps:=1000000) [hF])
   (try refine nr ?_);(repeat first|refine nb_ ?_|refine nl_ ?_);refine endK.o [6,7] [0,1] [(1,[.i 0])] ?_;simp [hF,retK,covers,mpre,dL,dM]
   exact ⟨M,hM,rfl⟩
  | some front =>
   rw [hf] at hstep
   simp only at hstep
   refine (merged_yes B hfind x.bef hthb hnb M hM false hf).go [(0,[]),(1,[])] (by simp (maxSteps:=1000000) [hF,dL,dM]) ?_;rintro av X κ ⟨M,hM,rfl,rfl,rfl⟩;simp (maxSteps:=1000000) [hF,dL,dM]
   repeat first|refine n1 ?_|refine n2 ?_|((first|refine rg 6 [0,1,2,10,11,12] [0,1,2,10,11,39] [] ?_|refine nc ?_);simp (maxSteps:=1000000) [hF])
   obtain ⟨_,_,hfl⟩:=merged_len B (fun u hu=>by have:=hedge u (.inl hu);omega) hnb hf
   refine VS.cold 4 [.d] (by simp (maxSteps:=1000000) [hF,T.freeze]) (by simp (maxSteps:=1000000) [hF,T.freeze]) (by simp (maxSteps:=1000000) [hF,T.freeze]) ?_;simp [hF,St.cold,T.freeze]
   have hil:x.ins.length≤L.length:=by
    have:x.ins.length≤(parents x).length:=by simp [parents]
    omega
   repeat first|((refine rg 8 [0,1,2,10,11] [0,1,2,10,11,13] [] ?_);simp (maxSteps:=1000000) [hF])
   refine (clone_ok false x.ins (by omega)).go [] (by simp (maxSteps:=1000000) [hF]) ?_;rintro av X κ ⟨rfl,rfl,rfl⟩;simp (maxSteps:=1000000) [hF]
   by_cases hs:0≤x.sup
   ·have hpar:parents x = x.ins ++ [x.sup]:=by simp [parents,hs]
    have happ:=dInts_app1 x.ins x.sup
    have b1:(x.ins.length + 1) * 8≤140737488355328:=by omega
    have b2:x.ins.length + 1≤9223372036854775807:=by omega
    have hmid:(dInts (x.ins ++ [x.sup])).mid 0 (x.ins.length + 1) = dInts (x.ins ++ [x.sup]):=sq_mid_all _ _ (by simp)
    repeat first|refine n1 ?_|((first|refine rg 9 [0,1,2,10,11,13] [0,1,2,10,11,13,45] [] ?_|refine rg 10 [0,1,2,10,11,13] [0,1,2,11,13] [] ?_|refine nc ?_);simp (maxSteps:=1000000) [hF,hs,happ,b1,b2])
    refine VS.cool 13 (by simp (maxSteps:=1000000) [hF,hmid]) ?_;simp [hF,St.cool,hmid]
    rw [←hpar]
    refine VS.pick [0,1,2,11,13] [0,1,4] (by simp [hF]) ?_;simp [hF]
    repeat first|((refine rg 11 [0,1,2,11,13] [1,2,11,12,14] [] ?_);simp (maxSteps:=1000000) [hF])
    cases hb:mergedF (ordOf L) (parents x) with
    | none =>
     rw [hb] at hstep
     simp only at hstep
     rw [hstep]
     refine (merged_no B hfind (parents x) hthp hnp M hM false hb).go [(0,[]),(1,[])] (by simp (maxSteps:=1000000) [hF,dL,dM]) ?_;rintro av X κ ⟨M,hM,rfl,rfl,rfl⟩;simp (maxSteps:=1000000) [hF,dL,dM]
     repeat first|refine n1 ?_|((first|refine rg 12 [1,2,11,12,14] [1,2,11,14,59] [] ?_|refine rg 13 [] [6,7] [] ?_|refine nc ?_);simp (maxSteps:=1000000) [hF])
     (try refine nr ?_);(repeat first|refine nb_ ?_|refine nl_ ?_);refine endK.o [6,7] [0,1] [(1,[.i 0])] ?_;simp [hF,retK,covers,mpre,dL,dM]
     exact ⟨M,hM,rfl⟩
    | some behind =>
     rw [hb] at hstep
     simp only at hstep
     obtain ⟨_,_,hbl⟩:=merged_len B (fun u hu=>by have:=hedge u (.inr hu);omega) hnp hb
     refine (merged_yes B hfind (parents x) hthp hnp M hM false hb).go [(0,[]),(1,[])] (by simp (maxSteps:=1000000) [hF,dL,dM]) ?_;rintro av X κ ⟨M,hM,rfl,rfl,rfl⟩;simp (maxSteps:=1000000) [hF,dL,dM]
     repeat first|refine n1 ?_|refine n2 ?_|((first|refine rg 12 [1,2,11,12,14] [1,2,11,14,59] [] ?_|refine rg 14 [1,2,11,14] [1,2,11,14] [] ?_|refine nc ?_);simp (maxSteps:=1000000) [hF])
     refine (delIs_ok behind front (by omega) (by omega)).go [(3,[]),(2,[])] (by simp (maxSteps:=1000000) [hF,dBox]) ?_;rintro av X κ ⟨s3,m3,rfl,rfl,rfl,hs3,hm3⟩;simp (maxSteps:=1000000) [hF,dBox]
     generalize hkept:(behind.filter fun v=>!hasN front v) = kept at *
     subst hm3
     have hkl:kept.length≤1000:=by
      have:kept.length≤behind.length:=by rw [←hkept];exact List.length_filter_le _ _
      omega
     repeat first|refine n1 ?_|((refine rg 15 [1,2,11,14] [1,2] [] ?_);simp (maxSteps:=1000000) [hF,dBox,hs3])
     refine (concat_ok true [(false,front),(true,[(t:Int)]),(true,kept)] (by simp) (by simp [sizeOs];omega) (by simp [sizeOs];omega)).go [(6,[])] (by simp (maxSteps:=1000000) [hF,dOs,sq,dInts_one]) ?_;rintro av X κ ⟨rfl,rfl,rfl⟩;simp (maxSteps:=1000000) [hF,dOs,sq,dInts_one]
     have hfind2:=dEns_find (putE M t (front ++ (t:Int) :: kept)) t
     rw [got_putE,if_pos rfl] at hfind2
     have hput:=dEns_putE M t (front ++ (t:Int) :: kept)
     have hfl2:flatOs [(false,front),(true,[(t:Int)]),(true,kept)] = front ++ (t:Int) :: kept:=by simp [flatOs]
     repeat first|refine n1 ?_|((refine rg 16 [1,2] [6,7] [] ?_);simp (maxSteps:=1000000) [hF,hfl2,hput,hfind2])
     (try refine nr ?_);(repeat first|refine nb_ ?_|refine nl_ ?_);refine endK.o [6,7] [0,1] [(1,[.i 0])] ?_;simp [hF,retK,covers,mpre,dL,dM,hstep]
     refine ⟨_,fun k o hk=>?_,rfl⟩
     rw [got_putE] at hk
     split at hk
     ·rename_i e
      subst e
      cases hk
      rw [hstep];simp
     ·exact hM k o hk
   ·have hpar:parents x = x.ins:=by simp [parents,hs]
    repeat first|refine n1 ?_|refine n2 ?_|((first|refine rg 9 [0,1,2,10,11,13] [0,1,2,10,11,13,45] [] ?_|refine nc ?_);simp (maxSteps:=1000000) [hF,hs])
    refine VS.cool 13 (by simp (maxSteps:=1000000) [hF]) ?_;simp [hF,St.cool]
    rw [←hpar]
    refine VS.pick [0,1,2,11,13] [0,1,4] (by simp [hF]) ?_;simp [hF]
    repeat first|((refine rg 11 [0,1,2,11,13] [1,2,11,12,14] [] ?_);simp (maxSteps:=1000000) [hF])
    cases hb:mergedF (ordOf L) (parents x) with
    | none =>
     rw [hb] at hstep
     simp only at hstep
     rw [hstep]
     refine (merged_no B hfind (parents x) hthp hnp M hM false hb).go [(0,[]),(1,[])] (by simp (maxSteps:=1000000) [hF,dL,dM]) ?_;rintro av X κ ⟨M,hM,rfl,rfl,rfl⟩;simp (maxSteps:=1000000) [hF,dL,dM]
     repeat first|refine n1 ?_|((first|refine rg 12 [1,2,11,12,14] [1,2,11,14,59] [] ?_|refine rg 13 [] [6,7] [] ?_|refine nc ?_);simp (maxSteps:=1000000) [hF])
     (try refine nr ?_);(repeat first|refine nb_ ?_|refine nl_ ?_);refine endK.o [6,7] [0,1] [(1,[.i 0])] ?_;simp [hF,retK,covers,mpre,dL,dM]
     exact ⟨M,hM,rfl⟩
    | some behind =>
     rw [hb] at hstep
     simp only at hstep
     obtain ⟨_,_,hbl⟩:=merged_len B (fun u hu=>by have:=hedge u (.inr hu);omega) hnp hb
     refine (merged_yes B hfind (parents x) hthp hnp M hM false hb).go [(0,[]),(1,[])] (by simp (maxSteps:=1000000) [hF,dL,dM]) ?_;rintro av X κ ⟨M,hM,rfl,rfl,rfl⟩;simp (maxSteps:=1000000) [hF,dL,dM]
     repeat first|refine n1 ?_|refine n2 ?_|((first|refine rg 12 [1,2,11,12,14] [1,2,11,14,59] [] ?_|refine rg 14 [1,2,11,14] [1,2,11,14] [] ?_|refine nc ?_);simp (maxSteps:=1000000) [hF])
     refine (delIs_ok behind front (by omega) (by omega)).go [(3,[]),(2,[])] (by simp (maxSteps:=1000000) [hF,dBox]) ?_;rintro av X κ ⟨s3,m3,rfl,rfl,rfl,hs3,hm3⟩;simp (maxSteps:=1000000) [hF,dBox]
     generalize hkept:(behind.filter fun v=>!hasN front v) = kept at *
     subst hm3
     have hkl:kept.length≤1000:=by
      have:kept.length≤behind.length:=by rw [←hkept];exact List.length_filter_le _ _
      omega
     repeat first|refine n1 ?_|((refine rg 15 [1,2,11,14] [1,2] [] ?_);simp (maxSteps:=1000000) [hF,dBox,hs3])
     refine (concat_ok true [(false,front),(true,[(t:Int)]),(true,kept)] (by simp) (by simp [sizeOs];omega) (by simp [sizeOs];omega)).go [(6,[])] (by simp (maxSteps:=1000000) [hF,dOs,sq,dInts_one]) ?_;rintro av X κ ⟨rfl,rfl,rfl⟩;simp (maxSteps:=1000000) [hF,dOs,sq,dInts_one]
     have hfind2:=dEns_find (putE M t (front ++ (t:Int) :: kept)) t
     rw [got_putE,if_pos rfl] at hfind2
     have hput:=dEns_putE M t (front ++ (t:Int) :: kept)
     have hfl2:flatOs [(false,front),(true,[(t:Int)]),(true,kept)] = front ++ (t:Int) :: kept:=by simp [flatOs]
     repeat first|refine n1 ?_|((refine rg 16 [1,2] [6,7] [] ?_);simp (maxSteps:=1000000) [hF,hfl2,hput,hfind2])
     (try refine nr ?_);(repeat first|refine nb_ ?_|refine nl_ ?_);refine endK.o [6,7] [0,1] [(1,[.i 0])] ?_;simp [hF,retK,covers,mpre,dL,dM,hstep]
     refine ⟨_,fun k o hk=>?_,rfl⟩
     rw [got_putE] at hk
     split at hk
     ·rename_i e
      subst e
      cases hk
      rw [hstep];simp
     ·exact hM k o hk
theorem find_all {L:List Th} {r:Int→Nat} (B:Base L r):∀ n,FindOk L r n
 | 0=>fun _ _ h=>by omega
 | n + 1=>fun t ht hr M hM=>find_step B (find_all B n) t ht hr M hM
theorem find_ok {L:List Th} {r:Int→Nat} (B:Base L r) (t:Nat) (ht:t < L.length) (M:List (Int×List Int)) (hM:MemoOk L M) :
  Meets Tryz.prog 114 [dL L,dM M] (.cons (.ptr 0 [.d]) (.cons (avInt t) (.cons (.mp 1 []) .nil))) (FindR L t):=find_all B (r t + 1) t ht (by omega) M hM
end Go.Proofs.YtbhigdljojlhnaaGreat

/- What is asked of a lineage. -/
namespace Go.Proofs.YtbhigdljojlhnaaGreat
set_option linter.all false
open Go.Vc Go.Proofs
set_option linter.unusedSimpArgs false
set_option maxRecDepth 100000
set_option maxHeartbeats 4000000
attribute [local irreducible] CallW EqK
abbrev avTwo (a:AV) (e:Int):AV:=.tup (.cons a (.cons (avInt e) .nil))
def val (L:List Th) (t:Int):Bool:=decide (0≤t∧t < L.length)
noncomputable def ordL (L:List Th) (t:Int):List Int:=match ordOf L t with | some o=>o | none=>[]
def thAt (L:List Th) (t:Int):Th:=L.getD t.toNat ⟨0,-1,-1,-1,[],[]⟩
theorem thAt_eq {L:List Th} {t:Nat} (h:t < L.length):thAt L t = L[t]:=by simp [thAt,h]
theorem val_nat {L:List Th} {t:Int} (h:val L t = true):∃ k:Nat,t = k∧k < L.length:=by
 simp only [val,decide_eq_true_eq] at h
 exact ⟨t.toNat,by omega,by omega⟩
structure WFL (L:List Th):Prop where
 base:∃ r,Base L r
 full:∀ t:Nat,t < L.length→∃ o,ordOf L t = some o
theorem WFL.ord {L:List Th} (W:WFL L) {t:Nat} (h:t < L.length):ordOf L t = some (ordL L t):=by
 obtain ⟨o,ho⟩:=W.full t h
 unfold ordL;rw [ho]
theorem len_ok (L:List Th) (hl:L.length≤1000):Meets Tryz.prog 35 [dL L] (.cons (.ptr 0 [.d]) .nil) fun av X κ=>av = avInt L.length∧X = [dL L]∧κ = []:=by
 refine fb Tryz.func35 Tryz.ntmps35 [.tmp 2] fun w0 I0 F0 hF=>?_
 repeat first|refine n1 ?_|refine n2 ?_|((first|refine rg 0 [0] [0] [] ?_|refine rg 1 [0] [0,4] [] ?_|refine rg 3 [0] [2] [] ?_|refine nc ?_);simp (maxSteps:=1000000) [hF,dL])
 (try refine nr ?_);(repeat first|refine nb_ ?_|refine nl_ ?_);refine endK.o [2] [0] [] ?_;simp [hF,retK,covers,mpre,dL]
theorem is_ok (L:List Th) (hl:L.length≤1000) (t:Int):Meets Tryz.prog 69 [dL L] (.cons (.ptr 0 [.d]) (.cons (avInt t) .nil)) fun av X κ=>av = avBool (val L t)∧X = [dL L]∧κ = []:=by
 refine fb Tryz.func69 Tryz.ntmps69 [.tmp 4] fun w0 I0 F0 hF=>?_
 by_cases h1:0≤t
 ·by_cases h2:t < L.length
  ·repeat first|refine n1 ?_|((first|refine rg 0 [0,1] [0,1] [] ?_|refine rg 1 [0,1] [4] [(2,7),(6,11)] ?_);simp (maxSteps:=1000000) [hF,dL,h1,h2])
   (try refine nr ?_);(repeat first|refine nb_ ?_|refine nl_ ?_);refine endK.o [4] [0] [] ?_;simp [hF,retK,covers,mpre,dL,val,h1,h2]
  ·repeat first|refine n1 ?_|((first|refine rg 0 [0,1] [0,1] [] ?_|refine rg 1 [0,1] [4] [(2,7),(6,11)] ?_);simp (maxSteps:=1000000) [hF,dL,h1,h2])
   (try refine nr ?_);(repeat first|refine nb_ ?_|refine nl_ ?_);refine endK.o [4] [0] [] ?_;simp [hF,retK,covers,mpre,dL,val,h1,h2]
 ·repeat first|refine n1 ?_|((first|refine rg 0 [0,1] [0,1] [] ?_|refine rg 1 [0,1] [4] [(2,7),(6,11)] ?_);simp (maxSteps:=1000000) [hF,dL,h1])
  (try refine nr ?_);(repeat first|refine nb_ ?_|refine nl_ ?_);refine endK.o [4] [0] [] ?_;simp [hF,retK,covers,mpre,dL,val,h1]
theorem kind_ok (L:List Th) (hl:L.length≤1000) (t k:Int):Meets Tryz.prog 92 [dL L] (.cons (.ptr 0 [.d]) (.cons (avInt t) (.cons (avInt k) .nil))) fun av X κ=>av = avBool (val L t && decide ((thAt L t).kind = k))∧X = [dL L]∧κ = []:=by
 refine fb Tryz.func92 Tryz.ntmps92 [.tmp 6] fun w0 I0 F0 hF=>?_
 repeat first|refine n1 ?_|((first|refine rg 0 [0,1,2] [0,1,2] [] ?_|refine rg 1 [0,1,2] [6] [(3,10)] ?_);simp (maxSteps:=1000000) [hF])
 cases hv:val L t with
 | true =>
  obtain ⟨t,rfl,ht⟩:=val_nat hv
  have hn:=dThs_nth ht
  have hth:=thAt_eq ht
  refine (is_ok L hl t).go [(0,[])] (by simp (maxSteps:=1000000) [hF,dL,dL,hv,hn,ht]) ?_;rintro av X κ ⟨rfl,rfl,rfl⟩;simp (maxSteps:=1000000) [hF,dL,dL,hv,hn,ht]
  repeat first|refine n1 ?_
  (try refine nr ?_);(repeat first|refine nb_ ?_|refine nl_ ?_);refine endK.o [6] [0] [] ?_;simp [hF,retK,covers,mpre,dL,hth]
 | false =>
  refine (is_ok L hl t).go [(0,[])] (by simp (maxSteps:=1000000) [hF,dL,dL,hv]) ?_;rintro av X κ ⟨rfl,rfl,rfl⟩;simp (maxSteps:=1000000) [hF,dL,dL,hv]
  repeat first|refine n1 ?_
  (try refine nr ?_);(repeat first|refine nb_ ?_|refine nl_ ?_);refine endK.o [6] [0] [] ?_;simp [hF,retK,covers,mpre,dL]
theorem room_ok (L:List Th) (hl:L.length≤1000) (n:Nat) (hn:n≤10000):Meets Tryz.prog 93 [dL L] (.cons (.ptr 0 [.d]) (.cons (avInt n) .nil)) fun av X κ=>av = avInt (if 1000 < L.length + n then 9 else 0)∧X = [dL L]∧κ = []:=by
 have hw:IntKind.i64.wrap ((L.length:Int) + (n:Int)) = (L.length:Int) + n:=IntWalk.i64_in _ (by omega)
 refine fb Tryz.func93 Tryz.ntmps93 [.tmp 4] fun w0 I0 F0 hF=>?_
 by_cases h:1000 < L.length + n
 ·have h':(1000:Int) < (L.length:Int) + n:=by omega
  repeat first|refine n1 ?_|((first|refine rg 0 [0,1] [0,1] [] ?_|refine rg 1 [0,1] [12] [] ?_|refine rg 2 [] [4] [] ?_|refine nc ?_);simp (maxSteps:=1000000) [hF,dL,hw,h'])
  (try refine nr ?_);(repeat first|refine nb_ ?_|refine nl_ ?_);refine endK.o [4] [0] [] ?_;simp [hF,retK,covers,mpre,dL,h]
 ·have h':¬ (1000:Int) < (L.length:Int) + n:=by omega
  repeat first|refine n1 ?_|refine n2 ?_|((first|refine rg 0 [0,1] [0,1] [] ?_|refine rg 1 [0,1] [12] [] ?_|refine rg 3 [] [4] [] ?_|refine nc ?_);simp (maxSteps:=1000000) [hF,dL,hw,h'])
  (try refine nr ?_);(repeat first|refine nb_ ?_|refine nl_ ?_);refine endK.o [4] [0] [] ?_;simp [hF,retK,covers,mpre,dL,h]
theorem order_ok {L:List Th} (W:WFL L) (t:Nat) (ht:t < L.length):Meets Tryz.prog 70 [dL L] (.cons (.ptr 0 [.d]) (.cons (avInt t) .nil))
  fun av X κ=>av = .tup (.cons (.imm 1 (dInts (ordL L t)) false) (.cons (avBool true) .nil))∧X = [dL L]∧κ = []:=by
 obtain ⟨r,B⟩:=W.base
 have ho:=W.ord ht
 have hf:=Meets.mono (find_ok B t ht [] (fun k o h=>by cases h)) (R':=fun av X κ=>∃ M,av = .tup (.cons (.imm 1 (dInts (ordL L t)) false) (.cons (avBool true) .nil))∧X = [dL L,dM M]∧κ = [(1,[.i 0])])
  fun av X κ ⟨M,_,h2,h3,h4⟩=>⟨M,by rw [ho] at h4;exact h4,h2,h3⟩
 refine fb Tryz.func70 Tryz.ntmps70 [.tmp 4,.tmp 5] fun w0 I0 F0 hF=>?_
 repeat first|refine n1 ?_|((first|refine rg 0 [0,1] [0,1] [] ?_|refine rg 1 [0,1] [4,5] [] ?_);simp (maxSteps:=1000000) [hF])
 refine (hf).go [(0,[]),(1,[])] (by simp (maxSteps:=1000000) [hF,dL,dM]) ?_;rintro av X κ ⟨M,rfl,rfl,rfl⟩;simp (maxSteps:=1000000) [hF,dL,dM]
 repeat first|refine n1 ?_
 (try refine nr ?_);(repeat first|refine nb_ ?_|refine nl_ ?_);refine endK.o [4,5] [0] [] ?_;simp [hF,retK,covers,mpre,dL]
theorem Order_yes {L:List Th} (W:WFL L) (t:Nat) (ht:t < L.length):Meets Tryz.prog 26 [dL L] (.cons (.ptr 0 [.d]) (.cons (avInt t) .nil))
  fun av X κ=>av = avTwo (.imm 1 (dInts (ordL L t)) false) 0∧X = [dL L]∧κ = []:=by
 have hl:L.length≤1000:=W.base.elim fun _ B=>B.len
 have hv:val L t = true:=by simp [val,ht]
 refine fb Tryz.func26 Tryz.ntmps26 [.tmp 4,.tmp 5] fun w0 I0 F0 hF=>?_
 repeat first|refine n1 ?_|((first|refine rg 0 [0,1] [0,1] [] ?_|refine rg 1 [0,1] [0,1,11] [] ?_);simp (maxSteps:=1000000) [hF])
 refine (is_ok L hl t).go [(0,[])] (by simp (maxSteps:=1000000) [hF,dL,hv]) ?_;rintro av X κ ⟨rfl,rfl,rfl⟩;simp (maxSteps:=1000000) [hF,dL,hv]
 repeat first|refine n1 ?_|refine n2 ?_|((first|refine rg 3 [0,1] [6] [] ?_|refine nc ?_);simp (maxSteps:=1000000) [hF])
 refine (order_ok W t ht).go [(0,[])] (by simp (maxSteps:=1000000) [hF,dL]) ?_;rintro av X κ ⟨rfl,rfl,rfl⟩;simp (maxSteps:=1000000) [hF,dL]
 repeat first|refine n1 ?_|((refine rg 4 [6] [4,5] [] ?_);simp (maxSteps:=1000000) [hF])
 (try refine nr ?_);(repeat first|refine nb_ ?_|refine nl_ ?_);refine endK.o [4,5] [0] [] ?_;simp [hF,retK,covers,mpre,dL]
theorem Kind_yes {L:List Th} (hl:L.length≤1000) (t:Nat) (ht:t < L.length):Meets Tryz.prog 25 [dL L] (.cons (.ptr 0 [.d]) (.cons (avInt t) .nil))
  fun av X κ=>av = avTwo (avInt (L[t]).kind) 0∧X = [dL L]∧κ = []:=by
 have hv:val L t = true:=by simp [val,ht]
 have hn:=dThs_nth ht
 refine fb Tryz.func25 Tryz.ntmps25 [.tmp 4,.tmp 5] fun w0 I0 F0 hF=>?_
 repeat first|refine n1 ?_|((first|refine rg 0 [0,1] [0,1] [] ?_|refine rg 1 [0,1] [0,1,9] [] ?_);simp (maxSteps:=1000000) [hF])
 refine (is_ok L hl t).go [(0,[])] (by simp (maxSteps:=1000000) [hF,dL,hv]) ?_;rintro av X κ ⟨rfl,rfl,rfl⟩;simp (maxSteps:=1000000) [hF,dL,hv]
 repeat first|refine n1 ?_|refine n2 ?_|((first|refine rg 3 [0,1] [4,5] [] ?_|refine nc ?_);simp (maxSteps:=1000000) [hF,dL,hn,ht])
 (try refine nr ?_);(repeat first|refine nb_ ?_|refine nl_ ?_);refine endK.o [4,5] [0] [] ?_;simp [hF,retK,covers,mpre,dL]
end Go.Proofs.YtbhigdljojlhnaaGreat

/- Things are made. -/
namespace Go.Proofs.YtbhigdljojlhnaaGreat
set_option linter.all false
open Go.Vc Go.Proofs
set_option linter.unusedSimpArgs false
set_option linter.unusedVariables false
set_option maxRecDepth 100000
set_option maxHeartbeats 4000000
attribute [local irreducible] CallW EqK
def L0:List Th:=[⟨0,-1,-1,-1,[],[]⟩]
theorem new_ok:Meets Tryz.prog 43 [] .nil fun av X κ=>av = .ptr 0 [.d]∧X = [dL L0]∧κ = []:=by
 refine fb Tryz.func43 Tryz.ntmps43 [.tmp 0] fun w0 I0 F0 hF=>?_
 repeat first|refine n1 ?_|((first|refine rg 0 [] [] [] ?_|refine rg 1 [] [0] [] ?_);simp (maxSteps:=1000000) [hF])
 refine VS.cold 1 [.d,.f 0,.i 0,.f 4] (by simp (maxSteps:=1000000) [hF,T.freeze]) (by simp (maxSteps:=1000000) [hF,T.freeze]) (by simp (maxSteps:=1000000) [hF,T.freeze]) ?_;simp [hF,St.cold,T.freeze]
 refine VS.cold 1 [.d,.f 0,.i 0,.f 5] (by simp (maxSteps:=1000000) [hF,T.freeze]) (by simp (maxSteps:=1000000) [hF,T.freeze]) (by simp (maxSteps:=1000000) [hF,T.freeze]) ?_;simp [hF,St.cold,T.freeze]
 (try refine nr ?_);(repeat first|refine nb_ ?_|refine nl_ ?_);refine endK.o [0] [1] [] ?_;simp [hF,retK,covers,mpre,dL,L0,dThs,dTh,sq]
abbrev avNew (k s o w:Int):AV:=.agg (.cons (avInt k) (.cons (avInt s) (.cons (avInt o) (.cons (avInt w) (.cons (.nils 1) (.cons (.nils 1) .nil))))))
theorem add_ok (L:List Th) (hl:L.length≤5000) (k s o w:Int):Meets Tryz.prog 94 [dL L] (.cons (.ptr 0 [.d]) (.cons (avNew k s o w) .nil))
  fun av X κ=>av = avInt L.length∧X = [dL (L ++ [⟨k,s,o,w,[],[]⟩])]∧κ = [(0,[.d])]:=by
 have hpush:=dThs_push L ⟨k,s,o,w,[],[]⟩
 simp only [dInts_nil] at hpush
 have hmid:(dThs (L ++ [⟨k,s,o,w,[],[]⟩])).mid 0 (L.length + 1) = dThs (L ++ [⟨k,s,o,w,[],[]⟩]):=sq_mid_all _ _ (by simp)
 have hw:IntKind.i64.wrap (L.length:Int) = L.length:=IntWalk.i64_in _ (by omega)
 have hw2:IntKind.i64.wrap (((L.length + 1:Nat):Int) - 1) = L.length:=by
  have:(((L.length + 1:Nat):Int) - 1) = L.length:=by omega
  rw [this];exact hw
 have b1:(L.length + 1) * 80≤140737488355328:=by omega
 have b2:L.length + 1≤9223372036854775807:=by omega
 refine fb Tryz.func94 Tryz.ntmps94 [.tmp 4] fun w0 I0 F0 hF=>?_
 repeat first|refine n1 ?_
 refine VS.chill 1 ?_;simp [hF,St.chill]
 repeat first|refine n1 ?_|((refine rg 0 [0,1] [0,3] [] ?_);simp (maxSteps:=1000000) [hF])
 refine ghostL 0 [.d,.f 0] ?_;simp (maxSteps:=1000000) [hF,St.lift,AV.lift,liftPl,stripP,nodeAV,isNode,dL]
 repeat first|refine n1 ?_|((first|(refine dr 1 0 [0,3] [0] [] [⟨0,1,32,5⟩,⟨0,1,64,5⟩,⟨2,64,128,5⟩,⟨4,128,256,5⟩,⟨8,256,512,6⟩,⟨0,8,1024,6⟩,⟨32,1024,2048,4⟩,⟨80,2560,4096,0⟩,⟨255,32,8192,5⟩,⟨511,8192,16384,5⟩,⟨767,20480,0,0⟩] (.take 0 (.take 1 (.take 2 (.take 3 (.take 4 (.take 5 (.fork (.alt 6 (.fork (.alt 7 (.take 8 (.take 9 (.fork (.alt 10 (.done) (.nil))))) (.nil))) (.nil))))))))) (.run [0,1,2,3,4,5,6,7,8,9,10] (.done)) ?_;simp only [drs])|refine rg 2 [0] [4] [] ?_);simp (maxSteps:=1000000) [hF,hpush,hmid,b1,b2,hw,hw2])
 (try refine nr ?_);(repeat first|refine nb_ ?_|refine nl_ ?_);refine endK.o [4] [0] [(0,[.d])] ?_;simp [hF,retK,covers,mpre,dL]
def newTh (k s o:Int):Th:=⟨k,s,o,-1,[],[]⟩
def classOf (L:List Th) (s:Int):List Th×Int×Int :=
 if (val L s && decide ((thAt L s).kind = 0)) = false then (L,0,1) else if 1000 < L.length + 1 then (L,0,9) else (L ++ [newTh 0 s (-1)],(L.length:Int),0)
def moduleOf (L:List Th):List Th×Int×Int :=
 if L.length = 0 then (L,0,1) else if 1000 < L.length + 1 then (L,0,9) else (L ++ [newTh 1 (-1) (-1)],(L.length:Int),0)
abbrev two (x:Int×Int):AV:=avTwo (avInt x.1) x.2
theorem class_ok (L:List Th) (hl:L.length≤1000) (s:Int):Meets Tryz.prog 44 [dL L] (.cons (.ptr 0 [.d]) (.cons (avInt s) .nil))
  fun av X κ=>av = two (classOf L s).2∧X = [dL (classOf L s).1]∧κ = [(0,[.d])]:=by
 refine fb Tryz.func44 Tryz.ntmps44 [.tmp 4,.tmp 5] fun w0 I0 F0 hF=>?_
 repeat first|refine n1 ?_|((first|refine rg 0 [0,1] [0,1] [] ?_|refine rg 1 [0,1] [0,1,10] [] ?_);simp (maxSteps:=1000000) [hF])
 cases hk:(val L s && decide ((thAt L s).kind = 0)) with
 | false =>
  have hc:classOf L s = (L,0,1):=by unfold classOf;rw [if_pos hk]
  refine (kind_ok L hl s 0).go [(0,[])] (by simp (maxSteps:=1000000) [hF,dL,hk]) ?_;rintro av X κ ⟨rfl,rfl,rfl⟩;simp (maxSteps:=1000000) [hF,dL,hk]
  repeat first|refine n1 ?_|((first|refine rg 2 [] [4,5] [] ?_|refine nc ?_);simp (maxSteps:=1000000) [hF])
  (try refine nr ?_);(repeat first|refine nb_ ?_|refine nl_ ?_);refine endK.o [4,5] [0] [(0,[.d])] ?_;simp [hF,retK,covers,mpre,dL,hc]
 | true =>
  refine (kind_ok L hl s 0).go [(0,[])] (by simp (maxSteps:=1000000) [hF,dL,hk]) ?_;rintro av X κ ⟨rfl,rfl,rfl⟩;simp (maxSteps:=1000000) [hF,dL,hk]
  repeat first|refine n1 ?_|refine n2 ?_|((first|refine rg 3 [0,1] [0,1,6] [] ?_|refine nc ?_);simp (maxSteps:=1000000) [hF])
  refine (room_ok L hl 1 (by omega)).go [(0,[])] (by simp (maxSteps:=1000000) [hF,dL]) ?_;rintro av X κ ⟨rfl,rfl,rfl⟩;simp (maxSteps:=1000000) [hF,dL]
  by_cases hf:1000 < L.length + 1
  ·have hc:classOf L s = (L,0,9):=by unfold classOf;rw [if_neg (by simp [hk]),if_pos hf]
   repeat first|refine n1 ?_|((first|refine rg 4 [0,1,6] [0,1,6,14] [] ?_|refine rg 5 [6] [4,5] [] ?_|refine nc ?_);simp (maxSteps:=1000000) [hF,hf])
   (try refine nr ?_);(repeat first|refine nb_ ?_|refine nl_ ?_);refine endK.o [4,5] [0] [(0,[.d])] ?_;simp [hF,retK,covers,mpre,dL,hc]
  ·have hc:classOf L s = (L ++ [newTh 0 s (-1)],(L.length:Int),0):=by unfold classOf;rw [if_neg (by simp [hk]),if_neg hf]
   repeat first|refine n1 ?_|refine n2 ?_|((first|refine rg 4 [0,1,6] [0,1,6,14] [] ?_|refine rg 6 [0,1] [4,5] [] ?_|refine nc ?_);simp (maxSteps:=1000000) [hF,hf])
   refine (add_ok L (by omega) 0 s (-1) (-1)).go [(0,[])] (by simp (maxSteps:=1000000) [hF,dL]) ?_;rintro av X κ ⟨rfl,rfl,rfl⟩;simp (maxSteps:=1000000) [hF,dL]
   repeat first|refine n1 ?_
   (try refine nr ?_);(repeat first|refine nb_ ?_|refine nl_ ?_);refine endK.o [4,5] [0] [(0,[.d])] ?_;simp [hF,retK,covers,mpre,dL,hc,newTh]
theorem module_ok (L:List Th) (hl:L.length≤1000):Meets Tryz.prog 45 [dL L] (.cons (.ptr 0 [.d]) .nil)
  fun av X κ=>av = two (moduleOf L).2∧X = [dL (moduleOf L).1]∧κ = [(0,[.d])]:=by
 refine fb Tryz.func45 Tryz.ntmps45 [.tmp 2,.tmp 3] fun w0 I0 F0 hF=>?_
 repeat first|refine n1 ?_|((first|refine rg 0 [0] [0] [] ?_|refine rg 1 [0] [0,7] [] ?_);simp (maxSteps:=1000000) [hF])
 refine (len_ok L hl).go [(0,[])] (by simp (maxSteps:=1000000) [hF,dL]) ?_;rintro av X κ ⟨rfl,rfl,rfl⟩;simp (maxSteps:=1000000) [hF,dL]
 by_cases h0:L = []
 ·subst h0
  have hc:moduleOf [] = ([],0,1):=by unfold moduleOf;rw [if_pos (by simp)]
  repeat first|refine n1 ?_|((first|refine rg 2 [] [2,3] [] ?_|refine nc ?_);simp (maxSteps:=1000000) [hF])
  (try refine nr ?_);(repeat first|refine nb_ ?_|refine nl_ ?_);refine endK.o [2,3] [0] [(0,[.d])] ?_;simp [hF,retK,covers,mpre,dL,hc]
 ·repeat first|refine n1 ?_|refine n2 ?_|((first|refine rg 3 [0] [0,4] [] ?_|refine nc ?_);simp (maxSteps:=1000000) [hF,h0])
  refine (room_ok L hl 1 (by omega)).go [(0,[])] (by simp (maxSteps:=1000000) [hF,dL]) ?_;rintro av X κ ⟨rfl,rfl,rfl⟩;simp (maxSteps:=1000000) [hF,dL]
  by_cases hf:1000 < L.length + 1
  ·have hc:moduleOf L = (L,0,9):=by unfold moduleOf;rw [if_neg (by simp [h0]),if_pos hf]
   repeat first|refine n1 ?_|((first|refine rg 4 [0,4] [0,4,11] [] ?_|refine rg 5 [4] [2,3] [] ?_|refine nc ?_);simp (maxSteps:=1000000) [hF,hf])
   (try refine nr ?_);(repeat first|refine nb_ ?_|refine nl_ ?_);refine endK.o [2,3] [0] [(0,[.d])] ?_;simp [hF,retK,covers,mpre,dL,hc]
  ·have hc:moduleOf L = (L ++ [newTh 1 (-1) (-1)],(L.length:Int),0):=by unfold moduleOf;rw [if_neg (by simp [h0]),if_neg hf]
   repeat first|refine n1 ?_|refine n2 ?_|((first|refine rg 4 [0,4] [0,4,11] [] ?_|refine rg 6 [0] [2,3] [] ?_|refine nc ?_);simp (maxSteps:=1000000) [hF,hf])
   refine (add_ok L (by omega) 1 (-1) (-1) (-1)).go [(0,[])] (by simp (maxSteps:=1000000) [hF,dL]) ?_;rintro av X κ ⟨rfl,rfl,rfl⟩;simp (maxSteps:=1000000) [hF,dL]
   repeat first|refine n1 ?_
   (try refine nr ?_);(repeat first|refine nb_ ?_|refine nl_ ?_);refine endK.o [2,3] [0] [(0,[.d])] ?_;simp [hF,retK,covers,mpre,dL,hc,newTh]
def dObj (o:Int):D:=.box true () (.val (.int .i64 o))
@[simp high] theorem head_dObj (o:Int):isHead (dObj o) = true:=by rw [dObj,isHead]
def isSing (o:Int) (x:Th):Bool:=decide (x.kind = 2∧x.obj = o)
def singletonOf (L:List Th) (c o:Int):List Th×Int×Int :=
 if (val L c && decide ((thAt L c).kind = 0)) = false∨o < 0∨100≤o then (L,0,1)
 else if 0≤ixF (isSing o) L then if (thAt L (ixF (isSing o) L)).sup = c then (L,ixF (isSing o) L,0) else (L,0,1)
 else if 1000 < L.length + 1 then (L,0,9) else (L ++ [newTh 2 c o],(L.length:Int),0)
def missF:Nat→List Th→Int→Nat
 | 0,_,_=>0
 | n + 1,L,t=>if 0≤(thAt L t).own then 0 else if 0≤(thAt L t).sup then 1 + missF n L (thAt L t).sup else 1
def mkF:Nat→List Th→Int→List Th×Int
 | 0,L,_=>(L,0)
 | n + 1,L,t =>
  if 0≤(thAt L t).own then (L,(thAt L t).own)
  else
   let p:=if 0≤(thAt L t).sup then mkF n L (thAt L t).sup else (L,0)
   let q:=p.1 ++ [newTh 2 p.2 (-1)]
   (q.set t.toNat { thAt q t with own:=(p.1.length:Int) },(p.1.length:Int))
structure Ups (L:List Th) (r:Int→Nat):Prop where
 up:∀ (t:Nat) (x:Th),L[t]? = some x→0≤x.sup→x.sup < L.length∧r x.sup < r t
 len:L.length≤1000
theorem missing_ok {L:List Th} {r:Int→Nat} (U:Ups L r):∀ (n:Nat) (t:Nat),t < L.length→r t < n→n≤100000→Meets Tryz.prog 110 [dL L] (.cons (.ptr 0 [.d]) (.cons (avInt t) .nil))
  fun av X κ=>(av = avInt (missF n L t)∧missF n L t≤n)∧X = [dL L]∧κ = []
 | 0,t,ht,hr,hn=>by omega
 | n + 1,t,ht,hr,hn=>by
  have hx:L[t]? = some L[t]:=List.getElem?_eq_getElem ht
  have hnth:=dThs_nth ht
  have hth:=thAt_eq ht
  have hup:=U.up t _ hx
  have hl:=U.len
  refine fb Tryz.func110 Tryz.ntmps110 [.tmp 4] fun w0 I0 F0 hF=>?_
  by_cases h1:0≤L[t].own
  ·have hm:missF (n + 1) L t = 0:=by unfold missF;rw [hth,if_pos h1]
   repeat first|refine n1 ?_|((first|refine rg 0 [0,1] [0,1] [] ?_|refine rg 1 [0,1] [0,1,14] [] ?_|refine rg 2 [] [4] [] ?_|refine nc ?_);simp (maxSteps:=1000000) [hF,dL,hnth,ht,h1])
   (try refine nr ?_);(repeat first|refine nb_ ?_|refine nl_ ?_);refine endK.o [4] [0] [] ?_;simp [hF,retK,covers,mpre,dL,hm]
  ·by_cases h2:0≤L[t].sup
   ·obtain ⟨q1,q2⟩:=hup h2
    obtain ⟨s,hs⟩:∃ s:Nat,L[t].sup = s:=⟨L[t].sup.toNat,by omega⟩
    rw [hs] at q1 q2
    have hm:missF (n + 1) L t = 1 + missF n L s:=by rw [missF,hth,if_neg h1,if_pos h2,hs]
    have ih:=missing_ok U n s (by omega) (by omega) (by omega)
    have hs0:(0:Int)≤s:=by omega
    repeat first|refine n1 ?_|refine n2 ?_|((first|refine rg 0 [0,1] [0,1] [] ?_|refine rg 1 [0,1] [0,1,14] [] ?_|refine rg 3 [0,1] [0,5] [] ?_|refine rg 4 [0,5] [0,5,24] [] ?_|refine rg 5 [0,5] [4] [] ?_|refine nc ?_);simp (maxSteps:=1000000) [hF,dL,hnth,ht,h1,hs,hs0])
    refine (ih).go [(0,[])] (by simp (maxSteps:=1000000) [hF,dL]) ?_;rintro av X κ ⟨⟨rfl,hle⟩,rfl,rfl⟩;simp (maxSteps:=1000000) [hF,dL]
    have hw:IntKind.i64.wrap (1 + (missF n L s:Int)) = 1 + (missF n L s:Int):=IntWalk.i64_in _ (by omega)
    repeat first|refine n1 ?_
    (try refine nr ?_);(repeat first|refine nb_ ?_|refine nl_ ?_);refine endK.o [4] [0] [] ?_;simp [hF,retK,covers,mpre,dL,hm,hw]
    omega
   ·have hm:missF (n + 1) L t = 1:=by rw [missF,hth,if_neg h1,if_neg h2]
    repeat first|refine n1 ?_|refine n2 ?_|((first|refine rg 0 [0,1] [0,1] [] ?_|refine rg 1 [0,1] [0,1,14] [] ?_|refine rg 3 [0,1] [0,5] [] ?_|refine rg 4 [0,5] [0,5,24] [] ?_|refine rg 6 [] [4] [] ?_|refine nc ?_);simp (maxSteps:=1000000) [hF,dL,hnth,ht,h1,h2])
    (try refine nr ?_);(repeat first|refine nb_ ?_|refine nl_ ?_);refine endK.o [4] [0] [] ?_;simp [hF,retK,covers,mpre,dL,hm]
theorem mkF_len:∀ (n:Nat) (L:List Th) (t:Int),(mkF n L t).1.length = L.length + missF n L t
 | 0,L,t=>by simp [mkF,missF]
 | n + 1,L,t=>by
  unfold mkF missF
  by_cases h1:0≤(thAt L t).own
  ·rw [if_pos h1,if_pos h1];simp
  ·rw [if_neg h1,if_neg h1]
   by_cases h2:0≤(thAt L t).sup
   ·simp only [if_pos h2,List.length_set,List.length_append,mkF_len n,List.length_singleton];omega
   ·simp only [if_neg h2,List.length_set,List.length_append,List.length_singleton]
theorem make_ok {L:List Th} {r:Int→Nat} (U:Ups L r):∀ (n:Nat) (t:Nat),t < L.length→r t < n→L.length + missF n L t≤1000→Meets Tryz.prog 111 [dL L] (.cons (.ptr 0 [.d]) (.cons (avInt t) .nil))
  fun av X κ=>av = avInt (mkF n L t).2∧X = [dL (mkF n L t).1]∧κ = [(0,[.d])]
 | 0,t,ht,hr,hn=>by omega
 | n + 1,t,ht,hr,hroom=>by
  have hx:L[t]? = some L[t]:=List.getElem?_eq_getElem ht
  have hnth:=dThs_nth ht
  have hth:=thAt_eq ht
  have hup:=U.up t _ hx
  have hl:=U.len
  refine fb Tryz.func111 Tryz.ntmps111 [.tmp 4] fun w0 I0 F0 hF=>?_
  by_cases h1:0≤L[t].own
  ·have hm:mkF (n + 1) L t = (L,L[t].own):=by unfold mkF;rw [hth,if_pos h1]
   repeat first|refine n1 ?_|((first|refine rg 0 [0,1] [0,1] [] ?_|refine rg 1 [0,1] [0,1,5] [] ?_|refine rg 2 [0,1,5] [0,1,5,18] [] ?_|refine rg 3 [5] [4] [] ?_|refine nc ?_);simp (maxSteps:=1000000) [hF,dL,hnth,ht,h1])
   (try refine nr ?_);(repeat first|refine nb_ ?_|refine nl_ ?_);refine endK.o [4] [0] [(0,[.d])] ?_;simp [hF,retK,covers,mpre,dL,hm]
  ·by_cases h2:0≤L[t].sup
   ·obtain ⟨q1,q2⟩:=hup h2
    obtain ⟨s,hs⟩:∃ s:Nat,L[t].sup = s:=⟨L[t].sup.toNat,by omega⟩
    rw [hs] at q1 q2
    have hms:missF (n + 1) L t = 1 + missF n L s:=by rw [missF,hth,if_neg h1,if_pos (by omega),hs]
    have ih:=make_ok U n s (by omega) (by omega) (by omega)
    have hs0:(0:Int)≤s:=by omega
    have hpl:=mkF_len n L s
    have hm:mkF (n + 1) L t = (((mkF n L s).1 ++ [newTh 2 (mkF n L s).2 (-1)]).set t { thAt ((mkF n L s).1 ++ [newTh 2 (mkF n L s).2 (-1)]) t with own:=((mkF n L s).1.length:Int) },((mkF n L s).1.length:Int)):=by
     rw [mkF,hth,if_neg h1]
     simp only [hs,hs0,if_true,Int.toNat_natCast]
    repeat first|refine n1 ?_|refine n2 ?_|((first|refine rg 0 [0,1] [0,1] [] ?_|refine rg 1 [0,1] [0,1,5] [] ?_|refine rg 2 [0,1,5] [0,1,5,18] [] ?_|refine rg 4 [0,1] [0,1,6] [] ?_|refine rg 5 [0,1,6] [0,1,6,7] [] ?_|refine rg 6 [0,1,6,7] [0,1,6,7,29] [] ?_|refine rg 7 [0,1,7] [0,1,6] [] ?_|refine nc ?_);simp (maxSteps:=1000000) [hF,dL,hnth,ht,h1,hs,hs0])
    refine (ih).go [(0,[])] (by simp (maxSteps:=1000000) [hF,dL]) ?_;rintro av X κ ⟨rfl,rfl,rfl⟩;simp (maxSteps:=1000000) [hF,dL]
    generalize mkF n L s = p at *
    obtain ⟨L1,w⟩:=p
    simp only at hpl hm
    have htq:t < (L1 ++ [newTh 2 w (-1)]).length:=by simp;omega
    have htq2:t < L1.length + 1:=by omega
    have hnq:=dThs_nth htq
    have hthq:=thAt_eq htq
    rw [hthq] at hm
    have hset:=dThs_set (L1 ++ [newTh 2 w (-1)]) t { (L1 ++ [newTh 2 w (-1)])[t] with own:=(L1.length:Int) }
    repeat first|refine n1 ?_|((refine rg 8 [0,1,6] [0,1,8] [] ?_);simp (maxSteps:=1000000) [hF])
    refine (add_ok L1 (by omega) 2 w (-1) (-1)).go [(0,[])] (by simp (maxSteps:=1000000) [hF,dL]) ?_;rintro av X κ ⟨rfl,rfl,rfl⟩;simp (maxSteps:=1000000) [hF,dL]
    generalize hq:(L1 ++ [newTh 2 w (-1)]) = q at *
    have hq':(L1 ++ [⟨2,w,-1,-1,[],[]⟩]) = q:=hq
    repeat first|refine n1 ?_|((first|refine rg 9 [0,1,8] [8] [] ?_|refine rg 10 [8] [4] [] ?_);simp (maxSteps:=1000000) [hF,hq',hnq,htq,hset])
    (try refine nr ?_);(repeat first|refine nb_ ?_|refine nl_ ?_);refine endK.o [4] [0] [(0,[.d])] ?_;simp [hF,retK,covers,mpre,dL,hm]
   ·have hms:missF (n + 1) L t = 1:=by rw [missF,hth,if_neg h1,if_neg h2]
    have hm:mkF (n + 1) L t = ((L ++ [newTh 2 0 (-1)]).set t { thAt (L ++ [newTh 2 0 (-1)]) t with own:=(L.length:Int) },(L.length:Int)):=by
     rw [mkF,hth,if_neg h1]
     simp only [h2,if_false,Int.toNat_natCast]
    have htq:t < (L ++ [newTh 2 0 (-1)]).length:=by simp;omega
    have hnq:=dThs_nth htq
    have hthq:=thAt_eq htq
    rw [hthq] at hm
    have hset:=dThs_set (L ++ [newTh 2 0 (-1)]) t { (L ++ [newTh 2 0 (-1)])[t] with own:=(L.length:Int) }
    repeat first|refine n1 ?_|refine n2 ?_|((first|refine rg 0 [0,1] [0,1] [] ?_|refine rg 1 [0,1] [0,1,5] [] ?_|refine rg 2 [0,1,5] [0,1,5,18] [] ?_|refine rg 4 [0,1] [0,1,6] [] ?_|refine rg 5 [0,1,6] [0,1,6,7] [] ?_|refine rg 6 [0,1,6,7] [0,1,6,7,29] [] ?_|refine rg 8 [0,1,6] [0,1,8] [] ?_|refine nc ?_);simp (maxSteps:=1000000) [hF,dL,hnth,ht,h1,h2])
    refine (add_ok L (by omega) 2 0 (-1) (-1)).go [(0,[])] (by simp (maxSteps:=1000000) [hF,dL]) ?_;rintro av X κ ⟨rfl,rfl,rfl⟩;simp (maxSteps:=1000000) [hF,dL]
    generalize hq:(L ++ [newTh 2 0 (-1)]) = q at *
    have hq':(L ++ [⟨2,0,-1,-1,[],[]⟩]) = q:=hq
    repeat first|refine n1 ?_|((first|refine rg 9 [0,1,8] [8] [] ?_|refine rg 10 [8] [4] [] ?_);simp (maxSteps:=1000000) [hF,hq',hnq,htq,hset])
    (try refine nr ?_);(repeat first|refine nb_ ?_|refine nl_ ?_);refine endK.o [4] [0] [(0,[.d])] ?_;simp [hF,retK,covers,mpre,dL,hm]
def ownOf (L:List Th) (t:Int):List Th×Int×Int :=
 if val L t = false∨(thAt L t).kind = 2 then (L,0,1)
 else if 1000 < L.length + missF 1001 L t then (L,0,9) else ((mkF 1001 L t).1,(mkF 1001 L t).2,0)
theorem own_ok {L:List Th} {r:Int→Nat} (U:Ups L r) (hr:∀ t,r t≤1000) (t:Int):Meets Tryz.prog 66 [dL L] (.cons (.ptr 0 [.d]) (.cons (avInt t) .nil))
  fun av X κ=>av = two (ownOf L t).2∧X = [dL (ownOf L t).1]∧κ = [(0,[.d])]:=by
 have hl:=U.len
 refine fb Tryz.func66 Tryz.ntmps66 [.tmp 4,.tmp 5] fun w0 I0 F0 hF=>?_
 repeat first|refine n1 ?_|((first|refine rg 0 [0,1] [0,1] [] ?_|refine rg 1 [0,1] [0,1,21] [(4,11)] ?_);simp (maxSteps:=1000000) [hF])
 cases hv:val L t with
 | false =>
  have hc:ownOf L t = (L,0,1):=by unfold ownOf;rw [if_pos (.inl hv)]
  refine (is_ok L hl t).go [(0,[])] (by simp (maxSteps:=1000000) [hF,dL,hv]) ?_;rintro av X κ ⟨rfl,rfl,rfl⟩;simp (maxSteps:=1000000) [hF,dL,hv]
  repeat first|refine n1 ?_|((first|refine rg 2 [] [4,5] [] ?_|refine nc ?_);simp (maxSteps:=1000000) [hF])
  (try refine nr ?_);(repeat first|refine nb_ ?_|refine nl_ ?_);refine endK.o [4,5] [0] [(0,[.d])] ?_;simp [hF,retK,covers,mpre,dL,hc]
 | true =>
  obtain ⟨t,rfl,ht⟩:=val_nat hv
  have hn:=dThs_nth ht
  have hth:=thAt_eq ht
  by_cases h2:L[t].kind = 2
  ·have hc:ownOf L t = (L,0,1):=by unfold ownOf;rw [if_pos (.inr (by rw [hth];exact h2))]
   refine (is_ok L hl t).go [(0,[])] (by simp (maxSteps:=1000000) [hF,dL,hv,hn,ht,h2]) ?_;rintro av X κ ⟨rfl,rfl,rfl⟩;simp (maxSteps:=1000000) [hF,dL,hv,hn,ht,h2]
   repeat first|refine n1 ?_|((first|refine rg 2 [] [4,5] [] ?_|refine nc ?_);simp (maxSteps:=1000000) [hF])
   (try refine nr ?_);(repeat first|refine nb_ ?_|refine nl_ ?_);refine endK.o [4,5] [0] [(0,[.d])] ?_;simp [hF,retK,covers,mpre,dL,hc]
  ·have hnot:¬ (val L t = false∨(thAt L t).kind = 2):=by rw [hv,hth];simp [h2]
   have hrt:=hr t
   refine (is_ok L hl t).go [(0,[])] (by simp (maxSteps:=1000000) [hF,dL,hv,hn,ht,h2]) ?_;rintro av X κ ⟨rfl,rfl,rfl⟩;simp (maxSteps:=1000000) [hF,dL,hv,hn,ht,h2]
   repeat first|refine n1 ?_|refine n2 ?_|((first|refine rg 3 [0,1] [0,1,6] [] ?_|refine nc ?_);simp (maxSteps:=1000000) [hF])
   refine (missing_ok U 1001 t ht (by omega) (by omega)).go [(0,[])] (by simp (maxSteps:=1000000) [hF,dL]) ?_;rintro av X κ ⟨⟨rfl,hle⟩,rfl,rfl⟩;simp (maxSteps:=1000000) [hF,dL]
   repeat first|refine n1 ?_
   refine (room_ok L hl (missF 1001 L t) (by omega)).go [(0,[])] (by simp (maxSteps:=1000000) [hF,dL]) ?_;rintro av X κ ⟨rfl,rfl,rfl⟩;simp (maxSteps:=1000000) [hF,dL]
   by_cases hf:1000 < L.length + missF 1001 L t
   ·have hc:ownOf L t = (L,0,9):=by unfold ownOf;rw [if_neg hnot,if_pos hf]
    repeat first|refine n1 ?_|((first|refine rg 4 [0,1,6] [0,1,6,28] [] ?_|refine rg 5 [6] [4,5] [] ?_|refine nc ?_);simp (maxSteps:=1000000) [hF,hf])
    (try refine nr ?_);(repeat first|refine nb_ ?_|refine nl_ ?_);refine endK.o [4,5] [0] [(0,[.d])] ?_;simp [hF,retK,covers,mpre,dL,hc]
   ·have hc:ownOf L t = ((mkF 1001 L t).1,(mkF 1001 L t).2,0):=by unfold ownOf;rw [if_neg hnot,if_neg hf]
    repeat first|refine n1 ?_|refine n2 ?_|((first|refine rg 4 [0,1,6] [0,1,6,28] [] ?_|refine rg 6 [0,1] [4,5] [] ?_|refine nc ?_);simp (maxSteps:=1000000) [hF,hf])
    refine (make_ok U 1001 t ht (by omega) (by omega)).go [(0,[])] (by simp (maxSteps:=1000000) [hF,dL]) ?_;rintro av X κ ⟨rfl,rfl,rfl⟩;simp (maxSteps:=1000000) [hF,dL]
    repeat first|refine n1 ?_
    (try refine nr ?_);(repeat first|refine nb_ ?_|refine nl_ ?_);refine endK.o [4,5] [0] [(0,[.d])] ?_;simp [hF,retK,covers,mpre,dL,hc]
end Go.Proofs.YtbhigdljojlhnaaGreat

/- A module is put into a list of a thing. -/
namespace Go.Proofs.YtbhigdljojlhnaaGreat
set_option linter.all false
open Go.Vc Go.Proofs
set_option linter.unusedSimpArgs false
set_option linter.unusedVariables false
set_option maxRecDepth 100000
set_option maxHeartbeats 4000000
attribute [local irreducible] CallW EqK
theorem I1_ok (L:List Th) (t:Nat) (ht:t < L.length):Meets Tryz.prog 107 [dL L] (.cons (.ptr 0 [.d,.f 0,.i t]) .nil)
  fun av X κ=>av = .ptr 0 [.d,.f 0,.i t,.f 5]∧X = [dL L]∧κ = []:=by
 have hn:=dThs_nth ht
 refine fb Tryz.func107 Tryz.ntmps107 [.tmp 2] fun w0 I0 F0 hF=>?_
 repeat first|refine n1 ?_|((first|refine rg 0 [0] [0] [] ?_|refine rg 1 [0] [2] [] ?_);simp (maxSteps:=1000000) [hF,dL,hn])
 (try refine nr ?_);(repeat first|refine nb_ ?_|refine nl_ ?_);refine endK.o [2] [0] [] ?_;simp [hF,retK,covers,mpre,dL]
def withI (L:List Th) (t:Nat) (l:List Int):List Th:=L.set t { L.getD t ⟨0,-1,-1,-1,[],[]⟩ with ins:=l }
theorem withI_eq {L:List Th} {t:Nat} (ht:t < L.length) (l:List Int):withI L t l = L.set t { L[t] with ins:=l }:=by
 unfold withI
 rw [List.getD_eq_getElem?_getD,List.getElem?_eq_getElem ht];rfl
open Classical in
noncomputable def putI (L:List Th) (t m:Int):List Th×Int :=
 if (val L t && (val L m && decide ((thAt L m).kind = 1))) = false then (L,1)
 else if hasN (thAt L t).ins m = true then (L,7)
 else if m = t∨hasN (ordL L m) t = true then (L,10)
 else if ∀ k:Nat,k < L.length→∃ o,ordOf (withI L t.toNat (m :: (thAt L t).ins)) k = some o then (withI L t.toNat (m :: (thAt L t).ins),0) else (L,10)
theorem putI_ok {L:List Th} (W:WFL L) (t m:Int) (hB:∀ t':Nat,t = t'→t' < L.length→val L m = true→(thAt L m).kind = 1→hasN (thAt L t).ins m = false→m≠t→hasN (ordL L m) t = false→∃ r,Base (withI L t' (m :: (thAt L t).ins)) r) :
  Meets Tryz.prog 106 [dL L] (.cons (.ptr 0 [.d]) (.cons (avInt t) (.cons (avInt m) (.cons (.fn 107 .nil) .nil))))
  fun av X κ=>av = avInt (putI L t m).2∧X = [dL (putI L t m).1]∧κ = [(0,[.d])]:=by
 obtain ⟨r,B⟩:=W.base
 have hl:=B.len
 refine fb Tryz.func106 Tryz.ntmps106 [.tmp 8] fun w0 I0 F0 hF=>?_
 repeat first|refine n1 ?_|((first|refine rg 0 [0,1,2,3] [0,1,2,3] [] ?_|refine rg 1 [0,1,2,3] [0,1,2,3,26] [(4,21)] ?_);simp (maxSteps:=1000000) [hF])
 cases hv:val L t with
 | false =>
  have hc:putI L t m = (L,1):=by unfold putI;rw [if_pos (by simp [hv])]
  refine (is_ok L hl t).go [(0,[])] (by simp (maxSteps:=1000000) [hF,dL,hv]) ?_;rintro av X κ ⟨rfl,rfl,rfl⟩;simp (maxSteps:=1000000) [hF,dL,hv]
  repeat first|refine n1 ?_|((first|refine rg 2 [] [8] [] ?_|refine nc ?_);simp (maxSteps:=1000000) [hF])
  (try refine nr ?_);(repeat first|refine nb_ ?_|refine nl_ ?_);refine endK.o [8] [0] [(0,[.d])] ?_;simp [hF,retK,covers,mpre,dL,hc]
 | true =>
  obtain ⟨t,rfl,ht⟩:=val_nat hv
  have hn:=dThs_nth ht
  have hth:=thAt_eq ht
  refine (is_ok L hl t).go [(0,[])] (by simp (maxSteps:=1000000) [hF,dL,hv]) ?_;rintro av X κ ⟨rfl,rfl,rfl⟩;simp (maxSteps:=1000000) [hF,dL,hv]
  cases hk:(val L m && decide ((thAt L m).kind = 1)) with
  | false =>
   have hc:putI L t m = (L,1):=by unfold putI;rw [if_pos (by simp [hk])]
   refine (kind_ok L hl m 1).go [(0,[])] (by simp (maxSteps:=1000000) [hF,dL,hk]) ?_;rintro av X κ ⟨rfl,rfl,rfl⟩;simp (maxSteps:=1000000) [hF,dL,hk]
   repeat first|refine n1 ?_|((first|refine rg 2 [] [8] [] ?_|refine nc ?_);simp (maxSteps:=1000000) [hF])
   (try refine nr ?_);(repeat first|refine nb_ ?_|refine nl_ ?_);refine endK.o [8] [0] [(0,[.d])] ?_;simp [hF,retK,covers,mpre,dL,hc]
  | true =>
   have hkm:val L m = true∧(thAt L m).kind = 1:=by simpa using hk
   have h0:¬ (val L t && (val L m && decide ((thAt L m).kind = 1))) = false:=by rw [hv,hk];simp
   obtain ⟨m,rfl,hm⟩:=val_nat hkm.1
   have hlen:L[t].ins.length≤1000:=by
    have hx:L[t]? = some L[t]:=List.getElem?_eq_getElem ht
    have h1:=nodup_bound L.length (parents L[t]) (B.np _ _ hx) (fun u hu=>by have:=B.edge _ _ hx u (.inr hu);omega)
    have h2:=nodup_bound L.length L[t].bef (B.nb _ _ hx) (fun u hu=>by have:=B.edge _ _ hx u (.inl hu);omega)
    have h3:L[t].ins.length≤(parents L[t]).length:=by simp [parents]
    omega
   refine (kind_ok L hl m 1).go [(0,[])] (by simp (maxSteps:=1000000) [hF,dL,hk]) ?_;rintro av X κ ⟨rfl,rfl,rfl⟩;simp (maxSteps:=1000000) [hF,dL,hk]
   repeat first|refine n1 ?_|refine n2 ?_|((first|refine rg 3 [0,1,2,3] [0,1,2,9] [] ?_|refine nc ?_);simp (maxSteps:=1000000) [hF,dL,hn,ht])
   refine (I1_ok L t ht).go [(0,[])] (by simp (maxSteps:=1000000) [hF,dL]) ?_;rintro av X κ ⟨rfl,rfl,rfl⟩;simp (maxSteps:=1000000) [hF,dL]
   repeat first|refine n1 ?_|((refine rg 4 [0,1,2,9] [0,1,2,9,39] [] ?_);simp (maxSteps:=1000000) [hF,dL,hn,ht])
   refine (contains_ok false L[t].ins m (by omega)).go [] (by simp (maxSteps:=1000000) [hF,dL]) ?_;rintro av X κ ⟨rfl,rfl,rfl⟩;simp (maxSteps:=1000000) [hF,dL]
   cases hd:hasN L[t].ins m with
   | true =>
    have hc:putI L t m = (L,7):=by unfold putI;rw [if_neg h0,hth,if_pos hd]
    repeat first|refine n1 ?_|((first|refine rg 5 [] [8] [] ?_|refine nc ?_);simp (maxSteps:=1000000) [hF,hd])
    (try refine nr ?_);(repeat first|refine nb_ ?_|refine nl_ ?_);refine endK.o [8] [0] [(0,[.d])] ?_;simp [hF,retK,covers,mpre,dL,hc]
   | false =>
    have hd':¬ hasN (thAt L t).ins m = true:=by rw [hth,hd];simp
    have hol:(ordL L m).length≤1000:=ord_len B hm (W.ord hm)
    repeat first|refine n1 ?_|refine n2 ?_|((first|refine rg 6 [0,1,2,9] [0,1,2,9,10] [] ?_|refine nc ?_);simp (maxSteps:=1000000) [hF,hd])
    by_cases hmt:(m:Int) = (t:Int)
    ·have hc:putI L t m = (L,10):=by unfold putI;rw [if_neg h0,if_neg hd',if_pos (.inl hmt)]
     refine (order_ok W m hm).go [(0,[])] (by simp (maxSteps:=1000000) [hF,dL,hmt]) ?_;rintro av X κ ⟨rfl,rfl,rfl⟩;simp (maxSteps:=1000000) [hF,dL,hmt]
     repeat first|refine n1 ?_|((first|refine rg 7 [0,1,2,9,10] [0,2,9,53] [(3,49)] ?_|refine rg 8 [] [8] [] ?_|refine nc ?_);simp (maxSteps:=1000000) [hF,hmt])
     (try refine nr ?_);(repeat first|refine nb_ ?_|refine nl_ ?_);refine endK.o [8] [0] [(0,[.d])] ?_;simp [hF,retK,covers,mpre,dL,hc]
    ·refine (order_ok W m hm).go [(0,[])] (by simp (maxSteps:=1000000) [hF,dL,hmt]) ?_;rintro av X κ ⟨rfl,rfl,rfl⟩;simp (maxSteps:=1000000) [hF,dL,hmt]
     repeat first|refine n1 ?_|((refine rg 7 [0,1,2,9,10] [0,2,9,53] [(3,49)] ?_);simp (maxSteps:=1000000) [hF,hmt])
     refine (contains_ok false (ordL L m) t (by omega)).go [] (by simp (maxSteps:=1000000) [hF,dL]) ?_;rintro av X κ ⟨rfl,rfl,rfl⟩;simp (maxSteps:=1000000) [hF,dL]
     cases hh:hasN (ordL L m) t with
     | true =>
      have hc:putI L t m = (L,10):=by unfold putI;rw [if_neg h0,if_neg hd',if_pos (.inr hh)]
      repeat first|refine n1 ?_|((first|refine rg 8 [] [8] [] ?_|refine nc ?_);simp (maxSteps:=1000000) [hF,hh])
      (try refine nr ?_);(repeat first|refine nb_ ?_|refine nl_ ?_);refine endK.o [8] [0] [(0,[.d])] ?_;simp [hF,retK,covers,mpre,dL,hc]
     | false =>
      have h3:¬ ((m:Int) = t∨hasN (ordL L m) t = true):=by rw [hh];simp [hmt]
      obtain ⟨r2,B2⟩:=hB t rfl ht hkm.1 hkm.2 (by rw [hth];exact hd) hmt hh
      have hwe:=withI_eq ht ((m:Int) :: L[t].ins)
      have hset:=dThs_set L t { L[t] with ins:=(m:Int) :: L[t].ins }
      have hfl:flatOs [(true,[(m:Int)]),(false,L[t].ins)] = (m:Int) :: L[t].ins:=by simp [flatOs]
      repeat first|refine n1 ?_|refine n2 ?_|((first|refine rg 9 [0,2,9] [0,2,9,12] [] ?_|refine rg 10 [0,2,9,12] [0,9,12] [] ?_|refine nc ?_);simp (maxSteps:=1000000) [hF,hh,hn,ht])
      refine (concat_ok true [(true,[(m:Int)]),(false,L[t].ins)] (by simp) (by simp [sizeOs]) (by simp [sizeOs];omega)).go [(2,[])] (by simp (maxSteps:=1000000) [hF,dOs,sq,dInts_one,hfl,hn,ht,hset]) ?_;rintro av X κ ⟨rfl,rfl,rfl⟩;simp (maxSteps:=1000000) [hF,dOs,sq,dInts_one,hfl,hn,ht,hset]
      repeat first|refine n1 ?_|refine n3 ?_|((first|refine rg 11 [0,9,12] [0,9,12,13] [] ?_|refine rg 12 [0,9,12,13] [0,9,12,13,69,70] [] ?_);simp (maxSteps:=1000000) [hF])
      refine VS.widen [(0,[.d])] (by simp [covers,mpre]) ?_
      refine VS.pick [0,9,12,13,69,70] [0,3] (by simp [hF]) ?_;simp [hF]
      have hw0:withI L t ((m:Int) :: L[t].ins) = withI L (t:Int).toNat ((m:Int) :: (thAt L t).ins):=by rw [hth];rfl
      rw [hth] at B2
      generalize hL2:withI L t ((m:Int) :: L[t].ins) = L2 at *
      have hl2:L2.length = L.length:=by rw [hwe];simp
      have ht2:t < L2.length:=by omega
      have hget2:L2[t] = { L[t] with ins:=(m:Int) :: L[t].ins }:=by simp [hwe]
      have hback:L2.set t L[t] = L:=by rw [hwe,List.set_set,List.set_getElem_self]
      have hn2:=dThs_nth ht2
      rw [hget2] at hn2
      have hset2:=dThs_set L2 t L[t]
      rw [hback] at hset2
      refine VS.rounds (fun n st=>∃ (i:Nat) (M:List (Int×List Int)),i + n = L.length∧MemoOk L2 M∧(∀ k:Nat,k < i→∃ o,ordOf L2 k = some o) ∧
       st = ⟨[(0,.ptr 0 [.d]),(9,.ptr 0 [.d,.f 0,.i t,.f 5]),(12,.imm 1 (dInts L[t].ins) false),(13,.mp 1 []),(69,avInt L.length),(70,avInt i)],[dL L2,dM M],[(0,[.d])],[]⟩)
       ⟨L.length,0,[],by omega,(fun k o h=>by cases h),(fun k h=>by omega),by simp [dL,dM,hwe]⟩ ?_
      rintro n st ⟨i,M,hin,hM,hall,rfl⟩
      repeat first|refine n1 ?_|((first|refine rg 13 [0,9,12,13,69,70] [0,9,12,13,69,70,71] [] ?_|refine nc ?_);simp (maxSteps:=1000000) [hF])
      refine ⟨fun hlt=>?_,fun hge=>?_⟩
      ·have hi2:i < L2.length:=by omega
       cases ho:ordOf L2 i with
       | some o =>
        have hf:=Meets.mono (find_ok B2 i hi2 M hM) (R':=fun av X κ=>∃ M,MemoOk L2 M∧av = .tup (.cons (.imm 1 (dInts o) false) (.cons (avBool true) .nil))∧X = [dL L2,dM M]∧κ = [(1,[.i 0])])
         fun av X κ ⟨M,h1,h2,h3,h4⟩=>⟨M,h1,by rw [ho] at h4;exact h4,h2,h3⟩
        repeat first|refine n1 ?_|refine n2 ?_|refine n3 ?_|((first|refine rg 14 [0,9,12,13,69,70] [0,9,12,13,14,69,70] [] ?_|refine rg 15 [0,9,12,13,14,69,70] [0,9,12,13,16,69,70] [] ?_);simp (maxSteps:=1000000) [hF])
        refine (hf).go [(0,[]),(1,[])] (by simp (maxSteps:=1000000) [hF,dL,dM]) ?_;rintro av X κ ⟨M,hM,rfl,rfl,rfl⟩;simp (maxSteps:=1000000) [hF,dL,dM]
        repeat first|refine n1 ?_|refine n2 ?_|refine n4 ?_|refine n5 ?_|refine n6 ?_|((first|refine rg 16 [0,9,12,13,16,69,70] [0,9,12,13,69,70,81] [] ?_|refine rg 19 [0,9,12,13,69,70] [0,9,12,13,69,70] [] ?_|refine nc ?_);simp (maxSteps:=1000000) [hF])
        refine nextK.of [0,9,12,13,69,70] [0,1] (n - 1) (by omega) (by simp [hF]) ?_
        refine ⟨i + 1,M,by omega,hM,fun k hk=>?_,?_⟩
        ·rcases Nat.lt_or_ge k i with h | h
         ·exact hall k h
         ·obtain rfl:k = i:=by omega
          exact ⟨o,ho⟩
        ·simp [dL,dM]
         exact IntWalk.i64_in _ (by omega)
       | none =>
        have hc:putI L t m = (L,10):=by
         unfold putI
         rw [if_neg h0,if_neg hd',if_neg h3,←hw0,if_neg]
         intro h
         obtain ⟨o,h⟩:=h i (by omega)
         rw [ho] at h;cases h
        have hf:=Meets.mono (find_ok B2 i hi2 M hM) (R':=fun av X κ=>∃ M,MemoOk L2 M∧av = .tup (.cons (.nils 1) (.cons (avBool false) .nil))∧X = [dL L2,dM M]∧κ = [(1,[.i 0])])
         fun av X κ ⟨M,h1,h2,h3,h4⟩=>⟨M,h1,by rw [ho] at h4;exact h4,h2,h3⟩
        repeat first|refine n1 ?_|refine n2 ?_|refine n3 ?_|((first|refine rg 14 [0,9,12,13,69,70] [0,9,12,13,14,69,70] [] ?_|refine rg 15 [0,9,12,13,14,69,70] [0,9,12,13,16,69,70] [] ?_);simp (maxSteps:=1000000) [hF])
        refine (hf).go [(0,[]),(1,[])] (by simp (maxSteps:=1000000) [hF,dL,dM]) ?_;rintro av X κ ⟨M,hM,rfl,rfl,rfl⟩;simp (maxSteps:=1000000) [hF,dL,dM]
        repeat first|refine n1 ?_|((first|refine rg 16 [0,9,12,13,16,69,70] [0,9,12,13,69,70,81] [] ?_|refine rg 17 [9,12] [] [] ?_|refine rg 18 [] [8] [] ?_|refine nc ?_);simp (maxSteps:=1000000) [hF,dL,hn2,ht2,hset2])
        (try refine nr ?_);(repeat first|refine nb_ ?_|refine nl_ ?_);refine endK.o [8] [0] [(0,[.d])] ?_;simp [hF,retK,covers,mpre,dL,hc]
      ·obtain rfl:i = L.length:=by omega
       have hc:putI L t m = (L2,0):=by
        unfold putI
        rw [if_neg h0,if_neg hd',if_neg h3,←hw0,if_pos hall]
       repeat first|refine n1 ?_|refine n7 ?_|((refine rg 20 [] [8] [] ?_);simp (maxSteps:=1000000) [hF])
       (try refine nr ?_);(repeat first|refine nb_ ?_|refine nl_ ?_);refine endK.o [8] [0] [(0,[.d])] ?_;simp [hF,retK,covers,mpre,dL,hc]
theorem include_ok {L:List Th} (W:WFL L) (t m:Int) (hB:∀ t':Nat,t = t'→t' < L.length→val L m = true→(thAt L m).kind = 1→hasN (thAt L t).ins m = false→m≠t→hasN (ordL L m) t = false→∃ r,Base (withI L t' (m :: (thAt L t).ins)) r) :
  Meets Tryz.prog 62 [dL L] (.cons (.ptr 0 [.d]) (.cons (avInt t) (.cons (avInt m) .nil)))
  fun av X κ=>av = avInt (putI L t m).2∧X = [dL (putI L t m).1]∧κ = [(0,[.d])]:=by
 refine fb Tryz.func62 Tryz.ntmps62 [.tmp 6] fun w0 I0 F0 hF=>?_
 repeat first|refine n1 ?_|((first|refine rg 0 [0,1,2] [0,1,2] [] ?_|refine rg 1 [0,1,2] [6] [] ?_);simp (maxSteps:=1000000) [hF])
 refine (putI_ok W t m hB).go [(0,[])] (by simp (maxSteps:=1000000) [hF,dL]) ?_;rintro av X κ ⟨rfl,rfl,rfl⟩;simp (maxSteps:=1000000) [hF,dL]
 repeat first|refine n1 ?_
 (try refine nr ?_);(repeat first|refine nb_ ?_|refine nl_ ?_);refine endK.o [6] [0] [(0,[.d])] ?_;simp [hF,retK,covers,mpre,dL]
theorem P1_ok (L:List Th) (t:Nat) (ht:t < L.length):Meets Tryz.prog 109 [dL L] (.cons (.ptr 0 [.d,.f 0,.i t]) .nil)
  fun av X κ=>av = .ptr 0 [.d,.f 0,.i t,.f 4]∧X = [dL L]∧κ = []:=by
 have hn:=dThs_nth ht
 refine fb Tryz.func109 Tryz.ntmps109 [.tmp 2] fun w0 I0 F0 hF=>?_
 repeat first|refine n1 ?_|((first|refine rg 0 [0] [0] [] ?_|refine rg 1 [0] [2] [] ?_);simp (maxSteps:=1000000) [hF,dL,hn])
 (try refine nr ?_);(repeat first|refine nb_ ?_|refine nl_ ?_);refine endK.o [2] [0] [] ?_;simp [hF,retK,covers,mpre,dL]
def withP (L:List Th) (t:Nat) (l:List Int):List Th:=L.set t { L.getD t ⟨0,-1,-1,-1,[],[]⟩ with bef:=l }
theorem withP_eq {L:List Th} {t:Nat} (ht:t < L.length) (l:List Int):withP L t l = L.set t { L[t] with bef:=l }:=by
 unfold withP
 rw [List.getD_eq_getElem?_getD,List.getElem?_eq_getElem ht];rfl
open Classical in
noncomputable def putP (L:List Th) (t m:Int):List Th×Int :=
 if (val L t && (val L m && decide ((thAt L m).kind = 1))) = false then (L,1)
 else if hasN (thAt L t).bef m = true then (L,7)
 else if m = t∨hasN (ordL L m) t = true then (L,10)
 else if ∀ k:Nat,k < L.length→∃ o,ordOf (withP L t.toNat (m :: (thAt L t).bef)) k = some o then (withP L t.toNat (m :: (thAt L t).bef),0) else (L,10)
theorem putP_ok {L:List Th} (W:WFL L) (t m:Int) (hB:∀ t':Nat,t = t'→t' < L.length→val L m = true→(thAt L m).kind = 1→hasN (thAt L t).bef m = false→m≠t→hasN (ordL L m) t = false→∃ r,Base (withP L t' (m :: (thAt L t).bef)) r) :
  Meets Tryz.prog 106 [dL L] (.cons (.ptr 0 [.d]) (.cons (avInt t) (.cons (avInt m) (.cons (.fn 109 .nil) .nil))))
  fun av X κ=>av = avInt (putP L t m).2∧X = [dL (putP L t m).1]∧κ = [(0,[.d])]:=by
 obtain ⟨r,B⟩:=W.base
 have hl:=B.len
 refine fb Tryz.func106 Tryz.ntmps106 [.tmp 8] fun w0 I0 F0 hF=>?_
 repeat first|refine n1 ?_|((first|refine rg 0 [0,1,2,3] [0,1,2,3] [] ?_|refine rg 1 [0,1,2,3] [0,1,2,3,26] [(4,21)] ?_);simp (maxSteps:=1000000) [hF])
 cases hv:val L t with
 | false =>
  have hc:putP L t m = (L,1):=by unfold putP;rw [if_pos (by simp [hv])]
  refine (is_ok L hl t).go [(0,[])] (by simp (maxSteps:=1000000) [hF,dL,hv]) ?_;rintro av X κ ⟨rfl,rfl,rfl⟩;simp (maxSteps:=1000000) [hF,dL,hv]
  repeat first|refine n1 ?_|((first|refine rg 2 [] [8] [] ?_|refine nc ?_);simp (maxSteps:=1000000) [hF])
  (try refine nr ?_);(repeat first|refine nb_ ?_|refine nl_ ?_);refine endK.o [8] [0] [(0,[.d])] ?_;simp [hF,retK,covers,mpre,dL,hc]
 | true =>
  obtain ⟨t,rfl,ht⟩:=val_nat hv
  have hn:=dThs_nth ht
  have hth:=thAt_eq ht
  refine (is_ok L hl t).go [(0,[])] (by simp (maxSteps:=1000000) [hF,dL,hv]) ?_;rintro av X κ ⟨rfl,rfl,rfl⟩;simp (maxSteps:=1000000) [hF,dL,hv]
  cases hk:(val L m && decide ((thAt L m).kind = 1)) with
  | false =>
   have hc:putP L t m = (L,1):=by unfold putP;rw [if_pos (by simp [hk])]
   refine (kind_ok L hl m 1).go [(0,[])] (by simp (maxSteps:=1000000) [hF,dL,hk]) ?_;rintro av X κ ⟨rfl,rfl,rfl⟩;simp (maxSteps:=1000000) [hF,dL,hk]
   repeat first|refine n1 ?_|((first|refine rg 2 [] [8] [] ?_|refine nc ?_);simp (maxSteps:=1000000) [hF])
   (try refine nr ?_);(repeat first|refine nb_ ?_|refine nl_ ?_);refine endK.o [8] [0] [(0,[.d])] ?_;simp [hF,retK,covers,mpre,dL,hc]
  | true =>
   have hkm:val L m = true∧(thAt L m).kind = 1:=by simpa using hk
   have h0:¬ (val L t && (val L m && decide ((thAt L m).kind = 1))) = false:=by rw [hv,hk];simp
   obtain ⟨m,rfl,hm⟩:=val_nat hkm.1
   have hlen:L[t].bef.length≤1000:=by
    have hx:L[t]? = some L[t]:=List.getElem?_eq_getElem ht
    have h1:=nodup_bound L.length (parents L[t]) (B.np _ _ hx) (fun u hu=>by have:=B.edge _ _ hx u (.inr hu);omega)
    have h2:=nodup_bound L.length L[t].bef (B.nb _ _ hx) (fun u hu=>by have:=B.edge _ _ hx u (.inl hu);omega)
    have h3:L[t].ins.length≤(parents L[t]).length:=by simp [parents]
    omega
   refine (kind_ok L hl m 1).go [(0,[])] (by simp (maxSteps:=1000000) [hF,dL,hk]) ?_;rintro av X κ ⟨rfl,rfl,rfl⟩;simp (maxSteps:=1000000) [hF,dL,hk]
   repeat first|refine n1 ?_|refine n2 ?_|((first|refine rg 3 [0,1,2,3] [0,1,2,9] [] ?_|refine nc ?_);simp (maxSteps:=1000000) [hF,dL,hn,ht])
   refine (P1_ok L t ht).go [(0,[])] (by simp (maxSteps:=1000000) [hF,dL]) ?_;rintro av X κ ⟨rfl,rfl,rfl⟩;simp (maxSteps:=1000000) [hF,dL]
   repeat first|refine n1 ?_|((refine rg 4 [0,1,2,9] [0,1,2,9,39] [] ?_);simp (maxSteps:=1000000) [hF,dL,hn,ht])
   refine (contains_ok false L[t].bef m (by omega)).go [] (by simp (maxSteps:=1000000) [hF,dL]) ?_;rintro av X κ ⟨rfl,rfl,rfl⟩;simp (maxSteps:=1000000) [hF,dL]
   cases hd:hasN L[t].bef m with
   | true =>
    have hc:putP L t m = (L,7):=by unfold putP;rw [if_neg h0,hth,if_pos hd]
    repeat first|refine n1 ?_|((first|refine rg 5 [] [8] [] ?_|refine nc ?_);simp (maxSteps:=1000000) [hF,hd])
    (try refine nr ?_);(repeat first|refine nb_ ?_|refine nl_ ?_);refine endK.o [8] [0] [(0,[.d])] ?_;simp [hF,retK,covers,mpre,dL,hc]
   | false =>
    have hd':¬ hasN (thAt L t).bef m = true:=by rw [hth,hd];simp
    have hol:(ordL L m).length≤1000:=ord_len B hm (W.ord hm)
    repeat first|refine n1 ?_|refine n2 ?_|((first|refine rg 6 [0,1,2,9] [0,1,2,9,10] [] ?_|refine nc ?_);simp (maxSteps:=1000000) [hF,hd])
    by_cases hmt:(m:Int) = (t:Int)
    ·have hc:putP L t m = (L,10):=by unfold putP;rw [if_neg h0,if_neg hd',if_pos (.inl hmt)]
     refine (order_ok W m hm).go [(0,[])] (by simp (maxSteps:=1000000) [hF,dL,hmt]) ?_;rintro av X κ ⟨rfl,rfl,rfl⟩;simp (maxSteps:=1000000) [hF,dL,hmt]
     repeat first|refine n1 ?_|((first|refine rg 7 [0,1,2,9,10] [0,2,9,53] [(3,49)] ?_|refine rg 8 [] [8] [] ?_|refine nc ?_);simp (maxSteps:=1000000) [hF,hmt])
     (try refine nr ?_);(repeat first|refine nb_ ?_|refine nl_ ?_);refine endK.o [8] [0] [(0,[.d])] ?_;simp [hF,retK,covers,mpre,dL,hc]
    ·refine (order_ok W m hm).go [(0,[])] (by simp (maxSteps:=1000000) [hF,dL,hmt]) ?_;rintro av X κ ⟨rfl,rfl,rfl⟩;simp (maxSteps:=1000000) [hF,dL,hmt]
     repeat first|refine n1 ?_|((refine rg 7 [0,1,2,9,10] [0,2,9,53] [(3,49)] ?_);simp (maxSteps:=1000000) [hF,hmt])
     refine (contains_ok false (ordL L m) t (by omega)).go [] (by simp (maxSteps:=1000000) [hF,dL]) ?_;rintro av X κ ⟨rfl,rfl,rfl⟩;simp (maxSteps:=1000000) [hF,dL]
     cases hh:hasN (ordL L m) t with
     | true =>
      have hc:putP L t m = (L,10):=by unfold putP;rw [if_neg h0,if_neg hd',if_pos (.inr hh)]
      repeat first|refine n1 ?_|((first|refine rg 8 [] [8] [] ?_|refine nc ?_);simp (maxSteps:=1000000) [hF,hh])
      (try refine nr ?_);(repeat first|refine nb_ ?_|refine nl_ ?_);refine endK.o [8] [0] [(0,[.d])] ?_;simp [hF,retK,covers,mpre,dL,hc]
     | false =>
      have h3:¬ ((m:Int) = t∨hasN (ordL L m) t = true):=by rw [hh];simp [hmt]
      obtain ⟨r2,B2⟩:=hB t rfl ht hkm.1 hkm.2 (by rw [hth];exact hd) hmt hh
      have hwe:=withP_eq ht ((m:Int) :: L[t].bef)
      have hset:=dThs_set L t { L[t] with bef:=(m:Int) :: L[t].bef }
      have hfl:flatOs [(true,[(m:Int)]),(false,L[t].bef)] = (m:Int) :: L[t].bef:=by simp [flatOs]
      repeat first|refine n1 ?_|refine n2 ?_|((first|refine rg 9 [0,2,9] [0,2,9,12] [] ?_|refine rg 10 [0,2,9,12] [0,9,12] [] ?_|refine nc ?_);simp (maxSteps:=1000000) [hF,hh,hn,ht])
      refine (concat_ok true [(true,[(m:Int)]),(false,L[t].bef)] (by simp) (by simp [sizeOs]) (by simp [sizeOs];omega)).go [(2,[])] (by simp (maxSteps:=1000000) [hF,dOs,sq,dInts_one,hfl,hn,ht,hset]) ?_;rintro av X κ ⟨rfl,rfl,rfl⟩;simp (maxSteps:=1000000) [hF,dOs,sq,dInts_one,hfl,hn,ht,hset]
      repeat first|refine n1 ?_|refine n3 ?_|((first|refine rg 11 [0,9,12] [0,9,12,13] [] ?_|refine rg 12 [0,9,12,13] [0,9,12,13,69,70] [] ?_);simp (maxSteps:=1000000) [hF])
      refine VS.widen [(0,[.d])] (by simp [covers,mpre]) ?_
      refine VS.pick [0,9,12,13,69,70] [0,3] (by simp [hF]) ?_;simp [hF]
      have hw0:withP L t ((m:Int) :: L[t].bef) = withP L (t:Int).toNat ((m:Int) :: (thAt L t).bef):=by rw [hth];rfl
      rw [hth] at B2
      generalize hL2:withP L t ((m:Int) :: L[t].bef) = L2 at *
      have hl2:L2.length = L.length:=by rw [hwe];simp
      have ht2:t < L2.length:=by omega
      have hget2:L2[t] = { L[t] with bef:=(m:Int) :: L[t].bef }:=by simp [hwe]
      have hback:L2.set t L[t] = L:=by rw [hwe,List.set_set,List.set_getElem_self]
      have hn2:=dThs_nth ht2
      rw [hget2] at hn2
      have hset2:=dThs_set L2 t L[t]
      rw [hback] at hset2
      refine VS.rounds (fun n st=>∃ (i:Nat) (M:List (Int×List Int)),i + n = L.length∧MemoOk L2 M∧(∀ k:Nat,k < i→∃ o,ordOf L2 k = some o) ∧
       st = ⟨[(0,.ptr 0 [.d]),(9,.ptr 0 [.d,.f 0,.i t,.f 4]),(12,.imm 1 (dInts L[t].bef) false),(13,.mp 1 []),(69,avInt L.length),(70,avInt i)],[dL L2,dM M],[(0,[.d])],[]⟩)
       ⟨L.length,0,[],by omega,(fun k o h=>by cases h),(fun k h=>by omega),by simp [dL,dM,hwe]⟩ ?_
      rintro n st ⟨i,M,hin,hM,hall,rfl⟩
      repeat first|refine n1 ?_|((first|refine rg 13 [0,9,12,13,69,70] [0,9,12,13,69,70,71] [] ?_|refine nc ?_);simp (maxSteps:=1000000) [hF])
      refine ⟨fun hlt=>?_,fun hge=>?_⟩
      ·have hi2:i < L2.length:=by omega
       cases ho:ordOf L2 i with
       | some o =>
        have hf:=Meets.mono (find_ok B2 i hi2 M hM) (R':=fun av X κ=>∃ M,MemoOk L2 M∧av = .tup (.cons (.imm 1 (dInts o) false) (.cons (avBool true) .nil))∧X = [dL L2,dM M]∧κ = [(1,[.i 0])])
         fun av X κ ⟨M,h1,h2,h3,h4⟩=>⟨M,h1,by rw [ho] at h4;exact h4,h2,h3⟩
        repeat first|refine n1 ?_|refine n2 ?_|refine n3 ?_|((first|refine rg 14 [0,9,12,13,69,70] [0,9,12,13,14,69,70] [] ?_|refine rg 15 [0,9,12,13,14,69,70] [0,9,12,13,16,69,70] [] ?_);simp (maxSteps:=1000000) [hF])
        refine (hf).go [(0,[]),(1,[])] (by simp (maxSteps:=1000000) [hF,dL,dM]) ?_;rintro av X κ ⟨M,hM,rfl,rfl,rfl⟩;simp (maxSteps:=1000000) [hF,dL,dM]
        repeat first|refine n1 ?_|refine n2 ?_|refine n4 ?_|refine n5 ?_|refine n6 ?_|((first|refine rg 16 [0,9,12,13,16,69,70] [0,9,12,13,69,70,81] [] ?_|refine rg 19 [0,9,12,13,69,70] [0,9,12,13,69,70] [] ?_|refine nc ?_);simp (maxSteps:=1000000) [hF])
        refine nextK.of [0,9,12,13,69,70] [0,1] (n - 1) (by omega) (by simp [hF]) ?_
        refine ⟨i + 1,M,by omega,hM,fun k hk=>?_,?_⟩
        ·rcases Nat.lt_or_ge k i with h | h
         ·exact hall k h
         ·obtain rfl:k = i:=by omega
          exact ⟨o,ho⟩
        ·simp [dL,dM]
         exact IntWalk.i64_in _ (by omega)
       | none =>
        have hc:putP L t m = (L,10):=by
         unfold putP
         rw [if_neg h0,if_neg hd',if_neg h3,←hw0,if_neg]
         intro h
         obtain ⟨o,h⟩:=h i (by omega)
         rw [ho] at h;cases h
        have hf:=Meets.mono (find_ok B2 i hi2 M hM) (R':=fun av X κ=>∃ M,MemoOk L2 M∧av = .tup (.cons (.nils 1) (.cons (avBool false) .nil))∧X = [dL L2,dM M]∧κ = [(1,[.i 0])])
         fun av X κ ⟨M,h1,h2,h3,h4⟩=>⟨M,h1,by rw [ho] at h4;exact h4,h2,h3⟩
        repeat first|refine n1 ?_|refine n2 ?_|refine n3 ?_|((first|refine rg 14 [0,9,12,13,69,70] [0,9,12,13,14,69,70] [] ?_|refine rg 15 [0,9,12,13,14,69,70] [0,9,12,13,16,69,70] [] ?_);simp (maxSteps:=1000000) [hF])
        refine (hf).go [(0,[]),(1,[])] (by simp (maxSteps:=1000000) [hF,dL,dM]) ?_;rintro av X κ ⟨M,hM,rfl,rfl,rfl⟩;simp (maxSteps:=1000000) [hF,dL,dM]
        repeat first|refine n1 ?_|((first|refine rg 16 [0,9,12,13,16,69,70] [0,9,12,13,69,70,81] [] ?_|refine rg 17 [9,12] [] [] ?_|refine rg 18 [] [8] [] ?_|refine nc ?_);simp (maxSteps:=1000000) [hF,dL,hn2,ht2,hset2])
        (try refine nr ?_);(repeat first|refine nb_ ?_|refine nl_ ?_);refine endK.o [8] [0] [(0,[.d])] ?_;simp [hF,retK,covers,mpre,dL,hc]
      ·obtain rfl:i = L.length:=by omega
       have hc:putP L t m = (L2,0):=by
        unfold putP
        rw [if_neg h0,if_neg hd',if_neg h3,←hw0,if_pos hall]
       repeat first|refine n1 ?_|refine n7 ?_|((refine rg 20 [] [8] [] ?_);simp (maxSteps:=1000000) [hF])
       (try refine nr ?_);(repeat first|refine nb_ ?_|refine nl_ ?_);refine endK.o [8] [0] [(0,[.d])] ?_;simp [hF,retK,covers,mpre,dL,hc]
theorem prepend_ok {L:List Th} (W:WFL L) (t m:Int) (hB:∀ t':Nat,t = t'→t' < L.length→val L m = true→(thAt L m).kind = 1→hasN (thAt L t).bef m = false→m≠t→hasN (ordL L m) t = false→∃ r,Base (withP L t' (m :: (thAt L t).bef)) r) :
  Meets Tryz.prog 64 [dL L] (.cons (.ptr 0 [.d]) (.cons (avInt t) (.cons (avInt m) .nil)))
  fun av X κ=>av = avInt (putP L t m).2∧X = [dL (putP L t m).1]∧κ = [(0,[.d])]:=by
 refine fb Tryz.func64 Tryz.ntmps64 [.tmp 6] fun w0 I0 F0 hF=>?_
 repeat first|refine n1 ?_|((first|refine rg 0 [0,1,2] [0,1,2] [] ?_|refine rg 1 [0,1,2] [6] [] ?_);simp (maxSteps:=1000000) [hF])
 refine (putP_ok W t m hB).go [(0,[])] (by simp (maxSteps:=1000000) [hF,dL]) ?_;rintro av X κ ⟨rfl,rfl,rfl⟩;simp (maxSteps:=1000000) [hF,dL]
 repeat first|refine n1 ?_
 (try refine nr ?_);(repeat first|refine nb_ ?_|refine nl_ ?_);refine endK.o [6] [0] [(0,[.d])] ?_;simp [hF,retK,covers,mpre,dL]
end Go.Proofs.YtbhigdljojlhnaaGreat

/- A lineage's laws, plainly. -/
namespace Go.Proofs.YtbhigdljojlhnaaGreat
set_option linter.all false
open Go.Vc Go.Proofs
def edge (x:Th) (u:Int):Prop:=u∈x.bef∨u∈parents x
inductive Reach (L:List Th):Int→Int→Prop
 | refl (t:Int):Reach L t t
 | step {t:Nat} {x:Th} {u v:Int}:L[t]? = some x→edge x u→Reach L u v→Reach L t v
theorem ord_parts {L:List Th} {r:Int→Nat} (B:Base L r) {t:Nat} {x:Th} (hx:L[t]? = some x) {o:List Int} (h:ordOf L t = some o) :
  ∃ front behind,mergedF (ordOf L) x.bef = some front∧mergedF (ordOf L) (parents x) = some behind∧o = front ++ [(t:Int)] ++ behind.filter fun v=>!hasN front v:=by
 rw [ordOf_step B hx] at h
 split at h
 ·cases h
 ·rename_i front hf
  split at h
  ·cases h
  ·rename_i behind hb
   cases h
   exact ⟨front,behind,hf,hb,rfl⟩
section
variable {L:List Th} (W:WFL L)
include W
theorem ordL_spec {t:Nat} (ht:t < L.length):(ordL L t).Nodup∧(t:Int)∈ordL L t∧∀ v∈ordL L t,0≤v∧v < L.length:=by
 obtain ⟨r,B⟩:=W.base
 obtain ⟨h1,h2,h3⟩:=ordOf_spec B ht (W.ord ht)
 exact ⟨h1,h2,fun v hv=>⟨(h3 v hv).1,(h3 v hv).2.1⟩⟩
theorem parts {t:Nat} {x:Th} (hx:L[t]? = some x):∃ front behind,mergedF (ordOf L) x.bef = some front∧mergedF (ordOf L) (parents x) = some behind∧ordL L t = front ++ [(t:Int)] ++ behind.filter fun v=>!hasN front v:=by
 obtain ⟨r,B⟩:=W.base
 exact ord_parts B hx (W.ord (List.getElem?_eq_some_iff.1 hx).1)
theorem merged_of {l o:List Int} (h:mergedF (ordOf L) l = some o) (hl:l.Nodup) (hv:∀ u∈l,0≤u∧u < L.length) :
  o.Nodup∧l.Sublist o∧(∀ t∈l,(ordL L t).Sublist o)∧∀ v∈o,v∈l∨∃ t∈l,v∈ordL L t:=by
 have ho:∀ u∈l,ordOf L u = some (ordL L u):=fun u hu=>by
  have:=hv u hu
  obtain ⟨k,rfl⟩:∃ k:Nat,u = k:=⟨u.toNat,by omega⟩
  exact W.ord (by omega)
 obtain ⟨h1,h2,h3,h4⟩:=merged_spec h hl fun u hu ou hou=>by
  rw [ho u hu] at hou;cases hou
  have:=hv u hu
  obtain ⟨k,rfl⟩:∃ k:Nat,u = k:=⟨u.toNat,by omega⟩
  exact (ordL_spec W (by omega)).1
 refine ⟨h1,h2,fun t ht=>?_,fun v hvo=>?_⟩
 ·obtain ⟨ot,q1,q2⟩:=h3 t ht
  rw [ho t ht] at q1;cases q1;exact q2
 ·rcases h4 v hvo with h | ⟨t,ht,ot,q1,q2⟩
  ·exact .inl h
  ·rw [ho t ht] at q1;cases q1;exact .inr ⟨t,ht,q2⟩
theorem edge_val {t:Nat} {x:Th} (hx:L[t]? = some x) {u:Int} (hu:edge x u):0≤u∧u < L.length:=by
 obtain ⟨r,B⟩:=W.base
 have:=B.edge _ _ hx u hu
 exact ⟨this.1,this.2.1⟩
theorem mem_ordL {t:Nat} {x:Th} (hx:L[t]? = some x) (v:Int):v∈ordL L t↔v = t∨∃ u,edge x u∧v∈ordL L u:=by
 obtain ⟨r,B⟩:=W.base
 obtain ⟨front,behind,hf,hb,ho⟩:=parts W hx
 obtain ⟨f1,f2,f3,f4⟩:=merged_of W hf (B.nb _ _ hx) (fun u hu=>edge_val W hx (.inl hu))
 obtain ⟨b1,b2,b3,b4⟩:=merged_of W hb (B.np _ _ hx) (fun u hu=>edge_val W hx (.inr hu))
 have self:∀ u,edge x u→u∈ordL L u:=fun u hu=>by
  have:=edge_val W hx hu
  obtain ⟨k,rfl⟩:∃ k:Nat,u = k:=⟨u.toNat,by omega⟩
  exact (ordL_spec W (by omega)).2.1
 have inF:∀ w,w∈front∨w∈behind→w∈ordL L t:=fun w hw=>by
  rw [ho]
  by_cases hwf:w∈front
  ·simp [hwf]
  ·have hwb:w∈behind:=hw.resolve_left hwf
   have:hasN front w = false:=by
    cases h:hasN front w with
    | false=>rfl
    | true=>exact absurd (hasN_iff.1 h) hwf
   simp [hwb,this]
 constructor
 ·intro hv
  rw [ho] at hv
  simp only [List.mem_append,List.mem_singleton,List.mem_filter] at hv
  rcases hv with (hv | hv) | ⟨hv,_⟩
  ·rcases f4 v hv with h | ⟨u,hu,h⟩
   ·exact .inr ⟨v,.inl h,self v (.inl h)⟩
   ·exact .inr ⟨u,.inl hu,h⟩
  ·exact .inl hv
  ·rcases b4 v hv with h | ⟨u,hu,h⟩
   ·exact .inr ⟨v,.inr h,self v (.inr h)⟩
   ·exact .inr ⟨u,.inr hu,h⟩
 ·rintro (rfl | ⟨u,hu,hv⟩)
  ·rw [ho];simp
  ·rcases hu with hu | hu
   ·exact inF v (.inl ((f3 u hu).subset hv))
   ·exact inF v (.inr ((b3 u hu).subset hv))
end
theorem ordOf_iff {L:List Th} {t:Int} {o:List Int}:ordOf L t = some o↔∃ n,ordF n L t = some o:=⟨ordOf_some,fun ⟨_,h⟩=>ordOf_of h⟩
theorem ordF_same {L L':List Th} {r:Int→Nat} (B:Base L r) (hs:∀ (t:Nat) (x:Th),L[t]? = some x→∃ x',L'[t]? = some x'∧x'.bef = x.bef∧parents x' = parents x) :
  ∀ (n:Nat) (t:Nat),t < L.length→ordF n L' t = ordF n L t
 | 0,_,_=>rfl
 | n + 1,t,ht=>by
  have hx:L[t]? = some L[t]:=List.getElem?_eq_getElem ht
  obtain ⟨x',hx',e1,e2⟩:=hs t _ hx
  have hg:∀ u,edge L[t] u→ordF n L' u = ordF n L u:=fun u hu=>by
   have:=B.edge _ _ hx u hu
   obtain ⟨k,rfl⟩:∃ k:Nat,u = k:=⟨u.toNat,by omega⟩
   exact ordF_same B hs n k (by omega)
  unfold ordF
  simp only [Int.toNat_natCast,hx,hx',e1,e2]
  rw [mergedF_congr fun u hu=>hg u (.inl hu),mergedF_congr fun u hu=>hg u (.inr hu)]
theorem ordOf_same {L L':List Th} {r:Int→Nat} (B:Base L r) (hs:∀ (t:Nat) (x:Th),L[t]? = some x→∃ x',L'[t]? = some x'∧x'.bef = x.bef∧parents x' = parents x) {t:Nat} (ht:t < L.length):ordOf L' t = ordOf L t:=by
 have h:=fun n=>ordF_same B hs n t ht
 apply Option.ext
 intro o
 rw [ordOf_iff,ordOf_iff]
 exact ⟨fun ⟨n,hn⟩=>⟨n,by rw [←h n];exact hn⟩,fun ⟨n,hn⟩=>⟨n,by rw [h n];exact hn⟩⟩
theorem merge_one {s:Int}:∀ (o:List Int) (f:Nat) (out:List Int) (l2:List Int),o.Nodup→s∈o→l2 = [s]→o.length + 1 < f→mergeF f [o,l2] out = some (out ++ o)
 | [],_,_,_,_,h,_,_=>by cases h
 | a :: o,0,_,_,_,_,_,hf=>by omega
 | a :: o,f + 1,out,l2,hn,hs,h2,hf=>by
  subst h2
  have hna:=(List.nodup_cons.1 hn).1
  have hf1:([a :: o,[s]]:List (List Int)).filter (fun x=>!nul x) = [a :: o,[s]]:=by simp [nul]
  unfold mergeF
  rw [hf1,if_neg (by simp)]
  have hit:inTails [a :: o,[s]] a = false:=by
   simp only [inTails,List.any_cons,List.tail_cons,List.any_nil,Bool.or_false]
   have:hasN o a = false:=by
    cases h:hasN o a with
    | false=>rfl
    | true=>exact absurd (hasN_iff.1 h) hna
   rw [this];rfl
  have hfind:([a :: o,[s]]:List (List Int)).find? (fun x=>!inTails [a :: o,[s]] (hd x)) = some (a :: o):=by
   rw [List.find?_cons_of_pos];simp [hd,hit]
  rw [hfind]
  have hha:hd (a :: o) = a:=rfl
  have hd1:dropHd a (a :: o) = o:=if_pos hha
  simp only [hha,List.map_cons,List.map_nil,hd1]
  by_cases h:s = a
  ·subst h
   have hd2:dropHd s [s] = []:=if_pos (show hd [s] = s from rfl)
   rw [hd2]
   have hrest:∀ (p:List Int) (g:Nat) (w:List Int),p.Nodup→p.length < g→mergeF g [p,[]] w = some (w ++ p):=by
    intro p
    induction p with
    | nil =>
     intro g w _ hg
     obtain ⟨g,rfl⟩:∃ g',g = g' + 1:=⟨g - 1,by omega⟩
     simp [mergeF,nul]
    | cons b p ih =>
     intro g w hp hg
     obtain ⟨g,rfl⟩:∃ g',g = g' + 1:=⟨g - 1,by omega⟩
     have hnb:=(List.nodup_cons.1 hp).1
     have hf2:([b :: p,[]]:List (List Int)).filter (fun x=>!nul x) = [b :: p]:=by simp [nul]
     have hit2:inTails [b :: p] b = false:=by
      simp only [inTails,List.any_cons,List.tail_cons,List.any_nil,Bool.or_false]
      cases h:hasN p b with
      | false=>rfl
      | true=>exact absurd (hasN_iff.1 h) hnb
     unfold mergeF
     rw [hf2,if_neg (by simp)]
     have hfind2:([b :: p]:List (List Int)).find? (fun x=>!inTails [b :: p] (hd x)) = some (b :: p):=by
      rw [List.find?_cons_of_pos];simp [hd,hit2]
     rw [hfind2]
     simp only [hd,List.headD_cons,List.map_cons,List.map_nil,dropHd,if_true,List.tail_cons]
     have hone:∀ (q:List Int) (g:Nat) (w:List Int),q.Nodup→q.length < g→mergeF g [q] w = some (w ++ q):=by
      intro q
      induction q with
      | nil =>
       intro g w _ hg
       obtain ⟨g,rfl⟩:∃ g',g = g' + 1:=⟨g - 1,by omega⟩
       simp [mergeF,nul]
      | cons c q ih2 =>
       intro g w hq hg
       obtain ⟨g,rfl⟩:∃ g',g = g' + 1:=⟨g - 1,by omega⟩
       have hnc:=(List.nodup_cons.1 hq).1
       have hf3:([c :: q]:List (List Int)).filter (fun x=>!nul x) = [c :: q]:=by simp [nul]
       have hit3:inTails [c :: q] c = false:=by
        simp only [inTails,List.any_cons,List.tail_cons,List.any_nil,Bool.or_false]
        cases h:hasN q c with
        | false=>rfl
        | true=>exact absurd (hasN_iff.1 h) hnc
       unfold mergeF
       rw [hf3,if_neg (by simp)]
       have hfind3:([c :: q]:List (List Int)).find? (fun x=>!inTails [c :: q] (hd x)) = some (c :: q):=by
        rw [List.find?_cons_of_pos];simp [hd,hit3]
       rw [hfind3]
       simp only [hd,List.headD_cons,List.map_cons,List.map_nil,dropHd,if_true,List.tail_cons]
       rw [ih2 g (w ++ [c]) (List.nodup_cons.1 hq).2 (by simp at hg;omega)]
       simp
     rw [hone p g (w ++ [b]) (List.nodup_cons.1 hp).2 (by simp at hg;omega)]
     simp
   rw [hrest o f (out ++ [s]) (List.nodup_cons.1 hn).2 (by simp at hf;omega)]
   simp
  ·have hso:s∈o:=by
    rcases List.mem_cons.1 hs with h' | h'
    ·exact absurd h' h
    ·exact h'
   have hd2:dropHd a [s] = [s]:=if_neg (show ¬ hd [s] = a from h)
   rw [hd2]
   rw [merge_one o f (out ++ [a]) [s] (List.nodup_cons.1 hn).2 hso rfl (by simp at hf;omega)]
   simp
theorem mergeOf_one {o:List Int} {s:Int} (hn:o.Nodup) (hs:s∈o):mergeOf [o,[s]] = some o:=by
 unfold mergeOf
 rw [merge_one o _ [] [s] hn hs rfl (by simp [total])]
 rfl
theorem mergeOf_nil:mergeOf [[]] = some []:=by
 simp [mergeOf,mergeF,total,nul]
end Go.Proofs.YtbhigdljojlhnaaGreat

/- What is kept by all deeds. -/
namespace Go.Proofs.YtbhigdljojlhnaaGreat
set_option linter.all false
open Go.Vc Go.Proofs
structure OK (L:List Th):Prop where
 wf:WFL L
 root:∀ x,L[0]? = some x→x.kind = 0∧x.sup < 0
 sup:∀ (t:Nat) (x:Th),L[t]? = some x→0≤x.sup→x.sup < L.length∧(thAt L x.sup).kind≠1
 ins:∀ (t:Nat) (x:Th),L[t]? = some x→∀ u,u∈x.ins∨u∈x.bef→(thAt L u).kind = 1
 own:∀ (t:Nat) (x:Th),L[t]? = some x→0≤x.own→x.own < L.length∧(thAt L x.own).kind = 2 ∧
  (0≤x.sup→0≤(thAt L x.sup).own∧(thAt L x.own).sup = (thAt L x.sup).own)∧(x.sup < 0→(thAt L x.own).sup = 0)
 mod:∀ (t:Nat) (x:Th),L[t]? = some x→x.kind = 1→x.sup < 0
theorem OK.len {L:List Th} (h:OK L):L.length≤1000:=h.wf.base.elim fun _ B=>B.len
theorem thAt_get {L:List Th} {t:Nat} {x:Th} (h:L[t]? = some x):thAt L t = x:=by
 obtain ⟨h1,h2⟩:=List.getElem?_eq_some_iff.1 h
 rw [thAt_eq h1,h2]
theorem get_thAt {L:List Th} {u:Int} (h0:0≤u) (h1:u < L.length):L[u.toNat]? = some (thAt L u):=by
 obtain ⟨k,rfl⟩:∃ k:Nat,u = k:=⟨u.toNat,by omega⟩
 rw [thAt_eq (by omega)]
 exact List.getElem?_eq_getElem (by omega)
theorem nodup_len:∀ (l m:List Int),l.Nodup→(∀ x∈l,x∈m)→l.length≤m.length
 | [],_,_,_=>by simp
 | a :: l,m,hn,h=>by
  have h1:=nodup_len l (m.erase a) (List.nodup_cons.1 hn).2 fun x hx=>by
   have hne:x≠a:=fun e=>by subst e;exact (List.nodup_cons.1 hn).1 hx
   exact (List.mem_erase_of_ne hne).2 (h x (List.mem_cons_of_mem _ hx))
  have hm:=h a List.mem_cons_self
  rw [List.length_erase_of_mem hm] at h1
  have:=List.length_pos_of_mem hm
  simp only [List.length_cons];omega
noncomputable def rk (L:List Th) (t:Int):Nat:=if val L t = true then (ordL L t).length else 0
theorem rk_eq {L:List Th} {t:Int} (h0:0≤t) (h1:t < L.length):rk L t = (ordL L t).length:=by
 unfold rk;rw [if_pos (by simp [val,h0,h1])]
theorem rk_base {L:List Th} (W:WFL L):Base L (rk L):=by
 obtain ⟨r,B⟩:=W.base
 refine ⟨fun t x hx u hu=>?_,B.nb,B.np,B.len⟩
 have ht:=(List.getElem?_eq_some_iff.1 hx).1
 have hb:=B.edge _ _ hx u hu
 refine ⟨hb.1,hb.2.1,?_⟩
 obtain ⟨k,rfl⟩:∃ k:Nat,u = k:=⟨u.toNat,by omega⟩
 rw [rk_eq (by omega) (by omega),rk_eq (by omega) (by omega)]
 obtain ⟨h1,h2,h3⟩:=ordOf_spec B (t:=k) (by omega) (W.ord (by omega))
 have hnt:(t:Int)∉ordL L k:=fun hm=>by
  rcases (h3 _ hm).2.2 with h | h
  ·have:=hb.2.2
   rw [h] at this;omega
  ·have:=hb.2.2
   omega
 have:=nodup_len ((t:Int) :: ordL L k) (ordL L t) (List.nodup_cons.2 ⟨hnt,h1⟩) fun v hv=>by
  rcases List.mem_cons.1 hv with rfl | hv
  ·exact (ordL_spec W ht).2.1
  ·exact (mem_ordL W hx v).2 (.inr ⟨k,hu,hv⟩)
 simp only [List.length_cons] at this;omega
theorem rk_le {L:List Th} (W:WFL L) (t:Int):rk L t≤1000:=by
 unfold rk
 split
 ·rename_i h
  obtain ⟨k,rfl,hk⟩:=val_nat h
  obtain ⟨r,B⟩:=W.base
  exact ord_len B hk (W.ord hk)
 ·omega
theorem OK.ups {L:List Th} (h:OK L):Ups L (rk L):=by
 refine ⟨fun t x hx h0=>?_,h.len⟩
 have:=(rk_base h.wf).edge _ _ hx x.sup (.inr (by simp [parents,h0]))
 exact ⟨this.2.1,this.2.2⟩
theorem grow_wf {L M:List Th} (h:OK L) (hl:M.length = L.length) (hs:∀ (t:Nat) (x:Th),L[t]? = some x→∃ x',M[t]? = some x'∧x'.bef = x.bef∧x'.ins = x.ins∧x'.sup = x.sup∧x'.kind = x.kind) {x:Th} (hb:x.bef = []) (hi:x.ins = [])
  (hroom:L.length + 1≤1000) (hsup:0≤x.sup→x.sup < L.length):WFL (M ++ [x])∧∀ t:Nat,t < L.length→ordOf (M ++ [x]) t = ordOf L t:=by
 have B:=rk_base h.wf
 have hsame:∀ (t:Nat) (y:Th),L[t]? = some y→∃ y',(M ++ [x])[t]? = some y'∧y'.bef = y.bef∧parents y' = parents y:=fun t y hy=>by
  obtain ⟨y',e1,e2,e3,e4,_⟩:=hs t y hy
  refine ⟨y',?_,e2,by simp only [parents,e3,e4]⟩
  rw [List.getElem?_append_left (List.getElem?_eq_some_iff.1 e1).1];exact e1
 have hord:∀ t:Nat,t < L.length→ordOf (M ++ [x]) t = ordOf L t:=fun t ht=>ordOf_same B hsame ht
 have hnew:(M ++ [x])[L.length]? = some x:=by rw [←hl];simp
 have hget:∀ (t:Nat) (y:Th),(M ++ [x])[t]? = some y→(t < L.length∧∃ z,L[t]? = some z∧y.bef = z.bef∧parents y = parents z)∨(t = L.length∧y = x):=fun t y hy=>by
  rcases Nat.lt_or_ge t L.length with ht | ht
  ·obtain ⟨y',e1,e2,e3⟩:=hsame t _ (List.getElem?_eq_getElem ht)
   rw [hy] at e1;cases e1
   exact .inl ⟨ht,_,List.getElem?_eq_getElem ht,e2,e3⟩
  ·have h1:=(List.getElem?_eq_some_iff.1 hy).1
   simp only [List.length_append,List.length_singleton] at h1
   obtain rfl:t = L.length:=by omega
   rw [hnew] at hy
   exact .inr ⟨rfl,(Option.some.inj hy).symm⟩
 let r':Int→Nat:=fun u=>if u = L.length then 1001 else rk L u
 have hr':∀ u:Int,0≤u→u < L.length→r' u = rk L u:=fun u h0 h1=>by simp only [r'];rw [if_neg (by omega)]
 have B':Base (M ++ [x]) r':=by
  refine ⟨fun t y hy u hu=>?_,fun t y hy=>?_,fun t y hy=>?_,by simp;omega⟩
  ·rcases hget t y hy with ⟨ht,z,hz,e1,e2⟩ | ⟨rfl,rfl⟩
   ·have:=B.edge t z hz u (by rw [←e1,←e2];exact hu)
    refine ⟨this.1,by simp;omega,?_⟩
    rw [hr' u this.1 this.2.1,hr' t (by omega) (by omega)]
    exact this.2.2
   ·have hu':u = y.sup∧0≤y.sup:=by
     rcases hu with hu | hu
     ·rw [hb] at hu;cases hu
     ·simp only [parents,hi,List.nil_append] at hu
      split at hu
      ·rename_i h0;exact ⟨by simpa using hu,h0⟩
      ·cases hu
    obtain ⟨rfl,h0⟩:=hu'
    have h1:=hsup h0
    refine ⟨h0,by simp;omega,?_⟩
    rw [hr' _ h0 h1]
    have:=rk_le h.wf y.sup
    simp only [r',if_true];omega
  ·rcases hget t y hy with ⟨ht,z,hz,e1,e2⟩ | ⟨rfl,rfl⟩
   ·rw [e1];exact B.nb t z hz
   ·rw [hb];exact List.nodup_nil
  ·rcases hget t y hy with ⟨ht,z,hz,e1,e2⟩ | ⟨rfl,rfl⟩
   ·rw [e2];exact B.np t z hz
   ·simp only [parents,hi,List.nil_append];split <;> simp
 refine ⟨⟨⟨r',B'⟩,fun t ht=>?_⟩,hord⟩
 simp only [List.length_append,List.length_singleton] at ht
 rcases Nat.lt_or_ge t L.length with h1 | h1
 ·rw [hord t h1];exact h.wf.full t h1
 ·obtain rfl:t = L.length:=by omega
  rw [ordOf_step B' hnew,hb]
  have e1:mergedF (ordOf (M ++ [x])) [] = some []:=by
   show mergeOf ([] ++ [[]]) = some []
   exact mergeOf_nil
  rw [e1]
  simp only
  by_cases h0:0≤x.sup
  ·have h1:=hsup h0
   obtain ⟨k,hk⟩:∃ k:Nat,x.sup = k:=⟨x.sup.toNat,by omega⟩
   have hkl:k < L.length:=by omega
   have hp:parents x = [(k:Int)]:=by simp [parents,hi,h0,hk]
   have hok:=h.wf.ord hkl
   obtain ⟨s1,s2,_⟩:=ordL_spec h.wf hkl
   have e2:mergedF (ordOf (M ++ [x])) [(k:Int)] = some (ordL L k):=by
    unfold mergedF ordersOf
    rw [hord k hkl,hok]
    show mergeOf [ordL L k,[(k:Int)]] = _
    exact mergeOf_one s1 s2
   rw [hp,e2]
   exact ⟨_,rfl⟩
  ·have hp:parents x = []:=by simp [parents,hi,h0]
   rw [hp,e1]
   exact ⟨_,rfl⟩
theorem add_OK {L:List Th} (h:OK L) (hpos:0 < L.length) {k s o:Int} (hroom:L.length + 1≤1000) (hs:0≤s→s < L.length∧(thAt L s).kind≠1) (hk:k = 1→s < 0) :
  OK (L ++ [newTh k s o])∧∀ t:Nat,t < L.length→ordOf (L ++ [newTh k s o]) t = ordOf L t:=by
 obtain ⟨W,hord⟩:=grow_wf h rfl (fun t x hx=>⟨x,hx,rfl,rfl,rfl,rfl⟩) (x:=newTh k s o) rfl rfl hroom (fun h0=>(hs h0).1)
 have hth:∀ u:Int,0≤u→u < L.length→thAt (L ++ [newTh k s o]) u = thAt L u:=fun u h0 h1=>by
  obtain ⟨j,rfl⟩:∃ j:Nat,u = j:=⟨u.toNat,by omega⟩
  rw [thAt_eq (L:=L) (by omega),thAt_eq (L:=L ++ [newTh k s o]) (by simp;omega),List.getElem_append_left]
 have hget:∀ (t:Nat) (y:Th),(L ++ [newTh k s o])[t]? = some y→(t < L.length∧L[t]? = some y)∨(t = L.length∧y = newTh k s o):=fun t y hy=>by
  rcases Nat.lt_or_ge t L.length with ht | ht
  ·rw [List.getElem?_append_left ht] at hy;exact .inl ⟨ht,hy⟩
  ·have h1:=(List.getElem?_eq_some_iff.1 hy).1
   simp only [List.length_append,List.length_singleton] at h1
   obtain rfl:t = L.length:=by omega
   simp at hy
   exact .inr ⟨rfl,hy.symm⟩
 have hval:∀ (t:Nat) (y:Th),L[t]? = some y→∀ u,u∈y.ins∨u∈y.bef→0≤u∧u < L.length:=fun t y hy u hu=>edge_val h.wf hy (by
  rcases hu with hu | hu
  ·exact .inr (by simp [parents,hu])
  ·exact .inl hu)
 refine ⟨⟨W,fun x hx=>?_,fun t x hx h0=>?_,fun t x hx u hu=>?_,fun t x hx h0=>?_,fun t x hx h1=>?_⟩,hord⟩
 ·rcases hget 0 x hx with ⟨_,hx⟩ | ⟨h0,_⟩
  ·exact h.root x hx
  ·omega
 ·rcases hget t x hx with ⟨_,hx⟩ | ⟨_,rfl⟩
  ·have:=h.sup t x hx h0
   exact ⟨by simp;omega,by rw [hth _ h0 this.1];exact this.2⟩
  ·have h0':0≤s:=h0
   have:=hs h0'
   exact ⟨by simp [newTh];omega,by rw [show (newTh k s o).sup = s from rfl,hth s h0' this.1];exact this.2⟩
 ·rcases hget t x hx with ⟨_,hx⟩ | ⟨_,rfl⟩
  ·have hv:=hval t x hx u hu
   rw [hth u hv.1 hv.2];exact h.ins t x hx u hu
  ·rcases hu with hu | hu <;> cases hu
 ·rcases hget t x hx with ⟨_,hx⟩ | ⟨_,rfl⟩
  ·obtain ⟨q1,q2,q3,q4⟩:=h.own t x hx h0
   refine ⟨by simp;omega,by rw [hth _ h0 q1];exact q2,fun h1=>?_,fun h1=>?_⟩
   ·have hsv:=(h.sup t x hx h1).1
    rw [hth _ h1 hsv,hth _ h0 q1];exact q3 h1
   ·rw [hth _ h0 q1];exact q4 h1
  ·simp only [newTh] at h0;omega
 ·rcases hget t x hx with ⟨_,hx⟩ | ⟨_,rfl⟩
  ·exact h.mod t x hx h1
  ·exact hk h1
theorem L0_OK:OK L0:=by
 have hx:∀ (t:Nat) (x:Th),L0[t]? = some x→t = 0∧x = ⟨0,-1,-1,-1,[],[]⟩:=fun t x h=>by
  cases t with
  | zero=>simp [L0] at h;exact ⟨rfl,h.symm⟩
  | succ t=>simp [L0] at h
 have B:Base L0 (fun _=>0):=⟨fun t x h u hu=>by obtain ⟨rfl,rfl⟩:=hx t x h;simp [parents] at hu,fun t x h=>by obtain ⟨rfl,rfl⟩:=hx t x h;simp,fun t x h=>by obtain ⟨rfl,rfl⟩:=hx t x h;simp [parents],by simp [L0]⟩
 refine ⟨⟨⟨_,B⟩,fun t ht=>?_⟩,fun x h=>?_,fun t x h h0=>?_,fun t x h u hu=>?_,fun t x h h0=>?_,fun t x h h1=>?_⟩
 ·have ht0:t = 0:=by simp [L0] at ht;exact ht
  subst ht0
  refine ⟨[0],ordOf_of (n:=1) ?_⟩
  unfold ordF
  simp only [L0]
  have e1:∀ g,mergedF g [] = some []:=fun g=>by
   show mergeOf ([] ++ [[]]) = some []
   exact mergeOf_nil
  simp [e1,parents]
 ·obtain ⟨_,rfl⟩:=hx 0 x h;exact ⟨rfl,by decide⟩
 ·obtain ⟨_,rfl⟩:=hx t x h;simp at h0
 ·obtain ⟨_,rfl⟩:=hx t x h;simp at hu
 ·obtain ⟨_,rfl⟩:=hx t x h;simp at h0
 ·obtain ⟨_,rfl⟩:=hx t x h;simp at h1
end Go.Proofs.YtbhigdljojlhnaaGreat

/- A copy of a lineage. -/
namespace Go.Proofs.YtbhigdljojlhnaaGreat
set_option linter.all false
open Go.Vc Go.Proofs
set_option linter.unusedSimpArgs false
set_option linter.unusedVariables false
set_option maxRecDepth 100000
set_option maxHeartbeats 4000000
attribute [local irreducible] CallW EqK
theorem dThs_same {L:List Th} {i:Nat} (h:i < L.length):(dThs L).setN i (.agg (.cons (.val (.int .i64 L[i].kind)) (.cons (.val (.int .i64 L[i].sup)) (.cons (.val (.int .i64 L[i].obj)) (.cons (.val (.int .i64 L[i].own)) (.cons (.sl false () 1 (dInts L[i].bef)) (.cons (.sl false () 1 (dInts L[i].ins)) .nil))))))) = dThs L:=by
 rw [dThs_set,List.set_getElem_self]
theorem clone_t (L:List Th) (hl:L.length≤1000) (hp:0 < L.length):Meets Tryz.prog 95 [dL L] (.cons (.sub 0 [.d,.f 0] 0 L.length false) .nil)
  fun av X κ=>av = .sub 1 [] 0 L.length false∧X = [dL L,.sl true () 6 (dThs L)]∧κ = []:=by
 have hz:¬ L.length = 0:=by omega
 refine fb Tryz.func95 Tryz.ntmps95 [.tmp 2] fun w0 I0 F0 hF=>?_
 repeat first|refine n1 ?_|refine n2 ?_|refine ⟨⟨by omega,by omega⟩,?_⟩|((first|refine rg 0 [0] [0] [] ?_|refine rg 1 [0] [0,4] [] ?_|refine rg 3 [0] [2] [] ?_|refine nc ?_);simp (maxSteps:=1000000) [hF,dL,hz])
 (try refine nr ?_);(repeat first|refine nb_ ?_|refine nl_ ?_);refine endK.o [2] [0,1] [] ?_;simp [hF,retK,covers,mpre,dL]
theorem copy_ok {L:List Th} (h:OK L) (hp:0 < L.length):Meets Tryz.prog 48 [dL L] (.cons (.ptr 0 [.d]) .nil)
  fun av X κ=>av = .ptr 1 [.d]∧X = [dL L,dL L]∧κ = []:=by
 have hl:=h.len
 have hz:¬ L.length = 0:=by omega
 refine fb Tryz.func48 Tryz.ntmps48 [.tmp 2] fun w0 I0 F0 hF=>?_
 repeat first|refine n1 ?_|((first|refine rg 0 [0] [0] [] ?_|refine rg 1 [0] [0,7] [] ?_);simp (maxSteps:=1000000) [hF])
 refine (len_ok L hl).go [(0,[])] (by simp (maxSteps:=1000000) [hF,dL,hz]) ?_;rintro av X κ ⟨rfl,rfl,rfl⟩;simp (maxSteps:=1000000) [hF,dL,hz]
 repeat first|refine n1 ?_|refine n2 ?_|((first|refine rg 3 [0] [3] [] ?_|refine nc ?_);simp (maxSteps:=1000000) [hF,dL])
 refine (clone_t L hl hp).go [(0,[])] (by simp (maxSteps:=1000000) [hF,dL]) ?_;rintro av X κ ⟨rfl,rfl,rfl⟩;simp (maxSteps:=1000000) [hF,dL]
 repeat first|refine n1 ?_|refine n3 ?_|((refine rg 4 [3] [3,19,20] [] ?_);simp (maxSteps:=1000000) [hF])
 refine VS.pick [3,19,20] [0,2] (by simp [hF]) ?_;simp [hF]
 refine VS.rounds (fun m st=>∃ (i:Nat),i + m = L.length∧st = ⟨[(3,.ptr 1 [.d]),(19,avInt L.length),(20,avInt i)],[dL L,dL L],[],[]⟩) ⟨L.length,0,by omega,by simp [dL]⟩ ?_
 rintro m st ⟨i,hi,rfl⟩
 repeat first|refine n1 ?_|((first|refine rg 5 [3,19,20] [3,19,20,21] [] ?_|refine nc ?_);simp (maxSteps:=1000000) [hF])
 refine ⟨fun hlt=>?_,fun hge=>?_⟩
 ·have hil:i < L.length:=by omega
  have hn:=dThs_nth hil
  have hset:=dThs_same hil
  obtain ⟨B,hb1,hb2⟩:∃ B:Nat,L[i].bef.length≤B∧L[i].ins.length≤B∧B≤1000:=by
   obtain ⟨r,B⟩:=h.wf.base
   have hx:L[i]? = some L[i]:=List.getElem?_eq_getElem hil
   have h1:=nodup_bound L.length (parents L[i]) (B.np _ _ hx) (fun u hu=>by have:=B.edge _ _ hx u (.inr hu);omega)
   have h2:=nodup_bound L.length L[i].bef (B.nb _ _ hx) (fun u hu=>by have:=B.edge _ _ hx u (.inl hu);omega)
   have h3:L[i].ins.length≤(parents L[i]).length:=by simp [parents]
   exact ⟨1000,by omega,by omega,by omega⟩
  repeat first|refine n1 ?_|refine n2 ?_|refine n3 ?_|((first|refine rg 6 [3,19,20] [3,4,19,20] [] ?_|(refine dr 7 8192 [3,4,19,20] [3,4,19,20] [] [⟨0,8,8388608,5⟩,⟨1,8388608,16777216,5⟩,⟨2,16777216,33554432,5⟩,⟨4,33554432,67108864,6⟩,⟨0,16,134217728,5⟩,⟨0,8,268435456,5⟩,⟨32,268435456,536870912,5⟩,⟨64,536870912,1073741824,5⟩,⟨128,1073741824,2147483648,6⟩,⟨0,16,4294967296,5⟩,⟨768,6442450944,8589934592,5⟩,⟨1024,8589934592,17179869184,5⟩,⟨2048,17179869184,34359738368,6⟩,⟨4096,34359738368,68719476736,0⟩,⟨16383,201326592,137438953472,5⟩,⟨32767,137438953472,274877906944,5⟩,⟨49151,343597383680,0,0⟩] (.take 0 (.take 1 (.take 2 (.take 3 (.take 4 (.take 5 (.take 6 (.take 7 (.take 8 (.take 9 (.take 10 (.take 11 (.take 12 (.fork (.alt 13 (.take 14 (.take 15 (.fork (.alt 16 (.done) (.nil))))) (.nil)))))))))))))))) (.run [0,1,2,3,4,5,6,7,8,9,10,11,12] (.chk 13 (.run [13,14,15,16] (.done)))) ?_;simp only [drs]));simp (maxSteps:=1000000) [hF,dL,hn,hil])
  refine (cloneI_ok false L[i].bef (by omega)).go [] (by simp (maxSteps:=1000000) [hF,dL,hn,hil,hset]) ?_;rintro av X κ ⟨rfl,rfl,rfl⟩;simp (maxSteps:=1000000) [hF,dL,hn,hil,hset]
  repeat first|(((refine dr 8 8192 [3,4,19,20] [3,19,20] [] [⟨0,8,549755813888,5⟩,⟨1,549755813888,1099511627776,5⟩,⟨2,1099511627776,2199023255552,5⟩,⟨4,2199023255552,4398046511104,6⟩,⟨0,16,8796093022208,5⟩,⟨0,8,17592186044416,5⟩,⟨32,17592186044416,35184372088832,5⟩,⟨64,35184372088832,70368744177664,5⟩,⟨128,70368744177664,140737488355328,6⟩,⟨0,16,281474976710656,5⟩,⟨768,422212465065984,562949953421312,5⟩,⟨1024,562949953421312,1125899906842624,5⟩,⟨2048,1125899906842624,2251799813685248,6⟩,⟨4096,2251799813685248,4503599627370496,0⟩,⟨16383,13194139533312,9007199254740992,5⟩,⟨32767,9007199254740992,18014398509481984,5⟩,⟨49151,22517998136852480,0,0⟩] (.take 0 (.take 1 (.take 2 (.take 3 (.take 4 (.take 5 (.take 6 (.take 7 (.take 8 (.take 9 (.take 10 (.take 11 (.take 12 (.fork (.alt 13 (.take 14 (.take 15 (.fork (.alt 16 (.done) (.nil))))) (.nil)))))))))))))))) (.run [0,1,2,3,4,5,6,7,8,9,10,11,12] (.chk 13 (.run [13,14,15,16] (.done)))) ?_;simp only [drs]));simp (maxSteps:=1000000) [hF,dL,hn,hil,hset])
  refine (cloneI_ok false L[i].ins (by omega)).go [] (by simp (maxSteps:=1000000) [hF,dL,hn,hil,hset]) ?_;rintro av X κ ⟨rfl,rfl,rfl⟩;simp (maxSteps:=1000000) [hF,dL,hn,hil,hset]
  repeat first|refine n4 ?_|refine n5 ?_|refine n6 ?_|((refine rg 9 [3,19,20] [3,19,20] [] ?_);simp (maxSteps:=1000000) [hF,hset])
  refine nextK.of [3,19,20] [0,1] (m - 1) (by omega) (by simp [hF]) ?_
  refine ⟨i + 1,by omega,?_⟩
  simp [dL]
  exact IntWalk.i64_in _ (by omega)
 ·repeat first|refine n1 ?_|refine n7 ?_|((refine rg 10 [3] [2] [] ?_);simp (maxSteps:=1000000) [hF])
  (try refine nr ?_);(repeat first|refine nb_ ?_|refine nl_ ?_);refine endK.o [2] [0,1] [] ?_;simp [hF,retK,covers,mpre,dL]
end Go.Proofs.YtbhigdljojlhnaaGreat

/- Includes and singletons of classes keep the laws. -/
namespace Go.Proofs.YtbhigdljojlhnaaGreat
set_option linter.all false
open Go.Vc Go.Proofs
theorem base_put {L:List Th} (h:OK L) {t:Nat} {x x':Th} (hx:L[t]? = some x) {m:Int} (hm0:0≤m) (hm1:m < L.length) (hh:hasN (ordL L m) t = false)
  (he:∀ u,edge x' u→u = m∨edge x u) (hnb:x'.bef.Nodup) (hnp:(parents x').Nodup):∃ r,Base (L.set t x') r:=by
 have B:=rk_base h.wf
 have ht:=(List.getElem?_eq_some_iff.1 hx).1
 obtain ⟨m,rfl⟩:∃ k:Nat,m = k:=⟨m.toNat,by omega⟩
 let r':Int→Nat:=fun u=>rk L u + if hasN (ordL L u) t = true then rk L m + 1 else 0
 have key:∀ (k:Nat) (y:Th),L[k]? = some y→∀ u,edge y u→r' u < r' k:=fun k y hy u hu=>by
  have hb:=B.edge _ _ hy u hu
  simp only [r']
  by_cases hc:hasN (ordL L u) t = true
  ·have hk:hasN (ordL L k) t = true:=hasN_iff.2 ((mem_ordL h.wf hy _).2 (.inr ⟨u,hu,hasN_iff.1 hc⟩))
   rw [if_pos hc,if_pos hk];have:=hb.2.2;omega
  ·rw [if_neg hc];have:=hb.2.2;omega
 have hget:∀ (k:Nat) (y:Th),(L.set t x')[k]? = some y→(k = t∧y = x')∨(k≠t∧L[k]? = some y):=fun k y hy=>by
  by_cases e:t = k
  ·subst e
   rw [List.getElem?_set_self ht] at hy
   exact .inl ⟨rfl,(Option.some.inj hy).symm⟩
  ·rw [List.getElem?_set_ne e] at hy;exact .inr ⟨fun h=>e h.symm,hy⟩
 refine ⟨r',fun k y hy u hu=>?_,fun k y hy=>?_,fun k y hy=>?_,by simpa using B.len⟩
 ·rw [List.length_set]
  rcases hget k y hy with ⟨rfl,rfl⟩ | ⟨_,hy⟩
  ·rcases he u hu with rfl | hu
   ·refine ⟨by omega,by omega,?_⟩
    have hkk:hasN (ordL L k) k = true:=hasN_iff.2 (ordL_spec h.wf ht).2.1
    simp only [r']
    rw [if_neg (by rw [hh];simp),if_pos hkk];omega
   ·have:=B.edge _ _ hx u hu
    exact ⟨this.1,this.2.1,key _ _ hx u hu⟩
  ·have:=B.edge _ _ hy u hu
   exact ⟨this.1,this.2.1,key _ _ hy u hu⟩
 ·rcases hget k y hy with ⟨rfl,rfl⟩ | ⟨_,hy⟩
  ·exact hnb
  ·exact B.nb _ _ hy
 ·rcases hget k y hy with ⟨rfl,rfl⟩ | ⟨_,hy⟩
  ·exact hnp
  ·exact B.np _ _ hy
theorem put_OK {L:List Th} (h:OK L) {t:Nat} {x x':Th} (hx:L[t]? = some x) {m:Int} (hmk:(thAt L m).kind = 1) (hk:x'.kind = x.kind) (hs:x'.sup = x.sup) (ho:x'.own = x.own)
  (hi:∀ u,u∈x'.ins∨u∈x'.bef→u = m∨(u∈x.ins∨u∈x.bef)) (W:WFL (L.set t x')):OK (L.set t x'):=by
 have ht:=(List.getElem?_eq_some_iff.1 hx).1
 have hth:∀ u:Int,(thAt (L.set t x') u).kind = (thAt L u).kind∧(thAt (L.set t x') u).sup = (thAt L u).sup∧(thAt (L.set t x') u).own = (thAt L u).own:=fun u=>by
  unfold thAt
  rw [List.getD_eq_getElem?_getD,List.getD_eq_getElem?_getD]
  by_cases e:t = u.toNat
  ·rw [←e,List.getElem?_set_self ht,hx];exact ⟨hk,hs,ho⟩
  ·rw [List.getElem?_set_ne e];exact ⟨rfl,rfl,rfl⟩
 have hget:∀ (k:Nat) (y:Th),(L.set t x')[k]? = some y→∃ z,L[k]? = some z∧y.kind = z.kind∧y.sup = z.sup∧y.own = z.own∧∀ u,u∈y.ins∨u∈y.bef→u = m∨(u∈z.ins∨u∈z.bef):=fun k y hy=>by
  by_cases e:t = k
  ·subst e
   rw [List.getElem?_set_self ht] at hy
   cases hy
   exact ⟨x,hx,hk,hs,ho,hi⟩
  ·rw [List.getElem?_set_ne e] at hy;exact ⟨y,hy,rfl,rfl,rfl,fun u hu=>.inr hu⟩
 refine ⟨W,fun y hy=>?_,fun k y hy h0=>?_,fun k y hy u hu=>?_,fun k y hy h0=>?_,fun k y hy h1=>?_⟩
 ·obtain ⟨z,hz,e1,e2,_⟩:=hget 0 y hy
  rw [e1,e2];exact h.root z hz
 ·obtain ⟨z,hz,e1,e2,e3,_⟩:=hget k y hy
  rw [List.length_set,e2,(hth _).1]
  exact h.sup k z hz (by rw [←e2];exact h0)
 ·obtain ⟨z,hz,e1,e2,e3,e4⟩:=hget k y hy
  rw [(hth u).1]
  rcases e4 u hu with rfl | hu
  ·exact hmk
  ·exact h.ins k z hz u hu
 ·obtain ⟨z,hz,e1,e2,e3,e4⟩:=hget k y hy
  rw [List.length_set,e2,e3,(hth _).1,(hth _).2.1,(hth _).2.2]
  exact h.own k z hz (by rw [←e3];exact h0)
 ·obtain ⟨z,hz,e1,e2,e3,e4⟩:=hget k y hy
  rw [e2];exact h.mod k z hz (by rw [←e1];exact h1)
theorem own_OK {L:List Th} (h:OK L) (hpos:0 < L.length) {t:Nat} {x:Th} (hx:L[t]? = some x) (hroom:L.length + 1≤1000) (hno:x.own < 0) {w:Int} (hk2:x.kind≠2∨True)
  (hw:(0≤x.sup→w = (thAt L x.sup).own∧0≤w)∧(x.sup < 0→w = 0)) :
  OK ((L ++ [newTh 2 w (-1)]).set t { x with own:=(L.length:Int) })∧∀ k:Nat,k < L.length→ordOf ((L ++ [newTh 2 w (-1)]).set t { x with own:=(L.length:Int) }) k = ordOf L k:=by
 have ht:=(List.getElem?_eq_some_iff.1 hx).1
 have hwv:0≤w∧w < L.length∧(thAt L w).kind≠1:=by
  by_cases h0:0≤x.sup
  ·obtain ⟨q1,q2⟩:=hw.1 h0
   have hs:=(h.sup t x hx h0).1
   obtain ⟨o1,o2,_⟩:=h.own _ _ (get_thAt h0 hs) (by rw [←q1];exact q2)
   rw [←q1] at o1 o2
   exact ⟨q2,o1,by rw [o2];decide⟩
  ·have:=hw.2 (by omega)
   subst this
   have hr:=h.root _ (List.getElem?_eq_getElem hpos)
   refine ⟨by omega,by omega,?_⟩
   have:thAt L 0 = L[0]:=thAt_eq (t:=0) hpos
   rw [this,hr.1];decide
 have hset:(L ++ [newTh 2 w (-1)]).set t { x with own:=(L.length:Int) } = L.set t { x with own:=(L.length:Int) } ++ [newTh 2 w (-1)]:=List.set_append_left _ _ ht
 rw [hset]
 have hM:∀ (k:Nat) (y:Th),L[k]? = some y→∃ y',(L.set t { x with own:=(L.length:Int) })[k]? = some y'∧y'.bef = y.bef∧y'.ins = y.ins∧y'.sup = y.sup∧y'.kind = y.kind:=fun k y hy=>by
  by_cases e:t = k
  ·subst e
   rw [hx] at hy;cases hy
   exact ⟨_,List.getElem?_set_self ht,rfl,rfl,rfl,rfl⟩
  ·exact ⟨y,by rw [List.getElem?_set_ne e];exact hy,rfl,rfl,rfl,rfl⟩
 obtain ⟨W,hord⟩:=grow_wf h (M:=L.set t { x with own:=(L.length:Int) }) (by simp) hM (x:=newTh 2 w (-1)) rfl rfl hroom (fun _=>hwv.2.1)
 refine ⟨?_,hord⟩
 have hth:∀ u:Int,0≤u→u < L.length→thAt (L.set t { x with own:=(L.length:Int) } ++ [newTh 2 w (-1)]) u = if u = t then { x with own:=(L.length:Int) } else thAt L u:=fun u h0 h1=>by
  obtain ⟨j,rfl⟩:∃ j:Nat,u = j:=⟨u.toNat,by omega⟩
  rw [thAt_eq (L:=L.set t { x with own:=(L.length:Int) } ++ [newTh 2 w (-1)]) (by simp;omega),List.getElem_append_left (by simp;omega)]
  by_cases e:t = j
  ·subst e;simp
  ·rw [List.getElem_set_ne e,if_neg (by omega),thAt_eq (by omega)]
 have hthk:∀ u:Int,0≤u→u < L.length→(thAt (L.set t { x with own:=(L.length:Int) } ++ [newTh 2 w (-1)]) u).kind = (thAt L u).kind∧(thAt (L.set t { x with own:=(L.length:Int) } ++ [newTh 2 w (-1)]) u).sup = (thAt L u).sup:=fun u h0 h1=>by
  rw [hth u h0 h1]
  split
  ·rename_i e;subst e;rw [thAt_get hx];exact ⟨rfl,rfl⟩
  ·exact ⟨rfl,rfl⟩
 have hnew:thAt (L.set t { x with own:=(L.length:Int) } ++ [newTh 2 w (-1)]) L.length = newTh 2 w (-1):=by
  rw [thAt_eq (by simp)]
  rw [List.getElem_append_right (by simp)];simp
 have hget:∀ (k:Nat) (y:Th),(L.set t { x with own:=(L.length:Int) } ++ [newTh 2 w (-1)])[k]? = some y→(k < L.length∧∃ z,L[k]? = some z∧y.kind = z.kind∧y.sup = z.sup∧y.ins = z.ins∧y.bef = z.bef∧((y.own = z.own∧k≠t)∨(k = t∧z = x∧y.own = L.length)))∨(k = L.length∧y = newTh 2 w (-1)):=fun k y hy=>by
  rcases Nat.lt_or_ge k L.length with hk | hk
  ·rw [List.getElem?_append_left (by simpa using hk)] at hy
   refine .inl ⟨hk,?_⟩
   by_cases e:t = k
   ·subst e
    rw [List.getElem?_set_self ht] at hy
    cases hy
    exact ⟨x,hx,rfl,rfl,rfl,rfl,.inr ⟨rfl,rfl,rfl⟩⟩
   ·rw [List.getElem?_set_ne e] at hy
    exact ⟨y,hy,rfl,rfl,rfl,rfl,.inl ⟨rfl,fun h=>e h.symm⟩⟩
  ·have h1:=(List.getElem?_eq_some_iff.1 hy).1
   simp only [List.length_append,List.length_set,List.length_singleton] at h1
   obtain rfl:k = L.length:=by omega
   rw [List.getElem?_append_right (by simp)] at hy
   simp at hy
   exact .inr ⟨rfl,hy.symm⟩
 have hlen:((L.set t { x with own:=(L.length:Int) } ++ [newTh 2 w (-1)]).length:Int) = L.length + 1:=by simp
 refine ⟨W,fun y hy=>?_,fun k y hy h0=>?_,fun k y hy u hu=>?_,fun k y hy h0=>?_,fun k y hy h1=>?_⟩
 ·rcases hget 0 y hy with ⟨_,z,hz,e1,e2,_⟩ | ⟨h0,_⟩
  ·rw [e1,e2];exact h.root z hz
  ·omega
 ·rcases hget k y hy with ⟨_,z,hz,e1,e2,_⟩ | ⟨_,rfl⟩
  ·have:=h.sup k z hz (by rw [←e2];exact h0)
   rw [hlen,e2,(hthk _ (by rw [←e2];exact h0) this.1).1]
   exact ⟨by omega,this.2⟩
  ·rw [hlen,show (newTh 2 w (-1)).sup = w from rfl,(hthk w hwv.1 hwv.2.1).1]
   exact ⟨by omega,hwv.2.2⟩
 ·rcases hget k y hy with ⟨_,z,hz,e1,e2,e3,e4,_⟩ | ⟨_,rfl⟩
  ·rw [e3,e4] at hu
   have hv:=edge_val h.wf hz (u:=u) (by
    rcases hu with hu | hu
    ·exact .inr (by simp [parents,hu])
    ·exact .inl hu)
   rw [(hthk u hv.1 hv.2).1];exact h.ins k z hz u hu
  ·rcases hu with hu | hu <;> cases hu
 ·rcases hget k y hy with ⟨_,z,hz,e1,e2,e3,e4,e5⟩ | ⟨_,rfl⟩
  ·rcases e5 with ⟨e5,hkt⟩ | ⟨rfl,rfl,e5⟩
   ·rw [e5] at h0 ⊢
    obtain ⟨q1,q2,q3,q4⟩:=h.own k z hz h0
    rw [hlen,(hthk _ h0 q1).1,(hthk _ h0 q1).2,e2]
    refine ⟨by omega,q2,fun hs=>?_,q4⟩
    obtain ⟨p1,p2⟩:=q3 hs
    have hsv:=(h.sup k z hz hs).1
    rw [hth _ hs hsv]
    split
    ·rename_i e
     rw [e,thAt_get hx] at p1;omega
    ·exact ⟨p1,p2⟩
   ·rw [e5,hlen,hnew,e2]
    refine ⟨by omega,rfl,fun hs=>?_,fun hs=>?_⟩
    ·obtain ⟨p1,p2⟩:=hw.1 hs
     have hsv:=(h.sup k z hx hs).1
     have hne:z.sup≠k:=fun e=>by
      rw [e,thAt_get hx] at p1;omega
     rw [hth _ hs hsv,if_neg hne,←p1]
     exact ⟨p2,rfl⟩
    ·exact hw.2 hs
  ·simp only [newTh] at h0;omega
 ·rcases hget k y hy with ⟨_,z,hz,e1,e2,_⟩ | ⟨_,rfl⟩
  ·rw [e2];exact h.mod k z hz (by rw [←e1];exact h1)
  ·simp [newTh] at h1
def Same (L L':List Th) (r:Nat→Prop):Prop:=∀ (k:Nat) (x:Th),L[k]? = some x→∃ x',L'[k]? = some x'∧x'.kind = x.kind∧x'.sup = x.sup∧(0≤x.own→x'.own = x.own)∧(r k→x'.own = x.own)
theorem mkF_OK:∀ (n:Nat) {L:List Th} (h:OK L) (hpos:0 < L.length) {t:Nat} (ht:t < L.length),rk L t < n→L.length + missF n L t≤1000 →
  OK (mkF n L t).1∧0≤(mkF n L t).2∧(thAt (mkF n L t).1 t).own = (mkF n L t).2∧(∀ k:Nat,k < L.length→ordOf (mkF n L t).1 k = ordOf L k)∧Same L (mkF n L t).1 fun k=>rk L t < rk L k
 | 0,_,_,_,_,_,h,_=>by omega
 | n + 1,L,h,hpos,t,ht,hr,hroom=>by
  have hx:L[t]? = some L[t]:=List.getElem?_eq_getElem ht
  have hth:=thAt_eq ht
  by_cases h1:0≤L[t].own
  ·have hm:mkF (n + 1) L t = (L,L[t].own):=by unfold mkF;rw [hth,if_pos h1]
   rw [hm]
   exact ⟨h,h1,by rw [hth],fun _ _=>rfl,fun k x hx=>⟨x,hx,rfl,rfl,fun _=>rfl,fun _=>rfl⟩⟩
  ·by_cases h2:0≤L[t].sup
   ·obtain ⟨q1,q2⟩:=h.ups.up t _ hx h2
    obtain ⟨s,hs⟩:∃ s:Nat,L[t].sup = s:=⟨L[t].sup.toNat,by omega⟩
    rw [hs] at q1 q2
    have hms:missF (n + 1) L t = 1 + missF n L s:=by rw [missF,hth,if_neg h1,if_pos (by omega),hs]
    have hs0:(0:Int)≤s:=by omega
    have hpl:=mkF_len n L s
    obtain ⟨p1,p2,p3,p4,p5⟩:=mkF_OK n h hpos (t:=s) (by omega) (by omega) (by omega)
    have hm:mkF (n + 1) L t = (((mkF n L s).1 ++ [newTh 2 (mkF n L s).2 (-1)]).set t { thAt ((mkF n L s).1 ++ [newTh 2 (mkF n L s).2 (-1)]) t with own:=((mkF n L s).1.length:Int) },((mkF n L s).1.length:Int)):=by
     rw [mkF,hth,if_neg h1]
     simp only [hs,hs0,if_true,Int.toNat_natCast]
    rw [hm]
    generalize mkF n L s = p at *
    obtain ⟨L1,w⟩:=p
    simp only at *
    obtain ⟨x1,hx1,e1,e2,e3,e4⟩:=p5 t _ hx
    have ht1:t < L1.length:=by omega
    have hq:thAt (L1 ++ [newTh 2 w (-1)]) t = x1:=by
     rw [thAt_eq (by simp;omega),List.getElem_append_left ht1]
     exact (List.getElem?_eq_some_iff.1 hx1).2
    rw [hq]
    have ho:x1.own < 0:=by rw [e4 q2];omega
    obtain ⟨k1,k2⟩:=own_OK p1 (by omega) hx1 (by omega) ho (w:=w) (.inr trivial) ⟨fun h0=>by rw [e2,hs,p3];exact ⟨rfl,p2⟩,fun h0=>by rw [e2,hs] at h0;omega⟩
    have hset:(L1 ++ [newTh 2 w (-1)]).set t { x1 with own:=(L1.length:Int) } = L1.set t { x1 with own:=(L1.length:Int) } ++ [newTh 2 w (-1)]:=List.set_append_left _ _ ht1
    refine ⟨k1,by omega,?_,fun k hk=>?_,fun k x hx=>?_⟩
    ·rw [thAt_eq (by simp;omega)];simp
    ·rw [k2 k (by omega),p4 k hk]
    ·obtain ⟨y,hy,f1,f2,f3,f4⟩:=p5 k x hx
     have hkl:=(List.getElem?_eq_some_iff.1 hy).1
     rw [hset,List.getElem?_append_left (by simpa using hkl)]
     by_cases e:t = k
     ·subst e
      rw [hx1] at hy;cases hy
      refine ⟨_,List.getElem?_set_self ht1,f1,f2,fun h0=>?_,fun h0=>by omega⟩
      have hxe:=(List.getElem?_eq_some_iff.1 hx).2
      rw [←hxe] at h0;omega
     ·exact ⟨y,by rw [List.getElem?_set_ne e];exact hy,f1,f2,f3,fun h0=>f4 (by omega)⟩
   ·have hms:missF (n + 1) L t = 1:=by rw [missF,hth,if_neg h1,if_neg h2]
    have hm:mkF (n + 1) L t = ((L ++ [newTh 2 0 (-1)]).set t { thAt (L ++ [newTh 2 0 (-1)]) t with own:=(L.length:Int) },(L.length:Int)):=by
     rw [mkF,hth,if_neg h1]
     simp only [h2,if_false,Int.toNat_natCast]
    rw [hm]
    have hq:thAt (L ++ [newTh 2 0 (-1)]) t = L[t]:=by
     rw [thAt_eq (by simp;omega),List.getElem_append_left ht]
    rw [hq]
    obtain ⟨k1,k2⟩:=own_OK h hpos hx (by omega) (by omega) (w:=0) (.inr trivial) ⟨fun h0=>absurd h0 h2,fun _=>rfl⟩
    have hset:(L ++ [newTh 2 0 (-1)]).set t { L[t] with own:=(L.length:Int) } = L.set t { L[t] with own:=(L.length:Int) } ++ [newTh 2 0 (-1)]:=List.set_append_left _ _ ht
    refine ⟨k1,by simp only;omega,?_,k2,fun k y hy=>?_⟩
    ·rw [thAt_eq (by simp;omega)];simp
    ·have hkl:=(List.getElem?_eq_some_iff.1 hy).1
     simp only
     rw [hset,List.getElem?_append_left (by simpa using hkl)]
     by_cases e:t = k
     ·subst e
      rw [hx] at hy
      cases hy
      exact ⟨_,List.getElem?_set_self ht,rfl,rfl,fun h0=>by omega,fun h0=>by omega⟩
     ·exact ⟨y,by rw [List.getElem?_set_ne e];exact hy,rfl,rfl,fun _=>rfl,fun _=>rfl⟩
structure LDeed where
 op:Int
 a:Int
 b:Int
noncomputable def doOf (L:List Th) (d:LDeed):List Th×Int×Int :=
 if d.op = 0 then classOf L d.a
 else if d.op = 1 then moduleOf L
 else if d.op = 2 then ((putI L d.a d.b).1,0,(putI L d.a d.b).2)
 else if d.op = 3 then ((putP L d.a d.b).1,0,(putP L d.a d.b).2)
 else if d.op = 4 then singletonOf L d.a d.b
 else if d.op = 5 then ownOf L d.a
 else (L,0,0)
theorem hasN_false {l:List Int} {v:Int} (h:hasN l v = false):v∉l:=fun hm=>by rw [hasN_iff.2 hm] at h;cases h
theorem parents_cons {L:List Th} (h:OK L) {t:Nat} {x:Th} (hx:L[t]? = some x) {m:Int} (hm0:0≤m) (hk:(thAt L m).kind = 1) (hd:m∉x.ins):(m :: parents x).Nodup:=by
 refine List.nodup_cons.2 ⟨fun hm=>?_,(rk_base h.wf).np t x hx⟩
 simp only [parents,List.mem_append] at hm
 rcases hm with hm | hm
 ·exact hd hm
 ·split at hm
  ·rename_i h0
   simp only [List.mem_singleton] at hm
   subst hm
   exact (h.sup t x hx h0).2 hk
  ·cases hm
theorem baseI {L:List Th} (h:OK L) (m:Int) (t:Nat) (ht:t < L.length) (hv:val L m = true) (hk:(thAt L m).kind = 1) (hd:hasN (thAt L t).ins m = false) (hh:hasN (ordL L m) t = false) :
  ∃ r,Base (withI L t (m :: (thAt L t).ins)) r:=by
 have hx:L[t]? = some L[t]:=List.getElem?_eq_getElem ht
 rw [thAt_eq ht] at *
 rw [withI_eq ht]
 simp only [val,decide_eq_true_eq] at hv
 refine base_put h hx hv.1 hv.2 hh (fun u hu=>?_) (show L[t].bef.Nodup from (rk_base h.wf).nb t _ hx) ?_
 ·rcases hu with hu | hu
  ·exact .inr (.inl hu)
  ·simp only [parents,List.cons_append,List.mem_cons] at hu
   rcases hu with hu | hu
   ·exact .inl hu
   ·exact .inr (.inr hu)
 ·exact parents_cons h hx hv.1 hk (hasN_false hd)
theorem baseP {L:List Th} (h:OK L) (m:Int) (t:Nat) (ht:t < L.length) (hv:val L m = true) (hk:(thAt L m).kind = 1) (hd:hasN (thAt L t).bef m = false) (hh:hasN (ordL L m) t = false) :
  ∃ r,Base (withP L t (m :: (thAt L t).bef)) r:=by
 have hx:L[t]? = some L[t]:=List.getElem?_eq_getElem ht
 rw [thAt_eq ht] at *
 rw [withP_eq ht]
 simp only [val,decide_eq_true_eq] at hv
 refine base_put h hx hv.1 hv.2 hh (fun u hu=>?_) (List.nodup_cons.2 ⟨hasN_false hd,show L[t].bef.Nodup from (rk_base h.wf).nb t _ hx⟩) (show (parents L[t]).Nodup from (rk_base h.wf).np t _ hx)
 rcases hu with hu | hu
 ·rcases List.mem_cons.1 hu with hu | hu
  ·exact .inl hu
  ·exact .inr (.inl hu)
 ·exact .inr (.inr hu)
theorem putI_cases {L:List Th} (h:OK L) (t m:Int):(putI L t m).1 = L∧(putI L t m).2≠0 ∨
  ∃ k:Nat,t = k∧k < L.length∧val L m = true∧(thAt L m).kind = 1∧putI L t m = (withI L k (m :: (thAt L k).ins),0)∧OK (withI L k (m :: (thAt L k).ins))∧(withI L k (m :: (thAt L k).ins)).length = L.length:=by
 unfold putI
 split
 ·exact .inl ⟨rfl,by simp⟩
 ·rename_i h0
  split
  ·exact .inl ⟨rfl,by simp⟩
  ·rename_i hd
   split
   ·exact .inl ⟨rfl,by simp⟩
   ·rename_i hh
    split
    ·rename_i hf
     have h1:val L t = true∧val L m = true∧(thAt L m).kind = 1:=by simpa using h0
     obtain ⟨k,rfl,hk⟩:=val_nat h1.1
     have hh':hasN (ordL L m) k = false:=by
      cases e:hasN (ordL L m) k with
      | false=>rfl
      | true=>exact absurd (.inr e) hh
     have B:=baseI h m k hk h1.2.1 h1.2.2 (by simpa using hd) hh'
     simp only [Int.toNat_natCast] at hf ⊢
     have hl:(withI L k (m :: (thAt L k).ins)).length = L.length:=by rw [withI_eq hk];simp
     have W:WFL (withI L k (m :: (thAt L k).ins)):=⟨B,fun j hj=>hf j (by omega)⟩
     refine .inr ⟨k,rfl,hk,h1.2.1,h1.2.2,rfl,?_,hl⟩
     rw [withI_eq hk] at W ⊢
     refine put_OK h (List.getElem?_eq_getElem hk) h1.2.2 rfl rfl rfl (fun u hu=>?_) W
     rcases hu with hu | hu
     ·rcases List.mem_cons.1 hu with hu | hu
      ·exact .inl hu
      ·rw [thAt_eq hk] at hu;exact .inr (.inl hu)
     ·exact .inr (.inr hu)
    ·exact .inl ⟨rfl,by simp⟩
theorem putP_cases {L:List Th} (h:OK L) (t m:Int):(putP L t m).1 = L∧(putP L t m).2≠0 ∨
  ∃ k:Nat,t = k∧k < L.length∧val L m = true∧(thAt L m).kind = 1∧putP L t m = (withP L k (m :: (thAt L k).bef),0)∧OK (withP L k (m :: (thAt L k).bef))∧(withP L k (m :: (thAt L k).bef)).length = L.length:=by
 unfold putP
 split
 ·exact .inl ⟨rfl,by simp⟩
 ·rename_i h0
  split
  ·exact .inl ⟨rfl,by simp⟩
  ·rename_i hd
   split
   ·exact .inl ⟨rfl,by simp⟩
   ·rename_i hh
    split
    ·rename_i hf
     have h1:val L t = true∧val L m = true∧(thAt L m).kind = 1:=by simpa using h0
     obtain ⟨k,rfl,hk⟩:=val_nat h1.1
     have hh':hasN (ordL L m) k = false:=by
      cases e:hasN (ordL L m) k with
      | false=>rfl
      | true=>exact absurd (.inr e) hh
     have B:=baseP h m k hk h1.2.1 h1.2.2 (by simpa using hd) hh'
     simp only [Int.toNat_natCast] at hf ⊢
     have hl:(withP L k (m :: (thAt L k).bef)).length = L.length:=by rw [withP_eq hk];simp
     have W:WFL (withP L k (m :: (thAt L k).bef)):=⟨B,fun j hj=>hf j (by omega)⟩
     refine .inr ⟨k,rfl,hk,h1.2.1,h1.2.2,rfl,?_,hl⟩
     rw [withP_eq hk] at W ⊢
     refine put_OK h (List.getElem?_eq_getElem hk) h1.2.2 rfl rfl rfl (fun u hu=>?_) W
     rcases hu with hu | hu
     ·exact .inr (.inl hu)
     ·rcases List.mem_cons.1 hu with hu | hu
      ·exact .inl hu
      ·rw [thAt_eq hk] at hu;exact .inr (.inr hu)
    ·exact .inl ⟨rfl,by simp⟩
theorem doOf_OK {L:List Th} (h:OK L) (hpos:0 < L.length) (d:LDeed):OK (doOf L d).1∧0 < (doOf L d).1.length∧((doOf L d).2.2≠0→(doOf L d).1 = L):=by
 unfold doOf
 split
 ·unfold classOf
  split
  ·exact ⟨h,hpos,fun _=>rfl⟩
  ·rename_i hk
   split
   ·exact ⟨h,hpos,fun _=>rfl⟩
   ·have h1:val L d.a = true∧(thAt L d.a).kind = 0:=by simpa using hk
    have hv:0≤d.a∧d.a < L.length:=by simpa [val] using h1.1
    exact ⟨(add_OK h hpos (by omega) (fun _=>⟨hv.2,by rw [h1.2];decide⟩) (fun e=>absurd e (by decide))).1,by simp,fun e=>absurd rfl e⟩
 ·split
  ·unfold moduleOf
   split
   ·exact ⟨h,hpos,fun _=>rfl⟩
   ·split
    ·exact ⟨h,hpos,fun _=>rfl⟩
    ·exact ⟨(add_OK h hpos (by omega) (fun e=>by omega) (fun _=>by decide)).1,by simp,fun e=>absurd rfl e⟩
  ·split
   ·rcases putI_cases h d.a d.b with ⟨e1,e2⟩ | ⟨k,_,_,_,_,e,h2,hl⟩
    ·simp only [e1];exact ⟨h,hpos,fun _=>trivial⟩
    ·simp only [e];exact ⟨h2,by omega,fun e=>absurd rfl e⟩
   ·split
    ·rcases putP_cases h d.a d.b with ⟨e1,e2⟩ | ⟨k,_,_,_,_,e,h2,hl⟩
     ·simp only [e1];exact ⟨h,hpos,fun _=>trivial⟩
     ·simp only [e];exact ⟨h2,by omega,fun e=>absurd rfl e⟩
    ·split
     ·unfold singletonOf
      split
      ·exact ⟨h,hpos,fun _=>rfl⟩
      ·rename_i hbad
       split
       ·split
        ·exact ⟨h,hpos,fun _=>rfl⟩
        ·exact ⟨h,hpos,fun _=>rfl⟩
       ·split
        ·exact ⟨h,hpos,fun _=>rfl⟩
        ·have hk:(val L d.a && decide ((thAt L d.a).kind = 0)) = true:=by
          cases e:(val L d.a && decide ((thAt L d.a).kind = 0)) with
          | true=>rfl
          | false=>exact absurd (.inl e) hbad
         have h1:val L d.a = true∧(thAt L d.a).kind = 0:=by simpa using hk
         have hv:0≤d.a∧d.a < L.length:=by simpa [val] using h1.1
         exact ⟨(add_OK h hpos (by omega) (fun _=>⟨hv.2,by rw [h1.2];decide⟩) (fun e=>absurd e (by decide))).1,by simp,fun e=>absurd rfl e⟩
     ·split
      ·unfold ownOf
       split
       ·exact ⟨h,hpos,fun _=>rfl⟩
       ·rename_i hno
        split
        ·exact ⟨h,hpos,fun _=>rfl⟩
        ·have hv:val L d.a = true:=by
          cases e:val L d.a with
          | true=>rfl
          | false=>exact absurd (.inl e) hno
         obtain ⟨k,hk,hkl⟩:=val_nat hv
         generalize d.a = q at *
         subst hk
         have hrl:=rk_le h.wf k
         obtain ⟨m1,_⟩:=mkF_OK 1001 h hpos hkl (by omega) (by omega)
         exact ⟨m1,by have:=mkF_len 1001 L k;simp only;omega,fun e=>absurd rfl e⟩
      ·exact ⟨h,hpos,fun _=>rfl⟩
end Go.Proofs.YtbhigdljojlhnaaGreat

/- From what a row's argument reads as to trees that cannot change. -/
namespace Go.Vc
set_option linter.all false
open T (hdr blk)
abbrev allB (w:World):Nat→Prop:=fun b=>b < w.heap.size
def Reads (P:Program) (t:TypeId) (z:Nat) (good:D→Prop):Prop :=
 ∀ (H:Type) (enc:TypeId×Value→H) (w:World) (fuel:Nat) (cs:List Value) (x:DataW H×List MemPlace),DataW.trod enc P w 0 (fun _=>true) true fuel t cs = some x →
  ∃ g:G,T.Holds w.heap (allB w) g∧g.free = true∧g.cells = cs∧g.width = z∧good g.erase
theorem reads_int {P:Program} {t:TypeId} {k:IntKind} (ht:P.underlying t = some (.int k)):Reads P t 1 fun d=>∃ n,d = .val (.int k n):=fun H enc w fuel cs x h=>by
 obtain ⟨n,rfl,_,_⟩:=DataW.trod_int ht h
 exact ⟨.val (.int k n),rfl,rfl,rfl,rfl,n,rfl⟩
theorem reads_str {P:Program} {t:TypeId} (ht:P.underlying t = some .string):Reads P t 1 fun d=>∃ s,d = .val (.string s):=fun H enc w fuel cs x h=>by
 obtain ⟨s,rfl,_,_⟩:=DataW.trod_string ht h
 exact ⟨.val (.string s),rfl,rfl,rfl,rfl,s,rfl⟩
def FieldsRead (P:Program):List Field→List (Nat×(D→Prop))→Nat→Prop
 | [],[],_=>True
 | f :: fs,(z,good) :: r,o=>Reads P f.type z good∧P.cellsOf f.type = z∧f.offset = o∧FieldsRead P fs r (o + z)
 | _,_,_=>False
def fieldsGood:List (Nat×(D→Prop))→D→Prop
 | [],d=>d = .nil
 | (_,good) :: r,d=>∃ a t,d = .cons a t∧good a∧fieldsGood r t
def fieldsSize:List (Nat×(D→Prop))→Nat
 | []=>0
 | (z,_) :: r=>z + fieldsSize r
theorem reads_struct {P:Program} {t:TypeId} {fs:Array Field} (ht:P.underlying t = some (.struct fs)) {gs:List (Nat×(D→Prop))} (hf:FieldsRead P fs.toList gs 0) (hz:P.cellsOf t = fieldsSize gs) :
  Reads P t (fieldsSize gs) fun d=>∃ s,d = .agg s∧fieldsGood gs s:=fun H enc w fuel cs x h=>by
 obtain ⟨xs,n,_,_,hl,hlen,he⟩:=DataW.trod_struct ht h
 have each:∀ f∈fs.toList,∃ y,DataW.trod enc P w 0 (fun _=>true) true n f.type ((cs.drop f.offset).take (P.cellsOf f.type)) = some y:=fun f hm=>by
  obtain ⟨i,hi,rfl⟩:=List.getElem_of_mem hm
  have h1:=he i fs[i] (by simp at hi;simp [hi])
  rw [List.getElem?_eq_getElem (by simp at hi;omega)] at h1
  exact ⟨_,h1⟩
 have key:∀ (l:List Field) (gs:List (Nat×(D→Prop))) (o:Nat),FieldsRead P l gs o→(∀ f∈l,f∈fs.toList)→cs.length = o + fieldsSize gs →
   ∃ s:G,T.Holds w.heap (allB w) s∧s.free = true∧s.cells = cs.drop o∧s.width = fieldsSize gs∧fieldsGood gs s.erase:=by
  intro l
  induction l with
  | nil =>
   intro gs o h1 _ h2
   cases gs with
   | nil=>exact ⟨.nil,trivial,rfl,by simp only [fieldsSize] at h2;simp [T.cells,h2],rfl,rfl⟩
   | cons _ _=>exact h1.elim
  | cons f l ih =>
   intro gs o h1 hm h2
   cases gs with
   | nil=>exact h1.elim
   | cons p r =>
    obtain ⟨z,good⟩:=p
    obtain ⟨k1,k2,k3,k4⟩:=h1
    simp only [fieldsSize] at h2
    obtain ⟨s,s1,s2,s3,s4,s5⟩:=ih r (o + z) k4 (fun f hf=>hm f (by simp [hf])) (by omega)
    obtain ⟨y,hy⟩:=each f (hm f (by simp))
    obtain ⟨g,g1,g2,g3,g4,g5⟩:=k1 H enc w n _ y hy
    refine ⟨.cons g s,⟨g1,s1⟩,by simp [T.free,g2,s2],?_,by simp [T.width,g4,s4,fieldsSize],_,_,rfl,g5,s5⟩
    simp only [T.cells,g3,s3,k2,k3]
    rw [←List.drop_drop,List.take_append_drop]
 obtain ⟨s,s1,s2,s3,s4,s5⟩:=key fs.toList gs 0 hf (fun _ h=>h) (by rw [hl,hz];omega)
 exact ⟨.agg s,s1,s2,by simpa [T.cells] using s3,s4,_,rfl,s5⟩
theorem map_of {α β:Type} {f:β→α}:∀ {l:List α},(∀ x∈l,∃ y,x = f y)→∃ ys:List β,l = ys.map f
 | [],_=>⟨[],rfl⟩
 | x :: l,h=>by
  obtain ⟨y,hy⟩:=h x (by simp)
  obtain ⟨ys,hys⟩:=map_of (l:=l) (f:=f) fun x hx=>h x (List.mem_cons_of_mem _ hx)
  exact ⟨y :: ys,by rw [hy,hys];rfl⟩
theorem cells?_at {w:World} {a:Addr} {n:Nat} {cs:List Value} (h:w.cells? 0 a n = some cs):cs.length = n∧∀ r v,cs[r]? = some v→w.cell? (a.add r) = some v:=by
 obtain ⟨_,h1,h2⟩:=World.cells?_some h
 refine ⟨h1,fun r v hv=>?_⟩
 have hr:r < n:=by rw [←h1];exact (List.getElem?_eq_some_iff.1 hv).1
 have:=h2 r hr
 rw [this,hv]
theorem reads_elems {P:Program} {e:TypeId} {z:Nat} {good:D→Prop} (he:Reads P e z good) {H:Type} {enc:TypeId×Value→H} {w:World} {n:Nat} {at_:Nat→List Value}:∀ (len i0:Nat),
  (∀ i,i < len→∃ y,DataW.trod enc P w 0 (fun _=>true) true n e (at_ (i0 + i)) = some y) →
  ∃ s:G,∃ l:List D,T.Holds w.heap (allB w) s∧s.free = true∧s.uni z∧s.len = len∧s.erase = sq l∧l.length = len∧(∀ d∈l,good d)∧s.cells = ((List.range len).map fun i=>at_ (i0 + i)).flatten
 | 0,i0,_=>⟨.nil,[],trivial,rfl,trivial,rfl,rfl,rfl,by simp,rfl⟩
 | len + 1,i0,h=>by
  obtain ⟨y,hy⟩:=h 0 (by omega)
  obtain ⟨g,g1,g2,g3,g4,g5⟩:=he H enc w n _ y hy
  obtain ⟨s,l,s1,s2,s3,s4,s5,s6,s7,s8⟩:=reads_elems he len (i0 + 1) fun i hi=>by
   have:=h (i + 1) (by omega)
   rwa [show i0 + (i + 1) = i0 + 1 + i by omega] at this
  refine ⟨.cons g s,g.erase :: l,⟨g1,s1⟩,by simp [T.free,g2,s2],⟨g4,s3⟩,by simp [T.len,s4],by simp [T.erase,sq,s5],by simp [s6],fun d hd=>?_,?_⟩
  ·rcases List.mem_cons.1 hd with rfl | hd
   ·exact g5
   ·exact s7 d hd
  ·rw [List.range_succ_eq_map]
   simp only [T.cells,g3,s8,List.map_cons,List.flatten_cons,List.map_map,Nat.add_zero]
   congr 3
   funext i
   simp only [Function.comp]
   congr 1;omega
theorem flat_at {α:Type} {z:Nat} (hz:0 < z):∀ (l:List (List α)) (_:∀ c∈l,c.length = z) (j:Nat) (v:α),l.flatten[j]? = some v→∃ c,l[j / z]? = some c∧c[j % z]? = some v
 | [],_,j,v,h=>by simp at h
 | c :: l,hl,j,v,h=>by
  have hc:=hl c (by simp)
  simp only [List.flatten_cons] at h
  rcases Nat.lt_or_ge j z with hj | hj
  ·rw [List.getElem?_append_left (by omega)] at h
   exact ⟨c,by rw [Nat.div_eq_of_lt hj];rfl,by rw [Nat.mod_eq_of_lt hj];exact h⟩
  ·rw [List.getElem?_append_right (by omega),hc] at h
   obtain ⟨c',h1,h2⟩:=flat_at hz l (fun c hc=>hl c (by simp [hc])) (j - z) v h
   refine ⟨c',?_,?_⟩
   ·rw [show j / z = (j - z) / z + 1 by rw [Nat.div_eq_sub_div hz hj]];simpa using h1
   ·rw [Nat.mod_eq_sub_mod hj];exact h2
theorem reads_slice {P:Program} {t e:TypeId} {z:Nat} {good:D→Prop} (ht:P.underlying t = some (.slice e)) (he:Reads P e z good) (hc:P.cellsOf e = z) (hz:0 < z) :
  Reads P t 1 fun d=>∃ l:List D,(∀ x∈l,good x)∧l.length≤2 ^ 63 - 1∧d = .sl false () z (sq l):=fun H enc w fuel cs x h=>by
 rcases DataW.trod_slice ht h with ⟨rfl,_⟩ | ⟨a,len,cap,elems,rest,n,_,rfl,_,hb,hlc,hm,hlen,hel,hsp,_⟩
 ·exact ⟨.sl false (.slice none 0 0) z .nil,⟨trivial,trivial,fun _=>rfl,rfl,rfl,rfl⟩,rfl,rfl,rfl,[],by simp,by simp,rfl⟩
 ·obtain ⟨b,o,sp⟩:=a
  have hcm':cap≤2 ^ 63 - 1:=by
   have:maxLen = 2 ^ 63 - 1:=by decide
   omega
  rcases cap with _ | cap
  ·obtain rfl:len = 0:=by omega
   exact ⟨.sl false (.slice (some ⟨b,o,sp⟩) 0 0) z .nil,⟨trivial,trivial,fun _=>rfl,rfl,(fun h=>by cases h),rfl⟩,rfl,rfl,rfl,[],by simp,by simp,rfl⟩
  ·obtain ⟨hsp1,hsp2⟩:=hsp rfl
   rw [hc] at hel hsp2
   have each:∀ i,i < cap + 1→∃ cs,w.cells? 0 ((⟨b,o,sp⟩:Addr).add (i * z)) z = some cs∧∃ y,DataW.trod enc P w 0 (fun _=>true) true n e cs = some y:=fun i hi=>by
    by_cases h1:i < len
    ·have h2:=hel i h1
     rw [List.getElem?_eq_getElem (by omega)] at h2
     obtain ⟨cs,h3,h4⟩:=Option.bind_eq_some_iff.1 h2
     exact ⟨cs,h3,_,h4⟩
    ·have h2:=hsp2 (i - len) (by omega)
     rw [List.getElem?_eq_getElem (by omega),show len + (i - len) = i by omega] at h2
     obtain ⟨cs,h3,h4⟩:=Option.bind_eq_some_iff.1 h2
     exact ⟨cs,h3,_,h4⟩
   have hspot:sp = none:=by
    obtain ⟨cs0,h1,_⟩:=each 0 (by omega)
    obtain ⟨h2,h3⟩:=cells?_at h1
    have h4:=h3 0 _ (List.getElem?_eq_getElem (by omega))
    have e0:((⟨b,o,sp⟩:Addr).add (0 * z)).add 0 = ⟨b,o,sp⟩:=by simp [Addr.add]
    rw [e0] at h4
    unfold World.cell? at h4
    split at h4
    ·cases sp with
     | none=>rfl
     | some _=>simp at h4
    ·cases h4
   subst hspot
   have hadd:∀ k,(⟨b,o,none⟩:Addr).add k = ⟨b,o + k,none⟩:=fun k=>by unfold Addr.add;split <;> simp_all
   obtain ⟨csl,hl1,_⟩:=each cap (by omega)
   obtain ⟨hl2,hl3⟩:=cells?_at hl1
   have hl4:=hl3 (z - 1) _ (List.getElem?_eq_getElem (by omega))
   rw [hadd] at hl4
   have hadd2:∀ (o' k:Nat),(⟨b,o',none⟩:Addr).add k = ⟨b,o' + k,none⟩:=fun o' k=>by unfold Addr.add;split <;> simp_all
   rw [hadd2] at hl4
   obtain ⟨row,e',fr,hrow⟩:∃ row e' fr,w.heap[b]? = some (.cells row e' fr):=by
    unfold World.cell? at hl4
    split at hl4
    ·rename_i c _ _ heq;exact ⟨_,_,_,heq⟩
    ·cases hl4
   have cell:∀ k v,w.cell? ⟨b,k,none⟩ = some v→row[k]? = some v:=fun k v hk=>by
    unfold World.cell? at hk
    simp only [hrow] at hk
    simpa using hk
   have hblt:b < w.heap.size:=by
    rcases Nat.lt_or_ge b w.heap.size with h' | h'
    ·exact h'
    ·rw [Array.getElem?_eq_none h'] at hrow;cases hrow
   have hsz:o + (cap + 1) * z≤row.size:=by
    have h5:=cell _ _ hl4
    have h6:=(Array.getElem?_eq_some_iff.1 h5).1
    rw [Nat.add_mul];omega
   obtain ⟨s,l,s1,s2,s3,s4,s5,s6,s7,s8⟩:=reads_elems (enc:=enc) (w:=w) (n:=n) (at_:=fun i=>(w.cells? 0 ((⟨b,o,none⟩:Addr).add (i * z)) z).getD []) he len 0 fun i hi=>by
    obtain ⟨cs,h1,h2⟩:=each (0 + i) (by omega)
    rw [h1];exact h2
   refine ⟨.sl false (.slice (some ⟨b,o,none⟩) len (cap + 1)) z s,⟨s1,s3,fun _=>s2,rfl,s4.symm,hlc,hcm',fun _=>hblt,row,e',fr,hrow,(fun h=>by cases h),hsz,fun j v hj=>?_⟩,by simp [T.free,s2],rfl,rfl,l,s7,by omega,by simp [T.erase,s5]⟩
   rw [s8] at hj
   obtain ⟨c,c1,c2⟩:=flat_at hz _ (fun c hcm=>by
    obtain ⟨i,hi,rfl⟩:=List.mem_map.1 hcm
    obtain ⟨cs,h1,_⟩:=each (0 + i) (by have:=List.mem_range.1 hi;omega)
    rw [h1];exact (cells?_at h1).1) j v hj
   rw [List.getElem?_map] at c1
   cases hr:(List.range len)[j / z]? with
   | none=>rw [hr] at c1;cases c1
   | some i =>
    rw [hr] at c1
    obtain ⟨hi1,hi2⟩:=List.getElem?_eq_some_iff.1 hr
    simp only [List.length_range] at hi1
    simp only [List.getElem_range] at hi2
    subst hi2
    obtain ⟨cs,h1,_⟩:=each (0 + j / z) (by omega)
    simp only [Option.map_some,Option.some.injEq,h1,Option.getD_some] at c1
    subst c1
    have h2:=(cells?_at h1).2 _ _ c2
    rw [hadd,hadd2] at h2
    have h3:=cell _ _ h2
    rw [←h3]
    congr 1
    have:=Nat.div_add_mod j z
    rw [Nat.mul_comm] at this
    simp only [Nat.zero_add]
    omega
theorem imm_of_trod {P:Program} {t e:TypeId} {z:Nat} {good:D→Prop} (ht:P.underlying t = some (.slice e)) (he:Reads P e z good) (hc:P.cellsOf e = z) (hz:0 < z) {H:Type} {enc:TypeId×Value→H} {w:World}
  {r:Reach} {b0:Nat} {v:Value} {d:DataW H} {ps:List MemPlace} (hv:Value.okWide P w r b0 t v) (h:DataW.Trod enc P w 0 (fun _=>true) true t v d ps) :
  ∃ l:List D,(∀ d∈l,good d)∧l.length≤2 ^ 63 - 1∧Rl w.heap (allB w) [] (.imm z (sq l) false) true [v]:=by
 obtain ⟨fuel,h⟩:=h
 have hok:Cell.ok P w r b0 t v:=by
  unfold Value.okWide at hv
  rw [ht] at hv
  simp only [Cell.okWide,ht] at hv
  exact hv
 have hform:v = .slice none 0 0∨∃ a len cap,v = .slice (some a) len cap:=by
  unfold Cell.ok at hok
  rw [ht] at hok
  split at hok <;> try exact hok.elim
  all_goals first
   | (rename_i heq;cases heq;done)
   | skip
  ·exact .inl rfl
  ·exact .inr ⟨_,_,_,rfl⟩
 obtain ⟨g,g1,g2,g3,g4,l,l1,l2,l3⟩:=reads_slice ht he hc hz H enc w fuel _ _ h
 have hg:∃ s,g = .sl false v z s∧s.erase = sq l:=by
  cases g <;> simp only [T.erase,reduceCtorEq] at l3
  rename_i o a z' s
  simp only [T.sl.injEq,true_and] at l3
  obtain ⟨rfl,rfl,l3⟩:=l3
  have e:[a] = v.cells.toList:=g3
  rcases hform with rfl | ⟨_,_,_,rfl⟩ <;> (simp [Value.cells] at e;subst e;exact ⟨s,rfl,l3⟩)
 obtain ⟨s,rfl,hs⟩:=hg
 exact ⟨l,l1,l2,v,rfl,s,hs,g1,fun h=>by cases h⟩
end Go.Vc
