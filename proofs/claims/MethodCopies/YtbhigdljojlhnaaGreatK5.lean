import Derived.Test.YtbhigdljojlhnaaGreatK3
import Derived.Test.YtbhigdljojlhnaaGreatK4
import Derived.Test.YtbhigdljojlhnaaGreatProg
import Derived.KernelRfl
import Derived.IntWalk
import Derived.ChangeArms
import Derived.ChangeSlices
import Derived.Carry
namespace Go.Proofs.YtbhigdljojlhnaaGreat
set_option linter.all false
open Go.Vc Go.Proofs
theorem all_some{l:List Field}(h:l.all (fun f=>(Tryz.prog.info? f.type).isSome)=true):∀f∈l,(Tryz.prog.info? f.type).isSome=true:=List.all_eq_true.1 h
noncomputable def cn:bg:=fun t=>match t with
 | 2=>{ ld:=some (false,1),zero:=some (.val (.int .i64 0)),int:=some .i64 }
 | 3=>{ ld:=some (false,1),zero:=some (.val (.int .i64 0)),int:=some .i64 }
 | 4=>{ ld:=some (false,1),zero:=some (.val (.bool false)),bool:=true }
 | 5=>{ ld:=some (false,1),zero:=some (.val (.int .u8 0)),int:=some .u8 }
 | 6=>{ ld:=some (false,1),zero:=some (.val (.int .u8 0)),int:=some .u8 }
 | 7=>{ ld:=some (true,4),zero:=some (.agg (.cons (.val (.int .i64 0)) (.cons (.val (.int .i64 0)) (.cons (.val (.bool false)) (.cons (.val (.int .u8 0)) .nil))))),st:=some [(0,1),(1,1),(2,1),(3,1)] }
 | 8=>{ ld:=some (true,4),zero:=some (.agg (.cons (.val (.int .i64 0)) (.cons (.val (.int .i64 0)) (.cons (.val (.bool false)) (.cons (.val (.int .u8 0)) .nil))))),st:=some [(0,1),(1,1),(2,1),(3,1)] }
 | 9=>{ ld:=some (false,1),zero:=some (.val (.string ⟨#[]⟩)),str:=true }
 | 10=>{ ld:=some (false,1),zero:=some (.val (.string ⟨#[]⟩)),str:=true }
 | 11=>{ ld:=some (false,1),zero:=some (.val (.string ⟨#[]⟩)),str:=true }
 | 12=>{ ld:=some (false,1),zero:=some (.val (.int .u64 0)),int:=some .u64 }
 | 13=>{ ld:=some (true,2),zero:=some (.agg (.cons (.val (.string ⟨#[]⟩)) (.cons (.val (.int .u64 0)) .nil))),st:=some [(0,1),(1,1)] }
 | 14=>{ ld:=some (true,2),zero:=some (.agg (.cons (.val (.string ⟨#[]⟩)) (.cons (.val (.int .u64 0)) .nil))),st:=some [(0,1),(1,1)] }
 | 15=>{ ld:=some (false,1),zero:=some (.val (.pointer none)),ptr:=true }
 | 16=>{ ld:=some (false,1),zero:=some (.val (.pointer none)),ptr:=true }
 | 17=>{ ld:=some (false,1),zero:=some (.val (.pointer none)),ptr:=true }
 | 18=>{ ld:=some (true,1),zero:=some (.agg (.cons (.val (.pointer none)) .nil)),st:=some [(0,1)] }
 | 19=>{ ld:=some (true,1),zero:=some (.agg (.cons (.val (.pointer none)) .nil)),st:=some [(0,1)] }
 | 21=>{ ld:=some (false,1),zero:=some (.val (.int .i32 0)),int:=some .i32 }
 | 22=>{ sl:=some (55,8,72,(.agg #[.int .i64 0,.int .i64 0,.int .i64 0,.int .i64 0,.int .i64 0,.int .i64 0,.int .i64 0,.string ⟨#[]⟩])),ld:=some (false,1),zero:=some (.sl true (.slice none 0 0) 8 .nil) }
 | 23=>{ ld:=some (false,1),zero:=some (.val (.pointer none)),ptr:=true }
 | 24=>{ ld:=some (false,1),zero:=some (.val (.pointer none)),ptr:=true }
 | 25=>{ ld:=some (true,2),zero:=some (.agg (.cons (.val (.pointer none)) (.cons (.val (.pointer none)) .nil))),st:=some [(0,1),(1,1)] }
 | 26=>{ ld:=some (true,2),zero:=some (.agg (.cons (.val (.pointer none)) (.cons (.val (.pointer none)) .nil))),st:=some [(0,1),(1,1)] }
 | 30=>{ ld:=some (false,1),zero:=some (.val (.int .u64 0)),int:=some .u64 }
 | 31=>{ ld:=some (false,1),zero:=some (.val (.pointer none)),ptr:=true }
 | 32=>{ sl:=some (127,7,72,(.agg #[.int .i64 0,.int .i64 0,.string ⟨#[]⟩,.int .i64 0,.int .i64 0,.int .i64 0,.string ⟨#[]⟩])),ld:=some (false,1),zero:=some (.sl true (.slice none 0 0) 7 .nil) }
 | 33=>{ sl:=some (3,1,8,(.int .i64 0)),ld:=some (false,1),zero:=some (.sl true (.slice none 0 0) 1 .nil) }
 | 34=>{ ld:=some (true,4),zero:=some (.agg (.cons (.val (.bool false)) (.cons (.val (.pointer none)) (.cons (.sl true (.slice none 0 0) 7 .nil) (.cons (.sl true (.slice none 0 0) 1 .nil) .nil))))),st:=some [(0,1),(1,1),(2,1),(3,1)] }
 | 35=>{ ld:=some (true,4),zero:=some (.agg (.cons (.val (.bool false)) (.cons (.val (.pointer none)) (.cons (.sl true (.slice none 0 0) 7 .nil) (.cons (.sl true (.slice none 0 0) 1 .nil) .nil))))),st:=some [(0,1),(1,1),(2,1),(3,1)] }
 | 37=>{ ld:=some (false,1),zero:=some (.val (.int .i64 0)),int:=some .i64 }
 | 40=>{ ld:=some (true,4),zero:=some (.agg (.cons (.val (.int .i64 0)) (.cons (.val (.int .i64 0)) (.cons (.val (.int .i64 0)) (.cons (.val (.string ⟨#[]⟩)) .nil))))),st:=some [(0,1),(1,1),(2,1),(3,1)] }
 | 41=>{ ld:=some (true,4),zero:=some (.agg (.cons (.val (.int .i64 0)) (.cons (.val (.int .i64 0)) (.cons (.val (.int .i64 0)) (.cons (.val (.string ⟨#[]⟩)) .nil))))),st:=some [(0,1),(1,1),(2,1),(3,1)] }
 | 42=>{ ld:=some (true,6),zero:=some (.agg (.cons (.agg (.cons (.val (.int .i64 0)) (.cons (.val (.int .i64 0)) (.cons (.val (.int .i64 0)) (.cons (.val (.string ⟨#[]⟩)) .nil))))) (.cons (.val (.int .i64 0)) (.cons (.val (.int .i64 0)) .nil)))),st:=some [(0,4),(4,1),(5,1)] }
 | 43=>{ ld:=some (true,6),zero:=some (.agg (.cons (.agg (.cons (.val (.int .i64 0)) (.cons (.val (.int .i64 0)) (.cons (.val (.int .i64 0)) (.cons (.val (.string ⟨#[]⟩)) .nil))))) (.cons (.val (.int .i64 0)) (.cons (.val (.int .i64 0)) .nil)))),st:=some [(0,4),(4,1),(5,1)] }
 | 51=>{ ld:=some (false,1),zero:=some (.val (.pointer none)),ptr:=true }
 | 54=>{ ld:=some (true,8),zero:=some (.agg (.cons (.val (.int .i64 0)) (.cons (.val (.int .i64 0)) (.cons (.val (.int .i64 0)) (.cons (.val (.int .i64 0)) (.cons (.val (.int .i64 0)) (.cons (.val (.int .i64 0)) (.cons (.val (.int .i64 0)) (.cons (.val (.string ⟨#[]⟩)) .nil))))))))),st:=some [(0,1),(1,1),(2,1),(3,1),(4,1),(5,1),(6,1),(7,1)] }
 | 55=>{ ld:=some (true,8),zero:=some (.agg (.cons (.val (.int .i64 0)) (.cons (.val (.int .i64 0)) (.cons (.val (.int .i64 0)) (.cons (.val (.int .i64 0)) (.cons (.val (.int .i64 0)) (.cons (.val (.int .i64 0)) (.cons (.val (.int .i64 0)) (.cons (.val (.string ⟨#[]⟩)) .nil))))))))),st:=some [(0,1),(1,1),(2,1),(3,1),(4,1),(5,1),(6,1),(7,1)] }
 | 57=>{ ld:=some (true,9),zero:=some (.agg (.cons (.val (.int .i64 0)) (.cons (.val (.int .i64 0)) (.cons (.val (.int .i64 0)) (.cons (.val (.int .i64 0)) (.cons (.val (.int .i64 0)) (.cons (.val (.int .i64 0)) (.cons (.val (.string ⟨#[]⟩)) (.cons (.val (.bool false)) (.cons (.sl true (.slice none 0 0) 1 .nil) .nil)))))))))),st:=some [(0,1),(1,1),(2,1),(3,1),(4,1),(5,1),(6,1),(7,1),(8,1)] }
 | 58=>{ ld:=some (true,9),zero:=some (.agg (.cons (.val (.int .i64 0)) (.cons (.val (.int .i64 0)) (.cons (.val (.int .i64 0)) (.cons (.val (.int .i64 0)) (.cons (.val (.int .i64 0)) (.cons (.val (.int .i64 0)) (.cons (.val (.string ⟨#[]⟩)) (.cons (.val (.bool false)) (.cons (.sl true (.slice none 0 0) 1 .nil) .nil)))))))))),st:=some [(0,1),(1,1),(2,1),(3,1),(4,1),(5,1),(6,1),(7,1),(8,1)] }
 | 63=>{ sl:=some (43,6,56,(.agg #[.int .i64 0,.int .i64 0,.int .i64 0,.string ⟨#[]⟩,.int .i64 0,.int .i64 0])),ld:=some (false,1),zero:=some (.sl true (.slice none 0 0) 6 .nil) }
 | 72=>{ sl:=some (5,1,1,(.int .u8 0)),ld:=some (false,1),zero:=some (.sl true (.slice none 0 0) 1 .nil) }
 | 73=>{ sl:=some (147,6,80,(.agg #[.int .i64 0,.int .i64 0,.int .i64 0,.int .i64 0,.slice none 0 0,.slice none 0 0])),ld:=some (false,1),zero:=some (.sl true (.slice none 0 0) 6 .nil) }
 | 74=>{ ld:=some (true,2),zero:=some (.agg (.cons (.val (.bool false)) (.cons (.sl true (.slice none 0 0) 6 .nil) .nil))),st:=some [(0,1),(1,1)] }
 | 75=>{ ld:=some (true,2),zero:=some (.agg (.cons (.val (.bool false)) (.cons (.sl true (.slice none 0 0) 6 .nil) .nil))),st:=some [(0,1),(1,1)] }
 | 78=>{ ld:=some (true,2),zero:=some (.agg (.cons (.val (.int .i64 0)) (.cons (.val (.int .i64 0)) .nil))),st:=some [(0,1),(1,1)] }
 | 79=>{ ld:=some (true,2),zero:=some (.agg (.cons (.val (.int .i64 0)) (.cons (.val (.int .i64 0)) .nil))),st:=some [(0,1),(1,1)] }
 | 81=>{ ld:=some (false,1),zero:=some (.val (.map none)),mp:=some (41,.str) }
 | 82=>{ ld:=some (false,1),zero:=some (.val (.map none)),mp:=some (81,.two) }
 | 83=>{ ld:=some (false,1),zero:=some (.val (.map none)),mp:=some (4,.int .i64) }
 | 84=>{ ld:=some (true,3),zero:=some (.agg (.cons (.val (.pointer none)) (.cons (.val (.map none)) (.cons (.val (.map none)) .nil)))),st:=some [(0,1),(1,1),(2,1)] }
 | 85=>{ ld:=some (true,3),zero:=some (.agg (.cons (.val (.pointer none)) (.cons (.val (.map none)) (.cons (.val (.map none)) .nil)))),st:=some [(0,1),(1,1),(2,1)] }
 | 89=>{ sl:=some (9,1,16,(.string ⟨#[]⟩)),ld:=some (false,1),zero:=some (.sl true (.slice none 0 0) 1 .nil) }
 | 106=>{ ld:=some (true,6),zero:=some (.agg (.cons (.val (.int .i64 0)) (.cons (.val (.int .i64 0)) (.cons (.val (.int .i64 0)) (.cons (.val (.int .i64 0)) (.cons (.sl true (.slice none 0 0) 1 .nil) (.cons (.sl true (.slice none 0 0) 1 .nil) .nil))))))),st:=some [(0,1),(1,1),(2,1),(3,1),(4,1),(5,1)] }
 | 107=>{ ld:=some (true,6),zero:=some (.agg (.cons (.val (.int .i64 0)) (.cons (.val (.int .i64 0)) (.cons (.val (.int .i64 0)) (.cons (.val (.int .i64 0)) (.cons (.sl true (.slice none 0 0) 1 .nil) (.cons (.sl true (.slice none 0 0) 1 .nil) .nil))))))),st:=some [(0,1),(1,1),(2,1),(3,1),(4,1),(5,1)] }
 | 108=>{ sl:=some (107,6,80,(.agg #[.int .i64 0,.int .i64 0,.int .i64 0,.int .i64 0,.slice none 0 0,.slice none 0 0])),ld:=some (false,1),zero:=some (.sl true (.slice none 0 0) 6 .nil) }
 | 109=>{ ld:=some (true,1),zero:=some (.agg (.cons (.sl true (.slice none 0 0) 6 .nil) .nil)),st:=some [(0,1)] }
 | 110=>{ ld:=some (true,1),zero:=some (.agg (.cons (.sl true (.slice none 0 0) 6 .nil) .nil)),st:=some [(0,1)] }
 | 119=>{ sl:=some (79,2,16,(.agg #[.int .i64 0,.int .i64 0])),ld:=some (false,1),zero:=some (.sl true (.slice none 0 0) 2 .nil) }
 | 125=>{ ld:=some (true,4),zero:=some (.agg (.cons (.val (.int .i64 0)) (.cons (.val (.int .i64 0)) (.cons (.val (.int .i64 0)) (.cons (.val (.string ⟨#[]⟩)) .nil))))),st:=some [(0,1),(1,1),(2,1),(3,1)] }
 | 126=>{ ld:=some (true,7),zero:=some (.agg (.cons (.val (.int .i64 0)) (.cons (.val (.int .i64 0)) (.cons (.val (.string ⟨#[]⟩)) (.cons (.agg (.cons (.val (.int .i64 0)) (.cons (.val (.int .i64 0)) (.cons (.val (.int .i64 0)) (.cons (.val (.string ⟨#[]⟩)) .nil))))) .nil))))),st:=some [(0,1),(1,1),(2,1),(3,4)] }
 | 127=>{ ld:=some (true,7),zero:=some (.agg (.cons (.val (.int .i64 0)) (.cons (.val (.int .i64 0)) (.cons (.val (.string ⟨#[]⟩)) (.cons (.agg (.cons (.val (.int .i64 0)) (.cons (.val (.int .i64 0)) (.cons (.val (.int .i64 0)) (.cons (.val (.string ⟨#[]⟩)) .nil))))) .nil))))),st:=some [(0,1),(1,1),(2,1),(3,4)] }
 | 129=>{ ld:=some (false,1),zero:=some (.val (.map none)),mp:=some (4,.str) }
 | 132=>{ ld:=some (true,6),zero:=some (.agg (.cons (.agg (.cons (.val (.int .i64 0)) (.cons (.val (.int .i64 0)) (.cons (.val (.int .i64 0)) (.cons (.val (.string ⟨#[]⟩)) .nil))))) (.cons (.val (.int .i64 0)) (.cons (.val (.int .i64 0)) .nil)))),st:=some [(0,4),(4,1),(5,1)] }
 | 133=>{ ld:=some (true,6),zero:=some (.agg (.cons (.agg (.cons (.val (.int .i64 0)) (.cons (.val (.int .i64 0)) (.cons (.val (.int .i64 0)) (.cons (.val (.string ⟨#[]⟩)) .nil))))) (.cons (.val (.int .i64 0)) (.cons (.val (.int .i64 0)) .nil)))),st:=some [(0,4),(4,1),(5,1)] }
 | 138=>{ sl:=some (133,6,56,(.agg #[.int .i64 0,.int .i64 0,.int .i64 0,.string ⟨#[]⟩,.int .i64 0,.int .i64 0])),ld:=some (false,1),zero:=some (.sl true (.slice none 0 0) 6 .nil) }
 | 146=>{ ld:=some (true,6),zero:=some (.agg (.cons (.val (.int .i64 0)) (.cons (.val (.int .i64 0)) (.cons (.val (.int .i64 0)) (.cons (.val (.int .i64 0)) (.cons (.sl true (.slice none 0 0) 1 .nil) (.cons (.sl true (.slice none 0 0) 1 .nil) .nil))))))),st:=some [(0,1),(1,1),(2,1),(3,1),(4,1),(5,1)] }
 | 147=>{ ld:=some (true,6),zero:=some (.agg (.cons (.val (.int .i64 0)) (.cons (.val (.int .i64 0)) (.cons (.val (.int .i64 0)) (.cons (.val (.int .i64 0)) (.cons (.sl true (.slice none 0 0) 1 .nil) (.cons (.sl true (.slice none 0 0) 1 .nil) .nil))))))),st:=some [(0,1),(1,1),(2,1),(3,1),(4,1),(5,1)] }
 | 153=>{ ld:=some (false,1),zero:=some (.val (.pointer none)),ptr:=true }
 | 154=>{ ld:=some (false,1),zero:=some (.val (.pointer none)),ptr:=true }
 | 160=>{ ld:=some (false,1),zero:=some (.val (.map none)),mp:=some (33,.int .i64) }
 | 161=>{ ld:=some (false,1),zero:=some (.val (.map none)),mp:=some (33,.int .i64) }
 | 169=>{ sl:=some (33,1,24,(.slice none 0 0)),ld:=some (false,1),zero:=some (.sl true (.slice none 0 0) 1 .nil) }
 | 179=>{ ld:=some (false,1),zero:=some (.val (.pointer none)),ptr:=true }
 | 180=>{ sl:=some (4,1,1,(.bool false)),ld:=some (false,1),zero:=some (.sl true (.slice none 0 0) 1 .nil) }
 | 181=>{ ld:=some (true,2),zero:=some (.agg (.cons (.sl true (.slice none 0 0) 1 .nil) (.cons (.sl true (.slice none 0 0) 1 .nil) .nil))),st:=some [(0,1),(1,1)] }
 | 182=>{ ld:=some (true,2),zero:=some (.agg (.cons (.sl true (.slice none 0 0) 1 .nil) (.cons (.sl true (.slice none 0 0) 1 .nil) .nil))),st:=some [(0,1),(1,1)] }
 | 186=>{ ld:=some (false,1),zero:=some (.val (.int .i64 0)),int:=some .i64 }
 | 195=>{ ld:=some (false,1),zero:=some (.val (.int .u32 0)),int:=some .u32 }
 | 197=>{ ld:=some (false,1),zero:=some (.val (.int .u64 0)),int:=some .u64 }
 | 202=>{ ld:=some (false,1),zero:=some (.val (.int .u64 0)),int:=some .u64 }
 | 206=>{ ld:=some (false,1),zero:=some (.val (.pointer none)),ptr:=true }
 | 208=>{ ld:=some (false,1),zero:=some (.val (.pointer none)),ptr:=true }
 | _=>{}
theorem aef:cn 3={ ld:=some (false,1),zero:=some (.val (.int .i64 0)),int:=some .i64 }:=rfl
theorem aeg:cn 4={ ld:=some (false,1),zero:=some (.val (.bool false)),bool:=true }:=rfl
theorem aeh:cn 5={ ld:=some (false,1),zero:=some (.val (.int .u8 0)),int:=some .u8 }:=rfl
theorem aei:cn 9={ ld:=some (false,1),zero:=some (.val (.string ⟨#[]⟩)),str:=true }:=rfl
theorem aaw:cn 22={ sl:=some (55,8,72,(.agg #[.int .i64 0,.int .i64 0,.int .i64 0,.int .i64 0,.int .i64 0,.int .i64 0,.int .i64 0,.string ⟨#[]⟩])),ld:=some (false,1),zero:=some (.sl true (.slice none 0 0) 8 .nil) }:=rfl
theorem aax:cn 23={ ld:=some (false,1),zero:=some (.val (.pointer none)),ptr:=true }:=rfl
theorem aay:cn 24={ ld:=some (false,1),zero:=some (.val (.pointer none)),ptr:=true }:=rfl
theorem aaz:cn 26={ ld:=some (true,2),zero:=some (.agg (.cons (.val (.pointer none)) (.cons (.val (.pointer none)) .nil))),st:=some [(0,1),(1,1)] }:=rfl
theorem aaA:cn 30={ ld:=some (false,1),zero:=some (.val (.int .u64 0)),int:=some .u64 }:=rfl
theorem aaB:cn 31={ ld:=some (false,1),zero:=some (.val (.pointer none)),ptr:=true }:=rfl
theorem aaC:cn 32={ sl:=some (127,7,72,(.agg #[.int .i64 0,.int .i64 0,.string ⟨#[]⟩,.int .i64 0,.int .i64 0,.int .i64 0,.string ⟨#[]⟩])),ld:=some (false,1),zero:=some (.sl true (.slice none 0 0) 7 .nil) }:=rfl
theorem aaD:cn 33={ sl:=some (3,1,8,(.int .i64 0)),ld:=some (false,1),zero:=some (.sl true (.slice none 0 0) 1 .nil) }:=rfl
theorem aaE:cn 35={ ld:=some (true,4),zero:=some (.agg (.cons (.val (.bool false)) (.cons (.val (.pointer none)) (.cons (.sl true (.slice none 0 0) 7 .nil) (.cons (.sl true (.slice none 0 0) 1 .nil) .nil))))),st:=some [(0,1),(1,1),(2,1),(3,1)] }:=rfl
theorem aaF:cn 41={ ld:=some (true,4),zero:=some (.agg (.cons (.val (.int .i64 0)) (.cons (.val (.int .i64 0)) (.cons (.val (.int .i64 0)) (.cons (.val (.string ⟨#[]⟩)) .nil))))),st:=some [(0,1),(1,1),(2,1),(3,1)] }:=rfl
theorem aaG:cn 43={ ld:=some (true,6),zero:=some (.agg (.cons (.agg (.cons (.val (.int .i64 0)) (.cons (.val (.int .i64 0)) (.cons (.val (.int .i64 0)) (.cons (.val (.string ⟨#[]⟩)) .nil))))) (.cons (.val (.int .i64 0)) (.cons (.val (.int .i64 0)) .nil)))),st:=some [(0,4),(4,1),(5,1)] }:=rfl
theorem aaH:cn 51={ ld:=some (false,1),zero:=some (.val (.pointer none)),ptr:=true }:=rfl
theorem aaI:cn 55={ ld:=some (true,8),zero:=some (.agg (.cons (.val (.int .i64 0)) (.cons (.val (.int .i64 0)) (.cons (.val (.int .i64 0)) (.cons (.val (.int .i64 0)) (.cons (.val (.int .i64 0)) (.cons (.val (.int .i64 0)) (.cons (.val (.int .i64 0)) (.cons (.val (.string ⟨#[]⟩)) .nil))))))))),st:=some [(0,1),(1,1),(2,1),(3,1),(4,1),(5,1),(6,1),(7,1)] }:=rfl
theorem aaJ:cn 63={ sl:=some (43,6,56,(.agg #[.int .i64 0,.int .i64 0,.int .i64 0,.string ⟨#[]⟩,.int .i64 0,.int .i64 0])),ld:=some (false,1),zero:=some (.sl true (.slice none 0 0) 6 .nil) }:=rfl
theorem aaK:cn 72={ sl:=some (5,1,1,(.int .u8 0)),ld:=some (false,1),zero:=some (.sl true (.slice none 0 0) 1 .nil) }:=rfl
theorem aaL:cn 73={ sl:=some (147,6,80,(.agg #[.int .i64 0,.int .i64 0,.int .i64 0,.int .i64 0,.slice none 0 0,.slice none 0 0])),ld:=some (false,1),zero:=some (.sl true (.slice none 0 0) 6 .nil) }:=rfl
theorem aaM:cn 75={ ld:=some (true,2),zero:=some (.agg (.cons (.val (.bool false)) (.cons (.sl true (.slice none 0 0) 6 .nil) .nil))),st:=some [(0,1),(1,1)] }:=rfl
theorem aaN:cn 79={ ld:=some (true,2),zero:=some (.agg (.cons (.val (.int .i64 0)) (.cons (.val (.int .i64 0)) .nil))),st:=some [(0,1),(1,1)] }:=rfl
theorem aaO:cn 81={ ld:=some (false,1),zero:=some (.val (.map none)),mp:=some (41,.str) }:=rfl
theorem aaP:cn 82={ ld:=some (false,1),zero:=some (.val (.map none)),mp:=some (81,.two) }:=rfl
theorem aaQ:cn 83={ ld:=some (false,1),zero:=some (.val (.map none)),mp:=some (4,.int .i64) }:=rfl
theorem aaR:cn 85={ ld:=some (true,3),zero:=some (.agg (.cons (.val (.pointer none)) (.cons (.val (.map none)) (.cons (.val (.map none)) .nil)))),st:=some [(0,1),(1,1),(2,1)] }:=rfl
theorem aaS:cn 89={ sl:=some (9,1,16,(.string ⟨#[]⟩)),ld:=some (false,1),zero:=some (.sl true (.slice none 0 0) 1 .nil) }:=rfl
theorem WG:cn 107={ ld:=some (true,6),zero:=some (.agg (.cons (.val (.int .i64 0)) (.cons (.val (.int .i64 0)) (.cons (.val (.int .i64 0)) (.cons (.val (.int .i64 0)) (.cons (.sl true (.slice none 0 0) 1 .nil) (.cons (.sl true (.slice none 0 0) 1 .nil) .nil))))))),st:=some [(0,1),(1,1),(2,1),(3,1),(4,1),(5,1)] }:=rfl
theorem WH:cn 108={ sl:=some (107,6,80,(.agg #[.int .i64 0,.int .i64 0,.int .i64 0,.int .i64 0,.slice none 0 0,.slice none 0 0])),ld:=some (false,1),zero:=some (.sl true (.slice none 0 0) 6 .nil) }:=rfl
theorem WI:cn 110={ ld:=some (true,1),zero:=some (.agg (.cons (.sl true (.slice none 0 0) 6 .nil) .nil)),st:=some [(0,1)] }:=rfl
theorem WJ:cn 119={ sl:=some (79,2,16,(.agg #[.int .i64 0,.int .i64 0])),ld:=some (false,1),zero:=some (.sl true (.slice none 0 0) 2 .nil) }:=rfl
theorem WK:cn 125={ ld:=some (true,4),zero:=some (.agg (.cons (.val (.int .i64 0)) (.cons (.val (.int .i64 0)) (.cons (.val (.int .i64 0)) (.cons (.val (.string ⟨#[]⟩)) .nil))))),st:=some [(0,1),(1,1),(2,1),(3,1)] }:=rfl
theorem WL:cn 127={ ld:=some (true,7),zero:=some (.agg (.cons (.val (.int .i64 0)) (.cons (.val (.int .i64 0)) (.cons (.val (.string ⟨#[]⟩)) (.cons (.agg (.cons (.val (.int .i64 0)) (.cons (.val (.int .i64 0)) (.cons (.val (.int .i64 0)) (.cons (.val (.string ⟨#[]⟩)) .nil))))) .nil))))),st:=some [(0,1),(1,1),(2,1),(3,4)] }:=rfl
theorem WM:cn 129={ ld:=some (false,1),zero:=some (.val (.map none)),mp:=some (4,.str) }:=rfl
theorem WN:cn 133={ ld:=some (true,6),zero:=some (.agg (.cons (.agg (.cons (.val (.int .i64 0)) (.cons (.val (.int .i64 0)) (.cons (.val (.int .i64 0)) (.cons (.val (.string ⟨#[]⟩)) .nil))))) (.cons (.val (.int .i64 0)) (.cons (.val (.int .i64 0)) .nil)))),st:=some [(0,4),(4,1),(5,1)] }:=rfl
theorem WO:cn 138={ sl:=some (133,6,56,(.agg #[.int .i64 0,.int .i64 0,.int .i64 0,.string ⟨#[]⟩,.int .i64 0,.int .i64 0])),ld:=some (false,1),zero:=some (.sl true (.slice none 0 0) 6 .nil) }:=rfl
theorem WQ:cn 147={ ld:=some (true,6),zero:=some (.agg (.cons (.val (.int .i64 0)) (.cons (.val (.int .i64 0)) (.cons (.val (.int .i64 0)) (.cons (.val (.int .i64 0)) (.cons (.sl true (.slice none 0 0) 1 .nil) (.cons (.sl true (.slice none 0 0) 1 .nil) .nil))))))),st:=some [(0,1),(1,1),(2,1),(3,1),(4,1),(5,1)] }:=rfl
theorem WR:cn 161={ ld:=some (false,1),zero:=some (.val (.map none)),mp:=some (33,.int .i64) }:=rfl
theorem WS:cn 169={ sl:=some (33,1,24,(.slice none 0 0)),ld:=some (false,1),zero:=some (.sl true (.slice none 0 0) 1 .nil) }:=rfl
theorem WT:cn 180={ sl:=some (4,1,1,(.bool false)),ld:=some (false,1),zero:=some (.sl true (.slice none 0 0) 1 .nil) }:=rfl
theorem WU:cn 182={ ld:=some (true,2),zero:=some (.agg (.cons (.sl true (.slice none 0 0) 1 .nil) (.cons (.sl true (.slice none 0 0) 1 .nil) .nil))),st:=some [(0,1),(1,1)] }:=rfl
def aaT:=@aef
def aaU:=@aeg
def aaV:=@aeh
def aaW:=@aei
def WV:=@aaw
def WW:=@aax
def WX:=@aay
def WY:=@aaz
def WZ:=@aaA
def W3:=@aaB
def W4:=@aaC
def W5:=@aaD
def W6:=@aaE
def W7:=@aaF
def W8:=@aaG
def W9:=@aaH
def Xa:=@aaI
def Xb:=@aaJ
def Xc:=@aaK
def Xd:=@aaL
def Xe:=@aaM
def Xf:=@aaN
def Xg:=@aaO
def Xh:=@aaP
def Xi:=@aaQ
def Xj:=@aaR
def Xk:=@aaS
def R4:=@WG
def R5:=@WH
def R6:=@WI
def R7:=@WJ
def R8:=@WK
def R9:=@WL
def Sa:=@WM
def Sb:=@WN
def Sd:=@WO
def Se:=@WQ
def Sf:=@WR
def Sg:=@WS
def Sh:=@WT
def Si:=@WU
attribute [simp] aaT aaU aaV aaW WV WW WX WY WZ W3 W4 W5 W6 W7 W8 W9 Xa Xb Xc Xd Xe Xf Xg Xh Xi Xj Xk R4 R5 R6 R7 R8 R9 Sa Sb Sd Se Sf Sg Sh Si
theorem Xl:(cn 2).Ok Tryz.prog 2:=.fE Tryz.t2 (.int .i64 0) rfl rfl (int:=by intro k h;cases h;kernel_rfl)
theorem Xm:(cn 3).Ok Tryz.prog 3:=.fE Tryz.t3 (.int .i64 0) rfl rfl (int:=by intro k h;cases h;kernel_rfl)
theorem Xn:(cn 4).Ok Tryz.prog 4:=.fE Tryz.t4 (.bool false) rfl rfl (bool:=by intro _;kernel_rfl)
theorem Xo:(cn 5).Ok Tryz.prog 5:=.fE Tryz.t5 (.int .u8 0) rfl rfl (int:=by intro k h;cases h;kernel_rfl)
theorem Xp:(cn 6).Ok Tryz.prog 6:=.fE Tryz.t6 (.int .u8 0) rfl rfl (int:=by intro k h;cases h;kernel_rfl)
theorem Xq:(cn 7).Ok Tryz.prog 7:=.fE Tryz.t7 (.agg #[.int .i64 0,.int .i64 0,.bool false,.int .u8 0]) rfl rfl (st:=by intro l h;cases h;exact⟨_,Tryz.underlying7,by kernel_rfl,(by exact all_some (by kernel_rfl)),by kernel_rfl⟩)
theorem Xr:(cn 8).Ok Tryz.prog 8:=.fE Tryz.t8 (.agg #[.int .i64 0,.int .i64 0,.bool false,.int .u8 0]) rfl rfl (st:=by intro l h;cases h;exact⟨_,Tryz.underlying8,by kernel_rfl,(by exact all_some (by kernel_rfl)),by kernel_rfl⟩)
theorem Xs:(cn 9).Ok Tryz.prog 9:=.fE Tryz.t9 (.string ⟨#[]⟩) rfl rfl (str:=by intro _;kernel_rfl)
theorem Sj:(cn 10).Ok Tryz.prog 10:=.fE Tryz.t10 (.string ⟨#[]⟩) rfl rfl (str:=by intro _;kernel_rfl)
theorem Sk:(cn 11).Ok Tryz.prog 11:=.fE Tryz.t11 (.string ⟨#[]⟩) rfl rfl (str:=by intro _;kernel_rfl)
theorem Sl:(cn 12).Ok Tryz.prog 12:=.fE Tryz.t12 (.int .u64 0) rfl rfl (int:=by intro k h;cases h;kernel_rfl)
theorem Sm:(cn 13).Ok Tryz.prog 13:=.fE Tryz.t13 (.agg #[.string ⟨#[]⟩,.int .u64 0]) rfl rfl (st:=by intro l h;cases h;exact⟨_,Tryz.underlying13,by kernel_rfl,(by exact all_some (by kernel_rfl)),by kernel_rfl⟩)
theorem Sn:(cn 14).Ok Tryz.prog 14:=.fE Tryz.t14 (.agg #[.string ⟨#[]⟩,.int .u64 0]) rfl rfl (st:=by intro l h;cases h;exact⟨_,Tryz.underlying14,by kernel_rfl,(by exact all_some (by kernel_rfl)),by kernel_rfl⟩)
theorem Sq:(cn 15).Ok Tryz.prog 15:=.fE Tryz.t15 (.pointer none) rfl rfl (ptr:=by intro _;exact⟨213,by kernel_rfl⟩)
theorem Sr:(cn 16).Ok Tryz.prog 16:=.fE Tryz.t16 (.pointer none) rfl rfl (ptr:=by intro _;exact⟨216,by kernel_rfl⟩)
theorem Ss:(cn 17).Ok Tryz.prog 17:=.fE Tryz.t17 (.pointer none) rfl rfl (ptr:=by intro _;exact⟨224,by kernel_rfl⟩)
theorem Su:(cn 18).Ok Tryz.prog 18:=.fE Tryz.t18 (.agg #[.pointer none]) rfl rfl (st:=by intro l h;cases h;exact⟨_,Tryz.underlying18,by kernel_rfl,(by exact all_some (by kernel_rfl)),by kernel_rfl⟩)
theorem Sv:(cn 19).Ok Tryz.prog 19:=.fE Tryz.t19 (.agg #[.pointer none]) rfl rfl (st:=by intro l h;cases h;exact⟨_,Tryz.underlying19,by kernel_rfl,(by exact all_some (by kernel_rfl)),by kernel_rfl⟩)
theorem Sw:(cn 21).Ok Tryz.prog 21:=.fE Tryz.t21 (.int .i32 0) rfl rfl (int:=by intro k h;cases h;kernel_rfl)
theorem Sx:(cn 22).Ok Tryz.prog 22:=.fE Tryz.t22 (.slice none 0 0) rfl rfl (sl:=by intro e z b v h;cases h;exact⟨by kernel_rfl,Tryz.t55,by kernel_rfl,by kernel_rfl,by kernel_rfl,by kernel_rfl,by kernel_rfl⟩)
theorem Sy:(cn 23).Ok Tryz.prog 23:=.fE Tryz.t23 (.pointer none) rfl rfl (ptr:=by intro _;exact⟨85,by kernel_rfl⟩)
theorem Sz:(cn 24).Ok Tryz.prog 24:=.fE Tryz.t24 (.pointer none) rfl rfl (ptr:=by intro _;exact⟨35,by kernel_rfl⟩)
theorem SA:(cn 25).Ok Tryz.prog 25:=.fE Tryz.t25 (.agg #[.pointer none,.pointer none]) rfl rfl (st:=by intro l h;cases h;exact⟨_,Tryz.underlying25,by kernel_rfl,(by exact all_some (by kernel_rfl)),by kernel_rfl⟩)
theorem SB:(cn 26).Ok Tryz.prog 26:=.fE Tryz.t26 (.agg #[.pointer none,.pointer none]) rfl rfl (st:=by intro l h;cases h;exact⟨_,Tryz.underlying26,by kernel_rfl,(by exact all_some (by kernel_rfl)),by kernel_rfl⟩)
theorem SC:(cn 30).Ok Tryz.prog 30:=.fE Tryz.t30 (.int .u64 0) rfl rfl (int:=by intro k h;cases h;kernel_rfl)
theorem SD:(cn 31).Ok Tryz.prog 31:=.fE Tryz.t31 (.pointer none) rfl rfl (ptr:=by intro _;exact⟨75,by kernel_rfl⟩)
theorem SE:(cn 32).Ok Tryz.prog 32:=.fE Tryz.t32 (.slice none 0 0) rfl rfl (sl:=by intro e z b v h;cases h;exact⟨by kernel_rfl,Tryz.t127,by kernel_rfl,by kernel_rfl,by kernel_rfl,by kernel_rfl,by kernel_rfl⟩)
theorem SF:(cn 33).Ok Tryz.prog 33:=.fE Tryz.t33 (.slice none 0 0) rfl rfl (sl:=by intro e z b v h;cases h;exact⟨by kernel_rfl,Tryz.t3,by kernel_rfl,by kernel_rfl,by kernel_rfl,by kernel_rfl,by kernel_rfl⟩)
theorem SG:(cn 34).Ok Tryz.prog 34:=.fE Tryz.t34 (.agg #[.bool false,.pointer none,.slice none 0 0,.slice none 0 0]) rfl rfl (st:=by intro l h;cases h;exact⟨_,Tryz.underlying34,by kernel_rfl,(by exact all_some (by kernel_rfl)),by kernel_rfl⟩)
theorem SH:(cn 35).Ok Tryz.prog 35:=.fE Tryz.t35 (.agg #[.bool false,.pointer none,.slice none 0 0,.slice none 0 0]) rfl rfl (st:=by intro l h;cases h;exact⟨_,Tryz.underlying35,by kernel_rfl,(by exact all_some (by kernel_rfl)),by kernel_rfl⟩)
theorem SI:(cn 37).Ok Tryz.prog 37:=.fE Tryz.t37 (.int .i64 0) rfl rfl (int:=by intro k h;cases h;kernel_rfl)
theorem SJ:(cn 40).Ok Tryz.prog 40:=.fE Tryz.t40 (.agg #[.int .i64 0,.int .i64 0,.int .i64 0,.string ⟨#[]⟩]) rfl rfl (st:=by intro l h;cases h;exact⟨_,Tryz.underlying40,by kernel_rfl,(by exact all_some (by kernel_rfl)),by kernel_rfl⟩)
theorem SK:(cn 41).Ok Tryz.prog 41:=.fE Tryz.t41 (.agg #[.int .i64 0,.int .i64 0,.int .i64 0,.string ⟨#[]⟩]) rfl rfl (st:=by intro l h;cases h;exact⟨_,Tryz.underlying41,by kernel_rfl,(by exact all_some (by kernel_rfl)),by kernel_rfl⟩)
theorem SL:(cn 42).Ok Tryz.prog 42:=.fE Tryz.t42 (.agg #[.int .i64 0,.int .i64 0,.int .i64 0,.string ⟨#[]⟩,.int .i64 0,.int .i64 0]) rfl rfl (st:=by intro l h;cases h;exact⟨_,Tryz.underlying42,by kernel_rfl,(by exact all_some (by kernel_rfl)),by kernel_rfl⟩)
theorem SM:(cn 43).Ok Tryz.prog 43:=.fE Tryz.t43 (.agg #[.int .i64 0,.int .i64 0,.int .i64 0,.string ⟨#[]⟩,.int .i64 0,.int .i64 0]) rfl rfl (st:=by intro l h;cases h;exact⟨_,Tryz.underlying43,by kernel_rfl,(by exact all_some (by kernel_rfl)),by kernel_rfl⟩)
theorem SN:(cn 51).Ok Tryz.prog 51:=.fE Tryz.t51 (.pointer none) rfl rfl (ptr:=by intro _;exact⟨110,by kernel_rfl⟩)
theorem SO:(cn 54).Ok Tryz.prog 54:=.fE Tryz.t54 (.agg #[.int .i64 0,.int .i64 0,.int .i64 0,.int .i64 0,.int .i64 0,.int .i64 0,.int .i64 0,.string ⟨#[]⟩]) rfl rfl (st:=by intro l h;cases h;exact⟨_,Tryz.underlying54,by kernel_rfl,(by exact all_some (by kernel_rfl)),by kernel_rfl⟩)
theorem SP:(cn 55).Ok Tryz.prog 55:=.fE Tryz.t55 (.agg #[.int .i64 0,.int .i64 0,.int .i64 0,.int .i64 0,.int .i64 0,.int .i64 0,.int .i64 0,.string ⟨#[]⟩]) rfl rfl (st:=by intro l h;cases h;exact⟨_,Tryz.underlying55,by kernel_rfl,(by exact all_some (by kernel_rfl)),by kernel_rfl⟩)
theorem SQ:(cn 57).Ok Tryz.prog 57:=.fE Tryz.t57 (.agg #[.int .i64 0,.int .i64 0,.int .i64 0,.int .i64 0,.int .i64 0,.int .i64 0,.string ⟨#[]⟩,.bool false,.slice none 0 0]) rfl rfl (st:=by intro l h;cases h;exact⟨_,Tryz.underlying57,by kernel_rfl,(by exact all_some (by kernel_rfl)),by kernel_rfl⟩)
theorem SR:(cn 58).Ok Tryz.prog 58:=.fE Tryz.t58 (.agg #[.int .i64 0,.int .i64 0,.int .i64 0,.int .i64 0,.int .i64 0,.int .i64 0,.string ⟨#[]⟩,.bool false,.slice none 0 0]) rfl rfl (st:=by intro l h;cases h;exact⟨_,Tryz.underlying58,by kernel_rfl,(by exact all_some (by kernel_rfl)),by kernel_rfl⟩)
theorem SS:(cn 63).Ok Tryz.prog 63:=.fE Tryz.t63 (.slice none 0 0) rfl rfl (sl:=by intro e z b v h;cases h;exact⟨by kernel_rfl,Tryz.t43,by kernel_rfl,by kernel_rfl,by kernel_rfl,by kernel_rfl,by kernel_rfl⟩)
theorem SU:(cn 72).Ok Tryz.prog 72:=.fE Tryz.t72 (.slice none 0 0) rfl rfl (sl:=by intro e z b v h;cases h;exact⟨by kernel_rfl,Tryz.t5,by kernel_rfl,by kernel_rfl,by kernel_rfl,by kernel_rfl,by kernel_rfl⟩)
theorem SV:(cn 73).Ok Tryz.prog 73:=.fE Tryz.t73 (.slice none 0 0) rfl rfl (sl:=by intro e z b v h;cases h;exact⟨by kernel_rfl,Tryz.t147,by kernel_rfl,by kernel_rfl,by kernel_rfl,by kernel_rfl,by kernel_rfl⟩)
theorem SW:(cn 74).Ok Tryz.prog 74:=.fE Tryz.t74 (.agg #[.bool false,.slice none 0 0]) rfl rfl (st:=by intro l h;cases h;exact⟨_,Tryz.underlying74,by kernel_rfl,(by exact all_some (by kernel_rfl)),by kernel_rfl⟩)
theorem SX:(cn 75).Ok Tryz.prog 75:=.fE Tryz.t75 (.agg #[.bool false,.slice none 0 0]) rfl rfl (st:=by intro l h;cases h;exact⟨_,Tryz.underlying75,by kernel_rfl,(by exact all_some (by kernel_rfl)),by kernel_rfl⟩)
theorem SY:(cn 78).Ok Tryz.prog 78:=.fE Tryz.t78 (.agg #[.int .i64 0,.int .i64 0]) rfl rfl (st:=by intro l h;cases h;exact⟨_,Tryz.underlying78,by kernel_rfl,(by exact all_some (by kernel_rfl)),by kernel_rfl⟩)
theorem SZ:(cn 79).Ok Tryz.prog 79:=.fE Tryz.t79 (.agg #[.int .i64 0,.int .i64 0]) rfl rfl (st:=by intro l h;cases h;exact⟨_,Tryz.underlying79,by kernel_rfl,(by exact all_some (by kernel_rfl)),by kernel_rfl⟩)
theorem S0:(cn 81).Ok Tryz.prog 81:=.fE Tryz.t81 (.map none) rfl rfl (mp:=by intro e k h;cases h;exact⟨9,by kernel_rfl,.str (by kernel_rfl)⟩)
theorem S1:(cn 82).Ok Tryz.prog 82:=.fE Tryz.t82 (.map none) rfl rfl (mp:=by intro e k h;cases h;exact⟨79,by kernel_rfl,.two Tryz.underlying79 (by kernel_rfl) ⟨by decide,rfl,by kernel_rfl⟩ ⟨by decide,rfl,by kernel_rfl⟩⟩)
theorem S3:(cn 83).Ok Tryz.prog 83:=.fE Tryz.t83 (.map none) rfl rfl (mp:=by intro e k h;cases h;exact⟨3,by kernel_rfl,.int (by kernel_rfl)⟩)
theorem S4:(cn 84).Ok Tryz.prog 84:=.fE Tryz.t84 (.agg #[.pointer none,.map none,.map none]) rfl rfl (st:=by intro l h;cases h;exact⟨_,Tryz.underlying84,by kernel_rfl,(by exact all_some (by kernel_rfl)),by kernel_rfl⟩)
theorem S6:(cn 85).Ok Tryz.prog 85:=.fE Tryz.t85 (.agg #[.pointer none,.map none,.map none]) rfl rfl (st:=by intro l h;cases h;exact⟨_,Tryz.underlying85,by kernel_rfl,(by exact all_some (by kernel_rfl)),by kernel_rfl⟩)
theorem S7:(cn 89).Ok Tryz.prog 89:=.fE Tryz.t89 (.slice none 0 0) rfl rfl (sl:=by intro e z b v h;cases h;exact⟨by kernel_rfl,Tryz.t9,by kernel_rfl,by kernel_rfl,by kernel_rfl,by kernel_rfl,by kernel_rfl⟩)
theorem Me:(cn 106).Ok Tryz.prog 106:=.fE Tryz.t106 (.agg #[.int .i64 0,.int .i64 0,.int .i64 0,.int .i64 0,.slice none 0 0,.slice none 0 0]) rfl rfl (st:=by intro l h;cases h;exact⟨_,Tryz.underlying106,by kernel_rfl,(by exact all_some (by kernel_rfl)),by kernel_rfl⟩)
theorem Mf:(cn 107).Ok Tryz.prog 107:=.fE Tryz.t107 (.agg #[.int .i64 0,.int .i64 0,.int .i64 0,.int .i64 0,.slice none 0 0,.slice none 0 0]) rfl rfl (st:=by intro l h;cases h;exact⟨_,Tryz.underlying107,by kernel_rfl,(by exact all_some (by kernel_rfl)),by kernel_rfl⟩)
theorem Mg:(cn 108).Ok Tryz.prog 108:=.fE Tryz.t108 (.slice none 0 0) rfl rfl (sl:=by intro e z b v h;cases h;exact⟨by kernel_rfl,Tryz.t107,by kernel_rfl,by kernel_rfl,by kernel_rfl,by kernel_rfl,by kernel_rfl⟩)
theorem Mh:(cn 109).Ok Tryz.prog 109:=.fE Tryz.t109 (.agg #[.slice none 0 0]) rfl rfl (st:=by intro l h;cases h;exact⟨_,Tryz.underlying109,by kernel_rfl,(by exact all_some (by kernel_rfl)),by kernel_rfl⟩)
theorem Mi:(cn 110).Ok Tryz.prog 110:=.fE Tryz.t110 (.agg #[.slice none 0 0]) rfl rfl (st:=by intro l h;cases h;exact⟨_,Tryz.underlying110,by kernel_rfl,(by exact all_some (by kernel_rfl)),by kernel_rfl⟩)
theorem Mj:(cn 119).Ok Tryz.prog 119:=.fE Tryz.t119 (.slice none 0 0) rfl rfl (sl:=by intro e z b v h;cases h;exact⟨by kernel_rfl,Tryz.t79,by kernel_rfl,by kernel_rfl,by kernel_rfl,by kernel_rfl,by kernel_rfl⟩)
theorem Mk:(cn 125).Ok Tryz.prog 125:=.fE Tryz.t125 (.agg #[.int .i64 0,.int .i64 0,.int .i64 0,.string ⟨#[]⟩]) rfl rfl (st:=by intro l h;cases h;exact⟨_,Tryz.underlying125,by kernel_rfl,(by exact all_some (by kernel_rfl)),by kernel_rfl⟩)
theorem Ml:(cn 126).Ok Tryz.prog 126:=.fE Tryz.t126 (.agg #[.int .i64 0,.int .i64 0,.string ⟨#[]⟩,.int .i64 0,.int .i64 0,.int .i64 0,.string ⟨#[]⟩]) rfl rfl (st:=by intro l h;cases h;exact⟨_,Tryz.underlying126,by kernel_rfl,(by exact all_some (by kernel_rfl)),by kernel_rfl⟩)
theorem Mm:(cn 127).Ok Tryz.prog 127:=.fE Tryz.t127 (.agg #[.int .i64 0,.int .i64 0,.string ⟨#[]⟩,.int .i64 0,.int .i64 0,.int .i64 0,.string ⟨#[]⟩]) rfl rfl (st:=by intro l h;cases h;exact⟨_,Tryz.underlying127,by kernel_rfl,(by exact all_some (by kernel_rfl)),by kernel_rfl⟩)
theorem Mn:(cn 129).Ok Tryz.prog 129:=.fE Tryz.t129 (.map none) rfl rfl (mp:=by intro e k h;cases h;exact⟨9,by kernel_rfl,.str (by kernel_rfl)⟩)
theorem Mo:(cn 132).Ok Tryz.prog 132:=.fE Tryz.t132 (.agg #[.int .i64 0,.int .i64 0,.int .i64 0,.string ⟨#[]⟩,.int .i64 0,.int .i64 0]) rfl rfl (st:=by intro l h;cases h;exact⟨_,Tryz.underlying132,by kernel_rfl,(by exact all_some (by kernel_rfl)),by kernel_rfl⟩)
theorem Mp:(cn 133).Ok Tryz.prog 133:=.fE Tryz.t133 (.agg #[.int .i64 0,.int .i64 0,.int .i64 0,.string ⟨#[]⟩,.int .i64 0,.int .i64 0]) rfl rfl (st:=by intro l h;cases h;exact⟨_,Tryz.underlying133,by kernel_rfl,(by exact all_some (by kernel_rfl)),by kernel_rfl⟩)
theorem Mq:(cn 138).Ok Tryz.prog 138:=.fE Tryz.t138 (.slice none 0 0) rfl rfl (sl:=by intro e z b v h;cases h;exact⟨by kernel_rfl,Tryz.t133,by kernel_rfl,by kernel_rfl,by kernel_rfl,by kernel_rfl,by kernel_rfl⟩)
theorem Mr:(cn 146).Ok Tryz.prog 146:=.fE Tryz.t146 (.agg #[.int .i64 0,.int .i64 0,.int .i64 0,.int .i64 0,.slice none 0 0,.slice none 0 0]) rfl rfl (st:=by intro l h;cases h;exact⟨_,Tryz.underlying146,by kernel_rfl,(by exact all_some (by kernel_rfl)),by kernel_rfl⟩)
theorem Ms:(cn 147).Ok Tryz.prog 147:=.fE Tryz.t147 (.agg #[.int .i64 0,.int .i64 0,.int .i64 0,.int .i64 0,.slice none 0 0,.slice none 0 0]) rfl rfl (st:=by intro l h;cases h;exact⟨_,Tryz.underlying147,by kernel_rfl,(by exact all_some (by kernel_rfl)),by kernel_rfl⟩)
theorem Mu:(cn 153).Ok Tryz.prog 153:=.fE Tryz.t153 (.pointer none) rfl rfl (ptr:=by intro _;exact⟨107,by kernel_rfl⟩)
theorem Mv:(cn 154).Ok Tryz.prog 154:=.fE Tryz.t154 (.pointer none) rfl rfl (ptr:=by intro _;exact⟨33,by kernel_rfl⟩)
theorem Mw:(cn 160).Ok Tryz.prog 160:=.fE Tryz.t160 (.map none) rfl rfl (mp:=by intro e k h;cases h;exact⟨3,by kernel_rfl,.int (by kernel_rfl)⟩)
theorem Mx:(cn 161).Ok Tryz.prog 161:=.fE Tryz.t161 (.map none) rfl rfl (mp:=by intro e k h;cases h;exact⟨3,by kernel_rfl,.int (by kernel_rfl)⟩)
theorem My:(cn 169).Ok Tryz.prog 169:=.fE Tryz.t169 (.slice none 0 0) rfl rfl (sl:=by intro e z b v h;cases h;exact⟨by kernel_rfl,Tryz.t33,by kernel_rfl,by kernel_rfl,by kernel_rfl,by kernel_rfl,by kernel_rfl⟩)
theorem Mz:(cn 179).Ok Tryz.prog 179:=.fE Tryz.t179 (.pointer none) rfl rfl (ptr:=by intro _;exact⟨182,by kernel_rfl⟩)
theorem MA:(cn 180).Ok Tryz.prog 180:=.fE Tryz.t180 (.slice none 0 0) rfl rfl (sl:=by intro e z b v h;cases h;exact⟨by kernel_rfl,Tryz.t4,by kernel_rfl,by kernel_rfl,by kernel_rfl,by kernel_rfl,by kernel_rfl⟩)
theorem MB:(cn 181).Ok Tryz.prog 181:=.fE Tryz.t181 (.agg #[.slice none 0 0,.slice none 0 0]) rfl rfl (st:=by intro l h;cases h;exact⟨_,Tryz.underlying181,by kernel_rfl,(by exact all_some (by kernel_rfl)),by kernel_rfl⟩)
theorem MC:(cn 182).Ok Tryz.prog 182:=.fE Tryz.t182 (.agg #[.slice none 0 0,.slice none 0 0]) rfl rfl (st:=by intro l h;cases h;exact⟨_,Tryz.underlying182,by kernel_rfl,(by exact all_some (by kernel_rfl)),by kernel_rfl⟩)
theorem MD:(cn 186).Ok Tryz.prog 186:=.fE Tryz.t186 (.int .i64 0) rfl rfl (int:=by intro k h;cases h;kernel_rfl)
theorem ME:(cn 195).Ok Tryz.prog 195:=.fE Tryz.t195 (.int .u32 0) rfl rfl (int:=by intro k h;cases h;kernel_rfl)
theorem MG:(cn 197).Ok Tryz.prog 197:=.fE Tryz.t197 (.int .u64 0) rfl rfl (int:=by intro k h;cases h;kernel_rfl)
theorem MH:(cn 202).Ok Tryz.prog 202:=.fE Tryz.t202 (.int .u64 0) rfl rfl (int:=by intro k h;cases h;kernel_rfl)
theorem MI:(cn 206).Ok Tryz.prog 206:=.fE Tryz.t206 (.pointer none) rfl rfl (ptr:=by intro _;exact⟨3,by kernel_rfl⟩)
theorem MJ:(cn 208).Ok Tryz.prog 208:=.fE Tryz.t208 (.pointer none) rfl rfl (ptr:=by intro _;exact⟨202,by kernel_rfl⟩)
theorem iA:bg.Ok Tryz.prog cn:=fun t=>by
 unfold cn
 split
 ·exact Xl
 ·exact Xm
 ·exact Xn
 ·exact Xo
 ·exact Xp
 ·exact Xq
 ·exact Xr
 ·exact Xs
 ·exact Sj
 ·exact Sk
 ·exact Sl
 ·exact Sm
 ·exact Sn
 ·exact Sq
 ·exact Sr
 ·exact Ss
 ·exact Su
 ·exact Sv
 ·exact Sw
 ·exact Sx
 ·exact Sy
 ·exact Sz
 ·exact SA
 ·exact SB
 ·exact SC
 ·exact SD
 ·exact SE
 ·exact SF
 ·exact SG
 ·exact SH
 ·exact SI
 ·exact SJ
 ·exact SK
 ·exact SL
 ·exact SM
 ·exact SN
 ·exact SO
 ·exact SP
 ·exact SQ
 ·exact SR
 ·exact SS
 ·exact SU
 ·exact SV
 ·exact SW
 ·exact SX
 ·exact SY
 ·exact SZ
 ·exact S0
 ·exact S1
 ·exact S3
 ·exact S4
 ·exact S6
 ·exact S7
 ·exact Me
 ·exact Mf
 ·exact Mg
 ·exact Mh
 ·exact Mi
 ·exact Mj
 ·exact Mk
 ·exact Ml
 ·exact Mm
 ·exact Mn
 ·exact Mo
 ·exact Mp
 ·exact Mq
 ·exact Mr
 ·exact Ms
 ·exact Mu
 ·exact Mv
 ·exact Mw
 ·exact Mx
 ·exact My
 ·exact Mz
 ·exact MA
 ·exact MB
 ·exact MC
 ·exact MD
 ·exact ME
 ·exact MG
 ·exact MH
 ·exact MI
 ·exact MJ
 ·exact .okN
theorem vk:Tryz.prog.follows .mixedOrders=true:=by kernel_rfl
theorem fb{f:FuncId}{fn:Func}{body:Code}{Y:List D}{args:AV}{R:AV→List D→List (Nat×Path)→Prop}(hf:Tryz.prog.funcs[f]? = some fn){nt:Nat}(hnt:fn.ntmps=nt)(rs:List ResultVar){st:St}
  (h:∀w0 I0 F0,F0.length=Y.length→VS ⟨Tryz.prog,nt,w0,I0,F0⟩ [body] (ak Y.length cn rs R) st)
  (hb:fn.body=some body:=by rfl) (hname:(fn.name == "runtime.NumGoroutine")=false:=by kernel_rfl) (wq:fn.results.toList=rs:=by kernel_rfl)
  (hl:args.gT=true:=by rfl) (hlen:args.len≤nt:=by simp[AV.len]) (hst:⟨fG 0 args,Y,[],[]⟩=st:=by simp only[fG];exact rfl):ai Tryz.prog f Y args R :=
 ai.Dn iA hf hb hname hnt wq hl hlen hst h
theorem fbS{f:FuncId}{fn:Func}{body:Code}{Y:List D}{args:AV}{R:AV→List D→List (Nat×Path)→Prop}(hf:Tryz.prog.funcs[f]? = some fn){nt:Nat}(hnt:fn.ntmps=nt)(rs:List ResultVar){st:St}
  (h:∀w0 I0 F0,F0.length=Y.length→VS ⟨Tryz.prog,nt,w0,I0,F0⟩ [body] (j6 ⟨Tryz.prog,nt,w0,I0,F0⟩ cn rs R) st)
  (hb:fn.body=some body:=by rfl) (hname:(fn.name == "runtime.NumGoroutine")=false:=by kernel_rfl) (wq:fn.results.toList=rs:=by kernel_rfl)
  (hl:args.gT=true:=by rfl) (hlen:args.len≤nt:=by simp[AV.len]) (hst:⟨fG 0 args,Y,[],[]⟩=st:=by simp only[fG];exact rfl):ai Tryz.prog f Y args R :=
 ai.aai iA hf hb hname hnt wq hl hlen hst h
theorem fbP{f:FuncId}{fn:Func}{body:Code}{Y:List D}{pl:List (Nat×Path×AV)}{args:AV}{R:AV→List D→List (Nat×Path)→Prop}(hf:Tryz.prog.funcs[f]? = some fn){nt:Nat}(hnt:fn.ntmps=nt)(rs:List ResultVar){st:St}
  (h:∀w0 I0 F0,F0.length=Y.length→VS ⟨Tryz.prog,nt,w0,I0,F0⟩ [body] (ak Y.length cn rs R) st)
  (hb:fn.body=some body:=by rfl) (hname:(fn.name == "runtime.NumGoroutine")=false:=by kernel_rfl) (wq:fn.results.toList=rs:=by kernel_rfl)
  (hl:args.gT=true:=by rfl) (hlen:args.len≤nt:=by simp[AV.len]) (hst:⟨fG 0 args,Y,[],pl⟩=st:=by simp only[fG];exact rfl):eR Tryz.prog f Y pl args R :=
 eR.Dn iA hf hb hname hnt wq hl hlen hst h
section
variable {nt:Nat} {w0:World} {I0:Nat→Prop} {F0:List G} {l:List Code} {K:Exit→St→Prop} {st:St}
theorem rg(id:Nat){ops:List Oper}(pre post:List Tmp)(gs:List (Nat×Tmp))(h:eL ⟨Tryz.prog,nt,w0,I0,F0⟩ cn gs ops 0 (st.keep pre) (uX ⟨Tryz.prog,nt,w0,I0,F0⟩ l K post))
  (hd:kE nt ops gs=true:=by kernel_rfl):VS ⟨Tryz.prog,nt,w0,I0,F0⟩ (.region id ops.toArray false::l) K st:=VS.rg iA id pre post gs h hd
theorem dr(id:Nat){ops:List Oper}(EM:Nat)(pre post:List Tmp)(gs:List (Nat×Tmp))(T:List Rw)(p:bY)(o:OP)
  (h:cg ⟨Tryz.prog,nt,w0,I0,F0⟩ cn gs ops o (st.keep pre) (uX ⟨Tryz.prog,nt,w0,I0,F0⟩ l K post))
  (hT:ops.map (rowOf ops.toArray)=T:=by kernel_rfl) (hok:gm EM nt ops gs T p=true:=by kernel_rfl) (ho:lH EM p=o:=by kernel_rfl):VS ⟨Tryz.prog,nt,w0,I0,F0⟩ (.region id ops.toArray true::l) K st:=VS.dr iA vk id EM pre post gs T p o h hT hok ho
end
end Go.Proofs.YtbhigdljojlhnaaGreat

namespace Go.Proofs.YtbhigdljojlhnaaGreat
set_option linter.all false
open Go.Vc Go.Proofs
open Go.Vc.T (gi)
abbrev ag (n:Int):AV:=.val (.int .i64 n)
abbrev aN (b:Bool):AV:=.val (.bool b)
@[simp] theorem tq:aj []=.nil:=rfl
theorem pP(l:List D):(sq l).freeze=sq (l.map T.freeze):=by
 induction l with
 | nil=>rfl
 | cons a l ih=>simp[sq,T.freeze,ih]
@[simp] theorem Yl(l:List Int):(aj l).freeze=aj l:=by
 rw[aj,pP,List.map_map];rfl
@[simp] theorem gU(l:List Int):(aj l).mid 0 l.length=aj l:=aV _ _ (by simp)
theorem ju(l:List Int)(lo n:Nat):(aj l).mid lo n=aj ((l.drop lo).take n):=by simp only[aj,tr,←List.map_drop,←List.map_take]
theorem kS(l m:List Int):(aj l).app (aj m)=aj (l++m):=by simp only[aj,gQ,List.map_append]
theorem KP(l:List Int)(i:Nat)(x:Int):(aj l).br i (.val (.int .i64 x))=aj (l.set i x):=by simp only[aj,iP,List.map_set];rfl
theorem FO(n:Nat):(sq (List.replicate n (.val (.int .i64 0))):D)=aj (List.replicate n 0):=by simp[aj,Zp]
def iI (l:List (List Int)):D:=sq (l.map fun o=>.sl false () 1 (aj o))
@[simp] theorem kJ(l:List (List Int)):(iI l).len=l.length:=by simp[iI]
@[simp] theorem aeN:iI []=.nil:=rfl
@[simp] theorem acz(l:List (List Int)):(iI l).free=true:=jL fun x hx=>by obtain⟨n,_,rfl⟩:=List.mem_map.1 hx;simp
theorem iQ{l:List (List Int)}{i:Nat}(h:i<l.length):(iI l).nth i=.sl false () 1 (aj l[i]):=by
 rw[iI,ep (by simpa using h)];simp
theorem zR(l:List (List Int))(i:Nat)(x:List Int):(iI l).br i (.sl false () 1 (aj x))=iI (l.set i x):=by simp only[iI,iP,List.map_set]
theorem Vr(l m:List (List Int)):(iI l).app (iI m)=iI (l++m):=by simp only[iI,gQ,List.map_append]
theorem mN(l:List (List Int))(x:List Int):(iI l).app (.cons (.sl false () 1 (aj x)) .nil)=iI (l++[x]):=Vr l [x]
theorem aeO(l:List (List Int))(lo n:Nat):(iI l).mid lo n=iI ((l.drop lo).take n):=by simp only[iI,tr,←List.map_drop,←List.map_take]
@[simp] theorem um(l:List (List Int)):(iI l).mid 0 l.length=iI l:=aV _ _ (by simp)
structure Th where
 kind:Int
 sup:Int
 obj:Int
 own:Int
 bU:List Int
 ins:List Int
def dTh (t:Th):D:=.agg (.cons (.val (.int .i64 t.kind)) (.cons (.val (.int .i64 t.sup)) (.cons (.val (.int .i64 t.obj)) (.cons (.val (.int .i64 t.own)) (.cons (.sl false () 1 (aj t.bU)) (.cons (.sl false () 1 (aj t.ins)) .nil))))))
def ie (l:List Th):D:=sq (l.map dTh)
def dL (l:List Th):D:=.box true () (.agg (.cons (.sl true () 6 (ie l)) .nil))
def ahF (t:Th):AV:=.agg (.cons (ag t.kind) (.cons (ag t.sup) (.cons (ag t.obj) (.cons (ag t.own) (.cons (.cA 1 (aj t.bU) false) (.cons (.cA 1 (aj t.ins) false) .nil))))))
@[simp high] theorem aeQ(l:List Th):aW (dL l)=true:=by rw[dL,aW]
@[simp] theorem acA(l:List Th):(ie l).len=l.length:=by simp[ie]
@[simp] theorem abO(l:List Th):(ie l).free=true:=jL fun x hx=>by obtain⟨n,_,rfl⟩:=List.mem_map.1 hx;simp[dTh]
theorem bH{l:List Th}{i:Nat}(h:i<l.length):(ie l).nth i=.agg (.cons (.val (.int .i64 l[i].kind)) (.cons (.val (.int .i64 l[i].sup)) (.cons (.val (.int .i64 l[i].obj)) (.cons (.val (.int .i64 l[i].own)) (.cons (.sl false () 1 (aj l[i].bU)) (.cons (.sl false () 1 (aj l[i].ins)) .nil)))))):=by
 rw[ie,ep (by simpa using h)];simp;rfl
theorem iS(l:List Th)(i:Nat)(t:Th):(ie l).br i (.agg (.cons (.val (.int .i64 t.kind)) (.cons (.val (.int .i64 t.sup)) (.cons (.val (.int .i64 t.obj)) (.cons (.val (.int .i64 t.own)) (.cons (.sl false () 1 (aj t.bU)) (.cons (.sl false () 1 (aj t.ins)) .nil)))))))=ie (l.set i t):=by
 simp only[ie,iP,List.map_set];rfl
theorem tu(l:List Th)(t:Th):(ie l).app (.cons (.agg (.cons (.val (.int .i64 t.kind)) (.cons (.val (.int .i64 t.sup)) (.cons (.val (.int .i64 t.obj)) (.cons (.val (.int .i64 t.own)) (.cons (.sl false () 1 (aj t.bU)) (.cons (.sl false () 1 (aj t.ins)) .nil))))))) .nil)=ie (l++[t]):=by
 simp only[ie,List.map_append,←gQ];rfl
@[simp] theorem Vs(l:List Th):(ie l).mid 0 l.length=ie l:=aV _ _ (by simp)
def dEn (e:Int×List Int):D:=.agg (.cons (.val (.int .i64 e.1)) (.cons (.sl false () 1 (aj e.2)) .nil))
def Co (l:List (Int×List Int)):D:=sq (l.map dEn)
def dM (l:List (Int×List Int)):D:=.map true () (Co l)
@[simp high] theorem aeR(l:List (Int×List Int)):aW (dM l)=true:=by rw[dM,aW]
@[simp] theorem acB:Co []=.nil:=rfl
theorem mO(e:Int×List Int)(l:List (Int×List Int)):Co (e::l)=.cons (.agg (.cons (.val (.int .i64 e.1)) (.cons (.sl false () 1 (aj e.2)) .nil))) (Co l):=rfl
@[simp] theorem abP(l:List (Int×List Int)):fh (.int .i64) (Co l)=True:=by
 refine eq_true ?_
 induction l with
 | nil=>trivial
 | cons e l ih=>rw[mO];exact⟨⟨.int .i64 e.1,rfl,rfl⟩,ih⟩
theorem vv{α:Type}(k:IntKind)(n:Int):(gi (.int k n):T α)=.val (.int k n):=rfl
theorem P4{α:Type}(s:ByteArray):(gi (.string s):T α)=.val (.string s):=rfl
def got (l:List (Int×List Int)) (k:Int):Option (List Int):=(l.find? fun e=>e.1=k).map (·.2)
theorem tv(l:List (Int×List Int))(k:Int):iT (.int .i64 k) (Co l)=(got l k).map fun o=>.sl false () 1 (aj o):=by
 induction l with
 | nil=>rfl
 | cons e l ih =>
  rw[mO]
  unfold iT
  by_cases h:e.1=k
  ·rw[if_pos (by rw[h];rfl)];simp[got,h]
  ·rw[if_neg (by simpa[vv] using h),ih];simp[got,h]
end Go.Proofs.YtbhigdljojlhnaaGreat

namespace Go.Proofs.YtbhigdljojlhnaaGreat
set_option linter.all false
open Go.Vc Go.Proofs
set_option maxRecDepth 100000
set_option maxHeartbeats 4000000
attribute [local irreducible] bx jv
def lZ {α:Type} (p:α→Bool) (l:List α):Int:=if l.any p then (l.findIdx p:Int) else -1
theorem hU{α:Type}{p:α→Bool}{l:List α}{i:Nat}(hi:i<l.length)(hall:∀j,(h:j<i)→p (l[j]'(by omega))=false)(hp:p l[i]=true):lZ p l=i:=by
 have h1:l.any p=true:=List.any_eq_true.2 ⟨_,List.getElem_mem hi,hp⟩
 have h2:l.findIdx p=i:=(List.findIdx_eq hi).2 ⟨hp,fun j hj=>hall j hj⟩
 rw[lZ,if_pos h1,h2]
theorem fV{α:Type}{p:α→Bool}{l:List α}(hall:∀j,(h:j<l.length)→p l[j]=false):lZ p l=-1:=by
 have h1:¬l.any p=true:=by
  rw[List.any_eq_true]
  rintro⟨x,hx,hp⟩
  obtain⟨i,hi,rfl⟩:=List.getElem_of_mem hx
  rw[hall i hi] at hp;cases hp
 rw[lZ,if_neg h1]
theorem qN{α:Type}{p:α→Bool}{l:List α}:(0≤lZ p l)=(l.any p=true):=by
 unfold lZ
 by_cases h:l.any p=true
 ·rw[if_pos h];simp[h]
 ·rw[if_neg h];simp[h]
def bh (l:List Int) (v:Int):Bool:=l.any fun x=>decide (x=v)
theorem fk{l:List Int}{v:Int}:bh l v=true↔v∈l:=by simp[bh]
theorem P5(ex:Bool)(l:List Int)(v:Int)(hl:l.length≤100000000):ai Tryz.prog 134 [] (.cons (.cA 1 (aj l) ex) (.cons (ag v) .nil))
  fun av X κ=>av=ag (lZ (fun x=>decide (x=v)) l)∧X=[]∧κ=[]:=by
 refine fb Tryz.func134 Tryz.ntmps134 [.tmp 4] fun w0 I0 F0 hF=>?_
 repeat first|refine n1 ?_|refine n3 ?_|(first|refine rg 0 [0,1] [0,1] [] ?_|refine rg 1 [0,1] [0,1,7,8] [] ?_);simp[hF]
 refine VS.rounds (fun m st=>∃(i:Nat),i+m=l.length∧(∀j,(h:j<l.length)→j<i→¬l[j]=v)∧st=⟨[(0,.cA 1 (aj l) ex),(1,ag v),(7,ag l.length),(8,ag i)],[],[],[]⟩) ⟨l.length,0,by omega,by omega,by simp⟩ ?_
 rintro m st ⟨i,hi,hall,rfl⟩
 repeat first|refine n1 ?_|(first|refine rg 2 [0,1,7,8] [0,1,7,8,9] [] ?_|refine nc ?_);simp[hF]
 refine⟨fun hlt=>?_,fun hge=>?_⟩
 ·have hi':i<l.length:=by omega
  have hn:=bP hi'
  repeat first|refine n1 ?_|refine n2 ?_|refine n3 ?_|(first|refine rg 3 [0,1,7,8] [0,1,5,7,8] [] ?_|refine rg 4 [0,1,5,7,8] [0,1,5,7,8,16] [] ?_|refine nc ?_);simp[hF,hn,hi']
  refine⟨fun he=>?_,fun he=>?_⟩
  ·have hr:lZ (fun x=>decide (x=v)) l=i:=hU hi' (fun j h=>by simpa using hall j (by omega) h) (by simpa using he.symm)
   repeat first|refine n1 ?_|refine rg 5 [5] [4] [] ?_;simp[hF]
   (try refine nr ?_);(repeat first|refine aF ?_|refine aG ?_);refine ak.o [4] [] [] ?_;simp[hF,an,aa,ah,hr]
  ·repeat first|refine n2 ?_|refine n4 ?_|refine n5 ?_|refine n6 ?_|refine rg 6 [0,1,7,8] [0,1,7,8] [] ?_;simp[hF]
   refine aO.of [0,1,7,8] [] (m-1) (by omega) (by simp[hF]) ?_
   refine⟨i+1,by omega,?_,?_⟩
   ·intro j hj hji
    rcases Nat.lt_or_ge j i with h'|h'
    ·exact hall j hj h'
    ·obtain rfl:j=i:=by omega
     exact fun e=>he e.symm
   ·simp
    exact IntWalk.i64_in _ (by omega)
 ·have hr:lZ (fun x=>decide (x=v)) l=-1:=fV (fun j h=>by simpa using hall j h (by omega))
  repeat first|refine n1 ?_|refine n7 ?_|refine rg 7 [] [4] [] ?_;simp[hF]
  (try refine nr ?_);(repeat first|refine aF ?_|refine aG ?_);refine ak.o [4] [] [] ?_;simp[hF,an,aa,ah,hr]
theorem iy(ex:Bool)(l:List Int)(v:Int)(hl:l.length≤100000000):ai Tryz.prog 124 [] (.cons (.cA 1 (aj l) ex) (.cons (ag v) .nil))
  fun av X κ=>av=aN (bh l v)∧X=[]∧κ=[]:=by
 refine fb Tryz.func124 Tryz.ntmps124 [.tmp 4] fun w0 I0 F0 hF=>?_
 repeat first|refine n1 ?_|(first|refine rg 0 [0,1] [0,1] [] ?_|refine rg 1 [0,1] [4] [] ?_);simp[hF]
 refine(P5 ex l v hl).go [] (by simp[hF]) ?_;rintro av X κ ⟨rfl,rfl,rfl⟩;simp[hF]
 repeat refine n1 ?_
 have h:decide (0≤lZ (fun x=>decide (x=v)) l)=bh l v:=by simp only[qN,bh,Bool.decide_eq_true]
 (try refine nr ?_);(repeat first|refine aF ?_|refine aG ?_);refine ak.o [4] [] [] ?_;simp[hF,an,aa,ah,h]
def cE (x:List Int):D:=.box true () (.sl false () 1 (aj x))
def bI (l:List (List Int)):D:=.box true () (.sl true () 1 (iI l))
@[simp high] theorem abQ(l:List Int):aW (cE l)=true:=by rw[cE,aW]
@[simp high] theorem Zq(l:List (List Int)):aW (bI l)=true:=by rw[bI,aW]
theorem Cp(ex:Bool)(ls:List (List Int))(hl:ls.length≤100000000)(p:List Int→Bool)
  (hg:∀i,(h:i<ls.length)→ai Tryz.prog 152 [] (.cons (.cA 1 (aj ls[i]) false) .nil) fun av X κ=>av=aN (p ls[i])∧X=[]∧κ=[]) :
  ai Tryz.prog 153 [.sl true () 1 (iI ls)] (.cons (.sub 0 [] 0 ls.length ex) (.cons (.fn 152 .nil) .nil))
  fun av X κ=>av=ag (lZ p ls)∧X=[.sl true () 1 (iI ls)]∧κ=[]:=by
 refine fb Tryz.func153 Tryz.ntmps153 [.tmp 4] fun w0 I0 F0 hF=>?_
 repeat first|refine n1 ?_|refine n3 ?_|(first|refine rg 0 [0,1] [0,1] [] ?_|refine rg 1 [0,1] [0,1,7,8] [] ?_);simp[hF]
 refine VS.rounds (fun m st=>∃(i:Nat),i+m=ls.length∧(∀j,(h:j<ls.length)→j<i→p ls[j]=false)∧st=⟨[(0,.sub 0 [] 0 ls.length ex),(1,.fn 152 .nil),(7,ag ls.length),(8,ag i)],[.sl true () 1 (iI ls)],[],[]⟩) ⟨ls.length,0,by omega,by omega,by simp⟩ ?_
 rintro m st ⟨i,hi,hall,rfl⟩
 repeat first|refine n1 ?_|(first|refine rg 2 [0,1,7,8] [0,1,7,8,9] [] ?_|refine nc ?_);simp[hF]
 refine⟨fun hlt=>?_,fun hge=>?_⟩
 ·have hi':i<ls.length:=by omega
  have hn:=iQ hi'
  repeat first|refine n1 ?_|refine n2 ?_|refine n3 ?_|(first|refine rg 3 [0,1,7,8] [0,1,5,7,8] [] ?_|refine rg 4 [0,1,5,7,8] [0,1,5,7,8,16] [] ?_);simp[hF,hn,hi']
  refine(hg i hi').go [] (by simp[hF]) ?_;rintro av X κ ⟨rfl,rfl,rfl⟩;simp[hF]
  cases hp:p ls[i] with
  | true =>
   have hr:lZ p ls=i:=hU hi' (fun j h=>hall j (by omega) h) hp
   repeat first|refine n1 ?_|(first|refine rg 5 [5] [4] [] ?_|refine nc ?_);simp[hF,hp]
   (try refine nr ?_);(repeat first|refine aF ?_|refine aG ?_);refine ak.o [4] [0] [] ?_;simp[hF,an,aa,ah,hr]
  | false =>
   repeat first|refine n2 ?_|refine n4 ?_|refine n5 ?_|refine n6 ?_|(first|refine rg 6 [0,1,7,8] [0,1,7,8] [] ?_|refine nc ?_);simp[hF,hp]
   refine aO.of [0,1,7,8] [0] (m-1) (by omega) (by simp[hF]) ?_
   refine⟨i+1,by omega,?_,?_⟩
   ·intro j hj hji
    rcases Nat.lt_or_ge j i with h'|h'
    ·exact hall j hj h'
    ·obtain rfl:j=i:=by omega
     exact hp
   ·simp
    exact IntWalk.i64_in _ (by omega)
 ·have hr:lZ p ls=-1:=fV (fun j h=>hall j h (by omega))
  repeat first|refine n1 ?_|refine n7 ?_|refine rg 7 [] [4] [] ?_;simp[hF]
  (try refine nr ?_);(repeat first|refine aF ?_|refine aG ?_);refine ak.o [4] [0] [] ?_;simp[hF,an,aa,ah,hr]
theorem Cq(ex:Bool)(ls:List (List Int))(hl:ls.length≤100000000)(p:List Int→Bool)
  (hg:∀i,(h:i<ls.length)→ai Tryz.prog 154 [bI ls] (.cons (.cA 1 (aj ls[i]) false) (.cons (.ptr 0 [.d]) .nil)) fun av X κ=>av=aN (p ls[i])∧X=[bI ls]∧κ=[]) :
  ai Tryz.prog 153 [bI ls] (.cons (.sub 0 [.d] 0 ls.length ex) (.cons (.fn 154 (.cons (.ptr 0 [.d]) .nil)) .nil))
  fun av X κ=>av=ag (lZ p ls)∧X=[bI ls]∧κ=[]:=by
 refine fb Tryz.func153 Tryz.ntmps153 [.tmp 4] fun w0 I0 F0 hF=>?_
 repeat first|refine n1 ?_|refine n3 ?_|(first|refine rg 0 [0,1] [0,1] [] ?_|refine rg 1 [0,1] [0,1,7,8] [] ?_);simp[hF,bI]
 refine VS.rounds (fun m st=>∃(i:Nat),i+m=ls.length∧(∀j,(h:j<ls.length)→j<i→p ls[j]=false)∧st=⟨[(0,.sub 0 [.d] 0 ls.length ex),(1,.fn 154 (.cons (.ptr 0 [.d]) .nil)),(7,ag ls.length),(8,ag i)],[bI ls],[],[]⟩) ⟨ls.length,0,by omega,by omega,by simp[bI]⟩ ?_
 rintro m st ⟨i,hi,hall,rfl⟩
 repeat first|refine n1 ?_|(first|refine rg 2 [0,1,7,8] [0,1,7,8,9] [] ?_|refine nc ?_);simp[hF,bI]
 refine⟨fun hlt=>?_,fun hge=>?_⟩
 ·have hi':i<ls.length:=by omega
  have hn:=iQ hi'
  repeat first|refine n1 ?_|refine n2 ?_|refine n3 ?_|(first|refine rg 3 [0,1,7,8] [0,1,5,7,8] [] ?_|refine rg 4 [0,1,5,7,8] [0,1,5,7,8,16] [] ?_);simp[hF,bI,hn,hi']
  refine(hg i hi').go [(0,[])] (by simp[hF,bI]) ?_;rintro av X κ ⟨rfl,rfl,rfl⟩;simp[hF,bI]
  cases hp:p ls[i] with
  | true =>
   have hr:lZ p ls=i:=hU hi' (fun j h=>hall j (by omega) h) hp
   repeat first|refine n1 ?_|(first|refine rg 5 [5] [4] [] ?_|refine nc ?_);simp[hF,hp]
   (try refine nr ?_);(repeat first|refine aF ?_|refine aG ?_);refine ak.o [4] [0] [] ?_;simp[hF,an,aa,ah,bI,hr]
  | false =>
   repeat first|refine n2 ?_|refine n4 ?_|refine n5 ?_|refine n6 ?_|(first|refine rg 6 [0,1,7,8] [0,1,7,8] [] ?_|refine nc ?_);simp[hF,hp]
   refine aO.of [0,1,7,8] [0] (m-1) (by omega) (by simp[hF]) ?_
   refine⟨i+1,by omega,?_,?_⟩
   ·intro j hj hji
    rcases Nat.lt_or_ge j i with h'|h'
    ·exact hall j hj h'
    ·obtain rfl:j=i:=by omega
     exact hp
   ·simp[bI]
    exact IntWalk.i64_in _ (by omega)
 ·have hr:lZ p ls=-1:=fV (fun j h=>hall j h (by omega))
  repeat first|refine n1 ?_|refine n7 ?_|refine rg 7 [] [4] [] ?_;simp[hF]
  (try refine nr ?_);(repeat first|refine aF ?_|refine aG ?_);refine ak.o [4] [0] [] ?_;simp[hF,an,aa,ah,bI,hr]
theorem Cr(ex:Bool)(ls:List (List Int))(x:List Int)(hl:ls.length≤100000000)(p:List Int→Bool)
  (hg:∀i,(h:i<ls.length)→ai Tryz.prog 156 [cE x] (.cons (.cA 1 (aj ls[i]) false) (.cons (.ptr 0 [.d]) .nil)) fun av X κ=>av=aN (p ls[i])∧X=[cE x]∧κ=[]) :
  ai Tryz.prog 153 [bI ls,cE x] (.cons (.sub 0 [.d] 0 ls.length ex) (.cons (.fn 156 (.cons (.ptr 1 [.d]) .nil)) .nil))
  fun av X κ=>av=ag (lZ p ls)∧X=[bI ls,cE x]∧κ=[]:=by
 refine fb Tryz.func153 Tryz.ntmps153 [.tmp 4] fun w0 I0 F0 hF=>?_
 repeat first|refine n1 ?_|refine n3 ?_|(first|refine rg 0 [0,1] [0,1] [] ?_|refine rg 1 [0,1] [0,1,7,8] [] ?_);simp[hF,bI,cE]
 refine VS.rounds (fun m st=>∃(i:Nat),i+m=ls.length∧(∀j,(h:j<ls.length)→j<i→p ls[j]=false)∧st=⟨[(0,.sub 0 [.d] 0 ls.length ex),(1,.fn 156 (.cons (.ptr 1 [.d]) .nil)),(7,ag ls.length),(8,ag i)],[bI ls,cE x],[],[]⟩) ⟨ls.length,0,by omega,by omega,by simp[bI,cE]⟩ ?_
 rintro m st ⟨i,hi,hall,rfl⟩
 repeat first|refine n1 ?_|(first|refine rg 2 [0,1,7,8] [0,1,7,8,9] [] ?_|refine nc ?_);simp[hF,bI,cE]
 refine⟨fun hlt=>?_,fun hge=>?_⟩
 ·have hi':i<ls.length:=by omega
  have hn:=iQ hi'
  repeat first|refine n1 ?_|refine n2 ?_|refine n3 ?_|(first|refine rg 3 [0,1,7,8] [0,1,5,7,8] [] ?_|refine rg 4 [0,1,5,7,8] [0,1,5,7,8,16] [] ?_);simp[hF,bI,cE,hn,hi']
  refine(hg i hi').go [(1,[])] (by simp[hF,bI,cE]) ?_;rintro av X κ ⟨rfl,rfl,rfl⟩;simp[hF,bI,cE]
  cases hp:p ls[i] with
  | true =>
   have hr:lZ p ls=i:=hU hi' (fun j h=>hall j (by omega) h) hp
   repeat first|refine n1 ?_|(first|refine rg 5 [5] [4] [] ?_|refine nc ?_);simp[hF,hp]
   (try refine nr ?_);(repeat first|refine aF ?_|refine aG ?_);refine ak.o [4] [0,1] [] ?_;simp[hF,an,aa,ah,bI,cE,hr]
  | false =>
   repeat first|refine n2 ?_|refine n4 ?_|refine n5 ?_|refine n6 ?_|(first|refine rg 6 [0,1,7,8] [0,1,7,8] [] ?_|refine nc ?_);simp[hF,hp]
   refine aO.of [0,1,7,8] [0,1] (m-1) (by omega) (by simp[hF]) ?_
   refine⟨i+1,by omega,?_,?_⟩
   ·intro j hj hji
    rcases Nat.lt_or_ge j i with h'|h'
    ·exact hall j hj h'
    ·obtain rfl:j=i:=by omega
     exact hp
   ·simp[bI,cE]
    exact IntWalk.i64_in _ (by omega)
 ·have hr:lZ p ls=-1:=fV (fun j h=>hall j h (by omega))
  repeat first|refine n1 ?_|refine n7 ?_|refine rg 7 [] [4] [] ?_;simp[hF]
  (try refine nr ?_);(repeat first|refine aF ?_|refine aG ?_);refine ak.o [4] [0,1] [] ?_;simp[hF,an,aa,ah,bI,cE,hr]
theorem qO(y:List Int):(aj y).mid 1 (y.length-1)=aj y.tail:=by
 rw[ju,List.take_of_length_le (by simp),List.drop_one]
def gR (x:List Int):Bool:=decide (x.length=0)
theorem Ym(ex:Bool)(x:List Int):ai Tryz.prog 152 [] (.cons (.cA 1 (aj x) ex) .nil) fun av X κ=>av=aN (gR x)∧X=[]∧κ=[]:=by
 refine fb Tryz.func152 Tryz.ntmps152 [.tmp 2] fun w0 I0 F0 hF=>?_
 repeat first|refine n1 ?_|(first|refine rg 0 [0] [0] [] ?_|refine rg 1 [0] [2] [] ?_);simp[hF]
 (try refine nr ?_);(repeat first|refine aF ?_|refine aG ?_);refine ak.o [2] [] [] ?_;simp[hF,an,aa,ah,gR]
theorem Zr(ex:Bool)(y x:List Int)(hy:0<y.length)(hy2:y.length≤100000000)(hx:0<x.length):ai Tryz.prog 156 [cE x] (.cons (.cA 1 (aj y) ex) (.cons (.ptr 0 [.d]) .nil))
  fun av X κ=>av=aN (bh y.tail x[0])∧X=[cE x]∧κ=[]:=by
 have hn:=bP hx
 have h1:1≤y.length:=hy
 have h2:(1:Int)≤y.length:=by omega
 refine fb Tryz.func156 Tryz.ntmps156 [.tmp 3] fun w0 I0 F0 hF=>?_
 repeat first|refine n1 ?_|(first|refine rg 0 [0,1] [0,1] [] ?_|(refine dr 1 0 [0,1] [3] [] [⟨0,1,16,5⟩,⟨1,16,32,5⟩,⟨0,2,64,6⟩,⟨4,64,128,5⟩,⟨8,128,256,6⟩,⟨18,288,512,0⟩,⟨63,512,8,5⟩] (.take 0 (.take 1 (.take 2 (.take 3 (.take 4 (.fork (.alt 5 (.take 6 (.done)) (.nil)))))))) (.run [0,1,2,3,4,5,6] (.done)) ?_;simp only[nD]));simp[hF,cE,hn,hx,h1,h2,qO]
 refine(iy ex y.tail x[0] (by simp;omega)).go [] (by simp[hF]) ?_;rintro av X κ ⟨rfl,rfl,rfl⟩;simp[hF]
 repeat refine n1 ?_
 (try refine nr ?_);(repeat first|refine aF ?_|refine aG ?_);refine ak.o [3] [0] [] ?_;simp[hF,an,aa,ah,cE]
def bV (ls:List (List Int)) (v:Int):Bool:=ls.any fun y=>bh y.tail v
theorem uU(ex:Bool)(ls:List (List Int))(x:List Int)(hl:ls.length≤100000000)(hne:∀y∈ls,0<y.length)(hle:∀y∈ls,y.length≤100000000)(hx:0<x.length) :
  ai Tryz.prog 155 [bI ls,cE x] (.cons (.sub 0 [.d] 0 ls.length ex) (.cons (.fn 156 (.cons (.ptr 1 [.d]) .nil)) .nil))
  fun av X κ=>av=aN (bV ls x[0])∧X=[bI ls,cE x]∧κ=[]:=by
 refine fb Tryz.func155 Tryz.ntmps155 [.tmp 4] fun w0 I0 F0 hF=>?_
 repeat first|refine n1 ?_|(first|refine rg 0 [0,1] [0,1] [] ?_|refine rg 1 [0,1] [4] [] ?_);simp[hF]
 refine(Cr ex ls x hl (fun y=>bh y.tail x[0]) (fun i h=>Zr false ls[i] x (hne _ (List.getElem_mem h)) (hle _ (List.getElem_mem h)) hx)).go [(0,[]),(1,[])] (by simp[hF,bI,cE]) ?_;rintro av X κ ⟨rfl,rfl,rfl⟩;simp[hF,bI,cE]
 repeat refine n1 ?_
 have h:decide ((0:Int)≤lZ (fun y=>bh y.tail x[0]) ls)=bV ls x[0]:=by simp only[qN,bV,Bool.decide_eq_true]
 (try refine nr ?_);(repeat first|refine aF ?_|refine aG ?_);refine ak.o [4] [0,1] [] ?_;simp[hF,an,aa,ah,h,bI,cE]
theorem acC(ex:Bool)(ls:List (List Int))(x:List Int)(hl:ls.length≤100000000)(hne:∀y∈ls,0<y.length)(hle:∀y∈ls,y.length≤100000000)(hx:0<x.length) :
  ai Tryz.prog 154 [bI ls] (.cons (.cA 1 (aj x) ex) (.cons (.ptr 0 [.d]) .nil))
  fun av X κ=>av=aN (!bV ls x[0])∧X=[bI ls]∧κ=[]:=by
 refine fb Tryz.func154 Tryz.ntmps154 [.tmp 3] fun w0 I0 F0 hF=>?_
 repeat first|refine n1 ?_|(first|refine rg 0 [0,1] [1,2] [] ?_|refine rg 1 [1,2] [3] [] ?_);simp[hF,bI]
 refine(uU false ls x hl hne hle hx).go [(0,[]),(1,[])] (by simp[hF,bI,cE]) ?_;rintro av X κ ⟨rfl,rfl,rfl⟩;simp[hF,bI,cE]
 repeat refine n1 ?_
 (try refine nr ?_);(repeat first|refine aF ?_|refine aG ?_);refine ak.o [3] [0] [] ?_;simp[hF,an,aa,ah,bI]
end Go.Proofs.YtbhigdljojlhnaaGreat

namespace Go.Proofs.YtbhigdljojlhnaaGreat
set_option linter.all false
open Go.Vc Go.Proofs
set_option maxRecDepth 100000
set_option maxHeartbeats 4000000
attribute [local irreducible] bx jv
section
variable {α:Type} {q:α→Bool} {cur ls:List α} {i j:Nat}
theorem Cs(hi:i<ls.length)(hall:∀k,(h:k<i)→q (ls[k]'(by omega))=true)(hq:q ls[i]=false):ls.take i=(ls.take (i+1)).filter q:=by
 rw[List.take_add_one,List.getElem?_eq_getElem hi,List.filter_append]
 simp only[Option.toList_some,List.filter_cons,hq,List.filter_nil,Bool.false_eq_true,if_false,List.append_nil]
 refine(List.filter_eq_self.2 fun x hx=>?_).symm
 obtain⟨k,hk,rfl⟩:=List.getElem_of_mem hx
 rw[List.length_take] at hk
 rw[List.getElem_take]
 exact hall k (by omega)
theorem P6(hl:cur.length=ls.length)(hj:j<ls.length)(hd:cur.drop j=ls.drop j):cur[j]'(by omega)=ls[j]:=by
 have h1:(cur.drop j)[0]? = (ls.drop j)[0]?:=by rw[hd]
 simp only[List.getElem?_drop,Nat.add_zero] at h1
 rw[List.getElem?_eq_getElem (by omega),List.getElem?_eq_getElem hj] at h1
 exact Option.some.inj h1
theorem Ct(hj:j<ls.length)(ht:cur.take i=(ls.take j).filter q)(hd:cur.drop j=ls.drop j)(hq:q ls[j]=false):cur.take i=(ls.take (j+1)).filter q∧cur.drop (j+1)=ls.drop (j+1):=by
 constructor
 ·rw[ht,List.take_add_one,List.getElem?_eq_getElem hj,List.filter_append]
  simp[hq]
 ·have:(cur.drop j).drop 1=(ls.drop j).drop 1:=by rw[hd]
  simpa[List.drop_drop,Nat.add_comm] using this
theorem yK(hl:cur.length=ls.length)(hi:i<j)(hj:j<ls.length)(ht:cur.take i=(ls.take j).filter q)(hd:cur.drop j=ls.drop j)(hq:q ls[j]=true) :
  (cur.set i ls[j]).take (i+1)=(ls.take (j+1)).filter q∧(cur.set i ls[j]).drop (j+1)=ls.drop (j+1):=by
 constructor
 ·rw[List.take_add_one,List.getElem?_set_self (by omega),List.take_set_of_le (by omega),ht,List.take_add_one,List.getElem?_eq_getElem hj,List.filter_append]
  simp[hq]
 ·rw[List.drop_set_of_lt (by omega)]
  have:(cur.drop j).drop 1=(ls.drop j).drop 1:=by rw[hd]
  simpa[List.drop_drop,Nat.add_comm] using this
end
theorem vw{α:Type}{p:α→Bool}{l:List α}(h:lZ p l=-1):l.filter (fun x=>!p x)=l:=by
 refine List.filter_eq_self.2 fun x hx=>?_
 have:¬(l.any p=true):=by rw[←qN,h];omega
 rw[List.any_eq_true] at this
 cases hp:p x with
 | true=>exact absurd ⟨x,hx,hp⟩ this
 | false=>rfl
theorem rP{α:Type}{p:α→Bool}{l:List α}(h:¬lZ p l=-1):∃(i:Nat) (hi:i<l.length),lZ p l=i∧p l[i]=true∧∀k,(hk:k<i)→p (l[k]'(by omega))=false:=by
 by_cases ha:l.any p=true
 ·have h1:=List.findIdx_lt_length_of_exists (p:=p) (xs:=l) (by simpa using ha)
  refine⟨l.findIdx p,h1,by rw[lZ,if_pos ha],List.findIdx_getElem,fun k hk=>?_⟩
  have:=List.not_of_lt_findIdx hk
  simpa using this
 ·exact absurd (by rw[lZ,if_neg ha]) h
theorem Cu{l:List D}{i n:Nat}{x:D}(hi:i≤l.length):(((sq l).take i).app (sq (List.replicate n x))).mid 0 i=sq (l.take i):=by
 rw[J9,gQ,tr,List.drop_zero,List.take_append_of_le_length (by simp;omega),List.take_of_length_le (by simp;omega)]
theorem P7(ls:List (List Int))(hl:ls.length≤100000000):ai Tryz.prog 151 [.sl true () 1 (iI ls)] (.cons (.sub 0 [] 0 ls.length false) (.cons (.fn 152 .nil) .nil))
  fun av X κ=>∃s m,av=.sub 1 [] 0 m false∧X=[.aH (),.sl true () 1 s]∧κ=[(0,[])]∧s.mid 0 m=iI (ls.filter fun x=>!gR x)∧m=(ls.filter fun x=>!gR x).length:=by
 refine fb Tryz.func151 Tryz.ntmps151 [.tmp 4] fun w0 I0 F0 hF=>?_
 repeat first|refine n1 ?_|refine rg 0 [0,1] [0,1] [] ?_;simp[hF]
 refine eP 0 [] ?_;simp[hF,St.lift,AV.lift,cJ,cK,dV,isNode]
 repeat first|refine rg 1 [0,1] [0,1,5] [] ?_;simp[hF]
 refine(Cp false ls hl gR (fun i h=>Ym false ls[i])).go [(1,[])] (by simp[hF]) ?_;rintro av X κ ⟨rfl,rfl,rfl⟩;simp[hF]
 repeat first|refine n1 ?_|(first|refine rg 2 [0,1,5] [0,1,5,12] [] ?_|refine nc ?_);simp[hF]
 refine⟨fun hm=>?_,fun hm=>?_⟩
 ·have hf:=vw hm
  repeat first|refine n1 ?_|refine rg 3 [0] [4] [] ?_;simp[hF]
  (try refine nr ?_);(repeat first|refine aF ?_|refine aG ?_);refine ak.o [4] [0,1] [(0,[])] ?_;simp[hF,an,aa,ah,hf]
 ·obtain⟨i0,pQ,he,P8,hall⟩:=rP hm
  repeat first|refine n1 ?_|refine n2 ?_|refine n3 ?_|refine rg 4 [0,1,5] [0,1,5,6] [] ?_;simp[hF,he]
  refine VS.forget ?_;simp[hF,St.forget]
  refine VS.rounds (fun m st=>∃(cur:List (List Int)) (i j:Nat),j+m=ls.length∧i<j∧cur.length=ls.length∧cur.take i=(ls.take j).filter (fun x=>!gR x)∧cur.drop j=ls.drop j ∧
   st=⟨[(0,.sub 1 [] 0 ls.length false),(1,.fn 152 .nil),(5,ag i),(6,ag j)],[.aH (),.sl true () 1 (iI cur)],[(0,[])],[]⟩)
   ⟨ls.length-(i0+1),ls,i0,i0+1,by omega,by omega,rfl,Cs pQ (fun k hk=>by simp[hall k hk]) (by simp[P8]),rfl,?_⟩ ?_
  ·simp[he]
   exact IntWalk.i64_in _ (by omega)
  rintro m st ⟨cur,i,j,hjm,hij,qy,mL,cM,rfl⟩
  repeat first|refine n1 ?_|(first|refine rg 5 [0,1,5,6] [0,1,5,6,19] [] ?_|refine nc ?_);simp[hF]
  refine⟨fun hlt=>?_,fun hge=>?_⟩
  ·have hj:j<ls.length:=by omega
   have hjc:j<cur.length:=by omega
   have hn:=iQ hjc
   have hat:=P6 qy hj cM
   repeat first|refine n1 ?_|refine n2 ?_|refine n3 ?_|(first|refine rg 7 [0,1,5,6] [0,1,5,6,7] [] ?_|refine rg 8 [0,1,5,6,7] [0,1,5,6,7,29] [] ?_);simp[hF,hn,hjc,hj]
   refine(Ym false cur[j]).go [] (by simp[hF]) ?_;rintro av X κ ⟨rfl,rfl,rfl⟩;simp[hF]
   cases hp:gR cur[j] with
   | true =>
    repeat first|refine n2 ?_|refine n4 ?_|refine n5 ?_|refine n6 ?_|(first|refine rg 6 [0,1,5,6] [0,1,5,6] [] ?_|refine nc ?_);simp[hF,hp]
    obtain⟨n1,n2⟩:=Ct (q:=fun x=>!gR x) hj mL cM (by rw[←hat];simp[hp])
    refine aO.of [0,1,5,6] [0,1] (m-1) (by omega) (by simp[hF]) ?_
    refine⟨cur,i,j+1,by omega,by omega,qy,n1,n2,?_⟩
    simp
    exact IntWalk.i64_in _ (by omega)
   | false =>
    have hi:i<ls.length:=by omega
    have hic:i<cur.length:=by omega
    have dB:=zR cur i cur[j]
    have hni:=iQ hic
    repeat first|refine n1 ?_|refine n4 ?_|refine n5 ?_|refine n6 ?_|(first|refine rg 6 [0,1,5,6] [0,1,5,6] [] ?_|refine rg 9 [0,1,5,6,7] [0,1,5,6] [] ?_|refine rg 10 [0,1,5,6] [0,1,5,6] [] ?_|refine nc ?_);simp[hF,hp,hi,hic,dB,hni,qy]
    obtain⟨n1,n2⟩:=yK (q:=fun x=>!gR x) qy hij hj mL cM (by rw[←hat];simp[hp])
    refine aO.of [0,1,5,6] [0,1] (m-1) (by omega) (by simp[hF]) ?_
    refine⟨cur.set i cur[j],i+1,j+1,by omega,by omega,by simpa using qy,by rw[hat];exact n1,by rw[hat];exact n2,?_⟩
    simp
    exact⟨IntWalk.i64_in _ (by omega),IntWalk.i64_in _ (by omega)⟩
  ·obtain rfl:j=ls.length:=by omega
   have hil:i≤ls.length:=by omega
   have zS:(i:Int)≤ls.length:=by omega
   rw[List.take_length] at mL
   have hlen:(ls.filter fun x=>!gR x).length=i:=by rw[←mL,List.length_take];omega
   have oD:∀n x,(((iI cur).take i).app (sq (List.replicate n x))).mid 0 i=iI (ls.filter fun x=>!gR x):=fun n x=>by
    rw[←mL,iI,Cu (by simp;omega),←List.map_take,←iI]
   repeat first|refine n1 ?_|refine n7 ?_|(first|refine rg 11 [0,5] [0,5] [] ?_|refine rg 12 [0,5] [4] [] ?_);simp[hF,hil,zS,qy]
   (try refine nr ?_);(repeat first|refine aF ?_|refine aG ?_);refine ak.o [4] [0,1] [(0,[])] ?_;simp[hF,an,aa,ah,oD,hlen]
end Go.Proofs.YtbhigdljojlhnaaGreat

namespace Go.Proofs.YtbhigdljojlhnaaGreat
set_option linter.all false
open Go.Vc Go.Proofs
set_option maxRecDepth 100000
set_option maxHeartbeats 4000000
attribute [local irreducible] bx jv
theorem Yn(fr:List Int)(hf:fr.length≤100000000)(n:Int):ai Tryz.prog 130 [cE fr] (.cons (ag n) (.cons (.ptr 0 [.d]) .nil)) fun av X κ=>av=aN (bh fr n)∧X=[cE fr]∧κ=[]:=by
 refine fb Tryz.func130 Tryz.ntmps130 [.tmp 3] fun w0 I0 F0 hF=>?_
 repeat first|refine n1 ?_|(first|refine rg 0 [0,1] [0,1] [] ?_|refine rg 1 [0,1] [3] [] ?_);simp[hF,cE]
 refine(iy false fr n hf).go [] (by simp[hF]) ?_;rintro av X κ ⟨rfl,rfl,rfl⟩;simp[hF]
 repeat refine n1 ?_
 (try refine nr ?_);(repeat first|refine aF ?_|refine aG ?_);refine ak.o [3] [0] [] ?_;simp[hF,an,aa,ah,cE]
theorem Cv(ex:Bool)(ls x:List Int)(hl:ls.length≤100000000)(p:Int→Bool)
  (hg:∀i,(h:i<ls.length)→ai Tryz.prog 130 [cE x] (.cons (ag ls[i]) (.cons (.ptr 0 [.d]) .nil)) fun av X κ=>av=aN (p ls[i])∧X=[cE x]∧κ=[]) :
  ai Tryz.prog 116 [.sl true () 1 (aj ls),cE x] (.cons (.sub 0 [] 0 ls.length ex) (.cons (.fn 130 (.cons (.ptr 1 [.d]) .nil)) .nil))
  fun av X κ=>av=ag (lZ p ls)∧X=[.sl true () 1 (aj ls),cE x]∧κ=[]:=by
 refine fb Tryz.func116 Tryz.ntmps116 [.tmp 4] fun w0 I0 F0 hF=>?_
 repeat first|refine n1 ?_|refine n3 ?_|(first|refine rg 0 [0,1] [0,1] [] ?_|refine rg 1 [0,1] [0,1,7,8] [] ?_);simp[hF,cE]
 refine VS.rounds (fun m st=>∃(i:Nat),i+m=ls.length∧(∀j,(h:j<ls.length)→j<i→p ls[j]=false)∧st=⟨[(0,.sub 0 [] 0 ls.length ex),(1,.fn 130 (.cons (.ptr 1 [.d]) .nil)),(7,ag ls.length),(8,ag i)],[.sl true () 1 (aj ls),cE x],[],[]⟩) ⟨ls.length,0,by omega,by omega,by simp[cE]⟩ ?_
 rintro m st ⟨i,hi,hall,rfl⟩
 repeat first|refine n1 ?_|(first|refine rg 2 [0,1,7,8] [0,1,7,8,9] [] ?_|refine nc ?_);simp[hF,cE]
 refine⟨fun hlt=>?_,fun hge=>?_⟩
 ·have hi':i<ls.length:=by omega
  have hn:=bP hi'
  repeat first|refine n1 ?_|refine n2 ?_|refine n3 ?_|(first|refine rg 3 [0,1,7,8] [0,1,5,7,8] [] ?_|refine rg 4 [0,1,5,7,8] [0,1,5,7,8,16] [] ?_);simp[hF,cE,hn,hi']
  refine(hg i hi').go [(1,[])] (by simp[hF,cE]) ?_;rintro av X κ ⟨rfl,rfl,rfl⟩;simp[hF,cE]
  cases hp:p ls[i] with
  | true =>
   have hr:lZ p ls=i:=hU hi' (fun j h=>hall j (by omega) h) hp
   repeat first|refine n1 ?_|(first|refine rg 5 [5] [4] [] ?_|refine nc ?_);simp[hF,hp]
   (try refine nr ?_);(repeat first|refine aF ?_|refine aG ?_);refine ak.o [4] [0,1] [] ?_;simp[hF,an,aa,ah,cE,hr]
  | false =>
   repeat first|refine n2 ?_|refine n4 ?_|refine n5 ?_|refine n6 ?_|(first|refine rg 6 [0,1,7,8] [0,1,7,8] [] ?_|refine nc ?_);simp[hF,hp]
   refine aO.of [0,1,7,8] [0,1] (m-1) (by omega) (by simp[hF]) ?_
   refine⟨i+1,by omega,?_,?_⟩
   ·intro j hj hji
    rcases Nat.lt_or_ge j i with h'|h'
    ·exact hall j hj h'
    ·obtain rfl:j=i:=by omega
     exact hp
   ·simp[cE]
    exact IntWalk.i64_in _ (by omega)
 ·have hr:lZ p ls=-1:=fV (fun j h=>hall j h (by omega))
  repeat first|refine n1 ?_|refine n7 ?_|refine rg 7 [] [4] [] ?_;simp[hF]
  (try refine nr ?_);(repeat first|refine aF ?_|refine aG ?_);refine ak.o [4] [0,1] [] ?_;simp[hF,an,aa,ah,cE,hr]
theorem Cw(ls fr:List Int)(hfr:fr.length≤100000000)(hl:ls.length≤100000000):ai Tryz.prog 129 [.sl true () 1 (aj ls),cE fr] (.cons (.sub 0 [] 0 ls.length false) (.cons (.fn 130 (.cons (.ptr 1 [.d]) .nil)) .nil))
  fun av X κ=>∃s m,av=.sub 2 [] 0 m false∧X=[.aH (),cE fr,.sl true () 1 s]∧κ=[(0,[])]∧s.mid 0 m=aj (ls.filter fun x=>!bh fr x)∧m=(ls.filter fun x=>!bh fr x).length:=by
 refine fb Tryz.func129 Tryz.ntmps129 [.tmp 4] fun w0 I0 F0 hF=>?_
 repeat first|refine n1 ?_|refine rg 0 [0,1] [0,1] [] ?_;simp[hF]
 refine eP 0 [] ?_;simp[hF,St.lift,AV.lift,cJ,cK,dV,isNode,cE]
 repeat first|refine rg 1 [0,1] [0,1,5] [] ?_;simp[hF]
 refine(Cv false ls fr hl (bh fr) (fun i h=>Yn fr hfr ls[i])).go [(2,[]),(1,[])] (by simp[hF,cE]) ?_;rintro av X κ ⟨rfl,rfl,rfl⟩;simp[hF,cE]
 repeat first|refine n1 ?_|(first|refine rg 2 [0,1,5] [0,1,5,12] [] ?_|refine nc ?_);simp[hF]
 refine⟨fun hm=>?_,fun hm=>?_⟩
 ·have hf:=vw hm
  repeat first|refine n1 ?_|refine rg 3 [0] [4] [] ?_;simp[hF]
  (try refine nr ?_);(repeat first|refine aF ?_|refine aG ?_);refine ak.o [4] [0,1,2] [(0,[])] ?_;simp[hF,an,aa,ah,cE,hf]
 ·obtain⟨i0,pQ,he,P8,hall⟩:=rP hm
  repeat first|refine n1 ?_|refine n2 ?_|refine n3 ?_|refine rg 4 [0,1,5] [0,1,5,6] [] ?_;simp[hF,he]
  refine VS.forget ?_;simp[hF,St.forget]
  refine VS.rounds (fun m st=>∃(cur:List Int) (i j:Nat),j+m=ls.length∧i<j∧cur.length=ls.length∧cur.take i=(ls.take j).filter (fun x=>!bh fr x)∧cur.drop j=ls.drop j ∧
   st=⟨[(0,.sub 2 [] 0 ls.length false),(1,.fn 130 (.cons (.ptr 1 [.d]) .nil)),(5,ag i),(6,ag j)],[.aH (),cE fr,.sl true () 1 (aj cur)],[(0,[])],[]⟩)
   ⟨ls.length-(i0+1),ls,i0,i0+1,by omega,by omega,rfl,Cs pQ (fun k hk=>by simp[hall k hk]) (by simp[P8]),rfl,?_⟩ ?_
  ·simp[he,cE]
   exact IntWalk.i64_in _ (by omega)
  rintro m st ⟨cur,i,j,hjm,hij,qy,mL,cM,rfl⟩
  repeat first|refine n1 ?_|(first|refine rg 5 [0,1,5,6] [0,1,5,6,19] [] ?_|refine nc ?_);simp[hF]
  refine⟨fun hlt=>?_,fun hge=>?_⟩
  ·have hj:j<ls.length:=by omega
   have hjc:j<cur.length:=by omega
   have hn:=bP hjc
   have hat:=P6 qy hj cM
   repeat first|refine n1 ?_|refine n2 ?_|refine n3 ?_|(first|refine rg 7 [0,1,5,6] [0,1,5,6,7] [] ?_|refine rg 8 [0,1,5,6,7] [0,1,5,6,7,29] [] ?_);simp[hF,hn,hjc,hj]
   refine(Yn fr hfr cur[j]).go [(1,[])] (by simp[hF,cE]) ?_;rintro av X κ ⟨rfl,rfl,rfl⟩;simp[hF,cE]
   cases hp:bh fr cur[j] with
   | true =>
    repeat first|refine n2 ?_|refine n4 ?_|refine n5 ?_|refine n6 ?_|(first|refine rg 6 [0,1,5,6] [0,1,5,6] [] ?_|refine nc ?_);simp[hF,hp]
    obtain⟨n1,n2⟩:=Ct (q:=fun x=>!bh fr x) hj mL cM (by rw[←hat];simp[hp])
    refine aO.of [0,1,5,6] [0,1,2] (m-1) (by omega) (by simp[hF]) ?_
    refine⟨cur,i,j+1,by omega,by omega,qy,n1,n2,?_⟩
    simp[cE]
    exact IntWalk.i64_in _ (by omega)
   | false =>
    have hi:i<ls.length:=by omega
    have hic:i<cur.length:=by omega
    have dB:=KP cur i cur[j]
    have hni:=bP hic
    repeat first|refine n1 ?_|refine n4 ?_|refine n5 ?_|refine n6 ?_|(first|refine rg 6 [0,1,5,6] [0,1,5,6] [] ?_|refine rg 9 [0,1,5,6,7] [0,1,5,6] [] ?_|refine rg 10 [0,1,5,6] [0,1,5,6] [] ?_|refine nc ?_);simp[hF,hp,hi,hic,dB,hni,qy]
    obtain⟨n1,n2⟩:=yK (q:=fun x=>!bh fr x) qy hij hj mL cM (by rw[←hat];simp[hp])
    refine aO.of [0,1,5,6] [0,1,2] (m-1) (by omega) (by simp[hF]) ?_
    refine⟨cur.set i cur[j],i+1,j+1,by omega,by omega,by simpa using qy,by rw[hat];exact n1,by rw[hat];exact n2,?_⟩
    simp[cE]
    exact⟨IntWalk.i64_in _ (by omega),IntWalk.i64_in _ (by omega)⟩
  ·obtain rfl:j=ls.length:=by omega
   have hil:i≤ls.length:=by omega
   have zS:(i:Int)≤ls.length:=by omega
   rw[List.take_length] at mL
   have hlen:(ls.filter fun x=>!bh fr x).length=i:=by rw[←mL,List.length_take];omega
   have oD:∀n x,(((aj cur).take i).app (sq (List.replicate n x))).mid 0 i=aj (ls.filter fun x=>!bh fr x):=fun n x=>by
    rw[←mL,aj,Cu (by simp;omega),←List.map_take,←aj]
   repeat first|refine n1 ?_|refine n7 ?_|(first|refine rg 11 [0,5] [0,5] [] ?_|refine rg 12 [0,5] [4] [] ?_);simp[hF,hil,zS,qy]
   (try refine nr ?_);(repeat first|refine aF ?_|refine aG ?_);refine ak.o [4] [0,1,2] [(0,[])] ?_;simp[hF,an,aa,ah,cE,oD,hlen]
theorem Vt(n:Nat)(h1:1≤n)(h2:n≤100000000):ai Tryz.prog 135 [] (.cons (.bE 1) (.cons (ag n) .nil))
  fun av X κ=>av=.sub 0 [] 0 0 false∧X=[.sl true () 1 (aj (List.replicate n 0))]∧κ=[]:=by
 have b1:¬(n:Int)<0:=by omega
 have b2:(0:Int)<n:=by omega
 have b3:IntKind.i64.wrap (n:Int)=n:=IntWalk.i64_in _ (by omega)
 have b4:IntKind.i64.wrap 0=0:=by decide
 have b5:0<n:=h1
 have b6:(n:Int)*8≤140737488355328:=by omega
 have b7:(n:Int)≤9223372036854775807:=by omega
 refine fb Tryz.func135 Tryz.ntmps135 [.tmp 4] fun w0 I0 F0 hF=>?_
 repeat first|refine n1 ?_|refine n2 ?_|(first|refine rg 0 [0,1] [0,1] [] ?_|refine rg 1 [0,1] [0,1,6] [] ?_|refine rg 3 [0,1] [0,1] [] ?_|refine rg 4 [0,1] [0,1,16] [] ?_|refine rg 5 [0,1] [0] [] ?_|refine rg 6 [0] [4] [] ?_|refine nc ?_);simp[hF,b1,b2,b3,b4,b5,b6,b7,FO]
 (try refine nr ?_);(repeat first|refine aF ?_|refine aG ?_);refine ak.o [4] [0] [] ?_;simp[hF,an,aa,ah]
def rM (l:List (Bool×List Int)):D:=sq (l.map fun o=>.sl o.1 () 1 (aj o.2))
@[simp] theorem aeS(l:List (Bool×List Int)):(rM l).len=l.length:=by simp[rM]
theorem pR{l:List (Bool×List Int)}{i:Nat}(h:i<l.length):(rM l).nth i=.sl l[i].1 () 1 (aj l[i].2):=by
 rw[rM,ep (by simpa using h)];simp
def ck:List (Bool×List Int)→Nat
 | []=>0
 | o::l=>o.2.length+ck l
def eu:List (Bool×List Int)→List Int
 | []=>[]
 | o::l=>o.2++eu l
theorem oM:∀{l:List (Bool×List Int)} {i:Nat} (h:i<l.length),ck (l.take (i+1))=ck (l.take i)+l[i].2.length
 | o::l,0,_=>by simp[ck]
 | o::l,i+1,h=>by
  have:=oM (l:=l) (i:=i) (by simpa using h)
  simp only[List.take_succ_cons,ck,List.getElem_cons_succ] at this ⊢
  omega
theorem uo:∀{l:List (Bool×List Int)} {i:Nat} (h:i<l.length),eu (l.take (i+1))=eu (l.take i)++l[i].2
 | o::l,0,_=>by simp[eu]
 | o::l,i+1,h=>by
  have:=uo (l:=l) (i:=i) (by simpa using h)
  simp only[List.take_succ_cons,eu,List.getElem_cons_succ] at this ⊢
  rw[this,List.append_assoc]
theorem vz:∀l:List (Bool×List Int),(eu l).length=ck l
 | []=>rfl
 | o::l=>by simp[eu,ck,vz l]
theorem tw:∀(l:List (Bool×List Int)) (i:Nat),ck (l.take i)≤ck l
 | [],i=>by simp[ck]
 | o::l,0=>by simp[ck]
 | o::l,i+1=>by
  have:=tw l i
  simp only[List.take_succ_cons,ck]
  omega
theorem pS(ex:Bool)(l:List (Bool×List Int))(hl:l.length≤1000)(h1:1≤ck l)(h2:ck l≤100000000):ai Tryz.prog 125 [.sl true () 1 (rM l)] (.cons (.sub 0 [] 0 l.length ex) .nil)
  fun av X κ=>av=.cA 1 (aj (eu l)) false∧X=[.sl true () 1 (rM l)]∧κ=[]:=by
 refine fb Tryz.func125 Tryz.ntmps125 [.tmp 2] fun w0 I0 F0 hF=>?_
 repeat first|refine n1 ?_|refine n3 ?_|(first|refine rg 0 [0] [0] [] ?_|refine rg 1 [0] [0,3] [] ?_|refine rg 2 [0,3] [0,3,9,10,11] [] ?_);simp[hF]
 refine VS.rounds (fun m st=>∃(i:Nat),i+m=l.length∧st=⟨[(0,.sub 0 [] 0 l.length ex),(3,ag (ck (l.take i))),(9,.sub 0 [] 0 l.length ex),(10,ag l.length),(11,ag i)],[.sl true () 1 (rM l)],[],[]⟩) ⟨l.length,0,by omega,by simp[ck]⟩ ?_
 rintro m st ⟨i,hi,rfl⟩
 repeat first|refine n1 ?_|(first|refine rg 3 [0,3,9,10,11] [0,3,9,10,11,12] [] ?_|refine nc ?_);simp[hF]
 refine⟨fun hlt=>?_,fun hge=>?_⟩
 ·have hi':i<l.length:=by omega
  have hn:=pR hi'
  have hs:=oM hi'
  have hle:=tw l (i+1)
  have hw:IntKind.i64.wrap ((ck (l.take i):Int)+(l[i].2.length:Int))=((ck (l.take (i+1)):Nat):Int):=by rw[IntWalk.i64_in _ (by omega)];omega
  have hneg:¬((ck (l.take (i+1)):Nat):Int)<0:=by omega
  cases ho:l[i].1 with
  | true =>
   rw[ho] at hn
   repeat first|refine n1 ?_|refine n2 ?_|refine n3 ?_|refine n4 ?_|refine n5 ?_|refine n6 ?_|(first|refine rg 4 [0,3,9,10,11] [0,3,5,9,10,11] [] ?_|refine rg 5 [0,3,5,9,10,11] [0,3,9,10,11] [] ?_|refine rg 6 [0,3,9,10,11] [0,3,9,10,11,20] [] ?_|refine rg 8 [0,3,9,10,11] [0,3,9,10,11] [] ?_|refine nc ?_);simp[hF,hn,hi',hw,hneg]
   refine aO.of [0,3,9,10,11] [0] (m-1) (by omega) (by simp[hF]) ?_
   refine⟨i+1,by omega,?_⟩
   simp
   exact IntWalk.i64_in _ (by omega)
  | false =>
   rw[ho] at hn
   repeat first|refine n1 ?_|refine n2 ?_|refine n3 ?_|refine n4 ?_|refine n5 ?_|refine n6 ?_|(first|refine rg 4 [0,3,9,10,11] [0,3,5,9,10,11] [] ?_|refine rg 5 [0,3,5,9,10,11] [0,3,9,10,11] [] ?_|refine rg 6 [0,3,9,10,11] [0,3,9,10,11,20] [] ?_|refine rg 8 [0,3,9,10,11] [0,3,9,10,11] [] ?_|refine nc ?_);simp[hF,hn,hi',hw,hneg]
   refine aO.of [0,3,9,10,11] [0] (m-1) (by omega) (by simp[hF]) ?_
   refine⟨i+1,by omega,?_⟩
   simp
   exact IntWalk.i64_in _ (by omega)
 ·obtain rfl:i=l.length:=by omega
  rw[List.take_length]
  repeat first|refine n1 ?_|refine n7 ?_|refine rg 9 [0,3] [0,6] [] ?_;simp[hF]
  refine(Vt (ck l) h1 h2).go [] (by simp[hF]) ?_;rintro av X κ ⟨rfl,rfl,rfl⟩;simp[hF]
  repeat first|refine n1 ?_|refine n3 ?_|refine rg 10 [0,6] [6,25,26,27] [] ?_;simp[hF]
  refine VS.rounds (fun m st=>∃(i:Nat) (s:D),i+m=l.length∧s.mid 0 (ck (l.take i))=aj (eu (l.take i))∧st=⟨[(6,.sub 1 [] 0 (ck (l.take i)) false),(25,.sub 0 [] 0 l.length ex),(26,ag l.length),(27,ag i)],[.sl true () 1 (rM l),.sl true () 1 s],[],[]⟩) ⟨l.length,0,aj (List.replicate (ck l) 0),by omega,?_,?_⟩ ?_
  ·simp[ck,eu,ju]
  ·simp[ck]
  rintro m st ⟨i,s,hi,hs0,rfl⟩
  repeat first|refine n1 ?_|(first|refine rg 11 [6,25,26,27] [6,25,26,27,28] [] ?_|refine nc ?_);simp[hF]
  refine⟨fun hlt=>?_,fun hge=>?_⟩
  ·have hi':i<l.length:=by omega
   have hn:=pR hi'
   have hs:=oM hi'
   have hf:=uo hi'
   have hle:=tw l (i+1)
   have ha:=kS (eu (l.take i)) l[i].2
   have b1:(ck (l.take i)+l[i].2.length)*8≤140737488355328:=by omega
   have b2:ck (l.take i)+l[i].2.length≤9223372036854775807:=by omega
   have oD:(aj (eu (l.take i)++l[i].2)).mid 0 (ck (l.take i)+l[i].2.length)=aj (eu (l.take i)++l[i].2):=by
    rw[←hf,←hs,←vz];simp
   cases ho:l[i].1 with
   | true =>
    rw[ho] at hn
    repeat first|refine n1 ?_|refine n2 ?_|refine n3 ?_|refine n4 ?_|refine n5 ?_|refine n6 ?_|(first|refine rg 12 [6,25,26,27] [6,8,25,26,27] [] ?_|refine rg 13 [6,8,25,26,27] [6,25,26,27] [] ?_|refine rg 14 [6,25,26,27] [6,25,26,27] [] ?_);simp[hF,hn,hi',hs0,ha,b1,b2]
    refine aO.of [6,25,26,27] [0,1] (m-1) (by omega) (by simp[hF]) ?_
    refine⟨i+1,aj (eu (l.take i)++l[i].2),by omega,by rw[hs,hf];exact oD,?_⟩
    simp[hs]
    exact IntWalk.i64_in _ (by omega)
   | false =>
    rw[ho] at hn
    repeat first|refine n1 ?_|refine n2 ?_|refine n3 ?_|refine n4 ?_|refine n5 ?_|refine n6 ?_|(first|refine rg 12 [6,25,26,27] [6,8,25,26,27] [] ?_|refine rg 13 [6,8,25,26,27] [6,25,26,27] [] ?_|refine rg 14 [6,25,26,27] [6,25,26,27] [] ?_);simp[hF,hn,hi',hs0,ha,b1,b2]
    refine aO.of [6,25,26,27] [0,1] (m-1) (by omega) (by simp[hF]) ?_
    refine⟨i+1,aj (eu (l.take i)++l[i].2),by omega,by rw[hs,hf];exact oD,?_⟩
    simp[hs]
    exact IntWalk.i64_in _ (by omega)
  ·obtain rfl:i=l.length:=by omega
   rw[List.take_length] at hs0
   repeat first|refine n1 ?_|refine n7 ?_|refine rg 15 [6] [2] [] ?_;simp[hF]
   refine VS.fl 2 (by simp[hF,hs0]) ?_;simp[hF,St.fl,hs0]
   (try refine nr ?_);(repeat first|refine aF ?_|refine aG ?_);refine ak.o [2] [0] [] ?_;simp[hF,an,aa,ah]
theorem P9(ex:Bool)(l:List Int)(hl:l.length≤100000000):ai Tryz.prog 96 [] (.cons (.cA 1 (aj l) ex) .nil)
  fun av X κ=>av=.sub 0 [] 0 l.length false∧X=[.sl true () 1 (aj l)]∧κ=[]:=by
 refine fb Tryz.func96 Tryz.ntmps96 [.tmp 2] fun w0 I0 F0 hF=>?_
 repeat first|refine n1 ?_|(first|refine rg 0 [0] [0] [] ?_|refine rg 1 [0] [0,4] [] ?_);simp[hF]
 refine⟨?_,fun h0=>?_⟩
 ·repeat first|refine n1 ?_|refine n2 ?_|refine⟨⟨by omega,by omega⟩,?_⟩|(first|refine rg 3 [0] [2] [] ?_|refine nc ?_);simp[hF]
  (try refine nr ?_);(repeat first|refine aF ?_|refine aG ?_);refine ak.o [2] [0] [] ?_;simp[hF,an,aa,ah]
 ·repeat first|refine n1 ?_|(first|refine rg 2 [] [2] [] ?_|refine nc ?_);simp[hF]
  refine VS.eT 2 1 (by simp) ?_
  subst h0
  (try refine nr ?_);(repeat first|refine aF ?_|refine aG ?_);refine ak.o [2] [0] [] ?_;simp[hF,an,aa,ah,aj]
theorem tA(ex:Bool)(l:List Int)(hl:l.length≤100000000):ai Tryz.prog 96 [] (.cons (.cA 1 (aj l) ex) .nil)
  fun av X κ=>av=.cA 1 (aj l) false∧X=[]∧κ=[]:=by
 refine fb Tryz.func96 Tryz.ntmps96 [.tmp 2] fun w0 I0 F0 hF=>?_
 repeat first|refine n1 ?_|(first|refine rg 0 [0] [0] [] ?_|refine rg 1 [0] [0,4] [] ?_);simp[hF]
 refine⟨?_,fun h0=>?_⟩
 ·repeat first|refine n1 ?_|refine n2 ?_|refine⟨⟨by omega,by omega⟩,?_⟩|(first|refine rg 3 [0] [2] [] ?_|refine nc ?_);simp[hF]
  refine VS.fl 2 (by simp[hF]) ?_;simp[hF,St.fl]
  (try refine nr ?_);(repeat first|refine aF ?_|refine aG ?_);refine ak.o [2] [] [] ?_;simp[hF,an,aa,ah]
 ·repeat first|refine n1 ?_|(first|refine rg 2 [] [2] [] ?_|refine nc ?_);simp[hF]
  refine VS.eT 2 1 (by simp) ?_
  subst h0
  refine VS.fl 2 (by simp[hF,T.freeze,T.mid,T.drop,T.take]) ?_;simp[hF,St.fl,T.freeze,T.mid,T.drop,T.take]
  (try refine nr ?_);(repeat first|refine aF ?_|refine aG ?_);refine ak.o [2] [] [] ?_;simp[hF,an,aa,ah]
def hd (x:List Int):Int:=x.headD 0
def total:List (List Int)→Nat
 | []=>0
 | x::l=>x.length+total l
def bz (v:Int) (y:List Int):List Int:=if hd y=v then y.tail else y
def ew:Nat→List (List Int)→List Int→Option (List Int)
 | 0,_,_=>none
 | n+1,ls,out =>
  if (ls.filter fun x=>!gR x)=[] then some out
  else match (ls.filter fun x=>!gR x).find? fun x=>!bV (ls.filter fun x=>!gR x) (hd x) with
   | none=>none
   | some x=>ew n ((ls.filter fun x=>!gR x).map (bz (hd x))) (out++[hd x])
def fJ (ls:List (List Int)):Option (List Int):=ew (total ls+1) ls []
theorem Cy{x:List Int}(h:0<x.length):hd x=x[0]:=by
 cases x with
 | nil=>cases h
 | cons a l=>rfl
theorem fK(l:List Int)(x:Int):(aj l).app (.cons (.val (.int .i64 x)) .nil)=aj (l++[x]):=kS l [x]
theorem KQ{ls:List (List Int)}(h:∀y∈ls,0<y.length):ls.length≤total ls:=by
 induction ls with
 | nil=>exact Nat.le_refl _
 | cons x l ih =>
  have h1:=h x List.mem_cons_self
  have h2:=ih fun y hy=>h y (List.mem_cons_of_mem _ hy)
  simp only[List.length_cons,total];omega
theorem zT(ls:List (List Int)):total (ls.filter fun x=>!gR x)=total ls:=by
 induction ls with
 | nil=>rfl
 | cons x l ih =>
  by_cases h:gR x=true
  ·have:x.length=0:=by simpa[gR] using h
   simp[h,total,ih,this]
  ·simp[h,total,ih]
theorem xV(v:Int)(ls:List (List Int)):total (ls.map (bz v))≤total ls:=by
 induction ls with
 | nil=>exact Nat.le_refl _
 | cons x l ih =>
  have:(bz v x).length≤x.length:=by unfold bz;split<;>simp
  simp only[List.map_cons,total];omega
theorem qE{v:Int}{ls:List (List Int)}{x:List Int}(hx:x∈ls)(h0:0<x.length)(hv:hd x=v):total (ls.map (bz v))<total ls:=by
 induction ls with
 | nil=>cases hx
 | cons y l ih =>
  have hy:(bz v y).length≤y.length:=by unfold bz;split<;>simp
  have hl:=xV v l
  simp only[List.map_cons,total]
  rcases List.mem_cons.1 hx with rfl|hx
  ·have:(bz v x).length<x.length:=by unfold bz;rw[if_pos hv];simp;omega
   omega
  ·have:=ih hx;omega
theorem qP{ls:List (List Int)}{y:List Int}(h:y∈ls.filter fun x=>!gR x):0<y.length:=by
 have:=(List.mem_filter.1 h).2
 simp[gR] at this
 exact List.length_pos_iff.2 this
theorem mP{ls:List (List Int)}{y:List Int}(h:y∈ls):y.length≤total ls:=by
 induction ls with
 | nil=>cases h
 | cons x l ih =>
  simp only[total]
  rcases List.mem_cons.1 h with rfl|h
  ·omega
  ·have:=ih h;omega
theorem Qa(ls:List (List Int))(hl:ls.length≤10000)(ht:total ls≤100000000):ai Tryz.prog 137 [.sl true () 1 (iI ls)] (.cons (.sub 0 [] 0 ls.length false) .nil)
  fun av X κ=>match fJ ls with
   | some o=>av=.cT (.cons (.sub 1 [] 0 o.length false) (.cons (aN true) .nil))∧X=[.aH (),.sl true () 1 (aj o)]∧κ=[(0,[])]
   | none=>av=.cT (.cons (.bE 1) (.cons (aN false) .nil))∧X=[.aH ()]∧κ=[(0,[])]:=by
 refine fb Tryz.func137 Tryz.ntmps137 [.tmp 2,.tmp 3] fun w0 I0 F0 hF=>?_
 repeat refine n1 ?_
 refine eP 0 [] ?_;simp[hF,St.lift,AV.lift,cJ,cK,dV,isNode]
 refine VS.forget ?_;simp[hF,St.forget]
 repeat first|refine n1 ?_|refine n3 ?_|(first|refine rg 0 [0] [1] [] ?_|refine rg 1 [1] [1,4] [] ?_);simp[hF]
 refine VS.eT 4 1 (by simp) ?_
 refine VS.pick [1,4] [0,2,3] (by simp[hF]) ?_;simp[hF]
 refine VS.rounds (fun m st=>∃(cur:List (List Int)) (out:List Int) (f:Nat),m=total cur∧total cur<f∧ew f cur out=fJ ls∧cur.length≤ls.length∧total cur+out.length≤total ls ∧
  st=⟨[(1,.ptr 1 [.d]),(4,.sub 2 [] 0 out.length false)],[.aH (),bI cur,.sl true () 1 (aj out)],[(0,[])],[]⟩)
  ⟨total ls,ls,[],total ls+1,rfl,by omega,rfl,Nat.le_refl _,by simp,by simp[bI]⟩ ?_
 rintro m st ⟨cur,out,f,rfl,hf,hmo,qy,htot,rfl⟩
 obtain⟨f,rfl⟩:∃f',f=f'+1:=⟨f-1,by omega⟩
 have hpos:∀y∈(cur.filter fun x=>!gR x),0<y.length:=fun y hy=>qP hy
 have htf:=zT cur
 have hll:=KQ hpos
 have hfl:(cur.filter fun x=>!gR x).length≤cur.length:=List.length_filter_le _ _
 have hle:∀y∈(cur.filter fun x=>!gR x),y.length≤100000000:=fun y hy=>by have:=mP hy;omega
 unfold ew at hmo
 repeat first|refine n1 ?_|refine n3 ?_|refine rg 2 [1,4] [1,4] [] ?_;simp[hF,bI]
 refine(P7 cur (by omega)).go [(1,[.d])] (by simp[hF,bI]) ?_;rintro av X κ ⟨s1,m1,rfl,rfl,rfl,hs1,uq⟩;simp[hF,bI]
 generalize (cur.filter fun x=>!gR x)=l at *
 subst uq
 repeat first|refine n1 ?_|(first|refine rg 3 [1,4] [1,4,13] [] ?_|refine nc ?_);simp[hF,hs1]
 refine⟨fun hl0=>?_,fun hl0=>?_⟩
 ·rw[if_pos hl0] at hmo
  rw[←hmo]
  repeat first|refine n1 ?_|refine rg 4 [4] [2,3] [] ?_;simp[hF]
  (try refine nr ?_);(repeat first|refine aF ?_|refine aG ?_);refine ak.o [2,3] [0,2] [(0,[])] ?_;simp[hF,an,aa,ah]
 ·rw[if_neg hl0] at hmo
  refine VS.pick [1,4] [0,1,2] (by simp[hF]) ?_;simp[hF]
  repeat first|refine n1 ?_|refine n2 ?_|refine rg 5 [1,4] [1,4,5] [] ?_;simp[hF]
  refine(Cq false l (by omega) (fun x=>!bV l (hd x)) (fun i h=>by have hp:=hpos _ (List.getElem_mem h);rw[Cy hp];exact acC false l l[i] (by omega) hpos hle hp)).go [(1,[])] (by simp[hF,bI]) ?_;rintro av X κ ⟨rfl,rfl,rfl⟩;simp[hF,bI]
  by_cases hat:lZ (fun x=>!bV l (hd x)) l=-1
  ·have hfind:l.find? (fun x=>!bV l (hd x))=none:=by
    rw[List.find?_eq_none]
    intro x hx
    have:=vw hat
    rw[List.filter_eq_self] at this
    have:=this x hx
    simpa using this
   rw[hfind] at hmo
   simp only at hmo
   rw[←hmo]
   repeat first|refine n1 ?_|(first|refine rg 6 [1,4,5] [1,4,5,19] [] ?_|refine rg 7 [] [2,3] [] ?_|refine nc ?_);simp[hF,hat]
   (try refine nr ?_);(repeat first|refine aF ?_|refine aG ?_);refine ak.o [2,3] [0] [(0,[])] ?_;simp[hF,an,aa,ah]
  ·obtain⟨i0,pQ,he,P8,hall⟩:=rP hat
   have hfind:l.find? (fun x=>!bV l (hd x))=some l[i0]:=by
    rw[List.find?_eq_some_iff_getElem]
    exact⟨P8,i0,pQ,rfl,fun j hj=>by simpa using hall j hj⟩
   rw[hfind] at hmo
   simp only at hmo
   have hn:=iQ pQ
   have hx0:=hpos _ (List.getElem_mem pQ)
   have hn0:=bP hx0
   have hhd:=Cy hx0
   have hlt:=qE (List.getElem_mem pQ) hx0 rfl
   rw[hhd] at hmo hlt
   have dD:=fK out l[i0][0]
   have b1:(out.length+1)*8≤140737488355328:=by omega
   have b2:out.length+1≤9223372036854775807:=by omega
   have hneg:¬(i0:Int)<0:=by omega
   repeat first|refine n1 ?_|refine n2 ?_|refine n3 ?_|(first|refine rg 6 [1,4,5] [1,4,5,19] [] ?_|refine rg 8 [1,4,5] [1,4,6] [] ?_|refine rg 9 [1,4,6] [1,4,6] [] ?_|refine rg 10 [1,4,6] [1,4,6,30,31,32] [] ?_|refine nc ?_);simp[hF,he,hn,hx0,hn0,pQ,dD,b1,b2,hneg,bI]
   have hdone:((aj (out++[l[i0][0]])).mid 0 (out.length+1))=aj (out++[l[i0][0]]):=aV _ _ (by simp)
   generalize l[i0][0]=v at *
   refine VS.pick [1,4,6,30,31,32] [0,1,2] (by simp[hF]) ?_;simp[hF]
   refine VS.rounds (fun m2 st=>∃(k:Nat),k+m2=l.length∧st=⟨[(1,.ptr 1 [.d]),(4,.sub 2 [] 0 (out.length+1) false),(6,ag v),(30,.sub 1 [.d] 0 l.length false),(31,ag l.length),(32,ag k)],
    [.aH (),bI ((l.map (bz v)).take k++l.drop k),.sl true () 1 (aj (out++[v]))],[(0,[])],[]⟩) ⟨l.length,0,by omega,by simp[bI]⟩ ?_
   rintro m2 st ⟨k,hk,rfl⟩
   repeat first|refine n1 ?_|(first|refine rg 11 [1,4,6,30,31,32] [1,4,6,30,31,32,33] [] ?_|refine nc ?_);simp[hF,bI]
   refine⟨fun rQ=>?_,fun aft=>?_⟩
   ·have mc:k<l.length:=by omega
    have Yo:((l.map (bz v)).take k++l.drop k).length=l.length:=by simp;omega
    have Cz:k<((l.map (bz v)).take k++l.drop k).length:=by omega
    have acG:((l.map (bz v)).take k++l.drop k)[k]=l[k]:=by
     rw[List.getElem_append_right (by simp;omega)]
     simp[Nat.min_eq_left (Nat.le_of_lt mc)]
    have hnk:=iQ Cz
    rw[acG] at hnk
    have hx1:=hpos _ (List.getElem_mem mc)
    have FK:=bP hx1
    have hhk:=Cy hx1
    have hnext:∀y,y=bz v l[k]→((l.map (bz v)).take k++l.drop k).set k y=(l.map (bz v)).take (k+1)++l.drop (k+1):=fun y hy=>by
     subst hy
     rw[List.set_append_right _ _ (by simp;omega)]
     simp only[List.length_map,List.length_take,Nat.min_eq_left (Nat.le_of_lt mc),Nat.sub_self]
     rw[List.drop_eq_getElem_cons mc,List.set_cons_zero,List.take_add_one,List.getElem?_map,List.getElem?_eq_getElem mc]
     simp
    have acH:=zR ((l.map (bz v)).take k++l.drop k) k l[k].tail
    have fW:=qO l[k]
    have Vu:(1:Int)≤l[k].length:=by omega
    have acI:1≤l[k].length:=by omega
    repeat first|refine n1 ?_|refine n2 ?_|refine n3 ?_|(first|refine rg 12 [1,4,6,30,31,32] [1,4,6,7,8,30,31,32] [] ?_|refine rg 13 [1,4,6,7,8,30,31,32] [1,4,6,7,8,30,31,32,41] [] ?_|refine nc ?_);simp[hF,mc,Cz,Yo,hnk,hx1,FK,bI]
    refine⟨fun hv=>?_,fun hv=>?_⟩
    ·have Ce:=hnext l[k].tail (by unfold bz;rw[if_pos (by rw[hhk,hv])])
     repeat first|refine n4 ?_|refine n5 ?_|refine n6 ?_|(first|(refine dr 14 0 [1,4,6,7,8,30,31,32] [1,4,6,30,31,32] [] [⟨0,2,4398046511104,6⟩,⟨0,128,8796093022208,5⟩,⟨0,256,17592186044416,5⟩,⟨4,17592186044416,35184372088832,5⟩,⟨15,13194139533312,70368744177664,5⟩,⟨31,105553116266496,0,0⟩] (.take 0 (.take 1 (.take 2 (.take 3 (.take 4 (.fork (.alt 5 (.done) (.nil)))))))) (.run [0,1,2,3,4,5] (.done)) ?_;simp only[nD])|refine rg 15 [1,4,6,30,31,32] [1,4,6,30,31,32] [] ?_);simp[hF,mc,Cz,Yo,hnk,hx1,FK,fW,acH,Vu,acI,bI]
     refine aO.of [1,4,6,30,31,32] [0,1,2] (m2-1) (by omega) (by simp[hF]) ?_
     refine⟨k+1,by omega,?_⟩
     rw[←Ce]
     simp[bI]
     exact IntWalk.i64_in _ (by omega)
    ·have Ce:=hnext l[k] (by unfold bz;rw[if_neg (by rw[hhk];exact hv)])
     have acJ:((l.map (bz v)).take k++l.drop k).set k l[k]=(l.map (bz v)).take k++l.drop k:=by
      rw[←acG];exact List.set_getElem_self _
     rw[acJ] at Ce
     repeat first|refine n2 ?_|refine n4 ?_|refine n5 ?_|refine n6 ?_|refine rg 15 [1,4,6,30,31,32] [1,4,6,30,31,32] [] ?_;simp[hF]
     refine aO.of [1,4,6,30,31,32] [0,1,2] (m2-1) (by omega) (by simp[hF]) ?_
     refine⟨k+1,by omega,?_⟩
     rw[←Ce]
     simp[bI]
     exact IntWalk.i64_in _ (by omega)
   ·obtain rfl:k=l.length:=by omega
    have acK:(l.map (bz v)).take l.length=l.map (bz v):=List.take_of_length_le (by simp)
    repeat first|refine n4 ?_|refine n6 ?_|refine n7 ?_
    refine aO.of [1,4] [0,1,2] (total (l.map (bz v))) (by omega) (by simp[hF]) ?_
    refine⟨l.map (bz v),out++[v],f,rfl,by omega,hmo,by simp;omega,by simp;omega,?_⟩
    simp[bI,acK]
end Go.Proofs.YtbhigdljojlhnaaGreat

namespace Go.Proofs.YtbhigdljojlhnaaGreat
set_option linter.all false
open Go.Vc Go.Proofs
theorem vB{v u:Int}{y:List Int}(h:u∈bz v y):u∈y:=by
 unfold bz at h
 split at h
 ·exact List.mem_of_mem_tail h
 ·exact h
theorem xW{ls:List (List Int)}{v:Int}(h:bV ls v=false):∀y∈ls,v∉y.tail:=by
 intro y hy hv
 have:bV ls v=true:=List.any_eq_true.2 ⟨y,hy,fk.2 hv⟩
 rw[h] at this;cases this
theorem vC{v:Int}{y:List Int}(h:v∉y.tail):v∉bz v y:=by
 unfold bz
 split
 ·exact h
 ·rename_i hh
  cases y with
  | nil=>simp
  | cons a l =>
   intro hm
   rcases List.mem_cons.1 hm with rfl|hm
   ·exact hh rfl
   ·exact h hm
theorem FP{v:Int}{y rest:List Int}(h0:0<y.length)(h:(bz v y).Sublist rest):y.Sublist (v::rest):=by
 unfold bz at h
 split at h
 ·rename_i hh
  cases y with
  | nil=>cases h0
  | cons a l=>obtain rfl:a=v:=hh;exact h.cons₂ _
 ·exact h.cons _
theorem vD:∀(f:Nat) (ls:List (List Int)) (out o:List Int),ew f ls out=some o→(∀y∈ls,y.Nodup) →
  ∃rest,o=out++rest∧rest.Nodup∧(∀y∈ls,y.Sublist rest)∧∀v∈rest,∃y∈ls,v∈y
 | 0,_,_,_,h,_=>by cases h
 | f+1,ls,out,o,h,hn=>by
  unfold ew at h
  have acL:∀y∈ls,y∉(ls.filter fun x=>!gR x)→y=[]:=fun y hy hm=>by
   have:¬(!gR y)=true:=fun h=>hm (List.mem_filter.2 ⟨hy,h⟩)
   simpa[gR] using this
  split at h
  ·rename_i h0
   cases h
   refine⟨[],by simp,List.nodup_nil,fun y hy=>?_,fun v hv=>by cases hv⟩
   rw[acL y hy (by rw[h0];simp)]
   exact List.Sublist.slnil
  ·split at h
   ·cases h
   ·rename_i x hx
    have Zs:=List.mem_of_find?_eq_some hx
    have hxp:=List.find?_some hx
    have hxt:=xW (by simpa using hxp)
    have hfl:∀y∈(ls.filter fun x=>!gR x),y∈ls:=fun y hy=>(List.mem_filter.1 hy).1
    have hsub:∀y∈(ls.filter fun x=>!gR x).map (bz (hd x)),y.Nodup:=fun y hy=>by
     obtain⟨z,hz,rfl⟩:=List.mem_map.1 hy
     have:=hn z (hfl z hz)
     unfold bz
     split
     ·exact this.sublist (List.tail_sublist _)
     ·exact this
    obtain⟨rest,ho,hr,hs,hm⟩:=vD f _ _ _ h hsub
    have hall:∀z∈rest,∃y∈ls,z∈y:=fun z hz=>by
     obtain⟨y,hy,hzy⟩:=hm z hz
     obtain⟨u,hu,rfl⟩:=List.mem_map.1 hy
     exact⟨u,hfl u hu,vB hzy⟩
    refine⟨hd x::rest,by rw[ho];simp,List.nodup_cons.2 ⟨fun hz=>?_,hr⟩,fun y hy=>?_,fun v hv=>?_⟩
    ·obtain⟨y,hy,hzy⟩:=hm _ hz
     obtain⟨u,hu,rfl⟩:=List.mem_map.1 hy
     exact vC (hxt u hu) hzy
    ·by_cases hyf:y∈(ls.filter fun x=>!gR x)
     ·exact FP (qP hyf) (hs _ (List.mem_map.2 ⟨y,hyf,rfl⟩))
     ·rw[acL y hy hyf];exact List.nil_sublist _
    ·rcases List.mem_cons.1 hv with rfl|hv
     ·refine⟨x,hfl x Zs,?_⟩
      have:=qP Zs
      rw[Cy this];exact List.getElem_mem _
     ·exact hall v hv
def bC (g:Int→Option (List Int)):List Int→Option (List (List Int))
 | []=>some []
 | t::l=>match g t with
  | none=>none
  | some o=>(bC g l).map fun r=>o::r
def bn (g:Int→Option (List Int)) (aL:List Int):Option (List Int):=(bC g aL).bind fun ls=>fJ (ls++[aL])
theorem rR{g:Int→Option (List Int)}:∀{l:List Int} {ls:List (List Int)},bC g l=some ls→(∀o∈ls,∃t∈l,g t=some o)∧(∀t∈l,∃o∈ls,g t=some o)∧ls.length=l.length
 | [],ls,h=>by cases h;exact⟨(fun o h=>by cases h),(fun o h=>by cases h),rfl⟩
 | t::l,ls,h=>by
  unfold bC at h
  split at h
  ·cases h
  ·rename_i o ho
   cases hr:bC g l with
   | none=>rw[hr] at h;cases h
   | some r =>
    rw[hr] at h
    cases h
    obtain⟨h1,h2,h3⟩:=rR hr
    refine⟨fun o' ho'=>?_,fun t' ht'=>?_,by simp[h3]⟩
    ·rcases List.mem_cons.1 ho' with rfl|ho'
     ·exact⟨t,List.mem_cons_self,ho⟩
     ·obtain⟨t',q1,q2⟩:=h1 o' ho';exact⟨t',List.mem_cons_of_mem _ q1,q2⟩
    ·rcases List.mem_cons.1 ht' with rfl|ht'
     ·exact⟨o,List.mem_cons_self,ho⟩
     ·obtain⟨o',q1,q2⟩:=h2 t' ht';exact⟨o',List.mem_cons_of_mem _ q1,q2⟩
theorem oN{g g':Int→Option (List Int)}:∀{l:List Int},(∀t∈l,g t=g' t)→bC g l=bC g' l
 | [],_=>rfl
 | t::l,h=>by
  unfold bC
  rw[h t List.mem_cons_self,oN fun t ht=>h t (List.mem_cons_of_mem _ ht)]
theorem qF{g g':Int→Option (List Int)}(hg:∀t o,g t=some o→g' t=some o):∀{l:List Int} {ls:List (List Int)},bC g l=some ls→bC g' l=some ls
 | [],_,h=>h
 | t::l,ls,h=>by
  unfold bC at h ⊢
  split at h
  ·cases h
  ·rename_i o ho
   rw[hg t o ho]
   cases hr:bC g l with
   | none=>rw[hr] at h;cases h
   | some r=>rw[hr] at h;simp only;rw[qF hg hr];exact h
theorem ga{g g':Int→Option (List Int)}{l:List Int}(h:∀t∈l,g t=g' t):bn g l=bn g' l:=by
 unfold bn;rw[oN h]
theorem rS{g g':Int→Option (List Int)}(hg:∀t o,g t=some o→g' t=some o){l o:List Int}(h:bn g l=some o):bn g' l=some o:=by
 unfold bn at *
 cases hr:bC g l with
 | none=>rw[hr] at h;cases h
 | some r=>rw[hr] at h;rw[qF hg hr];exact h
theorem mh{g:Int→Option (List Int)}{l o:List Int}(h:bn g l=some o)(hl:l.Nodup)(hg:∀t∈l,∀ot,g t=some ot→ot.Nodup) :
  o.Nodup∧l.Sublist o∧(∀t∈l,∃ot,g t=some ot∧ot.Sublist o)∧∀v∈o,v∈l∨∃t∈l,∃ot,g t=some ot∧v∈ot:=by
 unfold bn at h
 cases hr:bC g l with
 | none=>rw[hr] at h;cases h
 | some ls =>
  rw[hr] at h
  simp only[Option.bind_some] at h
  obtain⟨h1,h2,_⟩:=rR hr
  obtain⟨rest,ho,hn,hs,hm⟩:=vD _ _ _ _ h (fun y hy=>by
   rcases List.mem_append.1 hy with hy|hy
   ·obtain⟨t,ht,he⟩:=h1 y hy;exact hg t ht y he
   ·simp only[List.mem_singleton] at hy;subst hy;exact hl)
  simp only[List.nil_append] at ho
  subst ho
  refine⟨hn,hs _ (by simp),fun t ht=>?_,fun v hv=>?_⟩
  ·obtain⟨ot,q1,q2⟩:=h2 t ht
   exact⟨ot,q2,hs _ (by simp[q1])⟩
  ·obtain⟨y,hy,hvy⟩:=hm v hv
   rcases List.mem_append.1 hy with hy|hy
   ·obtain⟨t,ht,he⟩:=h1 y hy;exact .inr ⟨t,ht,y,he,hvy⟩
   ·simp only[List.mem_singleton] at hy;subst hy;exact .inl hvy
def parents (x:Th):List Int:=x.ins++if 0≤x.sup then [x.sup] else []
def iJ:Nat→List Th→Int→Option (List Int)
 | 0,_,_=>none
 | n+1,L,t=>match L[t.toNat]? with
  | none=>none
  | some x=>match bn (iJ n L) x.bU with
   | none=>none
   | some front=>match bn (iJ n L) (parents x) with
    | none=>none
    | some behind=>some (front++[t]++behind.filter fun v=>!bh front v)
theorem tB{L:List Th}:∀{n:Nat} {t:Int} {o:List Int},iJ n L t=some o→iJ (n+1) L t=some o
 | 0,_,_,h=>by cases h
 | n+1,t,o,h=>by
  unfold iJ at h ⊢
  split at h
  ·cases h
  ·split at h
   ·cases h
   ·rename_i front hf
    split at h
    ·cases h
    ·rename_i behind hb
     rw[rS (fun t o=>tB (n:=n)) hf]
     simp only
     rw[rS (fun t o=>tB (n:=n)) hb]
     exact h
theorem tC{L:List Th}{n m:Nat}(h:n≤m){t:Int}{o:List Int}(ho:iJ n L t=some o):iJ m L t=some o:=by
 induction h with
 | refl=>exact ho
 | step _ ih=>exact tB ih
structure ez (L:List Th) (r:Int→Nat):Prop where
 gj:∀(t:Nat) (x:Th),L[t]? = some x→∀u,u∈x.bU∨u∈parents x→0≤u∧u<L.length∧r u<r t
 nb:∀(t:Nat) (x:Th),L[t]? = some x→x.bU.Nodup
 np:∀(t:Nat) (x:Th),L[t]? = some x→(parents x).Nodup
 len:L.length≤1000
theorem ur{L:List Th}{r:Int→Nat}(B:ez L r):∀{n m:Nat} {t:Int},0≤t→r t<n→r t<m→iJ n L t=iJ m L t
 | 0,_,_,_,h,_=>by omega
 | _,0,_,_,_,h=>by omega
 | n+1,m+1,t,h0,hn,hm=>by
  unfold iJ
  cases hx:L[t.toNat]? with
  | none=>rfl
  | some x =>
   have hg:∀u,u∈x.bU∨u∈parents x→iJ n L u=iJ m L u:=fun u hu=>by
    obtain⟨q1,q2,q3⟩:=B.gj _ _ hx u hu
    have ht:((t.toNat:Nat):Int)=t:=by omega
    rw[ht] at q3
    exact ur B q1 (by omega) (by omega)
   simp only
   rw[ga fun u hu=>hg u (.inl hu),ga fun u hu=>hg u (.inr hu)]
open Classical in
noncomputable def aE (L:List Th) (t:Int):Option (List Int):=if h:∃o n,iJ n L t=some o then some (Classical.choose h) else none
theorem vE{L:List Th}{n:Nat}{t:Int}{o:List Int}(h:iJ n L t=some o):aE L t=some o:=by
 have hex:∃o n,iJ n L t=some o:=⟨o,n,h⟩
 unfold aE
 rw[dif_pos hex]
 obtain⟨m,hm⟩:=Classical.choose_spec hex
 have h1:=tC (Nat.le_max_left n m) h
 have h2:=tC (Nat.le_max_right n m) hm
 rw[h1] at h2
 exact h2.symm
theorem oO{L:List Th}{r:Int→Nat}(B:ez L r){n:Nat}{t:Int}(h0:0≤t)(hn:r t<n):aE L t=iJ n L t:=by
 cases h:iJ n L t with
 | some o=>exact vE h
 | none =>
  unfold aE
  rw[dif_neg]
  rintro⟨o,m,hm⟩
  have h2:=tC (Nat.le_max_right n m) hm
  have h3:=ur B h0 hn (show r t<max n m by omega)
  rw[h,h2] at h3
  cases h3
theorem nF{L:List Th}{r:Int→Nat}(B:ez L r){t:Nat}{x:Th}(hx:L[t]? = some x) :
  aE L t=match bn (aE L) x.bU with
   | none=>none
   | some front=>match bn (aE L) (parents x) with
    | none=>none
    | some behind=>some (front++[(t:Int)]++behind.filter fun v=>!bh front v):=by
 have hg:∀u,u∈x.bU∨u∈parents x→iJ (r t) L u=aE L u:=fun u hu=>by
  obtain⟨q1,q2,q3⟩:=B.gj _ _ hx u hu
  exact(oO B q1 q3).symm
 rw[oO B (n:=r t+1) (by omega) (by omega)]
 unfold iJ
 simp only[Int.toNat_natCast,hx]
 rw[ga fun u hu=>hg u (.inl hu),ga fun u hu=>hg u (.inr hu)]
theorem yL{L:List Th}{r:Int→Nat}(B:ez L r):∀{n t:Nat} {o:List Int},t<L.length→iJ n L t=some o →
  o.Nodup∧(t:Int)∈o∧∀v∈o,0≤v∧v<L.length∧(v=t∨r v<r t)
 | 0,_,_,_,h=>by cases h
 | n+1,t,o,ht,h=>by
  unfold iJ at h
  simp only[Int.toNat_natCast] at h
  cases hx:L[t]? with
  | none=>rw[hx] at h;cases h
  | some x =>
   rw[hx] at h
   simp only at h
   split at h
   ·cases h
   ·rename_i front hf
    split at h
    ·cases h
    ·rename_i behind hb
     cases h
     have each:∀u,u∈x.bU∨u∈parents x→∀ou,iJ n L u=some ou→ou.Nodup∧∀v∈ou,0≤v∧v<L.length∧r v<r t:=fun u hu ou hou=>by
      obtain⟨q1,q2,q3⟩:=B.gj _ _ hx u hu
      obtain⟨k,rfl⟩:∃k:Nat,u=k:=⟨u.toNat,by omega⟩
      obtain⟨s1,s2,s3⟩:=yL B (n:=n) (by omega) hou
      refine⟨s1,fun v hv=>?_⟩
      obtain⟨w1,w2,w3⟩:=s3 v hv
      refine⟨w1,w2,?_⟩
      rcases w3 with rfl|w3<;>omega
     obtain⟨f1,f2,f3,f4⟩:=mh hf (B.nb _ _ hx) (fun u hu ou ho=>(each u (.inl hu) ou ho).1)
     obtain⟨b1,b2,b3,b4⟩:=mh hb (B.np _ _ hx) (fun u hu ou ho=>(each u (.inr hu) ou ho).1)
     have Qb:∀v∈front,0≤v∧v<L.length∧r v<r t:=fun v hv=>by
      rcases f4 v hv with h|⟨u,hu,ou,ho,hv⟩
      ·exact B.gj _ _ hx v (.inl h)
      ·exact(each u (.inl hu) ou ho).2 v hv
     have hbv:∀v∈behind,0≤v∧v<L.length∧r v<r t:=fun v hv=>by
      rcases b4 v hv with h|⟨u,hu,ou,ho,hv⟩
      ·exact B.gj _ _ hx v (.inr h)
      ·exact(each u (.inr hu) ou ho).2 v hv
     have hne:∀v,r v<r t→v≠t:=fun v hv e=>by subst e;omega
     refine⟨?_,by simp,fun v hv=>?_⟩
     ·rw[List.nodup_append,List.nodup_append]
      refine⟨⟨f1,by simp,fun a ha b hb=>?_⟩,b1.filter _,fun a ha b hb=>?_⟩
      ·simp only[List.mem_singleton] at hb;subst hb
       exact hne a (Qb a ha).2.2
      ·obtain⟨Cf,zU⟩:=List.mem_filter.1 hb
       rcases List.mem_append.1 ha with ha|ha
       ·intro e;subst e
        simp[fk.2 ha] at zU
       ·simp only[List.mem_singleton] at ha;subst ha
        exact(hne b (hbv b Cf).2.2).symm
     ·rcases List.mem_append.1 hv with hv|hv
      ·rcases List.mem_append.1 hv with hv|hv
       ·obtain⟨q1,q2,q3⟩:=Qb v hv;exact⟨q1,q2,.inr q3⟩
       ·simp only[List.mem_singleton] at hv;subst hv
        exact⟨by omega,by omega,.inl rfl⟩
      ·obtain⟨q1,q2,q3⟩:=hbv v (List.mem_filter.1 hv).1;exact⟨q1,q2,.inr q3⟩
theorem vF{L:List Th}{t:Int}{o:List Int}(h:aE L t=some o):∃n,iJ n L t=some o:=by
 unfold aE at h
 split at h
 ·rename_i hex
  cases h
  exact Classical.choose_spec hex
 ·cases h
theorem jw{L:List Th}{r:Int→Nat}(B:ez L r){t:Nat}{o:List Int}(ht:t<L.length)(h:aE L t=some o) :
  o.Nodup∧(t:Int)∈o∧∀v∈o,0≤v∧v<L.length∧(v=t∨r v<r t):=by
 obtain⟨n,hn⟩:=vF h
 exact yL B ht hn
theorem bk:∀(N:Nat) (l:List Int),l.Nodup→(∀x∈l,0≤x∧x<N)→l.length≤N
 | 0,l,_,h=>by
  cases l with
  | nil=>exact Nat.le_refl _
  | cons a l=>have:=h a List.mem_cons_self;omega
 | N+1,l,hn,h=>by
  have h1:=bk N (l.erase (N:Int)) (hn.erase _) (fun x hx=>by
   have h2:=h x (List.mem_of_mem_erase hx)
   have h3:x≠N:=fun e=>by subst e;exact(hn.not_mem_erase) hx
   omega)
  by_cases hm:(N:Int)∈l
  ·rw[List.length_erase_of_mem hm] at h1;omega
  ·rw[List.erase_of_not_mem hm] at h1;omega
def vG:List (Int×List Int)→Int→List Int→List (Int×List Int)
 | [],k,o=>[(k,o)]
 | e::l,k,o=>if e.1=k then (k,o)::l else e::vG l k o
theorem yM(l:List (Int×List Int))(k:Int)(o:List Int):ig (.int .i64 k) (.sl false () 1 (aj o)) (Co l)=Co (vG l k o):=by
 induction l with
 | nil=>rfl
 | cons e l ih =>
  rw[mO]
  unfold ig vG
  by_cases h:e.1=k
  ·rw[if_pos (by rw[h];rfl),if_pos h,mO,h]
  ·rw[if_neg (by simpa[vv] using h),if_neg h,mO,ih]
theorem rT(l:List (Int×List Int))(k k':Int)(o:List Int):got (vG l k o) k'=if k'=k then some o else got l k':=by
 induction l with
 | nil =>
  by_cases h:k'=k
  ·simp[vG,got,h]
  ·simp[vG,got,h,Ne.symm h]
 | cons e l ih =>
  unfold vG
  by_cases h:e.1=k
  ·rw[if_pos h]
   by_cases h':k'=k
   ·simp[got,h']
   ·simp[got,h,h',Ne.symm h']
  ·rw[if_neg h]
   by_cases h2:e.1=k'
   ·have:¬k'=k:=fun e'=>h (h2.trans e')
    simp[got,h2,this]
   ·have:got (e::vG l k o) k'=got (vG l k o) k':=by simp[got,h2]
    rw[this,ih]
    have:got (e::l) k'=got l k':=by simp[got,h2]
    rw[this]
end Go.Proofs.YtbhigdljojlhnaaGreat

namespace Go.Proofs.YtbhigdljojlhnaaGreat
set_option linter.all false
open Go.Vc Go.Proofs
set_option maxRecDepth 100000
set_option maxHeartbeats 4000000
attribute [local irreducible] bx jv
def fm (L:List Th) (M:List (Int×List Int)):Prop:=∀k o,got M k=some o→aE L k=some o
def J' (L:List Th) (t:Int) (av:AV) (X:List D) (κ:List (Nat×Path)):Prop :=
 ∃M,fm L M∧X=[dL L,dM M]∧κ=[(1,[.i 0])]∧av=match aE L t with
  | some o=>.cT (.cons (.cA 1 (aj o) false) (.cons (aN true) .nil))
  | none=>.cT (.cons (.bE 1) (.cons (aN false) .nil))
def oP (L:List Th) (r:Int→Nat) (n:Nat):Prop:=∀t:Nat,t<L.length→r t<n→∀M,fm L M →
 ai Tryz.prog 114 [dL L,dM M] (.cons (.ptr 0 [.d]) (.cons (ag t) (.cons (.mp 1 []) .nil))) (J' L t)
section
variable {L:List Th} {r:Int→Nat} {n t:Nat} {M:List (Int×List Int)}
theorem oP.yes(h:oP L r n)(ht:t<L.length)(hr:r t<n)(hM:fm L M){o:List Int}(ho:aE L t=some o) :
  ai Tryz.prog 114 [dL L,dM M] (.cons (.ptr 0 [.d]) (.cons (ag t) (.cons (.mp 1 []) .nil)))
  fun av X κ=>∃M,fm L M∧X=[dL L,dM M]∧κ=[(1,[.i 0])]∧av=.cT (.cons (.cA 1 (aj o) false) (.cons (aN true) .nil)) :=
 ai.mono (h t ht hr M hM) fun av X κ ⟨M,h1,h2,h3,h4⟩=>⟨M,h1,h2,h3,by rw[ho] at h4;exact h4⟩
theorem oP.no(h:oP L r n)(ht:t<L.length)(hr:r t<n)(hM:fm L M)(ho:aE L t=none) :
  ai Tryz.prog 114 [dL L,dM M] (.cons (.ptr 0 [.d]) (.cons (ag t) (.cons (.mp 1 []) .nil)))
  fun av X κ=>∃M,fm L M∧X=[dL L,dM M]∧κ=[(1,[.i 0])]∧av=.cT (.cons (.bE 1) (.cons (aN false) .nil)) :=
 ai.mono (h t ht hr M hM) fun av X κ ⟨M,h1,h2,h3,h4⟩=>⟨M,h1,h2,h3,by rw[ho] at h4;exact h4⟩
end
theorem mE(g:Int→Option (List Int))(t:Int)(l:List Int):bC g (t::l)=match g t with
  | none=>none
  | some o=>(bC g l).map fun r=>o::r:=rfl
theorem dW{L:List Th}{r:Int→Nat}(B:ez L r){t:Nat}{o:List Int}(ht:t<L.length)(h:aE L t=some o):o.length≤1000:=by
 obtain⟨h1,_,h3⟩:=jw B ht h
 have:=bk L.length o h1 fun x hx=>⟨(h3 x hx).1,(h3 x hx).2.1⟩
 have:=B.len
 omega
theorem lg{L:List Th}{r:Int→Nat}(B:ez L r){aL o:List Int}(ec:∀u∈aL,0≤u∧u<L.length)(hnd:aL.Nodup)(h:bn (aE L) aL=some o) :
  o.Nodup∧(∀v∈o,0≤v∧v<L.length)∧o.length≤1000:=by
 have each:∀u∈aL,∀ou,aE L u=some ou→ou.Nodup∧∀v∈ou,0≤v∧v<L.length:=fun u hu ou ho=>by
  have:=ec u hu
  obtain⟨k,rfl⟩:∃k:Nat,u=k:=⟨u.toNat,by omega⟩
  obtain⟨h1,_,h3⟩:=jw B (by omega) ho
  exact⟨h1,fun v hv=>⟨(h3 v hv).1,(h3 v hv).2.1⟩⟩
 obtain⟨f1,f2,f3,f4⟩:=mh h hnd fun u hu ou ho=>(each u hu ou ho).1
 have hv:∀v∈o,0≤v∧v<L.length:=fun v hv=>by
  rcases f4 v hv with h|⟨u,hu,ou,ho,hv⟩
  ·exact ec v h
  ·exact(each u hu ou ho).2 v hv
 have:=bk L.length o f1 hv
 have:=B.len
 exact⟨f1,hv,by omega⟩
theorem dG(x:Int):aj [x]=.cons (.val (.int .i64 x)) .nil:=rfl
theorem uu{ls:List (List Int)}(h:∀y∈ls,y.length≤1000):total ls≤1000*ls.length:=by
 induction ls with
 | nil=>simp[total]
 | cons x l ih =>
  have h1:=h x List.mem_cons_self
  have h2:=ih fun y hy=>h y (List.mem_cons_of_mem _ hy)
  simp only[total,List.length_cons];omega
theorem yN{L:List Th}{r:Int→Nat}(B:ez L r){n:Nat}(hF:oP L r n)(aL:List Int)(ec:∀u∈aL,0≤u∧u<L.length∧r u<n)(hnd:aL.Nodup)(M:List (Int×List Int))(hM:fm L M)(ex:Bool) :
  ai Tryz.prog 128 [dL L,dM M] (.cons (.ptr 0 [.d]) (.cons (.cA 1 (aj aL) ex) (.cons (.mp 1 []) .nil)))
  fun av X κ=>∃M,fm L M∧κ=[(1,[.i 0])]∧match bn (aE L) aL with
   | some o=>av=.cT (.cons (.sub 2 [] 0 o.length false) (.cons (aN true) .nil))∧X=[dL L,dM M,.sl true () 1 (aj o)]
   | none=>av=.cT (.cons (.bE 1) (.cons (aN false) .nil))∧X=[dL L,dM M]:=by
 have hfind:=hF
 clear hF
 have hlen:=bk L.length aL hnd fun x hx=>⟨(ec x hx).1,(ec x hx).2.1⟩
 have hL:=B.len
 refine fb Tryz.func128 Tryz.ntmps128 [.tmp 6,.tmp 7] fun w0 I0 F0 hF=>?_
 repeat first|refine n1 ?_|refine n3 ?_|(first|refine rg 0 [0,1,2] [0,1,2] [] ?_|refine rg 1 [0,1,2] [0,1,2,8] [] ?_|refine rg 2 [0,1,2,8] [0,1,2,8,13,14,15] [] ?_);simp[hF]
 refine VS.eT 8 1 (by simp) ?_
 refine VS.lp [(1,[.i 0])] (by simp[aa,ah]) ?_
 refine VS.pick [0,1,2,8,13,14,15] [0,1,2] (by simp[hF]) ?_;simp[hF]
 refine VS.rounds (fun m st=>∃(i:Nat) (acc:List (List Int)) (s:D) (M:List (Int×List Int)),i+m=aL.length∧acc.length=i∧(∀y∈acc,y.length≤1000)∧fm L M∧bC (aE L) aL=(bC (aE L) (aL.drop i)).map (fun r=>acc++r) ∧
  s.mid 0 i=iI acc∧st=⟨[(0,.ptr 0 [.d]),(1,.cA 1 (aj aL) ex),(2,.mp 1 []),(8,.sub 2 [] 0 i false),(13,.cA 1 (aj aL) ex),(14,ag aL.length),(15,ag i)],[dL L,dM M,.sl true () 1 s],[(1,[.i 0])],[]⟩)
  ⟨aL.length,0,[],.nil,M,by omega,rfl,(fun y hy=>by cases hy),hM,by simp,by simp[T.mid,T.drop,T.take],by simp[dL,dM]⟩ ?_
 rintro m st ⟨i,acc,s,M,hi,Zt,hacc,hM,iK,hs0,rfl⟩
 repeat first|refine n1 ?_|(first|refine rg 3 [0,1,2,8,13,14,15] [0,1,2,8,13,14,15,16] [] ?_|refine nc ?_);simp[hF]
 refine⟨fun hlt=>?_,fun hge=>?_⟩
 ·have hi':i<aL.length:=by omega
  have hn:=bP hi'
  obtain⟨u0,u1,u2⟩:=ec _ (List.getElem_mem hi')
  have vH:=List.drop_eq_getElem_cons hi'
  rw[vH,mE] at iK
  repeat first|refine n1 ?_|refine n2 ?_|refine n3 ?_|(first|refine rg 4 [0,1,2,8,13,14,15] [0,1,2,8,10,13,14,15] [] ?_|refine rg 5 [0,1,2,8,10,13,14,15] [0,1,2,8,11,12,13,14,15] [] ?_);simp[hF,hn,hi']
  generalize aL[i]=u at *
  obtain⟨u,rfl⟩:∃k:Nat,u=k:=⟨u.toNat,by omega⟩
  have FQ:u<L.length:=by omega
  cases ho:aE L u with
  | none =>
   rw[ho] at iK
   have Zu:bn (aE L) aL=none:=by unfold bn;rw[iK];rfl
   rw[Zu]
   refine(hfind.no FQ u2 hM ho).go [(0,[]),(1,[])] (by simp[hF,dL,dM]) ?_;rintro av X κ ⟨M,hM,rfl,rfl,rfl⟩;simp[hF,dL,dM]
   repeat first|refine n1 ?_|(first|refine rg 6 [0,1,2,8,11,12,13,14,15] [0,1,2,8,11,13,14,15,27] [] ?_|refine rg 7 [] [6,7] [] ?_|refine nc ?_);simp[hF]
   (try refine nr ?_);(repeat first|refine aF ?_|refine aG ?_);refine ak.o [6,7] [0,1] [(1,[.i 0])] ?_;simp[hF,an,aa,ah,dL,dM]
   exact⟨M,hM,rfl⟩
  | some o =>
   rw[ho] at iK
   have va:=dW B FQ ho
   have dD:=mN acc o
   have b1:(i+1)*24≤140737488355328:=by omega
   have b2:i+1≤9223372036854775807:=by omega
   refine(hfind.yes FQ u2 hM ho).go [(0,[]),(1,[])] (by simp[hF,dL,dM]) ?_;rintro av X κ ⟨M,hM,rfl,rfl,rfl⟩;simp[hF,dL,dM]
   repeat first|refine n1 ?_|refine n2 ?_|refine n4 ?_|refine n5 ?_|(first|refine rg 6 [0,1,2,8,11,12,13,14,15] [0,1,2,8,11,13,14,15,27] [] ?_|refine rg 8 [0,1,2,8,11,13,14,15] [0,1,2,8,13,14,15] [] ?_|refine nc ?_);simp[hF,hs0,dD,b1,b2]
   refine VS.lp [(1,[.i 0])] (by simp[aa,ah]) ?_
   repeat first|refine n4 ?_|refine n6 ?_|refine rg 9 [0,1,2,8,13,14,15] [0,1,2,8,13,14,15] [] ?_;simp[hF]
   refine aO.of [0,1,2,8,13,14,15] [0,1,2] (m-1) (by omega) (by simp[hF]) ?_
   refine⟨i+1,acc++[o],iI (acc++[o]),M,by omega,by simp[Zt],fun y hy=>?_,hM,?_,?_,?_⟩
   ·rcases List.mem_append.1 hy with hy|hy
    ·exact hacc y hy
    ·simp only[List.mem_singleton] at hy;subst hy;exact va
   ·rw[iK];simp[Option.map_map,Function.comp_def]
   ·exact aV _ _ (by simp[Zt])
   ·simp[dL,dM]
    exact IntWalk.i64_in _ (by omega)
 ·obtain rfl:i=aL.length:=by omega
  have Qc:bC (aE L) aL=some acc:=by rw[iK,List.drop_length];simp[bC]
  have Zu:bn (aE L) aL=fJ (acc++[aL]):=by unfold bn;rw[Qc];rfl
  rw[Zu]
  have dD:=mN acc aL
  have b1:(aL.length+1)*24≤140737488355328:=by omega
  have b2:aL.length+1≤9223372036854775807:=by omega
  have uv:(acc++[aL]).length=aL.length+1:=by simp[Zt]
  have htot:total (acc++[aL])≤100000000:=by
   have:=uu (ls:=acc++[aL]) (fun y hy=>by
    rcases List.mem_append.1 hy with hy|hy
    ·exact hacc y hy
    ·simp only[List.mem_singleton] at hy;subst hy;omega)
   omega
  have hmg:=Qa (acc++[aL]) (by omega) htot
  rw[uv] at hmg
  repeat first|refine n1 ?_|refine n7 ?_|refine rg 10 [1,8] [6,7] [] ?_;simp[hF]
  refine(tA ex aL (by omega)).go [] (by simp[hF,hs0,dD,b1,b2]) ?_;rintro av X κ ⟨rfl,rfl,rfl⟩;simp[hF,hs0,dD,b1,b2]
  cases hmo:fJ (acc++[aL]) with
  | none =>
   rw[hmo] at hmg
   refine(hmg).go [(2,[])] (by simp[hF,hs0,dD]) ?_;rintro av X κ ⟨rfl,rfl,rfl⟩;simp[hF,hs0,dD]
   repeat refine n1 ?_
   (try refine nr ?_);(repeat first|refine aF ?_|refine aG ?_);refine ak.o [6,7] [0,1] [(1,[.i 0])] ?_;simp[hF,an,aa,ah,dL,dM]
   exact⟨M,hM,rfl⟩
  | some o =>
   rw[hmo] at hmg
   refine(hmg).go [(2,[])] (by simp[hF,hs0,dD]) ?_;rintro av X κ ⟨rfl,rfl,rfl⟩;simp[hF,hs0,dD]
   repeat refine n1 ?_
   (try refine nr ?_);(repeat first|refine aF ?_|refine aG ?_);refine ak.o [6,7] [0,1,4] [(1,[.i 0])] ?_;simp[hF,an,aa,ah,dL,dM]
   exact⟨M,hM,rfl⟩
section
variable {L:List Th} {r:Int→Nat} (B:ez L r) {n:Nat} (hF:oP L r n) (aL:List Int) (ec:∀u∈aL,0≤u∧u<L.length∧r u<n) (hnd:aL.Nodup) (M:List (Int×List Int)) (hM:fm L M) (ex:Bool)
include B hF ec hnd hM
theorem tD(h:bn (aE L) aL=none):ai Tryz.prog 128 [dL L,dM M] (.cons (.ptr 0 [.d]) (.cons (.cA 1 (aj aL) ex) (.cons (.mp 1 []) .nil)))
  fun av X κ=>∃M,fm L M∧av=.cT (.cons (.bE 1) (.cons (aN false) .nil))∧X=[dL L,dM M]∧κ=[(1,[.i 0])] :=
 ai.mono (yN B hF aL ec hnd M hM ex) fun av X κ ⟨M,h1,h2,h3⟩=>by rw[h] at h3;exact⟨M,h1,h3.1,h3.2,h2⟩
theorem qQ{o:List Int}(h:bn (aE L) aL=some o):ai Tryz.prog 128 [dL L,dM M] (.cons (.ptr 0 [.d]) (.cons (.cA 1 (aj aL) ex) (.cons (.mp 1 []) .nil)))
  fun av X κ=>∃M,fm L M∧av=.cT (.cons (.sub 2 [] 0 o.length false) (.cons (aN true) .nil))∧X=[dL L,dM M,.sl true () 1 (aj o)]∧κ=[(1,[.i 0])] :=
 ai.mono (yN B hF aL ec hnd M hM ex) fun av X κ ⟨M,h1,h2,h3⟩=>by rw[h] at h3;exact⟨M,h1,h3.1,h3.2,h2⟩
end
theorem KR{L:List Th}{r:Int→Nat}(B:ez L r){n:Nat}(hF:oP L r n)(t:Nat)(ht:t<L.length)(hr:r t<n+1)(M:List (Int×List Int))(hM:fm L M) :
  ai Tryz.prog 114 [dL L,dM M] (.cons (.ptr 0 [.d]) (.cons (ag t) (.cons (.mp 1 []) .nil))) (J' L t):=by
 have hfind:=hF
 clear hF
 unfold J'
 have hL:=B.len
 have hx:L[t]? = some L[t]:=List.getElem?_eq_getElem ht
 have hstep:=nF B hx
 have hn:=bH ht
 have kB:=B.gj _ _ hx
 have hnb:=B.nb _ _ hx
 have hnp:=B.np _ _ hx
 have hlb:=bk L.length _ hnb fun x hx=>⟨(kB x (.inl hx)).1,(kB x (.inl hx)).2.1⟩
 have hlp:=bk L.length _ hnp fun x hx=>⟨(kB x (.inr hx)).1,(kB x (.inr hx)).2.1⟩
 generalize L[t]=x at *
 have xX:=tv M t
 cases hg:got M t with
 | some o =>
  have ho:=hM _ _ hg
  rw[hg] at xX
  simp only[Option.map_some] at xX
  rw[ho]
  refine fb Tryz.func114 Tryz.ntmps114 [.tmp 6,.tmp 7] fun w0 I0 F0 hF=>?_
  repeat first|refine n1 ?_|(first|refine rg 0 [0,1,2] [0,1,2] [] ?_|refine rg 1 [0,1,2] [0,1,2,8,9] [] ?_|refine rg 2 [0,1,2,8,9] [0,1,2,8,21] [] ?_|refine rg 3 [8] [6,7] [] ?_|refine nc ?_);simp[hF,dM,xX]
  (try refine nr ?_);(repeat first|refine aF ?_|refine aG ?_);refine ak.o [6,7] [0,1] [(1,[.i 0])] ?_;simp[hF,an,aa,ah,dL,dM]
  exact⟨M,hM,rfl⟩
 | none =>
  rw[hg] at xX
  simp only[Option.map_none] at xX
  refine fb Tryz.func114 Tryz.ntmps114 [.tmp 6,.tmp 7] fun w0 I0 F0 hF=>?_
  repeat first|refine n1 ?_|refine n2 ?_|(first|refine rg 0 [0,1,2] [0,1,2] [] ?_|refine rg 1 [0,1,2] [0,1,2,8,9] [] ?_|refine rg 2 [0,1,2,8,9] [0,1,2,8,21] [] ?_|refine rg 4 [0,1,2] [0,1,2,10] [] ?_|refine rg 5 [0,1,2,10] [0,1,2,10,11,12] [] ?_|refine nc ?_);simp[hF,dM,xX,dL,hn,ht]
  have FR:∀u∈x.bU,0≤u∧u<L.length∧r u<n:=fun u hu=>by have:=kB u (.inl hu);omega
  have zV:∀u∈parents x,0≤u∧u<L.length∧r u<n:=fun u hu=>by have:=kB u (.inr hu);omega
  cases hf:bn (aE L) x.bU with
  | none =>
   rw[hf] at hstep
   simp only at hstep
   rw[hstep]
   refine(tD B hfind x.bU FR hnb M hM false hf).go [(0,[]),(1,[])] (by simp[hF,dL,dM]) ?_;rintro av X κ ⟨M,hM,rfl,rfl,rfl⟩;simp[hF,dL,dM]
   repeat first|refine n1 ?_|(first|refine rg 6 [0,1,2,10,11,12] [0,1,2,10,11,39] [] ?_|refine rg 7 [] [6,7] [] ?_|refine nc ?_);simp[hF]
   (try refine nr ?_);(repeat first|refine aF ?_|refine aG ?_);refine ak.o [6,7] [0,1] [(1,[.i 0])] ?_;simp[hF,an,aa,ah,dL,dM]
   exact⟨M,hM,rfl⟩
  | some front =>
   rw[hf] at hstep
   simp only at hstep
   refine(qQ B hfind x.bU FR hnb M hM false hf).go [(0,[]),(1,[])] (by simp[hF,dL,dM]) ?_;rintro av X κ ⟨M,hM,rfl,rfl,rfl⟩;simp[hF,dL,dM]
   repeat first|refine n1 ?_|refine n2 ?_|(first|refine rg 6 [0,1,2,10,11,12] [0,1,2,10,11,39] [] ?_|refine nc ?_);simp[hF]
   obtain⟨_,_,hfl⟩:=lg B (fun u hu=>by have:=kB u (.inl hu);omega) hnb hf
   refine VS.er 4 [.d] (by simp[hF,T.freeze]) (by simp[hF,T.freeze]) (by simp[hF,T.freeze]) ?_;simp[hF,St.er,T.freeze]
   have hil:x.ins.length≤L.length:=by
    have:x.ins.length≤(parents x).length:=by simp[parents]
    omega
   repeat first|refine rg 8 [0,1,2,10,11] [0,1,2,10,11,13] [] ?_;simp[hF]
   refine(P9 false x.ins (by omega)).go [] (by simp[hF]) ?_;rintro av X κ ⟨rfl,rfl,rfl⟩;simp[hF]
   by_cases hs:0≤x.sup
   ·have hpar:parents x=x.ins++[x.sup]:=by simp[parents,hs]
    have dD:=fK x.ins x.sup
    have b1:(x.ins.length+1)*8≤140737488355328:=by omega
    have b2:x.ins.length+1≤9223372036854775807:=by omega
    have hmid:(aj (x.ins++[x.sup])).mid 0 (x.ins.length+1)=aj (x.ins++[x.sup]):=aV _ _ (by simp)
    repeat first|refine n1 ?_|(first|refine rg 9 [0,1,2,10,11,13] [0,1,2,10,11,13,45] [] ?_|refine rg 10 [0,1,2,10,11,13] [0,1,2,11,13] [] ?_|refine nc ?_);simp[hF,hs,dD,b1,b2]
    refine VS.fl 13 (by simp[hF,hmid]) ?_;simp[hF,St.fl,hmid]
    rw[←hpar]
    refine VS.pick [0,1,2,11,13] [0,1,4] (by simp[hF]) ?_;simp[hF]
    repeat first|refine rg 11 [0,1,2,11,13] [1,2,11,12,14] [] ?_;simp[hF]
    cases hb:bn (aE L) (parents x) with
    | none =>
     rw[hb] at hstep
     simp only at hstep
     rw[hstep]
     refine(tD B hfind (parents x) zV hnp M hM false hb).go [(0,[]),(1,[])] (by simp[hF,dL,dM]) ?_;rintro av X κ ⟨M,hM,rfl,rfl,rfl⟩;simp[hF,dL,dM]
     repeat first|refine n1 ?_|(first|refine rg 12 [1,2,11,12,14] [1,2,11,14,59] [] ?_|refine rg 13 [] [6,7] [] ?_|refine nc ?_);simp[hF]
     (try refine nr ?_);(repeat first|refine aF ?_|refine aG ?_);refine ak.o [6,7] [0,1] [(1,[.i 0])] ?_;simp[hF,an,aa,ah,dL,dM]
     exact⟨M,hM,rfl⟩
    | some behind =>
     rw[hb] at hstep
     simp only at hstep
     obtain⟨_,_,hbl⟩:=lg B (fun u hu=>by have:=kB u (.inr hu);omega) hnp hb
     refine(qQ B hfind (parents x) zV hnp M hM false hb).go [(0,[]),(1,[])] (by simp[hF,dL,dM]) ?_;rintro av X κ ⟨M,hM,rfl,rfl,rfl⟩;simp[hF,dL,dM]
     repeat first|refine n1 ?_|refine n2 ?_|(first|refine rg 12 [1,2,11,12,14] [1,2,11,14,59] [] ?_|refine rg 14 [1,2,11,14] [1,2,11,14] [] ?_|refine nc ?_);simp[hF]
     refine(Cw behind front (by omega) (by omega)).go [(3,[]),(2,[])] (by simp[hF,cE]) ?_;rintro av X κ ⟨s3,m3,rfl,rfl,rfl,Yp,hm3⟩;simp[hF,cE]
     generalize Qd:(behind.filter fun v=>!bh front v)=kept at *
     subst hm3
     have mc:kept.length≤1000:=by
      have:kept.length≤behind.length:=by rw[←Qd];exact List.length_filter_le _ _
      omega
     repeat first|refine n1 ?_|refine rg 15 [1,2,11,14] [1,2] [] ?_;simp[hF,cE,Yp]
     refine(pS true [(false,front),(true,[(t:Int)]),(true,kept)] (by simp) (by simp[ck];omega) (by simp[ck];omega)).go [(6,[])] (by simp[hF,rM,sq,dG]) ?_;rintro av X κ ⟨rfl,rfl,rfl⟩;simp[hF,rM,sq,dG]
     have qR:=tv (vG M t (front++(t:Int)::kept)) t
     rw[rT,if_pos rfl] at qR
     have hput:=yM M t (front++(t:Int)::kept)
     have Zv:eu [(false,front),(true,[(t:Int)]),(true,kept)]=front++(t:Int)::kept:=by simp[eu]
     repeat first|refine n1 ?_|refine rg 16 [1,2] [6,7] [] ?_;simp[hF,Zv,hput,qR]
     (try refine nr ?_);(repeat first|refine aF ?_|refine aG ?_);refine ak.o [6,7] [0,1] [(1,[.i 0])] ?_;simp[hF,an,aa,ah,dL,dM,hstep]
     refine⟨_,fun k o hk=>?_,rfl⟩
     rw[rT] at hk
     split at hk
     ·rename_i e
      subst e
      cases hk
      rw[hstep];simp
     ·exact hM k o hk
   ·have hpar:parents x=x.ins:=by simp[parents,hs]
    repeat first|refine n1 ?_|refine n2 ?_|(first|refine rg 9 [0,1,2,10,11,13] [0,1,2,10,11,13,45] [] ?_|refine nc ?_);simp[hF,hs]
    refine VS.fl 13 (by simp[hF]) ?_;simp[hF,St.fl]
    rw[←hpar]
    refine VS.pick [0,1,2,11,13] [0,1,4] (by simp[hF]) ?_;simp[hF]
    repeat first|refine rg 11 [0,1,2,11,13] [1,2,11,12,14] [] ?_;simp[hF]
    cases hb:bn (aE L) (parents x) with
    | none =>
     rw[hb] at hstep
     simp only at hstep
     rw[hstep]
     refine(tD B hfind (parents x) zV hnp M hM false hb).go [(0,[]),(1,[])] (by simp[hF,dL,dM]) ?_;rintro av X κ ⟨M,hM,rfl,rfl,rfl⟩;simp[hF,dL,dM]
     repeat first|refine n1 ?_|(first|refine rg 12 [1,2,11,12,14] [1,2,11,14,59] [] ?_|refine rg 13 [] [6,7] [] ?_|refine nc ?_);simp[hF]
     (try refine nr ?_);(repeat first|refine aF ?_|refine aG ?_);refine ak.o [6,7] [0,1] [(1,[.i 0])] ?_;simp[hF,an,aa,ah,dL,dM]
     exact⟨M,hM,rfl⟩
    | some behind =>
     rw[hb] at hstep
     simp only at hstep
     obtain⟨_,_,hbl⟩:=lg B (fun u hu=>by have:=kB u (.inr hu);omega) hnp hb
     refine(qQ B hfind (parents x) zV hnp M hM false hb).go [(0,[]),(1,[])] (by simp[hF,dL,dM]) ?_;rintro av X κ ⟨M,hM,rfl,rfl,rfl⟩;simp[hF,dL,dM]
     repeat first|refine n1 ?_|refine n2 ?_|(first|refine rg 12 [1,2,11,12,14] [1,2,11,14,59] [] ?_|refine rg 14 [1,2,11,14] [1,2,11,14] [] ?_|refine nc ?_);simp[hF]
     refine(Cw behind front (by omega) (by omega)).go [(3,[]),(2,[])] (by simp[hF,cE]) ?_;rintro av X κ ⟨s3,m3,rfl,rfl,rfl,Yp,hm3⟩;simp[hF,cE]
     generalize Qd:(behind.filter fun v=>!bh front v)=kept at *
     subst hm3
     have mc:kept.length≤1000:=by
      have:kept.length≤behind.length:=by rw[←Qd];exact List.length_filter_le _ _
      omega
     repeat first|refine n1 ?_|refine rg 15 [1,2,11,14] [1,2] [] ?_;simp[hF,cE,Yp]
     refine(pS true [(false,front),(true,[(t:Int)]),(true,kept)] (by simp) (by simp[ck];omega) (by simp[ck];omega)).go [(6,[])] (by simp[hF,rM,sq,dG]) ?_;rintro av X κ ⟨rfl,rfl,rfl⟩;simp[hF,rM,sq,dG]
     have qR:=tv (vG M t (front++(t:Int)::kept)) t
     rw[rT,if_pos rfl] at qR
     have hput:=yM M t (front++(t:Int)::kept)
     have Zv:eu [(false,front),(true,[(t:Int)]),(true,kept)]=front++(t:Int)::kept:=by simp[eu]
     repeat first|refine n1 ?_|refine rg 16 [1,2] [6,7] [] ?_;simp[hF,Zv,hput,qR]
     (try refine nr ?_);(repeat first|refine aF ?_|refine aG ?_);refine ak.o [6,7] [0,1] [(1,[.i 0])] ?_;simp[hF,an,aa,ah,dL,dM,hstep]
     refine⟨_,fun k o hk=>?_,rfl⟩
     rw[rT] at hk
     split at hk
     ·rename_i e
      subst e
      cases hk
      rw[hstep];simp
     ·exact hM k o hk
theorem CA{L:List Th}{r:Int→Nat}(B:ez L r):∀n,oP L r n
 | 0=>fun _ _ h=>by omega
 | n+1=>fun t ht hr M hM=>KR B (CA B n) t ht hr M hM
theorem rU{L:List Th}{r:Int→Nat}(B:ez L r)(t:Nat)(ht:t<L.length)(M:List (Int×List Int))(hM:fm L M) :
  ai Tryz.prog 114 [dL L,dM M] (.cons (.ptr 0 [.d]) (.cons (ag t) (.cons (.mp 1 []) .nil))) (J' L t):=CA B (r t+1) t ht (by omega) M hM
end Go.Proofs.YtbhigdljojlhnaaGreat

namespace Go.Proofs.YtbhigdljojlhnaaGreat
set_option linter.all false
open Go.Vc Go.Proofs
set_option maxRecDepth 100000
set_option maxHeartbeats 4000000
attribute [local irreducible] bx jv
abbrev fX (a:AV) (e:Int):AV:=.cT (.cons a (.cons (ag e) .nil))
def val (L:List Th) (t:Int):Bool:=decide (0≤t∧t<L.length)
noncomputable def aP (L:List Th) (t:Int):List Int:=match aE L t with|some o=>o|none=>[]
def ax (L:List Th) (t:Int):Th:=L.getD t.toNat ⟨0,-1,-1,-1,[],[]⟩
theorem aQ{L:List Th}{t:Nat}(h:t<L.length):ax L t=L[t]:=by simp[ax,h]
theorem bD{L:List Th}{t:Int}(h:val L t=true):∃k:Nat,t=k∧k<L.length:=by
 simp only[val,decide_eq_true_eq] at h
 exact⟨t.toNat,by omega,by omega⟩
structure uw (L:List Th):Prop where
 base:∃r,ez L r
 full:∀t:Nat,t<L.length→∃o,aE L t=some o
theorem uw.ord{L:List Th}(W:uw L){t:Nat}(h:t<L.length):aE L t=some (aP L t):=by
 obtain⟨o,ho⟩:=W.full t h
 unfold aP;rw[ho]
theorem vI(L:List Th)(hl:L.length≤1000):ai Tryz.prog 35 [dL L] (.cons (.ptr 0 [.d]) .nil) fun av X κ=>av=ag L.length∧X=[dL L]∧κ=[]:=by
 refine fb Tryz.func35 Tryz.ntmps35 [.tmp 2] fun w0 I0 F0 hF=>?_
 repeat first|refine n1 ?_|refine n2 ?_|(first|refine rg 0 [0] [0] [] ?_|refine rg 1 [0] [0,4] [] ?_|refine rg 3 [0] [2] [] ?_|refine nc ?_);simp[hF,dL]
 (try refine nr ?_);(repeat first|refine aF ?_|refine aG ?_);refine ak.o [2] [0] [] ?_;simp[hF,an,aa,ah,dL]
theorem oy(L:List Th)(hl:L.length≤1000)(t:Int):ai Tryz.prog 69 [dL L] (.cons (.ptr 0 [.d]) (.cons (ag t) .nil)) fun av X κ=>av=aN (val L t)∧X=[dL L]∧κ=[]:=by
 refine fb Tryz.func69 Tryz.ntmps69 [.tmp 4] fun w0 I0 F0 hF=>?_
 by_cases h1:0≤t
 ·by_cases h2:t<L.length
  ·repeat first|refine n1 ?_|(first|refine rg 0 [0,1] [0,1] [] ?_|refine rg 1 [0,1] [4] [(2,7),(6,11)] ?_);simp[hF,dL,h1,h2]
   (try refine nr ?_);(repeat first|refine aF ?_|refine aG ?_);refine ak.o [4] [0] [] ?_;simp[hF,an,aa,ah,dL,val,h1,h2]
  ·repeat first|refine n1 ?_|(first|refine rg 0 [0,1] [0,1] [] ?_|refine rg 1 [0,1] [4] [(2,7),(6,11)] ?_);simp[hF,dL,h1,h2]
   (try refine nr ?_);(repeat first|refine aF ?_|refine aG ?_);refine ak.o [4] [0] [] ?_;simp[hF,an,aa,ah,dL,val,h1,h2]
 ·repeat first|refine n1 ?_|(first|refine rg 0 [0,1] [0,1] [] ?_|refine rg 1 [0,1] [4] [(2,7),(6,11)] ?_);simp[hF,dL,h1]
  (try refine nr ?_);(repeat first|refine aF ?_|refine aG ?_);refine ak.o [4] [0] [] ?_;simp[hF,an,aa,ah,dL,val,h1]
theorem pT(L:List Th)(hl:L.length≤1000)(t k:Int):ai Tryz.prog 92 [dL L] (.cons (.ptr 0 [.d]) (.cons (ag t) (.cons (ag k) .nil))) fun av X κ=>av=aN (val L t&&decide ((ax L t).kind=k))∧X=[dL L]∧κ=[]:=by
 refine fb Tryz.func92 Tryz.ntmps92 [.tmp 6] fun w0 I0 F0 hF=>?_
 repeat first|refine n1 ?_|(first|refine rg 0 [0,1,2] [0,1,2] [] ?_|refine rg 1 [0,1,2] [6] [(3,10)] ?_);simp[hF]
 cases hv:val L t with
 | true =>
  obtain⟨t,rfl,ht⟩:=bD hv
  have hn:=bH ht
  have ec:=aQ ht
  refine(oy L hl t).go [(0,[])] (by simp[hF,dL,dL,hv,hn,ht]) ?_;rintro av X κ ⟨rfl,rfl,rfl⟩;simp[hF,dL,dL,hv,hn,ht]
  repeat refine n1 ?_
  (try refine nr ?_);(repeat first|refine aF ?_|refine aG ?_);refine ak.o [6] [0] [] ?_;simp[hF,an,aa,ah,dL,ec]
 | false =>
  refine(oy L hl t).go [(0,[])] (by simp[hF,dL,dL,hv]) ?_;rintro av X κ ⟨rfl,rfl,rfl⟩;simp[hF,dL,dL,hv]
  repeat refine n1 ?_
  (try refine nr ?_);(repeat first|refine aF ?_|refine aG ?_);refine ak.o [6] [0] [] ?_;simp[hF,an,aa,ah,dL]
theorem zW(L:List Th)(hl:L.length≤1000)(n:Nat)(hn:n≤10000):ai Tryz.prog 93 [dL L] (.cons (.ptr 0 [.d]) (.cons (ag n) .nil)) fun av X κ=>av=ag (if 1000<L.length+n then 9 else 0)∧X=[dL L]∧κ=[]:=by
 have hw:IntKind.i64.wrap ((L.length:Int)+(n:Int))=(L.length:Int)+n:=IntWalk.i64_in _ (by omega)
 refine fb Tryz.func93 Tryz.ntmps93 [.tmp 4] fun w0 I0 F0 hF=>?_
 by_cases h:1000<L.length+n
 ·have h':(1000:Int)<(L.length:Int)+n:=by omega
  repeat first|refine n1 ?_|(first|refine rg 0 [0,1] [0,1] [] ?_|refine rg 1 [0,1] [12] [] ?_|refine rg 2 [] [4] [] ?_|refine nc ?_);simp[hF,dL,hw,h']
  (try refine nr ?_);(repeat first|refine aF ?_|refine aG ?_);refine ak.o [4] [0] [] ?_;simp[hF,an,aa,ah,dL,h]
 ·have h':¬(1000:Int)<(L.length:Int)+n:=by omega
  repeat first|refine n1 ?_|refine n2 ?_|(first|refine rg 0 [0,1] [0,1] [] ?_|refine rg 1 [0,1] [12] [] ?_|refine rg 3 [] [4] [] ?_|refine nc ?_);simp[hF,dL,hw,h']
  (try refine nr ?_);(repeat first|refine aF ?_|refine aG ?_);refine ak.o [4] [0] [] ?_;simp[hF,an,aa,ah,dL,h]
theorem oQ{L:List Th}(W:uw L)(t:Nat)(ht:t<L.length):ai Tryz.prog 70 [dL L] (.cons (.ptr 0 [.d]) (.cons (ag t) .nil))
  fun av X κ=>av=.cT (.cons (.cA 1 (aj (aP L t)) false) (.cons (aN true) .nil))∧X=[dL L]∧κ=[]:=by
 obtain⟨r,B⟩:=W.base
 have ho:=W.ord ht
 have hf:=ai.mono (rU B t ht [] (fun k o h=>by cases h)) (R':=fun av X κ=>∃M,av=.cT (.cons (.cA 1 (aj (aP L t)) false) (.cons (aN true) .nil))∧X=[dL L,dM M]∧κ=[(1,[.i 0])])
  fun av X κ ⟨M,_,h2,h3,h4⟩=>⟨M,by rw[ho] at h4;exact h4,h2,h3⟩
 refine fb Tryz.func70 Tryz.ntmps70 [.tmp 4,.tmp 5] fun w0 I0 F0 hF=>?_
 repeat first|refine n1 ?_|(first|refine rg 0 [0,1] [0,1] [] ?_|refine rg 1 [0,1] [4,5] [] ?_);simp[hF]
 refine(hf).go [(0,[]),(1,[])] (by simp[hF,dL,dM]) ?_;rintro av X κ ⟨M,rfl,rfl,rfl⟩;simp[hF,dL,dM]
 repeat refine n1 ?_
 (try refine nr ?_);(repeat first|refine aF ?_|refine aG ?_);refine ak.o [4,5] [0] [] ?_;simp[hF,an,aa,ah,dL]
theorem KS{L:List Th}(W:uw L)(t:Nat)(ht:t<L.length):ai Tryz.prog 26 [dL L] (.cons (.ptr 0 [.d]) (.cons (ag t) .nil))
  fun av X κ=>av=fX (.cA 1 (aj (aP L t)) false) 0∧X=[dL L]∧κ=[]:=by
 have hl:L.length≤1000:=W.base.elim fun _ B=>B.len
 have hv:val L t=true:=by simp[val,ht]
 refine fb Tryz.func26 Tryz.ntmps26 [.tmp 4,.tmp 5] fun w0 I0 F0 hF=>?_
 repeat first|refine n1 ?_|(first|refine rg 0 [0,1] [0,1] [] ?_|refine rg 1 [0,1] [0,1,11] [] ?_);simp[hF]
 refine(oy L hl t).go [(0,[])] (by simp[hF,dL,hv]) ?_;rintro av X κ ⟨rfl,rfl,rfl⟩;simp[hF,dL,hv]
 repeat first|refine n1 ?_|refine n2 ?_|(first|refine rg 3 [0,1] [6] [] ?_|refine nc ?_);simp[hF]
 refine(oQ W t ht).go [(0,[])] (by simp[hF,dL]) ?_;rintro av X κ ⟨rfl,rfl,rfl⟩;simp[hF,dL]
 repeat first|refine n1 ?_|refine rg 4 [6] [4,5] [] ?_;simp[hF]
 (try refine nr ?_);(repeat first|refine aF ?_|refine aG ?_);refine ak.o [4,5] [0] [] ?_;simp[hF,an,aa,ah,dL]
theorem Qe{L:List Th}(hl:L.length≤1000)(t:Nat)(ht:t<L.length):ai Tryz.prog 25 [dL L] (.cons (.ptr 0 [.d]) (.cons (ag t) .nil))
  fun av X κ=>av=fX (ag (L[t]).kind) 0∧X=[dL L]∧κ=[]:=by
 have hv:val L t=true:=by simp[val,ht]
 have hn:=bH ht
 refine fb Tryz.func25 Tryz.ntmps25 [.tmp 4,.tmp 5] fun w0 I0 F0 hF=>?_
 repeat first|refine n1 ?_|(first|refine rg 0 [0,1] [0,1] [] ?_|refine rg 1 [0,1] [0,1,9] [] ?_);simp[hF]
 refine(oy L hl t).go [(0,[])] (by simp[hF,dL,hv]) ?_;rintro av X κ ⟨rfl,rfl,rfl⟩;simp[hF,dL,hv]
 repeat first|refine n1 ?_|refine n2 ?_|(first|refine rg 3 [0,1] [4,5] [] ?_|refine nc ?_);simp[hF,dL,hn,ht]
 (try refine nr ?_);(repeat first|refine aF ?_|refine aG ?_);refine ak.o [4,5] [0] [] ?_;simp[hF,an,aa,ah,dL]
def L0:List Th:=[⟨0,-1,-1,-1,[],[]⟩]
theorem vJ:ai Tryz.prog 43 [] .nil fun av X κ=>av=.ptr 0 [.d]∧X=[dL L0]∧κ=[]:=by
 refine fb Tryz.func43 Tryz.ntmps43 [.tmp 0] fun w0 I0 F0 hF=>?_
 repeat first|refine n1 ?_|(first|refine rg 0 [] [] [] ?_|refine rg 1 [] [0] [] ?_);simp[hF]
 refine VS.er 1 [.d,.f 0,.i 0,.f 4] (by simp[hF,T.freeze]) (by simp[hF,T.freeze]) (by simp[hF,T.freeze]) ?_;simp[hF,St.er,T.freeze]
 refine VS.er 1 [.d,.f 0,.i 0,.f 5] (by simp[hF,T.freeze]) (by simp[hF,T.freeze]) (by simp[hF,T.freeze]) ?_;simp[hF,St.er,T.freeze]
 (try refine nr ?_);(repeat first|refine aF ?_|refine aG ?_);refine ak.o [0] [1] [] ?_;simp[hF,an,aa,ah,dL,L0,ie,dTh,sq]
abbrev Yq (k s o w:Int):AV:=.agg (.cons (ag k) (.cons (ag s) (.cons (ag o) (.cons (ag w) (.cons (.bE 1) (.cons (.bE 1) .nil))))))
theorem zX(L:List Th)(hl:L.length≤5000)(k s o w:Int):ai Tryz.prog 94 [dL L] (.cons (.ptr 0 [.d]) (.cons (Yq k s o w) .nil))
  fun av X κ=>av=ag L.length∧X=[dL (L++[⟨k,s,o,w,[],[]⟩])]∧κ=[(0,[.d])]:=by
 have rV:=tu L ⟨k,s,o,w,[],[]⟩
 simp only[tq] at rV
 have hmid:(ie (L++[⟨k,s,o,w,[],[]⟩])).mid 0 (L.length+1)=ie (L++[⟨k,s,o,w,[],[]⟩]):=aV _ _ (by simp)
 have hw:IntKind.i64.wrap (L.length:Int)=L.length:=IntWalk.i64_in _ (by omega)
 have KT:IntKind.i64.wrap (((L.length+1:Nat):Int)-1)=L.length:=by
  have:(((L.length+1:Nat):Int)-1)=L.length:=by omega
  rw[this];exact hw
 have b1:(L.length+1)*80≤140737488355328:=by omega
 have b2:L.length+1≤9223372036854775807:=by omega
 refine fb Tryz.func94 Tryz.ntmps94 [.tmp 4] fun w0 I0 F0 hF=>?_
 repeat refine n1 ?_
 refine VS.dN 1 ?_;simp[hF,St.dN]
 repeat first|refine n1 ?_|refine rg 0 [0,1] [0,3] [] ?_;simp[hF]
 refine eP 0 [.d,.f 0] ?_;simp[hF,St.lift,AV.lift,cJ,cK,dV,isNode,dL]
 repeat first|refine n1 ?_|(first|(refine dr 1 0 [0,3] [0] [] [⟨0,1,32,5⟩,⟨0,1,64,5⟩,⟨2,64,128,5⟩,⟨4,128,256,5⟩,⟨8,256,512,6⟩,⟨0,8,1024,6⟩,⟨32,1024,2048,4⟩,⟨80,2560,4096,0⟩,⟨255,32,8192,5⟩,⟨511,8192,16384,5⟩,⟨767,20480,0,0⟩] (.take 0 (.take 1 (.take 2 (.take 3 (.take 4 (.take 5 (.fork (.alt 6 (.fork (.alt 7 (.take 8 (.take 9 (.fork (.alt 10 (.done) (.nil))))) (.nil))) (.nil))))))))) (.run [0,1,2,3,4,5,6,7,8,9,10] (.done)) ?_;simp only[nD])|refine rg 2 [0] [4] [] ?_);simp[hF,rV,hmid,b1,b2,hw,KT]
 (try refine nr ?_);(repeat first|refine aF ?_|refine aG ?_);refine ak.o [4] [0] [(0,[.d])] ?_;simp[hF,an,aa,ah,dL]
def aU (k s o:Int):Th:=⟨k,s,o,-1,[],[]⟩
def bW (L:List Th) (s:Int):List Th×Int×Int :=
 if (val L s&&decide ((ax L s).kind=0))=false then (L,0,1) else if 1000<L.length+1 then (L,0,9) else (L++[aU 0 s (-1)],(L.length:Int),0)
def bN (L:List Th):List Th×Int×Int :=
 if L.length=0 then (L,0,1) else if 1000<L.length+1 then (L,0,9) else (L++[aU 1 (-1) (-1)],(L.length:Int),0)
abbrev two (x:Int×Int):AV:=fX (ag x.1) x.2
theorem CB(L:List Th)(hl:L.length≤1000)(s:Int):ai Tryz.prog 44 [dL L] (.cons (.ptr 0 [.d]) (.cons (ag s) .nil))
  fun av X κ=>av=two (bW L s).2∧X=[dL (bW L s).1]∧κ=[(0,[.d])]:=by
 refine fb Tryz.func44 Tryz.ntmps44 [.tmp 4,.tmp 5] fun w0 I0 F0 hF=>?_
 repeat first|refine n1 ?_|(first|refine rg 0 [0,1] [0,1] [] ?_|refine rg 1 [0,1] [0,1,10] [] ?_);simp[hF]
 cases hk:(val L s&&decide ((ax L s).kind=0)) with
 | false =>
  have hc:bW L s=(L,0,1):=by unfold bW;rw[if_pos hk]
  refine(pT L hl s 0).go [(0,[])] (by simp[hF,dL,hk]) ?_;rintro av X κ ⟨rfl,rfl,rfl⟩;simp[hF,dL,hk]
  repeat first|refine n1 ?_|(first|refine rg 2 [] [4,5] [] ?_|refine nc ?_);simp[hF]
  (try refine nr ?_);(repeat first|refine aF ?_|refine aG ?_);refine ak.o [4,5] [0] [(0,[.d])] ?_;simp[hF,an,aa,ah,dL,hc]
 | true =>
  refine(pT L hl s 0).go [(0,[])] (by simp[hF,dL,hk]) ?_;rintro av X κ ⟨rfl,rfl,rfl⟩;simp[hF,dL,hk]
  repeat first|refine n1 ?_|refine n2 ?_|(first|refine rg 3 [0,1] [0,1,6] [] ?_|refine nc ?_);simp[hF]
  refine(zW L hl 1 (by omega)).go [(0,[])] (by simp[hF,dL]) ?_;rintro av X κ ⟨rfl,rfl,rfl⟩;simp[hF,dL]
  by_cases hf:1000<L.length+1
  ·have hc:bW L s=(L,0,9):=by unfold bW;rw[if_neg (by simp[hk]),if_pos hf]
   repeat first|refine n1 ?_|(first|refine rg 4 [0,1,6] [0,1,6,14] [] ?_|refine rg 5 [6] [4,5] [] ?_|refine nc ?_);simp[hF,hf]
   (try refine nr ?_);(repeat first|refine aF ?_|refine aG ?_);refine ak.o [4,5] [0] [(0,[.d])] ?_;simp[hF,an,aa,ah,dL,hc]
  ·have hc:bW L s=(L++[aU 0 s (-1)],(L.length:Int),0):=by unfold bW;rw[if_neg (by simp[hk]),if_neg hf]
   repeat first|refine n1 ?_|refine n2 ?_|(first|refine rg 4 [0,1,6] [0,1,6,14] [] ?_|refine rg 6 [0,1] [4,5] [] ?_|refine nc ?_);simp[hF,hf]
   refine(zX L (by omega) 0 s (-1) (-1)).go [(0,[])] (by simp[hF,dL]) ?_;rintro av X κ ⟨rfl,rfl,rfl⟩;simp[hF,dL]
   repeat refine n1 ?_
   (try refine nr ?_);(repeat first|refine aF ?_|refine aG ?_);refine ak.o [4,5] [0] [(0,[.d])] ?_;simp[hF,an,aa,ah,dL,hc,aU]
theorem yO(L:List Th)(hl:L.length≤1000):ai Tryz.prog 45 [dL L] (.cons (.ptr 0 [.d]) .nil)
  fun av X κ=>av=two (bN L).2∧X=[dL (bN L).1]∧κ=[(0,[.d])]:=by
 refine fb Tryz.func45 Tryz.ntmps45 [.tmp 2,.tmp 3] fun w0 I0 F0 hF=>?_
 repeat first|refine n1 ?_|(first|refine rg 0 [0] [0] [] ?_|refine rg 1 [0] [0,7] [] ?_);simp[hF]
 refine(vI L hl).go [(0,[])] (by simp[hF,dL]) ?_;rintro av X κ ⟨rfl,rfl,rfl⟩;simp[hF,dL]
 by_cases h0:L=[]
 ·subst h0
  have hc:bN []=([],0,1):=by unfold bN;rw[if_pos (by simp)]
  repeat first|refine n1 ?_|(first|refine rg 2 [] [2,3] [] ?_|refine nc ?_);simp[hF]
  (try refine nr ?_);(repeat first|refine aF ?_|refine aG ?_);refine ak.o [2,3] [0] [(0,[.d])] ?_;simp[hF,an,aa,ah,dL,hc]
 ·repeat first|refine n1 ?_|refine n2 ?_|(first|refine rg 3 [0] [0,4] [] ?_|refine nc ?_);simp[hF,h0]
  refine(zW L hl 1 (by omega)).go [(0,[])] (by simp[hF,dL]) ?_;rintro av X κ ⟨rfl,rfl,rfl⟩;simp[hF,dL]
  by_cases hf:1000<L.length+1
  ·have hc:bN L=(L,0,9):=by unfold bN;rw[if_neg (by simp[h0]),if_pos hf]
   repeat first|refine n1 ?_|(first|refine rg 4 [0,4] [0,4,11] [] ?_|refine rg 5 [4] [2,3] [] ?_|refine nc ?_);simp[hF,hf]
   (try refine nr ?_);(repeat first|refine aF ?_|refine aG ?_);refine ak.o [2,3] [0] [(0,[.d])] ?_;simp[hF,an,aa,ah,dL,hc]
  ·have hc:bN L=(L++[aU 1 (-1) (-1)],(L.length:Int),0):=by unfold bN;rw[if_neg (by simp[h0]),if_neg hf]
   repeat first|refine n1 ?_|refine n2 ?_|(first|refine rg 4 [0,4] [0,4,11] [] ?_|refine rg 6 [0] [2,3] [] ?_|refine nc ?_);simp[hF,hf]
   refine(zX L (by omega) 1 (-1) (-1) (-1)).go [(0,[])] (by simp[hF,dL]) ?_;rintro av X κ ⟨rfl,rfl,rfl⟩;simp[hF,dL]
   repeat refine n1 ?_
   (try refine nr ?_);(repeat first|refine aF ?_|refine aG ?_);refine ak.o [2,3] [0] [(0,[.d])] ?_;simp[hF,an,aa,ah,dL,hc,aU]
def acO (o:Int):D:=.box true () (.val (.int .i64 o))
@[simp high] theorem abR(o:Int):aW (acO o)=true:=by rw[acO,aW]
def FT (o:Int) (x:Th):Bool:=decide (x.kind=2∧x.obj=o)
def ux (L:List Th) (c o:Int):List Th×Int×Int :=
 if (val L c&&decide ((ax L c).kind=0))=false∨o<0∨100≤o then (L,0,1)
 else if 0≤lZ (FT o) L then if (ax L (lZ (FT o) L)).sup=c then (L,lZ (FT o) L,0) else (L,0,1)
 else if 1000<L.length+1 then (L,0,9) else (L++[aU 2 c o],(L.length:Int),0)
def cp:Nat→List Th→Int→Nat
 | 0,_,_=>0
 | n+1,L,t=>if 0≤(ax L t).own then 0 else if 0≤(ax L t).sup then 1+cp n L (ax L t).sup else 1
def iL:Nat→List Th→Int→List Th×Int
 | 0,L,_=>(L,0)
 | n+1,L,t =>
  if 0≤(ax L t).own then (L,(ax L t).own)
  else
   let p:=if 0≤(ax L t).sup then iL n L (ax L t).sup else (L,0)
   let q:=p.1++[aU 2 p.2 (-1)]
   (q.set t.toNat { ax q t with own:=(p.1.length:Int) },(p.1.length:Int))
structure Zw (L:List Th) (r:Int→Nat):Prop where
 up:∀(t:Nat) (x:Th),L[t]? = some x→0≤x.sup→x.sup<L.length∧r x.sup<r t
 len:L.length≤1000
theorem vK{L:List Th}{r:Int→Nat}(U:Zw L r):∀(n:Nat) (t:Nat),t<L.length→r t<n→n≤100000→ai Tryz.prog 110 [dL L] (.cons (.ptr 0 [.d]) (.cons (ag t) .nil))
  fun av X κ=>(av=ag (cp n L t)∧cp n L t≤n)∧X=[dL L]∧κ=[]
 | 0,t,ht,hr,hn=>by omega
 | n+1,t,ht,hr,hn=>by
  have hx:L[t]? = some L[t]:=List.getElem?_eq_getElem ht
  have ij:=bH ht
  have ec:=aQ ht
  have hup:=U.up t _ hx
  have hl:=U.len
  refine fb Tryz.func110 Tryz.ntmps110 [.tmp 4] fun w0 I0 F0 hF=>?_
  by_cases h1:0≤L[t].own
  ·have hm:cp (n+1) L t=0:=by unfold cp;rw[ec,if_pos h1]
   repeat first|refine n1 ?_|(first|refine rg 0 [0,1] [0,1] [] ?_|refine rg 1 [0,1] [0,1,14] [] ?_|refine rg 2 [] [4] [] ?_|refine nc ?_);simp[hF,dL,ij,ht,h1]
   (try refine nr ?_);(repeat first|refine aF ?_|refine aG ?_);refine ak.o [4] [0] [] ?_;simp[hF,an,aa,ah,dL,hm]
  ·by_cases h2:0≤L[t].sup
   ·obtain⟨q1,q2⟩:=hup h2
    obtain⟨s,hs⟩:∃s:Nat,L[t].sup=s:=⟨L[t].sup.toNat,by omega⟩
    rw[hs] at q1 q2
    have hm:cp (n+1) L t=1+cp n L s:=by rw[cp,ec,if_neg h1,if_pos h2,hs]
    have ih:=vK U n s (by omega) (by omega) (by omega)
    have hs0:(0:Int)≤s:=by omega
    repeat first|refine n1 ?_|refine n2 ?_|(first|refine rg 0 [0,1] [0,1] [] ?_|refine rg 1 [0,1] [0,1,14] [] ?_|refine rg 3 [0,1] [0,5] [] ?_|refine rg 4 [0,5] [0,5,24] [] ?_|refine rg 5 [0,5] [4] [] ?_|refine nc ?_);simp[hF,dL,ij,ht,h1,hs,hs0]
    refine(ih).go [(0,[])] (by simp[hF,dL]) ?_;rintro av X κ ⟨⟨rfl,hle⟩,rfl,rfl⟩;simp[hF,dL]
    have hw:IntKind.i64.wrap (1+(cp n L s:Int))=1+(cp n L s:Int):=IntWalk.i64_in _ (by omega)
    repeat refine n1 ?_
    (try refine nr ?_);(repeat first|refine aF ?_|refine aG ?_);refine ak.o [4] [0] [] ?_;simp[hF,an,aa,ah,dL,hm,hw]
    omega
   ·have hm:cp (n+1) L t=1:=by rw[cp,ec,if_neg h1,if_neg h2]
    repeat first|refine n1 ?_|refine n2 ?_|(first|refine rg 0 [0,1] [0,1] [] ?_|refine rg 1 [0,1] [0,1,14] [] ?_|refine rg 3 [0,1] [0,5] [] ?_|refine rg 4 [0,5] [0,5,24] [] ?_|refine rg 6 [] [4] [] ?_|refine nc ?_);simp[hF,dL,ij,ht,h1,h2]
    (try refine nr ?_);(repeat first|refine aF ?_|refine aG ?_);refine ak.o [4] [0] [] ?_;simp[hF,an,aa,ah,dL,hm]
theorem pU:∀(n:Nat) (L:List Th) (t:Int),(iL n L t).1.length=L.length+cp n L t
 | 0,L,t=>by simp[iL,cp]
 | n+1,L,t=>by
  unfold iL cp
  by_cases h1:0≤(ax L t).own
  ·rw[if_pos h1,if_pos h1];simp
  ·rw[if_neg h1,if_neg h1]
   by_cases h2:0≤(ax L t).sup
   ·simp only[if_pos h2,List.length_set,List.length_append,pU n,List.length_singleton];omega
   ·simp only[if_neg h2,List.length_set,List.length_append,List.length_singleton]
theorem Ka{L:List Th}{r:Int→Nat}(U:Zw L r):∀(n:Nat) (t:Nat),t<L.length→r t<n→L.length+cp n L t≤1000→ai Tryz.prog 111 [dL L] (.cons (.ptr 0 [.d]) (.cons (ag t) .nil))
  fun av X κ=>av=ag (iL n L t).2∧X=[dL (iL n L t).1]∧κ=[(0,[.d])]
 | 0,t,ht,hr,hn=>by omega
 | n+1,t,ht,hr,hroom=>by
  have hx:L[t]? = some L[t]:=List.getElem?_eq_getElem ht
  have ij:=bH ht
  have ec:=aQ ht
  have hup:=U.up t _ hx
  have hl:=U.len
  refine fb Tryz.func111 Tryz.ntmps111 [.tmp 4] fun w0 I0 F0 hF=>?_
  by_cases h1:0≤L[t].own
  ·have hm:iL (n+1) L t=(L,L[t].own):=by unfold iL;rw[ec,if_pos h1]
   repeat first|refine n1 ?_|(first|refine rg 0 [0,1] [0,1] [] ?_|refine rg 1 [0,1] [0,1,5] [] ?_|refine rg 2 [0,1,5] [0,1,5,18] [] ?_|refine rg 3 [5] [4] [] ?_|refine nc ?_);simp[hF,dL,ij,ht,h1]
   (try refine nr ?_);(repeat first|refine aF ?_|refine aG ?_);refine ak.o [4] [0] [(0,[.d])] ?_;simp[hF,an,aa,ah,dL,hm]
  ·by_cases h2:0≤L[t].sup
   ·obtain⟨q1,q2⟩:=hup h2
    obtain⟨s,hs⟩:∃s:Nat,L[t].sup=s:=⟨L[t].sup.toNat,by omega⟩
    rw[hs] at q1 q2
    have KU:cp (n+1) L t=1+cp n L s:=by rw[cp,ec,if_neg h1,if_pos (by omega),hs]
    have ih:=Ka U n s (by omega) (by omega) (by omega)
    have hs0:(0:Int)≤s:=by omega
    have oE:=pU n L s
    have hm:iL (n+1) L t=(((iL n L s).1++[aU 2 (iL n L s).2 (-1)]).set t { ax ((iL n L s).1++[aU 2 (iL n L s).2 (-1)]) t with own:=((iL n L s).1.length:Int) },((iL n L s).1.length:Int)):=by
     rw[iL,ec,if_neg h1]
     simp only[hs,hs0,if_true,Int.toNat_natCast]
    repeat first|refine n1 ?_|refine n2 ?_|(first|refine rg 0 [0,1] [0,1] [] ?_|refine rg 1 [0,1] [0,1,5] [] ?_|refine rg 2 [0,1,5] [0,1,5,18] [] ?_|refine rg 4 [0,1] [0,1,6] [] ?_|refine rg 5 [0,1,6] [0,1,6,7] [] ?_|refine rg 6 [0,1,6,7] [0,1,6,7,29] [] ?_|refine rg 7 [0,1,7] [0,1,6] [] ?_|refine nc ?_);simp[hF,dL,ij,ht,h1,hs,hs0]
    refine(ih).go [(0,[])] (by simp[hF,dL]) ?_;rintro av X κ ⟨rfl,rfl,rfl⟩;simp[hF,dL]
    generalize iL n L s=p at *
    obtain⟨L1,w⟩:=p
    simp only at oE hm
    have Qf:t<(L1++[aU 2 w (-1)]).length:=by simp;omega
    have ahJ:t<L1.length+1:=by omega
    have hnq:=bH Qf
    have Zx:=aQ Qf
    rw[Zx] at hm
    have dB:=iS (L1++[aU 2 w (-1)]) t { (L1++[aU 2 w (-1)])[t] with own:=(L1.length:Int) }
    repeat first|refine n1 ?_|refine rg 8 [0,1,6] [0,1,8] [] ?_;simp[hF]
    refine(zX L1 (by omega) 2 w (-1) (-1)).go [(0,[])] (by simp[hF,dL]) ?_;rintro av X κ ⟨rfl,rfl,rfl⟩;simp[hF,dL]
    generalize hq:(L1++[aU 2 w (-1)])=q at *
    have KV:(L1++[⟨2,w,-1,-1,[],[]⟩])=q:=hq
    repeat first|refine n1 ?_|(first|refine rg 9 [0,1,8] [8] [] ?_|refine rg 10 [8] [4] [] ?_);simp[hF,KV,hnq,Qf,dB]
    (try refine nr ?_);(repeat first|refine aF ?_|refine aG ?_);refine ak.o [4] [0] [(0,[.d])] ?_;simp[hF,an,aa,ah,dL,hm]
   ·have KU:cp (n+1) L t=1:=by rw[cp,ec,if_neg h1,if_neg h2]
    have hm:iL (n+1) L t=((L++[aU 2 0 (-1)]).set t { ax (L++[aU 2 0 (-1)]) t with own:=(L.length:Int) },(L.length:Int)):=by
     rw[iL,ec,if_neg h1]
     simp only[h2,if_false,Int.toNat_natCast]
    have Qf:t<(L++[aU 2 0 (-1)]).length:=by simp;omega
    have hnq:=bH Qf
    have Zx:=aQ Qf
    rw[Zx] at hm
    have dB:=iS (L++[aU 2 0 (-1)]) t { (L++[aU 2 0 (-1)])[t] with own:=(L.length:Int) }
    repeat first|refine n1 ?_|refine n2 ?_|(first|refine rg 0 [0,1] [0,1] [] ?_|refine rg 1 [0,1] [0,1,5] [] ?_|refine rg 2 [0,1,5] [0,1,5,18] [] ?_|refine rg 4 [0,1] [0,1,6] [] ?_|refine rg 5 [0,1,6] [0,1,6,7] [] ?_|refine rg 6 [0,1,6,7] [0,1,6,7,29] [] ?_|refine rg 8 [0,1,6] [0,1,8] [] ?_|refine nc ?_);simp[hF,dL,ij,ht,h1,h2]
    refine(zX L (by omega) 2 0 (-1) (-1)).go [(0,[])] (by simp[hF,dL]) ?_;rintro av X κ ⟨rfl,rfl,rfl⟩;simp[hF,dL]
    generalize hq:(L++[aU 2 0 (-1)])=q at *
    have KV:(L++[⟨2,0,-1,-1,[],[]⟩])=q:=hq
    repeat first|refine n1 ?_|(first|refine rg 9 [0,1,8] [8] [] ?_|refine rg 10 [8] [4] [] ?_);simp[hF,KV,hnq,Qf,dB]
    (try refine nr ?_);(repeat first|refine aF ?_|refine aG ?_);refine ak.o [4] [0] [(0,[.d])] ?_;simp[hF,an,aa,ah,dL,hm]
def fu (L:List Th) (t:Int):List Th×Int×Int :=
 if val L t=false∨(ax L t).kind=2 then (L,0,1)
 else if 1000<L.length+cp 1001 L t then (L,0,9) else ((iL 1001 L t).1,(iL 1001 L t).2,0)
theorem Zy{L:List Th}{r:Int→Nat}(U:Zw L r)(hr:∀t,r t≤1000)(t:Int):ai Tryz.prog 66 [dL L] (.cons (.ptr 0 [.d]) (.cons (ag t) .nil))
  fun av X κ=>av=two (fu L t).2∧X=[dL (fu L t).1]∧κ=[(0,[.d])]:=by
 have hl:=U.len
 refine fb Tryz.func66 Tryz.ntmps66 [.tmp 4,.tmp 5] fun w0 I0 F0 hF=>?_
 repeat first|refine n1 ?_|(first|refine rg 0 [0,1] [0,1] [] ?_|refine rg 1 [0,1] [0,1,21] [(4,11)] ?_);simp[hF]
 cases hv:val L t with
 | false =>
  have hc:fu L t=(L,0,1):=by unfold fu;rw[if_pos (.inl hv)]
  refine(oy L hl t).go [(0,[])] (by simp[hF,dL,hv]) ?_;rintro av X κ ⟨rfl,rfl,rfl⟩;simp[hF,dL,hv]
  repeat first|refine n1 ?_|(first|refine rg 2 [] [4,5] [] ?_|refine nc ?_);simp[hF]
  (try refine nr ?_);(repeat first|refine aF ?_|refine aG ?_);refine ak.o [4,5] [0] [(0,[.d])] ?_;simp[hF,an,aa,ah,dL,hc]
 | true =>
  obtain⟨t,rfl,ht⟩:=bD hv
  have hn:=bH ht
  have ec:=aQ ht
  by_cases h2:L[t].kind=2
  ·have hc:fu L t=(L,0,1):=by unfold fu;rw[if_pos (.inr (by rw[ec];exact h2))]
   refine(oy L hl t).go [(0,[])] (by simp[hF,dL,hv,hn,ht,h2]) ?_;rintro av X κ ⟨rfl,rfl,rfl⟩;simp[hF,dL,hv,hn,ht,h2]
   repeat first|refine n1 ?_|(first|refine rg 2 [] [4,5] [] ?_|refine nc ?_);simp[hF]
   (try refine nr ?_);(repeat first|refine aF ?_|refine aG ?_);refine ak.o [4,5] [0] [(0,[.d])] ?_;simp[hF,an,aa,ah,dL,hc]
  ·have hnot:¬(val L t=false∨(ax L t).kind=2):=by rw[hv,ec];simp[h2]
   have hrt:=hr t
   refine(oy L hl t).go [(0,[])] (by simp[hF,dL,hv,hn,ht,h2]) ?_;rintro av X κ ⟨rfl,rfl,rfl⟩;simp[hF,dL,hv,hn,ht,h2]
   repeat first|refine n1 ?_|refine n2 ?_|(first|refine rg 3 [0,1] [0,1,6] [] ?_|refine nc ?_);simp[hF]
   refine(vK U 1001 t ht (by omega) (by omega)).go [(0,[])] (by simp[hF,dL]) ?_;rintro av X κ ⟨⟨rfl,hle⟩,rfl,rfl⟩;simp[hF,dL]
   repeat refine n1 ?_
   refine(zW L hl (cp 1001 L t) (by omega)).go [(0,[])] (by simp[hF,dL]) ?_;rintro av X κ ⟨rfl,rfl,rfl⟩;simp[hF,dL]
   by_cases hf:1000<L.length+cp 1001 L t
   ·have hc:fu L t=(L,0,9):=by unfold fu;rw[if_neg hnot,if_pos hf]
    repeat first|refine n1 ?_|(first|refine rg 4 [0,1,6] [0,1,6,28] [] ?_|refine rg 5 [6] [4,5] [] ?_|refine nc ?_);simp[hF,hf]
    (try refine nr ?_);(repeat first|refine aF ?_|refine aG ?_);refine ak.o [4,5] [0] [(0,[.d])] ?_;simp[hF,an,aa,ah,dL,hc]
   ·have hc:fu L t=((iL 1001 L t).1,(iL 1001 L t).2,0):=by unfold fu;rw[if_neg hnot,if_neg hf]
    repeat first|refine n1 ?_|refine n2 ?_|(first|refine rg 4 [0,1,6] [0,1,6,28] [] ?_|refine rg 6 [0,1] [4,5] [] ?_|refine nc ?_);simp[hF,hf]
    refine(Ka U 1001 t ht (by omega) (by omega)).go [(0,[])] (by simp[hF,dL]) ?_;rintro av X κ ⟨rfl,rfl,rfl⟩;simp[hF,dL]
    repeat refine n1 ?_
    (try refine nr ?_);(repeat first|refine aF ?_|refine aG ?_);refine ak.o [4,5] [0] [(0,[.d])] ?_;simp[hF,an,aa,ah,dL,hc]
end Go.Proofs.YtbhigdljojlhnaaGreat

namespace Go.Proofs.YtbhigdljojlhnaaGreat
set_option linter.all false
open Go.Vc Go.Proofs
set_option maxRecDepth 100000
set_option maxHeartbeats 4000000
attribute [local irreducible] bx jv
theorem acP(L:List Th)(t:Nat)(ht:t<L.length):ai Tryz.prog 107 [dL L] (.cons (.ptr 0 [.d,.f 0,.i t]) .nil)
  fun av X κ=>av=.ptr 0 [.d,.f 0,.i t,.f 5]∧X=[dL L]∧κ=[]:=by
 have hn:=bH ht
 refine fb Tryz.func107 Tryz.ntmps107 [.tmp 2] fun w0 I0 F0 hF=>?_
 repeat first|refine n1 ?_|(first|refine rg 0 [0] [0] [] ?_|refine rg 1 [0] [2] [] ?_);simp[hF,dL,hn]
 (try refine nr ?_);(repeat first|refine aF ?_|refine aG ?_);refine ak.o [2] [0] [] ?_;simp[hF,an,aa,ah,dL]
def de (L:List Th) (t:Nat) (l:List Int):List Th:=L.set t { L.getD t ⟨0,-1,-1,-1,[],[]⟩ with ins:=l }
theorem lq{L:List Th}{t:Nat}(ht:t<L.length)(l:List Int):de L t l=L.set t { L[t] with ins:=l }:=by
 unfold de
 rw[List.getD_eq_getElem?_getD,List.getElem?_eq_getElem ht];rfl
open Classical in
noncomputable def dg (L:List Th) (t m:Int):List Th×Int :=
 if (val L t&&(val L m&&decide ((ax L m).kind=1)))=false then (L,1)
 else if bh (ax L t).ins m=true then (L,7)
 else if m=t∨bh (aP L m) t=true then (L,10)
 else if ∀k:Nat,k<L.length→∃o,aE (de L t.toNat (m::(ax L t).ins)) k=some o then (de L t.toNat (m::(ax L t).ins),0) else (L,10)
theorem Vv{L:List Th}(W:uw L)(t m:Int)(hB:∀t':Nat,t=t'→t'<L.length→val L m=true→(ax L m).kind=1→bh (ax L t).ins m=false→m≠t→bh (aP L m) t=false→∃r,ez (de L t' (m::(ax L t).ins)) r) :
  ai Tryz.prog 106 [dL L] (.cons (.ptr 0 [.d]) (.cons (ag t) (.cons (ag m) (.cons (.fn 107 .nil) .nil))))
  fun av X κ=>av=ag (dg L t m).2∧X=[dL (dg L t m).1]∧κ=[(0,[.d])]:=by
 obtain⟨r,B⟩:=W.base
 have hl:=B.len
 refine fb Tryz.func106 Tryz.ntmps106 [.tmp 8] fun w0 I0 F0 hF=>?_
 repeat first|refine n1 ?_|(first|refine rg 0 [0,1,2,3] [0,1,2,3] [] ?_|refine rg 1 [0,1,2,3] [0,1,2,3,26] [(4,21)] ?_);simp[hF]
 cases hv:val L t with
 | false =>
  have hc:dg L t m=(L,1):=by unfold dg;rw[if_pos (by simp[hv])]
  refine(oy L hl t).go [(0,[])] (by simp[hF,dL,hv]) ?_;rintro av X κ ⟨rfl,rfl,rfl⟩;simp[hF,dL,hv]
  repeat first|refine n1 ?_|(first|refine rg 2 [] [8] [] ?_|refine nc ?_);simp[hF]
  (try refine nr ?_);(repeat first|refine aF ?_|refine aG ?_);refine ak.o [8] [0] [(0,[.d])] ?_;simp[hF,an,aa,ah,dL,hc]
 | true =>
  obtain⟨t,rfl,ht⟩:=bD hv
  have hn:=bH ht
  have ec:=aQ ht
  refine(oy L hl t).go [(0,[])] (by simp[hF,dL,hv]) ?_;rintro av X κ ⟨rfl,rfl,rfl⟩;simp[hF,dL,hv]
  cases hk:(val L m&&decide ((ax L m).kind=1)) with
  | false =>
   have hc:dg L t m=(L,1):=by unfold dg;rw[if_pos (by simp[hk])]
   refine(pT L hl m 1).go [(0,[])] (by simp[hF,dL,hk]) ?_;rintro av X κ ⟨rfl,rfl,rfl⟩;simp[hF,dL,hk]
   repeat first|refine n1 ?_|(first|refine rg 2 [] [8] [] ?_|refine nc ?_);simp[hF]
   (try refine nr ?_);(repeat first|refine aF ?_|refine aG ?_);refine ak.o [8] [0] [(0,[.d])] ?_;simp[hF,an,aa,ah,dL,hc]
  | true =>
   have hkm:val L m=true∧(ax L m).kind=1:=by simpa using hk
   have h0:¬(val L t&&(val L m&&decide ((ax L m).kind=1)))=false:=by rw[hv,hk];simp
   obtain⟨m,rfl,hm⟩:=bD hkm.1
   have hlen:L[t].ins.length≤1000:=by
    have hx:L[t]? = some L[t]:=List.getElem?_eq_getElem ht
    have h1:=bk L.length (parents L[t]) (B.np _ _ hx) (fun u hu=>by have:=B.gj _ _ hx u (.inr hu);omega)
    have h2:=bk L.length L[t].bU (B.nb _ _ hx) (fun u hu=>by have:=B.gj _ _ hx u (.inl hu);omega)
    have h3:L[t].ins.length≤(parents L[t]).length:=by simp[parents]
    omega
   refine(pT L hl m 1).go [(0,[])] (by simp[hF,dL,hk]) ?_;rintro av X κ ⟨rfl,rfl,rfl⟩;simp[hF,dL,hk]
   repeat first|refine n1 ?_|refine n2 ?_|(first|refine rg 3 [0,1,2,3] [0,1,2,9] [] ?_|refine nc ?_);simp[hF,dL,hn,ht]
   refine(acP L t ht).go [(0,[])] (by simp[hF,dL]) ?_;rintro av X κ ⟨rfl,rfl,rfl⟩;simp[hF,dL]
   repeat first|refine n1 ?_|refine rg 4 [0,1,2,9] [0,1,2,9,39] [] ?_;simp[hF,dL,hn,ht]
   refine(iy false L[t].ins m (by omega)).go [] (by simp[hF,dL]) ?_;rintro av X κ ⟨rfl,rfl,rfl⟩;simp[hF,dL]
   cases hd:bh L[t].ins m with
   | true =>
    have hc:dg L t m=(L,7):=by unfold dg;rw[if_neg h0,ec,if_pos hd]
    repeat first|refine n1 ?_|(first|refine rg 5 [] [8] [] ?_|refine nc ?_);simp[hF,hd]
    (try refine nr ?_);(repeat first|refine aF ?_|refine aG ?_);refine ak.o [8] [0] [(0,[.d])] ?_;simp[hF,an,aa,ah,dL,hc]
   | false =>
    have hd':¬bh (ax L t).ins m=true:=by rw[ec,hd];simp
    have va:(aP L m).length≤1000:=dW B hm (W.ord hm)
    repeat first|refine n1 ?_|refine n2 ?_|(first|refine rg 6 [0,1,2,9] [0,1,2,9,10] [] ?_|refine nc ?_);simp[hF,hd]
    by_cases qz:(m:Int)=(t:Int)
    ·have hc:dg L t m=(L,10):=by unfold dg;rw[if_neg h0,if_neg hd',if_pos (.inl qz)]
     refine(oQ W m hm).go [(0,[])] (by simp[hF,dL,qz]) ?_;rintro av X κ ⟨rfl,rfl,rfl⟩;simp[hF,dL,qz]
     repeat first|refine n1 ?_|(first|refine rg 7 [0,1,2,9,10] [0,2,9,53] [(3,49)] ?_|refine rg 8 [] [8] [] ?_|refine nc ?_);simp[hF,qz]
     (try refine nr ?_);(repeat first|refine aF ?_|refine aG ?_);refine ak.o [8] [0] [(0,[.d])] ?_;simp[hF,an,aa,ah,dL,hc]
    ·refine(oQ W m hm).go [(0,[])] (by simp[hF,dL,qz]) ?_;rintro av X κ ⟨rfl,rfl,rfl⟩;simp[hF,dL,qz]
     repeat first|refine n1 ?_|refine rg 7 [0,1,2,9,10] [0,2,9,53] [(3,49)] ?_;simp[hF,qz]
     refine(iy false (aP L m) t (by omega)).go [] (by simp[hF,dL]) ?_;rintro av X κ ⟨rfl,rfl,rfl⟩;simp[hF,dL]
     cases hh:bh (aP L m) t with
     | true =>
      have hc:dg L t m=(L,10):=by unfold dg;rw[if_neg h0,if_neg hd',if_pos (.inr hh)]
      repeat first|refine n1 ?_|(first|refine rg 8 [] [8] [] ?_|refine nc ?_);simp[hF,hh]
      (try refine nr ?_);(repeat first|refine aF ?_|refine aG ?_);refine ak.o [8] [0] [(0,[.d])] ?_;simp[hF,an,aa,ah,dL,hc]
     | false =>
      have h3:¬((m:Int)=t∨bh (aP L m) t=true):=by rw[hh];simp[qz]
      obtain⟨r2,B2⟩:=hB t rfl ht hkm.1 hkm.2 (by rw[ec];exact hd) qz hh
      have CC:=lq ht ((m:Int)::L[t].ins)
      have dB:=iS L t { L[t] with ins:=(m:Int)::L[t].ins }
      have hfl:eu [(true,[(m:Int)]),(false,L[t].ins)]=(m:Int)::L[t].ins:=by simp[eu]
      repeat first|refine n1 ?_|refine n2 ?_|(first|refine rg 9 [0,2,9] [0,2,9,12] [] ?_|refine rg 10 [0,2,9,12] [0,9,12] [] ?_|refine nc ?_);simp[hF,hh,hn,ht]
      refine(pS true [(true,[(m:Int)]),(false,L[t].ins)] (by simp) (by simp[ck]) (by simp[ck];omega)).go [(2,[])] (by simp[hF,rM,sq,dG,hfl,hn,ht,dB]) ?_;rintro av X κ ⟨rfl,rfl,rfl⟩;simp[hF,rM,sq,dG,hfl,hn,ht,dB]
      repeat first|refine n1 ?_|refine n3 ?_|(first|refine rg 11 [0,9,12] [0,9,12,13] [] ?_|refine rg 12 [0,9,12,13] [0,9,12,13,69,70] [] ?_);simp[hF]
      refine VS.lp [(0,[.d])] (by simp[aa,ah]) ?_
      refine VS.pick [0,9,12,13,69,70] [0,3] (by simp[hF]) ?_;simp[hF]
      have hw0:de L t ((m:Int)::L[t].ins)=de L (t:Int).toNat ((m:Int)::(ax L t).ins):=by rw[ec];rfl
      rw[ec] at B2
      generalize hL2:de L t ((m:Int)::L[t].ins)=L2 at *
      have hl2:L2.length=L.length:=by rw[CC];simp
      have ht2:t<L2.length:=by omega
      have Qg:L2[t]={ L[t] with ins:=(m:Int)::L[t].ins }:=by simp[CC]
      have Qh:L2.set t L[t]=L:=by rw[CC,List.set_set,List.set_getElem_self]
      have hn2:=bH ht2
      rw[Qg] at hn2
      have CD:=iS L2 t L[t]
      rw[Qh] at CD
      refine VS.rounds (fun n st=>∃(i:Nat) (M:List (Int×List Int)),i+n=L.length∧fm L2 M∧(∀k:Nat,k<i→∃o,aE L2 k=some o) ∧
       st=⟨[(0,.ptr 0 [.d]),(9,.ptr 0 [.d,.f 0,.i t,.f 5]),(12,.cA 1 (aj L[t].ins) false),(13,.mp 1 []),(69,ag L.length),(70,ag i)],[dL L2,dM M],[(0,[.d])],[]⟩)
       ⟨L.length,0,[],by omega,(fun k o h=>by cases h),(fun k h=>by omega),by simp[dL,dM,CC]⟩ ?_
      rintro n st ⟨i,M,hin,hM,hall,rfl⟩
      repeat first|refine n1 ?_|(first|refine rg 13 [0,9,12,13,69,70] [0,9,12,13,69,70,71] [] ?_|refine nc ?_);simp[hF]
      refine⟨fun hlt=>?_,fun hge=>?_⟩
      ·have hi2:i<L2.length:=by omega
       cases ho:aE L2 i with
       | some o =>
        have hf:=ai.mono (rU B2 i hi2 M hM) (R':=fun av X κ=>∃M,fm L2 M∧av=.cT (.cons (.cA 1 (aj o) false) (.cons (aN true) .nil))∧X=[dL L2,dM M]∧κ=[(1,[.i 0])])
         fun av X κ ⟨M,h1,h2,h3,h4⟩=>⟨M,h1,by rw[ho] at h4;exact h4,h2,h3⟩
        repeat first|refine n1 ?_|refine n2 ?_|refine n3 ?_|(first|refine rg 14 [0,9,12,13,69,70] [0,9,12,13,14,69,70] [] ?_|refine rg 15 [0,9,12,13,14,69,70] [0,9,12,13,16,69,70] [] ?_);simp[hF]
        refine(hf).go [(0,[]),(1,[])] (by simp[hF,dL,dM]) ?_;rintro av X κ ⟨M,hM,rfl,rfl,rfl⟩;simp[hF,dL,dM]
        repeat first|refine n1 ?_|refine n2 ?_|refine n4 ?_|refine n5 ?_|refine n6 ?_|(first|refine rg 16 [0,9,12,13,16,69,70] [0,9,12,13,69,70,81] [] ?_|refine rg 19 [0,9,12,13,69,70] [0,9,12,13,69,70] [] ?_|refine nc ?_);simp[hF]
        refine aO.of [0,9,12,13,69,70] [0,1] (n-1) (by omega) (by simp[hF]) ?_
        refine⟨i+1,M,by omega,hM,fun k hk=>?_,?_⟩
        ·rcases Nat.lt_or_ge k i with h|h
         ·exact hall k h
         ·obtain rfl:k=i:=by omega
          exact⟨o,ho⟩
        ·simp[dL,dM]
         exact IntWalk.i64_in _ (by omega)
       | none =>
        have hc:dg L t m=(L,10):=by
         unfold dg
         rw[if_neg h0,if_neg hd',if_neg h3,←hw0,if_neg]
         intro h
         obtain⟨o,h⟩:=h i (by omega)
         rw[ho] at h;cases h
        have hf:=ai.mono (rU B2 i hi2 M hM) (R':=fun av X κ=>∃M,fm L2 M∧av=.cT (.cons (.bE 1) (.cons (aN false) .nil))∧X=[dL L2,dM M]∧κ=[(1,[.i 0])])
         fun av X κ ⟨M,h1,h2,h3,h4⟩=>⟨M,h1,by rw[ho] at h4;exact h4,h2,h3⟩
        repeat first|refine n1 ?_|refine n2 ?_|refine n3 ?_|(first|refine rg 14 [0,9,12,13,69,70] [0,9,12,13,14,69,70] [] ?_|refine rg 15 [0,9,12,13,14,69,70] [0,9,12,13,16,69,70] [] ?_);simp[hF]
        refine(hf).go [(0,[]),(1,[])] (by simp[hF,dL,dM]) ?_;rintro av X κ ⟨M,hM,rfl,rfl,rfl⟩;simp[hF,dL,dM]
        repeat first|refine n1 ?_|(first|refine rg 16 [0,9,12,13,16,69,70] [0,9,12,13,69,70,81] [] ?_|refine rg 17 [9,12] [] [] ?_|refine rg 18 [] [8] [] ?_|refine nc ?_);simp[hF,dL,hn2,ht2,CD]
        (try refine nr ?_);(repeat first|refine aF ?_|refine aG ?_);refine ak.o [8] [0] [(0,[.d])] ?_;simp[hF,an,aa,ah,dL,hc]
      ·obtain rfl:i=L.length:=by omega
       have hc:dg L t m=(L2,0):=by
        unfold dg
        rw[if_neg h0,if_neg hd',if_neg h3,←hw0,if_pos hall]
       repeat first|refine n1 ?_|refine n7 ?_|refine rg 20 [] [8] [] ?_;simp[hF]
       (try refine nr ?_);(repeat first|refine aF ?_|refine aG ?_);refine ak.o [8] [0] [(0,[.d])] ?_;simp[hF,an,aa,ah,dL,hc]
theorem FU{L:List Th}(W:uw L)(t m:Int)(hB:∀t':Nat,t=t'→t'<L.length→val L m=true→(ax L m).kind=1→bh (ax L t).ins m=false→m≠t→bh (aP L m) t=false→∃r,ez (de L t' (m::(ax L t).ins)) r) :
  ai Tryz.prog 62 [dL L] (.cons (.ptr 0 [.d]) (.cons (ag t) (.cons (ag m) .nil)))
  fun av X κ=>av=ag (dg L t m).2∧X=[dL (dg L t m).1]∧κ=[(0,[.d])]:=by
 refine fb Tryz.func62 Tryz.ntmps62 [.tmp 6] fun w0 I0 F0 hF=>?_
 repeat first|refine n1 ?_|(first|refine rg 0 [0,1,2] [0,1,2] [] ?_|refine rg 1 [0,1,2] [6] [] ?_);simp[hF]
 refine(Vv W t m hB).go [(0,[])] (by simp[hF,dL]) ?_;rintro av X κ ⟨rfl,rfl,rfl⟩;simp[hF,dL]
 repeat refine n1 ?_
 (try refine nr ?_);(repeat first|refine aF ?_|refine aG ?_);refine ak.o [6] [0] [(0,[.d])] ?_;simp[hF,an,aa,ah,dL]
theorem acQ(L:List Th)(t:Nat)(ht:t<L.length):ai Tryz.prog 109 [dL L] (.cons (.ptr 0 [.d,.f 0,.i t]) .nil)
  fun av X κ=>av=.ptr 0 [.d,.f 0,.i t,.f 4]∧X=[dL L]∧κ=[]:=by
 have hn:=bH ht
 refine fb Tryz.func109 Tryz.ntmps109 [.tmp 2] fun w0 I0 F0 hF=>?_
 repeat first|refine n1 ?_|(first|refine rg 0 [0] [0] [] ?_|refine rg 1 [0] [2] [] ?_);simp[hF,dL,hn]
 (try refine nr ?_);(repeat first|refine aF ?_|refine aG ?_);refine ak.o [2] [0] [] ?_;simp[hF,an,aa,ah,dL]
def cH (L:List Th) (t:Nat) (l:List Int):List Th:=L.set t { L.getD t ⟨0,-1,-1,-1,[],[]⟩ with bU:=l }
theorem lu{L:List Th}{t:Nat}(ht:t<L.length)(l:List Int):cH L t l=L.set t { L[t] with bU:=l }:=by
 unfold cH
 rw[List.getD_eq_getElem?_getD,List.getElem?_eq_getElem ht];rfl
open Classical in
noncomputable def dh (L:List Th) (t m:Int):List Th×Int :=
 if (val L t&&(val L m&&decide ((ax L m).kind=1)))=false then (L,1)
 else if bh (ax L t).bU m=true then (L,7)
 else if m=t∨bh (aP L m) t=true then (L,10)
 else if ∀k:Nat,k<L.length→∃o,aE (cH L t.toNat (m::(ax L t).bU)) k=some o then (cH L t.toNat (m::(ax L t).bU),0) else (L,10)
theorem Vw{L:List Th}(W:uw L)(t m:Int)(hB:∀t':Nat,t=t'→t'<L.length→val L m=true→(ax L m).kind=1→bh (ax L t).bU m=false→m≠t→bh (aP L m) t=false→∃r,ez (cH L t' (m::(ax L t).bU)) r) :
  ai Tryz.prog 106 [dL L] (.cons (.ptr 0 [.d]) (.cons (ag t) (.cons (ag m) (.cons (.fn 109 .nil) .nil))))
  fun av X κ=>av=ag (dh L t m).2∧X=[dL (dh L t m).1]∧κ=[(0,[.d])]:=by
 obtain⟨r,B⟩:=W.base
 have hl:=B.len
 refine fb Tryz.func106 Tryz.ntmps106 [.tmp 8] fun w0 I0 F0 hF=>?_
 repeat first|refine n1 ?_|(first|refine rg 0 [0,1,2,3] [0,1,2,3] [] ?_|refine rg 1 [0,1,2,3] [0,1,2,3,26] [(4,21)] ?_);simp[hF]
 cases hv:val L t with
 | false =>
  have hc:dh L t m=(L,1):=by unfold dh;rw[if_pos (by simp[hv])]
  refine(oy L hl t).go [(0,[])] (by simp[hF,dL,hv]) ?_;rintro av X κ ⟨rfl,rfl,rfl⟩;simp[hF,dL,hv]
  repeat first|refine n1 ?_|(first|refine rg 2 [] [8] [] ?_|refine nc ?_);simp[hF]
  (try refine nr ?_);(repeat first|refine aF ?_|refine aG ?_);refine ak.o [8] [0] [(0,[.d])] ?_;simp[hF,an,aa,ah,dL,hc]
 | true =>
  obtain⟨t,rfl,ht⟩:=bD hv
  have hn:=bH ht
  have ec:=aQ ht
  refine(oy L hl t).go [(0,[])] (by simp[hF,dL,hv]) ?_;rintro av X κ ⟨rfl,rfl,rfl⟩;simp[hF,dL,hv]
  cases hk:(val L m&&decide ((ax L m).kind=1)) with
  | false =>
   have hc:dh L t m=(L,1):=by unfold dh;rw[if_pos (by simp[hk])]
   refine(pT L hl m 1).go [(0,[])] (by simp[hF,dL,hk]) ?_;rintro av X κ ⟨rfl,rfl,rfl⟩;simp[hF,dL,hk]
   repeat first|refine n1 ?_|(first|refine rg 2 [] [8] [] ?_|refine nc ?_);simp[hF]
   (try refine nr ?_);(repeat first|refine aF ?_|refine aG ?_);refine ak.o [8] [0] [(0,[.d])] ?_;simp[hF,an,aa,ah,dL,hc]
  | true =>
   have hkm:val L m=true∧(ax L m).kind=1:=by simpa using hk
   have h0:¬(val L t&&(val L m&&decide ((ax L m).kind=1)))=false:=by rw[hv,hk];simp
   obtain⟨m,rfl,hm⟩:=bD hkm.1
   have hlen:L[t].bU.length≤1000:=by
    have hx:L[t]? = some L[t]:=List.getElem?_eq_getElem ht
    have h1:=bk L.length (parents L[t]) (B.np _ _ hx) (fun u hu=>by have:=B.gj _ _ hx u (.inr hu);omega)
    have h2:=bk L.length L[t].bU (B.nb _ _ hx) (fun u hu=>by have:=B.gj _ _ hx u (.inl hu);omega)
    have h3:L[t].ins.length≤(parents L[t]).length:=by simp[parents]
    omega
   refine(pT L hl m 1).go [(0,[])] (by simp[hF,dL,hk]) ?_;rintro av X κ ⟨rfl,rfl,rfl⟩;simp[hF,dL,hk]
   repeat first|refine n1 ?_|refine n2 ?_|(first|refine rg 3 [0,1,2,3] [0,1,2,9] [] ?_|refine nc ?_);simp[hF,dL,hn,ht]
   refine(acQ L t ht).go [(0,[])] (by simp[hF,dL]) ?_;rintro av X κ ⟨rfl,rfl,rfl⟩;simp[hF,dL]
   repeat first|refine n1 ?_|refine rg 4 [0,1,2,9] [0,1,2,9,39] [] ?_;simp[hF,dL,hn,ht]
   refine(iy false L[t].bU m (by omega)).go [] (by simp[hF,dL]) ?_;rintro av X κ ⟨rfl,rfl,rfl⟩;simp[hF,dL]
   cases hd:bh L[t].bU m with
   | true =>
    have hc:dh L t m=(L,7):=by unfold dh;rw[if_neg h0,ec,if_pos hd]
    repeat first|refine n1 ?_|(first|refine rg 5 [] [8] [] ?_|refine nc ?_);simp[hF,hd]
    (try refine nr ?_);(repeat first|refine aF ?_|refine aG ?_);refine ak.o [8] [0] [(0,[.d])] ?_;simp[hF,an,aa,ah,dL,hc]
   | false =>
    have hd':¬bh (ax L t).bU m=true:=by rw[ec,hd];simp
    have va:(aP L m).length≤1000:=dW B hm (W.ord hm)
    repeat first|refine n1 ?_|refine n2 ?_|(first|refine rg 6 [0,1,2,9] [0,1,2,9,10] [] ?_|refine nc ?_);simp[hF,hd]
    by_cases qz:(m:Int)=(t:Int)
    ·have hc:dh L t m=(L,10):=by unfold dh;rw[if_neg h0,if_neg hd',if_pos (.inl qz)]
     refine(oQ W m hm).go [(0,[])] (by simp[hF,dL,qz]) ?_;rintro av X κ ⟨rfl,rfl,rfl⟩;simp[hF,dL,qz]
     repeat first|refine n1 ?_|(first|refine rg 7 [0,1,2,9,10] [0,2,9,53] [(3,49)] ?_|refine rg 8 [] [8] [] ?_|refine nc ?_);simp[hF,qz]
     (try refine nr ?_);(repeat first|refine aF ?_|refine aG ?_);refine ak.o [8] [0] [(0,[.d])] ?_;simp[hF,an,aa,ah,dL,hc]
    ·refine(oQ W m hm).go [(0,[])] (by simp[hF,dL,qz]) ?_;rintro av X κ ⟨rfl,rfl,rfl⟩;simp[hF,dL,qz]
     repeat first|refine n1 ?_|refine rg 7 [0,1,2,9,10] [0,2,9,53] [(3,49)] ?_;simp[hF,qz]
     refine(iy false (aP L m) t (by omega)).go [] (by simp[hF,dL]) ?_;rintro av X κ ⟨rfl,rfl,rfl⟩;simp[hF,dL]
     cases hh:bh (aP L m) t with
     | true =>
      have hc:dh L t m=(L,10):=by unfold dh;rw[if_neg h0,if_neg hd',if_pos (.inr hh)]
      repeat first|refine n1 ?_|(first|refine rg 8 [] [8] [] ?_|refine nc ?_);simp[hF,hh]
      (try refine nr ?_);(repeat first|refine aF ?_|refine aG ?_);refine ak.o [8] [0] [(0,[.d])] ?_;simp[hF,an,aa,ah,dL,hc]
     | false =>
      have h3:¬((m:Int)=t∨bh (aP L m) t=true):=by rw[hh];simp[qz]
      obtain⟨r2,B2⟩:=hB t rfl ht hkm.1 hkm.2 (by rw[ec];exact hd) qz hh
      have CC:=lu ht ((m:Int)::L[t].bU)
      have dB:=iS L t { L[t] with bU:=(m:Int)::L[t].bU }
      have hfl:eu [(true,[(m:Int)]),(false,L[t].bU)]=(m:Int)::L[t].bU:=by simp[eu]
      repeat first|refine n1 ?_|refine n2 ?_|(first|refine rg 9 [0,2,9] [0,2,9,12] [] ?_|refine rg 10 [0,2,9,12] [0,9,12] [] ?_|refine nc ?_);simp[hF,hh,hn,ht]
      refine(pS true [(true,[(m:Int)]),(false,L[t].bU)] (by simp) (by simp[ck]) (by simp[ck];omega)).go [(2,[])] (by simp[hF,rM,sq,dG,hfl,hn,ht,dB]) ?_;rintro av X κ ⟨rfl,rfl,rfl⟩;simp[hF,rM,sq,dG,hfl,hn,ht,dB]
      repeat first|refine n1 ?_|refine n3 ?_|(first|refine rg 11 [0,9,12] [0,9,12,13] [] ?_|refine rg 12 [0,9,12,13] [0,9,12,13,69,70] [] ?_);simp[hF]
      refine VS.lp [(0,[.d])] (by simp[aa,ah]) ?_
      refine VS.pick [0,9,12,13,69,70] [0,3] (by simp[hF]) ?_;simp[hF]
      have hw0:cH L t ((m:Int)::L[t].bU)=cH L (t:Int).toNat ((m:Int)::(ax L t).bU):=by rw[ec];rfl
      rw[ec] at B2
      generalize hL2:cH L t ((m:Int)::L[t].bU)=L2 at *
      have hl2:L2.length=L.length:=by rw[CC];simp
      have ht2:t<L2.length:=by omega
      have Qg:L2[t]={ L[t] with bU:=(m:Int)::L[t].bU }:=by simp[CC]
      have Qh:L2.set t L[t]=L:=by rw[CC,List.set_set,List.set_getElem_self]
      have hn2:=bH ht2
      rw[Qg] at hn2
      have CD:=iS L2 t L[t]
      rw[Qh] at CD
      refine VS.rounds (fun n st=>∃(i:Nat) (M:List (Int×List Int)),i+n=L.length∧fm L2 M∧(∀k:Nat,k<i→∃o,aE L2 k=some o) ∧
       st=⟨[(0,.ptr 0 [.d]),(9,.ptr 0 [.d,.f 0,.i t,.f 4]),(12,.cA 1 (aj L[t].bU) false),(13,.mp 1 []),(69,ag L.length),(70,ag i)],[dL L2,dM M],[(0,[.d])],[]⟩)
       ⟨L.length,0,[],by omega,(fun k o h=>by cases h),(fun k h=>by omega),by simp[dL,dM,CC]⟩ ?_
      rintro n st ⟨i,M,hin,hM,hall,rfl⟩
      repeat first|refine n1 ?_|(first|refine rg 13 [0,9,12,13,69,70] [0,9,12,13,69,70,71] [] ?_|refine nc ?_);simp[hF]
      refine⟨fun hlt=>?_,fun hge=>?_⟩
      ·have hi2:i<L2.length:=by omega
       cases ho:aE L2 i with
       | some o =>
        have hf:=ai.mono (rU B2 i hi2 M hM) (R':=fun av X κ=>∃M,fm L2 M∧av=.cT (.cons (.cA 1 (aj o) false) (.cons (aN true) .nil))∧X=[dL L2,dM M]∧κ=[(1,[.i 0])])
         fun av X κ ⟨M,h1,h2,h3,h4⟩=>⟨M,h1,by rw[ho] at h4;exact h4,h2,h3⟩
        repeat first|refine n1 ?_|refine n2 ?_|refine n3 ?_|(first|refine rg 14 [0,9,12,13,69,70] [0,9,12,13,14,69,70] [] ?_|refine rg 15 [0,9,12,13,14,69,70] [0,9,12,13,16,69,70] [] ?_);simp[hF]
        refine(hf).go [(0,[]),(1,[])] (by simp[hF,dL,dM]) ?_;rintro av X κ ⟨M,hM,rfl,rfl,rfl⟩;simp[hF,dL,dM]
        repeat first|refine n1 ?_|refine n2 ?_|refine n4 ?_|refine n5 ?_|refine n6 ?_|(first|refine rg 16 [0,9,12,13,16,69,70] [0,9,12,13,69,70,81] [] ?_|refine rg 19 [0,9,12,13,69,70] [0,9,12,13,69,70] [] ?_|refine nc ?_);simp[hF]
        refine aO.of [0,9,12,13,69,70] [0,1] (n-1) (by omega) (by simp[hF]) ?_
        refine⟨i+1,M,by omega,hM,fun k hk=>?_,?_⟩
        ·rcases Nat.lt_or_ge k i with h|h
         ·exact hall k h
         ·obtain rfl:k=i:=by omega
          exact⟨o,ho⟩
        ·simp[dL,dM]
         exact IntWalk.i64_in _ (by omega)
       | none =>
        have hc:dh L t m=(L,10):=by
         unfold dh
         rw[if_neg h0,if_neg hd',if_neg h3,←hw0,if_neg]
         intro h
         obtain⟨o,h⟩:=h i (by omega)
         rw[ho] at h;cases h
        have hf:=ai.mono (rU B2 i hi2 M hM) (R':=fun av X κ=>∃M,fm L2 M∧av=.cT (.cons (.bE 1) (.cons (aN false) .nil))∧X=[dL L2,dM M]∧κ=[(1,[.i 0])])
         fun av X κ ⟨M,h1,h2,h3,h4⟩=>⟨M,h1,by rw[ho] at h4;exact h4,h2,h3⟩
        repeat first|refine n1 ?_|refine n2 ?_|refine n3 ?_|(first|refine rg 14 [0,9,12,13,69,70] [0,9,12,13,14,69,70] [] ?_|refine rg 15 [0,9,12,13,14,69,70] [0,9,12,13,16,69,70] [] ?_);simp[hF]
        refine(hf).go [(0,[]),(1,[])] (by simp[hF,dL,dM]) ?_;rintro av X κ ⟨M,hM,rfl,rfl,rfl⟩;simp[hF,dL,dM]
        repeat first|refine n1 ?_|(first|refine rg 16 [0,9,12,13,16,69,70] [0,9,12,13,69,70,81] [] ?_|refine rg 17 [9,12] [] [] ?_|refine rg 18 [] [8] [] ?_|refine nc ?_);simp[hF,dL,hn2,ht2,CD]
        (try refine nr ?_);(repeat first|refine aF ?_|refine aG ?_);refine ak.o [8] [0] [(0,[.d])] ?_;simp[hF,an,aa,ah,dL,hc]
      ·obtain rfl:i=L.length:=by omega
       have hc:dh L t m=(L2,0):=by
        unfold dh
        rw[if_neg h0,if_neg hd',if_neg h3,←hw0,if_pos hall]
       repeat first|refine n1 ?_|refine n7 ?_|refine rg 20 [] [8] [] ?_;simp[hF]
       (try refine nr ?_);(repeat first|refine aF ?_|refine aG ?_);refine ak.o [8] [0] [(0,[.d])] ?_;simp[hF,an,aa,ah,dL,hc]
theorem FV{L:List Th}(W:uw L)(t m:Int)(hB:∀t':Nat,t=t'→t'<L.length→val L m=true→(ax L m).kind=1→bh (ax L t).bU m=false→m≠t→bh (aP L m) t=false→∃r,ez (cH L t' (m::(ax L t).bU)) r) :
  ai Tryz.prog 64 [dL L] (.cons (.ptr 0 [.d]) (.cons (ag t) (.cons (ag m) .nil)))
  fun av X κ=>av=ag (dh L t m).2∧X=[dL (dh L t m).1]∧κ=[(0,[.d])]:=by
 refine fb Tryz.func64 Tryz.ntmps64 [.tmp 6] fun w0 I0 F0 hF=>?_
 repeat first|refine n1 ?_|(first|refine rg 0 [0,1,2] [0,1,2] [] ?_|refine rg 1 [0,1,2] [6] [] ?_);simp[hF]
 refine(Vw W t m hB).go [(0,[])] (by simp[hF,dL]) ?_;rintro av X κ ⟨rfl,rfl,rfl⟩;simp[hF,dL]
 repeat refine n1 ?_
 (try refine nr ?_);(repeat first|refine aF ?_|refine aG ?_);refine ak.o [6] [0] [(0,[.d])] ?_;simp[hF,an,aa,ah,dL]
end Go.Proofs.YtbhigdljojlhnaaGreat

namespace Go.Proofs.YtbhigdljojlhnaaGreat
set_option linter.all false
open Go.Vc Go.Proofs
def gj (x:Th) (u:Int):Prop:=u∈x.bU∨u∈parents x
inductive Reach (L:List Th):Int→Int→Prop
 | refl (t:Int):Reach L t t
 | step {t:Nat} {x:Th} {u v:Int}:L[t]? = some x→gj x u→Reach L u v→Reach L t v
theorem KW{L:List Th}{r:Int→Nat}(B:ez L r){t:Nat}{x:Th}(hx:L[t]? = some x){o:List Int}(h:aE L t=some o) :
  ∃front behind,bn (aE L) x.bU=some front∧bn (aE L) (parents x)=some behind∧o=front++[(t:Int)]++behind.filter fun v=>!bh front v:=by
 rw[nF B hx] at h
 split at h
 ·cases h
 ·rename_i front hf
  split at h
  ·cases h
  ·rename_i behind hb
   cases h
   exact⟨front,behind,hf,hb,rfl⟩
section
variable {L:List Th} (W:uw L)
include W
theorem jx{t:Nat}(ht:t<L.length):(aP L t).Nodup∧(t:Int)∈aP L t∧∀v∈aP L t,0≤v∧v<L.length:=by
 obtain⟨r,B⟩:=W.base
 obtain⟨h1,h2,h3⟩:=jw B ht (W.ord ht)
 exact⟨h1,h2,fun v hv=>⟨(h3 v hv).1,(h3 v hv).2.1⟩⟩
theorem parts{t:Nat}{x:Th}(hx:L[t]? = some x):∃front behind,bn (aE L) x.bU=some front∧bn (aE L) (parents x)=some behind∧aP L t=front++[(t:Int)]++behind.filter fun v=>!bh front v:=by
 obtain⟨r,B⟩:=W.base
 exact KW B hx (W.ord (List.getElem?_eq_some_iff.1 hx).1)
theorem yP{l o:List Int}(h:bn (aE L) l=some o)(hl:l.Nodup)(hv:∀u∈l,0≤u∧u<L.length) :
  o.Nodup∧l.Sublist o∧(∀t∈l,(aP L t).Sublist o)∧∀v∈o,v∈l∨∃t∈l,v∈aP L t:=by
 have ho:∀u∈l,aE L u=some (aP L u):=fun u hu=>by
  have:=hv u hu
  obtain⟨k,rfl⟩:∃k:Nat,u=k:=⟨u.toNat,by omega⟩
  exact W.ord (by omega)
 obtain⟨h1,h2,h3,h4⟩:=mh h hl fun u hu ou hou=>by
  rw[ho u hu] at hou;cases hou
  have:=hv u hu
  obtain⟨k,rfl⟩:∃k:Nat,u=k:=⟨u.toNat,by omega⟩
  exact(jx W (by omega)).1
 refine⟨h1,h2,fun t ht=>?_,fun v hvo=>?_⟩
 ·obtain⟨ot,q1,q2⟩:=h3 t ht
  rw[ho t ht] at q1;cases q1;exact q2
 ·rcases h4 v hvo with h|⟨t,ht,ot,q1,q2⟩
  ·exact .inl h
  ·rw[ho t ht] at q1;cases q1;exact .inr ⟨t,ht,q2⟩
theorem oR{t:Nat}{x:Th}(hx:L[t]? = some x){u:Int}(hu:gj x u):0≤u∧u<L.length:=by
 obtain⟨r,B⟩:=W.base
 have:=B.gj _ _ hx u hu
 exact⟨this.1,this.2.1⟩
theorem CE{t:Nat}{x:Th}(hx:L[t]? = some x)(v:Int):v∈aP L t↔v=t∨∃u,gj x u∧v∈aP L u:=by
 obtain⟨r,B⟩:=W.base
 obtain⟨front,behind,hf,hb,ho⟩:=parts W hx
 obtain⟨f1,f2,f3,f4⟩:=yP W hf (B.nb _ _ hx) (fun u hu=>oR W hx (.inl hu))
 obtain⟨b1,b2,b3,b4⟩:=yP W hb (B.np _ _ hx) (fun u hu=>oR W hx (.inr hu))
 have self:∀u,gj x u→u∈aP L u:=fun u hu=>by
  have:=oR W hx hu
  obtain⟨k,rfl⟩:∃k:Nat,u=k:=⟨u.toNat,by omega⟩
  exact(jx W (by omega)).2.1
 have inF:∀w,w∈front∨w∈behind→w∈aP L t:=fun w hw=>by
  rw[ho]
  by_cases hwf:w∈front
  ·simp[hwf]
  ·have hwb:w∈behind:=hw.resolve_left hwf
   have:bh front w=false:=by
    cases h:bh front w with
    | false=>rfl
    | true=>exact absurd (fk.1 h) hwf
   simp[hwb,this]
 constructor
 ·intro hv
  rw[ho] at hv
  simp only[List.mem_append,List.mem_singleton,List.mem_filter] at hv
  rcases hv with (hv|hv)|⟨hv,_⟩
  ·rcases f4 v hv with h|⟨u,hu,h⟩
   ·exact .inr ⟨v,.inl h,self v (.inl h)⟩
   ·exact .inr ⟨u,.inl hu,h⟩
  ·exact .inl hv
  ·rcases b4 v hv with h|⟨u,hu,h⟩
   ·exact .inr ⟨v,.inr h,self v (.inr h)⟩
   ·exact .inr ⟨u,.inr hu,h⟩
 ·rintro(rfl|⟨u,hu,hv⟩)
  ·rw[ho];simp
  ·rcases hu with hu|hu
   ·exact inF v (.inl ((f3 u hu).subset hv))
   ·exact inF v (.inr ((b3 u hu).subset hv))
end
theorem mQ{L:List Th}{t:Int}{o:List Int}:aE L t=some o↔∃n,iJ n L t=some o:=⟨vF,fun ⟨_,h⟩=>vE h⟩
theorem yQ{L L':List Th}{r:Int→Nat}(B:ez L r)(hs:∀(t:Nat) (x:Th),L[t]? = some x→∃x',L'[t]? = some x'∧x'.bU=x.bU∧parents x'=parents x) :
  ∀(n:Nat) (t:Nat),t<L.length→iJ n L' t=iJ n L t
 | 0,_,_=>rfl
 | n+1,t,ht=>by
  have hx:L[t]? = some L[t]:=List.getElem?_eq_getElem ht
  obtain⟨x',hx',e1,e2⟩:=hs t _ hx
  have hg:∀u,gj L[t] u→iJ n L' u=iJ n L u:=fun u hu=>by
   have:=B.gj _ _ hx u hu
   obtain⟨k,rfl⟩:∃k:Nat,u=k:=⟨u.toNat,by omega⟩
   exact yQ B hs n k (by omega)
  unfold iJ
  simp only[Int.toNat_natCast,hx,hx',e1,e2]
  rw[ga fun u hu=>hg u (.inl hu),ga fun u hu=>hg u (.inr hu)]
theorem nG{L L':List Th}{r:Int→Nat}(B:ez L r)(hs:∀(t:Nat) (x:Th),L[t]? = some x→∃x',L'[t]? = some x'∧x'.bU=x.bU∧parents x'=parents x){t:Nat}(ht:t<L.length):aE L' t=aE L t:=by
 have h:=fun n=>yQ B hs n t ht
 apply Option.ext
 intro o
 rw[mQ,mQ]
 exact⟨fun ⟨n,hn⟩=>⟨n,by rw[←h n];exact hn⟩,fun ⟨n,hn⟩=>⟨n,by rw[h n];exact hn⟩⟩
theorem yR{s:Int}:∀(o:List Int) (f:Nat) (out:List Int) (l2:List Int),o.Nodup→s∈o→l2=[s]→o.length+1<f→ew f [o,l2] out=some (out++o)
 | [],_,_,_,_,h,_,_=>by cases h
 | a::o,0,_,_,_,_,_,hf=>by omega
 | a::o,f+1,out,l2,hn,hs,h2,hf=>by
  subst h2
  have hna:=(List.nodup_cons.1 hn).1
  have Cg:([a::o,[s]]:List (List Int)).filter (fun x=>!gR x)=[a::o,[s]]:=by simp[gR]
  unfold ew
  rw[Cg,if_neg (by simp)]
  have hit:bV [a::o,[s]] a=false:=by
   simp only[bV,List.any_cons,List.tail_cons,List.any_nil,Bool.or_false]
   have:bh o a=false:=by
    cases h:bh o a with
    | false=>rfl
    | true=>exact absurd (fk.1 h) hna
   rw[this];rfl
  have hfind:([a::o,[s]]:List (List Int)).find? (fun x=>!bV [a::o,[s]] (hd x))=some (a::o):=by
   rw[List.find?_cons_of_pos];simp[hd,hit]
  rw[hfind]
  have hha:hd (a::o)=a:=rfl
  have Ce:bz a (a::o)=o:=if_pos hha
  simp only[hha,List.map_cons,List.map_nil,Ce]
  by_cases h:s=a
  ·subst h
   have hd2:bz s [s]=[]:=if_pos (show hd [s]=s from rfl)
   rw[hd2]
   have Qi:∀(p:List Int) (g:Nat) (w:List Int),p.Nodup→p.length<g→ew g [p,[]] w=some (w++p):=by
    intro p
    induction p with
    | nil =>
     intro g w _ hg
     obtain⟨g,rfl⟩:∃g',g=g'+1:=⟨g-1,by omega⟩
     simp[ew,gR]
    | cons b p ih =>
     intro g w hp hg
     obtain⟨g,rfl⟩:∃g',g=g'+1:=⟨g-1,by omega⟩
     have hnb:=(List.nodup_cons.1 hp).1
     have qA:([b::p,[]]:List (List Int)).filter (fun x=>!gR x)=[b::p]:=by simp[gR]
     have afA:bV [b::p] b=false:=by
      simp only[bV,List.any_cons,List.tail_cons,List.any_nil,Bool.or_false]
      cases h:bh p b with
      | false=>rfl
      | true=>exact absurd (fk.1 h) hnb
     unfold ew
     rw[qA,if_neg (by simp)]
     have qR:([b::p]:List (List Int)).find? (fun x=>!bV [b::p] (hd x))=some (b::p):=by
      rw[List.find?_cons_of_pos];simp[hd,afA]
     rw[qR]
     simp only[hd,List.headD_cons,List.map_cons,List.map_nil,bz,if_true,List.tail_cons]
     have hone:∀(q:List Int) (g:Nat) (w:List Int),q.Nodup→q.length<g→ew g [q] w=some (w++q):=by
      intro q
      induction q with
      | nil =>
       intro g w _ hg
       obtain⟨g,rfl⟩:∃g',g=g'+1:=⟨g-1,by omega⟩
       simp[ew,gR]
      | cons c q ih2 =>
       intro g w hq hg
       obtain⟨g,rfl⟩:∃g',g=g'+1:=⟨g-1,by omega⟩
       have hnc:=(List.nodup_cons.1 hq).1
       have hf3:([c::q]:List (List Int)).filter (fun x=>!gR x)=[c::q]:=by simp[gR]
       have afB:bV [c::q] c=false:=by
        simp only[bV,List.any_cons,List.tail_cons,List.any_nil,Bool.or_false]
        cases h:bh q c with
        | false=>rfl
        | true=>exact absurd (fk.1 h) hnc
       unfold ew
       rw[hf3,if_neg (by simp)]
       have Zz:([c::q]:List (List Int)).find? (fun x=>!bV [c::q] (hd x))=some (c::q):=by
        rw[List.find?_cons_of_pos];simp[hd,afB]
       rw[Zz]
       simp only[hd,List.headD_cons,List.map_cons,List.map_nil,bz,if_true,List.tail_cons]
       rw[ih2 g (w++[c]) (List.nodup_cons.1 hq).2 (by simp at hg;omega)]
       simp
     rw[hone p g (w++[b]) (List.nodup_cons.1 hp).2 (by simp at hg;omega)]
     simp
   rw[Qi o f (out++[s]) (List.nodup_cons.1 hn).2 (by simp at hf;omega)]
   simp
  ·have zY:s∈o:=by
    rcases List.mem_cons.1 hs with h'|h'
    ·exact absurd h' h
    ·exact h'
   have hd2:bz a [s]=[s]:=if_neg (show ¬hd [s]=a from h)
   rw[hd2]
   rw[yR o f (out++[a]) [s] (List.nodup_cons.1 hn).2 zY rfl (by simp at hf;omega)]
   simp
theorem CF{o:List Int}{s:Int}(hn:o.Nodup)(hs:s∈o):fJ [o,[s]]=some o:=by
 unfold fJ
 rw[yR o _ [] [s] hn hs rfl (by simp[total])]
 rfl
theorem uy:fJ [[]]=some []:=by
 simp[fJ,ew,total,gR]
end Go.Proofs.YtbhigdljojlhnaaGreat

namespace Go.Proofs.YtbhigdljojlhnaaGreat
set_option linter.all false
open Go.Vc Go.Proofs
structure OK (L:List Th):Prop where
 wf:uw L
 root:∀x,L[0]? = some x→x.kind=0∧x.sup<0
 sup:∀(t:Nat) (x:Th),L[t]? = some x→0≤x.sup→x.sup<L.length∧(ax L x.sup).kind≠1
 ins:∀(t:Nat) (x:Th),L[t]? = some x→∀u,u∈x.ins∨u∈x.bU→(ax L u).kind=1
 own:∀(t:Nat) (x:Th),L[t]? = some x→0≤x.own→x.own<L.length∧(ax L x.own).kind=2 ∧
  (0≤x.sup→0≤(ax L x.sup).own∧(ax L x.own).sup=(ax L x.sup).own)∧(x.sup<0→(ax L x.own).sup=0)
 mod:∀(t:Nat) (x:Th),L[t]? = some x→x.kind=1→x.sup<0
theorem OK.len{L:List Th}(h:OK L):L.length≤1000:=h.wf.base.elim fun _ B=>B.len
theorem lz{L:List Th}{t:Nat}{x:Th}(h:L[t]? = some x):ax L t=x:=by
 obtain⟨h1,h2⟩:=List.getElem?_eq_some_iff.1 h
 rw[aQ h1,h2]
theorem mR{L:List Th}{u:Int}(h0:0≤u)(h1:u<L.length):L[u.toNat]? = some (ax L u):=by
 obtain⟨k,rfl⟩:∃k:Nat,u=k:=⟨u.toNat,by omega⟩
 rw[aQ (by omega)]
 exact List.getElem?_eq_getElem (by omega)
theorem yS:∀(l m:List Int),l.Nodup→(∀x∈l,x∈m)→l.length≤m.length
 | [],_,_,_=>by simp
 | a::l,m,hn,h=>by
  have h1:=yS l (m.erase a) (List.nodup_cons.1 hn).2 fun x hx=>by
   have hne:x≠a:=fun e=>by subst e;exact(List.nodup_cons.1 hn).1 hx
   exact(List.mem_erase_of_ne hne).2 (h x (List.mem_cons_of_mem _ hx))
  have hm:=h a List.mem_cons_self
  rw[List.length_erase_of_mem hm] at h1
  have:=List.length_pos_of_mem hm
  simp only[List.length_cons];omega
noncomputable def rk (L:List Th) (t:Int):Nat:=if val L t=true then (aP L t).length else 0
theorem Yr{L:List Th}{t:Int}(h0:0≤t)(h1:t<L.length):rk L t=(aP L t).length:=by
 unfold rk;rw[if_pos (by simp[val,h0,h1])]
theorem nH{L:List Th}(W:uw L):ez L (rk L):=by
 obtain⟨r,B⟩:=W.base
 refine⟨fun t x hx u hu=>?_,B.nb,B.np,B.len⟩
 have ht:=(List.getElem?_eq_some_iff.1 hx).1
 have hb:=B.gj _ _ hx u hu
 refine⟨hb.1,hb.2.1,?_⟩
 obtain⟨k,rfl⟩:∃k:Nat,u=k:=⟨u.toNat,by omega⟩
 rw[Yr (by omega) (by omega),Yr (by omega) (by omega)]
 obtain⟨h1,h2,h3⟩:=jw B (t:=k) (by omega) (W.ord (by omega))
 have hnt:(t:Int)∉aP L k:=fun hm=>by
  rcases(h3 _ hm).2.2 with h|h
  ·have:=hb.2.2
   rw[h] at this;omega
  ·have:=hb.2.2
   omega
 have:=yS ((t:Int)::aP L k) (aP L t) (List.nodup_cons.2 ⟨hnt,h1⟩) fun v hv=>by
  rcases List.mem_cons.1 hv with rfl|hv
  ·exact(jx W ht).2.1
  ·exact(CE W hx v).2 (.inr ⟨k,hu,hv⟩)
 simp only[List.length_cons] at this;omega
theorem CG{L:List Th}(W:uw L)(t:Int):rk L t≤1000:=by
 unfold rk
 split
 ·rename_i h
  obtain⟨k,rfl,hk⟩:=bD h
  obtain⟨r,B⟩:=W.base
  exact dW B hk (W.ord hk)
 ·omega
theorem OK.ZA{L:List Th}(h:OK L):Zw L (rk L):=by
 refine⟨fun t x hx h0=>?_,h.len⟩
 have:=(nH h.wf).gj _ _ hx x.sup (.inr (by simp[parents,h0]))
 exact⟨this.2.1,this.2.2⟩
theorem Kb{L M:List Th}(h:OK L)(hl:M.length=L.length)(hs:∀(t:Nat) (x:Th),L[t]? = some x→∃x',M[t]? = some x'∧x'.bU=x.bU∧x'.ins=x.ins∧x'.sup=x.sup∧x'.kind=x.kind){x:Th}(hb:x.bU=[])(hi:x.ins=[])
  (hroom:L.length+1≤1000) (FW:0≤x.sup→x.sup<L.length):uw (M++[x])∧∀t:Nat,t<L.length→aE (M++[x]) t=aE L t:=by
 have B:=nH h.wf
 have hsame:∀(t:Nat) (y:Th),L[t]? = some y→∃y',(M++[x])[t]? = some y'∧y'.bU=y.bU∧parents y'=parents y:=fun t y hy=>by
  obtain⟨y',e1,e2,e3,e4,_⟩:=hs t y hy
  refine⟨y',?_,e2,by simp only[parents,e3,e4]⟩
  rw[List.getElem?_append_left (List.getElem?_eq_some_iff.1 e1).1];exact e1
 have iK:∀t:Nat,t<L.length→aE (M++[x]) t=aE L t:=fun t ht=>nG B hsame ht
 have hnew:(M++[x])[L.length]? = some x:=by rw[←hl];simp
 have kr:∀(t:Nat) (y:Th),(M++[x])[t]? = some y→(t<L.length∧∃z,L[t]? = some z∧y.bU=z.bU∧parents y=parents z)∨(t=L.length∧y=x):=fun t y hy=>by
  rcases Nat.lt_or_ge t L.length with ht|ht
  ·obtain⟨y',e1,e2,e3⟩:=hsame t _ (List.getElem?_eq_getElem ht)
   rw[hy] at e1;cases e1
   exact .inl ⟨ht,_,List.getElem?_eq_getElem ht,e2,e3⟩
  ·have h1:=(List.getElem?_eq_some_iff.1 hy).1
   simp only[List.length_append,List.length_singleton] at h1
   obtain rfl:t=L.length:=by omega
   rw[hnew] at hy
   exact .inr ⟨rfl,(Option.some.inj hy).symm⟩
 let r':Int→Nat:=fun u=>if u=L.length then 1001 else rk L u
 have hr':∀u:Int,0≤u→u<L.length→r' u=rk L u:=fun u h0 h1=>by simp only[r'];rw[if_neg (by omega)]
 have B':ez (M++[x]) r':=by
  refine⟨fun t y hy u hu=>?_,fun t y hy=>?_,fun t y hy=>?_,by simp;omega⟩
  ·rcases kr t y hy with ⟨ht,z,hz,e1,e2⟩|⟨rfl,rfl⟩
   ·have:=B.gj t z hz u (by rw[←e1,←e2];exact hu)
    refine⟨this.1,by simp;omega,?_⟩
    rw[hr' u this.1 this.2.1,hr' t (by omega) (by omega)]
    exact this.2.2
   ·have hu':u=y.sup∧0≤y.sup:=by
     rcases hu with hu|hu
     ·rw[hb] at hu;cases hu
     ·simp only[parents,hi,List.nil_append] at hu
      split at hu
      ·rename_i h0;exact⟨by simpa using hu,h0⟩
      ·cases hu
    obtain⟨rfl,h0⟩:=hu'
    have h1:=FW h0
    refine⟨h0,by simp;omega,?_⟩
    rw[hr' _ h0 h1]
    have:=CG h.wf y.sup
    simp only[r',if_true];omega
  ·rcases kr t y hy with ⟨ht,z,hz,e1,e2⟩|⟨rfl,rfl⟩
   ·rw[e1];exact B.nb t z hz
   ·rw[hb];exact List.nodup_nil
  ·rcases kr t y hy with ⟨ht,z,hz,e1,e2⟩|⟨rfl,rfl⟩
   ·rw[e2];exact B.np t z hz
   ·simp only[parents,hi,List.nil_append];split<;>simp
 refine⟨⟨⟨r',B'⟩,fun t ht=>?_⟩,iK⟩
 simp only[List.length_append,List.length_singleton] at ht
 rcases Nat.lt_or_ge t L.length with h1|h1
 ·rw[iK t h1];exact h.wf.full t h1
 ·obtain rfl:t=L.length:=by omega
  rw[nF B' hnew,hb]
  have e1:bn (aE (M++[x])) []=some []:=by
   show fJ ([]++[[]])=some []
   exact uy
  rw[e1]
  simp only
  by_cases h0:0≤x.sup
  ·have h1:=FW h0
   obtain⟨k,hk⟩:∃k:Nat,x.sup=k:=⟨x.sup.toNat,by omega⟩
   have mc:k<L.length:=by omega
   have hp:parents x=[(k:Int)]:=by simp[parents,hi,h0,hk]
   have hok:=h.wf.ord mc
   obtain⟨s1,s2,_⟩:=jx h.wf mc
   have e2:bn (aE (M++[x])) [(k:Int)]=some (aP L k):=by
    unfold bn bC
    rw[iK k mc,hok]
    show fJ [aP L k,[(k:Int)]]=_
    exact CF s1 s2
   rw[hp,e2]
   exact⟨_,rfl⟩
  ·have hp:parents x=[]:=by simp[parents,hi,h0]
   rw[hp,e1]
   exact⟨_,rfl⟩
theorem vL{L:List Th}(h:OK L)(hpos:0<L.length){k s o:Int}(hroom:L.length+1≤1000)(hs:0≤s→s<L.length∧(ax L s).kind≠1)(hk:k=1→s<0) :
  OK (L++[aU k s o])∧∀t:Nat,t<L.length→aE (L++[aU k s o]) t=aE L t:=by
 obtain⟨W,iK⟩:=Kb h rfl (fun t x hx=>⟨x,hx,rfl,rfl,rfl,rfl⟩) (x:=aU k s o) rfl rfl hroom (fun h0=>(hs h0).1)
 have ec:∀u:Int,0≤u→u<L.length→ax (L++[aU k s o]) u=ax L u:=fun u h0 h1=>by
  obtain⟨j,rfl⟩:∃j:Nat,u=j:=⟨u.toNat,by omega⟩
  rw[aQ (L:=L) (by omega),aQ (L:=L++[aU k s o]) (by simp;omega),List.getElem_append_left]
 have kr:∀(t:Nat) (y:Th),(L++[aU k s o])[t]? = some y→(t<L.length∧L[t]? = some y)∨(t=L.length∧y=aU k s o):=fun t y hy=>by
  rcases Nat.lt_or_ge t L.length with ht|ht
  ·rw[List.getElem?_append_left ht] at hy;exact .inl ⟨ht,hy⟩
  ·have h1:=(List.getElem?_eq_some_iff.1 hy).1
   simp only[List.length_append,List.length_singleton] at h1
   obtain rfl:t=L.length:=by omega
   simp at hy
   exact .inr ⟨rfl,hy.symm⟩
 have hval:∀(t:Nat) (y:Th),L[t]? = some y→∀u,u∈y.ins∨u∈y.bU→0≤u∧u<L.length:=fun t y hy u hu=>oR h.wf hy (by
  rcases hu with hu|hu
  ·exact .inr (by simp[parents,hu])
  ·exact .inl hu)
 refine⟨⟨W,fun x hx=>?_,fun t x hx h0=>?_,fun t x hx u hu=>?_,fun t x hx h0=>?_,fun t x hx h1=>?_⟩,iK⟩
 ·rcases kr 0 x hx with ⟨_,hx⟩|⟨h0,_⟩
  ·exact h.root x hx
  ·omega
 ·rcases kr t x hx with ⟨_,hx⟩|⟨_,rfl⟩
  ·have:=h.sup t x hx h0
   exact⟨by simp;omega,by rw[ec _ h0 this.1];exact this.2⟩
  ·have h0':0≤s:=h0
   have:=hs h0'
   exact⟨by simp[aU];omega,by rw[show (aU k s o).sup=s from rfl,ec s h0' this.1];exact this.2⟩
 ·rcases kr t x hx with ⟨_,hx⟩|⟨_,rfl⟩
  ·have hv:=hval t x hx u hu
   rw[ec u hv.1 hv.2];exact h.ins t x hx u hu
  ·rcases hu with hu|hu<;>cases hu
 ·rcases kr t x hx with ⟨_,hx⟩|⟨_,rfl⟩
  ·obtain⟨q1,q2,q3,q4⟩:=h.own t x hx h0
   refine⟨by simp;omega,by rw[ec _ h0 q1];exact q2,fun h1=>?_,fun h1=>?_⟩
   ·have hsv:=(h.sup t x hx h1).1
    rw[ec _ h1 hsv,ec _ h0 q1];exact q3 h1
   ·rw[ec _ h0 q1];exact q4 h1
  ·simp only[aU] at h0;omega
 ·rcases kr t x hx with ⟨_,hx⟩|⟨_,rfl⟩
  ·exact h.mod t x hx h1
  ·exact hk h1
theorem yT:OK L0:=by
 have hx:∀(t:Nat) (x:Th),L0[t]? = some x→t=0∧x=⟨0,-1,-1,-1,[],[]⟩:=fun t x h=>by
  cases t with
  | zero=>simp[L0] at h;exact⟨rfl,h.symm⟩
  | succ t=>simp[L0] at h
 have B:ez L0 (fun _=>0):=⟨fun t x h u hu=>by obtain⟨rfl,rfl⟩:=hx t x h;simp[parents] at hu,fun t x h=>by obtain⟨rfl,rfl⟩:=hx t x h;simp,fun t x h=>by obtain⟨rfl,rfl⟩:=hx t x h;simp[parents],by simp[L0]⟩
 refine⟨⟨⟨_,B⟩,fun t ht=>?_⟩,fun x h=>?_,fun t x h h0=>?_,fun t x h u hu=>?_,fun t x h h0=>?_,fun t x h h1=>?_⟩
 ·have ZB:t=0:=by simp[L0] at ht;exact ht
  subst ZB
  refine⟨[0],vE (n:=1) ?_⟩
  unfold iJ
  simp only[L0]
  have e1:∀g,bn g []=some []:=fun g=>by
   show fJ ([]++[[]])=some []
   exact uy
  simp[e1,parents]
 ·obtain⟨_,rfl⟩:=hx 0 x h;exact⟨rfl,by decide⟩
 ·obtain⟨_,rfl⟩:=hx t x h;simp at h0
 ·obtain⟨_,rfl⟩:=hx t x h;simp at hu
 ·obtain⟨_,rfl⟩:=hx t x h;simp at h0
 ·obtain⟨_,rfl⟩:=hx t x h;simp at h1
end Go.Proofs.YtbhigdljojlhnaaGreat

namespace Go.Proofs.YtbhigdljojlhnaaGreat
set_option linter.all false
open Go.Vc Go.Proofs
set_option maxRecDepth 100000
set_option maxHeartbeats 4000000
attribute [local irreducible] bx jv
theorem K4{L:List Th}{i:Nat}(h:i<L.length):(ie L).br i (.agg (.cons (.val (.int .i64 L[i].kind)) (.cons (.val (.int .i64 L[i].sup)) (.cons (.val (.int .i64 L[i].obj)) (.cons (.val (.int .i64 L[i].own)) (.cons (.sl false () 1 (aj L[i].bU)) (.cons (.sl false () 1 (aj L[i].ins)) .nil)))))))=ie L:=by
 rw[iS,List.set_getElem_self]
theorem VN(L:List Th)(hl:L.length≤1000)(hp:0<L.length):ai Tryz.prog 95 [dL L] (.cons (.sub 0 [.d,.f 0] 0 L.length false) .nil)
  fun av X κ=>av=.sub 1 [] 0 L.length false∧X=[dL L,.sl true () 6 (ie L)]∧κ=[]:=by
 have hz:¬L.length=0:=by omega
 refine fb Tryz.func95 Tryz.ntmps95 [.tmp 2] fun w0 I0 F0 hF=>?_
 repeat first|refine n1 ?_|refine n2 ?_|refine⟨⟨by omega,by omega⟩,?_⟩|(first|refine rg 0 [0] [0] [] ?_|refine rg 1 [0] [0,4] [] ?_|refine rg 3 [0] [2] [] ?_|refine nc ?_);simp[hF,dL,hz]
 (try refine nr ?_);(repeat first|refine aF ?_|refine aG ?_);refine ak.o [2] [0,1] [] ?_;simp[hF,an,aa,ah,dL]
theorem VO{L:List Th}(h:OK L)(hp:0<L.length):ai Tryz.prog 48 [dL L] (.cons (.ptr 0 [.d]) .nil)
  fun av X κ=>av=.ptr 1 [.d]∧X=[dL L,dL L]∧κ=[]:=by
 have hl:=h.len
 have hz:¬L.length=0:=by omega
 refine fb Tryz.func48 Tryz.ntmps48 [.tmp 2] fun w0 I0 F0 hF=>?_
 repeat first|refine n1 ?_|(first|refine rg 0 [0] [0] [] ?_|refine rg 1 [0] [0,7] [] ?_);simp[hF]
 refine(vI L hl).go [(0,[])] (by simp[hF,dL,hz]) ?_;rintro av X κ ⟨rfl,rfl,rfl⟩;simp[hF,dL,hz]
 repeat first|refine n1 ?_|refine n2 ?_|(first|refine rg 3 [0] [3] [] ?_|refine nc ?_);simp[hF,dL]
 refine(VN L hl hp).go [(0,[])] (by simp[hF,dL]) ?_;rintro av X κ ⟨rfl,rfl,rfl⟩;simp[hF,dL]
 repeat first|refine n1 ?_|refine n3 ?_|refine rg 4 [3] [3,19,20] [] ?_;simp[hF]
 refine VS.pick [3,19,20] [0,2] (by simp[hF]) ?_;simp[hF]
 refine VS.rounds (fun m st=>∃(i:Nat),i+m=L.length∧st=⟨[(3,.ptr 1 [.d]),(19,ag L.length),(20,ag i)],[dL L,dL L],[],[]⟩) ⟨L.length,0,by omega,by simp[dL]⟩ ?_
 rintro m st ⟨i,hi,rfl⟩
 repeat first|refine n1 ?_|(first|refine rg 5 [3,19,20] [3,19,20,21] [] ?_|refine nc ?_);simp[hF]
 refine⟨fun hlt=>?_,fun hge=>?_⟩
 ·have hil:i<L.length:=by omega
  have hn:=bH hil
  have dB:=K4 hil
  obtain⟨B,Cf,zU⟩:∃B:Nat,L[i].bU.length≤B∧L[i].ins.length≤B∧B≤1000:=by
   obtain⟨r,B⟩:=h.wf.base
   have hx:L[i]? = some L[i]:=List.getElem?_eq_getElem hil
   have h1:=bk L.length (parents L[i]) (B.np _ _ hx) (fun u hu=>by have:=B.gj _ _ hx u (.inr hu);omega)
   have h2:=bk L.length L[i].bU (B.nb _ _ hx) (fun u hu=>by have:=B.gj _ _ hx u (.inl hu);omega)
   have h3:L[i].ins.length≤(parents L[i]).length:=by simp[parents]
   exact⟨1000,by omega,by omega,by omega⟩
  repeat first|refine n1 ?_|refine n2 ?_|refine n3 ?_|(first|refine rg 6 [3,19,20] [3,4,19,20] [] ?_|(refine dr 7 8192 [3,4,19,20] [3,4,19,20] [] [⟨0,8,8388608,5⟩,⟨1,8388608,16777216,5⟩,⟨2,16777216,33554432,5⟩,⟨4,33554432,67108864,6⟩,⟨0,16,134217728,5⟩,⟨0,8,268435456,5⟩,⟨32,268435456,536870912,5⟩,⟨64,536870912,1073741824,5⟩,⟨128,1073741824,2147483648,6⟩,⟨0,16,4294967296,5⟩,⟨768,6442450944,8589934592,5⟩,⟨1024,8589934592,17179869184,5⟩,⟨2048,17179869184,34359738368,6⟩,⟨4096,34359738368,68719476736,0⟩,⟨16383,201326592,137438953472,5⟩,⟨32767,137438953472,274877906944,5⟩,⟨49151,343597383680,0,0⟩] (.take 0 (.take 1 (.take 2 (.take 3 (.take 4 (.take 5 (.take 6 (.take 7 (.take 8 (.take 9 (.take 10 (.take 11 (.take 12 (.fork (.alt 13 (.take 14 (.take 15 (.fork (.alt 16 (.done) (.nil))))) (.nil)))))))))))))))) (.run [0,1,2,3,4,5,6,7,8,9,10,11,12] (.eS 13 (.run [13,14,15,16] (.done)))) ?_;simp only[nD]));simp[hF,dL,hn,hil]
  refine(tA false L[i].bU (by omega)).go [] (by simp[hF,dL,hn,hil,dB]) ?_;rintro av X κ ⟨rfl,rfl,rfl⟩;simp[hF,dL,hn,hil,dB]
  repeat first|(((refine dr 8 8192 [3,4,19,20] [3,19,20] [] [⟨0,8,549755813888,5⟩,⟨1,549755813888,1099511627776,5⟩,⟨2,1099511627776,2199023255552,5⟩,⟨4,2199023255552,4398046511104,6⟩,⟨0,16,8796093022208,5⟩,⟨0,8,17592186044416,5⟩,⟨32,17592186044416,35184372088832,5⟩,⟨64,35184372088832,70368744177664,5⟩,⟨128,70368744177664,140737488355328,6⟩,⟨0,16,281474976710656,5⟩,⟨768,422212465065984,562949953421312,5⟩,⟨1024,562949953421312,1125899906842624,5⟩,⟨2048,1125899906842624,2251799813685248,6⟩,⟨4096,2251799813685248,4503599627370496,0⟩,⟨16383,13194139533312,9007199254740992,5⟩,⟨32767,9007199254740992,18014398509481984,5⟩,⟨49151,22517998136852480,0,0⟩] (.take 0 (.take 1 (.take 2 (.take 3 (.take 4 (.take 5 (.take 6 (.take 7 (.take 8 (.take 9 (.take 10 (.take 11 (.take 12 (.fork (.alt 13 (.take 14 (.take 15 (.fork (.alt 16 (.done) (.nil))))) (.nil)))))))))))))))) (.run [0,1,2,3,4,5,6,7,8,9,10,11,12] (.eS 13 (.run [13,14,15,16] (.done)))) ?_;simp only[nD]));simp[hF,dL,hn,hil,dB])
  refine(tA false L[i].ins (by omega)).go [] (by simp[hF,dL,hn,hil,dB]) ?_;rintro av X κ ⟨rfl,rfl,rfl⟩;simp[hF,dL,hn,hil,dB]
  repeat first|refine n4 ?_|refine n5 ?_|refine n6 ?_|refine rg 9 [3,19,20] [3,19,20] [] ?_;simp[hF,dB]
  refine aO.of [3,19,20] [0,1] (m-1) (by omega) (by simp[hF]) ?_
  refine⟨i+1,by omega,?_⟩
  simp[dL]
  exact IntWalk.i64_in _ (by omega)
 ·repeat first|refine n1 ?_|refine n7 ?_|refine rg 10 [3] [2] [] ?_;simp[hF]
  (try refine nr ?_);(repeat first|refine aF ?_|refine aG ?_);refine ak.o [2] [0,1] [] ?_;simp[hF,an,aa,ah,dL]
end Go.Proofs.YtbhigdljojlhnaaGreat

namespace Go.Proofs.YtbhigdljojlhnaaGreat
set_option linter.all false
open Go.Vc Go.Proofs
theorem CH{L:List Th}(h:OK L){t:Nat}{x x':Th}(hx:L[t]? = some x){m:Int}(hm0:0≤m)(uq:m<L.length)(hh:bh (aP L m) t=false)
  (he:∀u,gj x' u→u=m∨gj x u) (hnb:x'.bU.Nodup) (hnp:(parents x').Nodup):∃r,ez (L.set t x') r:=by
 have B:=nH h.wf
 have ht:=(List.getElem?_eq_some_iff.1 hx).1
 obtain⟨m,rfl⟩:∃k:Nat,m=k:=⟨m.toNat,by omega⟩
 let r':Int→Nat:=fun u=>rk L u+if bh (aP L u) t=true then rk L m+1 else 0
 have key:∀(k:Nat) (y:Th),L[k]? = some y→∀u,gj y u→r' u<r' k:=fun k y hy u hu=>by
  have hb:=B.gj _ _ hy u hu
  simp only[r']
  by_cases hc:bh (aP L u) t=true
  ·have hk:bh (aP L k) t=true:=fk.2 ((CE h.wf hy _).2 (.inr ⟨u,hu,fk.1 hc⟩))
   rw[if_pos hc,if_pos hk];have:=hb.2.2;omega
  ·rw[if_neg hc];have:=hb.2.2;omega
 have kr:∀(k:Nat) (y:Th),(L.set t x')[k]? = some y→(k=t∧y=x')∨(k≠t∧L[k]? = some y):=fun k y hy=>by
  by_cases e:t=k
  ·subst e
   rw[List.getElem?_set_self ht] at hy
   exact .inl ⟨rfl,(Option.some.inj hy).symm⟩
  ·rw[List.getElem?_set_ne e] at hy;exact .inr ⟨fun h=>e h.symm,hy⟩
 refine⟨r',fun k y hy u hu=>?_,fun k y hy=>?_,fun k y hy=>?_,by simpa using B.len⟩
 ·rw[List.length_set]
  rcases kr k y hy with ⟨rfl,rfl⟩|⟨_,hy⟩
  ·rcases he u hu with rfl|hu
   ·refine⟨by omega,by omega,?_⟩
    have hkk:bh (aP L k) k=true:=fk.2 (jx h.wf ht).2.1
    simp only[r']
    rw[if_neg (by rw[hh];simp),if_pos hkk];omega
   ·have:=B.gj _ _ hx u hu
    exact⟨this.1,this.2.1,key _ _ hx u hu⟩
  ·have:=B.gj _ _ hy u hu
   exact⟨this.1,this.2.1,key _ _ hy u hu⟩
 ·rcases kr k y hy with ⟨rfl,rfl⟩|⟨_,hy⟩
  ·exact hnb
  ·exact B.nb _ _ hy
 ·rcases kr k y hy with ⟨rfl,rfl⟩|⟨_,hy⟩
  ·exact hnp
  ·exact B.np _ _ hy
theorem Qj{L:List Th}(h:OK L){t:Nat}{x x':Th}(hx:L[t]? = some x){m:Int}(hmk:(ax L m).kind=1)(hk:x'.kind=x.kind)(hs:x'.sup=x.sup)(ho:x'.own=x.own)
  (hi:∀u,u∈x'.ins∨u∈x'.bU→u=m∨(u∈x.ins∨u∈x.bU)) (W:uw (L.set t x')):OK (L.set t x'):=by
 have ht:=(List.getElem?_eq_some_iff.1 hx).1
 have ec:∀u:Int,(ax (L.set t x') u).kind=(ax L u).kind∧(ax (L.set t x') u).sup=(ax L u).sup∧(ax (L.set t x') u).own=(ax L u).own:=fun u=>by
  unfold ax
  rw[List.getD_eq_getElem?_getD,List.getD_eq_getElem?_getD]
  by_cases e:t=u.toNat
  ·rw[←e,List.getElem?_set_self ht,hx];exact⟨hk,hs,ho⟩
  ·rw[List.getElem?_set_ne e];exact⟨rfl,rfl,rfl⟩
 have kr:∀(k:Nat) (y:Th),(L.set t x')[k]? = some y→∃z,L[k]? = some z∧y.kind=z.kind∧y.sup=z.sup∧y.own=z.own∧∀u,u∈y.ins∨u∈y.bU→u=m∨(u∈z.ins∨u∈z.bU):=fun k y hy=>by
  by_cases e:t=k
  ·subst e
   rw[List.getElem?_set_self ht] at hy
   cases hy
   exact⟨x,hx,hk,hs,ho,hi⟩
  ·rw[List.getElem?_set_ne e] at hy;exact⟨y,hy,rfl,rfl,rfl,fun u hu=>.inr hu⟩
 refine⟨W,fun y hy=>?_,fun k y hy h0=>?_,fun k y hy u hu=>?_,fun k y hy h0=>?_,fun k y hy h1=>?_⟩
 ·obtain⟨z,hz,e1,e2,_⟩:=kr 0 y hy
  rw[e1,e2];exact h.root z hz
 ·obtain⟨z,hz,e1,e2,e3,_⟩:=kr k y hy
  rw[List.length_set,e2,(ec _).1]
  exact h.sup k z hz (by rw[←e2];exact h0)
 ·obtain⟨z,hz,e1,e2,e3,e4⟩:=kr k y hy
  rw[(ec u).1]
  rcases e4 u hu with rfl|hu
  ·exact hmk
  ·exact h.ins k z hz u hu
 ·obtain⟨z,hz,e1,e2,e3,e4⟩:=kr k y hy
  rw[List.length_set,e2,e3,(ec _).1,(ec _).2.1,(ec _).2.2]
  exact h.own k z hz (by rw[←e3];exact h0)
 ·obtain⟨z,hz,e1,e2,e3,e4⟩:=kr k y hy
  rw[e2];exact h.mod k z hz (by rw[←e1];exact h1)
theorem Qk{L:List Th}(h:OK L)(hpos:0<L.length){t:Nat}{x:Th}(hx:L[t]? = some x)(hroom:L.length+1≤1000)(hno:x.own<0){w:Int}(hk2:x.kind≠2∨True)
  (hw:(0≤x.sup→w=(ax L x.sup).own∧0≤w)∧(x.sup<0→w=0)) :
  OK ((L++[aU 2 w (-1)]).set t { x with own:=(L.length:Int) })∧∀k:Nat,k<L.length→aE ((L++[aU 2 w (-1)]).set t { x with own:=(L.length:Int) }) k=aE L k:=by
 have ht:=(List.getElem?_eq_some_iff.1 hx).1
 have hwv:0≤w∧w<L.length∧(ax L w).kind≠1:=by
  by_cases h0:0≤x.sup
  ·obtain⟨q1,q2⟩:=hw.1 h0
   have hs:=(h.sup t x hx h0).1
   obtain⟨o1,o2,_⟩:=h.own _ _ (mR h0 hs) (by rw[←q1];exact q2)
   rw[←q1] at o1 o2
   exact⟨q2,o1,by rw[o2];decide⟩
  ·have:=hw.2 (by omega)
   subst this
   have hr:=h.root _ (List.getElem?_eq_getElem hpos)
   refine⟨by omega,by omega,?_⟩
   have:ax L 0=L[0]:=aQ (t:=0) hpos
   rw[this,hr.1];decide
 have dB:(L++[aU 2 w (-1)]).set t { x with own:=(L.length:Int) }=L.set t { x with own:=(L.length:Int) }++[aU 2 w (-1)]:=List.set_append_left _ _ ht
 rw[dB]
 have hM:∀(k:Nat) (y:Th),L[k]? = some y→∃y',(L.set t { x with own:=(L.length:Int) })[k]? = some y'∧y'.bU=y.bU∧y'.ins=y.ins∧y'.sup=y.sup∧y'.kind=y.kind:=fun k y hy=>by
  by_cases e:t=k
  ·subst e
   rw[hx] at hy;cases hy
   exact⟨_,List.getElem?_set_self ht,rfl,rfl,rfl,rfl⟩
  ·exact⟨y,by rw[List.getElem?_set_ne e];exact hy,rfl,rfl,rfl,rfl⟩
 obtain⟨W,iK⟩:=Kb h (M:=L.set t { x with own:=(L.length:Int) }) (by simp) hM (x:=aU 2 w (-1)) rfl rfl hroom (fun _=>hwv.2.1)
 refine⟨?_,iK⟩
 have ec:∀u:Int,0≤u→u<L.length→ax (L.set t { x with own:=(L.length:Int) }++[aU 2 w (-1)]) u=if u=t then { x with own:=(L.length:Int) } else ax L u:=fun u h0 h1=>by
  obtain⟨j,rfl⟩:∃j:Nat,u=j:=⟨u.toNat,by omega⟩
  rw[aQ (L:=L.set t { x with own:=(L.length:Int) }++[aU 2 w (-1)]) (by simp;omega),List.getElem_append_left (by simp;omega)]
  by_cases e:t=j
  ·subst e;simp
  ·rw[List.getElem_set_ne e,if_neg (by omega),aQ (by omega)]
 have Ql:∀u:Int,0≤u→u<L.length→(ax (L.set t { x with own:=(L.length:Int) }++[aU 2 w (-1)]) u).kind=(ax L u).kind∧(ax (L.set t { x with own:=(L.length:Int) }++[aU 2 w (-1)]) u).sup=(ax L u).sup:=fun u h0 h1=>by
  rw[ec u h0 h1]
  split
  ·rename_i e;subst e;rw[lz hx];exact⟨rfl,rfl⟩
  ·exact⟨rfl,rfl⟩
 have hnew:ax (L.set t { x with own:=(L.length:Int) }++[aU 2 w (-1)]) L.length=aU 2 w (-1):=by
  rw[aQ (by simp)]
  rw[List.getElem_append_right (by simp)];simp
 have kr:∀(k:Nat) (y:Th),(L.set t { x with own:=(L.length:Int) }++[aU 2 w (-1)])[k]? = some y→(k<L.length∧∃z,L[k]? = some z∧y.kind=z.kind∧y.sup=z.sup∧y.ins=z.ins∧y.bU=z.bU∧((y.own=z.own∧k≠t)∨(k=t∧z=x∧y.own=L.length)))∨(k=L.length∧y=aU 2 w (-1)):=fun k y hy=>by
  rcases Nat.lt_or_ge k L.length with hk|hk
  ·rw[List.getElem?_append_left (by simpa using hk)] at hy
   refine .inl ⟨hk,?_⟩
   by_cases e:t=k
   ·subst e
    rw[List.getElem?_set_self ht] at hy
    cases hy
    exact⟨x,hx,rfl,rfl,rfl,rfl,.inr ⟨rfl,rfl,rfl⟩⟩
   ·rw[List.getElem?_set_ne e] at hy
    exact⟨y,hy,rfl,rfl,rfl,rfl,.inl ⟨rfl,fun h=>e h.symm⟩⟩
  ·have h1:=(List.getElem?_eq_some_iff.1 hy).1
   simp only[List.length_append,List.length_set,List.length_singleton] at h1
   obtain rfl:k=L.length:=by omega
   rw[List.getElem?_append_right (by simp)] at hy
   simp at hy
   exact .inr ⟨rfl,hy.symm⟩
 have hlen:((L.set t { x with own:=(L.length:Int) }++[aU 2 w (-1)]).length:Int)=L.length+1:=by simp
 refine⟨W,fun y hy=>?_,fun k y hy h0=>?_,fun k y hy u hu=>?_,fun k y hy h0=>?_,fun k y hy h1=>?_⟩
 ·rcases kr 0 y hy with ⟨_,z,hz,e1,e2,_⟩|⟨h0,_⟩
  ·rw[e1,e2];exact h.root z hz
  ·omega
 ·rcases kr k y hy with ⟨_,z,hz,e1,e2,_⟩|⟨_,rfl⟩
  ·have:=h.sup k z hz (by rw[←e2];exact h0)
   rw[hlen,e2,(Ql _ (by rw[←e2];exact h0) this.1).1]
   exact⟨by omega,this.2⟩
  ·rw[hlen,show (aU 2 w (-1)).sup=w from rfl,(Ql w hwv.1 hwv.2.1).1]
   exact⟨by omega,hwv.2.2⟩
 ·rcases kr k y hy with ⟨_,z,hz,e1,e2,e3,e4,_⟩|⟨_,rfl⟩
  ·rw[e3,e4] at hu
   have hv:=oR h.wf hz (u:=u) (by
    rcases hu with hu|hu
    ·exact .inr (by simp[parents,hu])
    ·exact .inl hu)
   rw[(Ql u hv.1 hv.2).1];exact h.ins k z hz u hu
  ·rcases hu with hu|hu<;>cases hu
 ·rcases kr k y hy with ⟨_,z,hz,e1,e2,e3,e4,e5⟩|⟨_,rfl⟩
  ·rcases e5 with ⟨e5,hkt⟩|⟨rfl,rfl,e5⟩
   ·rw[e5] at h0 ⊢
    obtain⟨q1,q2,q3,q4⟩:=h.own k z hz h0
    rw[hlen,(Ql _ h0 q1).1,(Ql _ h0 q1).2,e2]
    refine⟨by omega,q2,fun hs=>?_,q4⟩
    obtain⟨p1,p2⟩:=q3 hs
    have hsv:=(h.sup k z hz hs).1
    rw[ec _ hs hsv]
    split
    ·rename_i e
     rw[e,lz hx] at p1;omega
    ·exact⟨p1,p2⟩
   ·rw[e5,hlen,hnew,e2]
    refine⟨by omega,rfl,fun hs=>?_,fun hs=>?_⟩
    ·obtain⟨p1,p2⟩:=hw.1 hs
     have hsv:=(h.sup k z hx hs).1
     have hne:z.sup≠k:=fun e=>by
      rw[e,lz hx] at p1;omega
     rw[ec _ hs hsv,if_neg hne,←p1]
     exact⟨p2,rfl⟩
    ·exact hw.2 hs
  ·simp only[aU] at h0;omega
 ·rcases kr k y hy with ⟨_,z,hz,e1,e2,_⟩|⟨_,rfl⟩
  ·rw[e2];exact h.mod k z hz (by rw[←e1];exact h1)
  ·simp[aU] at h1
def afD (L L':List Th) (r:Nat→Prop):Prop:=∀(k:Nat) (x:Th),L[k]? = some x→∃x',L'[k]? = some x'∧x'.kind=x.kind∧x'.sup=x.sup∧(0≤x.own→x'.own=x.own)∧(r k→x'.own=x.own)
theorem zZ:∀(n:Nat) {L:List Th} (h:OK L) (hpos:0<L.length) {t:Nat} (ht:t<L.length),rk L t<n→L.length+cp n L t≤1000 →
  OK (iL n L t).1∧0≤(iL n L t).2∧(ax (iL n L t).1 t).own=(iL n L t).2∧(∀k:Nat,k<L.length→aE (iL n L t).1 k=aE L k)∧afD L (iL n L t).1 fun k=>rk L t<rk L k
 | 0,_,_,_,_,_,h,_=>by omega
 | n+1,L,h,hpos,t,ht,hr,hroom=>by
  have hx:L[t]? = some L[t]:=List.getElem?_eq_getElem ht
  have ec:=aQ ht
  by_cases h1:0≤L[t].own
  ·have hm:iL (n+1) L t=(L,L[t].own):=by unfold iL;rw[ec,if_pos h1]
   rw[hm]
   exact⟨h,h1,by rw[ec],fun _ _=>rfl,fun k x hx=>⟨x,hx,rfl,rfl,fun _=>rfl,fun _=>rfl⟩⟩
  ·by_cases h2:0≤L[t].sup
   ·obtain⟨q1,q2⟩:=h.ZA.up t _ hx h2
    obtain⟨s,hs⟩:∃s:Nat,L[t].sup=s:=⟨L[t].sup.toNat,by omega⟩
    rw[hs] at q1 q2
    have KU:cp (n+1) L t=1+cp n L s:=by rw[cp,ec,if_neg h1,if_pos (by omega),hs]
    have hs0:(0:Int)≤s:=by omega
    have oE:=pU n L s
    obtain⟨p1,p2,p3,p4,p5⟩:=zZ n h hpos (t:=s) (by omega) (by omega) (by omega)
    have hm:iL (n+1) L t=(((iL n L s).1++[aU 2 (iL n L s).2 (-1)]).set t { ax ((iL n L s).1++[aU 2 (iL n L s).2 (-1)]) t with own:=((iL n L s).1.length:Int) },((iL n L s).1.length:Int)):=by
     rw[iL,ec,if_neg h1]
     simp only[hs,hs0,if_true,Int.toNat_natCast]
    rw[hm]
    generalize iL n L s=p at *
    obtain⟨L1,w⟩:=p
    simp only at *
    obtain⟨x1,hx1,e1,e2,e3,e4⟩:=p5 t _ hx
    have ht1:t<L1.length:=by omega
    have hq:ax (L1++[aU 2 w (-1)]) t=x1:=by
     rw[aQ (by simp;omega),List.getElem_append_left ht1]
     exact(List.getElem?_eq_some_iff.1 hx1).2
    rw[hq]
    have ho:x1.own<0:=by rw[e4 q2];omega
    obtain⟨k1,k2⟩:=Qk p1 (by omega) hx1 (by omega) ho (w:=w) (.inr trivial) ⟨fun h0=>by rw[e2,hs,p3];exact⟨rfl,p2⟩,fun h0=>by rw[e2,hs] at h0;omega⟩
    have dB:(L1++[aU 2 w (-1)]).set t { x1 with own:=(L1.length:Int) }=L1.set t { x1 with own:=(L1.length:Int) }++[aU 2 w (-1)]:=List.set_append_left _ _ ht1
    refine⟨k1,by omega,?_,fun k hk=>?_,fun k x hx=>?_⟩
    ·rw[aQ (by simp;omega)];simp
    ·rw[k2 k (by omega),p4 k hk]
    ·obtain⟨y,hy,f1,f2,f3,f4⟩:=p5 k x hx
     have mc:=(List.getElem?_eq_some_iff.1 hy).1
     rw[dB,List.getElem?_append_left (by simpa using mc)]
     by_cases e:t=k
     ·subst e
      rw[hx1] at hy;cases hy
      refine⟨_,List.getElem?_set_self ht1,f1,f2,fun h0=>?_,fun h0=>by omega⟩
      have vb:=(List.getElem?_eq_some_iff.1 hx).2
      rw[←vb] at h0;omega
     ·exact⟨y,by rw[List.getElem?_set_ne e];exact hy,f1,f2,f3,fun h0=>f4 (by omega)⟩
   ·have KU:cp (n+1) L t=1:=by rw[cp,ec,if_neg h1,if_neg h2]
    have hm:iL (n+1) L t=((L++[aU 2 0 (-1)]).set t { ax (L++[aU 2 0 (-1)]) t with own:=(L.length:Int) },(L.length:Int)):=by
     rw[iL,ec,if_neg h1]
     simp only[h2,if_false,Int.toNat_natCast]
    rw[hm]
    have hq:ax (L++[aU 2 0 (-1)]) t=L[t]:=by
     rw[aQ (by simp;omega),List.getElem_append_left ht]
    rw[hq]
    obtain⟨k1,k2⟩:=Qk h hpos hx (by omega) (by omega) (w:=0) (.inr trivial) ⟨fun h0=>absurd h0 h2,fun _=>rfl⟩
    have dB:(L++[aU 2 0 (-1)]).set t { L[t] with own:=(L.length:Int) }=L.set t { L[t] with own:=(L.length:Int) }++[aU 2 0 (-1)]:=List.set_append_left _ _ ht
    refine⟨k1,by simp only;omega,?_,k2,fun k y hy=>?_⟩
    ·rw[aQ (by simp;omega)];simp
    ·have mc:=(List.getElem?_eq_some_iff.1 hy).1
     simp only
     rw[dB,List.getElem?_append_left (by simpa using mc)]
     by_cases e:t=k
     ·subst e
      rw[hx] at hy
      cases hy
      exact⟨_,List.getElem?_set_self ht,rfl,rfl,fun h0=>by omega,fun h0=>by omega⟩
     ·exact⟨y,by rw[List.getElem?_set_ne e];exact hy,rfl,rfl,fun _=>rfl,fun _=>rfl⟩
structure Ys where
 op:Int
 a:Int
 b:Int
noncomputable def KX (L:List Th) (d:Ys):List Th×Int×Int :=
 if d.op=0 then bW L d.a
 else if d.op=1 then bN L
 else if d.op=2 then ((dg L d.a d.b).1,0,(dg L d.a d.b).2)
 else if d.op=3 then ((dh L d.a d.b).1,0,(dh L d.a d.b).2)
 else if d.op=4 then ux L d.a d.b
 else if d.op=5 then fu L d.a
 else (L,0,0)
theorem vM{l:List Int}{v:Int}(h:bh l v=false):v∉l:=fun hm=>by rw[fk.2 hm] at h;cases h
theorem z6{L:List Th}(h:OK L){t:Nat}{x:Th}(hx:L[t]? = some x){m:Int}(hm0:0≤m)(hk:(ax L m).kind=1)(hd:m∉x.ins):(m::parents x).Nodup:=by
 refine List.nodup_cons.2 ⟨fun hm=>?_,(nH h.wf).np t x hx⟩
 simp only[parents,List.mem_append] at hm
 rcases hm with hm|hm
 ·exact hd hm
 ·split at hm
  ·rename_i h0
   simp only[List.mem_singleton] at hm
   subst hm
   exact(h.sup t x hx h0).2 hk
  ·cases hm
theorem Qm{L:List Th}(h:OK L)(m:Int)(t:Nat)(ht:t<L.length)(hv:val L m=true)(hk:(ax L m).kind=1)(hd:bh (ax L t).ins m=false)(hh:bh (aP L m) t=false) :
  ∃r,ez (de L t (m::(ax L t).ins)) r:=by
 have hx:L[t]? = some L[t]:=List.getElem?_eq_getElem ht
 rw[aQ ht] at *
 rw[lq ht]
 simp only[val,decide_eq_true_eq] at hv
 refine CH h hx hv.1 hv.2 hh (fun u hu=>?_) (show L[t].bU.Nodup from (nH h.wf).nb t _ hx) ?_
 ·rcases hu with hu|hu
  ·exact .inr (.inl hu)
  ·simp only[parents,List.cons_append,List.mem_cons] at hu
   rcases hu with hu|hu
   ·exact .inl hu
   ·exact .inr (.inr hu)
 ·exact z6 h hx hv.1 hk (vM hd)
theorem Qn{L:List Th}(h:OK L)(m:Int)(t:Nat)(ht:t<L.length)(hv:val L m=true)(hk:(ax L m).kind=1)(hd:bh (ax L t).bU m=false)(hh:bh (aP L m) t=false) :
  ∃r,ez (cH L t (m::(ax L t).bU)) r:=by
 have hx:L[t]? = some L[t]:=List.getElem?_eq_getElem ht
 rw[aQ ht] at *
 rw[lu ht]
 simp only[val,decide_eq_true_eq] at hv
 refine CH h hx hv.1 hv.2 hh (fun u hu=>?_) (List.nodup_cons.2 ⟨vM hd,show L[t].bU.Nodup from (nH h.wf).nb t _ hx⟩) (show (parents L[t]).Nodup from (nH h.wf).np t _ hx)
 rcases hu with hu|hu
 ·rcases List.mem_cons.1 hu with hu|hu
  ·exact .inl hu
  ·exact .inr (.inl hu)
 ·exact .inr (.inr hu)
theorem FX{L:List Th}(h:OK L)(t m:Int):(dg L t m).1=L∧(dg L t m).2≠0 ∨
  ∃k:Nat,t=k∧k<L.length∧val L m=true∧(ax L m).kind=1∧dg L t m=(de L k (m::(ax L k).ins),0)∧OK (de L k (m::(ax L k).ins))∧(de L k (m::(ax L k).ins)).length=L.length:=by
 unfold dg
 split
 ·exact .inl ⟨rfl,by simp⟩
 ·rename_i h0
  split
  ·exact .inl ⟨rfl,by simp⟩
  ·rename_i hd
   split
   ·exact .inl ⟨rfl,by simp⟩
   ·rename_i hh
    split
    ·rename_i hf
     have h1:val L t=true∧val L m=true∧(ax L m).kind=1:=by simpa using h0
     obtain⟨k,rfl,hk⟩:=bD h1.1
     have KY:bh (aP L m) k=false:=by
      cases e:bh (aP L m) k with
      | false=>rfl
      | true=>exact absurd (.inr e) hh
     have B:=Qm h m k hk h1.2.1 h1.2.2 (by simpa using hd) KY
     simp only[Int.toNat_natCast] at hf ⊢
     have hl:(de L k (m::(ax L k).ins)).length=L.length:=by rw[lq hk];simp
     have W:uw (de L k (m::(ax L k).ins)):=⟨B,fun j hj=>hf j (by omega)⟩
     refine .inr ⟨k,rfl,hk,h1.2.1,h1.2.2,rfl,?_,hl⟩
     rw[lq hk] at W ⊢
     refine Qj h (List.getElem?_eq_getElem hk) h1.2.2 rfl rfl rfl (fun u hu=>?_) W
     rcases hu with hu|hu
     ·rcases List.mem_cons.1 hu with hu|hu
      ·exact .inl hu
      ·rw[aQ hk] at hu;exact .inr (.inl hu)
     ·exact .inr (.inr hu)
    ·exact .inl ⟨rfl,by simp⟩
theorem FZ{L:List Th}(h:OK L)(t m:Int):(dh L t m).1=L∧(dh L t m).2≠0 ∨
  ∃k:Nat,t=k∧k<L.length∧val L m=true∧(ax L m).kind=1∧dh L t m=(cH L k (m::(ax L k).bU),0)∧OK (cH L k (m::(ax L k).bU))∧(cH L k (m::(ax L k).bU)).length=L.length:=by
 unfold dh
 split
 ·exact .inl ⟨rfl,by simp⟩
 ·rename_i h0
  split
  ·exact .inl ⟨rfl,by simp⟩
  ·rename_i hd
   split
   ·exact .inl ⟨rfl,by simp⟩
   ·rename_i hh
    split
    ·rename_i hf
     have h1:val L t=true∧val L m=true∧(ax L m).kind=1:=by simpa using h0
     obtain⟨k,rfl,hk⟩:=bD h1.1
     have KY:bh (aP L m) k=false:=by
      cases e:bh (aP L m) k with
      | false=>rfl
      | true=>exact absurd (.inr e) hh
     have B:=Qn h m k hk h1.2.1 h1.2.2 (by simpa using hd) KY
     simp only[Int.toNat_natCast] at hf ⊢
     have hl:(cH L k (m::(ax L k).bU)).length=L.length:=by rw[lu hk];simp
     have W:uw (cH L k (m::(ax L k).bU)):=⟨B,fun j hj=>hf j (by omega)⟩
     refine .inr ⟨k,rfl,hk,h1.2.1,h1.2.2,rfl,?_,hl⟩
     rw[lu hk] at W ⊢
     refine Qj h (List.getElem?_eq_getElem hk) h1.2.2 rfl rfl rfl (fun u hu=>?_) W
     rcases hu with hu|hu
     ·exact .inr (.inl hu)
     ·rcases List.mem_cons.1 hu with hu|hu
      ·exact .inl hu
      ·rw[aQ hk] at hu;exact .inr (.inr hu)
    ·exact .inl ⟨rfl,by simp⟩
theorem Kc{L:List Th}(h:OK L)(hpos:0<L.length)(d:Ys):OK (KX L d).1∧0<(KX L d).1.length∧((KX L d).2.2≠0→(KX L d).1=L):=by
 unfold KX
 split
 ·unfold bW
  split
  ·exact⟨h,hpos,fun _=>rfl⟩
  ·rename_i hk
   split
   ·exact⟨h,hpos,fun _=>rfl⟩
   ·have h1:val L d.a=true∧(ax L d.a).kind=0:=by simpa using hk
    have hv:0≤d.a∧d.a<L.length:=by simpa[val] using h1.1
    exact⟨(vL h hpos (by omega) (fun _=>⟨hv.2,by rw[h1.2];decide⟩) (fun e=>absurd e (by decide))).1,by simp,fun e=>absurd rfl e⟩
 ·split
  ·unfold bN
   split
   ·exact⟨h,hpos,fun _=>rfl⟩
   ·split
    ·exact⟨h,hpos,fun _=>rfl⟩
    ·exact⟨(vL h hpos (by omega) (fun e=>by omega) (fun _=>by decide)).1,by simp,fun e=>absurd rfl e⟩
  ·split
   ·rcases FX h d.a d.b with ⟨e1,e2⟩|⟨k,_,_,_,_,e,h2,hl⟩
    ·simp only[e1];exact⟨h,hpos,fun _=>trivial⟩
    ·simp only[e];exact⟨h2,by omega,fun e=>absurd rfl e⟩
   ·split
    ·rcases FZ h d.a d.b with ⟨e1,e2⟩|⟨k,_,_,_,_,e,h2,hl⟩
     ·simp only[e1];exact⟨h,hpos,fun _=>trivial⟩
     ·simp only[e];exact⟨h2,by omega,fun e=>absurd rfl e⟩
    ·split
     ·unfold ux
      split
      ·exact⟨h,hpos,fun _=>rfl⟩
      ·rename_i vN
       split
       ·split
        ·exact⟨h,hpos,fun _=>rfl⟩
        ·exact⟨h,hpos,fun _=>rfl⟩
       ·split
        ·exact⟨h,hpos,fun _=>rfl⟩
        ·have hk:(val L d.a&&decide ((ax L d.a).kind=0))=true:=by
          cases e:(val L d.a&&decide ((ax L d.a).kind=0)) with
          | true=>rfl
          | false=>exact absurd (.inl e) vN
         have h1:val L d.a=true∧(ax L d.a).kind=0:=by simpa using hk
         have hv:0≤d.a∧d.a<L.length:=by simpa[val] using h1.1
         exact⟨(vL h hpos (by omega) (fun _=>⟨hv.2,by rw[h1.2];decide⟩) (fun e=>absurd e (by decide))).1,by simp,fun e=>absurd rfl e⟩
     ·split
      ·unfold fu
       split
       ·exact⟨h,hpos,fun _=>rfl⟩
       ·rename_i hno
        split
        ·exact⟨h,hpos,fun _=>rfl⟩
        ·have hv:val L d.a=true:=by
          cases e:val L d.a with
          | true=>rfl
          | false=>exact absurd (.inl e) hno
         obtain⟨k,hk,mc⟩:=bD hv
         generalize d.a=q at *
         subst hk
         have hrl:=CG h.wf k
         obtain⟨m1,_⟩:=zZ 1001 h hpos mc (by omega) (by omega)
         exact⟨m1,by have:=pU 1001 L k;simp only;omega,fun e=>absurd rfl e⟩
      ·exact⟨h,hpos,fun _=>rfl⟩
end Go.Proofs.YtbhigdljojlhnaaGreat

namespace Go.Vc
set_option linter.all false
open T (cM blk)
abbrev GN (w:World):Nat→Prop:=fun b=>b<w.heap.size
def Reads (P:Program) (t:TypeId) (z:Nat) (good:D→Prop):Prop :=
 ∀(H:Type) (enc:TypeId×Value→H) (w:World) (fuel:Nat) (cs:List Value) (x:DataW H×List MemPlace),DataW.trod enc P w 0 (fun _=>true) true fuel t cs=some x →
  ∃g:G,T.Holds w.heap (GN w) g∧g.free=true∧g.cells=cs∧g.width=z∧good g.erase
theorem jD{P:Program}{t:TypeId}{k:IntKind}(ht:P.underlying t=some (.int k)):Reads P t 1 fun d=>∃n,d=.val (.int k n):=fun H enc w fuel cs x h=>by
 obtain⟨n,rfl,_,_⟩:=DataW.trod_int ht h
 exact⟨.val (.int k n),rfl,rfl,rfl,rfl,n,rfl⟩
theorem LV{P:Program}{t:TypeId}(ht:P.underlying t=some .string):Reads P t 1 fun d=>∃s,d=.val (.string s):=fun H enc w fuel cs x h=>by
 obtain⟨s,rfl,_,_⟩:=DataW.trod_string ht h
 exact⟨.val (.string s),rfl,rfl,rfl,rfl,s,rfl⟩
def rK (P:Program):List Field→List (Nat×(D→Prop))→Nat→Prop
 | [],[],_=>True
 | f::fs,(z,good)::r,o=>Reads P f.type z good∧P.cellsOf f.type=z∧f.offset=o∧rK P fs r (o+z)
 | _,_,_=>False
def rL:List (Nat×(D→Prop))→D→Prop
 | [],d=>d=.nil
 | (_,good)::r,d=>∃a t,d=.cons a t∧good a∧rL r t
def gJ:List (Nat×(D→Prop))→Nat
 | []=>0
 | (z,_)::r=>z+gJ r
theorem AF{P:Program}{t:TypeId}{fs:Array Field}(ht:P.underlying t=some (.struct fs)){gs:List (Nat×(D→Prop))}(hf:rK P fs.toList gs 0)(hz:P.cellsOf t=gJ gs) :
  Reads P t (gJ gs) fun d=>∃s,d=.agg s∧rL gs s:=fun H enc w fuel cs x h=>by
 obtain⟨xs,n,_,_,hl,hlen,he⟩:=DataW.trod_struct ht h
 have each:∀f∈fs.toList,∃y,DataW.trod enc P w 0 (fun _=>true) true n f.type ((cs.drop f.offset).take (P.cellsOf f.type))=some y:=fun f hm=>by
  obtain⟨i,hi,rfl⟩:=List.getElem_of_mem hm
  have h1:=he i fs[i] (by simp at hi;simp[hi])
  rw[List.getElem?_eq_getElem (by simp at hi;omega)] at h1
  exact⟨_,h1⟩
 have key:∀(l:List Field) (gs:List (Nat×(D→Prop))) (o:Nat),rK P l gs o→(∀f∈l,f∈fs.toList)→cs.length=o+gJ gs →
   ∃s:G,T.Holds w.heap (GN w) s∧s.free=true∧s.cells=cs.drop o∧s.width=gJ gs∧rL gs s.erase:=by
  intro l
  induction l with
  | nil =>
   intro gs o h1 _ h2
   cases gs with
   | nil=>exact⟨.nil,trivial,rfl,by simp only[gJ] at h2;simp[T.cells,h2],rfl,rfl⟩
   | cons _ _=>exact h1.elim
  | cons f l ih =>
   intro gs o h1 hm h2
   cases gs with
   | nil=>exact h1.elim
   | cons p r =>
    obtain⟨z,good⟩:=p
    obtain⟨k1,k2,k3,k4⟩:=h1
    simp only[gJ] at h2
    obtain⟨s,s1,s2,s3,s4,s5⟩:=ih r (o+z) k4 (fun f hf=>hm f (by simp[hf])) (by omega)
    obtain⟨y,hy⟩:=each f (hm f (by simp))
    obtain⟨g,g1,g2,g3,g4,g5⟩:=k1 H enc w n _ y hy
    refine⟨.cons g s,⟨g1,s1⟩,by simp[T.free,g2,s2],?_,by simp[T.width,g4,s4,gJ],_,_,rfl,g5,s5⟩
    simp only[T.cells,g3,s3,k2,k3]
    rw[←List.drop_drop,List.take_append_drop]
 obtain⟨s,s1,s2,s3,s4,s5⟩:=key fs.toList gs 0 hf (fun _ h=>h) (by rw[hl,hz];omega)
 exact⟨.agg s,s1,s2,by simpa[T.cells] using s3,s4,_,rfl,s5⟩
theorem erase_cons{g:G}{a t:D}(h:g.erase=.cons a t):∃a' t',g=.cons a' t'∧a'.erase=a∧t'.erase=t:=by
 cases g<;>simp only[T.erase] at h<;>cases h
 exact⟨_,_,rfl,rfl,rfl⟩
theorem L8{g:G}{v:Value}(h:g.erase=.val v):g=.val v:=by
 cases g<;>simp only[T.erase] at h<;>cases h
 rfl
theorem erase_nil{g:G}(h:g.erase=.nil):g=.nil:=by
 cases g<;>simp only[T.erase] at h<;>cases h
 rfl
theorem Rv{α β:Type}{f:β→α}:∀{l:List α},(∀x∈l,∃y,x=f y)→∃ys:List β,l=ys.map f
 | [],_=>⟨[],rfl⟩
 | x::l,h=>by
  obtain⟨y,hy⟩:=h x (by simp)
  obtain⟨ys,hys⟩:=Rv (l:=l) (f:=f) fun x hx=>h x (List.mem_cons_of_mem _ hx)
  exact⟨y::ys,by rw[hy,hys];rfl⟩
theorem qx{w:World}{a:Addr}{n:Nat}{cs:List Value}(h:w.cells? 0 a n=some cs):cs.length=n∧∀r v,cs[r]? = some v→w.cell? (a.add r)=some v:=by
 obtain⟨_,h1,h2⟩:=World.cells?_some h
 refine⟨h1,fun r v hv=>?_⟩
 have hr:r<n:=by rw[←h1];exact(List.getElem?_eq_some_iff.1 hv).1
 have:=h2 r hr
 rw[this,hv]
theorem uS{P:Program}{e:TypeId}{z:Nat}{good:D→Prop}(he:Reads P e z good){H:Type}{enc:TypeId×Value→H}{w:World}{n:Nat}{at_:Nat→List Value}:∀(len i0:Nat),
  (∀i,i<len→∃y,DataW.trod enc P w 0 (fun _=>true) true n e (at_ (i0+i))=some y) →
  ∃s:G,∃l:List D,T.Holds w.heap (GN w) s∧s.free=true∧s.nQ z∧s.len=len∧s.erase=sq l∧l.length=len∧(∀d∈l,good d)∧s.cells=((List.range len).map fun i=>at_ (i0+i)).flatten
 | 0,i0,_=>⟨.nil,[],trivial,rfl,trivial,rfl,rfl,rfl,by simp,rfl⟩
 | len+1,i0,h=>by
  obtain⟨y,hy⟩:=h 0 (by omega)
  obtain⟨g,g1,g2,g3,g4,g5⟩:=he H enc w n _ y hy
  obtain⟨s,l,s1,s2,s3,s4,s5,s6,s7,s8⟩:=uS he len (i0+1) fun i hi=>by
   have:=h (i+1) (by omega)
   rwa [show i0+(i+1)=i0+1+i by omega] at this
  refine⟨.cons g s,g.erase::l,⟨g1,s1⟩,by simp[T.free,g2,s2],⟨g4,s3⟩,by simp[T.len,s4],by simp[T.erase,sq,s5],by simp[s6],fun d hd=>?_,?_⟩
  ·rcases List.mem_cons.1 hd with rfl|hd
   ·exact g5
   ·exact s7 d hd
  ·rw[List.range_succ_eq_map]
   simp only[T.cells,g3,s8,List.map_cons,List.flatten_cons,List.map_map,Nat.add_zero]
   congr 3
   funext i
   simp only[Function.comp]
   congr 1;omega
theorem KN{α:Type}{z:Nat}(hz:0<z):∀(l:List (List α)) (_:∀c∈l,c.length=z) (j:Nat) (v:α),l.flatten[j]? = some v→∃c,l[j / z]? = some c∧c[j % z]? = some v
 | [],_,j,v,h=>by simp at h
 | c::l,hl,j,v,h=>by
  have hc:=hl c (by simp)
  simp only[List.flatten_cons] at h
  rcases Nat.lt_or_ge j z with hj|hj
  ·rw[List.getElem?_append_left (by omega)] at h
   exact⟨c,by rw[Nat.div_eq_of_lt hj];rfl,by rw[Nat.mod_eq_of_lt hj];exact h⟩
  ·rw[List.getElem?_append_right (by omega),hc] at h
   obtain⟨c',h1,h2⟩:=KN hz l (fun c hc=>hl c (by simp[hc])) (j-z) v h
   refine⟨c',?_,?_⟩
   ·rw[show j / z=(j-z) / z+1 by rw[Nat.div_eq_sub_div hz hj]];simpa using h1
   ·rw[Nat.mod_eq_sub_mod hj];exact h2
theorem Fx{P:Program}{t e:TypeId}{z:Nat}{good:D→Prop}(ht:P.underlying t=some (.slice e))(he:Reads P e z good)(hc:P.cellsOf e=z)(hz:0<z) :
  Reads P t 1 fun d=>∃l:List D,(∀x∈l,good x)∧l.length≤2 ^ 63-1∧d=.sl false () z (sq l):=fun H enc w fuel cs x h=>by
 rcases DataW.trod_slice ht h with ⟨rfl,_⟩|⟨a,len,cap,elems,rest,n,_,rfl,_,hb,hlc,hm,hlen,hel,hsp,_⟩
 ·exact⟨.sl false (.slice none 0 0) z .nil,⟨trivial,trivial,fun _=>rfl,rfl,rfl,rfl⟩,rfl,rfl,rfl,[],by simp,by simp,rfl⟩
 ·obtain⟨b,o,sp⟩:=a
  have agK:cap≤2 ^ 63-1:=by
   have:maxLen=2 ^ 63-1:=by decide
   omega
  rcases cap with _|cap
  ·obtain rfl:len=0:=by omega
   exact⟨.sl false (.slice (some ⟨b,o,sp⟩) 0 0) z .nil,⟨trivial,trivial,fun _=>rfl,rfl,(fun h=>by cases h),rfl⟩,rfl,rfl,rfl,[],by simp,by simp,rfl⟩
  ·obtain⟨ajc,aeI⟩:=hsp rfl
   rw[hc] at hel aeI
   have each:∀i,i<cap+1→∃cs,w.cells? 0 ((⟨b,o,sp⟩:Addr).add (i*z)) z=some cs∧∃y,DataW.trod enc P w 0 (fun _=>true) true n e cs=some y:=fun i hi=>by
    by_cases h1:i<len
    ·have h2:=hel i h1
     rw[List.getElem?_eq_getElem (by omega)] at h2
     obtain⟨cs,h3,h4⟩:=Option.bind_eq_some_iff.1 h2
     exact⟨cs,h3,_,h4⟩
    ·have h2:=aeI (i-len) (by omega)
     rw[List.getElem?_eq_getElem (by omega),show len+(i-len)=i by omega] at h2
     obtain⟨cs,h3,h4⟩:=Option.bind_eq_some_iff.1 h2
     exact⟨cs,h3,_,h4⟩
   have aeJ:sp=none:=by
    obtain⟨cs0,h1,_⟩:=each 0 (by omega)
    obtain⟨h2,h3⟩:=qx h1
    have h4:=h3 0 _ (List.getElem?_eq_getElem (by omega))
    have e0:((⟨b,o,sp⟩:Addr).add (0*z)).add 0=⟨b,o,sp⟩:=by simp[Addr.add]
    rw[e0] at h4
    unfold World.cell? at h4
    split at h4
    ·cases sp with
     | none=>rfl
     | some _=>simp at h4
    ·cases h4
   subst aeJ
   have D8:∀k,(⟨b,o,none⟩:Addr).add k=⟨b,o+k,none⟩:=fun k=>by unfold Addr.add;split<;>simp_all
   obtain⟨csl,P0,_⟩:=each cap (by omega)
   obtain⟨hl2,hl3⟩:=qx P0
   have hl4:=hl3 (z-1) _ (List.getElem?_eq_getElem (by omega))
   rw[D8] at hl4
   have Zm:∀(o' k:Nat),(⟨b,o',none⟩:Addr).add k=⟨b,o'+k,none⟩:=fun o' k=>by unfold Addr.add;split<;>simp_all
   rw[Zm] at hl4
   obtain⟨row,e',fr,hrow⟩:∃row e' fr,w.heap[b]? = some (.cells row e' fr):=by
    unfold World.cell? at hl4
    split at hl4
    ·rename_i c _ _ heq;exact⟨_,_,_,heq⟩
    ·cases hl4
   have cell:∀k v,w.cell? ⟨b,k,none⟩=some v→row[k]? = some v:=fun k v hk=>by
    unfold World.cell? at hk
    simp only[hrow] at hk
    simpa using hk
   have agL:b<w.heap.size:=by
    rcases Nat.lt_or_ge b w.heap.size with h'|h'
    ·exact h'
    ·rw[Array.getElem?_eq_none h'] at hrow;cases hrow
   have hsz:o+(cap+1)*z≤row.size:=by
    have h5:=cell _ _ hl4
    have h6:=(Array.getElem?_eq_some_iff.1 h5).1
    rw[Nat.add_mul];omega
   obtain⟨s,l,s1,s2,s3,s4,s5,s6,s7,s8⟩:=uS (enc:=enc) (w:=w) (n:=n) (at_:=fun i=>(w.cells? 0 ((⟨b,o,none⟩:Addr).add (i*z)) z).getD []) he len 0 fun i hi=>by
    obtain⟨cs,h1,h2⟩:=each (0+i) (by omega)
    rw[h1];exact h2
   refine⟨.sl false (.slice (some ⟨b,o,none⟩) len (cap+1)) z s,⟨s1,s3,fun _=>s2,rfl,s4.symm,hlc,agK,fun _=>agL,row,e',fr,hrow,(fun h=>by cases h),hsz,fun j v hj=>?_⟩,by simp[T.free,s2],rfl,rfl,l,s7,by omega,by simp[T.erase,s5]⟩
   rw[s8] at hj
   obtain⟨c,c1,c2⟩:=KN hz _ (fun c hcm=>by
    obtain⟨i,hi,rfl⟩:=List.mem_map.1 hcm
    obtain⟨cs,h1,_⟩:=each (0+i) (by have:=List.mem_range.1 hi;omega)
    rw[h1];exact(qx h1).1) j v hj
   rw[List.getElem?_map] at c1
   cases hr:(List.range len)[j / z]? with
   | none=>rw[hr] at c1;cases c1
   | some i =>
    rw[hr] at c1
    obtain⟨hi1,hi2⟩:=List.getElem?_eq_some_iff.1 hr
    simp only[List.length_range] at hi1
    simp only[List.getElem_range] at hi2
    subst hi2
    obtain⟨cs,h1,_⟩:=each (0+j / z) (by omega)
    simp only[Option.map_some,Option.some.injEq,h1,Option.getD_some] at c1
    subst c1
    have h2:=(qx h1).2 _ _ c2
    rw[D8,Zm] at h2
    have h3:=cell _ _ h2
    rw[←h3]
    congr 1
    have:=Nat.div_add_mod j z
    rw[Nat.mul_comm] at this
    simp only[Nat.zero_add]
    omega
theorem Dx{P:Program}{t e:TypeId}{z:Nat}{good:D→Prop}(ht:P.underlying t=some (.slice e))(he:Reads P e z good)(hc:P.cellsOf e=z)(hz:0<z){H:Type}{enc:TypeId×Value→H}{w:World}
  {r:Reach} {b0:Nat} {v:Value} {d:DataW H} {ps:List MemPlace} (hv:Value.okWide P w r b0 t v) (h:DataW.Trod enc P w 0 (fun _=>true) true t v d ps) :
  ∃l:List D,(∀d∈l,good d)∧l.length≤2 ^ 63-1∧Rl w.heap (GN w) [] (.cA z (sq l) false) true [v]:=by
 obtain⟨fuel,h⟩:=h
 have hok:Cell.ok P w r b0 t v:=by
  unfold Value.okWide at hv
  rw[ht] at hv
  simp only[Cell.okWide,ht] at hv
  exact hv
 have hform:v=.slice none 0 0∨∃a len cap,v=.slice (some a) len cap:=by
  unfold Cell.ok at hok
  rw[ht] at hok
  split at hok<;>try exact hok.elim
  all_goals first
   | (rename_i heq;cases heq;done)
   | skip
  ·exact .inl rfl
  ·exact .inr ⟨_,_,_,rfl⟩
 obtain⟨g,g1,g2,g3,g4,l,l1,l2,l3⟩:=Fx ht he hc hz H enc w fuel _ _ h
 have hg:∃s,g=.sl false v z s∧s.erase=sq l:=by
  cases g<;>simp only[T.erase,reduceCtorEq] at l3
  rename_i o a z' s
  simp only[T.sl.injEq,true_and] at l3
  obtain⟨rfl,rfl,l3⟩:=l3
  have e:[a]=v.cells.toList:=g3
  rcases hform with rfl|⟨_,_,_,rfl⟩<;>(simp[Value.cells] at e;subst e;exact⟨s,rfl,l3⟩)
 obtain⟨s,rfl,hs⟩:=hg
 exact⟨l,l1,l2,v,rfl,s,hs,g1,fun h=>by cases h⟩
end Go.Vc
