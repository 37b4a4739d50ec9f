/- Refinements that are not active change nothing. -/
import Derived.Test.YtbhigdljojlhnaaGreatK7
import Derived.Test.YtbhigdljojlhnaaGreatRows
import Derived.WalkKit
import Derived.ProofKit
import Derived.OpenShut
import Derived.ShutString
import Derived.ChangeOld
import Derived.Carry
namespace Go.Proofs.YtbhigdljojlhnaaGreat
set_option linter.all false
open Go.Vc Go.Proofs
set_option linter.unusedSimpArgs false
set_option linter.unusedVariables false
set_option maxRecDepth 100000
set_option maxHeartbeats 4000000
attribute [local irreducible] CallW EqK
theorem Chain_nil (o:Bool) {s:Mt} (h:MtOk s) (t:Int) (n:ByteArray):Meets Tryz.prog 24 [dTs o s] (.cons (.ptr 0 [.d]) (.cons (avInt t) (.cons (.val (.string n)) (.cons (.nils 1) .nil))))
  fun av X κ=>(if (ChainOf s t n []).2 = 0 then (∃ ex,av = avTwo (.sub 1 [] 0 (ChainOf s t n []).1.length ex) 0)∧X = [dTs o s,.sl true () 6 (dFos (ChainOf s t n []).1)] else av = avTwo (.nils 6) (ChainOf s t n []).2∧X = [dTs o s])∧κ = [] :=
 Meets.nilled (Chain_ok o h t n [] true (by simp))
theorem Chain_yes (o:Bool) {s:Mt} (h:MtOk s) (t:Int) (n:ByteArray) (he:(ChainOf s t n []).2 = 0):Meets Tryz.prog 24 [dTs o s] (.cons (.ptr 0 [.d]) (.cons (avInt t) (.cons (.val (.string n)) (.cons (.nils 1) .nil))))
  fun av X κ=>∃ ex,av = avTwo (.sub 1 [] 0 (ChainOf s t n []).1.length ex) 0∧X = [dTs o s,.sl true () 6 (dFos (ChainOf s t n []).1)]∧κ = [] :=
 Meets.mono (Chain_nil o h t n) fun av X κ q=>by
  rw [if_pos he] at q
  obtain ⟨⟨⟨ex,h1⟩,h2⟩,h3⟩:=q
  exact ⟨ex,h1,h2,h3⟩
theorem Chain_no (o:Bool) {s:Mt} (h:MtOk s) (t:Int) (n:ByteArray) (he:¬ (ChainOf s t n []).2 = 0):Meets Tryz.prog 24 [dTs o s] (.cons (.ptr 0 [.d]) (.cons (avInt t) (.cons (.val (.string n)) (.cons (.nils 1) .nil))))
  fun av X κ=>av = avTwo (.nils 6) (ChainOf s t n []).2∧X = [dTs o s]∧κ = [] :=
 Meets.mono (Chain_nil o h t n) fun av X κ q=>by
  rw [if_neg he] at q
  exact ⟨q.1.1,q.1.2,q.2⟩
theorem dMds_app1 (l:List MDeed) (d:MDeed):(dMds l).app (.cons (dMd d) .nil) = dMds (l ++ [d]):=by simp only [dMds,List.map_append,←sq_app];rfl
theorem dMds_mid0 (l:List MDeed) (n:Nat):(dMds l).mid 0 n = dMds (l.take n):=by simp only [dMds,sq_mid,←List.map_take,List.drop_zero]
@[simp] theorem freeze_dMds (l:List MDeed):(dMds l).freeze = dMds l:=by
 rw [dMds,freeze_sq,List.map_map];rfl
theorem methodRefined_ok (l:List MDeed) (ex:Bool) (hl:l.length≤2 ^ 63 - 1):Meets Tryz.prog 6 [] (.cons (.imm 8 (dMds l) ex) .nil) fun av X κ=>av = avBool true∧X = []∧κ = []:=by
 refine fb Tryz.func6 Tryz.ntmps6 [.tmp 2] fun w0 I0 F0 hF=>?_
 repeat first|refine n1 ?_|refine n3 ?_|((first|refine rg 0 [0] [0] [] ?_|refine rg 1 [0] [0,3] [] ?_|refine rg 2 [0,3] [0,3,4] [] ?_);simp (maxSteps:=1000000) [hF])
 refine VS.hold0 3 8 (by simp) ?_
 refine VS.pick [0,3,4] [0] (by simp [hF]) ?_;simp [hF]
 refine VS.rounds (fun m st=>∃ (i:Nat) (W:List MDeed),i + m = 60∧i≤l.length∧W = (l.take i).filter (fun d=>decide (d.op≠1))∧st = ⟨[(0,.imm 8 (dMds l) ex),(3,.sub 0 [] 0 W.length false),(4,avInt i)],[.sl true () 8 (dMds W)],[],[]⟩) ⟨60,0,[],by omega,by omega,rfl,by simp [dMds,sq]⟩ ?_
 rintro m st ⟨i,W,hi,hil,hW,rfl⟩
 have hWl:W.length≤i:=by
  rw [hW];exact Nat.le_trans (List.length_filter_le _ _) (by rw [List.length_take];omega)
 have hWm:(dMds W).mid 0 W.length = dMds W:=sq_mid_all _ _ (by simp)
 by_cases hgo:i < l.length∧i < 60
 ·obtain ⟨hlt,h60⟩:=hgo
  have h60':(i:Int) < 60:=by omega
  have hn:=dMds_nth hlt
  have htk:(l.take (i + 1)).filter (fun d=>decide (d.op≠1)) = W ++ if l[i].op≠1 then [l[i]] else []:=by
   rw [List.take_succ_eq_append_getElem hlt,List.filter_append,←hW]
   by_cases h1:l[i].op = 1 <;> simp [h1]
  have hw:IntKind.i64.wrap ((i:Int) + 1) = ((i + 1:Nat):Int):=by rw [IntWalk.i64_in _ (by omega)];rfl
  by_cases h1:l[i].op = 1
  ·rw [if_neg (by simp [h1]),List.append_nil] at htk
   repeat first|refine n1 ?_|refine n2 ?_|refine n3 ?_|refine n4 ?_|refine n5 ?_|refine n6 ?_|((first|refine rg 3 [0,3,4] [0,3,4,23] [(4,20)] ?_|refine rg 4 [0,3,4] [0,3,4] [] ?_|refine rg 5 [0,3,4] [0,3,4,31] [] ?_|refine nc ?_);simp (maxSteps:=1000000) [hF,hlt,h60',hn,dMd,h1,hw])
   refine nextK.of [0,3,4] [0] (m - 1) (by omega) (by simp [hF]) ?_
   exact ⟨i + 1,W,by omega,by omega,htk.symm,by simp⟩
  ·rw [if_pos h1] at htk
   have happ:=dMds_app1 W l[i]
   simp only [dMd] at happ
   have b1:(W.length + 1) * 72≤140737488355328:=by omega
   have b2:W.length + 1≤9223372036854775807:=by omega
   have hmid:(dMds (W ++ [l[i]])).mid 0 (W.length + 1) = dMds (W ++ [l[i]]):=sq_mid_all _ _ (by simp)
   repeat first|refine n1 ?_|refine n2 ?_|refine n3 ?_|refine n4 ?_|refine n5 ?_|refine n6 ?_|((first|refine rg 3 [0,3,4] [0,3,4,23] [(4,20)] ?_|refine rg 4 [0,3,4] [0,3,4] [] ?_|refine rg 5 [0,3,4] [0,3,4,31] [] ?_|refine rg 6 [0,3,4] [0,3,4] [] ?_|refine nc ?_);simp (maxSteps:=1000000) [hF,hlt,h60',hn,dMd,h1,hWm,happ,b1,b2,hmid,hw])
   refine nextK.of [0,3,4] [0] (m - 1) (by omega) (by simp [hF]) ?_
   exact ⟨i + 1,W ++ [l[i]],by omega,by omega,htk.symm,by simp⟩
 ·have hfull:l.take 60 = l.take i:=by
   by_cases h:i < l.length
   ·rw [show i = 60 by omega]
   ·rw [List.take_of_length_le (by omega),List.take_of_length_le (by omega)]
  apply merged
  ·intro key
   by_cases hlt:i < l.length
   ·have h60':¬ (i:Int) < 60:=by omega
    repeat first|refine n1 ?_|refine n7 ?_|((first|refine rg 3 [0,3,4] [0,3,4,23] [(4,20)] ?_|refine nc ?_);simp (maxSteps:=1000000) [hF,hlt,h60'])
    refine VS.cool 3 (by simp (maxSteps:=1000000) [hF,hWm]) ?_;simp [hF,St.cool,hWm]
    refine VS.pick [0,3] [] (by simp [hF]) ?_;simp [hF]
    exact key ()
   ·repeat first|refine n1 ?_|refine n7 ?_|((first|refine rg 3 [0,3,4] [0,3,4,23] [(4,20)] ?_|refine nc ?_);simp (maxSteps:=1000000) [hF,hlt])
    refine VS.cool 3 (by simp (maxSteps:=1000000) [hF,hWm]) ?_;simp [hF,St.cool,hWm]
    refine VS.pick [0,3] [] (by simp [hF]) ?_;simp [hF]
    exact key ()
  obtain ⟨k,hk,hkl,hk60⟩:∃ k:Nat,(if (60:Int) < l.length then 60 else (l.length:Int)) = k∧k≤l.length∧(l.take k).take 60 = l.take 60:=by
   by_cases h:(60:Int) < l.length
   ·exact ⟨60,by rw [if_pos h];rfl,by omega,by rw [List.take_take];rfl⟩
   ·exact ⟨l.length,by rw [if_neg h],Nat.le_refl _,by rw [List.take_length]⟩
  have hmk:=dMds_mid0 l k
  have hkl':(k:Int)≤l.length:=by omega
  have hp1:=played_ok (l.take k) false
  have hp2:=played_ok W false
  unfold PlayedR at hp1 hp2
  rw [List.take_of_length_le (show W.length≤60 by omega)] at hp2
  rw [hk60] at hp1
  have hok1:=(playM_all (l.take 60)).1
  have hok2:=(playM_all W).1
  have hNR:NR (playM (l.take 60)) (playM W):=by rw [hW,←hfull];exact NR.play _
  generalize playM (l.take 60) = s1 at *
  generalize playM W = s2 at *
  clear hgo hfull hW hWl hWm hi hil
  repeat first|((refine rg 7 [0,3] [3,5,6] [] ?_);simp (maxSteps:=1000000) [hF,hk,hmk,hkl,hkl'])
  refine (hp1).go [] (by simp (maxSteps:=1000000) [hF,dBo]) ?_;rintro av X κ ⟨r1,T1,rfl,rfl,rfl⟩;simp (maxSteps:=1000000) [hF,dBo]
  repeat first|refine n1 ?_
  refine ghostL 0 [.d,.f 0] ?_;simp (maxSteps:=1000000) [hF,St.lift,AV.lift,liftPl,stripP,nodeAV,isNode,dBo,dTs]
  refine ghostL 0 [.d,.f 1] ?_;simp (maxSteps:=1000000) [hF,St.lift,AV.lift,liftPl,stripP,nodeAV,isNode,dBo,dTR]
  repeat first|((refine rg 8 [3,5,6] [5,6,7,8] [] ?_);simp (maxSteps:=1000000) [hF])
  refine (hp2).go [] (by simp (maxSteps:=1000000) [hF,dBo]) ?_;rintro av X κ ⟨r2,T2,rfl,rfl,rfl⟩;simp (maxSteps:=1000000) [hF,dBo]
  repeat first|refine n1 ?_
  refine ghostL 4 [.d,.f 0] ?_;simp (maxSteps:=1000000) [hF,St.lift,AV.lift,liftPl,stripP,nodeAV,isNode,dBo,dTs]
  repeat first|refine n1 ?_|refine n2 ?_|refine n3 ?_|((first|refine rg 9 [5,6,7,8] [5,7,58] [(2,55)] ?_|refine rg 11 [5,7] [5,7,9] [] ?_|refine nc ?_);simp (maxSteps:=1000000) [hF])
  refine VS.pick [5,7,9] [1,2,3,5,6] (by simp [hF]) ?_;simp [hF]
  have hl1:=T1.lr.len
  have hL1:=hok1.len
  have hsane:=sane_ok
  refine VS.rounds (fun m st=>∃ (t:Nat),t + m = s1.L.length∧st = ⟨[(5,.ptr 0 [.d]),(7,.ptr 3 [.d]),(9,avInt t)],[dJJ,dTs true s1,dTR r1,dJJ,dTs true s2],[],
   [(0,[.d,.f 0],.ptr 1 [.d]),(0,[.d,.f 1],.ptr 2 [.d]),(3,[.d,.f 0],.ptr 4 [.d])]⟩) ⟨s1.L.length,0,by omega,by simp [dJJ,dTs,dTR]⟩ ?_
  rintro m st ⟨t,ht,rfl⟩
  repeat first|refine n1 ?_|((refine rg 12 [5,7,9] [5,7,9,66] [] ?_);simp (maxSteps:=1000000) [hF,dJJ,dTR,dR])
  refine (rLen_ok r1.R).go [(2,[.d,.f 1])] (by simp (maxSteps:=1000000) [hF,dTR,dR,hl1]) ?_;rintro av X κ ⟨rfl,rfl,rfl⟩;simp (maxSteps:=1000000) [hF,dTR,dR,hl1]
  repeat first|((refine nc ?_);simp (maxSteps:=1000000) [hF])
  refine ⟨fun hlt=>?_,fun hge=>?_⟩
  ·have htl:t < s1.L.length:=by omega
   repeat first|refine n1 ?_|refine n2 ?_|refine n3 ?_|((refine rg 14 [5,7,9] [5,7,9,10] [] ?_);simp (maxSteps:=1000000) [hF])
   refine VS.pick [5,7,9,10] [0,1,2,3,4] (by simp [hF]) ?_;simp [hF]
   refine VS.rounds (fun m2 st=>∃ (i:Nat),i + m2 = 4∧st = ⟨[(5,.ptr 0 [.d]),(7,.ptr 3 [.d]),(9,avInt t),(10,avInt i)],[dJJ,dTs true s1,dTR r1,dJJ,dTs true s2],[],
    [(0,[.d,.f 0],.ptr 1 [.d]),(0,[.d,.f 1],.ptr 2 [.d]),(3,[.d,.f 0],.ptr 4 [.d])]⟩) ⟨4,0,by omega,by simp [dJJ,dTs,dTR,dR]⟩ ?_
   rintro m2 st ⟨i,hi,rfl⟩
   by_cases h4:i < 4
   ·have h4':(i:Int) < 4:=by omega
    obtain ⟨nm,hnm⟩:∃ nm,nm = nameOf i ⟨#[]⟩:=⟨_,rfl⟩
    have hch:=hNR.chain t nm
    have hwi:IntKind.i64.wrap ((i:Int) + 1) = ((i + 1:Nat):Int):=by rw [IntWalk.i64_in _ (by omega)];rfl
    by_cases he:(ChainOf s1 t nm []).2 = 0
    ·have he2:(ChainOf s2 t nm []).2 = 0:=by rw [←hch];exact he
     have c1:=Chain_yes true hok1 t nm he
     have c2:=Chain_yes true hok2 t nm he2
     rw [←hch] at c2
     have hchl:=chain_len hok1 htl nm []
     generalize (ChainOf s1 t nm []).1 = ch at *
     repeat first|refine n1 ?_|refine n2 ?_|refine n3 ?_|((first|refine rg 15 [5,7,9,10] [5,7,9,10,70] [] ?_|(refine dr 17 16 [5,7,9,10] [5,7,9,10,11,12] [] [⟨0,32,18889465931478580854784,5⟩,⟨1,18889465931478580854784,37778931862957161709568,6⟩,⟨0,512,75557863725914323419136,5⟩,⟨0,1024,151115727451828646838272,5⟩,⟨8,151115727451828646838272,302231454903657293676544,0⟩,⟨22,415568250492528778805248,604462909807314587353088,0⟩,⟨32,604462909807314587353088,9444732965739290427392,5⟩,⟨64,9444732965739290427392,1208925819614629174706176,5⟩,⟨64,9444732965739290427392,2417851639229258349412352,5⟩,⟨255,1208925819614629174706176,2048,5⟩,⟨1023,2417851639229258349412352,4096,5⟩] (.take 0 (.take 1 (.take 2 (.take 3 (.fork (.alt 4 (.fork (.alt 5 (.take 6 (.take 7 (.take 8 (.take 9 (.take 10 (.done)))))) (.nil))) (.nil))))))) (.run [0,1,2,3] (.chk 4 (.run [4,5,6,7,8,9,10] (.done)))) ?_;simp only [drs])|refine nc ?_);simp (maxSteps:=1000000) [hF,h4',dJJ])
     refine (name_ok i ⟨#[]⟩).go [] (by simp (maxSteps:=1000000) [hF,←hnm,dJJ]) ?_;rintro av X κ ⟨rfl,rfl,rfl⟩;simp (maxSteps:=1000000) [hF,←hnm,dJJ]
     refine (c1).go [(1,[])] (by simp (maxSteps:=1000000) [hF,dTs,dL]) ?_;rintro av X κ ⟨ex1,rfl,rfl,rfl⟩;simp (maxSteps:=1000000) [hF,dTs,dL]
     repeat first|refine n1 ?_|(((refine dr 18 16 [5,7,9,10,11,12] [5,7,9,10,11,12,13,14] [] [⟨0,128,9671406556917033397649408,5⟩,⟨1,9671406556917033397649408,19342813113834066795298816,6⟩,⟨0,512,38685626227668133590597632,5⟩,⟨0,1024,77371252455336267181195264,5⟩,⟨8,77371252455336267181195264,154742504910672534362390528,0⟩,⟨22,212770944252174734748286976,309485009821345068724781056,0⟩,⟨32,309485009821345068724781056,4835703278458516698824704,5⟩,⟨64,4835703278458516698824704,618970019642690137449562112,5⟩,⟨64,4835703278458516698824704,1237940039285380274899124224,5⟩,⟨255,618970019642690137449562112,8192,5⟩,⟨1023,1237940039285380274899124224,16384,5⟩] (.take 0 (.take 1 (.take 2 (.take 3 (.fork (.alt 4 (.fork (.alt 5 (.take 6 (.take 7 (.take 8 (.take 9 (.take 10 (.done)))))) (.nil))) (.nil))))))) (.run [0,1,2,3] (.chk 4 (.run [4,5,6,7,8,9,10] (.done)))) ?_;simp only [drs]));simp (maxSteps:=1000000) [hF])
     refine (name_ok i ⟨#[]⟩).go [] (by simp (maxSteps:=1000000) [hF,←hnm,dJJ]) ?_;rintro av X κ ⟨rfl,rfl,rfl⟩;simp (maxSteps:=1000000) [hF,←hnm,dJJ]
     refine (c2).go [(4,[])] (by simp (maxSteps:=1000000) [hF,dTs,dL]) ?_;rintro av X κ ⟨ex2,rfl,rfl,rfl⟩;simp (maxSteps:=1000000) [hF,dTs,dL]
     repeat first|refine n1 ?_|refine n2 ?_|refine n3 ?_|((first|refine rg 19 [5,7,9,10,11,12,13,14] [5,7,9,10,11,13,100] [(3,94)] ?_|refine rg 21 [5,7,9,10,11,13] [5,7,9,10,11,13,15] [] ?_|refine nc ?_);simp (maxSteps:=1000000) [hF])
     refine VS.pick [5,7,9,10,11,13,15] [0,1,2,3,4,5,6] (by simp [hF]) ?_;simp [hF]
     refine VS.rounds (fun m3 st=>∃ (k:Nat),k + m3 = ch.length∧st = ⟨[(5,.ptr 0 [.d]),(7,.ptr 3 [.d]),(9,avInt t),(10,avInt i),(11,.sub 5 [] 0 ch.length ex1),(13,.sub 6 [] 0 ch.length ex2),(15,avInt k)],[dJJ,dTs true s1,dTR r1,dJJ,dTs true s2,.sl true () 6 (dFos ch),.sl true () 6 (dFos ch)],[],
      [(0,[.d,.f 0],.ptr 1 [.d]),(0,[.d,.f 1],.ptr 2 [.d]),(3,[.d,.f 0],.ptr 4 [.d])]⟩) ⟨ch.length,0,by omega,by simp [dJJ,dTs,dL]⟩ ?_
     rintro m3 st ⟨k,hk3,rfl⟩
     repeat first|refine n1 ?_|((first|refine rg 22 [5,7,9,10,11,13,15] [5,7,9,10,11,13,15,104] [] ?_|refine nc ?_);simp (maxSteps:=1000000) [hF])
     refine ⟨fun hlt3=>?_,fun hge3=>?_⟩
     ·have hkl3:k < ch.length:=by omega
      have hn:=dFos_nth hkl3
      repeat first|refine n1 ?_|refine n2 ?_|refine n3 ?_|(((refine dr 24 0 [5,7,9,10,11,13,15] [5,7,9,10,11,13,15,115] [] [⟨0,2048,162259276829213363391578010288128,5⟩,⟨0,32768,324518553658426726783156020576256,5⟩,⟨3,486777830487640090174734030864384,649037107316853453566312041152512,5⟩,⟨4,649037107316853453566312041152512,1298074214633706907132624082305024,6⟩,⟨0,8192,2596148429267413814265248164610048,5⟩,⟨0,32768,5192296858534827628530496329220096,5⟩,⟨48,7788445287802241442795744493830144,10384593717069655257060992658440192,5⟩,⟨64,10384593717069655257060992658440192,20769187434139310514121985316880384,6⟩,⟨136,22067261648773017421254609399185408,41538374868278621028243970633760768,5⟩] (.take 0 (.take 1 (.take 2 (.take 3 (.take 4 (.take 5 (.take 6 (.take 7 (.take 8 (.done)))))))))) (.run [0,1,2,3,4,5,6,7,8] (.done)) ?_;simp only [drs]));simp (maxSteps:=1000000) [hF,hn,hkl3,dFo,dEnt])
      refine eqFo ?_
      simp (maxSteps:=1000000) [hF,hn,hkl3]
      repeat first|refine n2 ?_|refine n4 ?_|refine n5 ?_|refine n6 ?_|((first|refine rg 23 [5,7,9,10,11,13,15] [5,7,9,10,11,13,15] [] ?_|refine nc ?_);simp (maxSteps:=1000000) [hF])
      refine nextK.of [5,7,9,10,11,13,15] [0,1,2,3,4,5,6] (m3 - 1) (by omega) (by simp [hF]) ?_
      refine ⟨k + 1,by omega,?_⟩
      simp
      exact IntWalk.i64_in _ (by omega)
     ·repeat first|refine n4 ?_|refine n5 ?_|refine n6 ?_|refine n7 ?_|((refine rg 16 [5,7,9,10] [5,7,9,10] [] ?_);simp (maxSteps:=1000000) [hF])
      repeat first|refine n1 ?_
      refine nextK.of [5,7,9,10] [0,1,2,3,4] (m2 - 1) (by omega) (by simp [hF]) ?_
      refine ⟨i + 1,by omega,?_⟩
      simp
      exact IntWalk.i64_in _ (by omega)
    ·have he2:¬ (ChainOf s2 t nm []).2 = 0:=by rw [←hch];exact he
     have c1:=Chain_no true hok1 t nm he
     have c2:=Chain_no true hok2 t nm he2
     rw [←hch] at c2
     repeat first|refine n1 ?_|refine n2 ?_|refine n3 ?_|((first|refine rg 15 [5,7,9,10] [5,7,9,10,70] [] ?_|(refine dr 17 16 [5,7,9,10] [5,7,9,10,11,12] [] [⟨0,32,18889465931478580854784,5⟩,⟨1,18889465931478580854784,37778931862957161709568,6⟩,⟨0,512,75557863725914323419136,5⟩,⟨0,1024,151115727451828646838272,5⟩,⟨8,151115727451828646838272,302231454903657293676544,0⟩,⟨22,415568250492528778805248,604462909807314587353088,0⟩,⟨32,604462909807314587353088,9444732965739290427392,5⟩,⟨64,9444732965739290427392,1208925819614629174706176,5⟩,⟨64,9444732965739290427392,2417851639229258349412352,5⟩,⟨255,1208925819614629174706176,2048,5⟩,⟨1023,2417851639229258349412352,4096,5⟩] (.take 0 (.take 1 (.take 2 (.take 3 (.fork (.alt 4 (.fork (.alt 5 (.take 6 (.take 7 (.take 8 (.take 9 (.take 10 (.done)))))) (.nil))) (.nil))))))) (.run [0,1,2,3] (.chk 4 (.run [4,5,6,7,8,9,10] (.done)))) ?_;simp only [drs])|refine nc ?_);simp (maxSteps:=1000000) [hF,h4',dJJ])
     refine (name_ok i ⟨#[]⟩).go [] (by simp (maxSteps:=1000000) [hF,←hnm,dJJ]) ?_;rintro av X κ ⟨rfl,rfl,rfl⟩;simp (maxSteps:=1000000) [hF,←hnm,dJJ]
     refine (c1).go [(1,[])] (by simp (maxSteps:=1000000) [hF,dTs,dL]) ?_;rintro av X κ ⟨rfl,rfl,rfl⟩;simp (maxSteps:=1000000) [hF,dTs,dL]
     repeat first|refine n1 ?_|(((refine dr 18 16 [5,7,9,10,11,12] [5,7,9,10,11,12,13,14] [] [⟨0,128,9671406556917033397649408,5⟩,⟨1,9671406556917033397649408,19342813113834066795298816,6⟩,⟨0,512,38685626227668133590597632,5⟩,⟨0,1024,77371252455336267181195264,5⟩,⟨8,77371252455336267181195264,154742504910672534362390528,0⟩,⟨22,212770944252174734748286976,309485009821345068724781056,0⟩,⟨32,309485009821345068724781056,4835703278458516698824704,5⟩,⟨64,4835703278458516698824704,618970019642690137449562112,5⟩,⟨64,4835703278458516698824704,1237940039285380274899124224,5⟩,⟨255,618970019642690137449562112,8192,5⟩,⟨1023,1237940039285380274899124224,16384,5⟩] (.take 0 (.take 1 (.take 2 (.take 3 (.fork (.alt 4 (.fork (.alt 5 (.take 6 (.take 7 (.take 8 (.take 9 (.take 10 (.done)))))) (.nil))) (.nil))))))) (.run [0,1,2,3] (.chk 4 (.run [4,5,6,7,8,9,10] (.done)))) ?_;simp only [drs]));simp (maxSteps:=1000000) [hF])
     refine (name_ok i ⟨#[]⟩).go [] (by simp (maxSteps:=1000000) [hF,←hnm,dJJ]) ?_;rintro av X κ ⟨rfl,rfl,rfl⟩;simp (maxSteps:=1000000) [hF,←hnm,dJJ]
     refine (c2).go [(4,[])] (by simp (maxSteps:=1000000) [hF,dTs,dL]) ?_;rintro av X κ ⟨rfl,rfl,rfl⟩;simp (maxSteps:=1000000) [hF,dTs,dL]
     repeat first|refine n1 ?_|refine n2 ?_|refine n3 ?_|((first|refine rg 19 [5,7,9,10,11,12,13,14] [5,7,9,10,11,13,100] [(3,94)] ?_|refine rg 21 [5,7,9,10,11,13] [5,7,9,10,11,13,15] [] ?_|refine nc ?_);simp (maxSteps:=1000000) [hF])
     refine VS.rounds (fun m3 st=>st = ⟨[(5,.ptr 0 [.d]),(7,.ptr 3 [.d]),(9,avInt t),(10,avInt i),(11,.nils 6),(13,.nils 6),(15,avInt 0)],[dJJ,dTs true s1,dTR r1,dJJ,dTs true s2],[],
      [(0,[.d,.f 0],.ptr 1 [.d]),(0,[.d,.f 1],.ptr 2 [.d]),(3,[.d,.f 0],.ptr 4 [.d])]⟩) ⟨0,by simp [dJJ,dTs,dL]⟩ ?_
     rintro m3 st rfl
     repeat first|refine n1 ?_|refine n4 ?_|refine n5 ?_|refine n6 ?_|refine n7 ?_|((first|refine rg 16 [5,7,9,10] [5,7,9,10] [] ?_|refine rg 22 [5,7,9,10,11,13,15] [5,7,9,10,11,13,15,104] [] ?_|refine nc ?_);simp (maxSteps:=1000000) [hF])
     repeat first|refine n1 ?_
     refine nextK.of [5,7,9,10] [0,1,2,3,4] (m2 - 1) (by omega) (by simp [hF]) ?_
     refine ⟨i + 1,by omega,?_⟩
     simp
     exact IntWalk.i64_in _ (by omega)
   ·have h4':¬ (i:Int) < 4:=by omega
    repeat first|refine n1 ?_|refine n4 ?_|refine n5 ?_|refine n6 ?_|refine n7 ?_|((first|refine rg 13 [5,7,9] [5,7,9] [] ?_|refine rg 15 [5,7,9,10] [5,7,9,10,70] [] ?_|refine nc ?_);simp (maxSteps:=1000000) [hF,h4'])
    refine nextK.of [5,7,9] [0,1,2,3,4] (m - 1) (by omega) (by simp [hF]) ?_
    refine ⟨t + 1,by omega,?_⟩
    simp
    exact IntWalk.i64_in _ (by omega)
  ·repeat first|refine n1 ?_|refine n7 ?_|((refine rg 26 [] [2] [] ?_);simp (maxSteps:=1000000) [hF])
   refine (hsane).go [] (by simp (maxSteps:=1000000) [hF]) ?_;rintro av X κ ⟨rfl,rfl,rfl⟩;simp (maxSteps:=1000000) [hF]
   repeat first|refine n1 ?_
   (try refine nr ?_);(repeat first|refine nb_ ?_|refine nl_ ?_);refine endK.o [2] [] [] ?_;simp [hF,retK,covers,mpre]
end Go.Proofs.YtbhigdljojlhnaaGreat

/- Proved: MethodRefined returns true for every input, and its arguments read behind the call as before. No condition. -/
namespace Go.Proofs.YtbhigdljojlhnaaGreat.methodRefined
set_option linter.all false
open Go.Vc Go.ChangeShapes Go.WideShapes Go.ChangeAt Go.RowKit
set_option linter.unusedVariables false
theorem own:ownKnob Tryz.prog.godebug = none:=by kernel_rfl
theorem laid:laidOutB Tryz.prog = true:=by kernel_rfl
set_option maxRecDepth 100000 in
theorem lifted (os:Os) (started:os.Started) (H:Type) (enc:TypeId×Value→H) :
  ReturnsInHanded {} Tryz.checked os 6 .any (Rows.methodRefinedSpec.pre6 enc Tryz.prog Tryz.f6 Rows.methodRefinedRow.domain false) (Rows.methodRefinedSpec.post enc Tryz.prog Tryz.f6 false true false false):=by
 refine returnsInHanded_of_change (C:=Tryz.checked) own started (by kernel_rfl) Tryz.func6
  (ChangeSpec.witness6 (enc:=enc) (C:=Tryz.checked) false ⟨#[],#[.slice none 0 0],[]⟩ 8 (by kernel_rfl) (by kernel_rfl) (by kernel_rfl) (by kernel_rfl)) ?_
 intro W base args ds gs before hval0 hW hcnd _
 have hval:∀ (j:Nat) t v,Tryz.f6.params[j]? = some t→args[j]? = some v→Value.okWide Tryz.prog W .any base t v:=hval0
 have hW':=hW
 obtain ⟨p,q,hA0,hV,rfl,hfz,hnd⟩:=hW
 have hA:DataW.TrodAll enc Tryz.prog W 0 (fun _=>true) true Tryz.f6.params.toList args.toList ds p:=hA0
 rw [Tryz.params6] at hA hval
 obtain ⟨v0,vs0,d0,ds0,p0,q0,hargs0,rfl,rfl,h0,r0⟩:=trodAll_cons hA
 obtain ⟨rfl,rfl,rfl⟩:=trodAll_nil r0
 obtain rfl:args = #[v0]:=by cases args;simp_all
 obtain ⟨rfl,rfl⟩:=trodVars_none hV
 obtain ⟨a0,hlen0,hr0⟩:=deeds_of (hval 0 22 v0 rfl rfl) h0
 clear hA0 hval0
 have hwalk:Calls Tryz.prog 6 #[v0] W fun e w'=>e = .returned (.bool true)∧Below W.heap.size W w' :=
  Meets.law ((Meets.mono (methodRefined_ok a0 false hlen0) fun _ _ _ h=>h.1)) (vs:=[v0]) (I:=allB W) (fun _ h=>h) ⟨v0,_,rfl,hr0,rfl⟩
 refine hwalk.mono fun e W' ⟨he,bel⟩=>?_
 subst he
 exact ⟨_,rfl,_,_,_,[],_,[],hW',trodAll_mk1 (shut_bool Tryz.underlying4 _),(trodAll_cons_mk (Below.trod laid (by kernel_rfl) (of_decide_eq_true (by kernel_rfl)) h0 bel fun x hx=>hW'.lt x (by simp [hx])) trodAll_mk0),rfl,bel.frame _,fun h=>by cases h⟩
theorem over:Rows.methodRefinedRow.holds Tryz.pinned (OpenSpec.ofChange Rows.methodRefinedSpec) :=
 OpenClaim.holds_of_wide 6 Tryz.f6 rfl rfl rfl rfl rfl rfl rfl ⟨rfl,rfl,rfl,rfl,rfl⟩ rfl rfl rfl rfl rfl (by kernel_rfl) Tryz.func6 (by kernel_rfl)
  (of_decide_eq_true (by kernel_rfl)) (by unfold Func.isWrapper;first | (rw [if_pos (by decide +kernel)];kernel_rfl) | (rw [if_neg (by decide +kernel)];exact ⟨rfl,rfl⟩))
  (fun os started H enc _=>lifted os started H enc)
theorem proved:Rows.MethodRefinedSaid :=
 over
end Go.Proofs.YtbhigdljojlhnaaGreat.methodRefined
