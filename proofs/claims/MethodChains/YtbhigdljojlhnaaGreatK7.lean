/- The document's lineage: a module is put into a list of a thing. -/
import Derived.Test.YtbhigdljojlhnaaGreatK6
import Derived.Test.YtbhigdljojlhnaaGreatK3
import Derived.Test.YtbhigdljojlhnaaGreatK5
import Derived.Laws.StructEq
import Derived.ChangeMaps5
namespace Go.Proofs.YtbhigdljojlhnaaGreat
set_option linter.all false
open Go.Vc Go.Proofs
set_option linter.unusedSimpArgs false
set_option linter.unusedVariables false
set_option maxRecDepth 100000
set_option maxHeartbeats 4000000
attribute [local irreducible] CallW EqK
theorem rputP_ok {R:List Th} (W:WFL R) (hp:0 < R.length) (t m:Int) (hB:∀ t':Nat,t = t'→t' < R.length→val R m = true→(thAt R m).kind = 1→hasN (thAt R t).bef m = false→m≠t→hasN (ordL R m) t = false→∃ r,Base (withP R t' (m :: (thAt R t).bef)) r) :
  Meets Tryz.prog 108 [dR R] (.cons (.ptr 0 [.d]) (.cons (avInt t) (.cons (avInt m) (.cons (avBool true) .nil))))
  fun av X κ=>av = avInt (putP R t m).2∧X = [dR (putP R t m).1]∧κ = [(0,[.d])]:=by
 obtain ⟨r,B⟩:=W.base
 have hl:=B.len
 refine fb Tryz.func108 Tryz.ntmps108 [.tmp 8] fun w0 I0 F0 hF=>?_
 repeat first|refine n1 ?_|((first|refine rg 0 [0,1,2,3] [0,1,2,3] [] ?_|refine rg 1 [0,1,2,3] [0,1,2,3,36] [(4,20),(10,26)] ?_);simp (maxSteps:=1000000) [hF])
 cases hv:val R t with
 | false =>
  have hc:putP R t m = (R,1):=by unfold putP;rw [if_pos (by simp [hv])]
  refine (There_ok R t).go [(0,[])] (by simp (maxSteps:=1000000) [hF,dR,hv]) ?_;rintro av X κ ⟨rfl,rfl,rfl⟩;simp (maxSteps:=1000000) [hF,dR,hv]
  repeat first|refine n1 ?_|((first|refine rg 2 [] [8] [] ?_|refine nc ?_);simp (maxSteps:=1000000) [hF])
  (try refine nr ?_);(repeat first|refine nb_ ?_|refine nl_ ?_);refine endK.o [8] [0] [(0,[.d])] ?_;simp [hF,retK,covers,mpre,dR,hc]
 | true =>
  obtain ⟨t,rfl,ht⟩:=val_nat hv
  have hn:=dThs_nth ht
  have hth:=thAt_eq ht
  refine (There_ok R t).go [(0,[])] (by simp (maxSteps:=1000000) [hF,dR,hv]) ?_;rintro av X κ ⟨rfl,rfl,rfl⟩;simp (maxSteps:=1000000) [hF,dR,hv]
  cases hvm:val R m with
  | false =>
   have hc:putP R t m = (R,1):=by unfold putP;rw [if_pos (by simp [hvm])]
   refine (There_ok R m).go [(0,[])] (by simp (maxSteps:=1000000) [hF,dR,hvm]) ?_;rintro av X κ ⟨rfl,rfl,rfl⟩;simp (maxSteps:=1000000) [hF,dR,hvm]
   repeat first|refine n1 ?_|((first|refine rg 2 [] [8] [] ?_|refine nc ?_);simp (maxSteps:=1000000) [hF])
   (try refine nr ?_);(repeat first|refine nb_ ?_|refine nl_ ?_);refine endK.o [8] [0] [(0,[.d])] ?_;simp [hF,retK,covers,mpre,dR,hc]
  | true =>
   obtain ⟨m,rfl,hm⟩:=val_nat hvm
   have hnm:=dThs_nth hm
   have hthm:=thAt_eq hm
   by_cases hk:R[m].kind = 1
   ·have h0:¬ (val R t && (val R m && decide ((thAt R m).kind = 1))) = false:=by rw [hv,hvm,hthm,hk];simp
    have hlen:R[t].bef.length≤1000:=by
     have hx:R[t]? = some R[t]:=List.getElem?_eq_getElem ht
     have h1:=nodup_bound R.length (parents R[t]) (B.np _ _ hx) (fun u hu=>by have:=B.edge _ _ hx u (.inr hu);omega)
     have h2:=nodup_bound R.length R[t].bef (B.nb _ _ hx) (fun u hu=>by have:=B.edge _ _ hx u (.inl hu);omega)
     have h3:R[t].ins.length≤(parents R[t]).length:=by simp [parents]
     omega
    refine (There_ok R m).go [(0,[])] (by simp (maxSteps:=1000000) [hF,dR,hvm,hnm,hm,hk]) ?_;rintro av X κ ⟨rfl,rfl,rfl⟩;simp (maxSteps:=1000000) [hF,dR,hvm,hnm,hm,hk]
    repeat first|refine n1 ?_|refine n2 ?_|((first|refine rg 3 [0,1,2,3] [0,1,2,3,9] [] ?_|refine rg 4 [0,1,2,3,9] [0,1,2,3,9,45] [] ?_|refine rg 5 [0,1,2,3] [0,1,2,3,9] [] ?_|refine rg 6 [0,1,2,3,9] [0,1,2,3,9,56] [] ?_|refine nc ?_);simp (maxSteps:=1000000) [hF,dR,hn,ht])
    refine (Has_ok false R[t].bef m (by omega)).go [] (by simp (maxSteps:=1000000) [hF,dR]) ?_;rintro av X κ ⟨rfl,rfl,rfl⟩;simp (maxSteps:=1000000) [hF,dR]
    cases hd:hasN R[t].bef m with
    | true =>
     have hc:putP R t m = (R,7):=by unfold putP;rw [if_neg h0,hth,if_pos hd]
     repeat first|refine n1 ?_|((first|refine rg 7 [] [8] [] ?_|refine nc ?_);simp (maxSteps:=1000000) [hF,hd])
     (try refine nr ?_);(repeat first|refine nb_ ?_|refine nl_ ?_);refine endK.o [8] [0] [(0,[.d])] ?_;simp [hF,retK,covers,mpre,dR,hc]
    | false =>
     have hd':¬ hasN (thAt R t).bef m = true:=by rw [hth,hd];simp
     have hol:(ordL R m).length≤1000:=ord_len B hm (W.ord hm)
     have hno:=ords_nth hm
     have hlen2:(ords R).length = R.length:=by simp [ords]
     repeat first|refine n1 ?_|refine n2 ?_|((first|refine rg 8 [0,1,2,3,9] [0,1,2,3,9,10] [] ?_|refine nc ?_);simp (maxSteps:=1000000) [hF,hd])
     refine (Orders_yes W hp).go [(0,[])] (by simp (maxSteps:=1000000) [hF,dR,dO]) ?_;rintro av X κ ⟨kn,rfl,rfl,rfl⟩;simp (maxSteps:=1000000) [hF,dR,dO]
     by_cases hmt:(m:Int) = (t:Int)
     ·have hc:putP R t m = (R,10):=by unfold putP;rw [if_neg h0,if_neg hd',if_pos (.inl hmt)]
      repeat first|refine n1 ?_|((first|refine rg 9 [0,1,2,3,9,10] [0,1,2,3,9,72] [(3,65)] ?_|refine rg 10 [] [8] [] ?_|refine nc ?_);simp (maxSteps:=1000000) [hF,hmt])
      (try refine nr ?_);(repeat first|refine nb_ ?_|refine nl_ ?_);refine endK.o [8] [0] [(0,[.d])] ?_;simp [hF,retK,covers,mpre,dR,hc]
     ·repeat first|refine n1 ?_|((refine rg 9 [0,1,2,3,9,10] [0,1,2,3,9,72] [(3,65)] ?_);simp (maxSteps:=1000000) [hF,hmt,hno,hlen2,hm])
      refine (Has_ok false (ordL R m) t (by omega)).go [] (by simp (maxSteps:=1000000) [hF,dR]) ?_;rintro av X κ ⟨rfl,rfl,rfl⟩;simp (maxSteps:=1000000) [hF,dR]
      cases hh:hasN (ordL R m) t with
      | true =>
       have hc:putP R t m = (R,10):=by unfold putP;rw [if_neg h0,if_neg hd',if_pos (.inr hh)]
       repeat first|refine n1 ?_|((first|refine rg 10 [] [8] [] ?_|refine nc ?_);simp (maxSteps:=1000000) [hF,hh])
       (try refine nr ?_);(repeat first|refine nb_ ?_|refine nl_ ?_);refine endK.o [8] [0] [(0,[.d])] ?_;simp [hF,retK,covers,mpre,dR,hc]
      | false =>
       have h3:¬ ((m:Int) = t∨hasN (ordL R m) t = true):=by rw [hh];simp [hmt]
       obtain ⟨r2,B2⟩:=hB t rfl ht hvm (by rw [hthm];exact hk) (by rw [hth];exact hd) hmt hh
       have hwe:=withP_eq ht ((m:Int) :: R[t].bef)
       have hset:=dThs_set R t { R[t] with bef:=(m:Int) :: R[t].bef }
       rw [←hwe] at hset
       have hw0:withP R t ((m:Int) :: R[t].bef) = withP R (t:Int).toNat ((m:Int) :: (thAt R t).bef):=by rw [hth];rfl
       rw [hth] at B2
       have hl2:(withP R t ((m:Int) :: R[t].bef)).length = R.length:=by rw [hwe];simp
       have hcN:¬ (∀ k:Nat,k < R.length→∃ o,ordOf (withP R t ((m:Int) :: R[t].bef)) k = some o)→putP R t m = (R,10):=fun h=>by unfold putP;rw [if_neg h0,if_neg hd',if_neg h3,←hw0,if_neg h]
       have hcY:(∀ k:Nat,k < R.length→∃ o,ordOf (withP R t ((m:Int) :: R[t].bef)) k = some o)→putP R t m = (withP R t ((m:Int) :: R[t].bef),0):=fun h=>by unfold putP;rw [if_neg h0,if_neg hd',if_neg h3,←hw0,if_pos h]
       generalize withP R t ((m:Int) :: R[t].bef) = R2 at *
       have happ:(T.cons (.val (.int .i64 (m:Int))) .nil:D).app (dInts R[t].bef) = dInts ((m:Int) :: R[t].bef):=dInts_app [(m:Int)] R[t].bef
       have hmid:(dInts ((m:Int) :: R[t].bef)).mid 0 (1 + R[t].bef.length) = dInts ((m:Int) :: R[t].bef):=sq_mid_all _ _ (by simp;omega)
       have c3:(1 + R[t].bef.length) * 8≤140737488355328:=by omega
       have c4:1 + R[t].bef.length≤9223372036854775807:=by omega
       repeat first|refine n1 ?_|refine n2 ?_|((first|refine rg 11 [0,1,2,3,9] [0,1,2,3,9,12] [] ?_|refine nc ?_);simp (maxSteps:=1000000) [hF,hh])
       refine (rCopy_ok B).go [(0,[])] (by simp (maxSteps:=1000000) [hF,dR]) ?_;rintro av X κ ⟨rfl,rfl,rfl⟩;simp (maxSteps:=1000000) [hF,dR]
       clear hd' h3 h0 hh hmt hwe hw0 hd hB
       apply merged
       ·intro key
        by_cases hz:0 < R[t].bef.length
        ·repeat first|refine n1 ?_|((refine rg 12 [0,1,2,3,9,12] [0,1,3,12,13] [] ?_);simp (maxSteps:=1000000) [hF,dR,hn,ht,happ,c3,c4,hz])
         refine VS.cool 13 (by simp (maxSteps:=1000000) [hF,hmid]) ?_;simp [hF,St.cool,hmid]
         repeat first|refine n1 ?_|((first|refine rg 13 [0,1,3,12,13] [0,1,12,13,79] [] ?_|refine rg 14 [0,1,12,13] [0,12] [] ?_|refine nc ?_);simp (maxSteps:=1000000) [hF,dR,hn,ht,hset])
         refine VS.pick [0,12] [0,2] (by simp [hF]) ?_;simp [hF]
         exact key ()
        ·have he:R[t].bef = []:=List.eq_nil_of_length_eq_zero (by omega)
         have hset1:=hset
         simp only [he,dInts_one] at hset1
         have hn1:=hn
         rw [he] at hn1
         repeat first|refine n1 ?_|((refine rg 12 [0,1,2,3,9,12] [0,1,3,12,13] [] ?_);simp (maxSteps:=1000000) [hF,dR,hn1,ht,hz,he])
         refine VS.cool 13 (by simp (maxSteps:=1000000) [hF,T.freeze]) ?_;simp [hF,St.cool,T.freeze]
         repeat first|refine n1 ?_|((first|refine rg 13 [0,1,3,12,13] [0,1,12,13,79] [] ?_|refine rg 14 [0,1,12,13] [0,12] [] ?_|refine nc ?_);simp (maxSteps:=1000000) [hF,dR,hn1,ht,hset1])
         refine VS.pick [0,12] [0,2] (by simp [hF]) ?_;simp [hF]
         exact key ()
       by_cases hall:∀ k:Nat,k < R.length→∃ o,ordOf R2 k = some o
       ·have hc:=hcY hall
        rw [←hl2] at hall
        repeat first|((refine rg 16 [0,12] [0,12,15] [] ?_);simp (maxSteps:=1000000) [hF])
        refine (Orders_all B2 (by omega) hall).go [(1,[])] (by simp (maxSteps:=1000000) [hF,dR,dO]) ?_;rintro av X κ ⟨kn2,rfl,rfl,rfl⟩;simp (maxSteps:=1000000) [hF,dR,dO]
        repeat first|refine n1 ?_|refine n2 ?_|((first|refine rg 17 [0,12,15] [0,12,102] [] ?_|refine nc ?_);simp (maxSteps:=1000000) [hF])
        refine ghostL 1 [.d,.f 1] ?_;simp (maxSteps:=1000000) [hF,St.lift,AV.lift,liftPl,stripP,nodeAV,isNode,dR]
        have hmr:(dThs R2).mid 0 R.length = dThs R2:=sq_mid_all _ _ (by simp [hl2])
        repeat first|refine n1 ?_|((first|refine rg 19 [0,12] [] [] ?_|refine rg 20 [] [8] [] ?_);simp (maxSteps:=1000000) [hF,dR,hl2,hmr])
        (try refine nr ?_);(repeat first|refine nb_ ?_|refine nl_ ?_);refine endK.o [8] [0] [(0,[.d])] ?_;simp [hF,retK,covers,mpre,dR,hc]
       ·have hc:=hcN hall
        rw [←hl2] at hall
        repeat first|((refine rg 16 [0,12] [0,12,15] [] ?_);simp (maxSteps:=1000000) [hF])
        refine (Orders_not B2 (by omega) hall).go [(1,[])] (by simp (maxSteps:=1000000) [hF,dR]) ?_;rintro av X κ ⟨rfl,rfl,rfl⟩;simp (maxSteps:=1000000) [hF,dR]
        repeat first|refine n1 ?_|((first|refine rg 17 [0,12,15] [0,12,102] [] ?_|refine rg 18 [] [8] [] ?_|refine nc ?_);simp (maxSteps:=1000000) [hF])
        (try refine nr ?_);(repeat first|refine nb_ ?_|refine nl_ ?_);refine endK.o [8] [0] [(0,[.d])] ?_;simp [hF,retK,covers,mpre,dR,hc]
   ·have hc:putP R t m = (R,1):=by unfold putP;rw [if_pos (by rw [hthm];simp [hk])]
    refine (There_ok R m).go [(0,[])] (by simp (maxSteps:=1000000) [hF,dR,hvm,hnm,hm,hk]) ?_;rintro av X κ ⟨rfl,rfl,rfl⟩;simp (maxSteps:=1000000) [hF,dR,hvm,hnm,hm,hk]
    repeat first|refine n1 ?_|((first|refine rg 2 [] [8] [] ?_|refine nc ?_);simp (maxSteps:=1000000) [hF])
    (try refine nr ?_);(repeat first|refine nb_ ?_|refine nl_ ?_);refine endK.o [8] [0] [(0,[.d])] ?_;simp [hF,retK,covers,mpre,dR,hc]
theorem rInclude_ok {R:List Th} (W:WFL R) (hp:0 < R.length) (t m:Int) (hB:∀ t':Nat,t = t'→t' < R.length→val R m = true→(thAt R m).kind = 1→hasN (thAt R t).ins m = false→m≠t→hasN (ordL R m) t = false→∃ r,Base (withI R t' (m :: (thAt R t).ins)) r) :
  Meets Tryz.prog 63 [dR R] (.cons (.ptr 0 [.d]) (.cons (avInt t) (.cons (avInt m) .nil)))
  fun av X κ=>av = avInt (putI R t m).2∧X = [dR (putI R t m).1]∧κ = [(0,[.d])]:=by
 refine fb Tryz.func63 Tryz.ntmps63 [.tmp 6] fun w0 I0 F0 hF=>?_
 repeat first|refine n1 ?_|((first|refine rg 0 [0,1,2] [0,1,2] [] ?_|refine rg 1 [0,1,2] [6] [] ?_);simp (maxSteps:=1000000) [hF])
 refine (rputI_ok W hp t m hB).go [(0,[])] (by simp (maxSteps:=1000000) [hF,dR]) ?_;rintro av X κ ⟨rfl,rfl,rfl⟩;simp (maxSteps:=1000000) [hF,dR]
 repeat first|refine n1 ?_
 (try refine nr ?_);(repeat first|refine nb_ ?_|refine nl_ ?_);refine endK.o [6] [0] [(0,[.d])] ?_;simp [hF,retK,covers,mpre,dR]
theorem rPrepend_ok {R:List Th} (W:WFL R) (hp:0 < R.length) (t m:Int) (hB:∀ t':Nat,t = t'→t' < R.length→val R m = true→(thAt R m).kind = 1→hasN (thAt R t).bef m = false→m≠t→hasN (ordL R m) t = false→∃ r,Base (withP R t' (m :: (thAt R t).bef)) r) :
  Meets Tryz.prog 65 [dR R] (.cons (.ptr 0 [.d]) (.cons (avInt t) (.cons (avInt m) .nil)))
  fun av X κ=>av = avInt (putP R t m).2∧X = [dR (putP R t m).1]∧κ = [(0,[.d])]:=by
 refine fb Tryz.func65 Tryz.ntmps65 [.tmp 6] fun w0 I0 F0 hF=>?_
 repeat first|refine n1 ?_|((first|refine rg 0 [0,1,2] [0,1,2] [] ?_|refine rg 1 [0,1,2] [6] [] ?_);simp (maxSteps:=1000000) [hF])
 refine (rputP_ok W hp t m hB).go [(0,[])] (by simp (maxSteps:=1000000) [hF,dR]) ?_;rintro av X κ ⟨rfl,rfl,rfl⟩;simp (maxSteps:=1000000) [hF,dR]
 repeat first|refine n1 ?_
 (try refine nr ?_);(repeat first|refine nb_ ?_|refine nl_ ?_);refine endK.o [6] [0] [(0,[.d])] ?_;simp [hF,retK,covers,mpre,dR]
theorem wantF_mem {R:List Th} {r:Int→Nat} (U:Ups R r):∀ (n:Nat) (c:Int),(c < 0∨c < R.length)→∀ w∈wantF n R c,0≤w∧w < R.length
 | 0,_,_,w,hw=>by cases hw
 | n + 1,c,hc,w,hw=>by
  unfold wantF at hw
  split at hw
  ·cases hw
  ·rename_i h0
   split at hw
   ·cases hw
   ·have hcl:c < R.length:=hc.resolve_left h0
    rcases List.mem_cons.1 hw with rfl | hw
    ·exact ⟨by omega,hcl⟩
    ·refine wantF_mem U n _ ?_ w hw
     by_cases hs:(thAt R c).sup < 0
     ·exact .inl hs
     ·exact .inr (U.up c.toNat _ (get_thAt (by omega) hcl) (by omega)).1
theorem rmk_len (R:List Th) (l:List Int):(l.foldl rmk R).length = R.length + l.length:=by
 induction l generalizing R with
 | nil=>simp
 | cons a l ih=>rw [List.foldl_cons,ih];simp [rmk];omega
theorem drop_rev {l:List Int} {i:Nat} (h:i < l.length) (R:List Th):(l.drop i).reverse.foldl rmk R = rmk ((l.drop (i + 1)).reverse.foldl rmk R) l[i]:=by
 rw [List.drop_eq_getElem_cons h,List.reverse_cons,List.foldl_append];rfl
theorem rOwn_ok {R:List Th} {r:Int→Nat} (U:Ups R r) (hr:∀ t,r t≤1000) (t:Int):Meets Tryz.prog 67 [dR R] (.cons (.ptr 0 [.d]) (.cons (avInt t) .nil))
  fun av X κ=>av = two (rownOf R t).2∧X = [dR (rownOf R t).1]∧κ = [(0,[.d])]:=by
 have hl:=U.len
 refine fb Tryz.func67 Tryz.ntmps67 [.tmp 4,.tmp 5] fun w0 I0 F0 hF=>?_
 repeat first|refine n1 ?_|((first|refine rg 0 [0,1] [0,1] [] ?_|refine rg 1 [0,1] [0,1,25] [(4,15)] ?_);simp (maxSteps:=1000000) [hF])
 cases hv:val R t with
 | false =>
  have hc:rownOf R t = (R,0,1):=by unfold rownOf;rw [if_pos (.inl hv)]
  refine (There_ok R t).go [(0,[])] (by simp (maxSteps:=1000000) [hF,dR,hv]) ?_;rintro av X κ ⟨rfl,rfl,rfl⟩;simp (maxSteps:=1000000) [hF,dR,hv]
  repeat first|refine n1 ?_|((first|refine rg 2 [] [4,5] [] ?_|refine nc ?_);simp (maxSteps:=1000000) [hF])
  (try refine nr ?_);(repeat first|refine nb_ ?_|refine nl_ ?_);refine endK.o [4,5] [0] [(0,[.d])] ?_;simp [hF,retK,covers,mpre,dR,hc]
 | true =>
  obtain ⟨t,rfl,ht⟩:=val_nat hv
  have hn:=dThs_nth ht
  have hth:=thAt_eq ht
  by_cases h2:R[t].kind = 2
  ·have hc:rownOf R t = (R,0,1):=by unfold rownOf;rw [if_pos (.inr (by rw [hth];exact h2))]
   refine (There_ok R t).go [(0,[])] (by simp (maxSteps:=1000000) [hF,dR,hv,hn,ht,h2]) ?_;rintro av X κ ⟨rfl,rfl,rfl⟩;simp (maxSteps:=1000000) [hF,dR,hv,hn,ht,h2]
   repeat first|refine n1 ?_|((first|refine rg 2 [] [4,5] [] ?_|refine nc ?_);simp (maxSteps:=1000000) [hF])
   (try refine nr ?_);(repeat first|refine nb_ ?_|refine nl_ ?_);refine endK.o [4,5] [0] [(0,[.d])] ?_;simp [hF,retK,covers,mpre,dR,hc]
  ·have hnot:¬ (val R t = false∨(thAt R t).kind = 2):=by rw [hv,hth];simp [h2]
   refine (There_ok R t).go [(0,[])] (by simp (maxSteps:=1000000) [hF,dR,hv,hn,ht,h2]) ?_;rintro av X κ ⟨rfl,rfl,rfl⟩;simp (maxSteps:=1000000) [hF,dR,hv,hn,ht,h2]
   repeat first|refine n1 ?_|refine n2 ?_|((first|refine rg 3 [0,1] [0,1,6] [] ?_|refine nc ?_);simp (maxSteps:=1000000) [hF])
   refine (OwnOf_ok R (by omega) t).go [(0,[])] (by simp (maxSteps:=1000000) [hF,dR]) ?_;rintro av X κ ⟨rfl,rfl,rfl⟩;simp (maxSteps:=1000000) [hF,dR]
   by_cases h3:0≤ownIx R t
   ·have hc:rownOf R t = (R,ownIx R t,0):=by unfold rownOf;rw [if_neg hnot,if_pos h3]
    repeat first|refine n1 ?_|((first|refine rg 4 [0,1,6] [0,1,6,30] [] ?_|refine rg 5 [6] [4,5] [] ?_|refine nc ?_);simp (maxSteps:=1000000) [hF,h3])
    (try refine nr ?_);(repeat first|refine nb_ ?_|refine nl_ ?_);refine endK.o [4,5] [0] [(0,[.d])] ?_;simp [hF,retK,covers,mpre,dR,hc]
   ·have hrt:=hr t
    repeat first|refine n1 ?_|refine n2 ?_|((first|refine rg 4 [0,1,6] [0,1,6,30] [] ?_|refine rg 6 [0,1] [0,1,7] [] ?_|refine nc ?_);simp (maxSteps:=1000000) [hF,h3])
    refine VS.hold0 7 1 (by simp) ?_
    repeat first|refine n3 ?_|((refine rg 7 [0,1,7] [0,1,7,8] [] ?_);simp (maxSteps:=1000000) [hF])
    obtain ⟨W,hW⟩:∃ W,W = wantF 1001 R t:=⟨_,rfl⟩
    have hWm:=wantF_mem U 1001 t (.inr (by omega))
    refine VS.pick [0,1,7,8] [0,1] (by simp [hF]) ?_;simp [hF]
    refine VS.rounds (fun m st=>∃ (pre:List Int) (c:Int),W = pre ++ wantF m R c∧pre.length + m = 1001∧(c < 0∨c < R.length∧r c < m) ∧
     st = ⟨[(0,.ptr 0 [.d]),(1,avInt t),(7,.sub 1 [] 0 pre.length false),(8,avInt c)],[dR R,.sl true () 1 (dInts pre)],[],[]⟩) ⟨1001,[],t,hW,rfl,.inr ⟨by omega,by omega⟩,by simp [dR]⟩ ?_
    rintro m st ⟨pre,c,hpre,hpm,hcv,rfl⟩
    by_cases hgo:0≤c∧ownIx R c < 0
    ·obtain ⟨hc0,hco⟩:=hgo
     obtain ⟨k,rfl⟩:∃ k:Nat,c = k:=⟨c.toNat,by omega⟩
     obtain ⟨hkl,hkr⟩:=hcv.resolve_left (by omega)
     have hkl':k < R.length:=by omega
     obtain ⟨m,rfl⟩:∃ m',m = m' + 1:=⟨m - 1,by omega⟩
     have hws:wantF (m + 1) R k = (k:Int) :: wantF m R (thAt R k).sup:=by rw [wantF,if_neg (by omega),if_neg (by omega)]
     have hkn:=dThs_nth hkl'
     have hkth:=thAt_eq hkl'
     have happ:=dInts_app1 pre k
     have b1:(pre.length + 1) * 8≤140737488355328:=by omega
     have b2:pre.length + 1≤9223372036854775807:=by omega
     have hmid:=dInts_mid_all (pre ++ [(k:Int)])
     rw [hws,hkth] at hpre
     repeat first|refine n1 ?_|((refine rg 8 [0,1,7,8] [0,1,7,8,40] [(2,35)] ?_);simp (maxSteps:=1000000) [hF])
     refine (OwnOf_ok R (by omega) k).go [(0,[])] (by simp (maxSteps:=1000000) [hF,dR,hco]) ?_;rintro av X κ ⟨rfl,rfl,rfl⟩;simp (maxSteps:=1000000) [hF,dR,hco]
     repeat first|refine n1 ?_|refine n2 ?_|refine n3 ?_|refine n4 ?_|refine n5 ?_|refine n6 ?_|((first|refine rg 9 [0,1,7,8] [0,1,7,8] [] ?_|refine rg 10 [0,1,7,8] [0,1,7,8] [] ?_|refine nc ?_);simp (maxSteps:=1000000) [hF,dR,hkn,hkl',happ,b1,b2])
     refine nextK.of [0,1,7,8] [0,1] (m) (by omega) (by simp [hF]) ?_
     refine ⟨pre ++ [(k:Int)],R[k].sup,by rw [hpre];simp,by simp;omega,?_,?_⟩
     ·by_cases hs:R[k].sup < 0
      ·exact .inl hs
      ·have:=U.up k _ (List.getElem?_eq_getElem hkl') (by omega)
       exact .inr ⟨this.1,by omega⟩
     ·simp [dR]
    ·have hend:wantF m R c = []:=by
      cases m with
      | zero=>rfl
      | succ m =>
       rw [wantF]
       by_cases hc0:c < 0
       ·rw [if_pos hc0]
       ·rw [if_neg hc0,if_pos (by omega)]
     rw [hend,List.append_nil] at hpre
     subst hpre
     have hWl:W.length≤1001:=by omega
     apply merged
     ·intro key
      by_cases hc0:c < 0
      ·have hc0':¬ 0≤c:=by omega
       repeat first|refine n1 ?_|refine n7 ?_|((first|refine rg 8 [0,1,7,8] [0,1,7,8,40] [(2,35)] ?_|refine nc ?_);simp (maxSteps:=1000000) [hF,hc0'])
       refine VS.pick [0,1,7] [0,1] (by simp [hF]) ?_;simp [hF]
       exact key ()
      ·have hc0':0≤c:=by omega
       have hco:¬ ownIx R c < 0:=by omega
       repeat first|refine n1 ?_|((refine rg 8 [0,1,7,8] [0,1,7,8,40] [(2,35)] ?_);simp (maxSteps:=1000000) [hF,hc0'])
       refine (OwnOf_ok R (by omega) c).go [(0,[])] (by simp (maxSteps:=1000000) [hF,dR,hco]) ?_;rintro av X κ ⟨rfl,rfl,rfl⟩;simp (maxSteps:=1000000) [hF,dR,hco]
       repeat first|refine n1 ?_|refine n7 ?_|((refine nc ?_);simp (maxSteps:=1000000) [hF])
       refine VS.pick [0,1,7] [0,1] (by simp [hF]) ?_;simp [hF]
       exact key ()
     have hw1:IntKind.i64.wrap ((R.length:Int) + W.length) = R.length + W.length:=IntWalk.i64_in _ (by omega)
     by_cases hf:1000 < R.length + W.length
     ·have hc:rownOf R t = (R,0,9):=by unfold rownOf;rw [if_neg hnot,if_neg h3,if_pos (by rw [←hW];exact hf)]
      have hf':(1000:Int) < (R.length:Int) + W.length:=by omega
      repeat first|refine n1 ?_|((first|refine rg 11 [0,1,7] [0,1,7,61] [] ?_|refine rg 12 [] [4,5] [] ?_|refine nc ?_);simp (maxSteps:=1000000) [hF,dR,hw1,hf'])
      (try refine nr ?_);(repeat first|refine nb_ ?_|refine nl_ ?_);refine endK.o [4,5] [0] [(0,[.d])] ?_;simp [hF,retK,covers,mpre,dR,hc]
     ·have hc:rownOf R t = (W.reverse.foldl rmk R,ownIx (W.reverse.foldl rmk R) t,0):=by unfold rownOf;rw [if_neg hnot,if_neg h3,if_neg (by rw [←hW];exact hf),←hW]
      have hf':¬ (1000:Int) < (R.length:Int) + W.length:=by omega
      have hw2:IntKind.i64.wrap ((W.length:Int) - 1) = W.length - 1:=IntWalk.i64_in _ (by omega)
      rw [←hW] at hWm
      repeat first|refine n1 ?_|refine n2 ?_|refine n3 ?_|((first|refine rg 11 [0,1,7] [0,1,7,61] [] ?_|refine rg 13 [0,1,7] [0,1,7,9] [] ?_|refine nc ?_);simp (maxSteps:=1000000) [hF,dR,hw1,hf',hw2])
      refine VS.widen [(0,[.d])] (by simp [covers,mpre]) ?_
      refine VS.pick [0,1,7,9] [0,1] (by simp [hF]) ?_;simp [hF]
      refine VS.rounds (fun j st=>∃ (Q:List Th),j≤W.length∧Q = (W.drop j).reverse.foldl rmk R∧st = ⟨[(0,.ptr 0 [.d]),(1,avInt t),(7,.sub 1 [] 0 W.length false),(9,avInt ((j:Int) - 1))],[dR Q,.sl true () 1 (dInts W)],[(0,[.d])],[]⟩)
       ⟨W.length,R,Nat.le_refl _,by rw [List.drop_length];rfl,by simp [dR]⟩ ?_
      rintro j st ⟨Q,hj,hQ,rfl⟩
      have hQl:Q.length = R.length + (W.length - j):=by rw [hQ,rmk_len];simp
      cases j with
      | zero =>
       rw [List.drop_zero] at hQ
       subst hQ
       repeat first|refine n1 ?_|refine n7 ?_|((first|refine rg 14 [0,1,7,9] [0,1,7,9,66] [] ?_|refine rg 20 [0,1] [4,5] [] ?_|refine nc ?_);simp (maxSteps:=1000000) [hF])
       refine (OwnOf_ok (W.reverse.foldl rmk R) (by omega) t).go [(0,[])] (by simp (maxSteps:=1000000) [hF,dR]) ?_;rintro av X κ ⟨rfl,rfl,rfl⟩;simp (maxSteps:=1000000) [hF,dR]
       repeat first|refine n1 ?_
       (try refine nr ?_);(repeat first|refine nb_ ?_|refine nl_ ?_);refine endK.o [4,5] [0] [(0,[.d])] ?_;simp [hF,retK,covers,mpre,dR,hc]
      | succ i =>
       have hil:i < W.length:=by omega
       have hwi:=dInts_nth hil
       obtain ⟨w0',w1'⟩:=hWm W[i] (List.getElem_mem hil)
       have hrev:=drop_rev hil R
       rw [←hQ] at hrev
       generalize W[i] = w at *
       obtain ⟨w,rfl⟩:∃ k:Nat,w = k:=⟨w.toNat,by omega⟩
       have hwQ:w < Q.length:=by omega
       have hwn:=dThs_nth hwQ
       have hwth:=thAt_eq hwQ
       have e1:(((i + 1:Nat):Int) - 1) = i:=by omega
       have hw3:IntKind.i64.wrap ((i:Int) - 1) = (i:Int) - 1:=IntWalk.i64_in _ (by omega)
       have hab:aboveOf Q w = if 0≤Q[w].sup then ownIx Q Q[w].sup else 0:=by unfold aboveOf;rw [hwth]
       simp only [e1]
       by_cases hs:0≤Q[w].sup
       ·rw [if_pos hs] at hab
        repeat first|refine n1 ?_|refine n2 ?_|refine n3 ?_|((first|refine rg 14 [0,1,7,9] [0,1,7,9,66] [] ?_|refine rg 16 [0,1,7,9] [0,1,7,9,10] [] ?_|(refine dr 17 0 [0,1,7,9,10] [0,1,7,9,10,80] [] [⟨0,1,590295810358705651712,5⟩,⟨1,590295810358705651712,1180591620717411303424,5⟩,⟨2,1180591620717411303424,2361183241434822606848,5⟩,⟨4,2361183241434822606848,4722366482869645213696,6⟩,⟨0,128,9444732965739290427392,5⟩,⟨0,512,18889465931478580854784,5⟩,⟨48,28334198897217871282176,37778931862957161709568,5⟩,⟨64,37778931862957161709568,75557863725914323419136,6⟩,⟨136,80280230208783968632832,151115727451828646838272,5⟩,⟨256,151115727451828646838272,302231454903657293676544,5⟩,⟨512,302231454903657293676544,604462909807314587353088,6⟩,⟨1024,604462909807314587353088,1208925819614629174706176,5⟩] (.take 0 (.take 1 (.take 2 (.take 3 (.take 4 (.take 5 (.take 6 (.take 7 (.take 8 (.take 9 (.take 10 (.take 11 (.done))))))))))))) (.run [0,1,2,3,4,5,6,7,8,9,10,11] (.done)) ?_;simp only [drs])|(refine dr 18 0 [0,1,7,9] [0,1,7,9,10] [] [⟨0,1,2417851639229258349412352,5⟩,⟨0,1,4835703278458516698824704,5⟩,⟨2,4835703278458516698824704,9671406556917033397649408,5⟩,⟨4,9671406556917033397649408,19342813113834066795298816,5⟩,⟨8,19342813113834066795298816,38685626227668133590597632,6⟩,⟨0,128,77371252455336267181195264,5⟩,⟨0,512,154742504910672534362390528,5⟩,⟨96,232113757366008801543585792,309485009821345068724781056,5⟩,⟨128,309485009821345068724781056,618970019642690137449562112,6⟩,⟨272,657655645870358271040159744,1237940039285380274899124224,5⟩,⟨512,1237940039285380274899124224,2475880078570760549798248448,5⟩,⟨1024,2475880078570760549798248448,4951760157141521099596496896,6⟩,⟨2049,4954178008780750357945909248,9903520314283042199192993792,0⟩,⟨8191,9903520314283042199192993792,1024,5⟩] (.take 0 (.take 1 (.take 2 (.take 3 (.take 4 (.take 5 (.take 6 (.take 7 (.take 8 (.take 9 (.take 10 (.take 11 (.fork (.alt 12 (.take 13 (.done)) (.nil))))))))))))))) (.run [0,1,2,3,4,5,6,7,8,9,10,11,12,13] (.done)) ?_;simp only [drs])|refine nc ?_);simp (maxSteps:=1000000) [hF,dR,hwi,hil,hwn,hwQ,hs])
        refine (OwnOf_ok Q (by omega) Q[w].sup).go [(0,[])] (by simp (maxSteps:=1000000) [hF,dR,hwi,hil]) ?_;rintro av X κ ⟨rfl,rfl,rfl⟩;simp (maxSteps:=1000000) [hF,dR,hwi,hil]
        repeat first|((refine rg 19 [0,1,7,9,10] [0,1,7,9] [] ?_);simp (maxSteps:=1000000) [hF,dR,hwi,hil])
        refine (radd_ok Q (by omega) 2 (ownIx Q Q[w].sup) (-1) w).go [(0,[])] (by simp (maxSteps:=1000000) [hF,dR]) ?_;rintro av X κ ⟨rfl,rfl,rfl⟩;simp (maxSteps:=1000000) [hF,dR]
        repeat first|refine n4 ?_|refine n5 ?_
        refine VS.widen [(0,[.d])] (by simp [covers,mpre]) ?_
        repeat first|refine n4 ?_|refine n6 ?_|((refine rg 15 [0,1,7,9] [0,1,7,9] [] ?_);simp (maxSteps:=1000000) [hF,hw3])
        refine nextK.of [0,1,7,9] [0,1] (i) (by omega) (by simp [hF]) ?_
        refine ⟨rmk Q w,by omega,hrev.symm,?_⟩
        simp [dR,rmk,hab]
       ·rw [if_neg hs] at hab
        repeat first|refine n1 ?_|refine n2 ?_|refine n3 ?_|((first|refine rg 14 [0,1,7,9] [0,1,7,9,66] [] ?_|refine rg 16 [0,1,7,9] [0,1,7,9,10] [] ?_|(refine dr 17 0 [0,1,7,9,10] [0,1,7,9,10,80] [] [⟨0,1,590295810358705651712,5⟩,⟨1,590295810358705651712,1180591620717411303424,5⟩,⟨2,1180591620717411303424,2361183241434822606848,5⟩,⟨4,2361183241434822606848,4722366482869645213696,6⟩,⟨0,128,9444732965739290427392,5⟩,⟨0,512,18889465931478580854784,5⟩,⟨48,28334198897217871282176,37778931862957161709568,5⟩,⟨64,37778931862957161709568,75557863725914323419136,6⟩,⟨136,80280230208783968632832,151115727451828646838272,5⟩,⟨256,151115727451828646838272,302231454903657293676544,5⟩,⟨512,302231454903657293676544,604462909807314587353088,6⟩,⟨1024,604462909807314587353088,1208925819614629174706176,5⟩] (.take 0 (.take 1 (.take 2 (.take 3 (.take 4 (.take 5 (.take 6 (.take 7 (.take 8 (.take 9 (.take 10 (.take 11 (.done))))))))))))) (.run [0,1,2,3,4,5,6,7,8,9,10,11] (.done)) ?_;simp only [drs])|refine rg 19 [0,1,7,9,10] [0,1,7,9] [] ?_|refine nc ?_);simp (maxSteps:=1000000) [hF,dR,hwi,hil,hwn,hwQ,hs])
        refine (radd_ok Q (by omega) 2 0 (-1) w).go [(0,[])] (by simp (maxSteps:=1000000) [hF,dR]) ?_;rintro av X κ ⟨rfl,rfl,rfl⟩;simp (maxSteps:=1000000) [hF,dR]
        repeat first|refine n4 ?_|refine n5 ?_
        refine VS.widen [(0,[.d])] (by simp [covers,mpre]) ?_
        repeat first|refine n4 ?_|refine n6 ?_|((refine rg 15 [0,1,7,9] [0,1,7,9] [] ?_);simp (maxSteps:=1000000) [hF,hw3])
        refine nextK.of [0,1,7,9] [0,1] (i) (by omega) (by simp [hF]) ?_
        refine ⟨rmk Q w,by omega,hrev.symm,?_⟩
        simp [dR,rmk,hab]
end Go.Proofs.YtbhigdljojlhnaaGreat

/- The document's tables, plainly; how they stand to the program's. -/
namespace Go.Proofs.YtbhigdljojlhnaaGreat
set_option linter.all false
open Go.Vc Go.Proofs
abbrev RK:=Key×ByteArray
structure Rt where
 R:List Th
 rows:List (RK×En)
 frz:List Int
def dRw (x:RK×En):D:=.agg (.cons (.val (.int .i64 x.1.1.1)) (.cons (.val (.int .i64 x.1.1.2)) (.cons (.val (.string x.1.2)) (.cons (dEnt x.2) .nil))))
def dRws (l:List (RK×En)):D:=sq (l.map dRw)
def dTR (r:Rt):D:=.box true () (.agg (.cons (.val (.bool true)) (.cons (dR r.R) (.cons (.sl true () 7 (dRws r.rows)) (.cons (.sl true () 1 (dInts r.frz)) .nil)))))
@[simp high] theorem head_dTR (r:Rt):isHead (dTR r) = true:=by rw [dTR,isHead]
@[simp] theorem width_dR (R:List Th):(dR R).width = 1:=rfl
@[simp] theorem width_dRw (x:RK×En):(dRw x).width = 7:=rfl
@[simp] theorem dRws_len (l:List (RK×En)):(dRws l).len = l.length:=by simp [dRws]
@[simp] theorem dRws_nil:dRws [] = .nil:=rfl
theorem dRws_nth {l:List (RK×En)} {i:Nat} (h:i < l.length):(dRws l).nth i = dRw l[i]:=by rw [dRws,sq_nth_lt (by simpa using h)];simp
theorem dRws_set (l:List (RK×En)) (i:Nat) (x:RK×En):(dRws l).setN i (dRw x) = dRws (l.set i x):=by simp only [dRws,sq_setN,List.map_set]
theorem dRws_app1 (l:List (RK×En)) (x:RK×En):(dRws l).app (.cons (dRw x) .nil) = dRws (l ++ [x]):=by simp only [dRws,List.map_append,←sq_app];rfl
@[simp] theorem dRws_free (l:List (RK×En)):(dRws l).free = true:=sq_free fun x hx=>by obtain ⟨n,_,rfl⟩:=List.mem_map.1 hx;rfl
@[simp] theorem dRws_mid_all (l:List (RK×En)):(dRws l).mid 0 l.length = dRws l:=sq_mid_all _ _ (by simp)
theorem dRws_mid (l:List (RK×En)) (lo n:Nat):(dRws l).mid lo n = dRws ((l.drop lo).take n):=by simp only [dRws,sq_mid,←List.map_drop,←List.map_take]
theorem dRws_app (l m:List (RK×En)):(dRws l).app (dRws m) = dRws (l ++ m):=by simp only [dRws,sq_app,List.map_append]
def isRow (k:RK) (x:RK×En):Bool:=decide (x.1 = k)
def rplace (l:List (RK×En)) (k:RK):Int:=ixF (isRow k) l
theorem rplace_some {l:List (RK×En)} {k:RK} {e:En} (h:aget l k = some e):rplace l k = aidx l k∧∃ hi:aidx l k < l.length,l[aidx l k] = (k,e):=by
 obtain ⟨hi,hv⟩:=aidx_lt h
 refine ⟨ixF_hit hi (fun j hj=>?_) (by simp [isRow,hv]),hi,hv⟩
 have:∀ (l:List (RK×En)) (j:Nat) (hl:j < l.length),j < aidx l k→isRow k l[j] = false:=by
  intro l
  induction l with
  | nil=>intro j hl;simp at hl
  | cons e l ih =>
   intro j hl hj
   unfold aidx at hj
   split at hj
   ·omega
   ·rename_i hne
    cases j with
    | zero=>simpa [isRow] using hne
    | succ j=>simpa using ih j (by simpa using hl) (by omega)
 exact this l j (by omega) hj
theorem rplace_none {l:List (RK×En)} {k:RK} (h:aget l k = none):rplace l k = -1:=by
 refine ixF_miss fun j hj=>?_
 have:=aget_none.1 h
 simp only [isRow,decide_eq_false_iff_not]
 intro e
 exact this (List.mem_map.2 ⟨_,List.getElem_mem hj,e⟩)
theorem aput_new {l:List (RK×En)} {k:RK} (h:aget l k = none) (e:En):aput l k e = l ++ [(k,e)]:=by
 induction l with
 | nil=>rfl
 | cons x l ih =>
  unfold aget at h
  by_cases hx:x.1 = k
  ·rw [if_pos hx] at h;cases h
  ·rw [if_neg hx] at h
   rw [aput,if_neg hx,ih h];rfl
theorem adel_at {l:List (RK×En)} {k:RK} {e:En} (h:aget l k = some e):adel l k = l.take (aidx l k) ++ l.drop (aidx l k + 1):=by
 induction l with
 | nil=>cases h
 | cons x l ih =>
  unfold aget at h
  unfold adel aidx
  by_cases hx:x.1 = k
  ·rw [if_pos hx,if_pos hx];simp
  ·rw [if_neg hx] at h
   rw [if_neg hx,if_neg hx,ih h];simp
structure TR (c:Nat) (s:Mt) (r:Rt):Prop where
 lr:LR s.L r.R
 rows:∀ k n,lkp s k n = aget r.rows (k,n)
 fzn:∀ t,frz s t = hasN r.frz t
 nd:(r.rows.map (·.1)).Nodup
 cap:r.rows.length≤c∧r.frz.length≤c
theorem TR.le {c d:Nat} {s:Mt} {r:Rt} (h:TR c s r) (hc:c≤d):TR d s r:=⟨h.lr,h.rows,h.fzn,h.nd,Nat.le_trans h.cap.1 hc,Nat.le_trans h.cap.2 hc⟩
theorem TR.put {c:Nat} {s:Mt} {r:Rt} (h:TR c s r) (k:Key) (n:ByteArray) (e:En):TR (c + 1) (putOf s k n e) { r with rows:=aput r.rows (k,n) e }:=by
 refine ⟨h.lr,fun k' n'=>?_,fun t=>h.fzn t,aput_nodup h.nd _ _,?_,Nat.le_trans h.cap.2 (by omega)⟩
 ·rw [lkp_put]
  simp only [aget_put,Prod.mk.injEq,h.rows]
 ·exact Nat.le_trans (aput_len _ _ _) (by have:=h.cap.1;omega)
theorem TR.del {c:Nat} {s:Mt} {r:Rt} (h:TR c s r) (hs:MtOk s) (k:Key) (n:ByteArray):TR c (delOf s k n) { r with rows:=adel r.rows (k,n) }:=by
 refine ⟨h.lr,fun k' n'=>?_,fun t=>h.fzn t,adel_nodup h.nd _,?_,h.cap.2⟩
 ·rw [lkp_del hs]
  simp only [aget_del h.nd,Prod.mk.injEq,h.rows]
 ·exact Nat.le_trans (adel_len _ _) h.cap.1
theorem TR.freeze {c:Nat} {s:Mt} {r:Rt} (h:TR c s r) (t:Int):TR (c + 1) { s with fz:=aput s.fz t true } { r with frz:=r.frz ++ [t] }:=by
 refine ⟨h.lr,h.rows,fun u=>?_,h.nd,Nat.le_trans h.cap.1 (by omega),by simp only [List.length_append,List.length_singleton];have:=h.cap.2;omega⟩
 have hf:=h.fzn u
 simp only [frz,aget_put] at hf ⊢
 simp only [hasN,List.any_append,List.any_cons,List.any_nil,Bool.or_false] at hf ⊢
 rw [←hf]
 by_cases e:u = t
 ·subst e;simp
 ·simp [e,Ne.symm e]
theorem TR.lin {c:Nat} {s:Mt} {r:Rt} (h:TR c s r) {L R:List Th} (hl:LR L R):TR c { s with L:=L } { r with R:=R }:=⟨hl,h.rows,h.fzn,h.nd,h.cap⟩
def firstAt (s:Mt) (x:Int) (n:ByteArray):List Int→Option Fo
 | []=>(lkp s (x,-1) n).map fun e=>⟨e,x,-1⟩
 | m :: act=>match lkp s (x,m) n with
  | some e=>some ⟨e,x,m⟩
  | none=>firstAt s x n act
theorem firstOf_cons (s:Mt) (k:Key) (l:List Key) (n:ByteArray):firstOf s (k :: l) n = match lkp s k n with
  | some e=>(⟨e,k.1,k.2⟩,decide (e.body≠-1))
  | none=>firstOf s l n:=rfl
theorem firstOf_at (s:Mt) (x:Int) (n:ByteArray) (rest:List Key):∀ act:List Int,firstOf s ((act.map fun m=>(x,m)) ++ (x,-1) :: rest) n = match firstAt s x n act with
  | some f=>(f,decide (f.e.body≠-1))
  | none=>firstOf s rest n
 | []=>by
  show firstOf s ((x,-1) :: rest) n = _
  rw [firstOf_cons,firstAt]
  cases lkp s (x,-1) n <;> rfl
 | m :: act=>by
  show firstOf s ((x,m) :: ((act.map fun m=>(x,m)) ++ (x,-1) :: rest)) n = _
  rw [firstOf_cons,firstAt]
  cases hm:lkp s (x,m) n with
  | some e=>rfl
  | none=>exact firstOf_at s x n rest act
def placesT (l act:List Int):List Key:=l.flatMap fun x=>act.map (fun m=>(x,m)) ++ [(x,-1)]
theorem placesT_cons (x:Int) (l act:List Int):placesT (x :: l) act = (act.map fun m=>(x,m)) ++ (x,-1) :: placesT l act:=by
 unfold placesT;rw [List.flatMap_cons,List.append_assoc];rfl
theorem ite_P {α:Type} (P:α→Prop) {p:Prop} [Decidable p] {a b:α} (h1:P a) (h2:P b):P (if p then a else b):=by split <;> assumption
structure MDeed where
 op:Int
 a:Int
 b:Int
 c:Int
 d:Int
 n:Int
 m:Int
 name:ByteArray
abbrev fA:ByteArray:=⟨#[97]⟩
abbrev fB:ByteArray:=⟨#[98]⟩
abbrev fC:ByteArray:=⟨#[99]⟩
abbrev fF:ByteArray:=⟨#[102,111,111,61]⟩
theorem u64_nonneg (x:Int):0≤IntKind.u64.wrap x:=by simp only [IntKind.wrap,IntKind.bits,IntKind.signed];simp;omega
def fitN (x:Int) (n:Nat):Nat:=((IntKind.u64.wrap x).tmod n).toNat
theorem fitN_eq (x:Int) {n:Nat} (h:0 < n):(IntKind.u64.wrap x).tmod n = (fitN x n:Int)∧fitN x n < n:=by
 have h1:0≤(IntKind.u64.wrap x).tmod n:=Int.tmod_nonneg _ (u64_nonneg x)
 have h2:(IntKind.u64.wrap x).tmod n < n:=Int.tmod_lt_of_pos _ (by omega)
 unfold fitN
 omega
def nameIx (n:Int):Nat:=fitN n 5
def nameOf (n:Int) (s:ByteArray):ByteArray:=if nameIx n = 0 then fA else if nameIx n = 1 then fB else if nameIx n = 2 then fC else if nameIx n = 3 then fF else s
def MDeed.nm (d:MDeed):ByteArray:=nameOf d.n d.name
def MDeed.old (d:MDeed):ByteArray:=nameOf d.m d.name
def linOf (s:Mt) (L:List Th):Mt:={ s with L:=L }
@[simp] theorem linOf_L (s:Mt) (L:List Th):(linOf s L).L = L:=rfl
noncomputable def doM (s:Mt) (d:MDeed):Mt :=
 if d.op = 0 then (defineOf s d.a d.nm d.c d.d).1
 else if d.op = 1 then (refineOf s d.a d.b d.nm d.c).1
 else if d.op = 2 then (undefOf s d.a d.nm).1
 else if d.op = 3 then (removeOf s d.a d.nm).1
 else if d.op = 4 then (aliasOf s d.a d.nm d.old).1
 else if d.op = 5 then (showOf s d.a d.nm d.c).1
 else if d.op = 6 then (freezeOf s d.a).1
 else if d.op = 7 then linOf s (classOf s.L d.a).1
 else if d.op = 8 then linOf s (moduleOf s.L).1
 else if d.op = 9 then linOf s (putI s.L d.a d.b).1
 else if d.op = 10 then linOf s (putP s.L d.a d.b).1
 else if d.op = 11 then linOf s (ownOf s.L d.a).1
 else s
def s0:Mt:=⟨L0,[],[]⟩
theorem s0_ok:MtOk s0:=⟨L0_OK,by decide,by decide,(fun _ _ h=>by cases h),by decide⟩
noncomputable def playM (l:List MDeed):Mt:=l.foldl doM s0
theorem playM_snoc (l:List MDeed) (d:MDeed):playM (l ++ [d]) = doM (playM l) d:=by unfold playM;rw [List.foldl_append];rfl
theorem MtOk.lin {s:Mt} (h:MtOk s) {L:List Th} (hl:OK L) (hp:0 < L.length):MtOk (linOf s L):=⟨hl,hp,h.nd,h.ns,h.nf⟩
theorem MtOk.fr {s:Mt} (h:MtOk s) (t:Int):MtOk { s with fz:=aput s.fz t true }:=⟨h.ok,h.pos,h.nd,h.ns,aput_nodup h.nf _ _⟩
theorem findOf_lkp {s:Mt} {t:Int} {n:ByteArray} {act:List Int} (h:(findOf s t n act).2 = true):lkp s ((findOf s t n act).1.th,(findOf s t n act).1.md) n = some (findOf s t n act).1.e∧(findOf s t n act).1.e.body≠-1:=by
 have h':firstOf s (placesOf s t act) n = ((findOf s t n act).1,true):=by rw [←h];rfl
 obtain ⟨i,hi,h1,h2,h3,_⟩:=firstOf_hit h'
 exact ⟨h2,h3⟩
def EB (s:Mt):Prop:=∀ k n e,lkp s k n = some e→-1≤e.body
def Chg (s s':Mt) (n:ByteArray):Prop:=s'.tabs = s.tabs∨(∃ k e,s'.tabs = (putOf s k n e).tabs∧(EB s→-1≤e.body))∨∃ k,s'.tabs = (delOf s k n).tabs
theorem lkp_tabs {s s':Mt} (h:s'.tabs = s.tabs) (k:Key) (n:ByteArray):lkp s' k n = lkp s k n:=by unfold lkp;rw [h]
theorem define_chg (s:Mt) (t:Int) (n:ByteArray) (b v:Int):Chg s (defineOf s t n b v).1 n:=by
 unfold defineOf
 split
 ·rename_i h
  refine .inr (.inl ⟨_,_,rfl,fun _=>?_⟩)
  have hf:(bodyB b && visB v) = true:=by
   cases hb:(bodyB b && visB v) with
   | true=>rfl
   | false=>rw [hb] at h;simp [chgE,askE] at h
  simp only [bodyB,Bool.and_eq_true,decide_eq_true_eq] at hf
  show -1≤b
  omega
 ·exact .inl rfl
theorem refine_chg (s:Mt) (m t:Int) (n:ByteArray) (b:Int):Chg s (refineOf s m t n b).1 n:=by
 unfold refineOf
 split
 ·rename_i h
  refine .inr (.inl ⟨_,_,rfl,fun _=>?_⟩)
  have hf:(modB s m && bodyB b) = true:=by
   cases hb:(modB s m && bodyB b) with
   | true=>rfl
   | false=>rw [hb] at h;simp [askE] at h
  simp only [bodyB,Bool.and_eq_true,decide_eq_true_eq] at hf
  show -1≤b
  omega
 ·exact .inl rfl
theorem undef_chg (s:Mt) (t:Int) (n:ByteArray):Chg s (undefOf s t n).1 n:=by
 unfold undefOf
 split
 ·exact .inl rfl
 ·split
  ·exact .inl rfl
  ·exact .inr (.inl ⟨_,_,rfl,fun _=>Int.le_refl _⟩)
theorem remove_chg (s:Mt) (t:Int) (n:ByteArray):Chg s (removeOf s t n).1 n:=by
 unfold removeOf
 split
 ·exact .inl rfl
 ·split
  ·exact .inl rfl
  ·exact .inr (.inr ⟨_,rfl⟩)
theorem alias_chg (s:Mt) (t:Int) (n old:ByteArray):Chg s (aliasOf s t n old).1 n:=by
 unfold aliasOf
 split
 ·exact .inl rfl
 ·split
  ·exact .inl rfl
  ·rename_i h
   exact .inr (.inl ⟨_,_,rfl,fun hE=>hE _ _ _ (findOf_lkp (by simpa using h)).1⟩)
theorem shown_body {s:Mt} {t:Int} {n:ByteArray} (hf:(findOf s t n []).2 = true) (hE:EB s):-1≤(shownOf s t n).body:=by
 unfold shownOf
 split
 ·rename_i own h
  split
  ·exact hE _ _ _ h
  ·exact hE _ _ _ (findOf_lkp hf).1
 ·exact hE _ _ _ (findOf_lkp hf).1
theorem show_chg (s:Mt) (t:Int) (n:ByteArray) (v:Int):Chg s (showOf s t n v).1 n:=by
 unfold showOf
 split
 ·exact .inl rfl
 ·split
  ·exact .inl rfl
  ·rename_i h
   exact .inr (.inl ⟨_,_,rfl,fun hE=>shown_body (by simpa using h) hE⟩)
theorem freeze_chg (s:Mt) (t:Int) (n:ByteArray):Chg s (freezeOf s t).1 n:=by
 unfold freezeOf
 split
 ·exact .inl rfl
 ·exact .inl rfl
theorem doM_chg (s:Mt) (d:MDeed):Chg s (doM s d) d.nm:=by
 unfold doM
 let P:=fun x=>Chg s x d.nm
 refine ite_P P (define_chg ..) (ite_P P (refine_chg ..) (ite_P P (undef_chg ..) (ite_P P (remove_chg ..) (ite_P P (alias_chg ..) (ite_P P (show_chg ..) (ite_P P (freeze_chg ..) (ite_P P ?_ (ite_P P ?_ (ite_P P ?_ (ite_P P ?_ (ite_P P ?_ ?_)))))))))))
 all_goals exact .inl rfl
theorem Chg.all {s s':Mt} {n:ByteArray} (h:Chg s s' n) (hs:MtOk s) (P:ByteArray→En→Prop) (hP:∀ k m e,lkp s k m = some e→P m e) (hn:∀ e,(EB s→-1≤e.body)→P n e):∀ k m e,lkp s' k m = some e→P m e:=by
 intro k m e he
 rcases h with h | ⟨k',e',h,hb⟩ | ⟨k',h⟩
 ·rw [lkp_tabs h] at he;exact hP k m e he
 ·rw [lkp_tabs h,lkp_put] at he
  split at he
  ·rename_i hk
   cases he
   rw [hk.2];exact hn _ hb
  ·exact hP k m e he
 ·rw [lkp_tabs h,lkp_del hs] at he
  split at he
  ·cases he
  ·exact hP k m e he
theorem doM_EB {s:Mt} (hs:MtOk s) (d:MDeed) (h:EB s):EB (doM s d):=(doM_chg s d).all hs (fun _ e=>-1≤e.body) h fun e he=>he h
theorem define_ok' {s:Mt} (h:MtOk s) (t:Int) (n:ByteArray) (b v:Int):MtOk (defineOf s t n b v).1:=by
 unfold defineOf
 split
 ·exact h.put _ _ _
 ·exact h
theorem refine_ok' {s:Mt} (h:MtOk s) (m t:Int) (n:ByteArray) (b:Int):MtOk (refineOf s m t n b).1:=by
 unfold refineOf
 split
 ·exact h.put _ _ _
 ·exact h
theorem undef_ok' {s:Mt} (h:MtOk s) (t:Int) (n:ByteArray):MtOk (undefOf s t n).1:=by
 unfold undefOf
 split
 ·exact h
 ·split
  ·exact h
  ·exact h.put _ _ _
theorem remove_ok' {s:Mt} (h:MtOk s) (t:Int) (n:ByteArray):MtOk (removeOf s t n).1:=by
 unfold removeOf
 split
 ·exact h
 ·split
  ·exact h
  ·exact h.del _ _
theorem alias_ok' {s:Mt} (h:MtOk s) (t:Int) (n old:ByteArray):MtOk (aliasOf s t n old).1:=by
 unfold aliasOf
 split
 ·exact h
 ·split
  ·exact h
  ·exact h.put _ _ _
theorem show_ok' {s:Mt} (h:MtOk s) (t:Int) (n:ByteArray) (v:Int):MtOk (showOf s t n v).1:=by
 unfold showOf
 split
 ·exact h
 ·split
  ·exact h
  ·exact h.put _ _ _
theorem freeze_ok' {s:Mt} (h:MtOk s) (t:Int):MtOk (freezeOf s t).1:=by
 unfold freezeOf
 split
 ·exact h
 ·exact h.fr t
theorem doM_ok {s:Mt} (h:MtOk s) (d:MDeed):MtOk (doM s d):=by
 have hl:∀ (o a b:Int),MtOk (linOf s (doOf s.L ⟨o,a,b⟩).1):=fun o a b=>h.lin (doOf_OK h.ok h.pos ⟨o,a,b⟩).1 (doOf_OK h.ok h.pos ⟨o,a,b⟩).2.1
 unfold doM
 exact ite_P MtOk (define_ok' h ..) (ite_P MtOk (refine_ok' h ..) (ite_P MtOk (undef_ok' h ..) (ite_P MtOk (remove_ok' h ..) (ite_P MtOk (alias_ok' h ..) (ite_P MtOk (show_ok' h ..) (ite_P MtOk (freeze_ok' h ..)
  (ite_P MtOk (hl 0 d.a 0) (ite_P MtOk (hl 1 0 0) (ite_P MtOk (hl 2 d.a d.b) (ite_P MtOk (hl 3 d.a d.b) (ite_P MtOk (hl 5 d.a 0) h)))))))))))
theorem playM_all (l:List MDeed):MtOk (playM l)∧EB (playM l)∧∀ k n e,lkp (playM l) k n = some e→∃ d∈l,n = d.nm:=by
 suffices hh:∀ (l:List MDeed) (s:Mt) (P:ByteArray→Prop),MtOk s→EB s→(∀ k n e,lkp s k n = some e→P n)→(∀ d∈l,P d.nm)→MtOk (l.foldl doM s)∧EB (l.foldl doM s)∧∀ k n e,lkp (l.foldl doM s) k n = some e→P n from
  hh l s0 (fun n=>∃ d∈l,n = d.nm) s0_ok (fun k n e he=>by cases he) (fun k n e he=>by cases he) fun d hd=>⟨d,hd,rfl⟩
 intro l
 induction l with
 | nil=>intro s P h1 h2 h3 _;exact ⟨h1,h2,h3⟩
 | cons d l ih =>
  intro s P h1 h2 h3 h4
  refine ih (doM s d) P (doM_ok h1 d) (doM_EB h1 d h2) ((doM_chg s d).all h1 (fun n _=>P n) h3 fun _ _=>h4 d (by simp)) fun d' hd'=>h4 d' (by simp [hd'])
structure NR (s s':Mt):Prop where
 L:s.L = s'.L
 fz:s.fz = s'.fz
 own:∀ t n,lkp s (t,-1) n = lkp s' (t,-1) n
theorem firstOf_congr {s s':Mt} {n:ByteArray}:∀ {l:List Key},(∀ k∈l,lkp s k n = lkp s' k n)→firstOf s l n = firstOf s' l n
 | [],_=>rfl
 | k :: l,h=>by
  unfold firstOf
  rw [h k (by simp),firstOf_congr fun k hk=>h k (by simp [hk])]
theorem NR.places {s s':Mt} (h:NR s s') (l:List Int) (n:ByteArray):firstOf s (l.map fun x=>(x,-1)) n = firstOf s' (l.map fun x=>(x,-1)) n:=by
 refine firstOf_congr fun k hk=>?_
 obtain ⟨x,_,rfl⟩:=List.mem_map.1 hk
 exact h.own x n
theorem NR.find {s s':Mt} (h:NR s s') (t:Int) (n:ByteArray):findOf s t n [] = findOf s' t n []:=by
 unfold findOf
 rw [places_nil,places_nil,←h.L]
 exact h.places _ n
theorem NR.frz_eq {s s':Mt} (h:NR s s') (t:Int):frz s t = frz s' t:=by unfold frz;rw [h.fz]
theorem NR.ask {s s':Mt} (h:NR s s') (t:Int) (f:Bool) (l:List ByteArray):askE s t f l = askE s' t f l:=by unfold askE;rw [h.L]
theorem NR.chg {s s':Mt} (h:NR s s') (t:Int) (f:Bool) (l:List ByteArray):chgE s t f l = chgE s' t f l:=by unfold chgE;rw [h.ask,h.frz_eq]
theorem NR.put {s s':Mt} (h:NR s s') (t:Int) (n:ByteArray) (e:En):NR (putOf s (t,-1) n e) (putOf s' (t,-1) n e):=⟨h.L,h.fz,fun u m=>by rw [lkp_put,lkp_put,h.own]⟩
theorem NR.del {s s':Mt} (h:NR s s') (hs:MtOk s) (hs':MtOk s') (t:Int) (n:ByteArray):NR (delOf s (t,-1) n) (delOf s' (t,-1) n):=⟨h.L,h.fz,fun u m=>by rw [lkp_del hs,lkp_del hs',h.own]⟩
theorem NR.lin {s s':Mt} (h:NR s s') (L:List Th):NR (linOf s L) (linOf s' L):=⟨rfl,h.fz,h.own⟩
theorem NR.step {s s':Mt} (h:NR s s') (hs:MtOk s) (hs':MtOk s') (d:MDeed) (hd:d.op≠1):NR (doM s d) (doM s' d):=by
 unfold doM
 by_cases h0:d.op = 0
 ·simp only [h0,if_true]
  unfold defineOf
  rw [h.chg]
  split
  ·exact h.put _ _ _
  ·exact h
 simp only [h0,hd,if_false]
 by_cases h2:d.op = 2
 ·simp only [h2,if_true]
  unfold undefOf
  rw [h.chg,h.find]
  repeat' split
  ·exact h
  ·exact h
  ·exact h.put _ _ _
 simp only [h2,if_false]
 by_cases h3:d.op = 3
 ·simp only [h3,if_true]
  unfold removeOf
  rw [h.chg,h.own]
  repeat' split
  ·exact h
  ·exact h
  ·exact h.del hs hs' _ _
 simp only [h3,if_false]
 by_cases h4:d.op = 4
 ·simp only [h4,if_true]
  unfold aliasOf
  rw [h.chg,h.find]
  repeat' split
  ·exact h
  ·exact h
  ·exact h.put _ _ _
 simp only [h4,if_false]
 by_cases h5:d.op = 5
 ·simp only [h5,if_true]
  unfold showOf shownOf
  rw [h.chg,h.find,h.own]
  split
  ·exact h
  ·split
   ·exact h
   ·exact h.put _ _ _
 simp only [h5,if_false]
 by_cases h6:d.op = 6
 ·simp only [h6,if_true]
  unfold freezeOf
  rw [show val s.L d.a = val s'.L d.a by rw [h.L]]
  split
  ·exact h
  ·exact ⟨h.L,by simp only [h.fz],h.own⟩
 simp only [h6,if_false]
 rw [h.L]
 repeat' split
 ·exact h.lin _
 ·exact h.lin _
 ·exact h.lin _
 ·exact h.lin _
 ·exact h.lin _
 ·exact h
theorem NR.ref {s s':Mt} (h:NR s s') (d:MDeed) (hd:d.op = 1):NR (doM s d) s':=by
 unfold doM
 rw [if_neg (by omega),if_pos hd]
 unfold refineOf
 split
 ·rename_i hk
  have hm:(0:Int)≤d.a:=by
   have:(modB s d.a && bodyB d.c) = true:=by
    cases hb:(modB s d.a && bodyB d.c) with
    | true=>rfl
    | false=>rw [hb] at hk;simp [askE] at hk
   simp only [modB,val,Bool.and_eq_true,decide_eq_true_eq] at this
   omega
  refine ⟨h.L,h.fz,fun u m=>?_⟩
  rw [lkp_put,if_neg,h.own]
  intro q
  have:=congrArg Prod.snd q.1
  simp only at this
  omega
 ·exact h
theorem NR.refl (s:Mt):NR s s:=⟨rfl,rfl,fun _ _=>rfl⟩
theorem NR.play (l:List MDeed):NR (playM l) (playM (l.filter fun d=>decide (d.op≠1))):=by
 suffices hh:∀ (l:List MDeed) (s s':Mt),MtOk s→MtOk s'→NR s s'→NR (l.foldl doM s) ((l.filter fun d=>decide (d.op≠1)).foldl doM s') from hh l _ _ s0_ok s0_ok (NR.refl _)
 intro l
 induction l with
 | nil=>intro s s' _ _ h;exact h
 | cons d l ih =>
  intro s s' hs hs' h
  rw [List.foldl_cons,List.filter_cons]
  by_cases hd:d.op = 1
  ·rw [if_neg (by simp [hd])]
   exact ih _ _ (doM_ok hs d) hs' (h.ref d hd)
  ·rw [if_pos (by simp [hd]),List.foldl_cons]
   exact ih _ _ (doM_ok hs d) (doM_ok hs' d) (h.step hs hs' d hd)
theorem NR.super {s s':Mt} (h:NR s s') (t:Int) (n:ByteArray) (th md:Int):superOf s t n th md = superOf s' t n th md:=by
 rw [superOf_eq,superOf_eq,←h.L,h.places]
theorem NR.chain {s s':Mt} (h:NR s s') (t:Int) (n:ByteArray):ChainOf s t n [] = ChainOf s' t n []:=by
 have hc:∀ k f,chainF s t n k f = chainF s' t n k f:=by
  intro k
  induction k with
  | zero=>intro f;rfl
  | succ k ih=>intro f;unfold chainF;rw [h.super,ih]
 have hF:FindOf s t n [] = FindOf s' t n []:=by unfold FindOf;rw [h.ask,h.find];rfl
 unfold ChainOf
 rw [hF,hc,h.L]
theorem chainF_len (s:Mt) (t:Int) (n:ByteArray):∀ (k:Nat) (f:Fo),(chainF s t n k f).length≤k
 | 0,_=>Nat.le_refl _
 | k + 1,f=>by
  unfold chainF
  split
  ·have:=chainF_len s t n k (superOf s t n f.th f.md).1
   simp only [List.length_cons];omega
  ·simp
theorem chain_len {s:Mt} (hs:MtOk s) {t:Nat} (ht:t < s.L.length) (n:ByteArray) (act:List Int):(ChainOf s t n act).1.length≤2002:=by
 have hol:(ordL s.L t).length≤1000:=hs.ok.wf.base.elim fun _ B=>ord_len B ht (hs.ok.wf.ord ht)
 unfold ChainOf
 split
 ·simp
 ·have:=chainF_len s t n (2 * (ordL s.L t).length + 2) (FindOf s t n act).1
  simp only;omega
end Go.Proofs.YtbhigdljojlhnaaGreat

/- The document's tables: what is asked first; where a row stands; what is found. -/
namespace Go.Proofs.YtbhigdljojlhnaaGreat
set_option linter.all false
open Go.Vc Go.Proofs
set_option linter.unusedSimpArgs false
set_option linter.unusedVariables false
set_option maxRecDepth 100000
set_option maxHeartbeats 4000000
attribute [local irreducible] CallW EqK
theorem rthere_ok (r:Rt) (t:Int):Meets Tryz.prog 84 [dTR r] (.cons (.ptr 0 [.d]) (.cons (avInt t) .nil)) fun av X κ=>av = avBool (val r.R t)∧X = [dTR r]∧κ = []:=by
 refine fb Tryz.func84 Tryz.ntmps84 [.tmp 4] fun w0 I0 F0 hF=>?_
 repeat first|refine n1 ?_|((first|refine rg 0 [0,1] [0,1] [] ?_|refine rg 1 [0,1] [4] [(2,7),(8,13)] ?_);simp (maxSteps:=1000000) [hF,dTR,dR])
 refine (There_ok r.R t).go [(0,[.d,.f 1])] (by simp (maxSteps:=1000000) [hF,dTR,dR]) ?_;rintro av X κ ⟨rfl,rfl,rfl⟩;simp (maxSteps:=1000000) [hF,dTR,dR]
 repeat first|refine n1 ?_
 (try refine nr ?_);(repeat first|refine nb_ ?_|refine nl_ ?_);refine endK.o [4] [0] [] ?_;simp [hF,retK,covers,mpre,dTR,dR]
theorem named_ok (n:ByteArray):Meets Tryz.prog 101 [] (.cons (.val (.string n)) .nil) fun av X κ=>av = avBool (isNm n)∧X = []∧κ = []:=by
 refine fb Tryz.func101 Tryz.ntmps101 [.tmp 2] fun w0 I0 F0 hF=>?_
 by_cases h1:1≤n.size
 ·have h1':(1:Int)≤n.size:=by omega
  have hd:decide ((n.size:Int)≤40) = isNm n:=by
   have:((n.size:Int)≤40)↔n.size≤40:=by omega
   simp [isNm,h1,this]
  repeat first|refine n1 ?_|((first|refine rg 0 [0] [0] [] ?_|refine rg 1 [0] [2] [(3,6)] ?_);simp (maxSteps:=1000000) [hF,h1,h1'])
  (try refine nr ?_);(repeat first|refine nb_ ?_|refine nl_ ?_);refine endK.o [2] [] [] ?_;simp [hF,retK,covers,mpre,hd]
 ·have h1':¬ (1:Int)≤n.size:=by omega
  have hd:isNm n = false:=by simp [isNm,h1]
  repeat first|refine n1 ?_|((first|refine rg 0 [0] [0] [] ?_|refine rg 1 [0] [2] [(3,6)] ?_);simp (maxSteps:=1000000) [hF,h1,h1'])
  (try refine nr ?_);(repeat first|refine nb_ ?_|refine nl_ ?_);refine endK.o [2] [] [] ?_;simp [hF,retK,covers,mpre,hd]
theorem rhas_ok (ex:Bool) (l:List Int) (v:Int) (hl:l.length≤100000000):Meets Tryz.prog 103 [.sl true () 1 (dInts l)] (.cons (.sub 0 [] 0 l.length ex) (.cons (avInt v) .nil))
  fun av X κ=>av = avBool (hasN l v)∧X = [.sl true () 1 (dInts l)]∧κ = []:=by
 refine fb Tryz.func103 Tryz.ntmps103 [.tmp 4] fun w0 I0 F0 hF=>?_
 repeat first|refine n1 ?_|refine n3 ?_|((first|refine rg 0 [0,1] [0,1] [] ?_|refine rg 1 [0,1] [0,1,5] [] ?_);simp (maxSteps:=1000000) [hF])
 refine VS.rounds (fun m st=>∃ (i:Nat),i + m = l.length∧(∀ j,(hj:j < i)→(h:j < l.length)→l[j]≠v)∧st = ⟨[(0,.sub 0 [] 0 l.length ex),(1,avInt v),(5,avInt i)],[.sl true () 1 (dInts l)],[],[]⟩) ⟨l.length,0,by omega,fun j hj=>by omega,by simp⟩ ?_
 rintro m st ⟨i,hi,hall,rfl⟩
 repeat first|refine n1 ?_|((first|refine rg 2 [0,1,5] [0,1,5,9] [] ?_|refine nc ?_);simp (maxSteps:=1000000) [hF])
 refine ⟨fun hlt=>?_,fun hge=>?_⟩
 ·have hil:i < l.length:=by omega
  have hn:=dInts_nth hil
  by_cases he:l[i] = v
  ·have hh:=hasN_at hil he
   repeat first|refine n1 ?_|refine n2 ?_|refine n3 ?_|((first|refine rg 4 [0,1,5] [0,1,5,17] [] ?_|refine rg 5 [] [4] [] ?_|refine nc ?_);simp (maxSteps:=1000000) [hF,hn,hil,he])
   (try refine nr ?_);(repeat first|refine nb_ ?_|refine nl_ ?_);refine endK.o [4] [0] [] ?_;simp [hF,retK,covers,mpre,hh]
  ·repeat first|refine n1 ?_|refine n2 ?_|refine n3 ?_|refine n4 ?_|refine n5 ?_|refine n6 ?_|((first|refine rg 3 [0,1,5] [0,1,5] [] ?_|refine rg 4 [0,1,5] [0,1,5,17] [] ?_|refine nc ?_);simp (maxSteps:=1000000) [hF,hn,hil,he])
   refine nextK.of [0,1,5] [0] (m - 1) (by omega) (by simp [hF]) ?_
   refine ⟨i + 1,by omega,fun j hj h=>?_,?_⟩
   ·by_cases hji:j = i
    ·subst hji;exact he
    ·exact hall j (by omega) h
   ·simp
    exact IntWalk.i64_in _ (by omega)
 ·have hh:hasN l v = false:=hasN_out fun j hj=>hall j (by omega) hj
  repeat first|refine n1 ?_|refine n7 ?_|((refine rg 6 [] [4] [] ?_);simp (maxSteps:=1000000) [hF])
  (try refine nr ?_);(repeat first|refine nb_ ?_|refine nl_ ?_);refine endK.o [4] [0] [] ?_;simp [hF,retK,covers,mpre,hh]
theorem place_ok (r:Rt) (hl:r.rows.length≤100000) (a b:Int) (n:ByteArray):Meets Tryz.prog 102 [dTR r] (.cons (.ptr 0 [.d]) (.cons (avInt a) (.cons (avInt b) (.cons (.val (.string n)) .nil))))
  fun av X κ=>av = avInt (rplace r.rows ((a,b),n))∧X = [dTR r]∧κ = []:=by
 refine fb Tryz.func102 Tryz.ntmps102 [.tmp 8] fun w0 I0 F0 hF=>?_
 repeat first|refine n1 ?_|refine n3 ?_|((first|refine rg 0 [0,1,2,3] [0,1,2,3] [] ?_|refine rg 1 [0,1,2,3] [0,1,2,3,9] [] ?_);simp (maxSteps:=1000000) [hF])
 refine VS.rounds (fun m st=>∃ (i:Nat),i + m = r.rows.length∧(∀ j,(h:j < r.rows.length)→j < i→isRow ((a,b),n) r.rows[j] = false)∧st = ⟨[(0,.ptr 0 [.d]),(1,avInt a),(2,avInt b),(3,.val (.string n)),(9,avInt i)],[dTR r],[],[]⟩) ⟨r.rows.length,0,by omega,(fun j h hj=>by omega),by simp⟩ ?_
 rintro m st ⟨i,hi,hall,rfl⟩
 repeat first|refine n1 ?_|((first|refine rg 2 [0,1,2,3,9] [0,1,2,3,9,17] [] ?_|refine nc ?_);simp (maxSteps:=1000000) [hF,dTR])
 refine ⟨fun hlt=>?_,fun hge=>?_⟩
 ·have hil:i < r.rows.length:=by omega
  have hn:=dRws_nth hil
  have fin:isRow ((a,b),n) r.rows[i] = false→∀ j,(h:j < r.rows.length)→j < i + 1→isRow ((a,b),n) r.rows[j] = false:=fun h j hj hji=>by
   by_cases e:j = i
   ·subst e;exact h
   ·exact hall j hj (by omega)
  have hit:isRow ((a,b),n) r.rows[i] = true→rplace r.rows ((a,b),n) = i:=fun h=>ixF_hit hil (fun j h=>hall j (by omega) h) h
  obtain ⟨⟨⟨⟨x1,x2⟩,x3⟩,x4⟩,hx⟩:∃ x,r.rows[i] = x:=⟨_,rfl⟩
  rw [hx] at hn fin hit
  by_cases h1:x1 = a
  ·by_cases h2:x2 = b
   ·by_cases h3:x3 = n
    ·have hr:=hit (by simp [isRow,h1,h2,h3])
     repeat first|refine n1 ?_|refine n2 ?_|refine n3 ?_|((first|refine rg 4 [0,1,2,3,9] [0,1,2,3,9,10] [] ?_|refine rg 5 [0,1,2,3,9,10] [0,1,2,3,9,42] [(4,31),(10,37)] ?_|refine rg 6 [9] [8] [] ?_|refine nc ?_);simp (maxSteps:=1000000) [hF,dTR,hn,hil,dRw,dEnt,h1,h2,h3])
     (try refine nr ?_);(repeat first|refine nb_ ?_|refine nl_ ?_);refine endK.o [8] [0] [] ?_;simp [hF,retK,covers,mpre,dTR,hr]
    ·repeat first|refine n1 ?_|refine n2 ?_|refine n3 ?_|refine n4 ?_|refine n5 ?_|refine n6 ?_|((first|refine rg 3 [0,1,2,3,9] [0,1,2,3,9] [] ?_|refine rg 4 [0,1,2,3,9] [0,1,2,3,9,10] [] ?_|refine rg 5 [0,1,2,3,9,10] [0,1,2,3,9,42] [(4,31),(10,37)] ?_|refine nc ?_);simp (maxSteps:=1000000) [hF,dTR,hn,hil,dRw,dEnt,h1,h2,h3])
     refine nextK.of [0,1,2,3,9] [0] (m - 1) (by omega) (by simp [hF]) ?_
     refine ⟨i + 1,by omega,fin (by simp [isRow,h3]),?_⟩
     simp [dTR]
     exact IntWalk.i64_in _ (by omega)
   ·repeat first|refine n1 ?_|refine n2 ?_|refine n3 ?_|refine n4 ?_|refine n5 ?_|refine n6 ?_|((first|refine rg 3 [0,1,2,3,9] [0,1,2,3,9] [] ?_|refine rg 4 [0,1,2,3,9] [0,1,2,3,9,10] [] ?_|refine rg 5 [0,1,2,3,9,10] [0,1,2,3,9,42] [(4,31),(10,37)] ?_|refine nc ?_);simp (maxSteps:=1000000) [hF,dTR,hn,hil,dRw,dEnt,h1,h2])
    refine nextK.of [0,1,2,3,9] [0] (m - 1) (by omega) (by simp [hF]) ?_
    refine ⟨i + 1,by omega,fin (by simp [isRow,h2]),?_⟩
    simp [dTR]
    exact IntWalk.i64_in _ (by omega)
  ·repeat first|refine n1 ?_|refine n2 ?_|refine n3 ?_|refine n4 ?_|refine n5 ?_|refine n6 ?_|((first|refine rg 3 [0,1,2,3,9] [0,1,2,3,9] [] ?_|refine rg 4 [0,1,2,3,9] [0,1,2,3,9,10] [] ?_|refine rg 5 [0,1,2,3,9,10] [0,1,2,3,9,42] [(4,31),(10,37)] ?_|refine nc ?_);simp (maxSteps:=1000000) [hF,dTR,hn,hil,dRw,dEnt,h1])
   refine nextK.of [0,1,2,3,9] [0] (m - 1) (by omega) (by simp [hF]) ?_
   refine ⟨i + 1,by omega,fin (by simp [isRow,h1]),?_⟩
   simp [dTR]
   exact IntWalk.i64_in _ (by omega)
 ·have hr:rplace r.rows ((a,b),n) = -1:=ixF_miss fun j h=>hall j h (by omega)
  repeat first|refine n1 ?_|refine n7 ?_|((refine rg 7 [] [8] [] ?_);simp (maxSteps:=1000000) [hF])
  (try refine nr ?_);(repeat first|refine nb_ ?_|refine nl_ ?_);refine endK.o [8] [0] [] ?_;simp [hF,retK,covers,mpre,dTR,hr]
theorem rput_ok (r:Rt) (hl:r.rows.length≤100000) (a b:Int) (n:ByteArray) (e:En):Meets Tryz.prog 99 [dTR r] (.cons (.ptr 0 [.d]) (.cons (avInt a) (.cons (avInt b) (.cons (.val (.string n)) (.cons (avEnt e) .nil)))))
  fun av X κ=>av = .tup .nil∧X = [dTR { r with rows:=aput r.rows ((a,b),n) e }]∧κ = [(0,[.d])]:=by
 refine fb Tryz.func99 Tryz.ntmps99 [] fun w0 I0 F0 hF=>?_
 cases hg:aget r.rows ((a,b),n) with
 | none =>
  have hp:=rplace_none hg
  have happ:=dRws_app1 r.rows (((a,b),n),e)
  rw [←aput_new hg e] at happ
  simp only [dRw,dEnt] at happ
  have hlen:(aput r.rows ((a,b),n) e).length = r.rows.length + 1:=by rw [aput_new hg];simp
  have b1:(r.rows.length + 1) * 72≤140737488355328:=by omega
  have b2:r.rows.length + 1≤9223372036854775807:=by omega
  have hmid:(dRws (aput r.rows ((a,b),n) e)).mid 0 (r.rows.length + 1) = dRws (aput r.rows ((a,b),n) e):=by rw [←hlen];exact dRws_mid_all _
  repeat first|refine n1 ?_|((first|refine rg 0 [0,1,2,3,4] [0,1,2,3,9] [] ?_|refine rg 1 [0,1,2,3,9] [0,1,2,3,9,10] [] ?_);simp (maxSteps:=1000000) [hF])
  refine (place_ok r hl a b n).go [(0,[])] (by simp (maxSteps:=1000000) [hF,dTR,hp]) ?_;rintro av X κ ⟨rfl,rfl,rfl⟩;simp (maxSteps:=1000000) [hF,dTR,hp]
  repeat first|refine n1 ?_|((first|refine rg 2 [0,1,2,3,9,10] [0,1,2,3,9,10,17] [] ?_|refine nc ?_);simp (maxSteps:=1000000) [hF])
  refine ghostL 0 [.d,.f 2] ?_;simp (maxSteps:=1000000) [hF,St.lift,AV.lift,liftPl,stripP,nodeAV,isNode,dTR]
  repeat first|(((refine dr 3 0 [0,1,2,3,9] [] [] [⟨0,1,262144,5⟩,⟨0,1,524288,5⟩,⟨2,524288,1048576,5⟩,⟨4,1048576,2097152,5⟩,⟨8,2097152,4194304,6⟩,⟨0,2,8388608,5⟩,⟨0,4,16777216,5⟩,⟨0,8,33554432,5⟩,⟨0,512,67108864,6⟩,⟨480,125829120,134217728,5⟩,⟨512,134217728,268435456,4⟩,⟨1040,272629760,536870912,0⟩,⟨4095,262144,1073741824,5⟩,⟨8191,1073741824,2147483648,5⟩,⟨12287,2684354560,0,0⟩] (.take 0 (.take 1 (.take 2 (.take 3 (.take 4 (.take 5 (.take 6 (.take 7 (.take 8 (.take 9 (.fork (.alt 10 (.fork (.alt 11 (.take 12 (.take 13 (.fork (.alt 14 (.done) (.nil))))) (.nil))) (.nil))))))))))))) (.run [0,1,2,3,4,5,6,7,8,9,10,11,12,13,14] (.done)) ?_;simp only [drs]));simp (maxSteps:=1000000) [hF,dTR,happ,b1,b2,hmid])
  (try refine nr ?_);(repeat first|refine nb_ ?_|refine nl_ ?_);refine endK.o [] [0] [(0,[.d])] ?_;simp [hF,retK,covers,mpre,dTR]
 | some e0 =>
  obtain ⟨hp,hi,hat⟩:=rplace_some hg
  have hn:=dRws_nth hi
  rw [hat] at hn
  have hset:=dRws_set r.rows (aidx r.rows ((a,b),n)) (((a,b),n),e)
  rw [←aput_at hg] at hset
  simp only [dRw,dEnt] at hset hn
  have h0:¬ ((aidx r.rows ((a,b),n):Nat):Int) < 0:=by omega
  repeat first|refine n1 ?_|((first|refine rg 0 [0,1,2,3,4] [0,1,2,3,9] [] ?_|refine rg 1 [0,1,2,3,9] [0,1,2,3,9,10] [] ?_);simp (maxSteps:=1000000) [hF])
  refine (place_ok r hl a b n).go [(0,[])] (by simp (maxSteps:=1000000) [hF,dTR,hp]) ?_;rintro av X κ ⟨rfl,rfl,rfl⟩;simp (maxSteps:=1000000) [hF,dTR,hp]
  generalize aidx r.rows ((a,b),n) = i at *
  repeat first|refine n1 ?_|refine n2 ?_|refine n4 ?_|((first|refine rg 2 [0,1,2,3,9,10] [0,1,2,3,9,10,17] [] ?_|(refine dr 4 0 [0,9,10] [] [] [⟨0,1,4294967296,5⟩,⟨1,4294967296,8589934592,5⟩,⟨2,8589934592,17179869184,5⟩,⟨4,17179869184,34359738368,6⟩,⟨0,1024,68719476736,5⟩,⟨0,512,137438953472,6⟩,⟨63,103079215104,274877906944,5⟩,⟨127,274877906944,549755813888,5⟩,⟨191,687194767360,0,0⟩] (.take 0 (.take 1 (.take 2 (.take 3 (.take 4 (.take 5 (.take 6 (.take 7 (.fork (.alt 8 (.done) (.nil))))))))))) (.run [0,1,2,3,4,5,6,7,8] (.done)) ?_;simp only [drs])|refine nc ?_);simp (maxSteps:=1000000) [hF,dTR,h0,hn,hi,hset])
  (try refine nr ?_);(repeat first|refine nb_ ?_|refine nl_ ?_);refine endK.o [] [0] [(0,[.d])] ?_;simp [hF,retK,covers,mpre,dTR]
theorem drop_at {act:List Int} {i:Nat} (h:i < act.length):act.drop i = act[i] :: act.drop (i + 1):=List.drop_eq_getElem_cons h
def ownR (s:Mt) (x:Int) (n:ByteArray) (act:List Int):Fo×Bool:=match firstAt s x n act with
 | some f=>(f,true)
 | none=>(Fo.none,false)
theorem rown_ok {c:Nat} {s:Mt} {r:Rt} (T:TR c s r) (hc:c≤100000) (x:Int) (n:ByteArray) (act:List Int) (ex:Bool) (ha:act.length≤1000):Meets Tryz.prog 122 [dTR r] (.cons (.ptr 0 [.d]) (.cons (avInt x) (.cons (.val (.string n)) (.cons (.imm 1 (dInts act) ex) .nil))))
  fun av X κ=>av = avFoB (ownR s x n act)∧X = [dTR r,.box true () (dFo (ownR s x n act).1)]∧κ = []:=by
 have hl:r.rows.length≤100000:=Nat.le_trans T.cap.1 hc
 refine fb Tryz.func122 Tryz.ntmps122 [.cell 8 133,.tmp 9] fun w0 I0 F0 hF=>?_
 repeat first|refine n1 ?_|refine n3 ?_|((first|refine rg 0 [0,1,2,3] [0,1,2,3,8] [] ?_|refine rg 1 [0,1,2,3,8] [0,1,2,3,8,10] [] ?_);simp (maxSteps:=1000000) [hF])
 refine VS.pick [0,1,2,3,8,10] [0,1] (by simp [hF]) ?_;simp [hF]
 refine VS.rounds (fun m st=>∃ (i:Nat),i + m = act.length∧firstAt s x n act = firstAt s x n (act.drop i)∧st = ⟨[(0,.ptr 0 [.d]),(1,avInt x),(2,.val (.string n)),(3,.imm 1 (dInts act) ex),(8,.ptr 1 [.d]),(10,avInt i)],[dTR r,.box true () (dFo Fo.none)],[],[]⟩) ⟨act.length,0,by omega,rfl,by simp [dTR,dFo,Fo.none,En.none,dEnt]⟩ ?_
 rintro m st ⟨i,hi,hf,rfl⟩
 repeat first|refine n1 ?_|((first|refine rg 2 [0,1,2,3,8,10] [0,1,2,3,8,10,16] [] ?_|refine nc ?_);simp (maxSteps:=1000000) [hF])
 refine ⟨fun hlt=>?_,fun hge=>?_⟩
 ·have hil:i < act.length:=by omega
  have hn:=dInts_nth hil
  rw [drop_at hil,firstAt,T.rows] at hf
  cases hg:aget r.rows ((x,act[i]),n) with
  | none =>
   have hp:=rplace_none hg
   rw [hg] at hf
   repeat first|refine n1 ?_|refine n2 ?_|refine n3 ?_|((refine rg 4 [0,1,2,3,8,10] [0,1,2,3,8,10,11] [] ?_);simp (maxSteps:=1000000) [hF,hn,hil])
   refine (place_ok r hl x act[i] n).go [(0,[])] (by simp (maxSteps:=1000000) [hF,dTR,hp]) ?_;rintro av X κ ⟨rfl,rfl,rfl⟩;simp (maxSteps:=1000000) [hF,dTR,hp]
   repeat first|refine n1 ?_|refine n2 ?_|refine n4 ?_|refine n5 ?_|refine n6 ?_|((first|refine rg 3 [0,1,2,3,8,10] [0,1,2,3,8,10] [] ?_|refine rg 5 [0,1,2,3,8,10,11] [0,1,2,3,8,10,11,28] [] ?_|refine nc ?_);simp (maxSteps:=1000000) [hF])
   refine nextK.of [0,1,2,3,8,10] [0,1] (m - 1) (by omega) (by simp [hF]) ?_
   refine ⟨i + 1,by omega,hf,?_⟩
   simp [dTR]
   exact IntWalk.i64_in _ (by omega)
  | some e =>
   obtain ⟨hp,hi2,hat⟩:=rplace_some hg
   rw [hg] at hf
   have hr:ownR s x n act = (⟨e,x,act[i]⟩,true):=by unfold ownR;rw [hf]
   have hn2:=dRws_nth hi2
   rw [hat] at hn2
   simp only [dRw,dEnt] at hn2
   repeat first|refine n1 ?_|refine n2 ?_|refine n3 ?_|((refine rg 4 [0,1,2,3,8,10] [0,1,2,3,8,10,11] [] ?_);simp (maxSteps:=1000000) [hF,hn,hil])
   refine (place_ok r hl x act[i] n).go [(0,[])] (by simp (maxSteps:=1000000) [hF,dTR,hp]) ?_;rintro av X κ ⟨rfl,rfl,rfl⟩;simp (maxSteps:=1000000) [hF,dTR,hp]
   generalize aidx r.rows ((x,act[i]),n) = k at *
   repeat first|refine n1 ?_|((first|refine rg 5 [0,1,2,3,8,10,11] [0,1,2,3,8,10,11,28] [] ?_|(refine dr 6 0 [0,1,3,8,10,11] [8,9] [] [⟨0,1,536870912,5⟩,⟨1,536870912,1073741824,5⟩,⟨2,1073741824,2147483648,5⟩,⟨4,2147483648,4294967296,6⟩,⟨0,2048,8589934592,5⟩,⟨24,12884901888,17179869184,5⟩,⟨32,17179869184,34359738368,5⟩,⟨64,34359738368,68719476736,6⟩,⟨0,2,137438953472,5⟩,⟨0,8,274877906944,5⟩,⟨0,1024,549755813888,5⟩,⟨1536,824633720832,1099511627776,5⟩,⟨2048,1099511627776,2199023255552,6⟩,⟨4480,2405181685760,4398046511104,5⟩,⟨16383,4398046511360,0,0⟩,⟨32767,0,512,5⟩] (.take 0 (.take 1 (.take 2 (.take 3 (.take 4 (.take 5 (.take 6 (.take 7 (.take 8 (.take 9 (.take 10 (.take 11 (.take 12 (.take 13 (.fork (.alt 14 (.take 15 (.done)) (.nil))))))))))))))))) (.run [0,1,2,3,4,5,6,7,8,9,10,11,12,13,14,15] (.done)) ?_;simp only [drs])|refine nc ?_);simp (maxSteps:=1000000) [hF,dTR,hn,hil,hn2,hi2,dFo,dEnt,Fo.none,En.none])
   (try refine nr ?_);(repeat first|refine nb_ ?_|refine nl_ ?_);refine endK.o [8,9] [0,1] [] ?_;simp [hF,retK,covers,mpre,dTR,hr,dFo,dEnt]
 ·obtain rfl:i = act.length:=by omega
  rw [List.drop_length,firstAt,T.rows] at hf
  cases hg:aget r.rows ((x,-1),n) with
  | none =>
   have hp:=rplace_none hg
   rw [hg] at hf
   have hr:ownR s x n act = (Fo.none,false):=by unfold ownR;rw [hf];rfl
   repeat first|refine n1 ?_|refine n7 ?_|((refine rg 7 [0,1,2,8] [0,1,8,12] [] ?_);simp (maxSteps:=1000000) [hF])
   refine (place_ok r hl x (-1) n).go [(0,[])] (by simp (maxSteps:=1000000) [hF,dTR,hp]) ?_;rintro av X κ ⟨rfl,rfl,rfl⟩;simp (maxSteps:=1000000) [hF,dTR,hp]
   repeat first|refine n1 ?_|refine n2 ?_|((first|refine rg 8 [0,1,8,12] [0,1,8,12,48] [] ?_|refine rg 10 [8] [8,9] [] ?_|refine nc ?_);simp (maxSteps:=1000000) [hF,dFo,dEnt,Fo.none,En.none])
   (try refine nr ?_);(repeat first|refine nb_ ?_|refine nl_ ?_);refine endK.o [8,9] [0,1] [] ?_;simp [hF,retK,covers,mpre,dTR,hr,dFo,dEnt,Fo.none,En.none]
  | some e =>
   obtain ⟨hp,hi2,hat⟩:=rplace_some hg
   rw [hg] at hf
   have hr:ownR s x n act = (⟨e,x,-1⟩,true):=by unfold ownR;rw [hf];rfl
   have hn2:=dRws_nth hi2
   rw [hat] at hn2
   simp only [dRw,dEnt] at hn2
   repeat first|refine n1 ?_|refine n7 ?_|((refine rg 7 [0,1,2,8] [0,1,8,12] [] ?_);simp (maxSteps:=1000000) [hF])
   refine (place_ok r hl x (-1) n).go [(0,[])] (by simp (maxSteps:=1000000) [hF,dTR,hp]) ?_;rintro av X κ ⟨rfl,rfl,rfl⟩;simp (maxSteps:=1000000) [hF,dTR,hp]
   generalize aidx r.rows ((x,-1),n) = k at *
   repeat first|refine n1 ?_|((first|refine rg 8 [0,1,8,12] [0,1,8,12,48] [] ?_|refine rg 9 [0,1,8,12] [8,9] [] ?_|refine nc ?_);simp (maxSteps:=1000000) [hF,dTR,hn2,hi2,dFo,dEnt,Fo.none,En.none])
   (try refine nr ?_);(repeat first|refine nb_ ?_|refine nl_ ?_);refine endK.o [8,9] [0,1] [] ?_;simp [hF,retK,covers,mpre,dTR,hr,dFo,dEnt]
theorem search_ok {c:Nat} {s:Mt} {r:Rt} (T:TR c s r) (hc:c≤100000) (things:List Int) (ex2:Bool) (ht:things.length≤1000) (n:ByteArray) (act:List Int) (ex:Bool) (ha:act.length≤1000) :
  Meets Tryz.prog 88 [dTR r] (.cons (.ptr 0 [.d]) (.cons (.imm 1 (dInts things) ex2) (.cons (.val (.string n)) (.cons (.imm 1 (dInts act) ex) .nil))))
  fun av X κ=>av = .tup (.cons (avFo (toldOf (firstOf s (placesT things act) n)).1) (.cons (avInt (toldOf (firstOf s (placesT things act) n)).2) .nil))∧X = [dTR r,.box true () (dFo (toldOf (firstOf s (placesT things act) n)).1)]∧κ = []:=by
 obtain ⟨res,hres⟩:∃ res,res = toldOf (firstOf s (placesT things act) n):=⟨_,rfl⟩
 rw [←hres]
 refine fb Tryz.func88 Tryz.ntmps88 [.cell 8 133,.tmp 9] fun w0 I0 F0 hF=>?_
 repeat first|refine n1 ?_|refine n3 ?_|((first|refine rg 0 [0,1,2,3] [0,1,2,3,8] [] ?_|refine rg 1 [0,1,2,3,8] [0,1,2,3,8,10] [] ?_);simp (maxSteps:=1000000) [hF])
 refine VS.pick [0,1,2,3,8,10] [0,1] (by simp [hF]) ?_;simp [hF]
 refine VS.rounds (fun m st=>∃ (i:Nat),i + m = things.length∧res = toldOf (firstOf s (placesT (things.drop i) act) n)∧st = ⟨[(0,.ptr 0 [.d]),(1,.imm 1 (dInts things) ex2),(2,.val (.string n)),(3,.imm 1 (dInts act) ex),(8,.ptr 1 [.d]),(10,avInt i)],[dTR r,.box true () (dFo Fo.none)],[],[]⟩) ⟨things.length,0,by omega,hres,by simp [dTR,dFo,Fo.none,En.none,dEnt]⟩ ?_
 rintro m st ⟨i,hi,hf,rfl⟩
 repeat first|refine n1 ?_|((first|refine rg 2 [0,1,2,3,8,10] [0,1,2,3,8,10,16] [] ?_|refine nc ?_);simp (maxSteps:=1000000) [hF])
 refine ⟨fun hlt=>?_,fun hge=>?_⟩
 ·have hil:i < things.length:=by omega
  have hn:=dInts_nth hil
  rw [drop_at hil,placesT_cons,firstOf_at] at hf
  have hw:=rown_ok T hc things[i] n act ex ha
  unfold ownR at hw
  cases hg:firstAt s things[i] n act with
  | none =>
   rw [hg] at hf hw
   repeat first|refine n1 ?_|refine n2 ?_|refine n3 ?_|((refine rg 4 [0,1,2,3,8,10] [0,1,2,3,8,10,11,12] [] ?_);simp (maxSteps:=1000000) [hF,hn,hil])
   refine (hw).go [(0,[])] (by simp (maxSteps:=1000000) [hF,dTR,dFo,dEnt,Fo.none,En.none]) ?_;rintro av X κ ⟨rfl,rfl,rfl⟩;simp (maxSteps:=1000000) [hF,dTR,dFo,dEnt,Fo.none,En.none]
   repeat first|refine n1 ?_|refine n2 ?_|refine n4 ?_|refine n5 ?_|refine n6 ?_|((first|refine rg 3 [0,1,2,3,8,10] [0,1,2,3,8,10] [] ?_|refine rg 5 [0,1,2,3,8,10,11,12] [0,1,2,3,8,10,11,12,36] [(1,31)] ?_|refine rg 7 [0,1,2,3,8,10,11,12] [0,1,2,3,8,10,11,38] [] ?_|refine nc ?_);simp (maxSteps:=1000000) [hF])
   refine nextK.of [0,1,2,3,8,10] [0,1] (m - 1) (by omega) (by simp [hF]) ?_
   refine ⟨i + 1,by omega,hf,?_⟩
   simp [dTR,dFo,Fo.none,En.none,dEnt]
   exact IntWalk.i64_in _ (by omega)
  | some f =>
   rw [hg] at hf hw
   by_cases hb:f.e.body = -1
   ·have hr:res = (Fo.none,3):=by rw [hf];simp [toldOf,hb]
    repeat first|refine n1 ?_|refine n2 ?_|refine n3 ?_|((refine rg 4 [0,1,2,3,8,10] [0,1,2,3,8,10,11,12] [] ?_);simp (maxSteps:=1000000) [hF,hn,hil])
    refine (hw).go [(0,[])] (by simp (maxSteps:=1000000) [hF,dTR,dFo,dEnt,Fo.none,En.none]) ?_;rintro av X κ ⟨rfl,rfl,rfl⟩;simp (maxSteps:=1000000) [hF,dTR,dFo,dEnt,Fo.none,En.none]
    repeat first|refine n1 ?_|((first|refine rg 5 [0,1,2,3,8,10,11,12] [0,1,2,3,8,10,11,12,36] [(1,31)] ?_|refine rg 6 [8] [8,9] [] ?_|refine nc ?_);simp (maxSteps:=1000000) [hF,hb])
    (try refine nr ?_);(repeat first|refine nb_ ?_|refine nl_ ?_);refine endK.o [8,9] [0,1] [] ?_;simp [hF,retK,covers,mpre,dTR,hr,dFo,dEnt,Fo.none,En.none]
   ·have hr:res = (f,0):=by rw [hf];simp [toldOf,hb]
    repeat first|refine n1 ?_|refine n2 ?_|refine n3 ?_|((refine rg 4 [0,1,2,3,8,10] [0,1,2,3,8,10,11,12] [] ?_);simp (maxSteps:=1000000) [hF,hn,hil])
    refine (hw).go [(0,[])] (by simp (maxSteps:=1000000) [hF,dTR,dFo,dEnt,Fo.none,En.none]) ?_;rintro av X κ ⟨rfl,rfl,rfl⟩;simp (maxSteps:=1000000) [hF,dTR,dFo,dEnt,Fo.none,En.none]
    repeat first|refine n1 ?_|refine n2 ?_|((first|refine rg 5 [0,1,2,3,8,10,11,12] [0,1,2,3,8,10,11,12,36] [(1,31)] ?_|refine rg 7 [0,1,2,3,8,10,11,12] [0,1,2,3,8,10,11,38] [] ?_|refine rg 8 [8,11] [8,9] [] ?_|refine nc ?_);simp (maxSteps:=1000000) [hF,hb])
    (try refine nr ?_);(repeat first|refine nb_ ?_|refine nl_ ?_);refine endK.o [8,9] [0,1] [] ?_;simp [hF,retK,covers,mpre,dTR,hr,dFo,dEnt,Fo.none,En.none]
 ·obtain rfl:i = things.length:=by omega
  have hr:res = (Fo.none,3):=by rw [hf,List.drop_length];rfl
  repeat first|refine n1 ?_|refine n7 ?_|((refine rg 9 [8] [8,9] [] ?_);simp (maxSteps:=1000000) [hF])
  (try refine nr ?_);(repeat first|refine nb_ ?_|refine nl_ ?_);refine endK.o [8,9] [0,1] [] ?_;simp [hF,retK,covers,mpre,dTR,hr,dFo,dEnt,Fo.none,En.none]
theorem TR.val_eq {c:Nat} {s:Mt} {r:Rt} (T:TR c s r) (t:Int):val r.R t = val s.L t:=T.lr.val_eq t
theorem rorder_ok {c:Nat} {s:Mt} {r:Rt} (h:MtOk s) (T:TR c s r) (t:Nat) (ht:t < s.L.length):Meets Tryz.prog 87 [dTR r] (.cons (.ptr 0 [.d]) (.cons (avInt t) .nil))
  fun av X κ=>av = .imm 1 (dInts (ordL s.L t)) false∧X = [dTR r]∧κ = []:=by
 have hO:=rOrder_yes (T.lr.wf h.ok.wf) t (by rw [T.lr.len];exact ht)
 rw [T.lr.ordL_eq h.ok.wf ht] at hO
 refine fb Tryz.func87 Tryz.ntmps87 [.tmp 4] fun w0 I0 F0 hF=>?_
 repeat first|refine n1 ?_|((first|refine rg 0 [0,1] [0,1] [] ?_|refine rg 1 [0,1] [5] [] ?_);simp (maxSteps:=1000000) [hF,dTR,dR])
 refine (hO).go [(0,[.d,.f 1])] (by simp (maxSteps:=1000000) [hF,dTR,dR]) ?_;rintro av X κ ⟨rfl,rfl,rfl⟩;simp (maxSteps:=1000000) [hF,dTR,dR]
 repeat first|refine n1 ?_|((refine rg 2 [5] [4] [] ?_);simp (maxSteps:=1000000) [hF])
 (try refine nr ?_);(repeat first|refine nb_ ?_|refine nl_ ?_);refine endK.o [4] [0] [] ?_;simp [hF,retK,covers,mpre,dTR,dR]
theorem rmod_ok {c:Nat} {s:Mt} {r:Rt} (T:TR c s r) (t:Int):Meets Tryz.prog 100 [dTR r] (.cons (.ptr 0 [.d]) (.cons (avInt t) .nil)) fun av X κ=>av = avBool (modB s t)∧X = [dTR r]∧κ = []:=by
 have hve:=T.val_eq t
 refine fb Tryz.func100 Tryz.ntmps100 [.tmp 4] fun w0 I0 F0 hF=>?_
 repeat first|refine n1 ?_|((first|refine rg 0 [0,1] [0,1] [] ?_|refine rg 1 [0,1] [4] [(3,8)] ?_);simp (maxSteps:=1000000) [hF])
 cases hv:val s.L t with
 | false =>
  have hvR:val r.R t = false:=hve.trans hv
  have hm:modB s t = false:=by simp [modB,hv]
  refine (rthere_ok r t).go [(0,[])] (by simp (maxSteps:=1000000) [hF,dTR,hvR]) ?_;rintro av X κ ⟨rfl,rfl,rfl⟩;simp (maxSteps:=1000000) [hF,dTR,hvR]
  repeat first|refine n1 ?_
  (try refine nr ?_);(repeat first|refine nb_ ?_|refine nl_ ?_);refine endK.o [4] [0] [] ?_;simp [hF,retK,covers,mpre,dTR,hm]
 | true =>
  have hvR:val r.R t = true:=hve.trans hv
  obtain ⟨t,rfl,ht⟩:=val_nat hvR
  have hn:=dThs_nth ht
  have hk:=(T.lr.th t (by rw [←T.lr.len];exact ht)).1
  rw [thAt_eq ht] at hk
  have hm:modB s t = decide (r.R[t].kind = 1):=by simp [modB,hv,hk]
  refine (rthere_ok r t).go [(0,[])] (by simp (maxSteps:=1000000) [hF,dTR,hvR,hn,ht,dR]) ?_;rintro av X κ ⟨rfl,rfl,rfl⟩;simp (maxSteps:=1000000) [hF,dTR,hvR,hn,ht,dR]
  repeat first|refine n1 ?_
  (try refine nr ?_);(repeat first|refine nb_ ?_|refine nl_ ?_);refine endK.o [4] [0] [] ?_;simp [hF,retK,covers,mpre,dTR,dR,hm]
theorem chg_of {s:Mt} {t:Int} {n:ByteArray}:(val s.L t = false→chgE s t true [n] = 1)∧(val s.L t = true→isNm n = false→chgE s t true [n] = 6) ∧
  (val s.L t = true→isNm n = true→frz s t = true→chgE s t true [n] = 13)∧(val s.L t = true→isNm n = true→frz s t = false→chgE s t true [n] = 0):=by
 refine ⟨fun h=>?_,fun h h2=>?_,fun h h2 h3=>?_,fun h h2 h3=>?_⟩ <;> simp [chgE,askE, *]
theorem change_ok {c:Nat} {s:Mt} {r:Rt} (T:TR c s r) (hc:c≤100000) (t:Int) (n:ByteArray):Meets Tryz.prog 98 [dTR r] (.cons (.ptr 0 [.d]) (.cons (avInt t) (.cons (.val (.string n)) .nil)))
  fun av X κ=>av = avInt (chgE s t true [n])∧X = [dTR r]∧κ = []:=by
 have hfl:r.frz.length≤100000000:=by have:=T.cap.2;omega
 have hfz:=T.fzn t
 have hve:=T.val_eq t
 obtain ⟨e1,e2,e3,e4⟩:=chg_of (s:=s) (t:=t) (n:=n)
 refine fb Tryz.func98 Tryz.ntmps98 [.tmp 6] fun w0 I0 F0 hF=>?_
 repeat first|refine n1 ?_|((first|refine rg 0 [0,1,2] [0,1,2] [] ?_|refine rg 1 [0,1,2] [0,1,2,10] [] ?_);simp (maxSteps:=1000000) [hF])
 refine (rthere_ok r t).go [(0,[])] (by simp (maxSteps:=1000000) [hF,dTR,hve]) ?_;rintro av X κ ⟨rfl,rfl,rfl⟩;simp (maxSteps:=1000000) [hF,dTR,hve]
 cases hv:val s.L t with
 | false =>
  repeat first|refine n1 ?_|((first|refine rg 2 [] [6] [] ?_|refine nc ?_);simp (maxSteps:=1000000) [hF,hv])
  (try refine nr ?_);(repeat first|refine nb_ ?_|refine nl_ ?_);refine endK.o [6] [0] [] ?_;simp [hF,retK,covers,mpre,dTR,e1 hv]
 | true =>
  repeat first|refine n1 ?_|refine n2 ?_|((first|refine rg 3 [0,1,2] [0,1,13] [] ?_|refine nc ?_);simp (maxSteps:=1000000) [hF,hv])
  refine (named_ok n).go [] (by simp (maxSteps:=1000000) [hF,dTR]) ?_;rintro av X κ ⟨rfl,rfl,rfl⟩;simp (maxSteps:=1000000) [hF,dTR]
  cases hn:isNm n with
  | false =>
   repeat first|refine n1 ?_|((first|refine rg 4 [] [6] [] ?_|refine nc ?_);simp (maxSteps:=1000000) [hF,hn])
   (try refine nr ?_);(repeat first|refine nb_ ?_|refine nl_ ?_);refine endK.o [6] [0] [] ?_;simp [hF,retK,covers,mpre,dTR,e2 hv hn]
  | true =>
   repeat first|refine n1 ?_|refine n2 ?_|((first|refine rg 5 [0,1] [19] [] ?_|refine nc ?_);simp (maxSteps:=1000000) [hF,hn,dTR])
   refine (rhas_ok false r.frz t hfl).go [(0,[.d,.f 3])] (by simp (maxSteps:=1000000) [hF,dTR]) ?_;rintro av X κ ⟨rfl,rfl,rfl⟩;simp (maxSteps:=1000000) [hF,dTR]
   cases hf:frz s t with
   | false =>
    rw [hf] at hfz
    repeat first|refine n1 ?_|refine n2 ?_|((first|refine rg 7 [] [6] [] ?_|refine nc ?_);simp (maxSteps:=1000000) [hF,←hfz])
    (try refine nr ?_);(repeat first|refine nb_ ?_|refine nl_ ?_);refine endK.o [6] [0] [] ?_;simp [hF,retK,covers,mpre,dTR,e4 hv hn hf]
   | true =>
    rw [hf] at hfz
    repeat first|refine n1 ?_|((first|refine rg 6 [] [6] [] ?_|refine nc ?_);simp (maxSteps:=1000000) [hF,←hfz])
    (try refine nr ?_);(repeat first|refine nb_ ?_|refine nl_ ?_);refine endK.o [6] [0] [] ?_;simp [hF,retK,covers,mpre,dTR,e3 hv hn hf]
theorem rFind_ok {c:Nat} {s:Mt} {r:Rt} (h:MtOk s) (T:TR c s r) (hc:c≤100000) (t:Int) (n:ByteArray) (act:List Int) (ex:Bool) (ha:act.length≤1000) :
  Meets Tryz.prog 89 [dTR r] (.cons (.ptr 0 [.d]) (.cons (avInt t) (.cons (.val (.string n)) (.cons (.imm 1 (dInts act) ex) .nil))))
  fun av X κ=>av = .tup (.cons (avFo (FindOf s t n act).1) (.cons (avInt (FindOf s t n act).2) .nil))∧X = [dTR r,.box true () (dFo (FindOf s t n act).1)]∧κ = []:=by
 have hve:=T.val_eq t
 refine fb Tryz.func89 Tryz.ntmps89 [.cell 8 133,.tmp 9] fun w0 I0 F0 hF=>?_
 repeat first|refine n1 ?_|((first|refine rg 0 [0,1,2,3] [0,1,2,3,8] [] ?_|refine rg 1 [0,1,2,3,8] [0,1,2,3,8,14] [] ?_);simp (maxSteps:=1000000) [hF])
 refine (rthere_ok r t).go [(0,[])] (by simp (maxSteps:=1000000) [hF,dTR,hve]) ?_;rintro av X κ ⟨rfl,rfl,rfl⟩;simp (maxSteps:=1000000) [hF,dTR,hve]
 cases hv:val s.L t with
 | false =>
  have he:FindOf s t n act = (Fo.none,1):=by simp [FindOf,askE,hv]
  repeat first|refine n1 ?_|((first|refine rg 2 [8] [8,9] [] ?_|refine nc ?_);simp (maxSteps:=1000000) [hF,hv])
  (try refine nr ?_);(repeat first|refine nb_ ?_|refine nl_ ?_);refine endK.o [8,9] [0,1] [] ?_;simp [hF,retK,covers,mpre,dTR,he,dFo,dEnt,Fo.none,En.none]
 | true =>
  repeat first|refine n1 ?_|refine n2 ?_|refine n3 ?_|((first|refine rg 3 [0,1,2,3,8] [0,1,2,3,8,10] [] ?_|refine nc ?_);simp (maxSteps:=1000000) [hF,hv])
  refine VS.pick [0,1,2,3,8,10] [0,1] (by simp [hF]) ?_;simp [hF]
  refine VS.rounds (fun m st=>∃ (i:Nat),i + m = act.length∧(∀ j,(hj:j < act.length)→j < i→modB s act[j] = true)∧st = ⟨[(0,.ptr 0 [.d]),(1,avInt t),(2,.val (.string n)),(3,.imm 1 (dInts act) ex),(8,.ptr 1 [.d]),(10,avInt i)],[dTR r,.box true () (dFo Fo.none)],[],[]⟩)
   ⟨act.length,0,by omega,(fun j hj h=>by omega),by simp [dTR,dFo,Fo.none,En.none,dEnt]⟩ ?_
  rintro m st ⟨i,hi,hall,rfl⟩
  repeat first|refine n1 ?_|((first|refine rg 4 [0,1,2,3,8,10] [0,1,2,3,8,10,19] [] ?_|refine nc ?_);simp (maxSteps:=1000000) [hF])
  refine ⟨fun hlt=>?_,fun hge=>?_⟩
  ·have hil:i < act.length:=by omega
   have hn:=dInts_nth hil
   cases hm:modB s act[i] with
   | false =>
    have hb:actB s act = false:=by
     unfold actB
     cases hq:act.all (modB s) with
     | false=>rfl
     | true=>rw [List.all_eq_true.1 hq _ (List.getElem_mem hil)] at hm;cases hm
    have he:FindOf s t n act = (Fo.none,1):=by simp [FindOf,askE,hv,hb]
    repeat first|refine n1 ?_|refine n2 ?_|refine n3 ?_|((refine rg 6 [0,1,2,3,8,10] [0,1,2,3,8,10,28] [] ?_);simp (maxSteps:=1000000) [hF,hn,hil])
    refine (rmod_ok T act[i]).go [(0,[])] (by simp (maxSteps:=1000000) [hF,dTR,hm]) ?_;rintro av X κ ⟨rfl,rfl,rfl⟩;simp (maxSteps:=1000000) [hF,dTR,hm]
    repeat first|refine n1 ?_|((first|refine rg 7 [8] [8,9] [] ?_|refine nc ?_);simp (maxSteps:=1000000) [hF,dFo,dEnt,Fo.none,En.none])
    (try refine nr ?_);(repeat first|refine nb_ ?_|refine nl_ ?_);refine endK.o [8,9] [0,1] [] ?_;simp [hF,retK,covers,mpre,dTR,he,dFo,dEnt,Fo.none,En.none]
   | true =>
    repeat first|refine n1 ?_|refine n2 ?_|refine n3 ?_|((refine rg 6 [0,1,2,3,8,10] [0,1,2,3,8,10,28] [] ?_);simp (maxSteps:=1000000) [hF,hn,hil])
    refine (rmod_ok T act[i]).go [(0,[])] (by simp (maxSteps:=1000000) [hF,dTR,hm]) ?_;rintro av X κ ⟨rfl,rfl,rfl⟩;simp (maxSteps:=1000000) [hF,dTR,hm]
    repeat first|refine n2 ?_|refine n4 ?_|refine n5 ?_|refine n6 ?_|((first|refine rg 5 [0,1,2,3,8,10] [0,1,2,3,8,10] [] ?_|refine nc ?_);simp (maxSteps:=1000000) [hF])
    refine nextK.of [0,1,2,3,8,10] [0,1] (m - 1) (by omega) (by simp [hF]) ?_
    refine ⟨i + 1,by omega,fun j hj hji=>?_,?_⟩
    ·by_cases e:j = i
     ·subst e;exact hm
     ·exact hall j hj (by omega)
    ·simp [dTR,dFo,Fo.none,En.none,dEnt]
     exact IntWalk.i64_in _ (by omega)
  ·obtain rfl:i = act.length:=by omega
   have hb:actB s act = true:=List.all_eq_true.2 fun x hx=>by
    obtain ⟨j,hj,rfl⟩:=List.getElem_of_mem hx
    exact hall j hj hj
   repeat first|refine n1 ?_|refine n7 ?_|((refine rg 8 [0,1,2,3,8] [0,1,2,3,8,32] [] ?_);simp (maxSteps:=1000000) [hF])
   refine (named_ok n).go [] (by simp (maxSteps:=1000000) [hF,dTR]) ?_;rintro av X κ ⟨rfl,rfl,rfl⟩;simp (maxSteps:=1000000) [hF,dTR]
   cases hn:isNm n with
   | false =>
    have he:FindOf s t n act = (Fo.none,6):=by simp [FindOf,askE,hv,hb,hn]
    repeat first|refine n1 ?_|((first|refine rg 9 [8] [8,9] [] ?_|refine nc ?_);simp (maxSteps:=1000000) [hF,hn,dFo,dEnt,Fo.none,En.none])
    (try refine nr ?_);(repeat first|refine nb_ ?_|refine nl_ ?_);refine endK.o [8,9] [0,1] [] ?_;simp [hF,retK,covers,mpre,dTR,he,dFo,dEnt,Fo.none,En.none]
   | true =>
    obtain ⟨k,rfl,hk⟩:=val_nat hv
    have he:FindOf s k n act = toldOf (firstOf s (placesT (ordL s.L k) act) n):=by simp [FindOf,askE,hv,hb,hn];rfl
    have hol:(ordL s.L k).length≤1000:=h.ok.wf.base.elim fun _ B=>ord_len B hk (h.ok.wf.ord hk)
    rw [he]
    repeat first|refine n1 ?_|refine n2 ?_|((first|refine rg 10 [0,1,2,3,8] [8,9] [] ?_|refine nc ?_);simp (maxSteps:=1000000) [hF,hn])
    refine (rorder_ok h T k hk).go [(0,[])] (by simp (maxSteps:=1000000) [hF,dTR]) ?_;rintro av X κ ⟨rfl,rfl,rfl⟩;simp (maxSteps:=1000000) [hF,dTR]
    refine (search_ok T hc (ordL s.L k) false hol n act ex ha).go [(0,[])] (by simp (maxSteps:=1000000) [hF,dTR,dFo,dEnt,Fo.none,En.none]) ?_;rintro av X κ ⟨rfl,rfl,rfl⟩;simp (maxSteps:=1000000) [hF,dTR,dFo,dEnt,Fo.none,En.none]
    repeat first|refine n1 ?_
    (try refine nr ?_);(repeat first|refine nb_ ?_|refine nl_ ?_);refine endK.o [8,9] [0,1] [] ?_;simp [hF,retK,covers,mpre,dTR,dFo,dEnt]
theorem rFind_nil {c:Nat} {s:Mt} {r:Rt} (h:MtOk s) (T:TR c s r) (hc:c≤100000) (t:Int) (n:ByteArray) :
  Meets Tryz.prog 89 [dTR r] (.cons (.ptr 0 [.d]) (.cons (avInt t) (.cons (.val (.string n)) (.cons (.nils 1) .nil))))
  fun av X κ=>av = .tup (.cons (avFo (FindOf s t n []).1) (.cons (avInt (FindOf s t n []).2) .nil))∧X = [dTR r,.box true () (dFo (FindOf s t n []).1)]∧κ = []:=Meets.nilled (rFind_ok h T hc t n [] true (by simp))
theorem FindOf_told {s:Mt} {t:Int} {n:ByteArray} (hv:val s.L t = true) (hn:isNm n = true):FindOf s t n [] = toldOf (findOf s t n []):=by simp [FindOf,askE,hv,hn,actB]
theorem chg_zero {s:Mt} {t:Int} {fine:Bool} {ns:List ByteArray} (h:chgE s t fine ns = 0):val s.L t = true∧fine = true∧ns.all isNm = true:=by
 unfold chgE at h
 split at h
 ·cases h
 ·unfold askE at h
  split at h
  ·cases h
  ·rename_i h1
   split at h
   ·cases h
   ·rename_i h2
    simp only [Bool.not_eq_false,Bool.and_eq_true] at h1
    exact ⟨h1.1,h1.2,by simpa using h2⟩
theorem chg_fine {s:Mt} {t:Int} {n:ByteArray}:chgE s t false [n] = 1:=by simp [chgE,askE]
theorem rDefine_ok {c:Nat} {s:Mt} {r:Rt} (T:TR c s r) (hc:c≤100000) (t:Int) (n:ByteArray) (b v:Int):Meets Tryz.prog 52 [dTR r] (.cons (.ptr 0 [.d]) (.cons (avInt t) (.cons (.val (.string n)) (.cons (avInt b) (.cons (avInt v) .nil)))))
  fun av X κ=>∃ r',TR (c + 1) (defineOf s t n b v).1 r'∧av = avInt (defineOf s t n b v).2∧X = [dTR r']∧κ = [(0,[.d])]:=by
 have hl:r.rows.length≤100000:=Nat.le_trans T.cap.1 hc
 have bad:(bodyB b && visB v) = false→defineOf s t n b v = (s,1):=fun hf=>by unfold defineOf;rw [hf,chg_fine];rfl
 have T1:=T.le (Nat.le_succ c)
 refine fb Tryz.func52 Tryz.ntmps52 [.tmp 10] fun w0 I0 F0 hF=>?_
 by_cases h1:b < 0
 ·have he:=bad (by simp [bodyB];omega)
  repeat first|refine n1 ?_|((first|refine rg 0 [0,1,2,3,4] [0,1,2,3,4] [] ?_|refine rg 1 [0,1,2,3,4] [0,1,2,3,4,25] [(2,14),(6,18),(10,22)] ?_|refine rg 2 [] [10] [] ?_|refine nc ?_);simp (maxSteps:=1000000) [hF,h1])
  (try refine nr ?_);(repeat first|refine nb_ ?_|refine nl_ ?_);refine endK.o [10] [0] [(0,[.d])] ?_;simp [hF,retK,covers,mpre,dTR,he]
  exact ⟨r,T1,rfl,rfl,rfl⟩
 by_cases h2:1000000 < b
 ·have he:=bad (by simp [bodyB];omega)
  repeat first|refine n1 ?_|((first|refine rg 0 [0,1,2,3,4] [0,1,2,3,4] [] ?_|refine rg 1 [0,1,2,3,4] [0,1,2,3,4,25] [(2,14),(6,18),(10,22)] ?_|refine rg 2 [] [10] [] ?_|refine nc ?_);simp (maxSteps:=1000000) [hF,h1,h2])
  (try refine nr ?_);(repeat first|refine nb_ ?_|refine nl_ ?_);refine endK.o [10] [0] [(0,[.d])] ?_;simp [hF,retK,covers,mpre,dTR,he]
  exact ⟨r,T1,rfl,rfl,rfl⟩
 by_cases h3:v < 0
 ·have he:=bad (by simp [visB];omega)
  repeat first|refine n1 ?_|((first|refine rg 0 [0,1,2,3,4] [0,1,2,3,4] [] ?_|refine rg 1 [0,1,2,3,4] [0,1,2,3,4,25] [(2,14),(6,18),(10,22)] ?_|refine rg 2 [] [10] [] ?_|refine nc ?_);simp (maxSteps:=1000000) [hF,h1,h2,h3])
  (try refine nr ?_);(repeat first|refine nb_ ?_|refine nl_ ?_);refine endK.o [10] [0] [(0,[.d])] ?_;simp [hF,retK,covers,mpre,dTR,he]
  exact ⟨r,T1,rfl,rfl,rfl⟩
 by_cases h4:2 < v
 ·have he:=bad (by simp [visB];omega)
  repeat first|refine n1 ?_|((first|refine rg 0 [0,1,2,3,4] [0,1,2,3,4] [] ?_|refine rg 1 [0,1,2,3,4] [0,1,2,3,4,25] [(2,14),(6,18),(10,22)] ?_|refine rg 2 [] [10] [] ?_|refine nc ?_);simp (maxSteps:=1000000) [hF,h1,h2,h3,h4])
  (try refine nr ?_);(repeat first|refine nb_ ?_|refine nl_ ?_);refine endK.o [10] [0] [(0,[.d])] ?_;simp [hF,retK,covers,mpre,dTR,he]
  exact ⟨r,T1,rfl,rfl,rfl⟩
 have hf:(bodyB b && visB v) = true:=by simp [bodyB,visB];omega
 repeat first|refine n1 ?_|refine n2 ?_|((first|refine rg 0 [0,1,2,3,4] [0,1,2,3,4] [] ?_|refine rg 1 [0,1,2,3,4] [0,1,2,3,4,25] [(2,14),(6,18),(10,22)] ?_|refine rg 3 [0,1,2,3,4] [0,1,2,3,4,11] [] ?_|refine nc ?_);simp (maxSteps:=1000000) [hF,h1,h2,h3,h4])
 refine (change_ok T hc t n).go [(0,[])] (by simp (maxSteps:=1000000) [hF,dTR]) ?_;rintro av X κ ⟨rfl,rfl,rfl⟩;simp (maxSteps:=1000000) [hF,dTR]
 by_cases h0:chgE s t true [n] = 0
 ·have he:defineOf s t n b v = (putOf s (t,-1) n ⟨b,v,t,n⟩,0):=by unfold defineOf;rw [hf,if_pos h0]
  repeat first|refine n1 ?_|refine n2 ?_|((first|refine rg 4 [0,1,2,3,4,11] [0,1,2,3,4,11,31] [] ?_|refine rg 6 [0,1,2,3,4] [] [] ?_|refine nc ?_);simp (maxSteps:=1000000) [hF,h0])
  refine (rput_ok r hl t (-1) n ⟨b,v,t,n⟩).go [(0,[])] (by simp (maxSteps:=1000000) [hF,dTR]) ?_;rintro av X κ ⟨rfl,rfl,rfl⟩;simp (maxSteps:=1000000) [hF,dTR]
  repeat first|refine n1 ?_|((refine rg 7 [] [10] [] ?_);simp (maxSteps:=1000000) [hF])
  (try refine nr ?_);(repeat first|refine nb_ ?_|refine nl_ ?_);refine endK.o [10] [0] [(0,[.d])] ?_;simp [hF,retK,covers,mpre,dTR,he]
  exact ⟨_,T.put _ _ _,rfl,rfl,rfl⟩
 ·have he:defineOf s t n b v = (s,chgE s t true [n]):=by unfold defineOf;rw [hf,if_neg h0]
  repeat first|refine n1 ?_|((first|refine rg 4 [0,1,2,3,4,11] [0,1,2,3,4,11,31] [] ?_|refine rg 5 [11] [10] [] ?_|refine nc ?_);simp (maxSteps:=1000000) [hF,h0])
  (try refine nr ?_);(repeat first|refine nb_ ?_|refine nl_ ?_);refine endK.o [10] [0] [(0,[.d])] ?_;simp [hF,retK,covers,mpre,dTR,he]
  exact ⟨r,T1,rfl,rfl,rfl⟩
theorem rRefine_ok {c:Nat} {s:Mt} {r:Rt} (T:TR c s r) (hc:c≤100000) (m t:Int) (n:ByteArray) (b:Int):Meets Tryz.prog 53 [dTR r] (.cons (.ptr 0 [.d]) (.cons (avInt m) (.cons (avInt t) (.cons (.val (.string n)) (.cons (avInt b) .nil)))))
  fun av X κ=>∃ r',TR (c + 1) (refineOf s m t n b).1 r'∧av = avInt (refineOf s m t n b).2∧X = [dTR r']∧κ = [(0,[.d])]:=by
 have hl:r.rows.length≤100000:=Nat.le_trans T.cap.1 hc
 have hve:=T.val_eq t
 have bad:(val s.L t && (modB s m && bodyB b)) = false→refineOf s m t n b = (s,1):=fun hf=>by
  unfold refineOf askE;rw [hf];rfl
 have T1:=T.le (Nat.le_succ c)
 refine fb Tryz.func53 Tryz.ntmps53 [.tmp 10] fun w0 I0 F0 hF=>?_
 repeat first|refine n1 ?_|((first|refine rg 0 [0,1,2,3,4] [0,1,2,3,4] [] ?_|refine rg 1 [0,1,2,3,4] [0,1,2,3,4,28] [(4,15),(10,21),(14,25)] ?_);simp (maxSteps:=1000000) [hF])
 cases hm:modB s m with
 | false =>
  have he:=bad (by simp [hm])
  refine (rmod_ok T m).go [(0,[])] (by simp (maxSteps:=1000000) [hF,dTR,hm]) ?_;rintro av X κ ⟨rfl,rfl,rfl⟩;simp (maxSteps:=1000000) [hF,dTR,hm]
  repeat first|refine n1 ?_|((first|refine rg 2 [] [10] [] ?_|refine nc ?_);simp (maxSteps:=1000000) [hF])
  (try refine nr ?_);(repeat first|refine nb_ ?_|refine nl_ ?_);refine endK.o [10] [0] [(0,[.d])] ?_;simp [hF,retK,covers,mpre,dTR,he]
  exact ⟨r,T1,rfl,rfl,rfl⟩
 | true =>
  refine (rmod_ok T m).go [(0,[])] (by simp (maxSteps:=1000000) [hF,dTR,hm]) ?_;rintro av X κ ⟨rfl,rfl,rfl⟩;simp (maxSteps:=1000000) [hF,dTR,hm]
  cases hv:val s.L t with
  | false =>
   have he:=bad (by simp [hv])
   refine (rthere_ok r t).go [(0,[])] (by simp (maxSteps:=1000000) [hF,dTR,hve,hv]) ?_;rintro av X κ ⟨rfl,rfl,rfl⟩;simp (maxSteps:=1000000) [hF,dTR,hve,hv]
   repeat first|refine n1 ?_|((first|refine rg 2 [] [10] [] ?_|refine nc ?_);simp (maxSteps:=1000000) [hF])
   (try refine nr ?_);(repeat first|refine nb_ ?_|refine nl_ ?_);refine endK.o [10] [0] [(0,[.d])] ?_;simp [hF,retK,covers,mpre,dTR,he]
   exact ⟨r,T1,rfl,rfl,rfl⟩
  | true =>
   by_cases h1:b < 0
   ·have he:=bad (by simp [bodyB];omega)
    refine (rthere_ok r t).go [(0,[])] (by simp (maxSteps:=1000000) [hF,dTR,hve,hv,h1]) ?_;rintro av X κ ⟨rfl,rfl,rfl⟩;simp (maxSteps:=1000000) [hF,dTR,hve,hv,h1]
    repeat first|refine n1 ?_|((first|refine rg 2 [] [10] [] ?_|refine nc ?_);simp (maxSteps:=1000000) [hF])
    (try refine nr ?_);(repeat first|refine nb_ ?_|refine nl_ ?_);refine endK.o [10] [0] [(0,[.d])] ?_;simp [hF,retK,covers,mpre,dTR,he]
    exact ⟨r,T1,rfl,rfl,rfl⟩
   by_cases h2:1000000 < b
   ·have he:=bad (by simp [bodyB];omega)
    refine (rthere_ok r t).go [(0,[])] (by simp (maxSteps:=1000000) [hF,dTR,hve,hv,h1,h2]) ?_;rintro av X κ ⟨rfl,rfl,rfl⟩;simp (maxSteps:=1000000) [hF,dTR,hve,hv,h1,h2]
    repeat first|refine n1 ?_|((first|refine rg 2 [] [10] [] ?_|refine nc ?_);simp (maxSteps:=1000000) [hF])
    (try refine nr ?_);(repeat first|refine nb_ ?_|refine nl_ ?_);refine endK.o [10] [0] [(0,[.d])] ?_;simp [hF,retK,covers,mpre,dTR,he]
    exact ⟨r,T1,rfl,rfl,rfl⟩
   have hf:bodyB b = true:=by simp [bodyB];omega
   refine (rthere_ok r t).go [(0,[])] (by simp (maxSteps:=1000000) [hF,dTR,hve,hv,h1,h2]) ?_;rintro av X κ ⟨rfl,rfl,rfl⟩;simp (maxSteps:=1000000) [hF,dTR,hve,hv,h1,h2]
   repeat first|refine n1 ?_|refine n2 ?_|((first|refine rg 3 [0,1,2,3,4] [0,1,2,3,4,31] [] ?_|refine nc ?_);simp (maxSteps:=1000000) [hF])
   refine (named_ok n).go [] (by simp (maxSteps:=1000000) [hF,dTR]) ?_;rintro av X κ ⟨rfl,rfl,rfl⟩;simp (maxSteps:=1000000) [hF,dTR]
   cases hn:isNm n with
   | false =>
    have he:refineOf s m t n b = (s,6):=by simp [refineOf,askE,hv,hm,hf,hn]
    repeat first|refine n1 ?_|((first|refine rg 4 [] [10] [] ?_|refine nc ?_);simp (maxSteps:=1000000) [hF,hn])
    (try refine nr ?_);(repeat first|refine nb_ ?_|refine nl_ ?_);refine endK.o [10] [0] [(0,[.d])] ?_;simp [hF,retK,covers,mpre,dTR,he]
    exact ⟨r,T1,rfl,rfl,rfl⟩
   | true =>
    have he:refineOf s m t n b = (putOf s (t,m) n ⟨b,0,t,n⟩,0):=by simp [refineOf,askE,hv,hm,hf,hn]
    repeat first|refine n1 ?_|refine n2 ?_|((first|refine rg 5 [0,1,2,3,4] [] [] ?_|refine nc ?_);simp (maxSteps:=1000000) [hF,hn])
    refine (rput_ok r hl t m n ⟨b,0,t,n⟩).go [(0,[])] (by simp (maxSteps:=1000000) [hF,dTR]) ?_;rintro av X κ ⟨rfl,rfl,rfl⟩;simp (maxSteps:=1000000) [hF,dTR]
    repeat first|refine n1 ?_|((refine rg 6 [] [10] [] ?_);simp (maxSteps:=1000000) [hF])
    (try refine nr ?_);(repeat first|refine nb_ ?_|refine nl_ ?_);refine endK.o [10] [0] [(0,[.d])] ?_;simp [hF,retK,covers,mpre,dTR,he]
    exact ⟨_,T.put _ _ _,rfl,rfl,rfl⟩
theorem rUndefine_ok {c:Nat} {s:Mt} {r:Rt} (h:MtOk s) (T:TR c s r) (hc:c≤100000) (t:Int) (n:ByteArray):Meets Tryz.prog 54 [dTR r] (.cons (.ptr 0 [.d]) (.cons (avInt t) (.cons (.val (.string n)) .nil)))
  fun av X κ=>∃ r',TR (c + 1) (undefOf s t n).1 r'∧av = avInt (undefOf s t n).2∧X = [dTR r']∧κ = [(0,[.d])]:=by
 have hl:r.rows.length≤100000:=Nat.le_trans T.cap.1 hc
 have T1:=T.le (Nat.le_succ c)
 refine fb Tryz.func54 Tryz.ntmps54 [.tmp 6] fun w0 I0 F0 hF=>?_
 repeat first|refine n1 ?_|((first|refine rg 0 [0,1,2] [0,1,2] [] ?_|refine rg 1 [0,1,2] [0,1,2,7] [] ?_);simp (maxSteps:=1000000) [hF])
 refine (change_ok T hc t n).go [(0,[])] (by simp (maxSteps:=1000000) [hF,dTR]) ?_;rintro av X κ ⟨rfl,rfl,rfl⟩;simp (maxSteps:=1000000) [hF,dTR]
 by_cases h0:chgE s t true [n] = 0
 ·obtain ⟨hv,_,hn⟩:=chg_zero h0
  have hFn:=rFind_nil h T hc t n
  rw [FindOf_told hv (by simpa using hn)] at hFn
  repeat first|refine n1 ?_|refine n2 ?_|((first|refine rg 2 [0,1,2,7] [0,1,2,7,15] [] ?_|refine rg 4 [0,1,2] [0,1,2,9] [] ?_|refine nc ?_);simp (maxSteps:=1000000) [hF,h0])
  cases hb:(findOf s t n []).2 with
  | false =>
   have he:undefOf s t n = (s,3):=by simp [undefOf,h0,hb]
   have ht:toldOf (findOf s t n []) = (Fo.none,3):=by simp [toldOf,hb]
   rw [ht] at hFn
   refine (hFn).go [(0,[])] (by simp (maxSteps:=1000000) [hF,dTR,dFo,dEnt,Fo.none,En.none]) ?_;rintro av X κ ⟨rfl,rfl,rfl⟩;simp (maxSteps:=1000000) [hF,dTR,dFo,dEnt,Fo.none,En.none]
   repeat first|refine n1 ?_|((first|refine rg 5 [0,1,2,9] [0,1,2,9,25] [] ?_|refine rg 6 [9] [6] [] ?_|refine nc ?_);simp (maxSteps:=1000000) [hF])
   (try refine nr ?_);(repeat first|refine nb_ ?_|refine nl_ ?_);refine endK.o [6] [0] [(0,[.d])] ?_;simp [hF,retK,covers,mpre,dTR,he]
   exact ⟨r,T1,rfl,rfl,rfl⟩
  | true =>
   have he:undefOf s t n = (putOf s (t,-1) n ⟨-1,0,t,n⟩,0):=by simp [undefOf,h0,hb]
   have ht:toldOf (findOf s t n []) = ((findOf s t n []).1,0):=by simp [toldOf,hb]
   rw [ht] at hFn
   refine (hFn).go [(0,[])] (by simp (maxSteps:=1000000) [hF,dTR,dFo,dEnt]) ?_;rintro av X κ ⟨rfl,rfl,rfl⟩;simp (maxSteps:=1000000) [hF,dTR,dFo,dEnt]
   repeat first|refine n1 ?_|refine n2 ?_|((first|refine rg 5 [0,1,2,9] [0,1,2,9,25] [] ?_|refine rg 7 [0,1,2] [] [] ?_|refine nc ?_);simp (maxSteps:=1000000) [hF])
   refine (rput_ok r hl t (-1) n ⟨-1,0,t,n⟩).go [(0,[])] (by simp (maxSteps:=1000000) [hF,dTR]) ?_;rintro av X κ ⟨rfl,rfl,rfl⟩;simp (maxSteps:=1000000) [hF,dTR]
   repeat first|refine n1 ?_|((refine rg 8 [] [6] [] ?_);simp (maxSteps:=1000000) [hF])
   (try refine nr ?_);(repeat first|refine nb_ ?_|refine nl_ ?_);refine endK.o [6] [0] [(0,[.d])] ?_;simp [hF,retK,covers,mpre,dTR,he]
   exact ⟨_,T.put _ _ _,rfl,rfl,rfl⟩
 ·have he:undefOf s t n = (s,chgE s t true [n]):=by simp [undefOf,h0]
  repeat first|refine n1 ?_|((first|refine rg 2 [0,1,2,7] [0,1,2,7,15] [] ?_|refine rg 3 [7] [6] [] ?_|refine nc ?_);simp (maxSteps:=1000000) [hF,h0])
  (try refine nr ?_);(repeat first|refine nb_ ?_|refine nl_ ?_);refine endK.o [6] [0] [(0,[.d])] ?_;simp [hF,retK,covers,mpre,dTR,he]
  exact ⟨r,T1,rfl,rfl,rfl⟩
theorem rFreeze_ok {c:Nat} {s:Mt} {r:Rt} (T:TR c s r) (hc:c≤100000) (t:Int):Meets Tryz.prog 59 [dTR r] (.cons (.ptr 0 [.d]) (.cons (avInt t) .nil))
  fun av X κ=>∃ r',TR (c + 1) (freezeOf s t).1 r'∧av = avInt (freezeOf s t).2∧X = [dTR r']∧κ = [(0,[.d])]:=by
 have hve:=T.val_eq t
 have T1:=T.le (Nat.le_succ c)
 have happ:=dInts_app1 r.frz t
 have hcl:=T.cap.2
 have b1:(r.frz.length + 1) * 8≤140737488355328:=by omega
 have b2:r.frz.length + 1≤9223372036854775807:=by omega
 have hmid:=dInts_mid_all (r.frz ++ [t])
 refine fb Tryz.func59 Tryz.ntmps59 [.tmp 4] fun w0 I0 F0 hF=>?_
 repeat first|refine n1 ?_|((first|refine rg 0 [0,1] [0,1] [] ?_|refine rg 1 [0,1] [0,1,8] [] ?_);simp (maxSteps:=1000000) [hF])
 refine (rthere_ok r t).go [(0,[])] (by simp (maxSteps:=1000000) [hF,dTR,hve]) ?_;rintro av X κ ⟨rfl,rfl,rfl⟩;simp (maxSteps:=1000000) [hF,dTR,hve]
 cases hv:val s.L t with
 | false =>
  have he:freezeOf s t = (s,1):=by simp [freezeOf,hv]
  repeat first|refine n1 ?_|((first|refine rg 2 [] [4] [] ?_|refine nc ?_);simp (maxSteps:=1000000) [hF,hv])
  (try refine nr ?_);(repeat first|refine nb_ ?_|refine nl_ ?_);refine endK.o [4] [0] [(0,[.d])] ?_;simp [hF,retK,covers,mpre,dTR,he]
  exact ⟨r,T1,rfl,rfl,rfl⟩
 | true =>
  have he:freezeOf s t = ({ s with fz:=aput s.fz t true },0):=by simp [freezeOf,hv]
  repeat first|refine n1 ?_|refine n2 ?_|((refine nc ?_);simp (maxSteps:=1000000) [hF,hv])
  refine ghostL 0 [.d,.f 3] ?_;simp (maxSteps:=1000000) [hF,St.lift,AV.lift,liftPl,stripP,nodeAV,isNode,dTR]
  repeat first|refine n1 ?_|((first|refine rg 3 [0,1] [] [] ?_|refine rg 4 [] [4] [] ?_);simp (maxSteps:=1000000) [hF,dTR,happ,b1,b2,hmid])
  (try refine nr ?_);(repeat first|refine nb_ ?_|refine nl_ ?_);refine endK.o [4] [0] [(0,[.d])] ?_;simp [hF,retK,covers,mpre,dTR,he]
  exact ⟨_,T.freeze t,rfl,rfl,rfl⟩
theorem lkp_none_row {c:Nat} {s:Mt} {r:Rt} (T:TR c s r) (k:Key) (n:ByteArray):lkp s k n = none↔aget r.rows (k,n) = none:=by rw [T.rows]
theorem rRemove_ok {c:Nat} {s:Mt} {r:Rt} (h:MtOk s) (T:TR c s r) (hc:c≤100000) (t:Int) (n:ByteArray):Meets Tryz.prog 55 [dTR r] (.cons (.ptr 0 [.d]) (.cons (avInt t) (.cons (.val (.string n)) .nil)))
  fun av X κ=>∃ r',TR (c + 1) (removeOf s t n).1 r'∧av = avInt (removeOf s t n).2∧X = [dTR r']∧κ = [(0,[.d])]:=by
 have hl:r.rows.length≤100000:=Nat.le_trans T.cap.1 hc
 have T1:=T.le (Nat.le_succ c)
 refine fb Tryz.func55 Tryz.ntmps55 [.tmp 6] fun w0 I0 F0 hF=>?_
 repeat first|refine n1 ?_|((first|refine rg 0 [0,1,2] [0,1,2] [] ?_|refine rg 1 [0,1,2] [0,1,2,7] [] ?_);simp (maxSteps:=1000000) [hF])
 refine (change_ok T hc t n).go [(0,[])] (by simp (maxSteps:=1000000) [hF,dTR]) ?_;rintro av X κ ⟨rfl,rfl,rfl⟩;simp (maxSteps:=1000000) [hF,dTR]
 by_cases h0:chgE s t true [n] = 0
 ·cases hg:aget r.rows ((t,-1),n) with
  | none =>
   have hp:=rplace_none hg
   have he:removeOf s t n = (s,3):=by unfold removeOf;rw [if_neg (by simp [h0]),if_pos ((lkp_none_row T _ _).2 hg)]
   repeat first|refine n1 ?_|refine n2 ?_|((first|refine rg 2 [0,1,2,7] [0,1,2,7,14] [] ?_|refine rg 4 [0,1,2] [0,8] [] ?_|refine nc ?_);simp (maxSteps:=1000000) [hF,h0])
   refine (place_ok r hl t (-1) n).go [(0,[])] (by simp (maxSteps:=1000000) [hF,dTR,hp]) ?_;rintro av X κ ⟨rfl,rfl,rfl⟩;simp (maxSteps:=1000000) [hF,dTR,hp]
   repeat first|refine n1 ?_|((first|refine rg 5 [0,8] [0,8,21] [] ?_|refine rg 6 [] [6] [] ?_|refine nc ?_);simp (maxSteps:=1000000) [hF])
   (try refine nr ?_);(repeat first|refine nb_ ?_|refine nl_ ?_);refine endK.o [6] [0] [(0,[.d])] ?_;simp [hF,retK,covers,mpre,dTR,he]
   exact ⟨r,T1,rfl,rfl,rfl⟩
  | some e =>
   obtain ⟨hp,hi,hat⟩:=rplace_some hg
   have he:removeOf s t n = (delOf s (t,-1) n,0):=by unfold removeOf;rw [if_neg (by simp [h0]),if_neg (fun q=>by rw [(lkp_none_row T _ _).1 q] at hg;cases hg)]
   have hdel:=adel_at hg
   repeat first|refine n1 ?_|refine n2 ?_|((first|refine rg 2 [0,1,2,7] [0,1,2,7,14] [] ?_|refine rg 4 [0,1,2] [0,8] [] ?_|refine nc ?_);simp (maxSteps:=1000000) [hF,h0])
   refine (place_ok r hl t (-1) n).go [(0,[])] (by simp (maxSteps:=1000000) [hF,dTR,hp]) ?_;rintro av X κ ⟨rfl,rfl,rfl⟩;simp (maxSteps:=1000000) [hF,dTR,hp]
   generalize aidx r.rows ((t,-1),n) = i at *
   have h0i:¬ (i:Int) < 0:=by omega
   have hw:IntKind.i64.wrap ((i:Int) + 1) = ((i + 1:Nat):Int):=by rw [IntWalk.i64_in _ (by omega)];rfl
   have hle:((i + 1:Nat):Int)≤r.rows.length:=by omega
   have hle2:i + 1≤r.rows.length:=by omega
   have hle3:0≤(i:Int) + 1:=by omega
   have hm1:=dRws_mid r.rows 0 i
   have hm2:=dRws_mid r.rows (i + 1) (r.rows.length - (i + 1))
   have b1:i * 72≤140737488355328:=by omega
   have b2:i≤9223372036854775807:=by omega
   have b3:(i + (r.rows.length - (i + 1))) * 72≤140737488355328:=by omega
   have b4:i + (r.rows.length - (i + 1))≤9223372036854775807:=by omega
   rw [List.drop_zero] at hm1
   obtain ⟨P,hP⟩:∃ P,P = r.rows.take i:=⟨_,rfl⟩
   obtain ⟨S,hS⟩:∃ S,S = (r.rows.drop (i + 1)).take (r.rows.length - (i + 1)):=⟨_,rfl⟩
   have hS':r.rows.drop (i + 1) = S:=by rw [hS,List.take_of_length_le (by simp)]
   rw [←hP] at hm1
   rw [←hS] at hm2
   rw [←hP,hS'] at hdel
   have happ:=dRws_app P S
   rw [←hdel] at happ
   have hil:i≤r.rows.length:=by omega
   have hPl:P.length = i:=by rw [hP,List.length_take];omega
   have hSl:S.length = r.rows.length - (i + 1):=by rw [←hS',List.length_drop]
   have hPm:(dRws P).mid 0 i = dRws P:=sq_mid_all _ _ (by simp [hPl])
   have hdl:(adel r.rows ((t,-1),n)).length = i + (r.rows.length - (i + 1)):=by rw [hdel,List.length_append,hPl,hSl]
   have hfm:(dRws (adel r.rows ((t,-1),n))).mid 0 (i + (r.rows.length - (i + 1))) = dRws (adel r.rows ((t,-1),n)):=sq_mid_all _ _ (by simp [hdl])
   repeat first|refine n1 ?_|refine n2 ?_|((first|refine rg 5 [0,8] [0,8,21] [] ?_|(refine dr 7 256 [0,8] [] [] [⟨0,1,4194304,5⟩,⟨0,0,8388608,4⟩,⟨0,1,16777216,5⟩,⟨4,16777216,33554432,5⟩,⟨8,33554432,67108864,5⟩,⟨16,67108864,134217728,6⟩,⟨0,256,268435456,5⟩,⟨96,402653184,536870912,5⟩,⟨130,545259520,1073741824,0⟩,⟨0,1,2147483648,5⟩,⟨512,2147483648,4294967296,5⟩,⟨1024,4294967296,8589934592,5⟩,⟨2048,8589934592,17179869184,6⟩,⟨0,256,34359738368,5⟩,⟨8192,34359738368,68719476736,5⟩,⟨20480,85899345920,137438953472,5⟩,⟨33024,138512695296,274877906944,0⟩,⟨131071,4194304,549755813888,5⟩,⟨262143,549755813888,1099511627776,5⟩,⟨393215,1374389534720,0,0⟩] (.take 0 (.take 2 (.take 3 (.take 4 (.take 5 (.take 6 (.take 7 (.take 9 (.take 10 (.take 11 (.take 12 (.take 13 (.take 14 (.take 15 (.fork (.alt 1 (.fork (.alt 8 (.fork (.alt 16 (.take 17 (.take 18 (.fork (.alt 19 (.done) (.nil))))) (.nil))) (.nil))) (.nil))))))))))))))))) (.run [0,2,3,4,5,6,7,9,10,11,12,13,14,15,1] (.chk 8 (.run [8,16,17,18,19] (.done)))) ?_;simp only [drs])|refine rg 8 [] [6] [] ?_|refine nc ?_);simp (maxSteps:=1000000) [hF,h0i,dTR,hw,hle,hle2,hle3,hm1,hm2,b1,b2,b3,b4,happ,hil,hPm,hfm])
   (try refine nr ?_);(repeat first|refine nb_ ?_|refine nl_ ?_);refine endK.o [6] [0] [(0,[.d])] ?_;simp [hF,retK,covers,mpre,dTR,he]
   exact ⟨_,(T.del h (t,-1) n).le (Nat.le_succ c),rfl,rfl,rfl⟩
 ·have he:removeOf s t n = (s,chgE s t true [n]):=by simp [removeOf,h0]
  repeat first|refine n1 ?_|((first|refine rg 2 [0,1,2,7] [0,1,2,7,14] [] ?_|refine rg 3 [7] [6] [] ?_|refine nc ?_);simp (maxSteps:=1000000) [hF,h0])
  (try refine nr ?_);(repeat first|refine nb_ ?_|refine nl_ ?_);refine endK.o [6] [0] [(0,[.d])] ?_;simp [hF,retK,covers,mpre,dTR,he]
  exact ⟨r,T1,rfl,rfl,rfl⟩
theorem chg_two {s:Mt} {t:Int} {n m:ByteArray}:(val s.L t = false→chgE s t true [n,m] = 1)∧(val s.L t = true→(isNm n && isNm m) = false→chgE s t true [n,m] = 6) ∧
  (val s.L t = true→(isNm n && isNm m) = true→frz s t = true→chgE s t true [n,m] = 13)∧(val s.L t = true→(isNm n && isNm m) = true→frz s t = false→chgE s t true [n,m] = 0):=by
 refine ⟨fun h=>?_,fun h h2=>?_,fun h h2 h3=>?_,fun h h2 h3=>?_⟩
 ·simp [chgE,askE, *]
 ·have:([n,m].all isNm) = false:=by simpa using h2
  unfold chgE askE;rw [h,this];simp
 ·have:([n,m].all isNm) = true:=by simpa using h2
  unfold chgE askE;rw [h,this,h3];simp
 ·have:([n,m].all isNm) = true:=by simpa using h2
  unfold chgE askE;rw [h,this,h3];simp
theorem rAlias_ok {c:Nat} {s:Mt} {r:Rt} (h:MtOk s) (T:TR c s r) (hc:c≤100000) (t:Int) (n old:ByteArray):Meets Tryz.prog 56 [dTR r] (.cons (.ptr 0 [.d]) (.cons (avInt t) (.cons (.val (.string n)) (.cons (.val (.string old)) .nil))))
  fun av X κ=>∃ r',TR (c + 1) (aliasOf s t n old).1 r'∧av = avInt (aliasOf s t n old).2∧X = [dTR r']∧κ = [(0,[.d])]:=by
 have hl:r.rows.length≤100000:=Nat.le_trans T.cap.1 hc
 have hfl:r.frz.length≤100000000:=by have:=T.cap.2;omega
 have hfz:=T.fzn t
 have hve:=T.val_eq t
 have T1:=T.le (Nat.le_succ c)
 obtain ⟨e1,e2,e3,e4⟩:=chg_two (s:=s) (t:=t) (n:=n) (m:=old)
 have hbad:∀ e,e≠0→chgE s t true [n,old] = e→aliasOf s t n old = (s,e):=fun e h1 h2=>by simp [aliasOf,h2,h1]
 refine fb Tryz.func56 Tryz.ntmps56 [.tmp 8] fun w0 I0 F0 hF=>?_
 repeat first|refine n1 ?_|((first|refine rg 0 [0,1,2,3] [0,1,2,3] [] ?_|refine rg 1 [0,1,2,3] [0,1,2,3,14] [] ?_);simp (maxSteps:=1000000) [hF])
 refine (rthere_ok r t).go [(0,[])] (by simp (maxSteps:=1000000) [hF,dTR,hve]) ?_;rintro av X κ ⟨rfl,rfl,rfl⟩;simp (maxSteps:=1000000) [hF,dTR,hve]
 cases hv:val s.L t with
 | false =>
  have he:=hbad 1 (by decide) (e1 hv)
  repeat first|refine n1 ?_|((first|refine rg 2 [] [8] [] ?_|refine nc ?_);simp (maxSteps:=1000000) [hF,hv])
  (try refine nr ?_);(repeat first|refine nb_ ?_|refine nl_ ?_);refine endK.o [8] [0] [(0,[.d])] ?_;simp [hF,retK,covers,mpre,dTR,he]
  exact ⟨r,T1,rfl,rfl,rfl⟩
 | true =>
  repeat first|refine n1 ?_|refine n2 ?_|((first|refine rg 3 [0,1,2,3] [0,1,2,3,22] [(3,18)] ?_|refine nc ?_);simp (maxSteps:=1000000) [hF,hv])
  cases hn:isNm n with
  | false =>
   have he:=hbad 6 (by decide) (e2 hv (by simp [hn]))
   refine (named_ok n).go [] (by simp (maxSteps:=1000000) [hF,dTR,hn]) ?_;rintro av X κ ⟨rfl,rfl,rfl⟩;simp (maxSteps:=1000000) [hF,dTR,hn]
   repeat first|refine n1 ?_|((first|refine rg 4 [] [8] [] ?_|refine nc ?_);simp (maxSteps:=1000000) [hF])
   (try refine nr ?_);(repeat first|refine nb_ ?_|refine nl_ ?_);refine endK.o [8] [0] [(0,[.d])] ?_;simp [hF,retK,covers,mpre,dTR,he]
   exact ⟨r,T1,rfl,rfl,rfl⟩
  | true =>
   refine (named_ok n).go [] (by simp (maxSteps:=1000000) [hF,dTR,hn]) ?_;rintro av X κ ⟨rfl,rfl,rfl⟩;simp (maxSteps:=1000000) [hF,dTR,hn]
   cases ho:isNm old with
   | false =>
    have he:=hbad 6 (by decide) (e2 hv (by simp [ho]))
    refine (named_ok old).go [] (by simp (maxSteps:=1000000) [hF,dTR,ho]) ?_;rintro av X κ ⟨rfl,rfl,rfl⟩;simp (maxSteps:=1000000) [hF,dTR,ho]
    repeat first|refine n1 ?_|((first|refine rg 4 [] [8] [] ?_|refine nc ?_);simp (maxSteps:=1000000) [hF])
    (try refine nr ?_);(repeat first|refine nb_ ?_|refine nl_ ?_);refine endK.o [8] [0] [(0,[.d])] ?_;simp [hF,retK,covers,mpre,dTR,he]
    exact ⟨r,T1,rfl,rfl,rfl⟩
   | true =>
    refine (named_ok old).go [] (by simp (maxSteps:=1000000) [hF,dTR,ho]) ?_;rintro av X κ ⟨rfl,rfl,rfl⟩;simp (maxSteps:=1000000) [hF,dTR,ho]
    repeat first|refine n1 ?_|refine n2 ?_|((first|refine rg 5 [0,1,2,3] [0,1,2,3,28] [] ?_|refine nc ?_);simp (maxSteps:=1000000) [hF,dTR])
    refine (rhas_ok false r.frz t hfl).go [(0,[.d,.f 3])] (by simp (maxSteps:=1000000) [hF,dTR]) ?_;rintro av X κ ⟨rfl,rfl,rfl⟩;simp (maxSteps:=1000000) [hF,dTR]
    cases hf:frz s t with
    | true =>
     rw [hf] at hfz
     have he:=hbad 13 (by decide) (e3 hv (by simp [hn,ho]) hf)
     repeat first|refine n1 ?_|((first|refine rg 6 [] [8] [] ?_|refine nc ?_);simp (maxSteps:=1000000) [hF,←hfz])
     (try refine nr ?_);(repeat first|refine nb_ ?_|refine nl_ ?_);refine endK.o [8] [0] [(0,[.d])] ?_;simp [hF,retK,covers,mpre,dTR,he]
     exact ⟨r,T1,rfl,rfl,rfl⟩
    | false =>
     rw [hf] at hfz
     have h0:=e4 hv (by simp [hn,ho]) hf
     have hFn:=rFind_nil h T hc t old
     rw [FindOf_told hv ho] at hFn
     repeat first|refine n1 ?_|refine n2 ?_|((first|refine rg 7 [0,1,2,3] [0,1,2,9,10] [] ?_|refine nc ?_);simp (maxSteps:=1000000) [hF,←hfz])
     cases hb:(findOf s t old []).2 with
     | false =>
      have he:aliasOf s t n old = (s,3):=by simp [aliasOf,h0,hb]
      have ht:toldOf (findOf s t old []) = (Fo.none,3):=by simp [toldOf,hb]
      rw [ht] at hFn
      refine (hFn).go [(0,[])] (by simp (maxSteps:=1000000) [hF,dTR,dFo,dEnt,Fo.none,En.none]) ?_;rintro av X κ ⟨rfl,rfl,rfl⟩;simp (maxSteps:=1000000) [hF,dTR,dFo,dEnt,Fo.none,En.none]
      repeat first|refine n1 ?_|((first|refine rg 8 [0,1,2,9,10] [0,1,2,9,10,37] [] ?_|refine rg 9 [10] [8] [] ?_|refine nc ?_);simp (maxSteps:=1000000) [hF])
      (try refine nr ?_);(repeat first|refine nb_ ?_|refine nl_ ?_);refine endK.o [8] [0] [(0,[.d])] ?_;simp [hF,retK,covers,mpre,dTR,he]
      exact ⟨r,T1,rfl,rfl,rfl⟩
     | true =>
      have he:aliasOf s t n old = (putOf s (t,-1) n (findOf s t old []).1.e,0):=by simp [aliasOf,h0,hb]
      have ht:toldOf (findOf s t old []) = ((findOf s t old []).1,0):=by simp [toldOf,hb]
      rw [ht] at hFn
      refine (hFn).go [(0,[])] (by simp (maxSteps:=1000000) [hF,dTR,dFo,dEnt]) ?_;rintro av X κ ⟨rfl,rfl,rfl⟩;simp (maxSteps:=1000000) [hF,dTR,dFo,dEnt]
      repeat first|refine n1 ?_|refine n2 ?_|((first|refine rg 8 [0,1,2,9,10] [0,1,2,9,10,37] [] ?_|refine rg 10 [0,1,2,9] [] [] ?_|refine nc ?_);simp (maxSteps:=1000000) [hF,dFo,dEnt])
      refine (rput_ok r hl t (-1) n (findOf s t old []).1.e).go [(0,[])] (by simp (maxSteps:=1000000) [hF,dTR]) ?_;rintro av X κ ⟨rfl,rfl,rfl⟩;simp (maxSteps:=1000000) [hF,dTR]
      repeat first|refine n1 ?_|((refine rg 11 [] [8] [] ?_);simp (maxSteps:=1000000) [hF])
      (try refine nr ?_);(repeat first|refine nb_ ?_|refine nl_ ?_);refine endK.o [8] [0] [(0,[.d])] ?_;simp [hF,retK,covers,mpre,dTR,he]
      exact ⟨_,T.put _ _ _,rfl,rfl,rfl⟩
theorem rShow_ok {c:Nat} {s:Mt} {r:Rt} (h:MtOk s) (T:TR c s r) (hc:c≤100000) (t:Int) (n:ByteArray) (v:Int):Meets Tryz.prog 57 [dTR r] (.cons (.ptr 0 [.d]) (.cons (avInt t) (.cons (.val (.string n)) (.cons (avInt v) .nil))))
  fun av X κ=>∃ r',TR (c + 1) (showOf s t n v).1 r'∧av = avInt (showOf s t n v).2∧X = [dTR r']∧κ = [(0,[.d])]:=by
 have hl:r.rows.length≤100000:=Nat.le_trans T.cap.1 hc
 have bad:visB v = false→showOf s t n v = (s,1):=fun hf=>by unfold showOf;rw [hf,chg_fine];rfl
 have T1:=T.le (Nat.le_succ c)
 refine fb Tryz.func57 Tryz.ntmps57 [.tmp 8] fun w0 I0 F0 hF=>?_
 by_cases h3:v < 0
 ·have he:=bad (by simp [visB];omega)
  repeat first|refine n1 ?_|((first|refine rg 0 [0,1,2,3] [0,1,2,3] [] ?_|refine rg 1 [0,1,2,3] [0,1,2,3,18] [(2,15)] ?_|refine rg 2 [] [8] [] ?_|refine nc ?_);simp (maxSteps:=1000000) [hF,h3])
  (try refine nr ?_);(repeat first|refine nb_ ?_|refine nl_ ?_);refine endK.o [8] [0] [(0,[.d])] ?_;simp [hF,retK,covers,mpre,dTR,he]
  exact ⟨r,T1,rfl,rfl,rfl⟩
 by_cases h4:2 < v
 ·have he:=bad (by simp [visB];omega)
  repeat first|refine n1 ?_|((first|refine rg 0 [0,1,2,3] [0,1,2,3] [] ?_|refine rg 1 [0,1,2,3] [0,1,2,3,18] [(2,15)] ?_|refine rg 2 [] [8] [] ?_|refine nc ?_);simp (maxSteps:=1000000) [hF,h3,h4])
  (try refine nr ?_);(repeat first|refine nb_ ?_|refine nl_ ?_);refine endK.o [8] [0] [(0,[.d])] ?_;simp [hF,retK,covers,mpre,dTR,he]
  exact ⟨r,T1,rfl,rfl,rfl⟩
 have hf:visB v = true:=by simp [visB];omega
 repeat first|refine n1 ?_|refine n2 ?_|((first|refine rg 0 [0,1,2,3] [0,1,2,3] [] ?_|refine rg 1 [0,1,2,3] [0,1,2,3,18] [(2,15)] ?_|refine rg 3 [0,1,2,3] [0,1,2,3,9] [] ?_|refine nc ?_);simp (maxSteps:=1000000) [hF,h3,h4])
 refine (change_ok T hc t n).go [(0,[])] (by simp (maxSteps:=1000000) [hF,dTR]) ?_;rintro av X κ ⟨rfl,rfl,rfl⟩;simp (maxSteps:=1000000) [hF,dTR]
 by_cases h0:chgE s t true [n] = 0
 ·obtain ⟨hv,_,hn⟩:=chg_zero h0
  have hFn:=rFind_nil h T hc t n
  rw [FindOf_told hv (by simpa using hn)] at hFn
  repeat first|refine n1 ?_|refine n2 ?_|((first|refine rg 4 [0,1,2,3,9] [0,1,2,3,9,24] [] ?_|refine rg 6 [0,1,2,3] [0,1,2,3,10,11] [] ?_|refine nc ?_);simp (maxSteps:=1000000) [hF,h0])
  cases hb:(findOf s t n []).2 with
  | false =>
   have he:showOf s t n v = (s,3):=by simp [showOf,hf,h0,hb]
   have ht:toldOf (findOf s t n []) = (Fo.none,3):=by simp [toldOf,hb]
   rw [ht] at hFn
   refine (hFn).go [(0,[])] (by simp (maxSteps:=1000000) [hF,dTR,dFo,dEnt,Fo.none,En.none]) ?_;rintro av X κ ⟨rfl,rfl,rfl⟩;simp (maxSteps:=1000000) [hF,dTR,dFo,dEnt,Fo.none,En.none]
   repeat first|refine n1 ?_|((first|refine rg 7 [0,1,2,3,10,11] [0,1,2,3,10,11,34] [] ?_|refine rg 8 [11] [8] [] ?_|refine nc ?_);simp (maxSteps:=1000000) [hF])
   (try refine nr ?_);(repeat first|refine nb_ ?_|refine nl_ ?_);refine endK.o [8] [0] [(0,[.d])] ?_;simp [hF,retK,covers,mpre,dTR,he]
   exact ⟨r,T1,rfl,rfl,rfl⟩
  | true =>
   have he:showOf s t n v = (putOf s (t,-1) n { shownOf s t n with vis:=v },0):=by simp [showOf,hf,h0,hb]
   have ht:toldOf (findOf s t n []) = ((findOf s t n []).1,0):=by simp [toldOf,hb]
   have hsh:shownOf s t n = match lkp s (t,-1) n with
    | some own=>if own.body≠-1 then own else (findOf s t n []).1.e
    | none=>(findOf s t n []).1.e:=rfl
   have fin:∀ e0:En,shownOf s t n = e0→showOf s t n v = (putOf s (t,-1) n ⟨e0.body,v,e0.home,e0.known⟩,0):=fun e0 h=>by rw [he,h]
   rw [ht] at hFn
   generalize (findOf s t n []).1 = fo at *
   rw [T.rows] at hsh
   refine (hFn).go [(0,[])] (by simp (maxSteps:=1000000) [hF,dTR,dFo,dEnt]) ?_;rintro av X κ ⟨rfl,rfl,rfl⟩;simp (maxSteps:=1000000) [hF,dTR,dFo,dEnt]
   repeat first|refine n1 ?_|refine n2 ?_|((first|refine rg 7 [0,1,2,3,10,11] [0,1,2,3,10,11,34] [] ?_|refine rg 9 [0,1,2,3,10] [0,1,2,3,10,12] [] ?_|refine nc ?_);simp (maxSteps:=1000000) [hF])
   cases hg:aget r.rows ((t,-1),n) with
   | none =>
    have hp:=rplace_none hg
    rw [hg] at hsh
    have hfin:=fin fo.e hsh
    refine (place_ok r hl t (-1) n).go [(0,[])] (by simp (maxSteps:=1000000) [hF,dTR,hp]) ?_;rintro av X κ ⟨rfl,rfl,rfl⟩;simp (maxSteps:=1000000) [hF,dTR,hp]
    repeat first|refine n1 ?_|refine n2 ?_|((first|refine rg 10 [0,1,2,3,10,12] [0,1,2,3,10,12,53] [(2,42)] ?_|refine rg 12 [0,1,2,3,10] [0,1,2,10] [] ?_|refine rg 13 [0,1,2,10] [] [] ?_|refine nc ?_);simp (maxSteps:=1000000) [hF,dFo,dEnt])
    refine (rput_ok r hl t (-1) n ⟨fo.e.body,v,fo.e.home,fo.e.known⟩).go [(0,[])] (by simp (maxSteps:=1000000) [hF,dTR]) ?_;rintro av X κ ⟨rfl,rfl,rfl⟩;simp (maxSteps:=1000000) [hF,dTR]
    repeat first|refine n1 ?_|((refine rg 14 [] [8] [] ?_);simp (maxSteps:=1000000) [hF])
    (try refine nr ?_);(repeat first|refine nb_ ?_|refine nl_ ?_);refine endK.o [8] [0] [(0,[.d])] ?_;simp [hF,retK,covers,mpre,dTR,hfin]
    exact ⟨_,T.put _ _ _,rfl,rfl,rfl⟩
   | some e0 =>
    obtain ⟨hp,hi,hat⟩:=rplace_some hg
    rw [hg] at hsh
    have hrn:=dRws_nth hi
    rw [hat] at hrn
    simp only [dRw,dEnt] at hrn
    by_cases hbd:e0.body = -1
    ·have hfin:=fin fo.e (by rw [hsh];simp [hbd])
     refine (place_ok r hl t (-1) n).go [(0,[])] (by simp (maxSteps:=1000000) [hF,dTR,hp]) ?_;rintro av X κ ⟨rfl,rfl,rfl⟩;simp (maxSteps:=1000000) [hF,dTR,hp]
     generalize aidx r.rows ((t,-1),n) = i at *
     repeat first|refine n1 ?_|refine n2 ?_|((first|refine rg 10 [0,1,2,3,10,12] [0,1,2,3,10,12,53] [(2,42)] ?_|refine rg 12 [0,1,2,3,10] [0,1,2,10] [] ?_|refine rg 13 [0,1,2,10] [] [] ?_|refine nc ?_);simp (maxSteps:=1000000) [hF,dTR,hrn,hi,dFo,dEnt,hbd])
     refine (rput_ok r hl t (-1) n ⟨fo.e.body,v,fo.e.home,fo.e.known⟩).go [(0,[])] (by simp (maxSteps:=1000000) [hF,dTR]) ?_;rintro av X κ ⟨rfl,rfl,rfl⟩;simp (maxSteps:=1000000) [hF,dTR]
     repeat first|refine n1 ?_|((refine rg 14 [] [8] [] ?_);simp (maxSteps:=1000000) [hF])
     (try refine nr ?_);(repeat first|refine nb_ ?_|refine nl_ ?_);refine endK.o [8] [0] [(0,[.d])] ?_;simp [hF,retK,covers,mpre,dTR,hfin]
     exact ⟨_,T.put _ _ _,rfl,rfl,rfl⟩
    ·have hfin:=fin e0 (by rw [hsh];simp [hbd])
     refine (place_ok r hl t (-1) n).go [(0,[])] (by simp (maxSteps:=1000000) [hF,dTR,hp]) ?_;rintro av X κ ⟨rfl,rfl,rfl⟩;simp (maxSteps:=1000000) [hF,dTR,hp]
     generalize aidx r.rows ((t,-1),n) = i at *
     repeat first|refine n1 ?_|((first|refine rg 10 [0,1,2,3,10,12] [0,1,2,3,10,12,53] [(2,42)] ?_|refine rg 11 [0,1,2,3,10,12] [0,1,2,3,10] [] ?_|refine rg 12 [0,1,2,3,10] [0,1,2,10] [] ?_|refine rg 13 [0,1,2,10] [] [] ?_|refine nc ?_);simp (maxSteps:=1000000) [hF,dTR,hrn,hi,dFo,dEnt,hbd])
     refine (rput_ok r hl t (-1) n ⟨e0.body,v,e0.home,e0.known⟩).go [(0,[])] (by simp (maxSteps:=1000000) [hF,dTR]) ?_;rintro av X κ ⟨rfl,rfl,rfl⟩;simp (maxSteps:=1000000) [hF,dTR]
     repeat first|refine n1 ?_|((refine rg 14 [] [8] [] ?_);simp (maxSteps:=1000000) [hF])
     (try refine nr ?_);(repeat first|refine nb_ ?_|refine nl_ ?_);refine endK.o [8] [0] [(0,[.d])] ?_;simp [hF,retK,covers,mpre,dTR,hfin]
     exact ⟨_,T.put _ _ _,rfl,rfl,rfl⟩
 ·have he:showOf s t n v = (s,chgE s t true [n]):=by simp [showOf,hf,h0]
  repeat first|refine n1 ?_|((first|refine rg 4 [0,1,2,3,9] [0,1,2,3,9,24] [] ?_|refine rg 5 [9] [8] [] ?_|refine nc ?_);simp (maxSteps:=1000000) [hF,h0])
  (try refine nr ?_);(repeat first|refine nb_ ?_|refine nl_ ?_);refine endK.o [8] [0] [(0,[.d])] ?_;simp [hF,retK,covers,mpre,dTR,he]
  exact ⟨r,T1,rfl,rfl,rfl⟩
theorem rNew_ok {R:List Th} {r:Int→Nat} (B:Base R r):Meets Tryz.prog 71 [dR R] (.cons (.ptr 0 [.d]) .nil)
  fun av X κ=>av = avTwo (.ptr 1 [.d]) 0∧X = [dR R,dTR ⟨R,[],[]⟩]∧κ = []:=by
 refine fb Tryz.func71 Tryz.ntmps71 [.tmp 2,.tmp 3] fun w0 I0 F0 hF=>?_
 repeat first|refine n1 ?_|((first|refine rg 0 [0] [0] [] ?_|refine rg 1 [0] [0,5] [] ?_);simp (maxSteps:=1000000) [hF])
 refine (No_ok R).go [(0,[])] (by simp (maxSteps:=1000000) [hF,dR]) ?_;rintro av X κ ⟨rfl,rfl,rfl⟩;simp (maxSteps:=1000000) [hF,dR]
 repeat first|refine n1 ?_|refine n2 ?_|((first|refine rg 3 [0] [2,3] [] ?_|refine nc ?_);simp (maxSteps:=1000000) [hF])
 refine (rCopy_ok B).go [(0,[])] (by simp (maxSteps:=1000000) [hF,dR]) ?_;rintro av X κ ⟨rfl,rfl,rfl⟩;simp (maxSteps:=1000000) [hF,dR]
 repeat first|refine n1 ?_
 (try refine nr ?_);(repeat first|refine nb_ ?_|refine nl_ ?_);refine endK.o [2,3] [0,2] [] ?_;simp [hF,retK,covers,mpre,dR,dTR]
theorem name_ok (n:Int) (s:ByteArray):Meets Tryz.prog 20 [] (.cons (avInt n) (.cons (.val (.string s)) .nil)) fun av X κ=>av = .val (.string (nameOf n s))∧X = []∧κ = []:=by
 obtain ⟨h1,h2⟩:=fitN_eq n (n:=5) (by omega)
 have h1':(IntKind.u64.wrap n).tmod 5 = (fitN n 5:Int):=h1
 have hd:nameOf n s = if fitN n 5 = 0 then fA else if fitN n 5 = 1 then fB else if fitN n 5 = 2 then fC else if fitN n 5 = 3 then fF else s:=rfl
 rw [hd]
 have w2:IntKind.i64.wrap (fitN n 5:Int) = fitN n 5:=IntWalk.i64_in _ (by omega)
 generalize fitN n 5 = k at *
 have v0:IntKind.i64.wrap 0 = 0:=by decide
 have v1:IntKind.i64.wrap 1 = 1:=by decide
 have v2:IntKind.i64.wrap 2 = 2:=by decide
 have v3:IntKind.i64.wrap 3 = 3:=by decide
 have v4:IntKind.i64.wrap 4 = 4:=by decide
 refine fb Tryz.func20 Tryz.ntmps20 [.tmp 4] fun w0 I0 F0 hF=>?_
 rcases (by omega:k = 0∨k = 1∨k = 2∨k = 3∨k = 4) with rfl | rfl | rfl | rfl | rfl
 all_goals
  repeat first|refine n1 ?_|((first|refine rg 0 [0,1] [0,1] [] ?_|refine rg 1 [0,1] [4] [] ?_);simp (maxSteps:=1000000) [hF,h1',v0,v1,v2,v3,v4])
  (try refine nr ?_);(repeat first|refine nb_ ?_|refine nl_ ?_);refine endK.o [4] [] [] ?_;simp [hF,retK,covers,mpre]
def r0:Rt:=⟨L0,[],[]⟩
theorem TR0:TR 0 s0 r0:=⟨LR_L0,fun _ _=>rfl,fun _=>rfl,by decide,by decide,by decide⟩
def dBo (s:Mt) (r:Rt):D:=.box true () (.agg (.cons (dTs true s) (.cons (dTR r) .nil)))
@[simp high] theorem head_dBo (s:Mt) (r:Rt):isHead (dBo s r) = true:=by rw [dBo,isHead]
abbrev avBo (i:Nat):AV:=.agg (.cons (.ptr i [.d,.f 0,.d]) (.cons (.ptr i [.d,.f 1,.d]) .nil))
abbrev avB (i j:Nat):AV:=.agg (.cons (.ptr i [.d]) (.cons (.ptr j [.d]) .nil))
theorem L0_base:∃ r,Base L0 r:=L0_OK.wf.base
theorem begun_ok:Meets Tryz.prog 27 [] .nil fun av X κ=>av = .tup (.cons (avBo 0) (.cons (avBool true) .nil))∧X = [dBo s0 r0]∧κ = []:=by
 obtain ⟨r,B⟩:=L0_base
 refine fb Tryz.func27 Tryz.ntmps27 [.cell 0 26,.tmp 1] fun w0 I0 F0 hF=>?_
 repeat first|refine n1 ?_|((first|refine rg 0 [] [0] [] ?_|refine rg 1 [0] [0,2,3] [] ?_);simp (maxSteps:=1000000) [hF])
 refine (new_ok).go [] (by simp (maxSteps:=1000000) [hF]) ?_;rintro av X κ ⟨rfl,rfl,rfl⟩;simp (maxSteps:=1000000) [hF]
 repeat first|refine n1 ?_
 refine (New_ok L0_OK (by decide)).go [(1,[])] (by simp (maxSteps:=1000000) [hF,dL]) ?_;rintro av X κ ⟨rfl,rfl,rfl⟩;simp (maxSteps:=1000000) [hF,dL]
 repeat first|refine n1 ?_|((refine rg 2 [0,2,3] [0,2,3,4,5] [] ?_);simp (maxSteps:=1000000) [hF])
 refine (rnew_ok).go [] (by simp (maxSteps:=1000000) [hF]) ?_;rintro av X κ ⟨rfl,rfl,rfl⟩;simp (maxSteps:=1000000) [hF]
 repeat first|refine n1 ?_
 refine (rNew_ok B).go [(3,[])] (by simp (maxSteps:=1000000) [hF,dR]) ?_;rintro av X κ ⟨rfl,rfl,rfl⟩;simp (maxSteps:=1000000) [hF,dR]
 repeat first|refine n1 ?_|((refine rg 3 [0,2,3,4,5] [0,1] [(5,21),(9,25),(13,29)] ?_);simp (maxSteps:=1000000) [hF])
 refine (Lineage_ok true ⟨L0,[],[]⟩).go [(2,[])] (by simp (maxSteps:=1000000) [hF,dTs,dL,dTR,dR]) ?_;rintro av X κ ⟨rfl,rfl,rfl⟩;simp (maxSteps:=1000000) [hF,dTs,dL,dTR,dR]
 repeat first|refine n1 ?_
 (try refine nr ?_);(repeat first|refine nb_ ?_|refine nl_ ?_);refine endK.o [0,1] [0] [] ?_;simp [hF,retK,covers,mpre,dTs,dL,dTR,dR,s0,r0,dBo]
end Go.Proofs.YtbhigdljojlhnaaGreat

/- Drawn regions with calls that leave the blocks of some boxes alone: what is read of those boxes may be read first. -/
namespace Go.Vc
set_option linter.all false
open T (hdr blk)
def ExtB (B:Nat→Prop) (w w':World):Prop:=∀ b,B b→b < w.heap.size→w'.heap[b]? = w.heap[b]?
theorem Ext.toB {B:Nat→Prop} {w w':World} (h:Ext w w'):ExtB B w w':=fun b _ hb=>h b hb
section
variable {P:Program} {ops:Array Oper} {Q:Exit→Act→World→Prop} {md:Region.Mode} {B:Nat→Prop}
def wpAnyB (P:Program) (md:Region.Mode) (ops:Array Oper) (B:Nat→Prop) (E:Nat→Bool) (Q:Exit→Act→World→Prop):Nat→Array Bool→Act→World→Prop
 | 0,listed,a,w=>Region.ready md ops listed = []∧Q .normal a w
 | fuel + 1,listed,a,w =>
  (Region.ready md ops listed = []→Q .normal a w) ∧
  ∀ i∈Region.ready md ops listed,wpOp P ops Q i (fun a' w'=>(E i = true→ExtB B w w')∧wpAnyB P md ops B E Q fuel (listed.setIfInBounds i true) a' w') a w
variable {E:Nat→Bool}
theorem wpAny_of_B:∀ (fuel:Nat) (listed:Array Bool) (a:Act) (w:World),wpAnyB P md ops B E Q fuel listed a w→wpAny P md ops Q fuel listed a w
 | 0,_,_,_,h=>h
 | fuel + 1,_,_,_,h=>⟨h.1,fun i hi=>wpOp_mono (fun a' w' h'=>wpAny_of_B fuel _ a' w' h'.2) (h.2 i hi)⟩
theorem wpAnyB_first {S:World→Prop} {i:Nat} {oi:Oper} {v:Value} (hi:ops[i]? = some oi) (hsel:∀ (j:Nat) (o:Oper) cs b,ops[j]? = some o→o.op≠.select cs b)
  (hQ:∀ c a w,Q (.panic c) (a.put oi.dst v) w→Q (.panic c) a w) (hSE:(∀ w,S w)∨∀ w w',S w→ExtB B w w'→S w') (D:Nat→Bool)
  (hD:∀ j oj,ops[j]? = some oj→D j = true→∃ e∈oj.after,Region.binds md e = true∧(e.on = i∨D e.on = true)) :
  ∀ (fuel:Nat) (listed:Array Bool) (a:Act) (w:World),(∀ j,D j = true→listed.getD j false = false) →
   (∀ j oj,ops[j]? = some oj→j≠i→listed.getD j true = false→D j = false→oi.apart ops oj = true∧((∀ w,S w)∨E j = true)) →
   i∈Region.ready md ops listed→YieldsS P ops S oi v a→S w →
   wpAnyB P md ops B E Q fuel (listed.setIfInBounds i true) (a.put oi.dst v) w→wpAnyB P md ops B E Q (fuel + 1) listed a w:=by
 intro fuel
 induction fuel with
 | zero =>
  intro listed a w _ _ hr hy hS H
  refine ⟨fun h=>(by rw [h] at hr;cases hr),fun j hj=>?_⟩
  by_cases hji:j = i
  ·subst hji;exact hy.wpOp hi hS ⟨fun _ _ _ _=>rfl,H⟩
  ·have:=ready_mono hj hji
   rw [H.1] at this
   cases this
 | succ fuel ih =>
  intro listed a w hDl hfree hr hy hS H
  refine ⟨fun h=>(by rw [h] at hr;cases hr),fun j hj=>?_⟩
  by_cases hji:j = i
  ·subst hji;exact hy.wpOp hi hS ⟨fun _ _ _ _=>rfl,H⟩
  ·have h1:=H.2 j (ready_mono hj hji)
   obtain ⟨hjun,oj,hoj,hall⟩:=mem_ready.1 hj
   have hiun:=(mem_ready.1 hr).1
   have hjD:D j = false:=by
    cases hd:D j with
    | false=>rfl
    | true =>
     exfalso
     obtain ⟨e,he,hb,h2⟩:=hD j oj hoj hd
     have h3:=hall e he hb
     rcases h2 with h2 | h2
     ·rw [h2] at h3
      rcases Nat.lt_or_ge i listed.size with h' | h'
      ·simp [h'] at hiun h3;rw [hiun] at h3;cases h3
      ·simp [Array.getElem?_eq_none h'] at h3
     ·rw [hDl _ h2] at h3;cases h3
   obtain ⟨hap,hext⟩:=hfree j oj hoj hji hjun hjD
   have h2:=wpOp_putS hoj hap (fun cs b=>hsel i oi cs b hi) (fun cs b=>hsel j oj cs b hoj) hQ hy h1
   have hDl':∀ k,D k = true→(listed.setIfInBounds j true).getD k false = false:=fun k hk=>by
    by_cases hjk:j = k
    ·subst hjk;rw [hjD] at hk;cases hk
    ·rw [getD_set_ne false hjk];exact hDl k hk
   have hfree':∀ k ok,ops[k]? = some ok→k≠i→(listed.setIfInBounds j true).getD k true = false→D k = false→oi.apart ops ok = true∧((∀ w,S w)∨E k = true):=fun k ok hk hki hun hno=>by
    refine hfree k ok hk hki ?_ hno
    by_cases hjk:j = k
    ·subst hjk;exact hjun
    ·rw [getD_set_ne true hjk] at hun;exact hun
   refine wpOp_mono (fun a' w' h3=>⟨h3.2.1,ih (listed.setIfInBounds j true) a' w' hDl' hfree' (ready_mono hr (Ne.symm hji)) h3.1 ?_ ?_⟩) h2
   ·rcases hSE with h | h
    ·exact h _
    ·rcases hext with h' | h'
     ·exact h' _
     ·exact h w w' hS (h3.2.1 h')
   ·rw [Array.setIfInBounds_comm _ _ hji]
    exact h3.2.2
theorem wpAnyB_done {listed:Array Bool} {a:Act} {w:World} (hr:Region.ready md ops listed = []) (h:Q .normal a w) :
  ∀ fuel,wpAnyB P md ops B E Q fuel listed a w
 | 0=>⟨hr,h⟩
 | _ + 1=>⟨fun _=>h,by rw [hr];simp⟩
end
def isFs:Path→Bool
 | []=>true
 | .f _ :: q=>isFs q
 | _=>false
theorem loc_fs:∀ {q:Path} {g:G} {l:Loc},isFs q = true→g.loc q = some l→∃ o,l = .rel o
 | [],g,l,_,h=>by unfold T.loc at h;cases h;exact ⟨0,rfl⟩
 | .f i :: q,g,l,hq,h=>by
  unfold T.loc at h
  cases g with
  | agg s =>
   simp only at h
   split at h
   ·cases hs:(s.nth i).loc q with
    | none=>rw [hs] at h;cases h
    | some l' =>
     obtain ⟨o,rfl⟩:=loc_fs (by simpa [isFs] using hq) hs
     rw [hs] at h;cases h;exact ⟨_,rfl⟩
   ·cases h
  | _=>simp at h
 | .i _ :: q,_,_,hq,_=>by cases hq
 | .d :: q,_,_,hq,_=>by cases hq
theorem loc_box {g:G} {q:Path} {b o:Nat} (hq:isFs q = true) (h:g.loc (.d :: q) = some (.abs b o)):∃ ow a g',g = .box ow a g'∧∃ off,T.headAt a = some (b,off):=by
 unfold T.loc at h
 cases g with
 | box ow a g' =>
  simp only at h
  cases hl:g'.loc q with
  | none=>rw [hl] at h;cases h
  | some l =>
   obtain ⟨o',rfl⟩:=loc_fs hq hl
   rw [hl] at h
   cases ha:T.headAt a with
   | none=>rw [ha] at h;cases h
   | some x =>
    obtain ⟨b',off⟩:=x
    rw [ha] at h
    cases h
    exact ⟨ow,a,g',rfl,off,ha⟩
 | _=>simp at h
theorem headAt_blk {a:Value} {b off:Nat} (h:T.headAt a = some (b,off)):b∈blk a:=by
 unfold T.headAt at h
 split at h
 ·cases h;simp [blk]
 ·cases h;simp [blk]
 ·cases h
def isBoxAV:AV→Option Nat
 | .ptr k [.d]=>some k
 | _=>none
def ownBox:D→Bool
 | .box true _ _=>true
 | _=>false
def tsOk:List Tmp→St→Bool
 | [],_=>true
 | t :: ts,st=>(match isBoxAV (look st.env t) with
  | some k=>ownBox (st.tree k)
  | none=>false) && tsOk ts st
def ksOf:List Tmp→St→List Nat
 | [],_=>[]
 | t :: ts,st=>(match isBoxAV (look st.env t) with
  | some k=>[k]
  | none=>[]) ++ ksOf ts st
def inKs (k:Nat):List Nat→Bool
 | []=>false
 | x :: l=>Nat.beq x k || inKs k l
def nearAV (ks:List Nat):AV→Bool
 | .ptr k (.d :: q)=>isFs q && inKs k ks
 | _=>false
def nearOp (ts:List Tmp) (st:St) (o:Oper):Bool:=match o.op with
 | .load _ x=>nearAV (ksOf ts st) (st.ev x)
 | _=>true
def Bv (ts:List Tmp) (v:Tmp→Value) (b:Nat):Prop:=∃ t∈ts,∃ o,v t = .pointer (some ⟨b,o,none⟩)
theorem isBoxAV_some {av:AV} {k:Nat} (h:isBoxAV av = some k):av = .ptr k [.d]:=by
 unfold isBoxAV at h
 split at h
 ·cases h;rfl
 ·cases h
theorem inKs_mem {k:Nat}:∀ {l:List Nat},inKs k l = true→k∈l
 | x :: l,h=>by
  simp only [inKs,Bool.or_eq_true] at h
  rcases h with h | h
  ·rw [Nat.eq_of_beq_eq_true h];exact List.mem_cons_self ..
  ·exact List.mem_cons_of_mem _ (inKs_mem h)
theorem mem_inKs {k:Nat}:∀ {l:List Nat},k∈l→inKs k l = true
 | y :: l,h=>by
  simp only [inKs,Bool.or_eq_true]
  rcases List.mem_cons.1 h with h | h
  ·subst h;exact Or.inl (Nat.beq_refl _)
  ·exact Or.inr (mem_inKs h)
theorem ksOf_mem {k:Nat} {st:St}:∀ {ts:List Tmp},k∈ksOf ts st→∃ t∈ts,look st.env t = .ptr k [.d]
 | t :: ts,h=>by
  simp only [ksOf,List.mem_append] at h
  rcases h with h | h
  ·split at h
   ·rename_i k' hk
    rw [List.mem_singleton] at h;subst h
    exact ⟨t,List.mem_cons_self ..,isBoxAV_some hk⟩
   ·cases h
  ·obtain ⟨t',h1,h2⟩:=ksOf_mem h
   exact ⟨t',List.mem_cons_of_mem _ h1,h2⟩
theorem tsOk_mem {st:St}:∀ {ts:List Tmp},tsOk ts st = true→∀ t∈ts,∃ k,look st.env t = .ptr k [.d]∧ownBox (st.tree k) = true∧k∈ksOf ts st
 | t0 :: ts,h,t,ht=>by
  simp only [tsOk,Bool.and_eq_true] at h
  rcases List.mem_cons.1 ht with rfl | ht
  ·have h1:=h.1
   cases hk:isBoxAV (look st.env t) with
   | none=>rw [hk] at h1;cases h1
   | some k =>
    rw [hk] at h1
    exact ⟨k,isBoxAV_some hk,h1,by simp [ksOf,hk]⟩
  ·obtain ⟨k,h1,h2,h3⟩:=tsOk_mem h.2 t ht
   exact ⟨k,h1,h2,by simp [ksOf,h3]⟩
section
variable {c:Cx} {τ:Tab} {st:St} {a:Act} {w:World} {I:Nat→Prop} {F:List G} {ts:List Tmp} {v:Tmp→Value}
theorem near_ok (he:EnvOk st.env a w I F) (hv:∀ t∈ts,a.tmps.getD t undef = v t) {x:Operand} (h:nearAV (ksOf ts st) (st.ev x) = true) :
  ∃ k q b o,st.ev x = .ptr k q∧locF F k q = some (.abs b o)∧a.eval x = .pointer (some ⟨b,o,none⟩)∧Bv ts v b:=by
 unfold nearAV at h
 split at h
 case h_2=>cases h
 rename_i k q hx
 simp only [Bool.and_eq_true] at h
 obtain ⟨t,ht,hl⟩:=ksOf_mem (inKs_mem h.2)
 have hxv:=he.ev x
 rw [hx] at hxv
 obtain ⟨b,o,h1,h2⟩:=hxv
 have htv:=he t
 rw [hl] at htv
 obtain ⟨b',o',h3,h4⟩:=htv
 simp only [List.cons.injEq,and_true] at h2 h4
 refine ⟨k,_,b,o,hx,h1,h2,t,ht,o',?_⟩
 rw [←hv t ht,h4]
 unfold locF at h1 h3
 cases hg:F[k]? with
 | none=>rw [hg] at h1;cases h1
 | some g =>
  rw [hg] at h1 h3
  simp only [Option.bind_some] at h1 h3
  obtain ⟨_,a1,g1,e1,off1,e2⟩:=loc_box h.1 h1
  obtain ⟨_,a2,g2,e3,off2,e4⟩:=loc_box (q:=[]) rfl h3
  rw [e1] at e3;cases e3
  rw [e2] at e4;cases e4
  rfl
theorem Bv_own (hi:Inv c st.X st.κ w I F) (he:EnvOk st.env a w I F) (hv:∀ t∈ts,a.tmps.getD t undef = v t) (hts:tsOk ts st = true) {b:Nat} (hb:Bv ts v b) :
  ∃ k∈ksOf ts st,∃ g,F[k]? = some g∧b∈g.owned:=by
 obtain ⟨t,ht,o,hvt⟩:=hb
 obtain ⟨k,hk,hbox,hks⟩:=tsOk_mem hts t ht
 have htv:=he t
 rw [hk] at htv
 obtain ⟨b',o',h3,h4⟩:=htv
 simp only [List.cons.injEq,and_true] at h4
 rw [hv t ht,hvt] at h4
 simp only [Value.pointer.injEq,Option.some.injEq,Addr.mk.injEq] at h4
 obtain ⟨rfl,_,_⟩:=h4
 unfold locF at h3
 cases hg:F[k]? with
 | none=>rw [hg] at h3;cases h3
 | some g =>
  rw [hg] at h3
  simp only [Option.bind_some] at h3
  obtain ⟨ow,a2,g2,rfl,off2,e4⟩:=loc_box (q:=[]) rfl h3
  rw [hi.tree hg] at hbox
  refine ⟨k,hks,_,hg,?_⟩
  cases ow with
  | false=>simp [T.erase,ownBox] at hbox
  | true=>simp only [T.owned,List.mem_append];exact .inl (headAt_blk e4)
theorem load_near (hτ:Tab.Ok c.P τ) (hi:Inv c st.X st.κ w I F) (he:EnvOk st.env a w I F) (hp:PlOk st.pl w I F) (hv:∀ t∈ts,a.tmps.getD t undef = v t)
  {o:Oper} {K:AV→Prop} (hlv:loadVc τ o.op st K) (hn:nearOp ts st o = true) (hld:loadOp o.op = true):∃ av u,K av∧Rl w.heap I F av true [u]∧∀ w',ExtB (Bv ts v) w w'→(execOp a.eval o).run c.P w' = .ok (.value u) w':=by
 obtain ⟨av,u,h1,h2,h3⟩:=load_ok hτ hi he hp hlv
 refine ⟨av,u,h1,h2,fun w' hw'=>?_⟩
 obtain ⟨dst,op,ty,pos,after,guard⟩:=o
 cases op with
 | load t x =>
  simp only [nearOp] at hn
  obtain ⟨k,q,b,o,e1,e2,e3,e4⟩:=near_ok he hv hn
  simp only [loadVc,e1] at hlv
  obtain ⟨hld',_⟩:=hlv
  unfold locF at e2
  cases hg:F[k]? with
  | none=>rw [hg] at e2;cases e2
  | some g =>
   rw [hg] at e2
   simp only [Option.bind_some] at e2
   have hH:=hi.holds g (List.mem_of_getElem? hg)
   have hrow:T.RowAt w.heap b o (g.at_ q).cells:=T.loc_read hH e2
   have hd:(st.tree k).at_ q = (g.at_ q).erase:=by rw [hi.tree hg,T.erase_at]
   rw [hd] at hld'
   have hlen:(g.at_ q).cells.length = ((g.at_ q).erase).width:=by rw [T.cells_length,T.erase_width]
   have hb:b < w.heap.size:=by
    obtain ⟨row,e,fr,h3,_⟩:=hrow
    rcases Nat.lt_or_ge b w.heap.size with h' | h'
    ·exact h'
    ·rw [Array.getElem?_eq_none h'] at h3;cases h3
   obtain ⟨v1,hr1,hv1⟩:=run_loadAt (P:=c.P) hτ hld' hrow hlen
   have hrow':T.RowAt w'.heap b o (g.at_ q).cells:=by
    obtain ⟨row,e,fr,h3,h4⟩:=hrow
    exact ⟨row,e,fr,by rw [hw' b e4 hb];exact h3,h4⟩
   obtain ⟨v',hr',hv'⟩:=run_loadAt (P:=c.P) hτ hld' hrow' hlen
   have hsame:v' = v1:=by
    rcases hv1 with ⟨s,h3,h4⟩ | ⟨h3,h4⟩ <;> rcases hv' with ⟨s',h5,h6⟩ | ⟨h5,h6⟩
    ·rw [h4,h6]
    ·exact absurd h3 (h6 s)
    ·exact absurd h5 (h4 s')
    ·rw [h3] at h5;cases h5;rfl
   have hu:v1 = u:=by
    have h4:=h3 w fun _ _=>rfl
    have h5:=run_v hr1
    simp only [execOp,e3] at h4
    rw [h5] at h4
    cases h4;rfl
   rw [hsame,hu] at hr'
   simp only [execOp,e3]
   exact run_v hr'
 | _=>cases hld
end
def CallB (c:Cx) (f:FuncId) (avs:AV) (ks:List Nat) (st:St) (K:AV→St→Prop):Prop :=
 ∀ a w vs I F,Dfs c.w0.heap.size a.defers w→a.tmps.size = c.nt→Inv c st.X st.κ w I F→EnvOk st.env a w I F→PlOk st.pl w I F→Rl w.heap I F avs true vs →
  HasBody c.P f∧Calls c.P f vs.toArray w fun e w'=>∃ v av st',e = .returned v∧K av st'∧RelR c st' av v a w'∧∀ k∈ks,∀ g,F[k]? = some g→∀ b∈g.owned,w'.heap[b]? = w.heap[b]?
theorem own_two {F:List G} (hn:(own F).Nodup):∀ {i j:Nat} {g g':G} {b:Nat},F[i]? = some g→F[j]? = some g'→b∈g.owned→b∈g'.owned→i = j:=by
 induction F with
 | nil=>intro i j g g' b h;cases h
 | cons x F ih =>
  intro i j g g' b hi hj hb hb'
  have hcons:own (x :: F) = x.owned ++ own F:=by simp [own]
  rw [hcons] at hn
  obtain ⟨_,n2,n3⟩:=List.nodup_append.1 hn
  have mem:∀ {j:Nat} {g':G},F[j]? = some g'→b∈g'.owned→b∈own F:=fun h1 h2=>List.mem_flatMap.2 ⟨_,List.mem_of_getElem? h1,h2⟩
  cases i with
  | zero =>
   cases j with
   | zero=>rfl
   | succ j =>
    simp only [List.getElem?_cons_zero,Option.some.injEq] at hi
    subst hi
    exact absurd rfl (n3 b hb b (mem (by simpa using hj) hb'))
  | succ i =>
   cases j with
   | zero =>
    simp only [List.getElem?_cons_zero,Option.some.injEq] at hj
    subst hj
    exact absurd rfl (n3 b hb' b (mem (by simpa using hi) hb))
   | succ j=>exact congrArg Nat.succ (ih (i:=i) (j:=j) n2 (by simpa using hi) (by simpa using hj) hb hb')
def outKs (ks:List Nat):List (Nat×Path)→Bool
 | []=>true
 | e :: l=>!inKs e.1 ks && outKs ks l
theorem outKs_mem {ks:List Nat} {e:Nat×Path}:∀ {l:List (Nat×Path)},outKs ks l = true→e∈l→e.1∉ks
 | x :: l,h,he=>by
  simp only [outKs,Bool.and_eq_true,Bool.not_eq_true'] at h
  rcases List.mem_cons.1 he with rfl | he
  ·intro hm
   have h1:=h.1
   rw [mem_inKs hm] at h1;cases h1
  ·exact outKs_mem h.2 he
theorem Meets.callB {c:Cx} {f:FuncId} {Y:List D} {args:AV} {R:AV→List D→List (Nat×Path)→Prop} (h:Meets c.P f Y args R) {st:St} {avs:AV} {ks:List Nat} {K:AV→St→Prop} (pls:List (Nat×Path))
  (hn:(pls.map (·.1)).Nodup) (hpl:placesOk st pls Y) (ha:args.emb pls st.X.length = avs) (hok:args.okArg pls.length = true)
  (hx:outKs ks pls = true) (hK:∀ av X κ,R av X κ→K (av.emb pls st.X.length) (st.after c.F0.length pls X κ)):CallB c f avs ks st K:=by
 intro a w vs I F hd hs hi he hp hxs
 refine ⟨h.1,?_⟩
 obtain ⟨p1,p2,p3⟩:=placesOk_spec hpl
 have hFl:F.length = st.X.length:=by rw [←hi.erase];simp
 have htree:∀ k,st.tree k = (F.getD k .nil).erase:=fun k=>by
  rw [St.tree,←hi.erase,List.getD_eq_getElem?_getD,List.getElem?_map,List.getD_eq_getElem?_getD]
  cases F[k]? <;> rfl
 have hokF:∀ e∈pls,e.1 < F.length∧(F.getD e.1 .nil).okp e.2 = true∧T.noEntry false (F.getD e.1 .nil) e.2 = true:=fun e he=>by
  obtain ⟨h1,h2,h3,_⟩:=p2 e he
  rw [htree,T.okp_erase] at h2
  rw [htree,T.noEntry_erase] at h3
  exact ⟨by omega,h2,h3⟩
 have hhead:∀ e∈pls,(F.getD e.1 .nil).okp e.2 = true∧isHead ((F.getD e.1 .nil).at_ e.2) = true:=fun e he=>by
  obtain ⟨h1,h2,h3,h4⟩:=p2 e he
  rw [htree,←T.erase_at,isHead_erase] at h4
  exact ⟨(hokF e he).2.1,h4⟩
 have hY:(nodes F pls).map T.erase = Y:=by
  rw [←p3,nodes,List.map_map]
  exact List.map_congr_left fun e he=>by simp only [Function.comp_apply,htree,T.erase_at]
 subst ha
 have hargs:=emb_args hhead args hok hxs
 have hsub:∀ b,(own (nodes F pls)).count b≤(own F).count b:=fun b=>by
  have h3:=back_count b pls (pls.map fun _=>T.nil) F hn (by simp) fun e he=>⟨(hokF e he).1,(hokF e he).2.1⟩
  have hz:(own (pls.map fun _=>(T.nil:G))).count b = 0:=by rw [own_nils];rfl
  omega
 have hmem:∀ b∈own (nodes F pls),b∈own F:=fun b hb=>by have:=hsub b;rw [mem_of_count] at *;omega
 refine Calls.mono (h.2 w I (nodes F pls) vs hY (fun g hg=>?_) (nodup_of_count fun b=>Nat.le_trans (hsub b) (count_le_one hi.nodup b)) (fun b hb=>hi.apart b (hmem b hb)) (fun b hb=>hi.lt b (hmem b hb)) hi.ilt hargs) ?_
 ·simp only [nodes,List.mem_map] at hg
  obtain ⟨e,he,rfl⟩:=hg
  have h1:=(hokF e he).1
  refine T.Holds.at_ (hi.holds _ ?_) e.2
  rw [List.getD_eq_getElem?_getD,List.getElem?_eq_getElem h1];exact List.getElem_mem h1
 ·rintro e w' ⟨v,av,X,κ,I',F',rfl,hR,hc,hv⟩
  have S:=Stp.call hi hn hokF hc
  have hres:=emb_res (F':=F') hn (fun e he=>⟨(hokF e he).1,(hokF e he).2.1⟩) av hv
  refine ⟨v,_,_,rfl,hK av X κ hR,⟨hd.step hi S,hs,I',joined pls F' F,?_,he.step hi S,hp.step hi S,by rw [←hFl];exact hres⟩,fun k hk g hg b hb=>?_⟩
  rotate_left
  ·have hbo:b∈own F:=List.mem_flatMap.2 ⟨_,List.mem_of_getElem? hg,hb⟩
   refine hc.frame b (hi.lt b hbo) fun hm=>?_
   have hm:b∈own (nodes F pls):=hm
   obtain ⟨g',hg',hb'⟩:=List.mem_flatMap.1 hm
   simp only [nodes,List.mem_map] at hg'
   obtain ⟨e,he',rfl⟩:=hg'
   have h1:=(hokF e he').1
   have hFe:F[e.1]? = some (F.getD e.1 .nil):=by rw [List.getD_eq_getElem?_getD,List.getElem?_eq_getElem h1];rfl
   have hb2:b∈(F.getD e.1 .nil).owned:=(T.owned_at_sublist (hi.holds _ (List.mem_of_getElem? hFe)) e.2).mem hb'
   have:=own_two hi.nodup hg hFe hb hb2
   exact outKs_mem hx he' (this ▸ hk)
  have h2:=hi.step S
  have herase:(joined pls F' F).map T.erase = (st.after c.F0.length pls X κ).X:=by
   simp only [joined,St.after,List.map_append,back_erase,hi.erase,List.map_take,List.map_drop,hc.erase]
  rw [herase] at h2
  refine h2.rekill fun k q s hk hdd=>?_
  simp only [St.after] at hdd
  rw [dead_append,Bool.or_eq_false_iff] at hdd ⊢
  refine ⟨?_,hdd.2⟩
  have h3:=hdd.1
  unfold dead at h3 ⊢
  rw [List.any_eq_false] at h3 ⊢
  rintro ⟨k0,q0⟩ hm hx
  refine h3 (k0,q0) (List.mem_filter.2 ⟨hm,?_⟩) hx
  simp only [Bool.and_eq_true,beq_iff_eq] at hx
  rw [←hx.1]
  exact Nat.ble_eq_true_of_le hk
theorem Meets.goB {c:Cx} {f:FuncId} {Y:List D} {args:AV} {R:AV→List D→List (Nat×Path)→Prop} (h:Meets c.P f Y args R) {st:St} {avs:AV} {ks:List Nat} {K:AV→St→Prop} (pls:List (Nat×Path))
  (hc:(pls.map (·.1)).Nodup∧placesOk st pls Y∧args.emb pls st.X.length = avs∧args.okArg pls.length = true∧outKs ks pls = true) (hK:∀ av X κ,R av X κ→K (av.emb pls st.X.length) (st.after c.F0.length pls X κ)):CallB c f avs ks st K :=
 h.callB pls hc.1 hc.2.1 hc.2.2.1 hc.2.2.2.1 hc.2.2.2.2 hK
def callB (c:Cx) (τ:Tab) (ts:List Tmp) (o:Oper) (st:St) (K:AV→St→Prop):Prop :=
 match o.op with
 | .call cc=>match cc.callee with
  | .value f=>match st.ev f with
   | .fn g s=>(s.isSeq = true∧tsOk ts st = true)∧CallB c g ((argsOf τ st cc.args.toList cc.argTypes.toList).app s) (ksOf ts st) st K
   | _=>False
  | _=>False
 | _=>False
def notIn (ts:List Tmp):Option Tmp→Bool
 | some d=>!inKs d ts
 | none=>true
def freeTs (ts:List Tmp) (ops:List Oper):Bool:=ops.all fun o=>notIn ts o.dst
theorem free_put {ts:List Tmp} {a:Act} {d:Option Tmp} (u:Value) {v:Tmp→Value} (h:notIn ts d = true) (hv:∀ t∈ts,a.tmps.getD t undef = v t):∀ t∈ts,(a.put d u).tmps.getD t undef = v t:=by
 intro t ht
 cases d with
 | none=>exact hv t ht
 | some d =>
  have hne:d≠t:=by
   rintro rfl
   rw [notIn,mem_inKs ht] at h;cases h
  rw [←hv t ht]
  simp [Act.put,Array.getElem?_setIfInBounds_ne hne]
def stepB (c:Cx) (τ:Tab) (ts:List Tmp) (gs:List (Nat×Tmp)) (ops:List Oper) (EM i:Nat) (st:St) (K:St→Prop):Prop :=
 bif Nat.testBit EM i then (match ops[i]? with
  | some o=>o.guard = none∧callB c τ ts o st fun av st'=>putVc gs i o.dst av st' K
  | none=>False)
 else stepVc c τ gs ops i st K
section
variable {c:Cx} {τ:Tab} {ops:List Oper} {gs:List (Nat×Tmp)} {Q:Exit→Act→World→Prop} {ts:List Tmp} {v:Tmp→Value}
theorem stepA_ok (hτ:Tab.Ok c.P τ) (hgs:gsOk ops gs = true) (hnt:dstsOk c.nt ops = true) {i:Nat} {st:St} {a:Act} {w:World} {K:St→Prop} (h:Rel c st a w) (hv:stepVc c τ gs ops i st K) :
  wpOp c.P ops.toArray Q i (fun a' w'=>(((ops.toArray[i]?).any fun o=>extOp o.op) = true→Ext w w')∧(∃ o u,ops[i]? = some o∧a' = a.put o.dst u)∧∃ st',K st'∧Rel c st' a' w') a w:=by
 unfold stepVc bindK at hv
 unfold wpOp
 cases ho:ops[i]? with
 | none=>rw [ho] at hv;exact hv.elim
 | some o =>
  rw [ho] at hv
  have ho':ops.toArray[i]? = some o:=by simpa using ho
  simp only [ho']
  simp only at hv
  have hdst:=dst_lt hnt ho
  have run:(opVc c τ o st fun av st'=>putVc gs i o.dst av st' K)→Region.wanted o (yielded ops.toArray a.tmps) = true →
    (if Region.wanted o (yielded ops.toArray a.tmps) = true then o.wp c.P a w (fun a' w'=>(((some o).any fun o=>extOp o.op) = true→Ext w w')∧(∃ o' u,some o = some o'∧a' = a.put o'.dst u)∧∃ st',K st'∧Rel c st' a' w') Q∨(o.asks c.P a w∧LetsOut Q)
     else (((some o).any fun o=>extOp o.op) = true→Ext w w)∧(∃ o' u,some o = some o'∧(a.put o.dst undef) = a.put o'.dst u)∧∃ st',K st'∧Rel c st' (a.put o.dst undef) w):=fun hv hw=>by
   rw [if_pos hw]
   refine .inl (op_ok hτ h hv fun av v st' w' h1 h2 h3=>⟨fun he=>h3 (.inl (by simpa using he)),⟨o,v,rfl,rfl⟩,?_⟩)
   exact put_ok h1 h2 hdst
  cases hg:o.guard with
  | none =>
   rw [hg] at hv
   exact run hv (by simp [Region.wanted,hg])
  | some g =>
   rw [hg] at hv
   simp only at hv
   cases hb:guardOf gs st (some g) with
   | none=>rw [hb] at hv;exact hv.elim
   | some b =>
    rw [hb] at hv
    have hw:=guardOf_ok hgs h (o:=o) (b:=b) (by rw [hg];exact hb)
    cases b with
    | true=>exact run hv hw
    | false =>
     rw [if_neg (by rw [hw];simp)]
     obtain ⟨hd,hs,I,F,hi,he,hp⟩:=h
     exact ⟨fun _ _ _=>rfl,⟨o,undef,rfl,rfl⟩,_,hv,RelR.put (av:=.tup .nil) (v:=undef) ⟨hd,hs,I,F,hi,he,hp,[],rfl,rfl⟩ hdst⟩
theorem stepB_ok (hτ:Tab.Ok c.P τ) (hgs:gsOk ops gs = true) (hnt:dstsOk c.nt ops = true) (hfr:freeTs ts ops = true) {EM:Nat} {i:Nat} {st:St} {a:Act} {w:World} {K:St→Prop} (h:Rel c st a w) (htv:∀ t∈ts,a.tmps.getD t undef = v t)
  (hv:stepB c τ ts gs ops EM i st K) :
  wpOp c.P ops.toArray Q i (fun a' w'=>(exts EM ops.toArray i = true→ExtB (Bv ts v) w w')∧(∀ t∈ts,a'.tmps.getD t undef = v t)∧∃ st',K st'∧Rel c st' a' w') a w:=by
 have hfree:∀ o,ops[i]? = some o→notIn ts o.dst = true:=fun o ho=>List.all_eq_true.1 hfr o (List.mem_of_getElem? ho)
 unfold stepB at hv
 cases he:Nat.testBit EM i with
 | false =>
  rw [he] at hv
  refine wpOp_mono (fun a' w' h1=>?_) (stepA_ok hτ hgs hnt h hv)
  refine ⟨fun h2=>(h1.1 (by simpa only [exts,he,Bool.or_false] using h2)).toB,?_,h1.2.2⟩
  obtain ⟨o,u,ho,rfl⟩:=h1.2.1
  exact free_put u (hfree o ho) htv
 | true =>
  rw [he] at hv
  simp only [cond_true] at hv
  cases ho:ops[i]? with
  | none=>rw [ho] at hv;exact hv.elim
  | some o =>
   rw [ho] at hv
   obtain ⟨hg,hv⟩:=hv
   have ho':ops.toArray[i]? = some o:=by simpa using ho
   have hdst:=dst_lt hnt ho
   have hw:Region.wanted o (yielded ops.toArray a.tmps) = true:=by simp [Region.wanted,hg]
   unfold wpOp
   simp only [ho',hw,if_true]
   refine .inl ?_
   obtain ⟨hd,hs,I,F,hi,henv,hp⟩:=id h
   unfold callB at hv
   split at hv
   case h_2=>exact hv.elim
   rename_i cc hop
   split at hv
   case h_2=>exact hv.elim
   rename_i f hcal
   split at hv
   case h_2=>exact hv.elim
   rename_i g s hf
   obtain ⟨⟨hsq,hts⟩,hv⟩:=hv
   have hfv:=henv.ev f
   rw [hf] at hfv
   obtain ⟨l,h1,h2⟩:=hfv
   have hargs:=argsOf_app (τ:=τ) henv h2 cc.args.toList cc.argTypes.toList
   obtain ⟨hb,hcalls⟩:=hv a w _ I F hd hs hi henv hp hargs
   injection h1 with h1 _
   have hfree':=hfree o ho
   obtain ⟨dst,op,ty,pos,after,guard⟩:=o
   simp only at hop;subst hop
   have hrun:(execOp a.eval ⟨dst,.call cc,ty,pos,after,guard⟩).run c.P w = .ok (.enter g (cc.args.toList.map a.eval ++ l).toArray) w:=by
    have harr:cc.args.map a.eval ++ l.toArray = (cc.args.toList.map a.eval ++ l).toArray:=by apply Array.ext';simp
    simp [execOp,resolve,hcal,h1,Deferred.ofValue,invoke,run_callFunc hb,harr]
   unfold Oper.wp;rw [hrun]
   refine Calls.mono hcalls fun e w' he'=>?_
   obtain ⟨u,av,st',rfl,k1,k2,k3⟩:=he'
   refine ⟨fun _ b hbb _=>?_,free_put u hfree' htv,put_ok k1 k2 hdst⟩
   obtain ⟨k,hk,g',hg',hbo⟩:=Bv_own hi henv htv hts hbb
   exact k3 k hk g' hg' b hbo
theorem planB_ok (hτ:Tab.Ok c.P τ) (hgs:gsOk ops gs = true) (hnt:dstsOk c.nt ops = true) (hfr:freeTs ts ops = true) (hsel:Region.noSelect ops.toArray = true) {EM:Nat} {PV:Plan→St→Prop} (hVd:∀ st a w,PV .done st→Rel c st a w→Q .normal a w)
  (hVt:∀ i p st,PV (.take i p) st→(∀ o,ops[i]? = some o→nearOp ts st o = true)∧stepVc c τ gs ops i st (PV p)) (hVf:∀ l st,PV (.fork l) st→PV l st) (hVa:∀ i p r st,PV (.alt i p r) st→stepB c τ ts gs ops EM i st (PV p)∧PV r st)
  (hQp:∀ ch a w d v,Q (.panic ch) (Act.put a d v) w→Q (.panic ch) a w):∀ (p:Plan),
  (∀ (listed:Array Bool) (fuel:Nat) (st:St) (a:Act) (w:World),p.isMain = true→p.depth≤fuel→PlanOk ops.toArray (exts EM ops.toArray) p listed→PV p st→Rel c st a w→(∀ t∈ts,a.tmps.getD t undef = v t) →
   wpAnyB c.P .any ops.toArray (Bv ts v) (exts EM ops.toArray) Q fuel listed a w) ∧
  (∀ (listed:Array Bool) (fuel:Nat) (st:St) (a:Act) (w:World) (i:Nat),i∈p.alts→p.depth≤fuel + 1→PlanOk ops.toArray (exts EM ops.toArray) p listed→PV p st→Rel c st a w→(∀ t∈ts,a.tmps.getD t undef = v t) →
   wpOp c.P ops.toArray Q i (fun a' w'=>(exts EM ops.toArray i = true→ExtB (Bv ts v) w w')∧wpAnyB c.P .any ops.toArray (Bv ts v) (exts EM ops.toArray) Q fuel (listed.setIfInBounds i true) a' w') a w):=by
 intro p
 induction p with
 | done =>
  refine ⟨fun listed fuel st a w _ _ hok hv hr _=>?_,fun _ _ _ _ _ _ h=>by cases h⟩
  exact wpAnyB_done hok (hVd st a w hv hr) fuel
 | nil=>exact ⟨fun _ _ _ _ _ h=>(by cases h),fun _ _ _ _ _ _ h=>(by cases h)⟩
 | take i p ih =>
  refine ⟨fun listed fuel st a w _ hdep hok hv hr htv=>?_,fun _ _ _ _ _ _ h=>by cases h⟩
  obtain ⟨h1,⟨o,ho,h5,D,h6⟩,h3,h4⟩:=hok
  ·skip
   have ho':ops[i]? = some o:=by simpa using ho
   have hdst:=dst_lt hnt ho'
   have hfree:notIn ts o.dst = true:=List.all_eq_true.1 hfr o (List.mem_of_getElem? ho')
   cases fuel with
   | zero=>simp [Plan.depth] at hdep
   | succ fuel =>
    simp only [Plan.depth] at hdep
    obtain ⟨hd,hs,I,F,hi,he,hp⟩:=id hr
    obtain ⟨hnear,hv⟩:=hVt i p st hv
    have hnear:=hnear o ho'
    have key:∃ u st',YieldsS c.P ops.toArray (fun w'=>pureOp o.op = true∨ExtB (Bv ts v) w w') o u a∧PV p st'∧Rel c st' (a.put o.dst u) w:=by
     simp only [stepVc,bindK,ho'] at hv
     have run:(opVc c τ o st fun av st'=>putVc gs i o.dst av st' fun st=>PV p st)→Region.wanted o (yielded ops.toArray a.tmps) = true →
       ∃ u st',YieldsS c.P ops.toArray (fun w'=>pureOp o.op = true∨ExtB (Bv ts v) w w') o u a∧PV p st'∧Rel c st' (a.put o.dst u) w:=fun hv hw=>by
      have tk:∃ av u,(putVc gs i o.dst av st fun st=>PV p st)∧Rl w.heap I F av true [u]∧∀ w',(pureOp o.op = true∨ExtB (Bv ts v) w w')→(execOp a.eval o).run c.P w' = .ok (.value u) w':=by
       cases hpo:pureOp o.op with
       | true =>
        obtain ⟨av,u,g1,g2,g3⟩:=take_ok hτ hi he hp h5 hv
        exact ⟨av,u,g1,g2,fun w' _=>g3 w' (.inl hpo)⟩
       | false =>
        rw [hpo,Bool.false_or] at h5
        obtain ⟨dst,op,ty,pos,after,guard⟩:=o
        cases op with
        | load t x =>
         obtain ⟨av,u,g1,g2,g3⟩:=load_near (ts:=ts) (v:=v) (o:=⟨dst,.load t x,ty,pos,after,guard⟩) (K:=fun av=>putVc gs i dst av st fun st=>PV p st) hτ hi he hp htv hv hnear h5
         exact ⟨av,u,g1,g2,fun w' hw'=>g3 w' (hw'.resolve_left (by simp))⟩
        | _=>cases h5
      obtain ⟨av,u,g1,g2,g3⟩:=tk
      obtain ⟨st',g4,g5⟩:=put_ok g1 ⟨hd,hs,I,F,hi,he,hp,g2⟩ hdst
      exact ⟨u,st',.inl ⟨hw,g3⟩,g4,g5⟩
     cases hg:o.guard with
     | none=>rw [hg] at hv;exact run hv (by simp [Region.wanted,hg])
     | some g =>
      rw [hg] at hv
      simp only at hv
      cases hb:guardOf gs st (some g) with
      | none=>rw [hb] at hv;exact hv.elim
      | some b =>
       rw [hb] at hv
       have hw:=guardOf_ok hgs hr (o:=o) (b:=b) (by rw [hg];exact hb)
       cases b with
       | true=>exact run hv hw
       | false=>exact ⟨undef,_,.inr ⟨hw,rfl⟩,hv,RelR.put (av:=.tup .nil) (v:=undef) ⟨hd,hs,I,F,hi,he,hp,[],rfl,rfl⟩ hdst⟩
    obtain ⟨u,st',g1,g2,g3⟩:=key
    obtain ⟨h61,h62,h63⟩:=h6
    refine wpAnyB_first (D:=D) ho (Region.noSelect_spec hsel) (fun ch a w=>hQp ch a w _ _) ?_ h61 fuel listed a w h62 ?_ h1 g1 (.inr fun _ _ _=>rfl)
     (ih.1 (listed.setIfInBounds i true) fuel st' _ w h3 (by omega) h4 g2 g3 (free_put u hfree htv))
    ·refine .inr fun w1 w2 hw hE=>?_
     rcases hw with hw | hw
     ·exact .inl hw
     ·refine .inr fun b hB hb=>?_
      have h7:=hw b hB hb
      have h8:b < w1.heap.size:=by
       rcases Nat.lt_or_ge b w1.heap.size with h' | h'
       ·exact h'
       ·rw [Array.getElem?_eq_none h',Array.getElem?_eq_getElem hb] at h7;cases h7
      rw [hE b hB h8,h7]
    ·intro j oj hoj hne hun hD
     have:=h63 j oj hoj hne hun hD
     exact ⟨this.1,this.2.imp (fun h _=>.inl h) id⟩
 | fork l ih =>
  refine ⟨fun listed fuel st a w _ hdep hok hv hr htv=>?_,fun _ _ _ _ _ _ h=>by cases h⟩
  obtain ⟨h1,h2,h3⟩:=hok
  have hne:∃ i,i∈Region.ready .any ops.toArray listed:=List.exists_mem_of_ne_nil _ h1
  cases fuel with
  | zero =>
   obtain ⟨i,hi⟩:=hne
   have:=h2 i hi
   cases l <;> simp [Plan.alts,Plan.depth] at this hdep
  | succ fuel =>
   exact ⟨fun h=>absurd h h1,fun i hi=>ih.2 listed fuel st a w i (h2 i hi) hdep h3 (hVf _ _ hv) hr htv⟩
 | alt i p r ihp ihr =>
  refine ⟨fun _ _ _ _ _ h=>(by cases h),fun listed fuel st a w j hj hdep hok hv hr htv=>?_⟩
  obtain ⟨h2,h3,h4⟩:=hok
  simp only [Plan.depth] at hdep
  obtain ⟨hv1,hv2⟩:=hVa _ _ _ _ hv
  by_cases hji:j = i
  ·subst hji
   refine wpOp_mono (fun a' w' ⟨g1,gt,st',g2,g3⟩=>⟨g1,?_⟩) (stepB_ok hτ hgs hnt hfr hr htv hv1)
   exact ihp.1 (listed.setIfInBounds j true) fuel st' a' w' h2 (by omega) h3 g2 g3 gt
  ·exact ihr.2 listed fuel st a w j (by simpa [Plan.alts,hji] using hj) (by omega) h4 hv2 hr htv
end
def planB (c:Cx) (τ:Tab) (ts:List Tmp) (gs:List (Nat×Tmp)) (ops:List Oper) (EM:Nat) (K:St→Prop):Plan→St→Prop
 | .done,st=>K st
 | .nil,_=>True
 | .take i p,st=>(match ops[i]? with | some o=>nearOp ts st o = true | none=>False)∧stepVc c τ gs ops i st (planB c τ ts gs ops EM K p)
 | .fork l,st=>planB c τ ts gs ops EM K l st
 | .alt i p .nil,st=>stepB c τ ts gs ops EM i st (planB c τ ts gs ops EM K p)
 | .alt i p r,st=>stepB c τ ts gs ops EM i st (planB c τ ts gs ops EM K p)∧planB c τ ts gs ops EM K r st
def chkB (c:Cx) (τ:Tab) (ts:List Tmp) (gs:List (Nat×Tmp)) (i:Nat):Option Oper→St→(St→Prop)→Prop
 | some o,st,K=>match o.op with
  | .load _ _=>nearOp ts st o = true∧K st
  | _=>o.guard = none∧callB c τ ts o st fun av st'=>putVc gs i o.dst av st' K
 | none,_,_=>False
def opsVcB (c:Cx) (τ:Tab) (ts:List Tmp) (gs:List (Nat×Tmp)) (ops:List Oper):OP→St→(St→Prop)→Prop
 | .done,st,K=>K st
 | .yes,_,_=>True
 | .run l p,st,K=>vcOrd c τ gs (pickOps ops l) st fun st=>opsVcB c τ ts gs ops p st K
 | .both p q,st,K=>opsVcB c τ ts gs ops p st K∧opsVcB c τ ts gs ops q st K
 | .chk i p,st,K=>chkB c τ ts gs i (ops[i]?) st fun st=>opsVcB c τ ts gs ops p st K
def opOfB (EM LM:Nat):Plan→OP
 | .done=>.done
 | .take i p=>bif Nat.testBit LM i then .chk i ((opOfB EM LM p).push i) else (opOfB EM LM p).push i
 | .fork l=>opOfB EM LM l
 | .alt i p .nil=>bif Nat.testBit EM i then .chk i (opOfB EM LM p) else (opOfB EM LM p).push i
 | .alt i p r=>.both (bif Nat.testBit EM i then .chk i (opOfB EM LM p) else (opOfB EM LM p).push i) (opOfB EM LM r)
 | .nil=>.yes
def lmOk (LM:Nat):List Oper→Nat→Bool
 | [],_=>true
 | o :: l,i=>(Nat.testBit LM i == loadOp o.op) && lmOk LM l (i + 1)
theorem lmOk_at {LM:Nat} {l:List Oper}:∀ {j:Nat},lmOk LM l j = true→∀ i o,l[i]? = some o→Nat.testBit LM (j + i) = loadOp o.op:=by
 induction l with
 | nil=>intro j _ i o ho;simp at ho
 | cons x l ih =>
  intro j h i o ho
  unfold lmOk at h
  rw [Bool.and_eq_true,beq_iff_eq] at h
  cases i with
  | zero =>
   rw [List.getElem?_cons_zero,Option.some.injEq] at ho
   rw [←ho,Nat.add_zero];exact h.1
  | succ i =>
   rw [List.getElem?_cons_succ] at ho
   have:=ih h.2 i o ho
   rw [←this];congr 1;omega
def emOk (EM:Nat):List Oper→Nat→Bool
 | [],_=>true
 | o :: l,i=>(!Nat.testBit EM i || !loadOp o.op) && emOk EM l (i + 1)
theorem emOk_at {EM:Nat} {l:List Oper}:∀ {j:Nat},emOk EM l j = true→∀ i o,l[i]? = some o→Nat.testBit EM (j + i) = true→loadOp o.op = false:=by
 induction l with
 | nil=>intro j _ i o ho;simp at ho
 | cons x l ih =>
  intro j h i o ho hb
  unfold emOk at h
  rw [Bool.and_eq_true] at h
  cases i with
  | zero =>
   rw [List.getElem?_cons_zero,Option.some.injEq] at ho
   rw [Nat.add_zero] at hb
   have h1:=h.1
   rw [hb,ho] at h1
   cases hl:loadOp o.op with
   | false=>rfl
   | true=>rw [hl] at h1;cases h1
  | succ i =>
   rw [List.getElem?_cons_succ] at ho
   exact ih h.2 i o ho (by rw [←hb];congr 1;omega)
section
variable {c:Cx} {τ:Tab} {ts:List Tmp} {gs:List (Nat×Tmp)} {ops:List Oper} {K:St→Prop}
theorem opsVcB_push {i:Nat} {p:OP} {st:St} (h:opsVcB c τ ts gs ops (p.push i) st K):stepVc c τ gs ops i st fun st=>opsVcB c τ ts gs ops p st K:=by
 cases p with
 | run l q=>exact step_of_ord h
 | done=>exact step_of_ord (l:=[]) h
 | yes=>exact step_of_ord (l:=[]) h
 | both p q=>exact step_of_ord (l:=[]) h
 | chk j p=>exact step_of_ord (l:=[]) h
end
theorem chkB_spec {c:Cx} {τ:Tab} {ts:List Tmp} {gs:List (Nat×Tmp)} {i:Nat} {o:Oper} {st:St} {K:St→Prop} (h:chkB c τ ts gs i (some o) st K) :
  (loadOp o.op = true→nearOp ts st o = true∧K st)∧(loadOp o.op = false→o.guard = none∧callB c τ ts o st fun av st'=>putVc gs i o.dst av st' K):=by
 obtain ⟨dst,op,ty,pos,after,guard⟩:=o
 cases op <;> refine ⟨fun hl=>?_,fun hl=>?_⟩ <;> first | exact h | (cases hl)
theorem VC.drawnC {P:Program} {nt:Nat} {w0:World} {I0:Nat→Prop} {F0:List G} {τ:Tab} (hτ:Tab.Ok P τ) (hm:P.follows .mixedOrders = true) {id:Nat} {ops:List Oper} {K:Exit→St→Prop} {st:St} (ts:List Tmp) (EM LM:Nat) (gs:List (Nat×Tmp)) (T:List Rw) (p:Plan) (o:OP)
  (hT:ops.map (rowOf ops.toArray) = T) (hok:drawOk EM nt ops gs T p = true) (ho:opOfB EM LM p = o) (hfr:freeTs ts ops = true) (hlm:lmOk LM ops 0 = true) (hem:emOk EM ops 0 = true) (h:opsVcB ⟨P,nt,w0,I0,F0⟩ τ ts gs ops o st (K .normal)):VC ⟨P,nt,w0,I0,F0⟩ (.region id ops.toArray true) K st:=fun a w hr=>by
 subst ho
 simp only [drawOk,Bool.and_eq_true] at hok
 obtain ⟨⟨⟨⟨⟨h1,h2⟩,h3⟩,h4⟩,h5⟩,h6⟩:=hok
 have hr':Rel ⟨P,nt,w0,I0,F0⟩ st a { w with drawn:=w.drawn + 1 }:=hr.quiet rfl rfl rfl rfl
 have alt:∀ (i:Nat) (p:Plan) (st:St),opsVcB ⟨P,nt,w0,I0,F0⟩ τ ts gs ops (bif Nat.testBit EM i then .chk i (opOfB EM LM p) else (opOfB EM LM p).push i) st (K .normal) →
   stepB ⟨P,nt,w0,I0,F0⟩ τ ts gs ops EM i st fun st=>opsVcB ⟨P,nt,w0,I0,F0⟩ τ ts gs ops (opOfB EM LM p) st (K .normal):=fun i p st h=>by
  unfold stepB
  cases hb:Nat.testBit EM i with
  | false =>
   rw [hb] at h
   exact opsVcB_push h
  | true =>
   rw [hb] at h
   simp only [cond_true] at h ⊢
   unfold opsVcB at h
   cases ho:ops[i]? with
   | none=>rw [ho] at h;exact h
   | some o =>
    rw [ho] at h
    have hnl:=emOk_at hem i o ho (by rw [Nat.zero_add];exact hb)
    exact (chkB_spec h).2 hnl
 have hall:=(planB_ok (Q:=fun e a w=>e = .normal∧∃ st',K .normal st'∧Rel ⟨P,nt,w0,I0,F0⟩ st' a w) (EM:=EM) (ts:=ts) (v:=fun t=>a.tmps.getD t undef) (PV:=fun p st=>opsVcB ⟨P,nt,w0,I0,F0⟩ τ ts gs ops (opOfB EM LM p) st (K .normal)) hτ h2 h1 hfr h3 (fun st a w g1 g2=>⟨rfl,st,g1,g2⟩)
  (fun i p st h=>by
   cases hb:Nat.testBit LM i with
   | false =>
    simp only [opOfB,hb,cond_false] at h
    refine ⟨fun o ho=>?_,opsVcB_push h⟩
    have:=lmOk_at hlm i o ho
    rw [Nat.zero_add,hb] at this
    unfold nearOp
    split
    ·rename_i hop;rw [hop] at this;cases this
    ·rfl
   | true =>
    simp only [opOfB,hb,cond_true] at h
    unfold opsVcB at h
    cases ho:ops[i]? with
    | none=>rw [ho] at h;exact h.elim
    | some o =>
     rw [ho] at h
     have hl:=lmOk_at hlm i o ho
     rw [Nat.zero_add,hb] at hl
     have h:=(chkB_spec h).1 hl.symm
     exact ⟨fun o' ho'=>by cases ho';exact h.1,opsVcB_push h.2⟩) (fun l st h=>h) (fun i p r st h=>by
   cases r with
   | nil=>exact ⟨alt i p st h,trivial⟩
   | _=>exact ⟨alt i p st h.1,h.2⟩) (fun _ _ _ _ _ h=>by cases h.1) p).1
  (Array.replicate ops.length false) ops.length st a _ h4 (Nat.le_of_ble_eq_true h5) (planF_ok (rowsAt EM hT) p _ 0 ⟨by simp,fun j=>by rw [hasB_zero];simp [Array.getElem?_replicate];split <;> rfl⟩ (fun i hi=>by cases p <;> simp [Plan.alts,Plan.isMain] at hi h4) h6) h hr' (fun t _=>rfl)
 have hreg:(Code.region id ops.toArray true).wp P (fun e a w=>e = .normal∧∃ st',K .normal st'∧Rel ⟨P,nt,w0,I0,F0⟩ st' a w) a w:=wp_region_any hm (by simpa using wpAny_of_B _ _ _ _ hall)
 refine wp_mono hreg fun e a w hq=>?_
 obtain ⟨he,st',g1,g2⟩:=hq
 subst he
 exact ⟨st',g1,g2⟩
theorem VS.drB {l:List Code} {K:Exit→St→Prop} {st:St} {P:Program} {nt:Nat} {w0:World} {I0:Nat→Prop} {F0:List G} {τ:Tab} (hτ:Tab.Ok P τ) (hm:P.follows .mixedOrders = true) (id:Nat) {ops:List Oper} (ts:List Tmp) (EM LM:Nat) (pre post:List Tmp) (gs:List (Nat×Tmp)) (T:List Rw) (p:Plan) (o:OP)
  (h:opsVcB ⟨P,nt,w0,I0,F0⟩ τ ts gs ops o (st.keep pre) (VSk ⟨P,nt,w0,I0,F0⟩ l K post))
  (hT:ops.map (rowOf ops.toArray) = T) (hok:drawOk EM nt ops gs T p = true) (ho:opOfB EM LM p = o) (hfr:freeTs ts ops = true) (hlm:lmOk LM ops 0 = true) (hem:emOk EM ops 0 = true):VS ⟨P,nt,w0,I0,F0⟩ (.region id ops.toArray true :: l) K st:=by
 refine VS.keepAt id pre ?_
 rw [VS_cons]
 exact VC.then_keep (VC.drawnC hτ hm ts EM LM gs T p o hT hok ho hfr hlm hem h)
theorem drsB:(∀ (c:Cx) (τ:Tab) (ts:List Tmp) (gs:List (Nat×Tmp)) (ops:List Oper) (l:List Nat) (p:OP) (st:St) (K:St→Prop),opsVcB c τ ts gs ops (.run l p) st K = vcOrd c τ gs (pickOps ops l) st fun st=>opsVcB c τ ts gs ops p st K) ∧
  (∀ (c:Cx) (τ:Tab) (ts:List Tmp) (gs:List (Nat×Tmp)) (ops:List Oper) (p q:OP) (st:St) (K:St→Prop),opsVcB c τ ts gs ops (.both p q) st K = (opsVcB c τ ts gs ops p st K∧opsVcB c τ ts gs ops q st K)) ∧
  (∀ (c:Cx) (τ:Tab) (ts:List Tmp) (gs:List (Nat×Tmp)) (ops:List Oper) (i:Nat) (p:OP) (st:St) (K:St→Prop),opsVcB c τ ts gs ops (.chk i p) st K = chkB c τ ts gs i (ops[i]?) st fun st=>opsVcB c τ ts gs ops p st K) ∧
  (∀ (c:Cx) (τ:Tab) (ts:List Tmp) (gs:List (Nat×Tmp)) (ops:List Oper) (st:St) (K:St→Prop),opsVcB c τ ts gs ops .done st K = K st) ∧
  (∀ (c:Cx) (τ:Tab) (ts:List Tmp) (gs:List (Nat×Tmp)) (ops:List Oper) (st:St) (K:St→Prop),opsVcB c τ ts gs ops .yes st K = True) ∧
  (∀ ops:List Oper,pickOps ops [] = [])∧(∀ (ops:List Oper) (i:Nat) (l:List Nat),pickOps ops (i :: l) = (i,ops[i]?) :: pickOps ops l) ∧
  (∀ (a:Oper) (l:List Oper),(a :: l)[0]? = some a)∧∀ (a:Oper) (l:List Oper) (n:Nat),(a :: l)[n + 1]? = l[n]? :=
 ⟨fun _ _ _ _ _ _ _ _ _=>by rw [opsVcB],fun _ _ _ _ _ _ _ _ _=>by rw [opsVcB],fun _ _ _ _ _ _ _ _ _=>by rw [opsVcB],fun _ _ _ _ _ _ _=>by rw [opsVcB],fun _ _ _ _ _ _ _=>by rw [opsVcB],fun _=>rfl,fun _ _ _=>rfl,fun _ _=>rfl,fun _ _ _=>rfl⟩
section
variable {c:Cx} {τ:Tab} {ts:List Tmp} {gs:List (Nat×Tmp)} {i:Nat} {st:St} {K:St→Prop} {dst:Option Tmp} {ty:TypeId} {pos:String} {after:Array Edge}
theorem chkB_load {t:TypeId} {x:Operand} {g:Option (Nat×Bool)}:chkB c τ ts gs i (some ⟨dst,.load t x,ty,pos,after,g⟩) st K = (nearAV (ksOf ts st) (st.ev x) = true∧K st):=rfl
theorem chkB_call {f:Operand} {xs:List Operand} {tys:List TypeId}:chkB c τ ts gs i (some ⟨dst,.call ⟨.value f,xs.toArray,tys.toArray⟩,ty,pos,after,none⟩) st K = bindK (st.ev f) fun f=>match f with
  | .fn h s=>(s.isSeq = true∧tsOk ts st = true)∧CallB c h ((argsOf τ st xs tys).app s) (ksOf ts st) st fun av st'=>putVc gs i dst av st' K
  | _=>False:=by
 simp only [chkB,callB,bindK,true_and]
end
attribute [irreducible] CallB
@[congr] theorem CallB_congr {c:Cx} {f f':FuncId} {avs avs':AV} {ks ks':List Nat} {st st':St} {K:AV→St→Prop} (h0:tick f = f') (h1:avs = avs') (h3:ks = ks') (h2:st = st'):CallB c f avs ks st K = CallB c f' avs' ks' st' K:=by
 rw [tick_eq] at h0;subst h0;subst h1;subst h2;subst h3;rfl
@[congr] theorem chkB_congr {c:Cx} {τ:Tab} {ts:List Tmp} {gs:List (Nat×Tmp)} {i:Nat} {o:Option Oper} {st st':St} {K:St→Prop} (h:tick st = st'):chkB c τ ts gs i o st K = chkB c τ ts gs i o st' K:=by rw [tick_eq] at h;rw [h]
def r_chkB_load:=@chkB_load
def r_chkB_call:=@chkB_call
def r_isFs_1:=@isFs.eq_1
def r_isFs_2:=@isFs.eq_2
def r_isBoxAV_1:=@isBoxAV.eq_1
def r_ownBox_1:=@ownBox.eq_1
def r_tsOk_1:=@tsOk.eq_1
def r_tsOk_2:=@tsOk.eq_2
def r_ksOf_1:=@ksOf.eq_1
def r_ksOf_2:=@ksOf.eq_2
def r_inKs_1:=@inKs.eq_1
def r_inKs_2:=@inKs.eq_2
def r_nearAV_1:=@nearAV.eq_1
def r_outKs_1:=@outKs.eq_1
def r_outKs_2:=@outKs.eq_2
attribute [simp] r_chkB_load r_chkB_call r_isFs_1 r_isFs_2 r_isBoxAV_1 r_ownBox_1 r_tsOk_1 r_tsOk_2 r_ksOf_1 r_ksOf_2 r_inKs_1 r_inKs_2 r_nearAV_1 r_outKs_1 r_outKs_2
end Go.Vc

/- The rule of drawn regions with calls that leave boxes alone. -/
namespace Go.Proofs.YtbhigdljojlhnaaGreat
set_option linter.all false
open Go Go.Vc Go.Proofs
section
variable {nt:Nat} {w0:World} {I0:Nat→Prop} {F0:List G} {l:List Code} {K:Exit→St→Prop} {st:St}
theorem drB (id:Nat) {ops:List Oper} (ts:List Tmp) (EM LM:Nat) (pre post:List Tmp) (gs:List (Nat×Tmp)) (T:List Rw) (p:Plan) (o:OP)
  (h:opsVcB ⟨Tryz.prog,nt,w0,I0,F0⟩ tab ts gs ops o (st.keep pre) (VSk ⟨Tryz.prog,nt,w0,I0,F0⟩ l K post))
  (hT:ops.map (rowOf ops.toArray) = T:=by kernel_rfl) (hok:drawOk EM nt ops gs T p = true:=by kernel_rfl) (ho:opOfB EM LM p = o:=by kernel_rfl) (hfr:freeTs ts ops = true:=by kernel_rfl) (hlm:lmOk LM ops 0 = true:=by kernel_rfl) (hem:emOk EM ops 0 = true:=by kernel_rfl):VS ⟨Tryz.prog,nt,w0,I0,F0⟩ (.region id ops.toArray true :: l) K st:=VS.drB tabOk mixedOk id ts EM LM pre post gs T p o h hT hok ho hfr hlm hem
end
end Go.Proofs.YtbhigdljojlhnaaGreat

/- Deeds at both: at tables. -/
namespace Go.Proofs.YtbhigdljojlhnaaGreat
set_option linter.all false
open Go.Vc Go.Proofs
set_option linter.unusedSimpArgs false
set_option linter.unusedVariables false
set_option maxRecDepth 100000
set_option maxHeartbeats 4000000
attribute [local irreducible] CallW EqK
abbrev avMd (d:MDeed):AV:=.agg (.cons (avInt d.op) (.cons (avInt d.a) (.cons (avInt d.b) (.cons (avInt d.c) (.cons (avInt d.d) (.cons (avInt d.n) (.cons (avInt d.m) (.cons (.val (.string d.name)) .nil))))))))
def DoesR (c:Nat) (s:Mt) (d:MDeed) (av:AV) (X:List D) (κ:List (Nat×Path)):Prop :=
 ∃ r',TR (c + 1) (doM s d) r'∧av = avBool true∧X = [dTs true (doM s d),dTR r']∧κ = [(0,[.d]),(1,[.d])]
theorem does_0 {c:Nat} {s:Mt} {r:Rt} (h:MtOk s) (T:TR c s r) (hc:c≤1000) (d:MDeed) (hd:d.op = 0) :
  Meets Tryz.prog 19 [dTs true s,dTR r] (.cons (avB 0 1) (.cons (avMd d) .nil)) (DoesR c s d):=by
 have hN:nameOf d.n d.name = d.nm:=rfl
 have hM:nameOf d.m d.name = d.old:=rfl
 have hdo:doM s d = (defineOf s d.a d.nm d.c d.d).1:=by unfold doM;rw [hd];rfl
 unfold DoesR
 rw [hdo]
 have h1:=Define_ok h d.a d.nm d.c d.d
 have h2:=rDefine_ok T (by omega) d.a d.nm d.c d.d
 generalize defineOf s d.a d.nm d.c d.d = res at *
 refine fb Tryz.func19 Tryz.ntmps19 [.tmp 4] fun w0 I0 F0 hF=>?_
 repeat first|refine n1 ?_|((first|refine rg 0 [0,1] [2,3] [] ?_|refine rg 1 [2,3] [2,3,5] [] ?_);simp (maxSteps:=1000000) [hF,dTs,dL,dTR,dR])
 refine (name_ok d.n d.name).go [] (by simp (maxSteps:=1000000) [hF,hN]) ?_;rintro av X κ ⟨rfl,rfl,rfl⟩;simp (maxSteps:=1000000) [hF,hN]
 repeat first|refine n1 ?_|((refine rg 2 [2,3,5] [2,3,5,6] [] ?_);simp (maxSteps:=1000000) [hF])
 refine (name_ok d.m d.name).go [] (by simp (maxSteps:=1000000) [hF,hM]) ?_;rintro av X κ ⟨rfl,rfl,rfl⟩;simp (maxSteps:=1000000) [hF,hM]
 repeat first|refine n1 ?_|((refine rg 3 [2,3,5,6] [2,3,5,6,7] [] ?_);simp (maxSteps:=1000000) [hF])
 refine (Lineage_ok true s).go [(0,[])] (by simp (maxSteps:=1000000) [hF,dTs,dL]) ?_;rintro av X κ ⟨rfl,rfl,rfl⟩;simp (maxSteps:=1000000) [hF,dTs,dL]
 repeat first|refine n1 ?_|refine n2 ?_|refine n3 ?_|((first|refine rg 4 [2,3,5,6,7] [2,3,5,6,7,34] [] ?_|refine rg 6 [2,3,5,6,7] [2,3,5,6,7,36] [] ?_|refine rg 7 [2,3,5,6,7,36] [2,3,5,6,7,36,37] [] ?_|(refine drB 8 [2,3] 524800 338250 [2,3,5] [4] [] [⟨0,4,549755813888,5⟩,⟨1,549755813888,1099511627776,6⟩,⟨0,8,2199023255552,5⟩,⟨4,2199023255552,4398046511104,6⟩,⟨0,32,8796093022208,5⟩,⟨0,8,17592186044416,5⟩,⟨32,17592186044416,35184372088832,6⟩,⟨0,8,70368744177664,5⟩,⟨128,70368744177664,140737488355328,6⟩,⟨346,190215511605248,281474976710656,0⟩,⟨0,4,562949953421312,5⟩,⟨1024,562949953421312,1125899906842624,6⟩,⟨0,8,2251799813685248,5⟩,⟨4096,2251799813685248,4503599627370496,6⟩,⟨0,32,9007199254740992,5⟩,⟨0,8,18014398509481984,5⟩,⟨32768,18014398509481984,36028797018963968,6⟩,⟨0,8,72057594037927936,5⟩,⟨131072,72057594037927936,144115188075855872,6⟩,⟨354816,194780683883773952,288230376151711744,0⟩,⟨524800,288511851128422400,576460752303423488,5⟩,⟨2097151,576460752303423488,16,5⟩] (.take 0 (.take 1 (.take 2 (.take 3 (.take 4 (.take 5 (.take 6 (.take 7 (.take 8 (.take 10 (.take 11 (.take 12 (.take 13 (.take 14 (.take 15 (.take 16 (.take 17 (.take 18 (.fork (.alt 9 (.fork (.alt 19 (.take 20 (.take 21 (.done))) (.nil))) (.nil))))))))))))))))))))) (.run [0] (.chk 1 (.run [1,2] (.chk 3 (.run [3,4,5] (.chk 6 (.run [6,7] (.chk 8 (.run [8,10] (.chk 11 (.run [11,12] (.chk 13 (.run [13,14,15] (.chk 16 (.run [16,17] (.chk 18 (.run [18] (.chk 9 (.chk 19 (.run [20,21] (.done))))))))))))))))))))) ?_;simp only [drsB])|refine nc ?_);simp (maxSteps:=1000000) [hF,hd])
 refine (h1).goB [(0,[])] (by simp (maxSteps:=1000000) [hF,dTs,dL]) ?_;rintro av X κ ⟨rfl,rfl,rfl⟩;simp (maxSteps:=1000000) [hF,dTs,dL]
 refine (h2).goB [(1,[])] (by simp (maxSteps:=1000000) [hF,dTR,dR]) ?_;rintro av X κ ⟨r',hT,rfl,rfl,rfl⟩;simp (maxSteps:=1000000) [hF,dTR,dR]
 repeat first|refine n1 ?_
 (try refine nr ?_);(repeat first|refine nb_ ?_|refine nl_ ?_);refine endK.o [4] [0,1] [(0,[.d]),(1,[.d])] ?_;simp [hF,retK,covers,mpre,dTs,dL,dTR,dR]
 exact ⟨r',hT,rfl,rfl,rfl⟩
theorem does_1 {c:Nat} {s:Mt} {r:Rt} (h:MtOk s) (T:TR c s r) (hc:c≤1000) (d:MDeed) (hd:d.op = 1) :
  Meets Tryz.prog 19 [dTs true s,dTR r] (.cons (avB 0 1) (.cons (avMd d) .nil)) (DoesR c s d):=by
 have hN:nameOf d.n d.name = d.nm:=rfl
 have hM:nameOf d.m d.name = d.old:=rfl
 have hdo:doM s d = (refineOf s d.a d.b d.nm d.c).1:=by unfold doM;rw [hd];rfl
 unfold DoesR
 rw [hdo]
 have h1:=Refine_ok h d.a d.b d.nm d.c
 have h2:=rRefine_ok T (by omega) d.a d.b d.nm d.c
 generalize refineOf s d.a d.b d.nm d.c = res at *
 refine fb Tryz.func19 Tryz.ntmps19 [.tmp 4] fun w0 I0 F0 hF=>?_
 repeat first|refine n1 ?_|((first|refine rg 0 [0,1] [2,3] [] ?_|refine rg 1 [2,3] [2,3,5] [] ?_);simp (maxSteps:=1000000) [hF,dTs,dL,dTR,dR])
 refine (name_ok d.n d.name).go [] (by simp (maxSteps:=1000000) [hF,hN]) ?_;rintro av X κ ⟨rfl,rfl,rfl⟩;simp (maxSteps:=1000000) [hF,hN]
 repeat first|refine n1 ?_|((refine rg 2 [2,3,5] [2,3,5,6] [] ?_);simp (maxSteps:=1000000) [hF])
 refine (name_ok d.m d.name).go [] (by simp (maxSteps:=1000000) [hF,hM]) ?_;rintro av X κ ⟨rfl,rfl,rfl⟩;simp (maxSteps:=1000000) [hF,hM]
 repeat first|refine n1 ?_|((refine rg 3 [2,3,5,6] [2,3,5,6,7] [] ?_);simp (maxSteps:=1000000) [hF])
 refine (Lineage_ok true s).go [(0,[])] (by simp (maxSteps:=1000000) [hF,dTs,dL]) ?_;rintro av X κ ⟨rfl,rfl,rfl⟩;simp (maxSteps:=1000000) [hF,dTs,dL]
 repeat first|refine n1 ?_|refine n2 ?_|refine n3 ?_|((first|refine rg 4 [2,3,5,6,7] [2,3,5,6,7,34] [] ?_|refine rg 6 [2,3,5,6,7] [2,3,5,6,7,36] [] ?_|refine rg 7 [2,3,5,6,7,36] [2,3,5,6,7,36,37] [] ?_|refine rg 9 [2,3,5,6,7,36] [2,3,5,6,7,36,60] [] ?_|(refine drB 10 [2,3] 524800 305450 [2,3,5] [4] [] [⟨0,4,4611686018427387904,5⟩,⟨1,4611686018427387904,9223372036854775808,6⟩,⟨0,8,18446744073709551616,5⟩,⟨4,18446744073709551616,36893488147419103232,6⟩,⟨0,8,73786976294838206464,5⟩,⟨16,73786976294838206464,147573952589676412928,6⟩,⟨0,32,295147905179352825856,5⟩,⟨0,8,590295810358705651712,5⟩,⟨128,590295810358705651712,1180591620717411303424,6⟩,⟨362,1669430338670714421248,2361183241434822606848,0⟩,⟨0,4,4722366482869645213696,5⟩,⟨1024,4722366482869645213696,9444732965739290427392,6⟩,⟨0,8,18889465931478580854784,5⟩,⟨4096,18889465931478580854784,37778931862957161709568,6⟩,⟨0,8,75557863725914323419136,5⟩,⟨16384,75557863725914323419136,151115727451828646838272,6⟩,⟨0,32,302231454903657293676544,5⟩,⟨0,8,604462909807314587353088,5⟩,⟨131072,604462909807314587353088,1208925819614629174706176,6⟩,⟨371200,1709496666798811567357952,2417851639229258349412352,0⟩,⟨524800,2420212822470693172019200,4835703278458516698824704,5⟩,⟨2097151,4835703278458516698824704,16,5⟩] (.take 0 (.take 1 (.take 2 (.take 3 (.take 4 (.take 5 (.take 6 (.take 7 (.take 8 (.take 10 (.take 11 (.take 12 (.take 13 (.take 14 (.take 15 (.take 16 (.take 17 (.take 18 (.fork (.alt 9 (.fork (.alt 19 (.take 20 (.take 21 (.done))) (.nil))) (.nil))))))))))))))))))))) (.run [0] (.chk 1 (.run [1,2] (.chk 3 (.run [3,4] (.chk 5 (.run [5,6,7] (.chk 8 (.run [8,10] (.chk 11 (.run [11,12] (.chk 13 (.run [13,14] (.chk 15 (.run [15,16,17] (.chk 18 (.run [18] (.chk 9 (.chk 19 (.run [20,21] (.done))))))))))))))))))))) ?_;simp only [drsB])|refine nc ?_);simp (maxSteps:=1000000) [hF,hd])
 refine (h1).goB [(0,[])] (by simp (maxSteps:=1000000) [hF,dTs,dL]) ?_;rintro av X κ ⟨rfl,rfl,rfl⟩;simp (maxSteps:=1000000) [hF,dTs,dL]
 refine (h2).goB [(1,[])] (by simp (maxSteps:=1000000) [hF,dTR,dR]) ?_;rintro av X κ ⟨r',hT,rfl,rfl,rfl⟩;simp (maxSteps:=1000000) [hF,dTR,dR]
 repeat first|refine n1 ?_
 (try refine nr ?_);(repeat first|refine nb_ ?_|refine nl_ ?_);refine endK.o [4] [0,1] [(0,[.d]),(1,[.d])] ?_;simp [hF,retK,covers,mpre,dTs,dL,dTR,dR]
 exact ⟨r',hT,rfl,rfl,rfl⟩
theorem does_2 {c:Nat} {s:Mt} {r:Rt} (h:MtOk s) (T:TR c s r) (hc:c≤1000) (d:MDeed) (hd:d.op = 2) :
  Meets Tryz.prog 19 [dTs true s,dTR r] (.cons (avB 0 1) (.cons (avMd d) .nil)) (DoesR c s d):=by
 have hN:nameOf d.n d.name = d.nm:=rfl
 have hM:nameOf d.m d.name = d.old:=rfl
 have hdo:doM s d = (undefOf s d.a d.nm).1:=by unfold doM;rw [hd];rfl
 unfold DoesR
 rw [hdo]
 have h1:=Undefine_ok h d.a d.nm
 have h2:=rUndefine_ok h T (by omega) d.a d.nm
 generalize undefOf s d.a d.nm = res at *
 refine fb Tryz.func19 Tryz.ntmps19 [.tmp 4] fun w0 I0 F0 hF=>?_
 repeat first|refine n1 ?_|((first|refine rg 0 [0,1] [2,3] [] ?_|refine rg 1 [2,3] [2,3,5] [] ?_);simp (maxSteps:=1000000) [hF,dTs,dL,dTR,dR])
 refine (name_ok d.n d.name).go [] (by simp (maxSteps:=1000000) [hF,hN]) ?_;rintro av X κ ⟨rfl,rfl,rfl⟩;simp (maxSteps:=1000000) [hF,hN]
 repeat first|refine n1 ?_|((refine rg 2 [2,3,5] [2,3,5,6] [] ?_);simp (maxSteps:=1000000) [hF])
 refine (name_ok d.m d.name).go [] (by simp (maxSteps:=1000000) [hF,hM]) ?_;rintro av X κ ⟨rfl,rfl,rfl⟩;simp (maxSteps:=1000000) [hF,hM]
 repeat first|refine n1 ?_|((refine rg 3 [2,3,5,6] [2,3,5,6,7] [] ?_);simp (maxSteps:=1000000) [hF])
 refine (Lineage_ok true s).go [(0,[])] (by simp (maxSteps:=1000000) [hF,dTs,dL]) ?_;rintro av X κ ⟨rfl,rfl,rfl⟩;simp (maxSteps:=1000000) [hF,dTs,dL]
 repeat first|refine n1 ?_|refine n2 ?_|refine n3 ?_|((first|refine rg 4 [2,3,5,6,7] [2,3,5,6,7,34] [] ?_|refine rg 6 [2,3,5,6,7] [2,3,5,6,7,36] [] ?_|refine rg 7 [2,3,5,6,7,36] [2,3,5,6,7,36,37] [] ?_|refine rg 9 [2,3,5,6,7,36] [2,3,5,6,7,36,60] [] ?_|refine rg 11 [2,3,5,6,7,36] [2,3,5,6,7,36,83] [] ?_|(refine drB 12 [2,3] 2080 650 [2,3,5] [4] [] [⟨0,4,38685626227668133590597632,5⟩,⟨1,38685626227668133590597632,77371252455336267181195264,6⟩,⟨0,8,154742504910672534362390528,5⟩,⟨4,154742504910672534362390528,309485009821345068724781056,6⟩,⟨0,32,618970019642690137449562112,5⟩,⟨26,1005826281919371473355538432,1237940039285380274899124224,0⟩,⟨0,4,2475880078570760549798248448,5⟩,⟨64,2475880078570760549798248448,4951760157141521099596496896,6⟩,⟨0,8,9903520314283042199192993792,5⟩,⟨256,9903520314283042199192993792,19807040628566084398385987584,6⟩,⟨0,32,39614081257132168796771975168,5⟩,⟨1696,64372882042839774294754459648,79228162514264337593543950336,0⟩,⟨2080,80466102553549717868443074560,158456325028528675187087900672,5⟩,⟨8191,158456325028528675187087900672,16,5⟩] (.take 0 (.take 1 (.take 2 (.take 3 (.take 4 (.take 6 (.take 7 (.take 8 (.take 9 (.take 10 (.fork (.alt 5 (.fork (.alt 11 (.take 12 (.take 13 (.done))) (.nil))) (.nil))))))))))))) (.run [0] (.chk 1 (.run [1,2] (.chk 3 (.run [3,4,6] (.chk 7 (.run [7,8] (.chk 9 (.run [9,10] (.chk 5 (.chk 11 (.run [12,13] (.done))))))))))))) ?_;simp only [drsB])|refine nc ?_);simp (maxSteps:=1000000) [hF,hd])
 refine (h1).goB [(0,[])] (by simp (maxSteps:=1000000) [hF,dTs,dL]) ?_;rintro av X κ ⟨rfl,rfl,rfl⟩;simp (maxSteps:=1000000) [hF,dTs,dL]
 refine (h2).goB [(1,[])] (by simp (maxSteps:=1000000) [hF,dTR,dR]) ?_;rintro av X κ ⟨r',hT,rfl,rfl,rfl⟩;simp (maxSteps:=1000000) [hF,dTR,dR]
 repeat first|refine n1 ?_
 (try refine nr ?_);(repeat first|refine nb_ ?_|refine nl_ ?_);refine endK.o [4] [0,1] [(0,[.d]),(1,[.d])] ?_;simp [hF,retK,covers,mpre,dTs,dL,dTR,dR]
 exact ⟨r',hT,rfl,rfl,rfl⟩
theorem does_3 {c:Nat} {s:Mt} {r:Rt} (h:MtOk s) (T:TR c s r) (hc:c≤1000) (d:MDeed) (hd:d.op = 3) :
  Meets Tryz.prog 19 [dTs true s,dTR r] (.cons (avB 0 1) (.cons (avMd d) .nil)) (DoesR c s d):=by
 have hN:nameOf d.n d.name = d.nm:=rfl
 have hM:nameOf d.m d.name = d.old:=rfl
 have hdo:doM s d = (removeOf s d.a d.nm).1:=by unfold doM;rw [hd];rfl
 unfold DoesR
 rw [hdo]
 have h1:=Remove_ok h d.a d.nm
 have h2:=rRemove_ok h T (by omega) d.a d.nm
 generalize removeOf s d.a d.nm = res at *
 refine fb Tryz.func19 Tryz.ntmps19 [.tmp 4] fun w0 I0 F0 hF=>?_
 repeat first|refine n1 ?_|((first|refine rg 0 [0,1] [2,3] [] ?_|refine rg 1 [2,3] [2,3,5] [] ?_);simp (maxSteps:=1000000) [hF,dTs,dL,dTR,dR])
 refine (name_ok d.n d.name).go [] (by simp (maxSteps:=1000000) [hF,hN]) ?_;rintro av X κ ⟨rfl,rfl,rfl⟩;simp (maxSteps:=1000000) [hF,hN]
 repeat first|refine n1 ?_|((refine rg 2 [2,3,5] [2,3,5,6] [] ?_);simp (maxSteps:=1000000) [hF])
 refine (name_ok d.m d.name).go [] (by simp (maxSteps:=1000000) [hF,hM]) ?_;rintro av X κ ⟨rfl,rfl,rfl⟩;simp (maxSteps:=1000000) [hF,hM]
 repeat first|refine n1 ?_|((refine rg 3 [2,3,5,6] [2,3,5,6,7] [] ?_);simp (maxSteps:=1000000) [hF])
 refine (Lineage_ok true s).go [(0,[])] (by simp (maxSteps:=1000000) [hF,dTs,dL]) ?_;rintro av X κ ⟨rfl,rfl,rfl⟩;simp (maxSteps:=1000000) [hF,dTs,dL]
 repeat first|refine n1 ?_|refine n2 ?_|refine n3 ?_|((first|refine rg 4 [2,3,5,6,7] [2,3,5,6,7,34] [] ?_|refine rg 6 [2,3,5,6,7] [2,3,5,6,7,36] [] ?_|refine rg 7 [2,3,5,6,7,36] [2,3,5,6,7,36,37] [] ?_|refine rg 9 [2,3,5,6,7,36] [2,3,5,6,7,36,60] [] ?_|refine rg 11 [2,3,5,6,7,36] [2,3,5,6,7,36,83] [] ?_|refine rg 13 [2,3,5,6,7,36] [2,3,5,6,7,36,98] [] ?_|(refine drB 14 [2,3] 2080 650 [2,3,5] [4] [] [⟨0,4,1267650600228229401496703205376,5⟩,⟨1,1267650600228229401496703205376,2535301200456458802993406410752,6⟩,⟨0,8,5070602400912917605986812821504,5⟩,⟨4,5070602400912917605986812821504,10141204801825835211973625643008,6⟩,⟨0,32,20282409603651670423947251286016,5⟩,⟨26,32958915605933964438914283339776,40564819207303340847894502572032,0⟩,⟨0,4,81129638414606681695789005144064,5⟩,⟨64,81129638414606681695789005144064,162259276829213363391578010288128,6⟩,⟨0,8,324518553658426726783156020576256,5⟩,⟨256,324518553658426726783156020576256,649037107316853453566312041152512,6⟩,⟨0,32,1298074214633706907132624082305024,5⟩,⟨1696,2109370598779773724090514133745664,2596148429267413814265248164610048,0⟩,⟨2080,2636713248474717155113142667182080,5192296858534827628530496329220096,5⟩,⟨8191,5192296858534827628530496329220096,16,5⟩] (.take 0 (.take 1 (.take 2 (.take 3 (.take 4 (.take 6 (.take 7 (.take 8 (.take 9 (.take 10 (.fork (.alt 5 (.fork (.alt 11 (.take 12 (.take 13 (.done))) (.nil))) (.nil))))))))))))) (.run [0] (.chk 1 (.run [1,2] (.chk 3 (.run [3,4,6] (.chk 7 (.run [7,8] (.chk 9 (.run [9,10] (.chk 5 (.chk 11 (.run [12,13] (.done))))))))))))) ?_;simp only [drsB])|refine nc ?_);simp (maxSteps:=1000000) [hF,hd])
 refine (h1).goB [(0,[])] (by simp (maxSteps:=1000000) [hF,dTs,dL]) ?_;rintro av X κ ⟨rfl,rfl,rfl⟩;simp (maxSteps:=1000000) [hF,dTs,dL]
 refine (h2).goB [(1,[])] (by simp (maxSteps:=1000000) [hF,dTR,dR]) ?_;rintro av X κ ⟨r',hT,rfl,rfl,rfl⟩;simp (maxSteps:=1000000) [hF,dTR,dR]
 repeat first|refine n1 ?_
 (try refine nr ?_);(repeat first|refine nb_ ?_|refine nl_ ?_);refine endK.o [4] [0,1] [(0,[.d]),(1,[.d])] ?_;simp [hF,retK,covers,mpre,dTs,dL,dTR,dR]
 exact ⟨r',hT,rfl,rfl,rfl⟩
theorem does_4 {c:Nat} {s:Mt} {r:Rt} (h:MtOk s) (T:TR c s r) (hc:c≤1000) (d:MDeed) (hd:d.op = 4) :
  Meets Tryz.prog 19 [dTs true s,dTR r] (.cons (avB 0 1) (.cons (avMd d) .nil)) (DoesR c s d):=by
 have hN:nameOf d.n d.name = d.nm:=rfl
 have hM:nameOf d.m d.name = d.old:=rfl
 have hdo:doM s d = (aliasOf s d.a d.nm d.old).1:=by unfold doM;rw [hd];rfl
 unfold DoesR
 rw [hdo]
 have h1:=Alias_ok h d.a d.nm d.old
 have h2:=rAlias_ok h T (by omega) d.a d.nm d.old
 generalize aliasOf s d.a d.nm d.old = res at *
 refine fb Tryz.func19 Tryz.ntmps19 [.tmp 4] fun w0 I0 F0 hF=>?_
 repeat first|refine n1 ?_|((first|refine rg 0 [0,1] [2,3] [] ?_|refine rg 1 [2,3] [2,3,5] [] ?_);simp (maxSteps:=1000000) [hF,dTs,dL,dTR,dR])
 refine (name_ok d.n d.name).go [] (by simp (maxSteps:=1000000) [hF,hN]) ?_;rintro av X κ ⟨rfl,rfl,rfl⟩;simp (maxSteps:=1000000) [hF,hN]
 repeat first|refine n1 ?_|((refine rg 2 [2,3,5] [2,3,5,6] [] ?_);simp (maxSteps:=1000000) [hF])
 refine (name_ok d.m d.name).go [] (by simp (maxSteps:=1000000) [hF,hM]) ?_;rintro av X κ ⟨rfl,rfl,rfl⟩;simp (maxSteps:=1000000) [hF,hM]
 repeat first|refine n1 ?_|((refine rg 3 [2,3,5,6] [2,3,5,6,7] [] ?_);simp (maxSteps:=1000000) [hF])
 refine (Lineage_ok true s).go [(0,[])] (by simp (maxSteps:=1000000) [hF,dTs,dL]) ?_;rintro av X κ ⟨rfl,rfl,rfl⟩;simp (maxSteps:=1000000) [hF,dTs,dL]
 repeat first|refine n1 ?_|refine n2 ?_|refine n3 ?_|((first|refine rg 4 [2,3,5,6,7] [2,3,5,6,7,34] [] ?_|refine rg 6 [2,3,5,6,7] [2,3,5,6,7,36] [] ?_|refine rg 7 [2,3,5,6,7,36] [2,3,5,6,7,36,37] [] ?_|refine rg 9 [2,3,5,6,7,36] [2,3,5,6,7,36,60] [] ?_|refine rg 11 [2,3,5,6,7,36] [2,3,5,6,7,36,83] [] ?_|refine rg 13 [2,3,5,6,7,36] [2,3,5,6,7,36,98] [] ?_|refine rg 15 [2,3,5,6,7,36] [2,3,5,6,7,36,113] [] ?_|(refine drB 16 [2,3] 8256 1290 [2,3,5,6] [4] [] [⟨0,4,41538374868278621028243970633760768,5⟩,⟨1,41538374868278621028243970633760768,83076749736557242056487941267521536,6⟩,⟨0,8,166153499473114484112975882535043072,5⟩,⟨4,166153499473114484112975882535043072,332306998946228968225951765070086144,6⟩,⟨0,32,664613997892457936451903530140172288,5⟩,⟨0,64,1329227995784915872903807060280344576,5⟩,⟨58,2409225742360160019638150296758124544,2658455991569831745807614120560689152,0⟩,⟨0,4,5316911983139663491615228241121378304,5⟩,⟨128,5316911983139663491615228241121378304,10633823966279326983230456482242756608,6⟩,⟨0,8,21267647932558653966460912964485513216,5⟩,⟨512,21267647932558653966460912964485513216,42535295865117307932921825928971026432,6⟩,⟨0,32,85070591730234615865843651857942052864,5⟩,⟨0,64,170141183460469231731687303715884105728,5⟩,⟨7488,308380895022100482513683237985039941632,340282366920938463463374607431768211456,0⟩,⟨8256,342940822912508295209182221552328900608,680564733841876926926749214863536422912,5⟩,⟨32767,680564733841876926926749214863536422912,16,5⟩] (.take 0 (.take 1 (.take 2 (.take 3 (.take 4 (.take 5 (.take 7 (.take 8 (.take 9 (.take 10 (.take 11 (.take 12 (.fork (.alt 6 (.fork (.alt 13 (.take 14 (.take 15 (.done))) (.nil))) (.nil))))))))))))))) (.run [0] (.chk 1 (.run [1,2] (.chk 3 (.run [3,4,5,7] (.chk 8 (.run [8,9] (.chk 10 (.run [10,11,12] (.chk 6 (.chk 13 (.run [14,15] (.done))))))))))))) ?_;simp only [drsB])|refine nc ?_);simp (maxSteps:=1000000) [hF,hd])
 refine (h1).goB [(0,[])] (by simp (maxSteps:=1000000) [hF,dTs,dL]) ?_;rintro av X κ ⟨rfl,rfl,rfl⟩;simp (maxSteps:=1000000) [hF,dTs,dL]
 refine (h2).goB [(1,[])] (by simp (maxSteps:=1000000) [hF,dTR,dR]) ?_;rintro av X κ ⟨r',hT,rfl,rfl,rfl⟩;simp (maxSteps:=1000000) [hF,dTR,dR]
 repeat first|refine n1 ?_
 (try refine nr ?_);(repeat first|refine nb_ ?_|refine nl_ ?_);refine endK.o [4] [0,1] [(0,[.d]),(1,[.d])] ?_;simp [hF,retK,covers,mpre,dTs,dL,dTR,dR]
 exact ⟨r',hT,rfl,rfl,rfl⟩
theorem does_5 {c:Nat} {s:Mt} {r:Rt} (h:MtOk s) (T:TR c s r) (hc:c≤1000) (d:MDeed) (hd:d.op = 5) :
  Meets Tryz.prog 19 [dTs true s,dTR r] (.cons (avB 0 1) (.cons (avMd d) .nil)) (DoesR c s d):=by
 have hN:nameOf d.n d.name = d.nm:=rfl
 have hM:nameOf d.m d.name = d.old:=rfl
 have hdo:doM s d = (showOf s d.a d.nm d.c).1:=by unfold doM;rw [hd];rfl
 unfold DoesR
 rw [hdo]
 have h1:=Show_ok h d.a d.nm d.c
 have h2:=rShow_ok h T (by omega) d.a d.nm d.c
 generalize showOf s d.a d.nm d.c = res at *
 refine fb Tryz.func19 Tryz.ntmps19 [.tmp 4] fun w0 I0 F0 hF=>?_
 repeat first|refine n1 ?_|((first|refine rg 0 [0,1] [2,3] [] ?_|refine rg 1 [2,3] [2,3,5] [] ?_);simp (maxSteps:=1000000) [hF,dTs,dL,dTR,dR])
 refine (name_ok d.n d.name).go [] (by simp (maxSteps:=1000000) [hF,hN]) ?_;rintro av X κ ⟨rfl,rfl,rfl⟩;simp (maxSteps:=1000000) [hF,hN]
 repeat first|refine n1 ?_|((refine rg 2 [2,3,5] [2,3,5,6] [] ?_);simp (maxSteps:=1000000) [hF])
 refine (name_ok d.m d.name).go [] (by simp (maxSteps:=1000000) [hF,hM]) ?_;rintro av X κ ⟨rfl,rfl,rfl⟩;simp (maxSteps:=1000000) [hF,hM]
 repeat first|refine n1 ?_|((refine rg 3 [2,3,5,6] [2,3,5,6,7] [] ?_);simp (maxSteps:=1000000) [hF])
 refine (Lineage_ok true s).go [(0,[])] (by simp (maxSteps:=1000000) [hF,dTs,dL]) ?_;rintro av X κ ⟨rfl,rfl,rfl⟩;simp (maxSteps:=1000000) [hF,dTs,dL]
 repeat first|refine n1 ?_|refine n2 ?_|refine n3 ?_|((first|refine rg 4 [2,3,5,6,7] [2,3,5,6,7,34] [] ?_|refine rg 6 [2,3,5,6,7] [2,3,5,6,7,36] [] ?_|refine rg 7 [2,3,5,6,7,36] [2,3,5,6,7,36,37] [] ?_|refine rg 9 [2,3,5,6,7,36] [2,3,5,6,7,36,60] [] ?_|refine rg 11 [2,3,5,6,7,36] [2,3,5,6,7,36,83] [] ?_|refine rg 13 [2,3,5,6,7,36] [2,3,5,6,7,36,98] [] ?_|refine rg 15 [2,3,5,6,7,36] [2,3,5,6,7,36,113] [] ?_|refine rg 17 [2,3,5,7,36] [2,3,5,7,36,130] [] ?_|(refine drB 18 [2,3] 32896 19018 [2,3,5] [4] [] [⟨0,4,5444517870735015415413993718908291383296,5⟩,⟨1,5444517870735015415413993718908291383296,10889035741470030830827987437816582766592,6⟩,⟨0,8,21778071482940061661655974875633165533184,5⟩,⟨4,21778071482940061661655974875633165533184,43556142965880123323311949751266331066368,6⟩,⟨0,32,87112285931760246646623899502532662132736,5⟩,⟨0,8,174224571863520493293247799005065324265472,5⟩,⟨32,174224571863520493293247799005065324265472,348449143727040986586495598010130648530944,6⟩,⟨90,490006608366151387387259434701746224496640,696898287454081973172991196020261297061888,0⟩,⟨0,4,1393796574908163946345982392040522594123776,5⟩,⟨256,1393796574908163946345982392040522594123776,2787593149816327892691964784081045188247552,6⟩,⟨0,8,5575186299632655785383929568162090376495104,5⟩,⟨1024,5575186299632655785383929568162090376495104,11150372599265311570767859136324180752990208,6⟩,⟨0,32,22300745198530623141535718272648361505980416,5⟩,⟨0,8,44601490397061246283071436545296723011960832,5⟩,⟨8192,44601490397061246283071436545296723011960832,89202980794122492566142873090593446023921664,6⟩,⟨23168,125441691741734755171138415283647033471139840,178405961588244985132285746181186892047843328,0⟩,⟨32896,179102859875699067105458737377207153344905216,356811923176489970264571492362373784095686656,5⟩,⟨131071,356811923176489970264571492362373784095686656,16,5⟩] (.take 0 (.take 1 (.take 2 (.take 3 (.take 4 (.take 5 (.take 6 (.take 8 (.take 9 (.take 10 (.take 11 (.take 12 (.take 13 (.take 14 (.fork (.alt 7 (.fork (.alt 15 (.take 16 (.take 17 (.done))) (.nil))) (.nil))))))))))))))))) (.run [0] (.chk 1 (.run [1,2] (.chk 3 (.run [3,4,5] (.chk 6 (.run [6,8] (.chk 9 (.run [9,10] (.chk 11 (.run [11,12,13] (.chk 14 (.run [14] (.chk 7 (.chk 15 (.run [16,17] (.done))))))))))))))))) ?_;simp only [drsB])|refine nc ?_);simp (maxSteps:=1000000) [hF,hd])
 refine (h1).goB [(0,[])] (by simp (maxSteps:=1000000) [hF,dTs,dL]) ?_;rintro av X κ ⟨rfl,rfl,rfl⟩;simp (maxSteps:=1000000) [hF,dTs,dL]
 refine (h2).goB [(1,[])] (by simp (maxSteps:=1000000) [hF,dTR,dR]) ?_;rintro av X κ ⟨r',hT,rfl,rfl,rfl⟩;simp (maxSteps:=1000000) [hF,dTR,dR]
 repeat first|refine n1 ?_
 (try refine nr ?_);(repeat first|refine nb_ ?_|refine nl_ ?_);refine endK.o [4] [0,1] [(0,[.d]),(1,[.d])] ?_;simp [hF,retK,covers,mpre,dTs,dL,dTR,dR]
 exact ⟨r',hT,rfl,rfl,rfl⟩
theorem does_6 {c:Nat} {s:Mt} {r:Rt} (h:MtOk s) (T:TR c s r) (hc:c≤1000) (d:MDeed) (hd:d.op = 6) :
  Meets Tryz.prog 19 [dTs true s,dTR r] (.cons (avB 0 1) (.cons (avMd d) .nil)) (DoesR c s d):=by
 have hN:nameOf d.n d.name = d.nm:=rfl
 have hM:nameOf d.m d.name = d.old:=rfl
 have hdo:doM s d = (freezeOf s d.a).1:=by unfold doM;rw [hd];rfl
 unfold DoesR
 rw [hdo]
 have h1:=Freeze_ok h d.a
 have h2:=rFreeze_ok T (by omega) d.a
 generalize freezeOf s d.a = res at *
 refine fb Tryz.func19 Tryz.ntmps19 [.tmp 4] fun w0 I0 F0 hF=>?_
 repeat first|refine n1 ?_|((first|refine rg 0 [0,1] [2,3] [] ?_|refine rg 1 [2,3] [2,3,5] [] ?_);simp (maxSteps:=1000000) [hF,dTs,dL,dTR,dR])
 refine (name_ok d.n d.name).go [] (by simp (maxSteps:=1000000) [hF,hN]) ?_;rintro av X κ ⟨rfl,rfl,rfl⟩;simp (maxSteps:=1000000) [hF,hN]
 repeat first|refine n1 ?_|((refine rg 2 [2,3,5] [2,3,5,6] [] ?_);simp (maxSteps:=1000000) [hF])
 refine (name_ok d.m d.name).go [] (by simp (maxSteps:=1000000) [hF,hM]) ?_;rintro av X κ ⟨rfl,rfl,rfl⟩;simp (maxSteps:=1000000) [hF,hM]
 repeat first|refine n1 ?_|((refine rg 3 [2,3,5,6] [2,3,5,6,7] [] ?_);simp (maxSteps:=1000000) [hF])
 refine (Lineage_ok true s).go [(0,[])] (by simp (maxSteps:=1000000) [hF,dTs,dL]) ?_;rintro av X κ ⟨rfl,rfl,rfl⟩;simp (maxSteps:=1000000) [hF,dTs,dL]
 repeat first|refine n1 ?_|refine n2 ?_|refine n3 ?_|((first|refine rg 4 [2,3,5,6,7] [2,3,5,6,7,34] [] ?_|refine rg 6 [2,3,5,6,7] [2,3,5,6,7,36] [] ?_|refine rg 7 [2,3,5,6,7,36] [2,3,5,6,7,36,37] [] ?_|refine rg 9 [2,3,5,6,7,36] [2,3,5,6,7,36,60] [] ?_|refine rg 11 [2,3,5,6,7,36] [2,3,5,6,7,36,83] [] ?_|refine rg 13 [2,3,5,6,7,36] [2,3,5,6,7,36,98] [] ?_|refine rg 15 [2,3,5,6,7,36] [2,3,5,6,7,36,113] [] ?_|refine rg 17 [2,3,5,7,36] [2,3,5,7,36,130] [] ?_|refine rg 19 [2,3,7,36] [2,3,7,36,149] [] ?_|(refine drB 20 [2,3] 528 330 [2,3] [4] [] [⟨0,4,2854495385411919762116571938898990272765493248,5⟩,⟨1,2854495385411919762116571938898990272765493248,5708990770823839524233143877797980545530986496,6⟩,⟨0,8,11417981541647679048466287755595961091061972992,5⟩,⟨4,11417981541647679048466287755595961091061972992,22835963083295358096932575511191922182123945984,6⟩,⟨10,28544953854119197621165719388989902727654932480,45671926166590716193865151022383844364247891968,0⟩,⟨0,4,91343852333181432387730302044767688728495783936,5⟩,⟨32,91343852333181432387730302044767688728495783936,182687704666362864775460604089535377456991567872,6⟩,⟨0,8,365375409332725729550921208179070754913983135744,5⟩,⟨128,365375409332725729550921208179070754913983135744,730750818665451459101842416358141509827966271488,6⟩,⟨336,913438523331814323877303020447676887284957839360,1461501637330902918203684832716283019655932542976,0⟩,⟨528,1507173563497493634397549983738666864020180434944,2923003274661805836407369665432566039311865085952,5⟩,⟨2047,2923003274661805836407369665432566039311865085952,16,5⟩] (.take 0 (.take 1 (.take 2 (.take 3 (.take 5 (.take 6 (.take 7 (.take 8 (.fork (.alt 4 (.fork (.alt 9 (.take 10 (.take 11 (.done))) (.nil))) (.nil))))))))))) (.run [0] (.chk 1 (.run [1,2] (.chk 3 (.run [3,5] (.chk 6 (.run [6,7] (.chk 8 (.run [8] (.chk 4 (.chk 9 (.run [10,11] (.done))))))))))))) ?_;simp only [drsB])|refine nc ?_);simp (maxSteps:=1000000) [hF,hd])
 refine (h1).goB [(0,[])] (by simp (maxSteps:=1000000) [hF,dTs,dL]) ?_;rintro av X κ ⟨rfl,rfl,rfl⟩;simp (maxSteps:=1000000) [hF,dTs,dL]
 refine (h2).goB [(1,[])] (by simp (maxSteps:=1000000) [hF,dTR,dR]) ?_;rintro av X κ ⟨r',hT,rfl,rfl,rfl⟩;simp (maxSteps:=1000000) [hF,dTR,dR]
 repeat first|refine n1 ?_
 (try refine nr ?_);(repeat first|refine nb_ ?_|refine nl_ ?_);refine endK.o [4] [0,1] [(0,[.d]),(1,[.d])] ?_;simp [hF,retK,covers,mpre,dTs,dL,dTR,dR]
 exact ⟨r',hT,rfl,rfl,rfl⟩
theorem hBI {L:List Th} (h:OK L) (t m:Int):∀ t':Nat,t = t'→t' < L.length→val L m = true→(thAt L m).kind = 1→hasN (thAt L t).ins m = false→m≠t→hasN (ordL L m) t = false→∃ r,Base (withI L t' (m :: (thAt L t).ins)) r :=
 fun t' e ht hv hk hd _ hh=>by subst e;exact baseI h m t' ht hv hk hd hh
theorem hBP {L:List Th} (h:OK L) (t m:Int):∀ t':Nat,t = t'→t' < L.length→val L m = true→(thAt L m).kind = 1→hasN (thAt L t).bef m = false→m≠t→hasN (ordL L m) t = false→∃ r,Base (withP L t' (m :: (thAt L t).bef)) r :=
 fun t' e ht hv hk hd _ hh=>by subst e;exact baseP h m t' ht hv hk hd hh
theorem hBIR {L R:List Th} (h:OK L) (l:LR L R) (t m:Int):∀ t':Nat,t = t'→t' < R.length→val R m = true→(thAt R m).kind = 1→hasN (thAt R t).ins m = false→m≠t→hasN (ordL R m) t = false→∃ r,Base (withI R t' (m :: (thAt R t).ins)) r :=
 fun t' e ht hv hk hd hne hh=>by
  subst e
  rw [l.val_eq] at hv
  obtain ⟨m,rfl,hm⟩:=val_nat hv
  have ht':t' < L.length:=by rw [←l.len];exact ht
  have h1:=l.th t' ht'
  rw [(l.th m hm).1] at hk
  rw [h1.2.2.2.2] at hd ⊢
  rw [l.ordL_eq h.wf hm] at hh
  obtain ⟨r,B⟩:=hBI h t' m t' rfl ht' hv hk hd hne hh
  exact ⟨r,(l.withI_ok ht' _).base B⟩
theorem hBPR {L R:List Th} (h:OK L) (l:LR L R) (t m:Int):∀ t':Nat,t = t'→t' < R.length→val R m = true→(thAt R m).kind = 1→hasN (thAt R t).bef m = false→m≠t→hasN (ordL R m) t = false→∃ r,Base (withP R t' (m :: (thAt R t).bef)) r :=
 fun t' e ht hv hk hd hne hh=>by
  subst e
  rw [l.val_eq] at hv
  obtain ⟨m,rfl,hm⟩:=val_nat hv
  have ht':t' < L.length:=by rw [←l.len];exact ht
  have h1:=l.th t' ht'
  rw [(l.th m hm).1] at hk
  rw [h1.2.2.2.1] at hd ⊢
  rw [l.ordL_eq h.wf hm] at hh
  obtain ⟨r,B⟩:=hBP h t' m t' rfl ht' hv hk hd hne hh
  exact ⟨r,(l.withP_ok ht' _).base B⟩
theorem does_7 {c:Nat} {s:Mt} {r:Rt} (h:MtOk s) (T:TR c s r) (hc:c≤1000) (d:MDeed) (hd:d.op = 7) :
  Meets Tryz.prog 19 [dTs true s,dTR r] (.cons (avB 0 1) (.cons (avMd d) .nil)) (DoesR c s d):=by
 have hN:nameOf d.n d.name = d.nm:=rfl
 have hM:nameOf d.m d.name = d.old:=rfl
 have hdo:doM s d = linOf s (classOf s.L d.a).1:=by unfold doM;rw [hd];rfl
 unfold DoesR
 rw [hdo]
 have h1:=class_ok s.L h.len d.a
 have h2:=rClass_ok r.R (by rw [T.lr.len];exact h.len) d.a
 obtain ⟨e1,e2⟩:=T.lr.cls h.ok d.a
 have hT:=(T.lin e2).le (Nat.le_succ c)
 generalize classOf s.L d.a = resL at *
 generalize classOf r.R d.a = resR at *
 refine fb Tryz.func19 Tryz.ntmps19 [.tmp 4] fun w0 I0 F0 hF=>?_
 repeat first|refine n1 ?_|((first|refine rg 0 [0,1] [2,3] [] ?_|refine rg 1 [2,3] [2,3,5] [] ?_);simp (maxSteps:=1000000) [hF,dTs,dL,dTR,dR])
 refine (name_ok d.n d.name).go [] (by simp (maxSteps:=1000000) [hF,hN]) ?_;rintro av X κ ⟨rfl,rfl,rfl⟩;simp (maxSteps:=1000000) [hF,hN]
 repeat first|refine n1 ?_|((refine rg 2 [2,3,5] [2,3,5,6] [] ?_);simp (maxSteps:=1000000) [hF])
 refine (name_ok d.m d.name).go [] (by simp (maxSteps:=1000000) [hF,hM]) ?_;rintro av X κ ⟨rfl,rfl,rfl⟩;simp (maxSteps:=1000000) [hF,hM]
 repeat first|refine n1 ?_|((refine rg 3 [2,3,5,6] [2,3,5,6,7] [] ?_);simp (maxSteps:=1000000) [hF])
 refine (Lineage_ok true s).go [(0,[])] (by simp (maxSteps:=1000000) [hF,dTs,dL]) ?_;rintro av X κ ⟨rfl,rfl,rfl⟩;simp (maxSteps:=1000000) [hF,dTs,dL]
 repeat first|refine n1 ?_|refine n2 ?_|refine n3 ?_|((first|refine rg 4 [2,3,5,6,7] [2,3,5,6,7,34] [] ?_|refine rg 6 [2,3,5,6,7] [2,3,5,6,7,36] [] ?_|refine rg 7 [2,3,5,6,7,36] [2,3,5,6,7,36,37] [] ?_|refine rg 9 [2,3,5,6,7,36] [2,3,5,6,7,36,60] [] ?_|refine rg 11 [2,3,5,6,7,36] [2,3,5,6,7,36,83] [] ?_|refine rg 13 [2,3,5,6,7,36] [2,3,5,6,7,36,98] [] ?_|refine rg 15 [2,3,5,6,7,36] [2,3,5,6,7,36,113] [] ?_|refine rg 17 [2,3,5,7,36] [2,3,5,7,36,130] [] ?_|refine rg 19 [2,3,7,36] [2,3,7,36,149] [] ?_|refine rg 21 [2,3,7,36] [2,3,7,36,162] [] ?_|refine rg 22 [2,3,7] [2,3,8,9] [] ?_|refine nc ?_);simp (maxSteps:=1000000) [hF,hd])
 refine (h1).go [(0,[.d,.f 0])] (by simp (maxSteps:=1000000) [hF,dTs,dL]) ?_;rintro av X κ ⟨rfl,rfl,rfl⟩;simp (maxSteps:=1000000) [hF,dTs,dL]
 repeat first|refine n1 ?_|(((refine dr 23 0 [2,3,8,9] [8,9,10,11] [] [⟨0,4,5986310706507378352962293074805895248510699696029696,5⟩,⟨1,5986310706507378352962293074805895248510699696029696,11972621413014756705924586149611790497021399392059392,6⟩,⟨2,11972621413014756705924586149611790497021399392059392,23945242826029513411849172299223580994042798784118784,5⟩,⟨4,23945242826029513411849172299223580994042798784118784,47890485652059026823698344598447161988085597568237568,5⟩,⟨8,47890485652059026823698344598447161988085597568237568,95780971304118053647396689196894323976171195136475136,6⟩,⟨0,8,191561942608236107294793378393788647952342390272950272,5⟩,⟨32,191561942608236107294793378393788647952342390272950272,383123885216472214589586756787577295904684780545900544,6⟩,⟨80,478904856520590268236983445984471619880855975682375680,766247770432944429179173513575154591809369561091801088,0⟩,⟨128,766247770432944429179173513575154591809369561091801088,2993155353253689176481146537402947624255349848014848,5⟩,⟨256,2993155353253689176481146537402947624255349848014848,1532495540865888858358347027150309183618739122183602176,5⟩,⟨256,2993155353253689176481146537402947624255349848014848,3064991081731777716716694054300618367237478244367204352,5⟩,⟨1023,1532495540865888858358347027150309183618739122183602176,1024,5⟩,⟨4095,3064991081731777716716694054300618367237478244367204352,2048,5⟩] (.take 0 (.take 1 (.take 2 (.take 3 (.take 4 (.take 5 (.take 6 (.fork (.alt 7 (.take 8 (.take 9 (.take 10 (.take 11 (.take 12 (.done)))))) (.nil)))))))))) (.run [0,1,2,3,4,5,6,7,8,9,10,11,12] (.done)) ?_;simp only [drs]));simp (maxSteps:=1000000) [hF,dTR,dR])
 refine (h2).go [(1,[.d,.f 1])] (by simp (maxSteps:=1000000) [hF,dTR,dR,e1]) ?_;rintro av X κ ⟨rfl,rfl,rfl⟩;simp (maxSteps:=1000000) [hF,dTR,dR,e1]
 repeat first|refine n1 ?_|((refine rg 24 [8,9,10,11] [4] [(3,185)] ?_);simp (maxSteps:=1000000) [hF])
 (try refine nr ?_);(repeat first|refine nb_ ?_|refine nl_ ?_);refine endK.o [4] [0,1] [(0,[.d]),(1,[.d])] ?_;simp [hF,retK,covers,mpre,dTs,dL,dTR,dR,linOf]
 exact ⟨_,hT,rfl,rfl,rfl⟩
theorem does_8 {c:Nat} {s:Mt} {r:Rt} (h:MtOk s) (T:TR c s r) (hc:c≤1000) (d:MDeed) (hd:d.op = 8) :
  Meets Tryz.prog 19 [dTs true s,dTR r] (.cons (avB 0 1) (.cons (avMd d) .nil)) (DoesR c s d):=by
 have hN:nameOf d.n d.name = d.nm:=rfl
 have hM:nameOf d.m d.name = d.old:=rfl
 have hdo:doM s d = linOf s (moduleOf s.L).1:=by unfold doM;rw [hd];rfl
 unfold DoesR
 rw [hdo]
 have h1:=module_ok s.L h.len
 have h2:=rModule_ok r.R (by rw [T.lr.len];exact h.len) (by rw [T.lr.len];exact h.pos)
 obtain ⟨e1,e2⟩:=T.lr.mdl h.ok
 have hT:=(T.lin e2).le (Nat.le_succ c)
 generalize moduleOf s.L = resL at *
 generalize moduleOf r.R = resR at *
 refine fb Tryz.func19 Tryz.ntmps19 [.tmp 4] fun w0 I0 F0 hF=>?_
 repeat first|refine n1 ?_|((first|refine rg 0 [0,1] [2,3] [] ?_|refine rg 1 [2,3] [2,3,5] [] ?_);simp (maxSteps:=1000000) [hF,dTs,dL,dTR,dR])
 refine (name_ok d.n d.name).go [] (by simp (maxSteps:=1000000) [hF,hN]) ?_;rintro av X κ ⟨rfl,rfl,rfl⟩;simp (maxSteps:=1000000) [hF,hN]
 repeat first|refine n1 ?_|((refine rg 2 [2,3,5] [2,3,5,6] [] ?_);simp (maxSteps:=1000000) [hF])
 refine (name_ok d.m d.name).go [] (by simp (maxSteps:=1000000) [hF,hM]) ?_;rintro av X κ ⟨rfl,rfl,rfl⟩;simp (maxSteps:=1000000) [hF,hM]
 repeat first|refine n1 ?_|((refine rg 3 [2,3,5,6] [2,3,5,6,7] [] ?_);simp (maxSteps:=1000000) [hF])
 refine (Lineage_ok true s).go [(0,[])] (by simp (maxSteps:=1000000) [hF,dTs,dL]) ?_;rintro av X κ ⟨rfl,rfl,rfl⟩;simp (maxSteps:=1000000) [hF,dTs,dL]
 repeat first|refine n1 ?_|refine n2 ?_|refine n3 ?_|((first|refine rg 4 [2,3,5,6,7] [2,3,5,6,7,34] [] ?_|refine rg 6 [2,3,5,6,7] [2,3,5,6,7,36] [] ?_|refine rg 7 [2,3,5,6,7,36] [2,3,5,6,7,36,37] [] ?_|refine rg 9 [2,3,5,6,7,36] [2,3,5,6,7,36,60] [] ?_|refine rg 11 [2,3,5,6,7,36] [2,3,5,6,7,36,83] [] ?_|refine rg 13 [2,3,5,6,7,36] [2,3,5,6,7,36,98] [] ?_|refine rg 15 [2,3,5,6,7,36] [2,3,5,6,7,36,113] [] ?_|refine rg 17 [2,3,5,7,36] [2,3,5,7,36,130] [] ?_|refine rg 19 [2,3,7,36] [2,3,7,36,149] [] ?_|refine rg 21 [2,3,7,36] [2,3,7,36,162] [] ?_|refine rg 25 [2,3,7,36] [2,3,7,36,190] [] ?_|refine rg 26 [2,7] [2,12,13] [] ?_|refine nc ?_);simp (maxSteps:=1000000) [hF,hd])
 refine (h1).go [(0,[.d,.f 0])] (by simp (maxSteps:=1000000) [hF,dTs,dL]) ?_;rintro av X κ ⟨rfl,rfl,rfl⟩;simp (maxSteps:=1000000) [hF,dTs,dL]
 repeat first|refine n1 ?_|((refine rg 27 [2,12,13] [12,13,14,15] [] ?_);simp (maxSteps:=1000000) [hF,dTR,dR])
 refine (h2).go [(1,[.d,.f 1])] (by simp (maxSteps:=1000000) [hF,dTR,dR,e1]) ?_;rintro av X κ ⟨rfl,rfl,rfl⟩;simp (maxSteps:=1000000) [hF,dTR,dR,e1]
 repeat first|refine n1 ?_|((refine rg 28 [12,13,14,15] [4] [(3,209)] ?_);simp (maxSteps:=1000000) [hF])
 (try refine nr ?_);(repeat first|refine nb_ ?_|refine nl_ ?_);refine endK.o [4] [0,1] [(0,[.d]),(1,[.d])] ?_;simp [hF,retK,covers,mpre,dTs,dL,dTR,dR,linOf]
 exact ⟨_,hT,rfl,rfl,rfl⟩
theorem does_9 {c:Nat} {s:Mt} {r:Rt} (h:MtOk s) (T:TR c s r) (hc:c≤1000) (d:MDeed) (hd:d.op = 9) :
  Meets Tryz.prog 19 [dTs true s,dTR r] (.cons (avB 0 1) (.cons (avMd d) .nil)) (DoesR c s d):=by
 have hN:nameOf d.n d.name = d.nm:=rfl
 have hM:nameOf d.m d.name = d.old:=rfl
 have hdo:doM s d = linOf s (putI s.L d.a d.b).1:=by unfold doM;rw [hd];rfl
 unfold DoesR
 rw [hdo]
 have h1:=include_ok h.ok.wf d.a d.b (hBI h.ok d.a d.b)
 have h2:=rInclude_ok (T.lr.wf h.ok.wf) (by rw [T.lr.len];exact h.pos) d.a d.b (hBIR h.ok T.lr d.a d.b)
 obtain ⟨e1,e2⟩:=T.lr.putI_eq h.ok d.a d.b
 have hT:=(T.lin e2).le (Nat.le_succ c)
 generalize putI s.L d.a d.b = resL at *
 generalize putI r.R d.a d.b = resR at *
 refine fb Tryz.func19 Tryz.ntmps19 [.tmp 4] fun w0 I0 F0 hF=>?_
 repeat first|refine n1 ?_|((first|refine rg 0 [0,1] [2,3] [] ?_|refine rg 1 [2,3] [2,3,5] [] ?_);simp (maxSteps:=1000000) [hF,dTs,dL,dTR,dR])
 refine (name_ok d.n d.name).go [] (by simp (maxSteps:=1000000) [hF,hN]) ?_;rintro av X κ ⟨rfl,rfl,rfl⟩;simp (maxSteps:=1000000) [hF,hN]
 repeat first|refine n1 ?_|((refine rg 2 [2,3,5] [2,3,5,6] [] ?_);simp (maxSteps:=1000000) [hF])
 refine (name_ok d.m d.name).go [] (by simp (maxSteps:=1000000) [hF,hM]) ?_;rintro av X κ ⟨rfl,rfl,rfl⟩;simp (maxSteps:=1000000) [hF,hM]
 repeat first|refine n1 ?_|((refine rg 3 [2,3,5,6] [2,3,5,6,7] [] ?_);simp (maxSteps:=1000000) [hF])
 refine (Lineage_ok true s).go [(0,[])] (by simp (maxSteps:=1000000) [hF,dTs,dL]) ?_;rintro av X κ ⟨rfl,rfl,rfl⟩;simp (maxSteps:=1000000) [hF,dTs,dL]
 repeat first|refine n1 ?_|refine n2 ?_|refine n3 ?_|((first|refine rg 4 [2,3,5,6,7] [2,3,5,6,7,34] [] ?_|refine rg 6 [2,3,5,6,7] [2,3,5,6,7,36] [] ?_|refine rg 7 [2,3,5,6,7,36] [2,3,5,6,7,36,37] [] ?_|refine rg 9 [2,3,5,6,7,36] [2,3,5,6,7,36,60] [] ?_|refine rg 11 [2,3,5,6,7,36] [2,3,5,6,7,36,83] [] ?_|refine rg 13 [2,3,5,6,7,36] [2,3,5,6,7,36,98] [] ?_|refine rg 15 [2,3,5,6,7,36] [2,3,5,6,7,36,113] [] ?_|refine rg 17 [2,3,5,7,36] [2,3,5,7,36,130] [] ?_|refine rg 19 [2,3,7,36] [2,3,7,36,149] [] ?_|refine rg 21 [2,3,7,36] [2,3,7,36,162] [] ?_|refine rg 25 [2,3,7,36] [2,3,7,36,190] [] ?_|refine rg 29 [2,3,7,36] [2,3,7,36,214] [] ?_|(refine drB 30 [2,3] 32800 21652 [2,3,7] [4] [] [⟨0,128,105312291668557186697918027683670432318895095400549111254310977536,5⟩,⟨0,8,210624583337114373395836055367340864637790190801098222508621955072,5⟩,⟨2,210624583337114373395836055367340864637790190801098222508621955072,421249166674228746791672110734681729275580381602196445017243910144,6⟩,⟨0,8,842498333348457493583344221469363458551160763204392890034487820288,5⟩,⟨8,842498333348457493583344221469363458551160763204392890034487820288,1684996666696914987166688442938726917102321526408785780068975640576,6⟩,⟨21,2211558125039700920656278581357079078696797003411531336340530528256,3369993333393829974333376885877453834204643052817571560137951281152,0⟩,⟨0,4,6739986666787659948666753771754907668409286105635143120275902562304,5⟩,⟨64,6739986666787659948666753771754907668409286105635143120275902562304,13479973333575319897333507543509815336818572211270286240551805124608,6⟩,⟨128,13479973333575319897333507543509815336818572211270286240551805124608,26959946667150639794667015087019630673637144422540572481103610249216,5⟩,⟨256,26959946667150639794667015087019630673637144422540572481103610249216,53919893334301279589334030174039261347274288845081144962207220498432,5⟩,⟨512,53919893334301279589334030174039261347274288845081144962207220498432,107839786668602559178668060348078522694548577690162289924414440996864,6⟩,⟨0,8,215679573337205118357336120696157045389097155380324579848828881993728,5⟩,⟨2048,215679573337205118357336120696157045389097155380324579848828881993728,431359146674410236714672241392314090778194310760649159697657763987456,6⟩,⟨0,8,862718293348820473429344482784628181556388621521298319395315527974912,5⟩,⟨8192,862718293348820473429344482784628181556388621521298319395315527974912,1725436586697640946858688965569256363112777243042596638790631055949824,6⟩,⟨21536,2264635520040653742752029267309648976585520131493408088412703260934144,3450873173395281893717377931138512726225554486085193277581262111899648,0⟩,⟨32800,3454243166728675723691711308024390180059759129138010849141400063180800,6901746346790563787434755862277025452451108972170386555162524223799296,5⟩,⟨131071,6901746346790563787434755862277025452451108972170386555162524223799296,16,5⟩] (.take 0 (.take 1 (.take 2 (.take 3 (.take 4 (.take 6 (.take 7 (.take 8 (.take 9 (.take 11 (.take 12 (.take 13 (.take 14 (.fork (.alt 5 (.fork (.alt 10 (.fork (.alt 15 (.take 16 (.take 17 (.done))) (.nil))) (.nil))) (.alt 10 (.fork (.alt 5 (.fork (.alt 15 (.take 16 (.take 17 (.done))) (.nil))) (.nil))) (.nil))))))))))))))))) (.run [0,1] (.chk 2 (.run [2,3] (.chk 4 (.run [4,6] (.chk 7 (.run [7,8,9,11] (.chk 12 (.run [12,13] (.chk 14 (.run [14] (.both (.chk 5 (.run [10] (.chk 15 (.run [16,17] (.done))))) (.run [10] (.chk 5 (.chk 15 (.run [16,17] (.done))))))))))))))))) ?_;simp only [drsB])|refine nc ?_);simp (maxSteps:=1000000) [hF,hd])
 (repeat' with_reducible refine And.intro ?_ ?_)
 all_goals
  refine (h1).goB [(0,[.d,.f 0])] (by simp (maxSteps:=1000000) [hF,dTs,dL,dTR,dR]) ?_;rintro av X κ ⟨rfl,rfl,rfl⟩;simp (maxSteps:=1000000) [hF,dTs,dL,dTR,dR]
  refine (h2).goB [(1,[.d,.f 1])] (by simp (maxSteps:=1000000) [hF,dTR,dR,e1]) ?_;rintro av X κ ⟨rfl,rfl,rfl⟩;simp (maxSteps:=1000000) [hF,dTR,dR,e1]
  repeat first|refine n1 ?_
  (try refine nr ?_);(repeat first|refine nb_ ?_|refine nl_ ?_);refine endK.o [4] [0,1] [(0,[.d]),(1,[.d])] ?_;simp [hF,retK,covers,mpre,dTs,dL,dTR,dR,linOf]
  exact ⟨_,hT,rfl,rfl,rfl⟩
theorem does_10 {c:Nat} {s:Mt} {r:Rt} (h:MtOk s) (T:TR c s r) (hc:c≤1000) (d:MDeed) (hd:d.op = 10) :
  Meets Tryz.prog 19 [dTs true s,dTR r] (.cons (avB 0 1) (.cons (avMd d) .nil)) (DoesR c s d):=by
 have hN:nameOf d.n d.name = d.nm:=rfl
 have hM:nameOf d.m d.name = d.old:=rfl
 have hdo:doM s d = linOf s (putP s.L d.a d.b).1:=by unfold doM;rw [hd];rfl
 unfold DoesR
 rw [hdo]
 have h1:=prepend_ok h.ok.wf d.a d.b (hBP h.ok d.a d.b)
 have h2:=rPrepend_ok (T.lr.wf h.ok.wf) (by rw [T.lr.len];exact h.pos) d.a d.b (hBPR h.ok T.lr d.a d.b)
 obtain ⟨e1,e2⟩:=T.lr.putP_eq h.ok d.a d.b
 have hT:=(T.lin e2).le (Nat.le_succ c)
 generalize putP s.L d.a d.b = resL at *
 generalize putP r.R d.a d.b = resR at *
 refine fb Tryz.func19 Tryz.ntmps19 [.tmp 4] fun w0 I0 F0 hF=>?_
 repeat first|refine n1 ?_|((first|refine rg 0 [0,1] [2,3] [] ?_|refine rg 1 [2,3] [2,3,5] [] ?_);simp (maxSteps:=1000000) [hF,dTs,dL,dTR,dR])
 refine (name_ok d.n d.name).go [] (by simp (maxSteps:=1000000) [hF,hN]) ?_;rintro av X κ ⟨rfl,rfl,rfl⟩;simp (maxSteps:=1000000) [hF,hN]
 repeat first|refine n1 ?_|((refine rg 2 [2,3,5] [2,3,5,6] [] ?_);simp (maxSteps:=1000000) [hF])
 refine (name_ok d.m d.name).go [] (by simp (maxSteps:=1000000) [hF,hM]) ?_;rintro av X κ ⟨rfl,rfl,rfl⟩;simp (maxSteps:=1000000) [hF,hM]
 repeat first|refine n1 ?_|((refine rg 3 [2,3,5,6] [2,3,5,6,7] [] ?_);simp (maxSteps:=1000000) [hF])
 refine (Lineage_ok true s).go [(0,[])] (by simp (maxSteps:=1000000) [hF,dTs,dL]) ?_;rintro av X κ ⟨rfl,rfl,rfl⟩;simp (maxSteps:=1000000) [hF,dTs,dL]
 repeat first|refine n1 ?_|refine n2 ?_|refine n3 ?_|((first|refine rg 4 [2,3,5,6,7] [2,3,5,6,7,34] [] ?_|refine rg 6 [2,3,5,6,7] [2,3,5,6,7,36] [] ?_|refine rg 7 [2,3,5,6,7,36] [2,3,5,6,7,36,37] [] ?_|refine rg 9 [2,3,5,6,7,36] [2,3,5,6,7,36,60] [] ?_|refine rg 11 [2,3,5,6,7,36] [2,3,5,6,7,36,83] [] ?_|refine rg 13 [2,3,5,6,7,36] [2,3,5,6,7,36,98] [] ?_|refine rg 15 [2,3,5,6,7,36] [2,3,5,6,7,36,113] [] ?_|refine rg 17 [2,3,5,7,36] [2,3,5,7,36,130] [] ?_|refine rg 19 [2,3,7,36] [2,3,7,36,149] [] ?_|refine rg 21 [2,3,7,36] [2,3,7,36,162] [] ?_|refine rg 25 [2,3,7,36] [2,3,7,36,190] [] ?_|refine rg 29 [2,3,7,36] [2,3,7,36,214] [] ?_|refine rg 31 [2,3,7,36] [2,3,7,36,233] [] ?_|(refine drB 32 [2,3] 32800 21652 [2,3,7] [4] [] [⟨0,128,55213970774324510299478046898216203619608871777363092441300193790394368,5⟩,⟨0,8,110427941548649020598956093796432407239217743554726184882600387580788736,5⟩,⟨2,110427941548649020598956093796432407239217743554726184882600387580788736,220855883097298041197912187592864814478435487109452369765200775161577472,6⟩,⟨0,8,441711766194596082395824375185729628956870974218904739530401550323154944,5⟩,⟨8,441711766194596082395824375185729628956870974218904739530401550323154944,883423532389192164791648750371459257913741948437809479060803100646309888,6⟩,⟨21,1159493386260814716289038984862540276011786307324624941267304069598281728,1766847064778384329583297500742918515827483896875618958121606201292619776,0⟩,⟨0,4,3533694129556768659166595001485837031654967793751237916243212402585239552,5⟩,⟨64,3533694129556768659166595001485837031654967793751237916243212402585239552,7067388259113537318333190002971674063309935587502475832486424805170479104,6⟩,⟨128,7067388259113537318333190002971674063309935587502475832486424805170479104,14134776518227074636666380005943348126619871175004951664972849610340958208,5⟩,⟨256,14134776518227074636666380005943348126619871175004951664972849610340958208,28269553036454149273332760011886696253239742350009903329945699220681916416,5⟩,⟨512,28269553036454149273332760011886696253239742350009903329945699220681916416,56539106072908298546665520023773392506479484700019806659891398441363832832,6⟩,⟨0,8,113078212145816597093331040047546785012958969400039613319782796882727665664,5⟩,⟨2048,113078212145816597093331040047546785012958969400039613319782796882727665664,226156424291633194186662080095093570025917938800079226639565593765455331328,6⟩,⟨0,8,452312848583266388373324160190187140051835877600158453279131187530910662656,5⟩,⟨8192,452312848583266388373324160190187140051835877600158453279131187530910662656,904625697166532776746648320380374280103671755200316906558262375061821325312,6⟩,⟨21536,1187321227531074269479975920499241242636069178700415939857719367268640489472,1809251394333065553493296640760748560207343510400633813116524750123642650624,0⟩,⟨32800,1811018241397843937822879938261491478723170994297509432074646356324935270400,3618502788666131106986593281521497120414687020801267626233049500247285301248,5⟩,⟨131071,3618502788666131106986593281521497120414687020801267626233049500247285301248,16,5⟩] (.take 0 (.take 1 (.take 2 (.take 3 (.take 4 (.take 6 (.take 7 (.take 8 (.take 9 (.take 11 (.take 12 (.take 13 (.take 14 (.fork (.alt 5 (.fork (.alt 10 (.fork (.alt 15 (.take 16 (.take 17 (.done))) (.nil))) (.nil))) (.alt 10 (.fork (.alt 5 (.fork (.alt 15 (.take 16 (.take 17 (.done))) (.nil))) (.nil))) (.nil))))))))))))))))) (.run [0,1] (.chk 2 (.run [2,3] (.chk 4 (.run [4,6] (.chk 7 (.run [7,8,9,11] (.chk 12 (.run [12,13] (.chk 14 (.run [14] (.both (.chk 5 (.run [10] (.chk 15 (.run [16,17] (.done))))) (.run [10] (.chk 5 (.chk 15 (.run [16,17] (.done))))))))))))))))) ?_;simp only [drsB])|refine nc ?_);simp (maxSteps:=1000000) [hF,hd])
 (repeat' with_reducible refine And.intro ?_ ?_)
 all_goals
  refine (h1).goB [(0,[.d,.f 0])] (by simp (maxSteps:=1000000) [hF,dTs,dL,dTR,dR]) ?_;rintro av X κ ⟨rfl,rfl,rfl⟩;simp (maxSteps:=1000000) [hF,dTs,dL,dTR,dR]
  refine (h2).goB [(1,[.d,.f 1])] (by simp (maxSteps:=1000000) [hF,dTR,dR,e1]) ?_;rintro av X κ ⟨rfl,rfl,rfl⟩;simp (maxSteps:=1000000) [hF,dTR,dR,e1]
  repeat first|refine n1 ?_
  (try refine nr ?_);(repeat first|refine nb_ ?_|refine nl_ ?_);refine endK.o [4] [0,1] [(0,[.d]),(1,[.d])] ?_;simp [hF,retK,covers,mpre,dTs,dL,dTR,dR,linOf]
  exact ⟨_,hT,rfl,rfl,rfl⟩
theorem does_11 {c:Nat} {s:Mt} {r:Rt} (h:MtOk s) (T:TR c s r) (hc:c≤1000) (d:MDeed) (hd:d.op = 11) :
  Meets Tryz.prog 19 [dTs true s,dTR r] (.cons (avB 0 1) (.cons (avMd d) .nil)) (DoesR c s d):=by
 have hN:nameOf d.n d.name = d.nm:=rfl
 have hM:nameOf d.m d.name = d.old:=rfl
 have hdo:doM s d = linOf s (ownOf s.L d.a).1:=by unfold doM;rw [hd];rfl
 unfold DoesR
 rw [hdo]
 have h1:=own_ok h.ok.ups (rk_le h.ok.wf) d.a
 have h2:=rOwn_ok (T.lr.ups h.ok) (rk_le h.ok.wf) d.a
 obtain ⟨e1,e2⟩:=T.lr.own_eq h.ok h.pos d.a
 have hT:=(T.lin e2).le (Nat.le_succ c)
 generalize ownOf s.L d.a = resL at *
 generalize rownOf r.R d.a = resR at *
 refine fb Tryz.func19 Tryz.ntmps19 [.tmp 4] fun w0 I0 F0 hF=>?_
 repeat first|refine n1 ?_|((first|refine rg 0 [0,1] [2,3] [] ?_|refine rg 1 [2,3] [2,3,5] [] ?_);simp (maxSteps:=1000000) [hF,dTs,dL,dTR,dR])
 refine (name_ok d.n d.name).go [] (by simp (maxSteps:=1000000) [hF,hN]) ?_;rintro av X κ ⟨rfl,rfl,rfl⟩;simp (maxSteps:=1000000) [hF,hN]
 repeat first|refine n1 ?_|((refine rg 2 [2,3,5] [2,3,5,6] [] ?_);simp (maxSteps:=1000000) [hF])
 refine (name_ok d.m d.name).go [] (by simp (maxSteps:=1000000) [hF,hM]) ?_;rintro av X κ ⟨rfl,rfl,rfl⟩;simp (maxSteps:=1000000) [hF,hM]
 repeat first|refine n1 ?_|((refine rg 3 [2,3,5,6] [2,3,5,6,7] [] ?_);simp (maxSteps:=1000000) [hF])
 refine (Lineage_ok true s).go [(0,[])] (by simp (maxSteps:=1000000) [hF,dTs,dL]) ?_;rintro av X κ ⟨rfl,rfl,rfl⟩;simp (maxSteps:=1000000) [hF,dTs,dL]
 repeat first|refine n1 ?_|refine n2 ?_|refine n3 ?_|((first|refine rg 4 [2,3,5,6,7] [2,3,5,6,7,34] [] ?_|refine rg 6 [2,3,5,6,7] [2,3,5,6,7,36] [] ?_|refine rg 7 [2,3,5,6,7,36] [2,3,5,6,7,36,37] [] ?_|refine rg 9 [2,3,5,6,7,36] [2,3,5,6,7,36,60] [] ?_|refine rg 11 [2,3,5,6,7,36] [2,3,5,6,7,36,83] [] ?_|refine rg 13 [2,3,5,6,7,36] [2,3,5,6,7,36,98] [] ?_|refine rg 15 [2,3,5,6,7,36] [2,3,5,6,7,36,113] [] ?_|refine rg 17 [2,3,5,7,36] [2,3,5,7,36,130] [] ?_|refine rg 19 [2,3,7,36] [2,3,7,36,149] [] ?_|refine rg 21 [2,3,7,36] [2,3,7,36,162] [] ?_|refine rg 25 [2,3,7,36] [2,3,7,36,190] [] ?_|refine rg 29 [2,3,7,36] [2,3,7,36,214] [] ?_|refine rg 31 [2,3,7,36] [2,3,7,36,233] [] ?_|refine rg 33 [2,3,7,36] [2,3,7,252] [] ?_|refine rg 34 [2,3,7] [2,3,16,17] [] ?_|refine nc ?_);simp (maxSteps:=1000000) [hF,hd])
 refine (h1).go [(0,[.d,.f 0])] (by simp (maxSteps:=1000000) [hF,dTs,dL]) ?_;rintro av X κ ⟨rfl,rfl,rfl⟩;simp (maxSteps:=1000000) [hF,dTs,dL]
 repeat first|refine n1 ?_|(((refine dr 35 0 [2,3,16,17] [16,17,18,19] [] [⟨0,4,7410693711188236507108543040556026102609279018600996098525285376506440296955904,5⟩,⟨1,7410693711188236507108543040556026102609279018600996098525285376506440296955904,14821387422376473014217086081112052205218558037201992197050570753012880593911808,6⟩,⟨2,14821387422376473014217086081112052205218558037201992197050570753012880593911808,29642774844752946028434172162224104410437116074403984394101141506025761187823616,5⟩,⟨4,29642774844752946028434172162224104410437116074403984394101141506025761187823616,59285549689505892056868344324448208820874232148807968788202283012051522375647232,5⟩,⟨8,59285549689505892056868344324448208820874232148807968788202283012051522375647232,118571099379011784113736688648896417641748464297615937576404566024103044751294464,6⟩,⟨0,8,237142198758023568227473377297792835283496928595231875152809132048206089502588928,5⟩,⟨32,237142198758023568227473377297792835283496928595231875152809132048206089502588928,474284397516047136454946754595585670566993857190463750305618264096412179005177856,6⟩,⟨80,592855496895058920568683443244482088208742321488079687882022830120515223756472320,948568795032094272909893509191171341133987714380927500611236528192824358010355712,0⟩,⟨128,948568795032094272909893509191171341133987714380927500611236528192824358010355712,3705346855594118253554271520278013051304639509300498049262642688253220148477952,5⟩,⟨256,3705346855594118253554271520278013051304639509300498049262642688253220148477952,1897137590064188545819787018382342682267975428761855001222473056385648716020711424,5⟩,⟨256,3705346855594118253554271520278013051304639509300498049262642688253220148477952,3794275180128377091639574036764685364535950857523710002444946112771297432041422848,5⟩,⟨1023,1897137590064188545819787018382342682267975428761855001222473056385648716020711424,262144,5⟩,⟨4095,3794275180128377091639574036764685364535950857523710002444946112771297432041422848,524288,5⟩] (.take 0 (.take 1 (.take 2 (.take 3 (.take 4 (.take 5 (.take 6 (.fork (.alt 7 (.take 8 (.take 9 (.take 10 (.take 11 (.take 12 (.done)))))) (.nil)))))))))) (.run [0,1,2,3,4,5,6,7,8,9,10,11,12] (.done)) ?_;simp only [drs]));simp (maxSteps:=1000000) [hF,dTR,dR])
 refine (h2).go [(1,[.d,.f 1])] (by simp (maxSteps:=1000000) [hF,dTR,dR,e1]) ?_;rintro av X κ ⟨rfl,rfl,rfl⟩;simp (maxSteps:=1000000) [hF,dTR,dR,e1]
 repeat first|refine n1 ?_|((refine rg 36 [16,17,18,19] [4] [(3,275)] ?_);simp (maxSteps:=1000000) [hF])
 (try refine nr ?_);(repeat first|refine nb_ ?_|refine nl_ ?_);refine endK.o [4] [0,1] [(0,[.d]),(1,[.d])] ?_;simp [hF,retK,covers,mpre,dTs,dL,dTR,dR,linOf]
 exact ⟨_,hT,rfl,rfl,rfl⟩
theorem does_no {c:Nat} {s:Mt} {r:Rt} (h:MtOk s) (T:TR c s r) (hc:c≤1000) (d:MDeed) (hd:d.op < 0∨11 < d.op) :
  Meets Tryz.prog 19 [dTs true s,dTR r] (.cons (avB 0 1) (.cons (avMd d) .nil)) (DoesR c s d):=by
 have hN:nameOf d.n d.name = d.nm:=rfl
 have hM:nameOf d.m d.name = d.old:=rfl
 have m0:¬ d.op = 0:=by omega
 have m1:¬ d.op = 1:=by omega
 have m2:¬ d.op = 2:=by omega
 have m3:¬ d.op = 3:=by omega
 have m4:¬ d.op = 4:=by omega
 have m5:¬ d.op = 5:=by omega
 have m6:¬ d.op = 6:=by omega
 have m7:¬ d.op = 7:=by omega
 have m8:¬ d.op = 8:=by omega
 have m9:¬ d.op = 9:=by omega
 have m10:¬ d.op = 10:=by omega
 have m11:¬ d.op = 11:=by omega
 have hdo:doM s d = s:=by unfold doM;simp only [m0,m1,m2,m3,m4,m5,m6,m7,m8,m9,m10,m11,if_false]
 unfold DoesR
 rw [hdo]
 refine fb Tryz.func19 Tryz.ntmps19 [.tmp 4] fun w0 I0 F0 hF=>?_
 repeat first|refine n1 ?_|((first|refine rg 0 [0,1] [2,3] [] ?_|refine rg 1 [2,3] [2,3,5] [] ?_);simp (maxSteps:=1000000) [hF,dTs,dL,dTR,dR])
 refine (name_ok d.n d.name).go [] (by simp (maxSteps:=1000000) [hF,hN]) ?_;rintro av X κ ⟨rfl,rfl,rfl⟩;simp (maxSteps:=1000000) [hF,hN]
 repeat first|refine n1 ?_|((refine rg 2 [2,3,5] [2,3,5,6] [] ?_);simp (maxSteps:=1000000) [hF])
 refine (name_ok d.m d.name).go [] (by simp (maxSteps:=1000000) [hF,hM]) ?_;rintro av X κ ⟨rfl,rfl,rfl⟩;simp (maxSteps:=1000000) [hF,hM]
 repeat first|refine n1 ?_|((refine rg 3 [2,3,5,6] [2,3,5,6,7] [] ?_);simp (maxSteps:=1000000) [hF])
 refine (Lineage_ok true s).go [(0,[])] (by simp (maxSteps:=1000000) [hF,dTs,dL]) ?_;rintro av X κ ⟨rfl,rfl,rfl⟩;simp (maxSteps:=1000000) [hF,dTs,dL]
 repeat first|refine n1 ?_|refine n2 ?_|refine n3 ?_|refine n4 ?_|((first|refine rg 4 [2,3,5,6,7] [2,3,5,6,7,34] [] ?_|refine rg 6 [2,3,5,6,7] [2,3,5,6,7,36] [] ?_|refine rg 7 [2,3,5,6,7,36] [2,3,5,6,7,36,37] [] ?_|refine rg 9 [2,3,5,6,7,36] [2,3,5,6,7,36,60] [] ?_|refine rg 11 [2,3,5,6,7,36] [2,3,5,6,7,36,83] [] ?_|refine rg 13 [2,3,5,6,7,36] [2,3,5,6,7,36,98] [] ?_|refine rg 15 [2,3,5,6,7,36] [2,3,5,6,7,36,113] [] ?_|refine rg 17 [2,3,5,7,36] [2,3,5,7,36,130] [] ?_|refine rg 19 [2,3,7,36] [2,3,7,36,149] [] ?_|refine rg 21 [2,3,7,36] [2,3,7,36,162] [] ?_|refine rg 25 [2,3,7,36] [2,3,7,36,190] [] ?_|refine rg 29 [2,3,7,36] [2,3,7,36,214] [] ?_|refine rg 31 [2,3,7,36] [2,3,7,36,233] [] ?_|refine rg 33 [2,3,7,36] [2,3,7,252] [] ?_|refine rg 37 [] [4] [] ?_|refine nc ?_);simp (maxSteps:=1000000) [hF,m0,m1,m2,m3,m4,m5,m6,m7,m8,m9,m10,m11])
 (try refine nr ?_);(repeat first|refine nb_ ?_|refine nl_ ?_);refine endK.o [4] [0,1] [(0,[.d]),(1,[.d])] ?_;simp [hF,retK,covers,mpre,dTs,dL,dTR,dR]
 exact ⟨r,T.le (Nat.le_succ c),rfl,rfl,rfl⟩
theorem does_ok {c:Nat} {s:Mt} {r:Rt} (h:MtOk s) (T:TR c s r) (hc:c≤1000) (d:MDeed) :
  Meets Tryz.prog 19 [dTs true s,dTR r] (.cons (avB 0 1) (.cons (avMd d) .nil)) (DoesR c s d):=by
 rcases (by omega:d.op = 0∨d.op = 1∨d.op = 2∨d.op = 3∨d.op = 4∨d.op = 5∨d.op = 6∨d.op = 7∨d.op = 8∨d.op = 9∨d.op = 10∨d.op = 11∨(d.op < 0∨11 < d.op)) with e | e | e | e | e | e | e | e | e | e | e | e | e
 ·exact does_0 h T hc d e
 ·exact does_1 h T hc d e
 ·exact does_2 h T hc d e
 ·exact does_3 h T hc d e
 ·exact does_4 h T hc d e
 ·exact does_5 h T hc d e
 ·exact does_6 h T hc d e
 ·exact does_7 h T hc d e
 ·exact does_8 h T hc d e
 ·exact does_9 h T hc d e
 ·exact does_10 h T hc d e
 ·exact does_11 h T hc d e
 ·exact does_no h T hc d e
def dMd (d:MDeed):D:=.agg (.cons (.val (.int .i64 d.op)) (.cons (.val (.int .i64 d.a)) (.cons (.val (.int .i64 d.b)) (.cons (.val (.int .i64 d.c)) (.cons (.val (.int .i64 d.d)) (.cons (.val (.int .i64 d.n)) (.cons (.val (.int .i64 d.m)) (.cons (.val (.string d.name)) .nil))))))))
def dMds (l:List MDeed):D:=sq (l.map dMd)
@[simp] theorem width_dMd (d:MDeed):(dMd d).width = 8:=rfl
@[simp] theorem dMds_len (l:List MDeed):(dMds l).len = l.length:=by simp [dMds]
theorem dMds_nth {l:List MDeed} {i:Nat} (h:i < l.length):(dMds l).nth i = dMd l[i]:=by rw [dMds,sq_nth_lt (by simpa using h)];simp
@[simp] theorem dMds_free (l:List MDeed):(dMds l).free = true:=sq_free fun x hx=>by obtain ⟨n,_,rfl⟩:=List.mem_map.1 hx;rfl
def dJJ:D:=.box true () (.agg (.cons (.junk ()) (.cons (.junk ()) .nil)))
@[simp high] theorem head_dJJ:isHead dJJ = true:=by rw [dJJ,isHead]
def PlayedR (l:List MDeed) (av:AV) (X:List D) (κ:List (Nat×Path)):Prop :=
 ∃ r,TR 100 (playM (l.take 60)) r∧av = .tup (.cons (avBo 0) (.cons (avBool true) .nil))∧X = [dBo (playM (l.take 60)) r]∧κ = []
theorem played_ok (l:List MDeed) (ex:Bool):Meets Tryz.prog 8 [] (.cons (.imm 8 (dMds l) ex) .nil) (PlayedR l):=by
 unfold PlayedR
 refine fb Tryz.func8 Tryz.ntmps8 [.cell 2 26,.tmp 3] fun w0 I0 F0 hF=>?_
 repeat first|refine n1 ?_|((first|refine rg 0 [0] [0,2] [] ?_|refine rg 1 [0,2] [0,2,4,5] [] ?_);simp (maxSteps:=1000000) [hF])
 refine (begun_ok).go [] (by simp (maxSteps:=1000000) [hF]) ?_;rintro av X κ ⟨rfl,rfl,rfl⟩;simp (maxSteps:=1000000) [hF]
 repeat first|refine n1 ?_|refine n3 ?_|((refine rg 2 [0,2,4,5] [0,2,4,5,6] [] ?_);simp (maxSteps:=1000000) [hF])
 refine ghostL 1 [.d,.f 0] ?_;simp (maxSteps:=1000000) [hF,St.lift,AV.lift,liftPl,stripP,nodeAV,isNode,dBo,dTs]
 refine ghostL 1 [.d,.f 1] ?_;simp (maxSteps:=1000000) [hF,St.lift,AV.lift,liftPl,stripP,nodeAV,isNode,dBo,dTR]
 refine VS.pick [0,2,4,5,6] [0,2,3,4] (by simp [hF]) ?_;simp [hF]
 refine VS.rounds (fun m st=>∃ (i:Nat) (s:Mt) (r:Rt),i + m = 60∧i≤l.length∧s = playM (l.take i)∧MtOk s∧TR i s r ∧
  st = ⟨[(0,.imm 8 (dMds l) ex),(2,.ptr 0 [.d]),(4,.ptr 1 [.d]),(5,avBool true),(6,avInt i)],[.box true () (.agg (.cons (.val (.pointer none)) (.cons (.val (.pointer none)) .nil))),dJJ,dTs true s,dTR r],
   [],[(1,[.d,.f 0],.ptr 2 [.d]),(1,[.d,.f 1],.ptr 3 [.d])]⟩) ⟨60,0,s0,r0,by omega,by omega,rfl,s0_ok,TR0,by simp [dJJ,dTs,dTR]⟩ ?_
 rintro m st ⟨i,s,r,hi,hil,hs,hok,T,rfl⟩
 by_cases hlt:i < l.length
 ·have hn:=dMds_nth hlt
  have htk:l.take (i + 1) = l.take i ++ [l[i]]:=List.take_succ_eq_append_getElem hlt
  by_cases h60:i < 60
  ·have h60':(i:Int) < 60:=by omega
   have hdo:=does_ok hok T (by omega) l[i]
   have hs2:doM s l[i] = playM (l.take (i + 1)):=by rw [htk,playM_snoc,hs]
   have hok2:=doM_ok hok l[i]
   unfold DoesR at hdo
   generalize doM s l[i] = s2 at *
   generalize l[i] = d at *
   repeat first|refine n1 ?_|refine n2 ?_|refine n3 ?_|((first|refine rg 3 [0,2,4,5,6] [0,2,4,5,6,21] [(4,15),(8,19)] ?_|(refine dr 5 0 [0,2,4,6] [0,2,4,5,6] [] [⟨0,16,16777216,6⟩,⟨0,1,33554432,5⟩,⟨0,64,67108864,5⟩,⟨6,100663296,134217728,5⟩,⟨8,134217728,268435456,6⟩,⟨17,285212672,536870912,0⟩,⟨63,536870912,32,5⟩] (.take 0 (.take 1 (.take 2 (.take 3 (.take 4 (.fork (.alt 5 (.take 6 (.done)) (.nil)))))))) (.run [0,1,2,3,4,5,6] (.done)) ?_;simp only [drs])|refine nc ?_);simp (maxSteps:=1000000) [hF,hlt,h60',hn,dMd,dJJ])
   refine (hdo).go [(2,[]),(3,[])] (by simp (maxSteps:=1000000) [hF,dJJ,dTs,dTR]) ?_;rintro av X κ ⟨r2,hT2,rfl,rfl,rfl⟩;simp (maxSteps:=1000000) [hF,dJJ,dTs,dTR]
   repeat first|refine n4 ?_|refine n5 ?_|refine n6 ?_|((refine rg 4 [0,2,4,5,6] [0,2,4,5,6] [] ?_);simp (maxSteps:=1000000) [hF])
   refine nextK.of [0,2,4,5,6] [0,1,2,3] (m - 1) (by omega) (by simp [hF]) ?_
   refine ⟨i + 1,s2,r2,by omega,by omega,hs2,hok2,hT2,?_⟩
   simp [dJJ,dTs,dTR]
   exact IntWalk.i64_in _ (by omega)
  ·have h60':¬ (i:Int) < 60:=by omega
   have hfin:l.take 60 = l.take i:=by rw [show i = 60 by omega]
   rw [hfin,←hs]
   repeat first|refine n1 ?_|refine n7 ?_|((first|refine rg 3 [0,2,4,5,6] [0,2,4,5,6,21] [(4,15),(8,19)] ?_|refine rg 6 [2,4,5] [2,3] [] ?_|refine nc ?_);simp (maxSteps:=1000000) [hF,hlt,h60',dJJ,dTs,dTR])
   (try refine nr ?_);(repeat first|refine nb_ ?_|refine nl_ ?_);refine endK.o [2,3] [0] [] ?_;simp [hF,retK,covers,mpre,dBo,dTs,dTR]
   exact ⟨r,T.le (by omega),rfl,rfl,rfl⟩
 ·have hfin:l.take 60 = l.take i:=by rw [List.take_of_length_le (by omega),List.take_of_length_le (by omega)]
  rw [hfin,←hs]
  repeat first|refine n1 ?_|refine n7 ?_|((first|refine rg 3 [0,2,4,5,6] [0,2,4,5,6,21] [(4,15),(8,19)] ?_|refine rg 6 [2,4,5] [2,3] [] ?_|refine nc ?_);simp (maxSteps:=1000000) [hF,hlt,dJJ,dTs,dTR])
  (try refine nr ?_);(repeat first|refine nb_ ?_|refine nl_ ?_);refine endK.o [2,3] [0] [] ?_;simp [hF,retK,covers,mpre,dBo,dTs,dTR]
  exact ⟨r,T.le (by omega),rfl,rfl,rfl⟩
end Go.Proofs.YtbhigdljojlhnaaGreat

/- What was found is asked to be the same. -/
namespace Go.Proofs.YtbhigdljojlhnaaGreat
set_option linter.all false
open Go Go.Vc Go.Proofs
set_option maxHeartbeats 4000000
set_option maxRecDepth 100000
theorem rl_ent {h:Array Obj} {I:Nat→Prop} {F:List G} {e:En} {xs:List Value} (H:Rl h I F (.cons (avInt e.body) (.cons (avInt e.vis) (.cons (avInt e.home) (.cons (.val (.string e.known)) .nil)))) false xs) :
  xs = [.int .i64 e.body,.int .i64 e.vis,.int .i64 e.home,.string e.known]:=by
 obtain ⟨_,_,rfl,⟨rfl,_⟩,_,_,rfl,⟨rfl,_⟩,_,_,rfl,⟨rfl,_⟩,_,_,rfl,⟨rfl,_⟩,rfl⟩:=H
 rfl
theorem rl_fo {h:Array Obj} {I:Nat→Prop} {F:List G} {f:Fo} {xs:List Value} (H:Rl h I F (.cons (avEnt f.e) (.cons (avInt f.th) (.cons (avInt f.md) .nil))) false xs) :
  xs = [.int .i64 f.e.body,.int .i64 f.e.vis,.int .i64 f.e.home,.string f.e.known,.int .i64 f.th,.int .i64 f.md]:=by
 obtain ⟨v1,_,rfl,h1,_,_,rfl,⟨rfl,_⟩,_,_,rfl,⟨rfl,_⟩,rfl⟩:=H
 rw [rl_ent h1];rfl
theorem eqFo {op:BinOp} {f:Fo} {K:AV→Prop} (h:eqVc op true K) :
  EqK Tryz.prog 43 op (.cons (avEnt f.e) (.cons (avInt f.th) (.cons (avInt f.md) .nil))) (.cons (avEnt f.e) (.cons (avInt f.th) (.cons (avInt f.md) .nil))) K:=by
 refine ⟨_,⟨Tryz.eqGuardType43,fun h I F xs ys w h1 h2=>?_⟩,h⟩
 rw [rl_fo h1,rl_fo h2]
 have key:∀ d,(Op.equalIn (d + 3) 43 (.agg #[.int .i64 f.e.body,.int .i64 f.e.vis,.int .i64 f.e.home,.string f.e.known,.int .i64 f.th,.int .i64 f.md]) (.agg #[.int .i64 f.e.body,.int .i64 f.e.vis,.int .i64 f.e.home,.string f.e.known,.int .i64 f.th,.int .i64 f.md])).run Tryz.prog w = .ok true w:=fun d=>by
  simp [Op.equalIn,run_underlying Tryz.underlying43,run_underlying Tryz.underlying41,run_underlying Tryz.underlying3,run_underlying Tryz.underlying9,Tryz.stoodInHeld41,Tryz.stoodInHeld43,part,beqBytes]
 exact key 9997
end Go.Proofs.YtbhigdljojlhnaaGreat

/- The arguments of the laws: numbers, deeds, questions. -/
namespace Go.Proofs.YtbhigdljojlhnaaGreat
set_option linter.all false
open Go.Vc Go.Proofs Go
set_option maxRecDepth 100000
abbrev isI (d:D):Prop:=∃ n,d = .val (.int .i64 n)
theorem reads_md:Reads Tryz.prog 55 8 fun d=>∃ x,d = dMd x:=by
 have h:=reads_struct (gs:=[(1,isI),(1,isI),(1,isI),(1,isI),(1,isI),(1,isI),(1,isI),(1,fun d=>∃ n,d = .val (.string n))]) Tryz.underlying55
  ⟨reads_int Tryz.underlying3,by kernel_rfl,rfl,reads_int Tryz.underlying3,by kernel_rfl,rfl,reads_int Tryz.underlying3,by kernel_rfl,rfl,reads_int Tryz.underlying3,by kernel_rfl,rfl,reads_int Tryz.underlying3,by kernel_rfl,rfl,reads_int Tryz.underlying3,by kernel_rfl,rfl,
   reads_int Tryz.underlying3,by kernel_rfl,rfl,reads_str Tryz.underlying9,by kernel_rfl,rfl,trivial⟩ (by kernel_rfl)
 refine fun H enc w fuel cs x hx=>?_
 obtain ⟨g,h1,h2,h3,h4,s,h5,a1,t1,rfl,⟨n1,rfl⟩,a2,t2,rfl,⟨n2,rfl⟩,a3,t3,rfl,⟨n3,rfl⟩,a4,t4,rfl,⟨n4,rfl⟩,a5,t5,rfl,⟨n5,rfl⟩,a6,t6,rfl,⟨n6,rfl⟩,a7,t7,rfl,⟨n7,rfl⟩,a8,t8,rfl,⟨s8,rfl⟩,rfl⟩:=h H enc w fuel cs x hx
 exact ⟨g,h1,h2,h3,h4,⟨n1,n2,n3,n4,n5,n6,n7,s8⟩,h5⟩
section
variable {H:Type} {enc:TypeId×Value→H} {w:World} {r:Go.Reach} {b0:Nat} {v:Value} {d:DataW H} {ps:List MemPlace}
theorem deeds_of (hv:Value.okWide Tryz.prog w r b0 22 v) (h:DataW.Trod enc Tryz.prog w 0 (fun _=>true) true 22 v d ps) :
  ∃ l:List MDeed,l.length≤2 ^ 63 - 1∧Rl w.heap (allB w) [] (.imm 8 (dMds l) false) true [v]:=by
 obtain ⟨l,h1,h2,h3⟩:=imm_of_trod (z:=8) Tryz.underlying22 reads_md (by kernel_rfl) (by omega) hv h
 obtain ⟨ys,rfl⟩:=map_of h1
 exact ⟨ys,by simpa using h2,h3⟩
end
end Go.Proofs.YtbhigdljojlhnaaGreat
