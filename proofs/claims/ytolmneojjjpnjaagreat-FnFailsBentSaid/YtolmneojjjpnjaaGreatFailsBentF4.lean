/- Functions of the program, and what they come to. -/
import Derived.Test.YtolmneojjjpnjaaGreatFailsBentF3
import Derived.Shelf.SlLaysM
import Derived.Shelf.SlLaysN
import Derived.Shelf.SlicesG.CompactI
import Derived.Shelf.SortM.Plain
namespace Go.Tf
noncomputable section
open Go.Proofs Go.Proofs.Tryz IntKind
set_option synthInstance.maxHeartbeats 400000
set_option synthInstance.maxSize 10000
set_option linter.unusedVariables false
set_option linter.unusedSimpArgs false
set_option maxRecDepth 100000
def yJ9:Code:=(f193.body).getD .skip
def yKx:Env:=zkw TT [(127,yhD),(133,ydf),(156,yj9),(158,yeD),(186,ysh),(222,yka)] []
theorem yDp:FrOk prog ⟨yKx,51,fun _=>none⟩ yJ9:=zkA mixed yd ⟨ynt,ygM,yss,yiB,yB7,yyH,trivial⟩
abbrev yjK:List Par:= [.rd tM,.rd tI,.rd tL]
abbrev ypA:List OT:= [⟨false,tM,(.pr (.ow (.ow .fz)) (.pr (.ow (.pr .fz (.ow .fz))) (.pr .fz (.ow .fz))))⟩,⟨false,tB,.fz⟩]
def ymC (a0:dM) (a1:Int) (a2:List Int):Option (zaY ypA×zak yjK) :=let r1:=yB a0;let r2:=yaQ a0;bif(!(!r2))then bif(!a0.2.2.1)then let r3:=yaT a0 a1;bif(!(!r3))then let r4:=yfr a2;bif(!(!r4))then bif((a0.2.1.length:Int)==60)then some ((r1,false,()),()) else let r5:=yv a2;bif(zkl r1.2.1.length ([(a1,r5)]:List dW).length 32)then let r6:=ya9 r1.2.2.2 a1;some (((r1.1,(r1.2.1++([(a1,r5)]:List dW)),r1.2.2.1,r6),true,()),()) else none else some ((r1,false,()),()) else some ((r1,false,()),()) else some ((r1,false,()),()) else some ((r1,false,()),())
theorem yGj:ConOk prog 193 ⟨yjK,ypA,fun x=>ymC x.1 x.2.1 x.2.2.1⟩:=zkI (yDp) func193 ntmps193.symm fun x=>by kernel_rfl
def ygG (a0:dM) (a1:Int) (a2:List Int):dM×Bool:=yd9 a0 a1 a2
theorem yIR (a0:dM) (a1:Int) (a2:List Int) (hk:zjx yjK (a0,a1,a2,())):ymC a0 a1 a2=(fun n=>some ((n.1,n.2,()),())) (ygG a0 a1 a2):=by
 have hb1:a0.1.length*24≤2^47:=hk.1.1.1;unfold ymC ygG yd9 ysg;simp only[yB,yaQ,yaT,yaa,ygB (show a0.1.length≤1152921504606846976 by omega),yAG,yv,ya9];cases hm:yq a0
 ·rfl
 have hc:=(yak hm).2.2.2.2.2;cases a0.2.2.1
 ·cases inb a1 a0.1.length
  ·rfl
  cases yO a2
  ·rfl
  by_cases h:(a0.2.1.length:Int)<60
  ·rw[zky h,show((a0.2.1.length:Int)==60)=false from beq_eq_false_iff_ne.2 (by omega),zkF.2 (show(a0.2.1.length+ [(a1,a2)].length)*32≤140737488355328 by simp only[List.length_cons,List.length_nil]; omega)]; rfl
  ·rw[zk3 (by omega),show((a0.2.1.length:Int)==60)=true from beq_iff_eq.2 (by omega)]; rfl
 ·rfl
def yvK:Con:=⟨yjK,ypA,fun x=>(fun n=>some ((n.1,n.2,()),())) (ygG x.1 x.2.1 x.2.2.1)⟩
theorem yJF:ConOk prog 193 yvK:=(yGj).mono (fun x r hk h=>(yIR x.1 x.2.1 x.2.2.1 hk).trans h)
def yGV:Code:=(f139.body).getD .skip
def yG8:Env:=zkw TT [(192,ypS),(193,yvK)] []
theorem yCm:FrOk prog ⟨yG8,39,fun _=>none⟩ yGV:=zkA mixed yd ⟨yBi,yJF,trivial⟩
abbrev yeZ:List Par:= [.pt tA (.pr .fz (.pr (.pr .fz .fz) (.pr (.ow (.pr (.ow (.ow .fz)) (.pr (.ow (.pr .fz (.ow .fz))) (.pr .fz (.ow .fz))))) (.pr .fz (.pr .fz (.pr .fz (.pr .fz (.pr .fz (.pr (.ow (.pr .fz (.ow .fz))) (.pr .fz (.pr .fz .fz))))))))))),.rd tI,.rd tI,.rd tL]
abbrev yih:List OT:= [⟨false,tB,.fz⟩]
def yk3 (a0:dA) (a1 a2:Int) (a3:List Int):Option (zaY yih×zak yeZ) :=bif(inb a1 a0.2.2.1.length)then bif(((nth a0.2.2.1 a1 ([],[],false,[])).2).2).1 then some ((true,()),(a0,())) else let r1:=yfL a0;bif(!r1.1)then some ((false,()),(r1.2,())) else bif(inb a1 r1.2.2.2.1.length)then let r2:=ygG ((nth r1.2.2.2.1 a1 ([],[],false,[])).1,((nth r1.2.2.2.1 a1 ([],[],false,[])).2).1,(((nth r1.2.2.2.1 a1 ([],[],false,[])).2).2)) a2 a3;bif(inb a1 r1.2.2.2.1.length)then some ((true,()),((r1.2.1,r1.2.2.1,(r1.2.2.2.1.set (a1).toNat r2.1),r1.2.2.2.2),())) else none else none else none
theorem yEf:ConOk prog 139 ⟨yeZ,yih,fun x=>yk3 x.1 x.2.1 x.2.2.1 x.2.2.2.1⟩:=zkI (yCm) func139 ntmps139.symm fun x=>by kernel_rfl
def yfq (a0:dA) (a1 a2:Int) (a3:List Int):Bool×dA:=(!(yi (ydi a0 a1 a2 a3)),ydi a0 a1 a2 a3)
def yfw (a0:dA) (a1 a2:Int) (a3:List Int):Bool:=inb a1 a0.2.2.1.length&& !(yi a0)
theorem yGa (a0:dA) (a1 a2:Int) (a3:List Int) (hk:zjx yeZ (a0,a1,a2,a3,())) (hq:yfw a0 a1 a2 a3=true):yk3 a0 a1 a2 a3=(fun n=>some ((n.1,()),(n.2,()))) (yfq a0 a1 a2 a3):=by
 simp only[yfw,Bool.and_eq_true,Bool.not_eq_true']at hq;unfold yk3 yfq;simp only[yTS hq.2];unfold ydi yh7;simp only[yLI hq.2,yan,hq.1,zkX,ygG];cases(nth a0.2.2.1 a1 yc).2.2.1<;>cases(yV a0).1<;>rfl
def yiA (a0:dA) (a1 a2:Int) (a3:List Int):Option (zaY yih×zak yeZ):=bif yfw a0 a1 a2 a3 then(fun n=>some ((n.1,()),(n.2,()))) (yfq a0 a1 a2 a3)else none
theorem yGC (a0:dA) (a1 a2:Int) (a3:List Int) (h:yfw a0 a1 a2 a3=true):yiA a0 a1 a2 a3=(fun n=>some ((n.1,()),(n.2,()))) (yfq a0 a1 a2 a3):=by unfold yiA; rw[h]; rfl
def ys8:Con:=⟨yeZ,yih,fun x=>yiA x.1 x.2.1 x.2.2.1 x.2.2.2.1⟩
theorem yGz:ConOk prog 139 ys8:=(yEf).mono (fun x r hk h=>zkY h (fun hq=>yGa x.1 x.2.1 x.2.2.1 x.2.2.2.1 hk hq))
def yjz:Code:=(f205.body).getD .skip
def yoZ:Env:=zkw TT [(127,yhD),(133,ydf),(158,yeD)] []
theorem yDl:FrOk prog ⟨yoZ,34,fun _=>none⟩ yjz:=zkA mixed yd ⟨ynt,ygM,yiB,trivial⟩
def yvj:Nat→Option Seg:=fun _=>none
def yaK:Shape:=⟨[(2,false,[.ptr 64 0]),(3,false,[.ptr 4224 0]),(17,false,[.br tW]),(18,false,[.int .i64]),(19,false,[.int .i64])],[(64,[.nil,.nil,.bool,.nil]),(4224,[.at 800000000,.at 800000001,.bool,.at 800000002])],[(800000000,tL,(.ow .fz)),(800000001,tW,(.pr .fz (.ow .fz))),(800000002,tI,.fz)]⟩
def ydA:Shape:=⟨[(2,false,[.ptr 64 0]),(3,false,[.ptr 4224 0]),(17,false,[.br tW]),(18,false,[.int .i64]),(19,false,[.ci .i64 0])],[(64,[.nil,.nil,.bool,.nil]),(4224,[.at 800000000,.at 800000001,.bool,.at 800000002])],[(800000000,tL,(.ow .fz)),(800000001,tW,(.pr .fz (.ow .fz))),(800000002,tI,.fz)]⟩
def yds:Shape:=⟨[(2,false,[.ptr 64 0]),(3,false,[.ptr 4224 0])],[(64,[.nil,.nil,.bool,.nil]),(4224,[.at 800000000,.at 800000001,.bool,.at 800000002])],[(800000000,tL,(.ow .fz)),(800000001,tW,(.pr .fz (.ow .fz))),(800000002,tI,.fz)]⟩
def ygo:Shape:=⟨[],[],[]⟩
abbrev yjg (v0:List dW) (v1 v2:Int) (v3 v4:dM):(yaK).X:=((((),()),((),()),(v0,()),(v1,()),(v2,()),()),(((),(),v3.2.2.1,(),()),((),(),v4.2.2.1,(),()),()),(v4.1,v4.2.1,v4.2.2.2,()))
abbrev yCx (v0:List dW) (v1:Int) (v2 v3:dM):(ydA).X:=((((),()),((),()),(v0,()),(v1,()),((),()),()),(((),(),v2.2.2.1,(),()),((),(),v3.2.2.1,(),()),()),(v3.1,v3.2.1,v3.2.2.2,()))
abbrev yrg (v0 v1:dM):(yds).X:=((((),()),((),()),()),(((),(),v0.2.2.1,(),()),((),(),v1.2.2.1,(),()),()),(v1.1,v1.2.1,v1.2.2.2,()))
def yjr (v0:List dW) (v1 v2:Int) (v3 v4:Bool) (v5:List (List Int)) (v6:List dW) (v7:List Int):Option ((yaK).X ⊕ ((yds).X ⊕ (ygo).X)) :=bif(ltb v2 v1)then bif(inb v2 v0.length)then let r4:=yv ((nth v0 v2 (0,[])).2);bif(inb ((nth v0 v2 (0,[])).1) v5.length)then some (.inl ((((),()),((),()),(v0,()),(v1,()),((i64.wrap (v2+1)),()),()),(((),(),v3,(),()),((),(),v4,(),()),()),((v5.set ((nth v0 v2 (0,[])).1).toNat r4),v6,v7,()))) else none else none else some (.inr (.inl ((((),()),((),()),()),(((),(),v3,(),()),((),(),v4,(),()),()),(v5,v6,v7,()))))
def ya3 (x:(yaK).X):=yjr x.1.2.2.1.1 x.1.2.2.2.1.1 x.1.2.2.2.2.1.1 x.2.1.1.2.2.1 x.2.1.2.1.2.2.1 x.2.2.1 x.2.2.2.1 x.2.2.2.2.1
def yq0 (x:(ydA).X):(yaK).X:=((((),()),((),()),(x.1.2.2.1.1,()),(x.1.2.2.2.1.1,()),(0,()),()),(((),(),x.2.1.1.2.2.1,(),()),((),(),x.2.1.2.1.2.2.1,(),()),()),(x.2.2.1,x.2.2.2.1,x.2.2.2.2.1,()))
def ys1:Code:=(zd7 yjz 64 244).getD .skip
theorem yC1:zd7 yjz 64 61=some (.block 0 (.loop ys1)):=by kernel_rfl
theorem yEs (x:(yaK).X):zhu ⟨yoZ,34,yvj⟩ 0 ys1 244 yaK yds ygo x=ya3 x:=by kernel_rfl
def yq9 (x:(ydA).X):Nat:=18446744073709551616
def yks (x:(ydA).X):Option ((yds).X ⊕ (ygo).X):=zF ya3 (yq9 x) (yq0 x)
def yrn:Seg:=⟨ydA,yds,ygo,yks⟩
def yEO:Nat→Option Seg:=fun q=>bif Nat.beq q 61 then some yrn else yvj q
theorem yDm:FrOk prog ⟨yoZ,34,yEO⟩ yjz:=(yDl).loop (sg:=yrn) yaK yq0 (by decide) yC1 ya3 yq9 (by decide) (fun _=>rfl) (fun x r _ h=>h) yEs
abbrev yjI:List Par:= [.rd tM]
abbrev ypx:List OT:= [⟨false,tM,(.pr (.ow (.ow .fz)) (.pr (.ow (.pr .fz (.ow .fz))) (.pr .fz (.ow .fz))))⟩]
def ymA (a0:dM):Option (zaY ypx×zak yjI) :=let r1:=yB a0;let r2:=yaQ a0;bif(!(!r2))then bif a0.2.2.1 then some ((r1,()),()) else zkt (yks ((((),()),((),()),(a0.2.1,()),((a0.2.1.length:Int),()),((),()),()),(((),(),false,(),()),((),(),r1.2.2.1,(),()),()),(r1.1,r1.2.1,r1.2.2.2,()))) (fun y4 =>some (((y4.2.2.1,[],y4.2.1.2.1.2.2.1,y4.2.2.2.2.1),()),())) (fun y4 =>none) else some ((r1,()),())
theorem yGg:ConOk prog 205 ⟨yjI,ypx,fun x=>ymA x.1⟩:=zkI (yDm) func205 ntmps205.symm fun x=>by kernel_rfl
def ygD (a0:dM):dM:=ydg a0
theorem yIO (a0:dM) (hk:zjx yjI (a0,())):ymA a0=(fun n=>some ((n,()),())) (ygD a0):=by
 have hb2:a0.2.1.length*32≤2^47:=hk.1.2.1.1;unfold ymA ygD ydg;simp only[yB,yaQ];cases hm:yq a0
 ·rfl
 have h1:yks (yCx a0.2.1 a0.2.1.length yc a0)=some (.inl (yrg yc (yhI (fun _=>true) a0.2.1 a0.1,a0.2))) :=
  zkD (step:=ya3) a0.2.1.length (fun i s=>yjg a0.2.1 a0.2.1.length i yc (s,a0.2)) (yqe (fun _=>true) a0.2.1) (fun i s=>s.length=a0.1.length) (fun s=> .inl (yrg yc (s,a0.2))) (fun i s hi hs=>by
   have hw:=(yR2 hm hi).1;refine⟨?_,yBM.trans hs⟩
   simp only[ya3,yjg,yjr,zky (show(i:Int)<a0.2.1.length by omega),cond_true,wq ((i:Int)+1) (by omega) (by omega),Int.natCast_add,Int.natCast_one,Int.toNat_natCast,zkR hi,hs,hw,yqe,yv]) (fun s hs=>by simp only[ya3,yjg,yjr,zk3 (Int.le_refl _),cond_false]) a0.1 rfl _ (by show _<18446744073709551616; omega)
 rw[h1];cases hf:a0.2.2.1
 ·exact congrArg (fun z=>some (((yhI (fun _=>true) a0.2.1 a0.1,([]:List dW),z,a0.2.2.2),()),())) hf
 ·rfl
def yvH:Con:=⟨yjI,ypx,fun x=>(fun n=>some ((n,()),())) (ygD x.1)⟩
theorem yJC:ConOk prog 205 yvH:=(yGg).mono (fun x r hk h=>(yIO x.1 hk).trans h)
def yjy:Code:=(f165.body).getD .skip
def yoY:Env:=zkw TT [(192,ypS),(205,yvH)] []
theorem yDi:FrOk prog ⟨yoY,38,fun _=>none⟩ yjy:=zkA mixed yd ⟨yBi,yJC,trivial⟩
def yvi:Nat→Option Seg:=fun _=>none
def yaJ:Shape:=⟨[(0,false,[.ptr 1000000000 0]),(8,false,[.int .i64]),(9,false,[.int .i64])],[(1000000000,[.int .i64,.int .i64,.int .i64,.at 800000000,.int .i64,.int .i64,.int .i64,.int .i64,.int .i64,.at 800000001,.int .i64,.bool,.bool])],[(800000000,tM,(.pr (.ow (.ow .fz)) (.pr (.ow (.pr .fz (.ow .fz))) (.pr .fz (.ow .fz))))),(800000001,tW,(.pr .fz (.ow .fz)))]⟩
def ydz:Shape:=⟨[(0,false,[.ptr 1000000000 0]),(8,false,[.int .i64]),(9,false,[.ci .i64 0])],[(1000000000,[.int .i64,.int .i64,.int .i64,.at 800000000,.int .i64,.int .i64,.int .i64,.int .i64,.int .i64,.at 800000001,.int .i64,.bool,.bool])],[(800000000,tM,(.pr (.ow (.ow .fz)) (.pr (.ow (.pr .fz (.ow .fz))) (.pr .fz (.ow .fz))))),(800000001,tW,(.pr .fz (.ow .fz)))]⟩
def ydr:Shape:=⟨[],[(1000000000,[.int .i64,.int .i64,.int .i64,.at 800000000,.int .i64,.int .i64,.int .i64,.int .i64,.int .i64,.at 800000001,.int .i64,.bool,.bool])],[(800000000,tM,(.pr (.ow (.ow .fz)) (.pr (.ow (.pr .fz (.ow .fz))) (.pr .fz (.ow .fz))))),(800000001,tW,(.pr .fz (.ow .fz)))]⟩
def ydH:Shape:=⟨[(2,false,[.bool])],[(1000000000,[.int .i64,.int .i64,.int .i64,.at 800000000,.int .i64,.int .i64,.int .i64,.int .i64,.int .i64,.at 800000001,.int .i64,.bool,.bool])],[(800000000,tM,(.pr (.ow (.ow .fz)) (.pr (.ow (.pr .fz (.ow .fz))) (.pr .fz (.ow .fz))))),(800000001,tW,(.pr .fz (.ow .fz)))]⟩
abbrev yfE (v0 v1:Int) (v2:dA):(yaJ).X:=((((),()),(v0,()),(v1,()),()),((v2.1,v2.2.1.1,v2.2.1.2,(),v2.2.2.2.1,v2.2.2.2.2.1,v2.2.2.2.2.2.1,v2.2.2.2.2.2.2.1,v2.2.2.2.2.2.2.2.1,(),v2.2.2.2.2.2.2.2.2.2.1,v2.2.2.2.2.2.2.2.2.2.2.1,v2.2.2.2.2.2.2.2.2.2.2.2,()),()),(v2.2.2.1,v2.2.2.2.2.2.2.2.2.1,()))
abbrev yCw (v0:Int) (v1:dA):(ydz).X:=((((),()),(v0,()),((),()),()),((v1.1,v1.2.1.1,v1.2.1.2,(),v1.2.2.2.1,v1.2.2.2.2.1,v1.2.2.2.2.2.1,v1.2.2.2.2.2.2.1,v1.2.2.2.2.2.2.2.1,(),v1.2.2.2.2.2.2.2.2.2.1,v1.2.2.2.2.2.2.2.2.2.2.1,v1.2.2.2.2.2.2.2.2.2.2.2,()),()),(v1.2.2.1,v1.2.2.2.2.2.2.2.2.1,()))
abbrev yjm (v0:dA):(ydr).X:=((),((v0.1,v0.2.1.1,v0.2.1.2,(),v0.2.2.2.1,v0.2.2.2.2.1,v0.2.2.2.2.2.1,v0.2.2.2.2.2.2.1,v0.2.2.2.2.2.2.2.1,(),v0.2.2.2.2.2.2.2.2.2.1,v0.2.2.2.2.2.2.2.2.2.2.1,v0.2.2.2.2.2.2.2.2.2.2.2,()),()),(v0.2.2.1,v0.2.2.2.2.2.2.2.2.1,()))
abbrev yjo (v0:Bool) (v1:dA):(ydH).X:=(((v0,()),()),((v1.1,v1.2.1.1,v1.2.1.2,(),v1.2.2.2.1,v1.2.2.2.2.1,v1.2.2.2.2.2.1,v1.2.2.2.2.2.2.1,v1.2.2.2.2.2.2.2.1,(),v1.2.2.2.2.2.2.2.2.2.1,v1.2.2.2.2.2.2.2.2.2.2.1,v1.2.2.2.2.2.2.2.2.2.2.2,()),()),(v1.2.2.1,v1.2.2.2.2.2.2.2.2.1,()))
def yjq (v0 v1 v2 v3 v4 v5 v6 v7 v8 v9 v10:Int) (v11 v12:Bool) (v13:List dM) (v14:List dW):Option ((yaJ).X ⊕ ((ydr).X ⊕ (ydH).X)) :=bif(ltb v1 v0)then bif(inb v1 v13.length)then bif(((nth v13 v1 ([],[],false,[])).2).2).1 then some (.inl ((((),()),(v0,()),((i64.wrap (v1+1)),()),()),((v2,v3,v4,(),v5,v6,v7,v8,v9,(),v10,v11,v12,()),()),(v13,v14,()))) else let r3:=yfL (v2,(v3,v4),v13,v5,v6,v7,v8,v9,v14,v10,v11,v12);bif(!r3.1)then some (.inr (.inr (((false,()),()),((r3.2.1,r3.2.2.1.1,r3.2.2.1.2,(),r3.2.2.2.2.1,r3.2.2.2.2.2.1,r3.2.2.2.2.2.2.1,r3.2.2.2.2.2.2.2.1,r3.2.2.2.2.2.2.2.2.1,(),r3.2.2.2.2.2.2.2.2.2.2.1,r3.2.2.2.2.2.2.2.2.2.2.2.1,r3.2.2.2.2.2.2.2.2.2.2.2.2,()),()),(r3.2.2.2.1,r3.2.2.2.2.2.2.2.2.2.1,())))) else bif(inb v1 r3.2.2.2.1.length)then let r4:=ygD ((nth r3.2.2.2.1 v1 ([],[],false,[])).1,((nth r3.2.2.2.1 v1 ([],[],false,[])).2).1,(((nth r3.2.2.2.1 v1 ([],[],false,[])).2).2));bif(inb v1 r3.2.2.2.1.length)then some (.inl ((((),()),(v0,()),((i64.wrap (v1+1)),()),()),((r3.2.1,r3.2.2.1.1,r3.2.2.1.2,(),r3.2.2.2.2.1,r3.2.2.2.2.2.1,r3.2.2.2.2.2.2.1,r3.2.2.2.2.2.2.2.1,r3.2.2.2.2.2.2.2.2.1,(),r3.2.2.2.2.2.2.2.2.2.2.1,r3.2.2.2.2.2.2.2.2.2.2.2.1,r3.2.2.2.2.2.2.2.2.2.2.2.2,()),()),((r3.2.2.2.1.set (v1).toNat r4),r3.2.2.2.2.2.2.2.2.2.1,()))) else none else none else none else some (.inr (.inl ((),((v2,v3,v4,(),v5,v6,v7,v8,v9,(),v10,v11,v12,()),()),(v13,v14,()))))
def ya2 (x:(yaJ).X):=yjq x.1.2.1.1 x.1.2.2.1.1 x.2.1.1.1 x.2.1.1.2.1 x.2.1.1.2.2.1 x.2.1.1.2.2.2.2.1 x.2.1.1.2.2.2.2.2.1 x.2.1.1.2.2.2.2.2.2.1 x.2.1.1.2.2.2.2.2.2.2.1 x.2.1.1.2.2.2.2.2.2.2.2.1 x.2.1.1.2.2.2.2.2.2.2.2.2.2.1 x.2.1.1.2.2.2.2.2.2.2.2.2.2.2.1 x.2.1.1.2.2.2.2.2.2.2.2.2.2.2.2.1 x.2.2.1 x.2.2.2.1
def yqZ (x:(ydz).X):(yaJ).X:=((((),()),(x.1.2.1.1,()),(0,()),()),((x.2.1.1.1,x.2.1.1.2.1,x.2.1.1.2.2.1,(),x.2.1.1.2.2.2.2.1,x.2.1.1.2.2.2.2.2.1,x.2.1.1.2.2.2.2.2.2.1,x.2.1.1.2.2.2.2.2.2.2.1,x.2.1.1.2.2.2.2.2.2.2.2.1,(),x.2.1.1.2.2.2.2.2.2.2.2.2.2.1,x.2.1.1.2.2.2.2.2.2.2.2.2.2.2.1,x.2.1.1.2.2.2.2.2.2.2.2.2.2.2.2.1,()),()),(x.2.2.1,x.2.2.2.1,()))
def ys0:Code:=(zd7 yjy 64 52).getD .skip
theorem yC0:zd7 yjy 64 13=some (.block 0 (.loop ys0)):=by kernel_rfl
theorem yEr (x:(yaJ).X):zhu ⟨yoY,38,yvi⟩ 0 ys0 52 yaJ ydr ydH x=ya2 x:=by kernel_rfl
def yq8 (x:(ydz).X):Nat:=18446744073709551616
def ykr (x:(ydz).X):Option ((ydr).X ⊕ (ydH).X):=zF ya2 (yq8 x) (yqZ x)
def yrm:Seg:=⟨ydz,ydr,ydH,ykr⟩
def yEN:Nat→Option Seg:=fun q=>bif Nat.beq q 13 then some yrm else yvi q
theorem yDj:FrOk prog ⟨yoY,38,yEN⟩ yjy:=(yDi).loop (sg:=yrm) yaJ yqZ (by decide) yC0 ya2 yq8 (by decide) (fun _=>rfl) (fun x r _ h=>h) yEr
abbrev yfQ:List Par:= [.pt tA (.pr .fz (.pr (.pr .fz .fz) (.pr (.ow (.pr (.ow (.ow .fz)) (.pr (.ow (.pr .fz (.ow .fz))) (.pr .fz (.ow .fz))))) (.pr .fz (.pr .fz (.pr .fz (.pr .fz (.pr .fz (.pr (.ow (.pr .fz (.ow .fz))) (.pr .fz (.pr .fz .fz)))))))))))]
abbrev yjY:List OT:= [⟨false,tB,.fz⟩]
def ymy (a0:dA):Option (zaY yjY×zak yfQ) :=zkt (ykr ((((),()),((a0.2.2.1.length:Int),()),((),()),()),((a0.1,a0.2.1.1,a0.2.1.2,(),a0.2.2.2.1,a0.2.2.2.2.1,a0.2.2.2.2.2.1,a0.2.2.2.2.2.2.1,a0.2.2.2.2.2.2.2.1,(),a0.2.2.2.2.2.2.2.2.2.1,a0.2.2.2.2.2.2.2.2.2.2.1,a0.2.2.2.2.2.2.2.2.2.2.2,()),()),(a0.2.2.1,a0.2.2.2.2.2.2.2.2.1,()))) (fun y4 =>some ((true,()),((y4.2.1.1.1,(y4.2.1.1.2.1,y4.2.1.1.2.2.1),y4.2.2.1,y4.2.1.1.2.2.2.2.1,y4.2.1.1.2.2.2.2.2.1,y4.2.1.1.2.2.2.2.2.2.1,y4.2.1.1.2.2.2.2.2.2.2.1,y4.2.1.1.2.2.2.2.2.2.2.2.1,y4.2.2.2.1,y4.2.1.1.2.2.2.2.2.2.2.2.2.2.1,y4.2.1.1.2.2.2.2.2.2.2.2.2.2.2.1,y4.2.1.1.2.2.2.2.2.2.2.2.2.2.2.2.1),()))) (fun y4 =>some ((y4.1.1.1,()),((y4.2.1.1.1,(y4.2.1.1.2.1,y4.2.1.1.2.2.1),y4.2.2.1,y4.2.1.1.2.2.2.2.1,y4.2.1.1.2.2.2.2.2.1,y4.2.1.1.2.2.2.2.2.2.1,y4.2.1.1.2.2.2.2.2.2.2.1,y4.2.1.1.2.2.2.2.2.2.2.2.1,y4.2.2.2.1,y4.2.1.1.2.2.2.2.2.2.2.2.2.2.1,y4.2.1.1.2.2.2.2.2.2.2.2.2.2.2.1,y4.2.1.1.2.2.2.2.2.2.2.2.2.2.2.2.1),())))
theorem yGe:ConOk prog 165 ⟨yfQ,yjY,fun x=>ymy x.1⟩:=zkI (yDj) func165 ntmps165.symm fun x=>by kernel_rfl
def yki (a0:dA):Bool×dA:=(!(yi (yX a0)),yX a0)
def ygO (a0:dA):Bool:= !(yi a0)
theorem yIM (a0:dA) (hk:zjx yfQ (a0,())) (hq:ygO a0=true):ymy a0=(fun n=>some ((n.1,()),(n.2,()))) (yki a0):=by
 have hb:a0.2.2.1.length*80≤2^47:=hk.1.2.2.1.1
 have h1:ykr (yCw a0.2.2.1.length a0)=some (bif yi (yX a0)then .inr (yjo false (yX a0))else .inl (yjm (yX a0))):=by
  have:=zkC (step:=ya2) a0.2.2.1.length (fun i s=>yfE a0.2.2.1.length i s) (fun i s=>bif yi (yy s i)then(.inr (yy s i):dA ⊕ dA)else .inl (yy s i)) (fun _ s=>s.2.2.1.length=a0.2.2.1.length∧yi s=false) id
   (fun b=>bif yi b then .inr (yjo false b)else .inl (yjm b)) (fun i s hi hs=>by
    constructor
    ·rw[ySc hs.2]
     simp only[ya2,yfE,yjq,hs.1,zky (show(i:Int)<a0.2.2.1.length by omega),cond_true,wq ((i:Int)+1) (by omega) (by omega),Int.natCast_add,Int.natCast_one,Int.toNat_natCast,zkR hi,zkX,yLI hs.2,yan,ygD];cases hf:(nth s.2.2.1 i yc).2.2.1
     ·cases ho:(yV s).1
      ·have e:yy s i=(yV s).2:=by unfold yy; rw[hf,ho]; rfl
       have d:yi (yV s).2=true:=by rw[yPw hs.2,ho]; rfl
       rw[e];simp only[Bool.not_false,Bool.and_self,cond_true,cond_false,d,yan,yjo]
      ·have e:yy s i=yh7 (yV s).2 i (ydg (nth s.2.2.1 i yc)):=by unfold yy; rw[hf,ho]; rfl
       rw[e];simp only[Bool.not_true,Bool.not_false,Bool.and_false,cond_true,cond_false,yfE,yh7,yan,Int.toNat_natCast]
     ·have e:yy s i=s:=by unfold yy; rw[hf]; rfl
      rw[e]; rfl
    ·intro s' h
     cases hd:yi (yy s i)
     ·rw[hd]at h
      cases h;exact⟨(yi7 s i).trans hs.1,hd⟩
     ·rw[hd]at h; cases h) (fun s hs=>by simp only[ya2,yfE,yjq,hs.2,zk3 (Int.le_refl _),cond_false,id,yjm]) a0 ⟨rfl,by simpa [ygO]using hq⟩ 18446744073709551616 (by omega)
  rw[yIe (fun a i h=>yEB i h),← List.range_eq_range']at this;exact this
 unfold ymy yki;rw[h1];cases hd:yi (yX a0)<;>rfl
def ykl (a0:dA):Option (zaY yjY×zak yfQ):=bif ygO a0 then(fun n=>some ((n.1,()),(n.2,()))) (yki a0)else none
theorem yJO (a0:dA) (h:ygO a0=true):ykl a0=(fun n=>some ((n.1,()),(n.2,()))) (yki a0):=by unfold ykl; rw[h]; rfl
def yvF:Con:=⟨yfQ,yjY,fun x=>ykl x.1⟩
theorem yJA:ConOk prog 165 yvF:=(yGe).mono (fun x r hk h=>zkY h (fun hq=>yIM x.1 hk hq))
def yNt:Code:=(f212.body).getD .skip
def yNW:Env:=zkw TT [(81,yL),(123,ylM),(125,ypU)] []
theorem yFf:FrOk prog ⟨yNW,44,fun _=>none⟩ yNt:=zkA mixed yd ⟨yam,yu8,yBk,trivial⟩
abbrev yrJ:List Par:= [.rd tS]
abbrev yrX:List OT:= [⟨false,tB,.fz⟩]
def yyS (a0:dS):Option (zaY yrX×zak yrJ) :=let r1:=yf a0.1 1 60000;bif r1 then let r2:=yf a0.2.1 0 60000;bif r2 then let r3:=yf a0.2.2.2.2.2.1 0 60000;bif r3 then let r4:=ydK (a0.2.2.2.1,a0.2.2.2.2.1);bif r4 then let r5:=yf a0.2.2.1 0 (i64.wrap (a0.2.2.2.1-1));bif r5 then let r6:=yd4 (a0.2.2.2.1,a0.2.2.2.2.1) a0.2.2.2.2.2.2.1 a0.2.2.2.2.2.2.2;some ((r6,()),()) else some ((false,()),()) else some ((false,()),()) else some ((false,()),()) else some ((false,()),()) else some ((false,()),())
theorem yI9:ConOk prog 212 ⟨yrJ,yrX,fun x=>yyS x.1⟩:=zkI (yFf) func212 ntmps212.symm fun x=>by kernel_rfl
def yeS (a0:dS):Bool :=let r1:=yf a0.1 1 60000;bif r1 then let r2:=yf a0.2.1 0 60000;bif r2 then let r3:=yf a0.2.2.2.2.2.1 0 60000;bif r3 then let r4:=ydK (a0.2.2.2.1,a0.2.2.2.2.1);bif r4 then let r5:=yf a0.2.2.1 0 (i64.wrap (a0.2.2.2.1-1));bif r5 then let r6:=yd4 (a0.2.2.2.1,a0.2.2.2.2.1) a0.2.2.2.2.2.2.1 a0.2.2.2.2.2.2.2;r6 else false else false else false else false else false
def yxT:Con:=⟨yrJ,yrX,fun x=>(fun n=>some ((n,()),())) (yeS x.1)⟩
theorem yLV (a0:dS):yyS a0=(fun n=>some ((n,()),())) (yeS a0):=zkV (p:=fun(n:Bool)=>((n,()),())) (zkG (p:=fun(n:Bool)=>((n,()),())) (zkG (p:=fun(n:Bool)=>((n,()),())) (zkG (p:=fun(n:Bool)=>((n,()),())) (zkG (p:=fun(n:Bool)=>((n,()),())) (zkG (p:=fun(n:Bool)=>((n,()),())) rfl rfl) rfl) rfl) rfl) rfl)
theorem yMS:ConOk prog 212 yxT:=(yI9).mono (fun x r _ h=>(yLV x.1).trans h)
theorem yQO (s:dS):yeS s=yaY s:=by
 rw[Bool.eq_iff_iff,ySy];unfold yeS yd4;simp only[yLG,yaa];cases hg:ye (s.2.2.2.1,s.2.2.2.2.1)
 ·cases ya s.1 1 60000<;>cases ya s.2.1 0 60000<;>cases ya s.2.2.2.2.2.1 0 60000<;>simp
 have hg2:=yk.1 hg;simp only at hg2;rw[wq (s.2.2.2.1-1) (by omega) (by omega)];simp only[← yqc];cases ya s.1 1 60000
 ·simp
 cases ya s.2.1 0 60000
 ·simp
 cases ya s.2.2.2.2.2.1 0 60000
 ·simp
 cases ya s.2.2.1 0 (s.2.2.2.1-1)
 ·simp
 cases hl:ya s.2.2.2.2.2.2.1 (-1) (s.2.2.2.1-1)
 ·simp
 cases ya s.2.2.2.2.2.2.2 0 s.2.2.2.2.1
 ·simp
 have:=yqc.1 hl;by_cases h0:s.2.2.2.2.2.2.2=0
 ·simp[h0]
 ·simp[h0]; omega
def yJ7:Code:=(f172.body).getD .skip
def yKv:Env:=zkw TT [(212,yxT)] []
theorem yDn:FrOk prog ⟨yKv,24,fun _=>none⟩ yJ7:=zkA mixed yd ⟨yMS,trivial⟩
abbrev ypm:List Par:= [.rd tS]
abbrev ypy:List OT:= [⟨false,tL,(.ow .fz)⟩]
def ywk (a0:dS):Option (zaY ypy×zak ypm) :=let r1:=yeS a0;bif(!r1)then some (([],()),()) else some ((([21317,a0.1,a0.2.1,a0.2.2.1,a0.2.2.2.1,a0.2.2.2.2.1,a0.2.2.2.2.2.1,(i64.wrap (a0.2.2.2.2.2.2.1+1)),a0.2.2.2.2.2.2.2]:List Int),()),())
theorem yGh:ConOk prog 172 ⟨ypm,ypy,fun x=>ywk x.1⟩:=zkI (yDn) func172 ntmps172.symm fun x=>by kernel_rfl
def ygE (a0:dS):(List Int) :=let r1:=yeS a0;bif(!r1)then [] else ([21317,a0.1,a0.2.1,a0.2.2.1,a0.2.2.2.1,a0.2.2.2.2.1,a0.2.2.2.2.2.1,(i64.wrap (a0.2.2.2.2.2.2.1+1)),a0.2.2.2.2.2.2.2]:List Int)
def yvI:Con:=⟨ypm,ypy,fun x=>(fun n=>some ((n,()),())) (ygE x.1)⟩
theorem yIP (a0:dS):ywk a0=(fun n=>some ((n,()),())) (ygE a0):=zkV (p:=fun(n:(List Int))=>((n,()),())) (zkG (p:=fun(n:(List Int))=>((n,()),())) rfl rfl)
theorem yJD:ConOk prog 172 yvI:=(yGh).mono (fun x r _ h=>(yIP x.1).trans h)
theorem ySq (s:dS):ygE s=yC s:=by
 unfold ygE yC;rw[yQO]
def yNw:Code:=(f173.body).getD .skip
def yNZ:Env:=zkw TT [] []
theorem yFp:FrOk prog ⟨yNZ,23,fun _=>none⟩ yNw:=zkA mixed yd trivial
abbrev yrM:List Par:= [.rd tA,.rd tI]
abbrev yr2:List OT:= [⟨false,tS,(.pr .fz (.pr .fz (.pr .fz (.pr .fz (.pr .fz (.pr .fz (.pr .fz .fz)))))))⟩]
def yyV (a0:dA) (a1:Int):Option (zaY yr2×zak yrM) :=some (((a0.1,a0.2.2.2.2.2.2.2.1,a1,a0.2.1.1,a0.2.1.2,a0.2.2.2.2.2.2.1,a0.2.2.2.1,a0.2.2.2.2.1),()),())
theorem yJf:ConOk prog 173 ⟨yrM,yr2,fun x=>yyV x.1 x.2.1⟩:=zkI (yFp) func173 ntmps173.symm fun x=>by kernel_rfl
def ylU (a0:dA) (a1:Int):dS :=(a0.1,a0.2.2.2.2.2.2.2.1,a1,a0.2.1.1,a0.2.1.2,a0.2.2.2.2.2.2.1,a0.2.2.2.1,a0.2.2.2.2.1)
def yxW:Con:=⟨yrM,yr2,fun x=>(fun n=>some ((n,()),())) (ylU x.1 x.2.1)⟩
theorem yL1 (a0:dA) (a1:Int):yyV a0 a1=(fun n=>some ((n,()),())) (ylU a0 a1):=zkV (p:=fun(n:dS)=>((n,()),())) rfl
theorem yMV:ConOk prog 173 yxW:=(yJf).mono (fun x r _ h=>(yL1 x.1 x.2.1).trans h)
def yjx:Code:=(f107.body).getD .skip
def yoX:Env:=zkw TT [(139,ys8),(165,yvF),(172,yvI),(173,yxW)] []
theorem yDg:FrOk prog ⟨yoX,37,fun _=>none⟩ yjx:=zkA mixed yd ⟨yGz,yJA,yJD,yMV,trivial⟩
def yvh:Nat→Option Seg:=fun _=>none
def yaI:Shape:=⟨[(0,false,[.ptr 1000000000 0]),(15,false,[.int .i64]),(16,false,[.int .i64])],[(1000000000,[.int .i64,.int .i64,.int .i64,.at 800000000,.int .i64,.int .i64,.int .i64,.int .i64,.int .i64,.at 800000001,.int .i64,.bool,.bool])],[(800000000,tM,(.pr (.ow (.ow .fz)) (.pr (.ow (.pr .fz (.ow .fz))) (.pr .fz (.ow .fz))))),(800000001,tW,(.pr .fz (.ow .fz)))]⟩
def ydy:Shape:=⟨[(0,false,[.ptr 1000000000 0]),(15,false,[.int .i64]),(16,false,[.ci .i64 0])],[(1000000000,[.int .i64,.int .i64,.int .i64,.at 800000000,.int .i64,.int .i64,.int .i64,.int .i64,.int .i64,.at 800000001,.int .i64,.bool,.bool])],[(800000000,tM,(.pr (.ow (.ow .fz)) (.pr (.ow (.pr .fz (.ow .fz))) (.pr .fz (.ow .fz))))),(800000001,tW,(.pr .fz (.ow .fz)))]⟩
def ydq:Shape:=⟨[(0,false,[.ptr 1000000000 0])],[(1000000000,[.int .i64,.int .i64,.int .i64,.at 800000000,.int .i64,.int .i64,.int .i64,.int .i64,.int .i64,.at 800000001,.int .i64,.bool,.bool])],[(800000000,tM,(.pr (.ow (.ow .fz)) (.pr (.ow (.pr .fz (.ow .fz))) (.pr .fz (.ow .fz))))),(800000001,tW,(.pr .fz (.ow .fz)))]⟩
def ydG:Shape:=⟨[(2,false,[.bool])],[(1000000000,[.int .i64,.int .i64,.int .i64,.at 800000000,.int .i64,.int .i64,.int .i64,.int .i64,.int .i64,.at 800000001,.int .i64,.bool,.bool])],[(800000000,tM,(.pr (.ow (.ow .fz)) (.pr (.ow (.pr .fz (.ow .fz))) (.pr .fz (.ow .fz))))),(800000001,tW,(.pr .fz (.ow .fz)))]⟩
abbrev yjf (v0 v1:Int) (v2:dA):(yaI).X:=((((),()),(v0,()),(v1,()),()),((v2.1,v2.2.1.1,v2.2.1.2,(),v2.2.2.2.1,v2.2.2.2.2.1,v2.2.2.2.2.2.1,v2.2.2.2.2.2.2.1,v2.2.2.2.2.2.2.2.1,(),v2.2.2.2.2.2.2.2.2.2.1,v2.2.2.2.2.2.2.2.2.2.2.1,v2.2.2.2.2.2.2.2.2.2.2.2,()),()),(v2.2.2.1,v2.2.2.2.2.2.2.2.2.1,()))
abbrev yCv (v0:Int) (v1:dA):(ydy).X:=((((),()),(v0,()),((),()),()),((v1.1,v1.2.1.1,v1.2.1.2,(),v1.2.2.2.1,v1.2.2.2.2.1,v1.2.2.2.2.2.1,v1.2.2.2.2.2.2.1,v1.2.2.2.2.2.2.2.1,(),v1.2.2.2.2.2.2.2.2.2.1,v1.2.2.2.2.2.2.2.2.2.2.1,v1.2.2.2.2.2.2.2.2.2.2.2,()),()),(v1.2.2.1,v1.2.2.2.2.2.2.2.2.1,()))
abbrev yjl (v0:dA):(ydq).X:=((((),()),()),((v0.1,v0.2.1.1,v0.2.1.2,(),v0.2.2.2.1,v0.2.2.2.2.1,v0.2.2.2.2.2.1,v0.2.2.2.2.2.2.1,v0.2.2.2.2.2.2.2.1,(),v0.2.2.2.2.2.2.2.2.2.1,v0.2.2.2.2.2.2.2.2.2.2.1,v0.2.2.2.2.2.2.2.2.2.2.2,()),()),(v0.2.2.1,v0.2.2.2.2.2.2.2.2.1,()))
abbrev yjn (v0:Bool) (v1:dA):(ydG).X:=(((v0,()),()),((v1.1,v1.2.1.1,v1.2.1.2,(),v1.2.2.2.1,v1.2.2.2.2.1,v1.2.2.2.2.2.1,v1.2.2.2.2.2.2.1,v1.2.2.2.2.2.2.2.1,(),v1.2.2.2.2.2.2.2.2.2.1,v1.2.2.2.2.2.2.2.2.2.2.1,v1.2.2.2.2.2.2.2.2.2.2.2,()),()),(v1.2.2.1,v1.2.2.2.2.2.2.2.2.1,()))
def yjp (v0 v1 v2 v3 v4 v5 v6 v7 v8 v9 v10:Int) (v11 v12:Bool) (v13:List dM) (v14:List dW):Option ((yaI).X ⊕ ((ydq).X ⊕ (ydG).X)) :=bif(ltb v1 v0)then let r4:=ylU (v2,(v3,v4),v13,v5,v6,v7,v8,v9,v14,v10,v11,v12) v1;let r5:=ygE r4;bnd (yiA (v2,(v3,v4),v13,v5,v6,v7,v8,v9,v14,v10,v11,v12) v1 (v9.tmod 2) r5) fun r6 =>bif(!r6.1.1)then some (.inr (.inr (((false,()),()),((r6.2.1.1,r6.2.1.2.1.1,r6.2.1.2.1.2,(),r6.2.1.2.2.2.1,r6.2.1.2.2.2.2.1,r6.2.1.2.2.2.2.2.1,r6.2.1.2.2.2.2.2.2.1,r6.2.1.2.2.2.2.2.2.2.1,(),r6.2.1.2.2.2.2.2.2.2.2.2.1,r6.2.1.2.2.2.2.2.2.2.2.2.2.1,r6.2.1.2.2.2.2.2.2.2.2.2.2.2,()),()),(r6.2.1.2.2.1,r6.2.1.2.2.2.2.2.2.2.2.1,())))) else some (.inl ((((),()),(v0,()),((i64.wrap (v1+1)),()),()),((r6.2.1.1,r6.2.1.2.1.1,r6.2.1.2.1.2,(),r6.2.1.2.2.2.1,r6.2.1.2.2.2.2.1,r6.2.1.2.2.2.2.2.1,r6.2.1.2.2.2.2.2.2.1,r6.2.1.2.2.2.2.2.2.2.1,(),r6.2.1.2.2.2.2.2.2.2.2.2.1,r6.2.1.2.2.2.2.2.2.2.2.2.2.1,r6.2.1.2.2.2.2.2.2.2.2.2.2.2,()),()),(r6.2.1.2.2.1,r6.2.1.2.2.2.2.2.2.2.2.1,()))) else some (.inr (.inl ((((),()),()),((v2,v3,v4,(),v5,v6,v7,v8,v9,(),v10,v11,v12,()),()),(v13,v14,()))))
def ya1 (x:(yaI).X):=yjp x.1.2.1.1 x.1.2.2.1.1 x.2.1.1.1 x.2.1.1.2.1 x.2.1.1.2.2.1 x.2.1.1.2.2.2.2.1 x.2.1.1.2.2.2.2.2.1 x.2.1.1.2.2.2.2.2.2.1 x.2.1.1.2.2.2.2.2.2.2.1 x.2.1.1.2.2.2.2.2.2.2.2.1 x.2.1.1.2.2.2.2.2.2.2.2.2.2.1 x.2.1.1.2.2.2.2.2.2.2.2.2.2.2.1 x.2.1.1.2.2.2.2.2.2.2.2.2.2.2.2.1 x.2.2.1 x.2.2.2.1
def yqY (x:(ydy).X):(yaI).X:=((((),()),(x.1.2.1.1,()),(0,()),()),((x.2.1.1.1,x.2.1.1.2.1,x.2.1.1.2.2.1,(),x.2.1.1.2.2.2.2.1,x.2.1.1.2.2.2.2.2.1,x.2.1.1.2.2.2.2.2.2.1,x.2.1.1.2.2.2.2.2.2.2.1,x.2.1.1.2.2.2.2.2.2.2.2.1,(),x.2.1.1.2.2.2.2.2.2.2.2.2.2.1,x.2.1.1.2.2.2.2.2.2.2.2.2.2.2.1,x.2.1.1.2.2.2.2.2.2.2.2.2.2.2.2.1,()),()),(x.2.2.1,x.2.2.2.1,()))
def ysZ:Code:=(zd7 yjx 64 116).getD .skip
theorem yCZ:zd7 yjx 64 29=some (.block 0 (.loop ysZ)):=by kernel_rfl
theorem yEq (x:(yaI).X):zhu ⟨yoX,37,yvh⟩ 0 ysZ 116 yaI ydq ydG x=ya1 x:=by kernel_rfl
def yq7 (x:(ydy).X):Nat:=18446744073709551616
def ykq (x:(ydy).X):Option ((ydq).X ⊕ (ydG).X):=zF ya1 (yq7 x) (yqY x)
def yrl:Seg:=⟨ydy,ydq,ydG,ykq⟩
def yEM:Nat→Option Seg:=fun q=>bif Nat.beq q 29 then some yrl else yvh q
theorem yDh:FrOk prog ⟨yoX,37,yEM⟩ yjx:=(yDg).loop (sg:=yrl) yaI yqY (by decide) yCZ ya1 yq7 (by decide) (fun _=>rfl) (fun x r _ h=>h) yEq
abbrev yfP:List Par:= [.pt tA (.pr .fz (.pr (.pr .fz .fz) (.pr (.ow (.pr (.ow (.ow .fz)) (.pr (.ow (.pr .fz (.ow .fz))) (.pr .fz (.ow .fz))))) (.pr .fz (.pr .fz (.pr .fz (.pr .fz (.pr .fz (.pr (.ow (.pr .fz (.ow .fz))) (.pr .fz (.pr .fz .fz)))))))))))]
abbrev yjX:List OT:= [⟨false,tB,.fz⟩]
def ymx (a0:dA):Option (zaY yjX×zak yfP) :=zkt (ykq ((((),()),((a0.2.2.1.length:Int),()),((),()),()),((a0.1,a0.2.1.1,a0.2.1.2,(),a0.2.2.2.1,a0.2.2.2.2.1,a0.2.2.2.2.2.1,a0.2.2.2.2.2.2.1,(i64.wrap (a0.2.2.2.2.2.2.2.1+1)),(),a0.2.2.2.2.2.2.2.2.2.1,a0.2.2.2.2.2.2.2.2.2.2.1,a0.2.2.2.2.2.2.2.2.2.2.2,()),()),(a0.2.2.1,a0.2.2.2.2.2.2.2.2.1,()))) (fun y6 =>bnd (ykl (y6.2.1.1.1,(y6.2.1.1.2.1,y6.2.1.1.2.2.1),y6.2.2.1,y6.2.1.1.2.2.2.2.1,y6.2.1.1.2.2.2.2.2.1,y6.2.1.1.2.2.2.2.2.2.1,y6.2.1.1.2.2.2.2.2.2.2.1,y6.2.1.1.2.2.2.2.2.2.2.2.1,y6.2.2.2.1,y6.2.1.1.2.2.2.2.2.2.2.2.2.2.1,y6.2.1.1.2.2.2.2.2.2.2.2.2.2.2.1,y6.2.1.1.2.2.2.2.2.2.2.2.2.2.2.2.1)) fun r8 =>some ((r8.1.1,()),(r8.2.1,()))) (fun y6 =>some ((y6.1.1.1,()),((y6.2.1.1.1,(y6.2.1.1.2.1,y6.2.1.1.2.2.1),y6.2.2.1,y6.2.1.1.2.2.2.2.1,y6.2.1.1.2.2.2.2.2.1,y6.2.1.1.2.2.2.2.2.2.1,y6.2.1.1.2.2.2.2.2.2.2.1,y6.2.1.1.2.2.2.2.2.2.2.2.1,y6.2.2.2.1,y6.2.1.1.2.2.2.2.2.2.2.2.2.2.1,y6.2.1.1.2.2.2.2.2.2.2.2.2.2.2.1,y6.2.1.1.2.2.2.2.2.2.2.2.2.2.2.2.1),())))
theorem yGd:ConOk prog 107 ⟨yfP,yjX,fun x=>ymx x.1⟩:=zkI (yDh) func107 ntmps107.symm fun x=>by kernel_rfl
def ykh (a0:dA):Bool×dA:=(!(yi (yaH a0)),yaH a0)
def ygN (a0:dA):Bool:= !(yi a0)
theorem yR1 {a:dA} (i:Nat) (h:yi a=true):yaj a i=a:=yTU h _ _ _
theorem yIL (a0:dA) (hk:zjx yfP (a0,())) (hq:ygN a0=true):ymx a0=(fun n=>some ((n.1,()),(n.2,()))) (ykh a0):=by
 have hb:a0.2.2.1.length*80≤2^47:=hk.1.2.2.1.1;have hd0:yi a0=false:=by simpa [ygN]using hq
 have h1:ykq (yCv a0.2.2.1.length (yeM a0))=some (bif yi ((List.range a0.2.2.1.length).foldl yaj (yeM a0))then .inr (yjn false ((List.range a0.2.2.1.length).foldl yaj (yeM a0)))else .inl (yjl ((List.range a0.2.2.1.length).foldl yaj (yeM a0)))):=by
  have:=zkC (step:=ya1) a0.2.2.1.length (fun i s=>yjf a0.2.2.1.length i s) (fun i s=>bif yi (yaj s i)then(.inr (yaj s i):dA ⊕ dA)else .inl (yaj s i)) (fun _ s=>s.2.2.1.length=a0.2.2.1.length∧yi s=false) id
   (fun b=>bif yi b then .inr (yjn false b)else .inl (yjl b)) (fun i s hi hs=>by
    constructor
    ·simp only[ya1,yjf,yjp,zky (show(i:Int)<a0.2.2.1.length by omega),cond_true,wq ((i:Int)+1) (by omega) (by omega),Int.natCast_add,Int.natCast_one,Int.toNat_natCast,zkX,ySq,ylU]
     rw[yGC s i (s.2.2.2.2.2.2.2.1.tmod 2) (yC (s.1,s.2.2.2.2.2.2.2.1,(i:Int),s.2.1.1,s.2.1.2,s.2.2.2.2.2.2.1,s.2.2.2.1,s.2.2.2.2.1)) (by unfold yfw; rw[zkR (by rw[hs.1]; exact hi),hs.2]; rfl)];simp only[zkH,yfq];rw[show ydi s i (s.2.2.2.2.2.2.2.1.tmod 2) (yC (s.1,s.2.2.2.2.2.2.2.1,(i:Int),s.2.1.1,s.2.1.2,s.2.2.2.2.2.2.1,s.2.2.2.1,s.2.2.2.2.1))=yaj s i from rfl];cases hd:yi (yaj s i)
     ·rfl
     ·simp only[hd,Bool.not_true,Bool.not_false,cond_true,yjn]
    ·intro s' h
     cases hd:yi (yaj s i)
     ·rw[hd]at h
      cases h;exact⟨(yGR s i).trans hs.1,hd⟩
     ·rw[hd]at h; cases h) (fun s hs=>by simp only[ya1,yjf,yjp,hs.2,zk3 (Int.le_refl _),cond_false,id,yjl]) (yeM a0) ⟨rfl,hd0⟩ 18446744073709551616 (by omega)
  rw[yIe (fun a i h=>yR1 i h),← List.range_eq_range']at this;exact this
 unfold ymx ykh yaH;refine(congrArg (fun z=>zkt z _ _) h1).trans ?_;cases hd:yi ((List.range a0.2.2.1.length).foldl yaj (yeM a0))
 ·simp only[cond_false,zkN,zkX]
  rw[yJO _ (by unfold ygO; rw[hd]; rfl)]; rfl
 ·rw[yTy hd]
  simp only[cond_true,zkO,zkX];rw[hd]; rfl
def ydX (a0:dA):Option (zaY yjX×zak yfP):=bif ygN a0 then(fun n=>some ((n.1,()),(n.2,()))) (ykh a0)else none
theorem yJN (a0:dA) (h:ygN a0=true):ydX a0=(fun n=>some ((n.1,()),(n.2,()))) (ykh a0):=by unfold ydX; rw[h]; rfl
def yvE:Con:=⟨yfP,yjX,fun x=>ydX x.1⟩
theorem yJz:ConOk prog 107 yvE:=(yGd).mono (fun x r hk h=>zkY h (fun hq=>yIL x.1 hk hq))
def yJ6:Code:=(f39.body).getD .skip
def yKu:Env:=zkw TT [(55,ylL),(61,yxR),(95,ynR),(106,yir),(107,yvE)] []
theorem yDk:FrOk prog ⟨yKu,64,fun _=>none⟩ yJ6:=zkA mixed yd ⟨yu7,yMQ,yz7,yqq,yJz,trivial⟩
abbrev yjH:List Par:= [.rd tA,.rd tI]
abbrev ypw:List OT:= [⟨false,tA,(.pr .fz (.pr (.pr .fz .fz) (.pr (.ow (.pr (.ow (.ow .fz)) (.pr (.ow (.pr .fz (.ow .fz))) (.pr .fz (.ow .fz))))) (.pr .fz (.pr .fz (.pr .fz (.pr .fz (.pr .fz (.pr (.ow (.pr .fz (.ow .fz))) (.pr .fz (.pr .fz .fz)))))))))))⟩]
def ymz (a0:dA) (a1:Int):Option (zaY ypw×zak yjH) :=let r1:=ydh a0;let r2:=ycv a0;bif(!(!r2))then let r3:=yaW a0 a1;bif(!(!r3))then bif(inb a1 a0.2.2.1.length)then bif(((nth a0.2.2.1 a1 ([],[],false,[])).2).2).1 then some ((r1,()),()) else bif(inb a1 a0.2.2.1.length)then let r4:=ylS ((nth a0.2.2.1 a1 ([],[],false,[])).1,((nth a0.2.2.1 a1 ([],[],false,[])).2).1,(((nth a0.2.2.1 a1 ([],[],false,[])).2).2));bif(inb a1 r1.2.2.1.length)then bif(!(a0.2.2.2.1==(-1)))then bif(a0.2.2.2.1==a1)then bif(!r1.2.2.2.2.2.2.2.2.2.2.1)then bif(!r1.2.2.2.2.2.2.2.2.2.2.2)then bif(ltb r1.2.2.2.2.2.2.2.1 60000)then bnd (ydX (r1.1,r1.2.1,(r1.2.2.1.set (a1).toNat r4),a1,0,r1.2.2.2.2.2)) fun r5 =>some ((r5.2.1,()),()) else some (((r1.1,r1.2.1,(r1.2.2.1.set (a1).toNat r4),a1,0,r1.2.2.2.2.2),()),()) else some (((r1.1,r1.2.1,(r1.2.2.1.set (a1).toNat r4),a1,0,r1.2.2.2.2.2),()),()) else some (((r1.1,r1.2.1,(r1.2.2.1.set (a1).toNat r4),a1,0,r1.2.2.2.2.2),()),()) else bif(!r1.2.2.2.2.2.2.2.2.2.2.1)then some (((r1.1,r1.2.1,(r1.2.2.1.set (a1).toNat r4),r1.2.2.2.1,r1.2.2.2.2.1,r1.2.2.2.2.2.1,r1.2.2.2.2.2.2.1,r1.2.2.2.2.2.2.2.1,r1.2.2.2.2.2.2.2.2.1,r1.2.2.2.2.2.2.2.2.2.1,r1.2.2.2.2.2.2.2.2.2.2.1,true),()),()) else some (((r1.1,r1.2.1,(r1.2.2.1.set (a1).toNat r4),r1.2.2.2.1,r1.2.2.2.2.1,r1.2.2.2.2.2.1,r1.2.2.2.2.2.2.1,r1.2.2.2.2.2.2.2.1,r1.2.2.2.2.2.2.2.2.1,r1.2.2.2.2.2.2.2.2.2.1,r1.2.2.2.2.2.2.2.2.2.2.1,true),()),()) else bif(!r1.2.2.2.2.2.2.2.2.2.2.1)then bif(!r1.2.2.2.2.2.2.2.2.2.2.2)then bif(ltb r1.2.2.2.2.2.2.2.1 60000)then bnd (ydX (r1.1,r1.2.1,(r1.2.2.1.set (a1).toNat r4),a1,0,r1.2.2.2.2.2)) fun r6 =>some ((r6.2.1,()),()) else some (((r1.1,r1.2.1,(r1.2.2.1.set (a1).toNat r4),a1,0,r1.2.2.2.2.2),()),()) else some (((r1.1,r1.2.1,(r1.2.2.1.set (a1).toNat r4),a1,0,r1.2.2.2.2.2),()),()) else some (((r1.1,r1.2.1,(r1.2.2.1.set (a1).toNat r4),a1,0,r1.2.2.2.2.2),()),()) else none else none else none else some ((r1,()),()) else some ((r1,()),())
theorem yGf:ConOk prog 39 ⟨yjH,ypw,fun x=>ymz x.1 x.2.1⟩:=zkI (yDk) func39 ntmps39.symm fun x=>by kernel_rfl
def ygC (a0:dA) (a1:Int):dA:=ysl a0 a1
theorem yIN (a0:dA) (a1:Int) (hk:zjx yjH (a0,a1,())):ymz a0 a1=(fun n=>some ((n,()),())) (ygC a0 a1):=by
 have hb:a0.2.2.1.length*80≤2^47:=hk.1.2.2.1.1;unfold ymz ygC ysl;simp only[ydh,ycv,yaW,yaa,ygB (show a0.2.2.1.length≤1152921504606846976 by omega),ylS,yB,zkX];cases yP a0
 ·rfl
 cases hi:inb a1 a0.2.2.1.length
 ·rfl
 have hm:yi a0=false→ydX (a0.1,a0.2.1,a0.2.2.1.set a1.toNat ((nth a0.2.2.1 a1 yc).1,[],true,(nth a0.2.2.1 a1 yc).2.2.2),a1,0,a0.2.2.2.2.2)=some ((!(yi (yaH (ycu a0 a1))),()),(yaH (ycu a0 a1),())):=fun h=>yJN (ycu a0 a1) (by unfold ygN; rw[show yi (ycu a0 a1)=yi a0 from rfl,h]; rfl)
 cases(nth a0.2.2.1 a1 yc).2.2.1
 ·unfold ylR
  revert hm;unfold ycu ylQ ysm yi;intro hm;cases hd:a0.2.2.2.2.2.2.2.2.2.2.1
  ·rw[hm hd]
   cases(a0.2.2.2.1== -1)<;>cases(a0.2.2.2.1==a1)<;>cases a0.2.2.2.2.2.2.2.2.2.2.2<;>cases ltb a0.2.2.2.2.2.2.2.1 60000<;>first | rfl | simp only[hd,Bool.not_false,Bool.not_true,cond_true,cond_false,Bool.true_and,Bool.or_true,Bool.or_false,Bool.true_or,zkH]
  ·cases(a0.2.2.2.1== -1)<;>cases(a0.2.2.2.1==a1)<;>simp only[hd,Bool.not_false,Bool.not_true,cond_true,cond_false,Bool.false_and,Bool.or_true,Bool.or_false,Bool.true_or]<;>rfl
 ·rfl
def yvG:Con:=⟨yjH,ypw,fun x=>(fun n=>some ((n,()),())) (ygC x.1 x.2.1)⟩
theorem yJB:ConOk prog 39 yvG:=(yGf).mono (fun x r hk h=>(yIN x.1 x.2.1 hk).trans h)
def yd1:Code:=(f100.body).getD .skip
def yiL:Env:=zkw TT [(76,ydU)] [(8192,(.pr (.ow .fz) (.pr (.ow (.pr .fz .fz)) (.pr .fz (.ow .fz))))),(25088,(.pr (.ow .fz) (.pr (.ow (.pr .fz .fz)) (.pr .fz (.ow .fz))))),(28672,(.pr .fz .fz)),(46144,(.pr .fz .fz))]
theorem yHU:FrOk prog ⟨yiL,57,fun _=>none⟩ yd1:=zkA mixed yd ⟨yhY,trivial⟩
def yzm:Nat→Option Seg:=fun _=>none
def ybR:Shape:=⟨[(1,false,[.ptr 0 0]),(2,false,[.ptr 64 0]),(3,false,[.ptr 4160 0]),(4,false,[.int .i64])],[(0,[.int .i64,.int .i64,.int .i64,.br tM,.int .i64,.int .i64,.int .i64,.int .i64,.int .i64,.br tW,.int .i64,.bool,.bool]),(64,[.int .i64,.int .i64,.int .i64,.nil,.int .i64,.int .i64,.int .i64,.int .i64,.int .i64,.nil,.int .i64,.bool,.bool]),(4160,[.int .i64,.int .i64,.int .i64,.at 800000000,.int .i64,.int .i64,.int .i64,.int .i64,.int .i64,.br tW,.int .i64,.bool,.bool])],[(800000000,tM,(.pr (.ow .fz) (.pr (.ow (.pr .fz .fz)) (.pr .fz (.ow .fz)))))]⟩
def yfh:Shape:=⟨[(1,false,[.ptr 0 0]),(2,false,[.ptr 64 0]),(3,false,[.ptr 4160 0]),(4,false,[.ci .i64 0])],[(0,[.int .i64,.int .i64,.int .i64,.br tM,.int .i64,.int .i64,.int .i64,.int .i64,.int .i64,.br tW,.int .i64,.bool,.bool]),(64,[.int .i64,.int .i64,.int .i64,.nil,.int .i64,.int .i64,.int .i64,.int .i64,.int .i64,.nil,.int .i64,.bool,.bool]),(4160,[.int .i64,.int .i64,.int .i64,.at 800000000,.int .i64,.int .i64,.int .i64,.int .i64,.int .i64,.br tW,.int .i64,.bool,.bool])],[(800000000,tM,(.pr (.ow .fz) (.pr (.ow (.pr .fz .fz)) (.pr .fz (.ow .fz)))))]⟩
def ye6:Shape:=⟨[(1,false,[.ptr 0 0]),(2,false,[.ptr 64 0]),(3,false,[.ptr 4160 0])],[(0,[.int .i64,.int .i64,.int .i64,.br tM,.int .i64,.int .i64,.int .i64,.int .i64,.int .i64,.br tW,.int .i64,.bool,.bool]),(64,[.int .i64,.int .i64,.int .i64,.nil,.int .i64,.int .i64,.int .i64,.int .i64,.int .i64,.nil,.int .i64,.bool,.bool]),(4160,[.int .i64,.int .i64,.int .i64,.at 800000000,.int .i64,.int .i64,.int .i64,.int .i64,.int .i64,.br tW,.int .i64,.bool,.bool])],[(800000000,tM,(.pr (.ow .fz) (.pr (.ow (.pr .fz .fz)) (.pr .fz (.ow .fz)))))]⟩
def yin:Shape:=⟨[],[],[]⟩
abbrev yms (v0:Int) (v1 v2 v3:dA):(ybR).X:=((((),()),((),()),((),()),(v0,()),()),((v1.1,v1.2.1.1,v1.2.1.2,v1.2.2.1,v1.2.2.2.1,v1.2.2.2.2.1,v1.2.2.2.2.2.1,v1.2.2.2.2.2.2.1,v1.2.2.2.2.2.2.2.1,v1.2.2.2.2.2.2.2.2.1,v1.2.2.2.2.2.2.2.2.2.1,v1.2.2.2.2.2.2.2.2.2.2.1,v1.2.2.2.2.2.2.2.2.2.2.2,()),(v2.1,v2.2.1.1,v2.2.1.2,(),v2.2.2.2.1,v2.2.2.2.2.1,v2.2.2.2.2.2.1,v2.2.2.2.2.2.2.1,v2.2.2.2.2.2.2.2.1,(),v2.2.2.2.2.2.2.2.2.2.1,v2.2.2.2.2.2.2.2.2.2.2.1,v2.2.2.2.2.2.2.2.2.2.2.2,()),(v3.1,v3.2.1.1,v3.2.1.2,(),v3.2.2.2.1,v3.2.2.2.2.1,v3.2.2.2.2.2.1,v3.2.2.2.2.2.2.1,v3.2.2.2.2.2.2.2.1,v3.2.2.2.2.2.2.2.2.1,v3.2.2.2.2.2.2.2.2.2.1,v3.2.2.2.2.2.2.2.2.2.2.1,v3.2.2.2.2.2.2.2.2.2.2.2,()),()),(v3.2.2.1,()))
abbrev yF4 (v0 v1 v2:dA):(yfh).X:=((((),()),((),()),((),()),((),()),()),((v0.1,v0.2.1.1,v0.2.1.2,v0.2.2.1,v0.2.2.2.1,v0.2.2.2.2.1,v0.2.2.2.2.2.1,v0.2.2.2.2.2.2.1,v0.2.2.2.2.2.2.2.1,v0.2.2.2.2.2.2.2.2.1,v0.2.2.2.2.2.2.2.2.2.1,v0.2.2.2.2.2.2.2.2.2.2.1,v0.2.2.2.2.2.2.2.2.2.2.2,()),(v1.1,v1.2.1.1,v1.2.1.2,(),v1.2.2.2.1,v1.2.2.2.2.1,v1.2.2.2.2.2.1,v1.2.2.2.2.2.2.1,v1.2.2.2.2.2.2.2.1,(),v1.2.2.2.2.2.2.2.2.2.1,v1.2.2.2.2.2.2.2.2.2.2.1,v1.2.2.2.2.2.2.2.2.2.2.2,()),(v2.1,v2.2.1.1,v2.2.1.2,(),v2.2.2.2.1,v2.2.2.2.2.1,v2.2.2.2.2.2.1,v2.2.2.2.2.2.2.1,v2.2.2.2.2.2.2.2.1,v2.2.2.2.2.2.2.2.2.1,v2.2.2.2.2.2.2.2.2.2.1,v2.2.2.2.2.2.2.2.2.2.2.1,v2.2.2.2.2.2.2.2.2.2.2.2,()),()),(v2.2.2.1,()))
abbrev yFV (v0 v1 v2:dA):(ye6).X:=((((),()),((),()),((),()),()),((v0.1,v0.2.1.1,v0.2.1.2,v0.2.2.1,v0.2.2.2.1,v0.2.2.2.2.1,v0.2.2.2.2.2.1,v0.2.2.2.2.2.2.1,v0.2.2.2.2.2.2.2.1,v0.2.2.2.2.2.2.2.2.1,v0.2.2.2.2.2.2.2.2.2.1,v0.2.2.2.2.2.2.2.2.2.2.1,v0.2.2.2.2.2.2.2.2.2.2.2,()),(v1.1,v1.2.1.1,v1.2.1.2,(),v1.2.2.2.1,v1.2.2.2.2.1,v1.2.2.2.2.2.1,v1.2.2.2.2.2.2.1,v1.2.2.2.2.2.2.2.1,(),v1.2.2.2.2.2.2.2.2.2.1,v1.2.2.2.2.2.2.2.2.2.2.1,v1.2.2.2.2.2.2.2.2.2.2.2,()),(v2.1,v2.2.1.1,v2.2.1.2,(),v2.2.2.2.1,v2.2.2.2.2.1,v2.2.2.2.2.2.1,v2.2.2.2.2.2.2.1,v2.2.2.2.2.2.2.2.1,v2.2.2.2.2.2.2.2.2.1,v2.2.2.2.2.2.2.2.2.2.1,v2.2.2.2.2.2.2.2.2.2.2.1,v2.2.2.2.2.2.2.2.2.2.2.2,()),()),(v2.2.2.1,()))
def ymV (v0 v1 v2 v3:Int) (v4:List dM) (v5 v6 v7 v8 v9:Int) (v10:List dW) (v11:Int) (v12 v13:Bool) (v14 v15 v16 v17 v18 v19 v20 v21 v22:Int) (v23 v24:Bool) (v25 v26 v27 v28 v29 v30 v31 v32:Int) (v33:List dW) (v34:Int) (v35 v36:Bool) (v37:List dM):Option ((ybR).X ⊕ ((ye6).X ⊕ (yin).X)) :=bif(ltb v0 (v4.length:Int))then bif(inb v0 v4.length)then let r2:=yI ((nth v4 v0 ([],[],false,[])).1,((nth v4 v0 ([],[],false,[])).2).1,(((nth v4 v0 ([],[],false,[])).2).2));bif(zkl v37.length ([r2]:List dM).length 80)then some (.inl ((((),()),((),()),((),()),((i64.wrap (v0+1)),()),()),((v1,v2,v3,v4,v5,v6,v7,v8,v9,v10,v11,v12,v13,()),(v14,v15,v16,(),v17,v18,v19,v20,v21,(),v22,v23,v24,()),(v25,v26,v27,(),v28,v29,v30,v31,v32,v33,v34,v35,v36,()),()),((v37++([r2]:List dM)),()))) else none else none else some (.inr (.inl ((((),()),((),()),((),()),()),((v1,v2,v3,v4,v5,v6,v7,v8,v9,v10,v11,v12,v13,()),(v14,v15,v16,(),v17,v18,v19,v20,v21,(),v22,v23,v24,()),(v25,v26,v27,(),v28,v29,v30,v31,v32,v33,v34,v35,v36,()),()),(v37,()))))
def ycb (x:(ybR).X):=ymV x.1.2.2.2.1.1 x.2.1.1.1 x.2.1.1.2.1 x.2.1.1.2.2.1 x.2.1.1.2.2.2.1 x.2.1.1.2.2.2.2.1 x.2.1.1.2.2.2.2.2.1 x.2.1.1.2.2.2.2.2.2.1 x.2.1.1.2.2.2.2.2.2.2.1 x.2.1.1.2.2.2.2.2.2.2.2.1 x.2.1.1.2.2.2.2.2.2.2.2.2.1 x.2.1.1.2.2.2.2.2.2.2.2.2.2.1 x.2.1.1.2.2.2.2.2.2.2.2.2.2.2.1 x.2.1.1.2.2.2.2.2.2.2.2.2.2.2.2.1 x.2.1.2.1.1 x.2.1.2.1.2.1 x.2.1.2.1.2.2.1 x.2.1.2.1.2.2.2.2.1 x.2.1.2.1.2.2.2.2.2.1 x.2.1.2.1.2.2.2.2.2.2.1 x.2.1.2.1.2.2.2.2.2.2.2.1 x.2.1.2.1.2.2.2.2.2.2.2.2.1 x.2.1.2.1.2.2.2.2.2.2.2.2.2.2.1 x.2.1.2.1.2.2.2.2.2.2.2.2.2.2.2.1 x.2.1.2.1.2.2.2.2.2.2.2.2.2.2.2.2.1 x.2.1.2.2.1.1 x.2.1.2.2.1.2.1 x.2.1.2.2.1.2.2.1 x.2.1.2.2.1.2.2.2.2.1 x.2.1.2.2.1.2.2.2.2.2.1 x.2.1.2.2.1.2.2.2.2.2.2.1 x.2.1.2.2.1.2.2.2.2.2.2.2.1 x.2.1.2.2.1.2.2.2.2.2.2.2.2.1 x.2.1.2.2.1.2.2.2.2.2.2.2.2.2.1 x.2.1.2.2.1.2.2.2.2.2.2.2.2.2.2.1 x.2.1.2.2.1.2.2.2.2.2.2.2.2.2.2.2.1 x.2.1.2.2.1.2.2.2.2.2.2.2.2.2.2.2.2.1 x.2.2.1
def yvY (x:(yfh).X):(ybR).X:=((((),()),((),()),((),()),(0,()),()),((x.2.1.1.1,x.2.1.1.2.1,x.2.1.1.2.2.1,x.2.1.1.2.2.2.1,x.2.1.1.2.2.2.2.1,x.2.1.1.2.2.2.2.2.1,x.2.1.1.2.2.2.2.2.2.1,x.2.1.1.2.2.2.2.2.2.2.1,x.2.1.1.2.2.2.2.2.2.2.2.1,x.2.1.1.2.2.2.2.2.2.2.2.2.1,x.2.1.1.2.2.2.2.2.2.2.2.2.2.1,x.2.1.1.2.2.2.2.2.2.2.2.2.2.2.1,x.2.1.1.2.2.2.2.2.2.2.2.2.2.2.2.1,()),(x.2.1.2.1.1,x.2.1.2.1.2.1,x.2.1.2.1.2.2.1,(),x.2.1.2.1.2.2.2.2.1,x.2.1.2.1.2.2.2.2.2.1,x.2.1.2.1.2.2.2.2.2.2.1,x.2.1.2.1.2.2.2.2.2.2.2.1,x.2.1.2.1.2.2.2.2.2.2.2.2.1,(),x.2.1.2.1.2.2.2.2.2.2.2.2.2.2.1,x.2.1.2.1.2.2.2.2.2.2.2.2.2.2.2.1,x.2.1.2.1.2.2.2.2.2.2.2.2.2.2.2.2.1,()),(x.2.1.2.2.1.1,x.2.1.2.2.1.2.1,x.2.1.2.2.1.2.2.1,(),x.2.1.2.2.1.2.2.2.2.1,x.2.1.2.2.1.2.2.2.2.2.1,x.2.1.2.2.1.2.2.2.2.2.2.1,x.2.1.2.2.1.2.2.2.2.2.2.2.1,x.2.1.2.2.1.2.2.2.2.2.2.2.2.1,x.2.1.2.2.1.2.2.2.2.2.2.2.2.2.1,x.2.1.2.2.1.2.2.2.2.2.2.2.2.2.2.1,x.2.1.2.2.1.2.2.2.2.2.2.2.2.2.2.2.1,x.2.1.2.2.1.2.2.2.2.2.2.2.2.2.2.2.2.1,()),()),(x.2.2.1,()))
def yxL:Code:=(zd7 yd1 64 244).getD .skip
theorem yHh:zd7 yd1 64 61=some (.block 0 (.loop yxL)):=by kernel_rfl
theorem yJX (x:(ybR).X):zhu ⟨yiL,57,yzm⟩ 0 yxL 244 ybR ye6 yin x=ycb x:=by kernel_rfl
def yv9 (x:(yfh).X):Nat:=18446744073709551616
def ynI (x:(yfh).X):Option ((ye6).X ⊕ (yin).X):=zF ycb (yv9 x) (yvY x)
def ywt:Seg:=⟨yfh,ye6,yin,ynI⟩
def yoW:Nat→Option Seg:=fun q=>bif Nat.beq q 61 then some ywt else yzm q
theorem yHV:FrOk prog ⟨yiL,57,yoW⟩ yd1:=(yHU).loop (sg:=ywt) ybR yvY (by decide) yHh ycb yv9 (by decide) (fun _=>rfl) (fun x r _ h=>h) yJX
def ybj:Shape:=⟨[(1,false,[.ptr 0 0]),(2,false,[.ptr 64 0]),(3,false,[.ptr 4160 0]),(5,false,[.int .i64])],[(0,[.int .i64,.int .i64,.int .i64,.br tM,.int .i64,.int .i64,.int .i64,.int .i64,.int .i64,.br tW,.int .i64,.bool,.bool]),(64,[.int .i64,.int .i64,.int .i64,.nil,.int .i64,.int .i64,.int .i64,.int .i64,.int .i64,.nil,.int .i64,.bool,.bool]),(4160,[.int .i64,.int .i64,.int .i64,.at 800000000,.int .i64,.int .i64,.int .i64,.int .i64,.int .i64,.at 800000001,.int .i64,.bool,.bool])],[(800000000,tM,(.pr (.ow .fz) (.pr (.ow (.pr .fz .fz)) (.pr .fz (.ow .fz))))),(800000001,tW,(.pr .fz .fz))]⟩
def yev:Shape:=⟨[(1,false,[.ptr 0 0]),(2,false,[.ptr 64 0]),(3,false,[.ptr 4160 0]),(5,false,[.ci .i64 0])],[(0,[.int .i64,.int .i64,.int .i64,.br tM,.int .i64,.int .i64,.int .i64,.int .i64,.int .i64,.br tW,.int .i64,.bool,.bool]),(64,[.int .i64,.int .i64,.int .i64,.nil,.int .i64,.int .i64,.int .i64,.int .i64,.int .i64,.nil,.int .i64,.bool,.bool]),(4160,[.int .i64,.int .i64,.int .i64,.at 800000000,.int .i64,.int .i64,.int .i64,.int .i64,.int .i64,.at 800000001,.int .i64,.bool,.bool])],[(800000000,tM,(.pr (.ow .fz) (.pr (.ow (.pr .fz .fz)) (.pr .fz (.ow .fz))))),(800000001,tW,(.pr .fz .fz))]⟩
def yej:Shape:=⟨[(2,false,[.ptr 64 0]),(3,false,[.ptr 4160 0])],[(64,[.int .i64,.int .i64,.int .i64,.nil,.int .i64,.int .i64,.int .i64,.int .i64,.int .i64,.nil,.int .i64,.bool,.bool]),(4160,[.int .i64,.int .i64,.int .i64,.at 800000000,.int .i64,.int .i64,.int .i64,.int .i64,.int .i64,.at 800000001,.int .i64,.bool,.bool])],[(800000000,tM,(.pr (.ow .fz) (.pr (.ow (.pr .fz .fz)) (.pr .fz (.ow .fz))))),(800000001,tW,(.pr .fz .fz))]⟩
def yhg:Shape:=⟨[],[],[]⟩
abbrev ykW (v0:Int) (v1 v2 v3:dA):(ybj).X:=((((),()),((),()),((),()),(v0,()),()),((v1.1,v1.2.1.1,v1.2.1.2,v1.2.2.1,v1.2.2.2.1,v1.2.2.2.2.1,v1.2.2.2.2.2.1,v1.2.2.2.2.2.2.1,v1.2.2.2.2.2.2.2.1,v1.2.2.2.2.2.2.2.2.1,v1.2.2.2.2.2.2.2.2.2.1,v1.2.2.2.2.2.2.2.2.2.2.1,v1.2.2.2.2.2.2.2.2.2.2.2,()),(v2.1,v2.2.1.1,v2.2.1.2,(),v2.2.2.2.1,v2.2.2.2.2.1,v2.2.2.2.2.2.1,v2.2.2.2.2.2.2.1,v2.2.2.2.2.2.2.2.1,(),v2.2.2.2.2.2.2.2.2.2.1,v2.2.2.2.2.2.2.2.2.2.2.1,v2.2.2.2.2.2.2.2.2.2.2.2,()),(v3.1,v3.2.1.1,v3.2.1.2,(),v3.2.2.2.1,v3.2.2.2.2.1,v3.2.2.2.2.2.1,v3.2.2.2.2.2.2.1,v3.2.2.2.2.2.2.2.1,(),v3.2.2.2.2.2.2.2.2.2.1,v3.2.2.2.2.2.2.2.2.2.2.1,v3.2.2.2.2.2.2.2.2.2.2.2,()),()),(v3.2.2.1,v3.2.2.2.2.2.2.2.2.1,()))
abbrev yD4 (v0 v1 v2:dA):(yev).X:=((((),()),((),()),((),()),((),()),()),((v0.1,v0.2.1.1,v0.2.1.2,v0.2.2.1,v0.2.2.2.1,v0.2.2.2.2.1,v0.2.2.2.2.2.1,v0.2.2.2.2.2.2.1,v0.2.2.2.2.2.2.2.1,v0.2.2.2.2.2.2.2.2.1,v0.2.2.2.2.2.2.2.2.2.1,v0.2.2.2.2.2.2.2.2.2.2.1,v0.2.2.2.2.2.2.2.2.2.2.2,()),(v1.1,v1.2.1.1,v1.2.1.2,(),v1.2.2.2.1,v1.2.2.2.2.1,v1.2.2.2.2.2.1,v1.2.2.2.2.2.2.1,v1.2.2.2.2.2.2.2.1,(),v1.2.2.2.2.2.2.2.2.2.1,v1.2.2.2.2.2.2.2.2.2.2.1,v1.2.2.2.2.2.2.2.2.2.2.2,()),(v2.1,v2.2.1.1,v2.2.1.2,(),v2.2.2.2.1,v2.2.2.2.2.1,v2.2.2.2.2.2.1,v2.2.2.2.2.2.2.1,v2.2.2.2.2.2.2.2.1,(),v2.2.2.2.2.2.2.2.2.2.1,v2.2.2.2.2.2.2.2.2.2.2.1,v2.2.2.2.2.2.2.2.2.2.2.2,()),()),(v2.2.2.1,v2.2.2.2.2.2.2.2.2.1,()))
abbrev yDS (v0 v1:dA):(yej).X:=((((),()),((),()),()),((v0.1,v0.2.1.1,v0.2.1.2,(),v0.2.2.2.1,v0.2.2.2.2.1,v0.2.2.2.2.2.1,v0.2.2.2.2.2.2.1,v0.2.2.2.2.2.2.2.1,(),v0.2.2.2.2.2.2.2.2.2.1,v0.2.2.2.2.2.2.2.2.2.2.1,v0.2.2.2.2.2.2.2.2.2.2.2,()),(v1.1,v1.2.1.1,v1.2.1.2,(),v1.2.2.2.1,v1.2.2.2.2.1,v1.2.2.2.2.2.1,v1.2.2.2.2.2.2.1,v1.2.2.2.2.2.2.2.1,(),v1.2.2.2.2.2.2.2.2.2.1,v1.2.2.2.2.2.2.2.2.2.2.1,v1.2.2.2.2.2.2.2.2.2.2.2,()),()),(v1.2.2.1,v1.2.2.2.2.2.2.2.2.1,()))
def ylh (v0 v1 v2 v3:Int) (v4:List dM) (v5 v6 v7 v8 v9:Int) (v10:List dW) (v11:Int) (v12 v13:Bool) (v14 v15 v16 v17 v18 v19 v20 v21 v22:Int) (v23 v24:Bool) (v25 v26 v27 v28 v29 v30 v31 v32 v33:Int) (v34 v35:Bool) (v36:List dM) (v37:List dW):Option ((ybj).X ⊕ ((yej).X ⊕ (yhg).X)) :=bif(ltb v0 (v10.length:Int))then bif(inb v0 v10.length)then bif(inb v0 v10.length)then bif(zkl ([]:List Int).length ((nth v10 v0 (0,[])).2).length 8)then bif(zkl v37.length ([((nth v10 v0 (0,[])).1,(([]:List Int)++((nth v10 v0 (0,[])).2)))]:List dW).length 32)then some (.inl ((((),()),((),()),((),()),((i64.wrap (v0+1)),()),()),((v1,v2,v3,v4,v5,v6,v7,v8,v9,v10,v11,v12,v13,()),(v14,v15,v16,(),v17,v18,v19,v20,v21,(),v22,v23,v24,()),(v25,v26,v27,(),v28,v29,v30,v31,v32,(),v33,v34,v35,()),()),(v36,(v37++([((nth v10 v0 (0,[])).1,(([]:List Int)++((nth v10 v0 (0,[])).2)))]:List dW)),()))) else none else none else none else none else some (.inr (.inl ((((),()),((),()),()),((v14,v15,v16,(),v17,v18,v19,v20,v21,(),v22,v23,v24,()),(v25,v26,v27,(),v28,v29,v30,v31,v32,(),v33,v34,v35,()),()),(v36,v37,()))))
def ybB (x:(ybj).X):=ylh x.1.2.2.2.1.1 x.2.1.1.1 x.2.1.1.2.1 x.2.1.1.2.2.1 x.2.1.1.2.2.2.1 x.2.1.1.2.2.2.2.1 x.2.1.1.2.2.2.2.2.1 x.2.1.1.2.2.2.2.2.2.1 x.2.1.1.2.2.2.2.2.2.2.1 x.2.1.1.2.2.2.2.2.2.2.2.1 x.2.1.1.2.2.2.2.2.2.2.2.2.1 x.2.1.1.2.2.2.2.2.2.2.2.2.2.1 x.2.1.1.2.2.2.2.2.2.2.2.2.2.2.1 x.2.1.1.2.2.2.2.2.2.2.2.2.2.2.2.1 x.2.1.2.1.1 x.2.1.2.1.2.1 x.2.1.2.1.2.2.1 x.2.1.2.1.2.2.2.2.1 x.2.1.2.1.2.2.2.2.2.1 x.2.1.2.1.2.2.2.2.2.2.1 x.2.1.2.1.2.2.2.2.2.2.2.1 x.2.1.2.1.2.2.2.2.2.2.2.2.1 x.2.1.2.1.2.2.2.2.2.2.2.2.2.2.1 x.2.1.2.1.2.2.2.2.2.2.2.2.2.2.2.1 x.2.1.2.1.2.2.2.2.2.2.2.2.2.2.2.2.1 x.2.1.2.2.1.1 x.2.1.2.2.1.2.1 x.2.1.2.2.1.2.2.1 x.2.1.2.2.1.2.2.2.2.1 x.2.1.2.2.1.2.2.2.2.2.1 x.2.1.2.2.1.2.2.2.2.2.2.1 x.2.1.2.2.1.2.2.2.2.2.2.2.1 x.2.1.2.2.1.2.2.2.2.2.2.2.2.1 x.2.1.2.2.1.2.2.2.2.2.2.2.2.2.2.1 x.2.1.2.2.1.2.2.2.2.2.2.2.2.2.2.2.1 x.2.1.2.2.1.2.2.2.2.2.2.2.2.2.2.2.2.1 x.2.2.1 x.2.2.2.1
def ytn (x:(yev).X):(ybj).X:=((((),()),((),()),((),()),(0,()),()),((x.2.1.1.1,x.2.1.1.2.1,x.2.1.1.2.2.1,x.2.1.1.2.2.2.1,x.2.1.1.2.2.2.2.1,x.2.1.1.2.2.2.2.2.1,x.2.1.1.2.2.2.2.2.2.1,x.2.1.1.2.2.2.2.2.2.2.1,x.2.1.1.2.2.2.2.2.2.2.2.1,x.2.1.1.2.2.2.2.2.2.2.2.2.1,x.2.1.1.2.2.2.2.2.2.2.2.2.2.1,x.2.1.1.2.2.2.2.2.2.2.2.2.2.2.1,x.2.1.1.2.2.2.2.2.2.2.2.2.2.2.2.1,()),(x.2.1.2.1.1,x.2.1.2.1.2.1,x.2.1.2.1.2.2.1,(),x.2.1.2.1.2.2.2.2.1,x.2.1.2.1.2.2.2.2.2.1,x.2.1.2.1.2.2.2.2.2.2.1,x.2.1.2.1.2.2.2.2.2.2.2.1,x.2.1.2.1.2.2.2.2.2.2.2.2.1,(),x.2.1.2.1.2.2.2.2.2.2.2.2.2.2.1,x.2.1.2.1.2.2.2.2.2.2.2.2.2.2.2.1,x.2.1.2.1.2.2.2.2.2.2.2.2.2.2.2.2.1,()),(x.2.1.2.2.1.1,x.2.1.2.2.1.2.1,x.2.1.2.2.1.2.2.1,(),x.2.1.2.2.1.2.2.2.2.1,x.2.1.2.2.1.2.2.2.2.2.1,x.2.1.2.2.1.2.2.2.2.2.2.1,x.2.1.2.2.1.2.2.2.2.2.2.2.1,x.2.1.2.2.1.2.2.2.2.2.2.2.2.1,(),x.2.1.2.2.1.2.2.2.2.2.2.2.2.2.2.1,x.2.1.2.2.1.2.2.2.2.2.2.2.2.2.2.2.1,x.2.1.2.2.1.2.2.2.2.2.2.2.2.2.2.2.2.1,()),()),(x.2.2.1,x.2.2.2.1,()))
def yvB:Code:=(zd7 yd1 64 1012).getD .skip
theorem yE8:zd7 yd1 64 253=some (.block 2 (.loop yvB)):=by kernel_rfl
theorem yGO (x:(ybj).X):zhu ⟨yiL,57,yoW⟩ 2 yvB 1012 ybj yej yhg x=ybB x:=by kernel_rfl
def ytC (x:(yev).X):Nat:=18446744073709551616
def ymb (x:(yev).X):Option ((yej).X ⊕ (yhg).X):=zF ybB (ytC x) (ytn x)
def yt1:Seg:=⟨yev,yej,yhg,ymb⟩
def yKn:Nat→Option Seg:=fun q=>bif Nat.beq q 253 then some yt1 else yoW q
theorem yHW:FrOk prog ⟨yiL,57,yKn⟩ yd1:=(yHV).loop (sg:=yt1) ybj ytn (by decide) yE8 ybB ytC (by decide) (fun _=>rfl) (fun x r _ h=>h) yGO
abbrev yni:List Par:= [.rd tA]
abbrev yuS:List OT:= [⟨false,tA,(.pr .fz (.pr (.pr .fz .fz) (.pr (.ow (.pr (.ow .fz) (.pr (.ow (.pr .fz .fz)) (.pr .fz (.ow .fz))))) (.pr .fz (.pr .fz (.pr .fz (.pr .fz (.pr .fz (.pr (.ow (.pr .fz .fz)) (.pr .fz (.pr .fz .fz)))))))))))⟩]
def yqz (a0:dA):Option (zaY yuS×zak yni) :=zkt (ynI ((((),()),((),()),((),()),((),()),()),((a0.1,a0.2.1.1,a0.2.1.2,a0.2.2.1,a0.2.2.2.1,a0.2.2.2.2.1,a0.2.2.2.2.2.1,a0.2.2.2.2.2.2.1,a0.2.2.2.2.2.2.2.1,a0.2.2.2.2.2.2.2.2.1,a0.2.2.2.2.2.2.2.2.2.1,a0.2.2.2.2.2.2.2.2.2.2.1,a0.2.2.2.2.2.2.2.2.2.2.2,()),(0,0,0,(),0,0,0,0,0,(),0,false,false,()),(a0.1,a0.2.1.1,a0.2.1.2,(),a0.2.2.2.1,a0.2.2.2.2.1,a0.2.2.2.2.2.1,a0.2.2.2.2.2.2.1,a0.2.2.2.2.2.2.2.1,a0.2.2.2.2.2.2.2.2.1,a0.2.2.2.2.2.2.2.2.2.1,a0.2.2.2.2.2.2.2.2.2.2.1,a0.2.2.2.2.2.2.2.2.2.2.2,()),()),(([]:List dM),()))) (fun y2 =>zkt (ymb ((((),()),((),()),((),()),((),()),()),((y2.2.1.1.1,y2.2.1.1.2.1,y2.2.1.1.2.2.1,y2.2.1.1.2.2.2.1,y2.2.1.1.2.2.2.2.1,y2.2.1.1.2.2.2.2.2.1,y2.2.1.1.2.2.2.2.2.2.1,y2.2.1.1.2.2.2.2.2.2.2.1,y2.2.1.1.2.2.2.2.2.2.2.2.1,y2.2.1.1.2.2.2.2.2.2.2.2.2.1,y2.2.1.1.2.2.2.2.2.2.2.2.2.2.1,y2.2.1.1.2.2.2.2.2.2.2.2.2.2.2.1,y2.2.1.1.2.2.2.2.2.2.2.2.2.2.2.2.1,()),(y2.2.1.2.1.1,y2.2.1.2.1.2.1,y2.2.1.2.1.2.2.1,(),y2.2.1.2.1.2.2.2.2.1,y2.2.1.2.1.2.2.2.2.2.1,y2.2.1.2.1.2.2.2.2.2.2.1,y2.2.1.2.1.2.2.2.2.2.2.2.1,y2.2.1.2.1.2.2.2.2.2.2.2.2.1,(),y2.2.1.2.1.2.2.2.2.2.2.2.2.2.2.1,y2.2.1.2.1.2.2.2.2.2.2.2.2.2.2.2.1,y2.2.1.2.1.2.2.2.2.2.2.2.2.2.2.2.2.1,()),(y2.2.1.2.2.1.1,y2.2.1.2.2.1.2.1,y2.2.1.2.2.1.2.2.1,(),y2.2.1.2.2.1.2.2.2.2.1,y2.2.1.2.2.1.2.2.2.2.2.1,y2.2.1.2.2.1.2.2.2.2.2.2.1,y2.2.1.2.2.1.2.2.2.2.2.2.2.1,y2.2.1.2.2.1.2.2.2.2.2.2.2.2.1,(),y2.2.1.2.2.1.2.2.2.2.2.2.2.2.2.2.1,y2.2.1.2.2.1.2.2.2.2.2.2.2.2.2.2.2.1,y2.2.1.2.2.1.2.2.2.2.2.2.2.2.2.2.2.2.1,()),()),(y2.2.2.1,([]:List dW),()))) (fun y3 =>some (((y3.2.1.2.1.1,(y3.2.1.2.1.2.1,y3.2.1.2.1.2.2.1),y3.2.2.1,y3.2.1.2.1.2.2.2.2.1,y3.2.1.2.1.2.2.2.2.2.1,y3.2.1.2.1.2.2.2.2.2.2.1,y3.2.1.2.1.2.2.2.2.2.2.2.1,y3.2.1.2.1.2.2.2.2.2.2.2.2.1,y3.2.2.2.1,y3.2.1.2.1.2.2.2.2.2.2.2.2.2.2.1,y3.2.1.2.1.2.2.2.2.2.2.2.2.2.2.2.1,y3.2.1.2.1.2.2.2.2.2.2.2.2.2.2.2.2.1),()),())) (fun y3 =>none)) (fun y2 =>none)
theorem yMD:ConOk prog 100 ⟨yni,yuS,fun x=>yqz x.1⟩:=zkI (yHW) func100 ntmps100.symm fun x=>by kernel_rfl
def yd5 (a0:dA):dA:=a0
theorem yOH (a0:dA) (hk:zjx yni (a0,())):yqz a0=(fun n=>some ((n,()),())) (yd5 a0):=by
 have hb:a0.2.2.1.length*80≤2^47:=hk.1.2.2.1.1;have hb2:a0.2.2.2.2.2.2.2.2.1.length*32≤2^47:=hk.1.2.2.2.2.2.2.2.2.1.1;have hc: ∀i,i<a0.2.2.2.2.2.2.2.2.1.length→(a0.2.2.2.2.2.2.2.2.1.getD i (0,[])).2.length*8≤2^47:=fun i hi=>by rw[zkJ hi]; exact(hk.1.2.2.2.2.2.2.2.2.1.2 _ (List.getElem_mem hi)).2.1
 have h1:=zkx (step:=ycb) a0.2.2.1 yc (fun i s=>yms i a0 ycX (a0.1,a0.2.1,s,a0.2.2.2)) (fun s x=>s++ [x]) (fun i s=>s.length=i) (fun s=> .inl (yFV a0 ycX (a0.1,a0.2.1,s,a0.2.2.2))) (fun i s hi hs=>⟨by
   simp only[ycb,yms,ymV,zky (show(i:Int)<a0.2.2.1.length by omega),cond_true,wq ((i:Int)+1) (by omega) (by omega),Int.natCast_add,Int.natCast_one,Int.toNat_natCast,zkR hi,zkS,yI,zkX]
   rw[zkF.2 (show(s.length+ [a0.2.2.1.getD i ([],[],false,[])].length)*80≤140737488355328 by simp only[List.length_cons,List.length_nil]; omega)]; rfl,by simp[hs]⟩) (fun s hs=>by simp only[ycb,yms,ymV,zk3 (Int.le_refl _),cond_false]) [] rfl 18446744073709551616 (by omega)
 have h2:=zkx (step:=ybB) a0.2.2.2.2.2.2.2.2.1 (0,[]) (fun i s=>ykW i a0 ycX (a0.1,a0.2.1,a0.2.2.1,a0.2.2.2.1,a0.2.2.2.2.1,a0.2.2.2.2.2.1,a0.2.2.2.2.2.2.1,a0.2.2.2.2.2.2.2.1,s,a0.2.2.2.2.2.2.2.2.2)) (fun s x=>s++ [x]) (fun i s=>s.length=i) (fun s=> .inl (yDS ycX (a0.1,a0.2.1,a0.2.2.1,a0.2.2.2.1,a0.2.2.2.2.1,a0.2.2.2.2.2.1,a0.2.2.2.2.2.2.1,a0.2.2.2.2.2.2.2.1,s,a0.2.2.2.2.2.2.2.2.2))) (fun i s hi hs=>⟨by
   have:=hc i hi;simp only[ybB,ykW,ylh,zky (show(i:Int)<a0.2.2.2.2.2.2.2.2.1.length by omega),cond_true,wq ((i:Int)+1) (by omega) (by omega),Int.natCast_add,Int.natCast_one,Int.toNat_natCast,zkR hi,zkS,List.nil_append,zkX]
   rw[zkF.2 (show(([]:List Int).length+(a0.2.2.2.2.2.2.2.2.1.getD i (0,[])).2.length)*8≤140737488355328 by rw[List.length_nil]; omega),zkF.2 (show(s.length+ [a0.2.2.2.2.2.2.2.2.1.getD i (0,[])].length)*32≤140737488355328 by simp only[List.length_cons,List.length_nil]; omega)]; rfl,by simp[hs]⟩) (fun s hs=>by simp only[ybB,ykW,ylh,zk3 (Int.le_refl _),cond_false]) [] rfl 18446744073709551616 (by omega)
 rw[ynY]at h1 h2;unfold yqz yd5;rw[show ynI (yF4 a0 ycX (a0.1,a0.2.1,[],a0.2.2.2))=_ from h1,zkN];refine(congrArg (fun z=>zkt z _ _) (show ymb (yD4 a0 ycX (a0.1,a0.2.1,a0.2.2.1,a0.2.2.2.1,a0.2.2.2.2.1,a0.2.2.2.2.2.1,a0.2.2.2.2.2.2.1,a0.2.2.2.2.2.2.2.1,[],a0.2.2.2.2.2.2.2.2.2))=_ from h2)).trans rfl
def yp1:Con:=⟨yni,yuS,fun x=>(fun n=>some ((n,()),())) (yd5 x.1)⟩
theorem yBp:ConOk prog 100 yp1:=(yMD).mono (fun x r hk h=>(yOH x.1 hk).trans h)
def yKb:Code:=(f40.body).getD .skip
def yKz:Env:=zkw TT [(78,yhE),(82,yj),(100,yp1),(108,ynU)] []
theorem yDz:FrOk prog ⟨yKz,30,fun _=>none⟩ yKb:=zkA mixed yd ⟨ynu,ym,yBp,yAa,trivial⟩
abbrev yjP:List Par:= [.rd tA,.rd tI]
abbrev ypG:List OT:= [⟨false,tA,(.pr .fz (.pr (.pr .fz .fz) (.pr (.ow (.pr (.ow .fz) (.pr (.ow (.pr .fz .fz)) (.pr .fz (.ow .fz))))) (.pr .fz (.pr .fz (.pr .fz (.pr .fz (.pr .fz (.pr (.ow (.pr .fz .fz)) (.pr .fz (.pr .fz .fz)))))))))))⟩]
def ymH (a0:dA) (a1:Int):Option (zaY ypG×zak yjP) :=let r1:=yd5 a0;let r2:=yag a0;bif r2 then let r3:=ya a1 0 (i64.wrap ((a0.2.2.1.length:Int)-1));bif r3 then bif(inb a1 a0.2.2.1.length)then bif(!((((nth a0.2.2.1 a1 ([],[],false,[])).2).2).1))then bnd (yeW r1 a1) fun r4 =>some ((r4.2.1,()),()) else some ((r1,()),()) else none else some ((r1,()),()) else some ((r1,()),())
theorem yGp:ConOk prog 40 ⟨yjP,ypG,fun x=>ymH x.1 x.2.1⟩:=zkI (yDz) func40 ntmps40.symm fun x=>by kernel_rfl
def ygI (a0:dA) (a1:Int):dA:=ysl a0 a1
theorem yIW (a0:dA) (a1:Int) (hk:zjx yjP (a0,a1,())):ymH a0 a1=(fun n=>some ((n,()),())) (ygI a0 a1):=by
 have hb:a0.2.2.1.length*80≤2^47:=hk.1.2.2.1.1;unfold ymH ygI ysl;simp only[yd5,yag,ygB (show a0.2.2.1.length≤1152921504606846976 by omega)];cases yP a0
 ·rfl
 cases hi:inb a1 a0.2.2.1.length
 ·rfl
 rw[yAe a0 a1 hi];cases(nth a0.2.2.1 a1 yc).2.2.1<;>rfl
def yvO:Con:=⟨yjP,ypG,fun x=>(fun n=>some ((n,()),())) (ygI x.1 x.2.1)⟩
theorem yJJ:ConOk prog 40 yvO:=(yGp).mono (fun x r hk h=>(yIW x.1 x.2.1 hk).trans h)
abbrev yg1:List Par:= [.mt tL (.ow .fz)]
abbrev yg7:List OT:= []
end
end Go.Tf
namespace Go.Proofs
noncomputable section
open Go.Tf Go.RowKit Go.Lib Go.Shelf Go.Sort
set_option synthInstance.maxHeartbeats 400000
set_option synthInstance.maxSize 10000
set_option linter.unusedVariables false
set_option linter.unusedSimpArgs false
set_option maxRecDepth 100000
def Tryz.sortL_ren:Go.Shelf.Ren:=⟨fun | 5=>175 | 8=>214 | 7=>213 | 19=>240 | 20=>241 | 10=>231 | 11=>232 | 12=>233 | 13=>234 | 14=>235 | 15=>236 | 16=>237 | 17=>238 | 18=>239 | 30=>248 | 31=>249 | 32=>250 | 33=>251 | 34=>252 | 35=>253 | 40=>254 | n=>n,fun | 23=>34 | 25=>3 | 3=>3 | 32=>146 | 22=>34 | 0=>0 | 44=>178 | 46=>180 | 4=>4 | 36=>171 | 35=>170 | 41=>115 | 5=>5 | 9=>9 | 53=>184 | 57=>188 | 63=>190 | 64=>74 | n=>n,fun | n=>n⟩
theorem Tryz.sortL:Go.Proofs.SlLaysM.n5 Tryz.prog Tryz.sortL_ren where
  mixed:=by kernel_rfl
  f5:=⟨ "slices.Sort[[]int,int]",by decide,Tryz.func175.trans (congrArg some (by kernel_rfl))⟩
  f7:=⟨ "slices.pdqsortOrdered[int]",by decide,Tryz.func213.trans (congrArg some (by kernel_rfl))⟩
  f8:=Tryz.func214.trans (congrArg some (by kernel_rfl))
  f10:=⟨ "slices.insertionSortOrdered[int]",by decide,Tryz.func231.trans (congrArg some (by kernel_rfl))⟩
  f11:=⟨ "slices.heapSortOrdered[int]",by decide,Tryz.func232.trans (congrArg some (by kernel_rfl))⟩
  f12:=⟨ "slices.breakPatternsOrdered[int]",by decide,Tryz.func233.trans (congrArg some (by kernel_rfl))⟩
  f13:=⟨ "slices.choosePivotOrdered[int]",by decide,Tryz.func234.trans (congrArg some (by kernel_rfl))⟩
  f14:=⟨ "slices.reverseRangeOrdered[int]",by decide,Tryz.func235.trans (congrArg some (by kernel_rfl))⟩
  f15:=⟨ "slices.partialInsertionSortOrdered[int]",by decide,Tryz.func236.trans (congrArg some (by kernel_rfl))⟩
  f16:=⟨ "cmp.Less[int]",by decide,Tryz.func237.trans (congrArg some (by kernel_rfl))⟩
  f17:=⟨ "slices.partitionEqualOrdered[int]",by decide,Tryz.func238.trans (congrArg some (by kernel_rfl))⟩
  f18:=⟨ "slices.partitionOrdered[int]",by decide,Tryz.func239.trans (congrArg some (by kernel_rfl))⟩
  f19:=Tryz.func240.trans (congrArg some (by kernel_rfl))
  f20:=Tryz.func241.trans (congrArg some (by kernel_rfl))
  f30:=⟨ "slices.siftDownOrdered[int]",by decide,Tryz.func248.trans (congrArg some (by kernel_rfl))⟩
  f31:=Tryz.func249.trans (congrArg some (by kernel_rfl))
  f32:=Tryz.func250.trans (congrArg some (by kernel_rfl))
  f33:=⟨ "slices.medianAdjacentOrdered[int]",by decide,Tryz.func251.trans (congrArg some (by kernel_rfl))⟩
  f34:=⟨ "slices.medianOrdered[int]",by decide,Tryz.func252.trans (congrArg some (by kernel_rfl))⟩
  f35:=⟨ "cmp.isNaN[int]",by decide,Tryz.func253.trans (congrArg some (by kernel_rfl))⟩
  f40:=⟨ "slices.order2Ordered[int]",by decide,Tryz.func254.trans (congrArg some (by kernel_rfl))⟩
  t0:=Tryz.underlying0
  a0:=Tryz.isAgg0
  z0:=Tryz.sizeOf0
  v0:=Tryz.zeroValue0
  t3:=Tryz.underlying3
  a3:=Tryz.isAgg3
  z3:=Tryz.sizeOf3
  v3:=Tryz.zeroValue3
  t4:=Tryz.underlying4
  a4:=Tryz.isAgg4
  z4:=Tryz.sizeOf4
  v4:=Tryz.zeroValue4
  t5:=Tryz.underlying5
  a5:=Tryz.isAgg5
  z5:=Tryz.sizeOf5
  v5:=Tryz.zeroValue5
  t9:=Tryz.underlying9
  a9:=Tryz.isAgg9
  z9:=Tryz.sizeOf9
  v9:=Tryz.zeroValue9
  t22:=Tryz.underlying34
  a22:=Tryz.isAgg34
  z22:=Tryz.sizeOf34
  v22:=Tryz.zeroValue34
  t23:=Tryz.underlying34
  a23:=Tryz.isAgg34
  z23:=Tryz.sizeOf34
  v23:=Tryz.zeroValue34
  t25:=Tryz.underlying3
  a25:=Tryz.isAgg3
  z25:=Tryz.sizeOf3
  v25:=Tryz.zeroValue3
  t32:=Tryz.underlying146
  a32:=Tryz.isAgg146
  z32:=Tryz.sizeOf146
  v32:=Tryz.zeroValue146
  t35:=Tryz.underlying170
  a35:=Tryz.isAgg170
  z35:=Tryz.sizeOf170
  v35:=Tryz.zeroValue170
  t36:=Tryz.underlying171
  a36:=Tryz.isAgg171
  z36:=Tryz.sizeOf171
  v36:=Tryz.zeroValue171
  t41:=Tryz.underlying115
  a41:=Tryz.isAgg115
  z41:=Tryz.sizeOf115
  v41:=Tryz.zeroValue115
  t44:=Tryz.underlying178
  a44:=Tryz.isAgg178
  z44:=Tryz.sizeOf178
  v44:=Tryz.zeroValue178
  t46:=Tryz.underlying180
  a46:=Tryz.isAgg180
  z46:=Tryz.sizeOf180
  v46:=Tryz.zeroValue180
  t53:=Tryz.underlying184
  a53:=Tryz.isAgg184
  z53:=Tryz.sizeOf184
  v53:=Tryz.zeroValue184
  t57:=Tryz.underlying188
  a57:=Tryz.isAgg188
  z57:=Tryz.sizeOf188
  v57:=Tryz.zeroValue188
  t63:=Tryz.underlying190
  a63:=Tryz.isAgg190
  z63:=Tryz.sizeOf190
  v63:=Tryz.zeroValue190
  t64:=Tryz.underlying74
  a64:=Tryz.isAgg74
  z64:=Tryz.sizeOf74
  v64:=Tryz.zeroValue74
end
end Go.Proofs
namespace Go.Tf
noncomputable section
open Go.Proofs Go.Proofs.Tryz
set_option synthInstance.maxHeartbeats 400000
set_option synthInstance.maxSize 10000
set_option linter.unusedVariables false
set_option linter.unusedSimpArgs false
set_option maxRecDepth 100000
theorem yLK {h:za} {Z:Nat→Prop} {l:List Int} {vs:List Value} {fps:List (List Nat)} (e:Elems h Z tI .fz l vs fps):vs=l.map (Value.int .i64)∧fps.flatten= []∧ ∀x∈l,Rd h Z tI x [.int .i64 x]:=by
 have hs:tI.size=1:=rfl
 have key: ∀i x,l[i]? =some x→vs[i]? =some (Value.int .i64 x)∧fps[i]? =some []∧Rd h Z tI x [.int .i64 x]:=fun i x hx=>by
  obtain⟨f,h1,h2⟩:=e.el i x hx;obtain⟨h3,rfl⟩:=h2;have h4:=h3;obtain⟨h5,_⟩:=h3;rw[hs,Nat.mul_one]at h5 h4;refine⟨?_,h1,by rw[h5]at h4; exact h4⟩;have:=congrArg (fun q:List Value=>q[0]?) h5;simpa [List.getElem?_take,List.getElem?_drop]using this
 have hl:=e.len;rw[hs,Nat.mul_one]at hl;refine⟨?_,?_,fun x hx=> ?_⟩
 ·apply List.ext_getElem?
  intro i;rw[List.getElem?_map];cases hq:l[i]? with
  | none =>
   have:=List.getElem?_eq_none_iff.1 hq;rw[List.getElem?_eq_none (by omega)]; rfl
  | some x=>exact(key i x hq).1
 ·rw[List.flatten_eq_nil_iff]
  intro f hf;obtain⟨i,hi,rfl⟩:=List.getElem_of_mem hf;have hi2:i<l.length:=by rw[← e.fl]; exact hi
  have:=(key i l[i] (List.getElem?_eq_getElem hi2)).2.1;rw[List.getElem?_eq_getElem hi]at this;exact Option.some.inj this
 ·obtain⟨i,hi,rfl⟩:=List.getElem_of_mem hx
  exact(key i l[i] (List.getElem?_eq_getElem hi)).2.2
theorem yK0 {h:za} {Z:Nat→Prop} {l:List Int} (hl: ∀x∈l,Rd h Z tI x [.int .i64 x]):Elems h Z tI .fz l (l.map (Value.int .i64)) (List.replicate l.length []):=by
 refine⟨by rw[List.length_map]; show l.length=l.length*1; omega,by simp,fun i x hx=>⟨[],?_,?_⟩⟩
 ·have hi:=(List.getElem?_eq_some_iff.1 hx).1
  simp[List.getElem?_replicate,hi]
 ·have hi:=(List.getElem?_eq_some_iff.1 hx).1
  have h1:((l.map (Value.int .i64)).drop (i*tI.size)).take tI.size= [.int .i64 x]:=by
   show((l.map (Value.int .i64)).drop (i*1)).take 1=_;rw[Nat.mul_one];apply List.ext_getElem?;intro j;rw[List.getElem?_take,List.getElem?_drop,List.getElem?_map];cases j with
   | zero=>simp[hx]
   | succ j=>simp
  rw[h1];exact⟨hl x (List.mem_of_getElem? hx),rfl⟩
theorem yPP {w:World} {b o:Nat} {d:Array Int} {c:Array Value} {T:TypeId} (hb:hp w b=some (.cells c T (0,0))) (n:Nat) (os:Array Obj):hp (Sort.grow (Sort.putRow (Value.int .i64) (Sort.ahead w n) b o d) os) b=some (.cells (Sort.putCells (Value.int .i64) o d c) T (0,0)):=by
 have hb':w.heap[b]? =some (.cells c T (0,0)):=hb;have hlt:b<w.heap.size:=(Array.getElem?_eq_some_iff.1 hb').1;show(w.heap.modify b (Sort.onCells (Sort.putCells (Value.int .i64) o d))++os)[b]? =_;rw[Array.getElem?_append_left (by rw[Array.size_modify]; exact hlt),Array.getElem?_modify,if_pos rfl,hb'];rfl
theorem yDL {w:World} {b b' o:Nat} {d:Array Int} (hlt:b'<w.heap.size) (hne:b'≠b) (n:Nat) (os:Array Obj):hp (Sort.grow (Sort.putRow (Value.int .i64) (Sort.ahead w n) b o d) os) b'=hp w b':=by
 show(w.heap.modify b (Sort.onCells (Sort.putCells (Value.int .i64) o d))++os)[b']? =_;rw[Array.getElem?_append_left (by rw[Array.size_modify]; exact hlt),Array.getElem?_modify,if_neg (fun e=>hne e.symm)];rfl
theorem yC9 {h:za} {b o m:Nat} {l:List Int} {c:Array Value} {T:TypeId} (hb:h b=some (.cells (Sort.putCells (Value.int .i64) o l.toArray c) T (0,0))) (ho:o+l.length≤c.size) (hm:m≤l.length):zh h b o m=some ((l.take m).map (Value.int .i64)):=by
 have hl:((l.take m).map (Value.int .i64)).length=m:=by rw[List.length_map,List.length_take]; omega
 have:=zap (h:=h) (b:=b) ((l.take m).map (Value.int .i64)) o (fun j hj=>by
  rw[hl]at hj;unfold zL;rw[hb];show(Sort.putCells (Value.int .i64) o l.toArray c)[o+j]? =_;unfold Sort.putCells;rw[Array.getElem?_mapIdx,Array.getElem?_eq_getElem (show o+j<c.size by omega),Option.map_some,if_pos (by rw[List.size_toArray]; omega),List.getElem?_map,List.getElem?_take,if_pos hj];have hjl:j<l.length:=by omega
  rw[List.getElem?_eq_getElem hjl,show o+j-o=j by omega]
  simp[hjl])
 rw[hl]at this; exact this
theorem yLH {w:World} {b o:Nat} {l:List Int} {c:Array Value} {T:TypeId} (hb:hp w b=some (.cells c T (0,0))) (hc:zh (hp w) b o l.length=some (l.map (Value.int .i64))):Sort.Holds (Value.int .i64) w b o l.toArray:=by
 intro j hj;rw[List.size_toArray]at hj;refine⟨?_,?_⟩
 ·rw[zb1,← zab hc j hj,List.getElem?_map,List.getElem?_eq_getElem hj]
  simp[hj]
 ·unfold World.frozen?
  have:w.heap[b]? =some (.cells c T (0,0)):=hb;simp[this]
def yao (l:List Int):Bool:=decide (0<l.length∧l.length≤1000)
def yo (l:List Int):List Int:=l.mergeSort fun x y=>decide (x≤y)
def yRV:Con:=⟨yg1,yg7,fun x=>bif yao x.1 then some ((),(yo x.1,()))else none⟩
theorem yUi:ConOk prog 175 yRV where
 fn:=⟨_,func175,by kernel_rfl,by kernel_rfl⟩
 run:=fun w Z R xs args fs r ha hF hz hnd hfr=>by
  obtain⟨l,_⟩:=xs;rcases args with _ | ⟨a0,_ | ⟨a1,t⟩⟩<;>rcases fs with _ | ⟨f0,_ | ⟨f1,u⟩⟩<;>try (simp[ArgsOk,yRV]at ha; done)
  obtain⟨⟨cs0,rfl,o0⟩,_⟩:=ha;have hF':(bif yao l then some (((),(yo l,())):zaY yg7×zak yg1)else none)=some r:=hF;cases hq:yao l with
  | false=>rw[hq]at hF'; cases hF'
  | true =>
   rw[hq]at hF';obtain rfl:=Option.some.inj hF';have hq:=of_decide_eq_true hq;have hl1:=Own.len o0;obtain⟨a0,rfl⟩:=List.length_eq_one_iff.1 hl1;have hfl:([f0]:List (List Nat)).flatten=f0:=by simp
   rw[hfl]at hfr hnd;obtain⟨hd,cap,hv0,hbnd,hlc,hc0⟩:=Own.elems o0;subst hv0;have hlc:l.length≤cap:=hlc;have hbnd:l.length*tI.bytes≤2^47:=hbnd;rcases hc0 with⟨rfl,_⟩ | ⟨b,o,c,T,vs0,fp0,rfl,hB,hcap,hf0,hcs0,e0⟩
   ·exact absurd hq.1 (Nat.lt_irrefl 0)
   ·obtain⟨rfl,hfn,hrd⟩:=yLK e0
    rw[hfn]at hf0;have hs:tI.size=1:=rfl;rw[hs,Nat.mul_one]at hcs0 hcap;have hbf:b∈f0:=by rw[hf0]; exact List.mem_cons_self
    obtain⟨hblt,hbZ,_⟩:=hfr b hbf;have hsl:(yo l).length=l.length:=(List.mergeSort_perm l _).length_eq;refine(AnyM.slices_Sort_int Tryz.sortL b o cap l w (yLH hB hcs0) hblt (by omega)).mono fun e w2 ⟨he,n,os,hw2⟩=> ?_
    subst he hw2;have hB2:=yPP (o:=o) (d:=(yo l).toArray) hB n os;have oth: ∀b',b'<w.heap.size→b'≠b→hp (Sort.grow (Sort.putRow (Value.int .i64) (Sort.ahead w n) b o (yo l).toArray) os) b'=hp w b':=fun b' h1 h2=>yDL h1 h2 n os
    have hcs:=yC9 hB2 (by omega) (Nat.le_refl _);rw[List.take_length]at hcs;have hrd2: ∀x∈yo l,Rd (hp (Sort.grow (Sort.putRow (Value.int .i64) (Sort.ahead w n) b o (yo l).toArray) os)) Z tI x [.int .i64 x]:=fun x hx=>Rd.keep (fun b' hb'=>oth b' (hz b' (.inl hb')) (fun e=>hbZ (e ▸ hb'))) (fun _ h=>h) (hrd x ((List.mergeSort_perm l _).mem_iff.1 hx))
    have hown:=(yK0 hrd2).own (b:=b) (o:=o) (cap:=cap) hB2 (by rw[hs,Nat.mul_one]; exact hcs) (by rw[hs,Nat.mul_one]; unfold Sort.putCells; rw[Array.size_mapIdx]; exact hcap) (by omega) (by rw[hsl]; exact hbnd);rw[zbU,hsl]at hown;refine⟨[],Z,[],[[b]],rfl,rfl,?_,fun b' h1 h2=>oth b' h1 (fun e=>h2 (by rw[hfl,e]; exact hbf)),fun _ h=>h,fun _ h=> .inl h,trivial,⟨⟨_,rfl,hown⟩,trivial⟩,by simp,fun b' hb'=> ?_⟩
    ·show w.heap.size≤(w.heap.modify b _++os).size
     rw[Array.size_append,Array.size_modify]; omega
    ·simp at hb'
     subst hb';exact⟨.inr (by rw[hfl]; exact hbf),hbZ⟩
def yhk (a0:List Int):Option (zaY yg7×zak yg1):=bif yao a0 then(fun n=>some ((),(n,()))) (yo a0)else none
theorem yEo (a0:List Int) (h:yao a0=true):yhk a0=(fun n=>some ((),(n,()))) (yo a0):=by unfold yhk; rw[h]; rfl
def yqW:Con:=⟨yg1,yg7,fun x=>yhk x.1⟩
theorem yEk:ConOk prog 175 yqW:=yUi
abbrev yeK:List Par:= [.kp tL (.ow .fz)]
abbrev yeL:List OT:= [⟨false,tL,(.ow .fz)⟩]
end
end Go.Tf
namespace Go.Proofs
noncomputable section
open Go.Tf Go.RowKit Go.Lib Go.Shelf Go.Sort
set_option synthInstance.maxHeartbeats 400000
set_option synthInstance.maxSize 10000
set_option linter.unusedVariables false
set_option linter.unusedSimpArgs false
set_option maxRecDepth 100000
def Tryz.compL_ren:Go.Shelf.Ren:=⟨fun | 43=>176 | n=>n,fun | 22=>34 | 23=>3 | 3=>3 | 4=>4 | 0=>0 | n=>n,fun | n=>n⟩
theorem Tryz.compL:Go.Proofs.SlLaysN.n43 Tryz.prog Tryz.compL_ren where
  mixed:=by kernel_rfl
  f43:=⟨ "slices.Compact[[]int,int]",by decide,Tryz.func176.trans (congrArg some (by kernel_rfl))⟩
  t0:=Tryz.underlying0
  a0:=Tryz.isAgg0
  z0:=Tryz.sizeOf0
  v0:=Tryz.zeroValue0
  t3:=Tryz.underlying3
  a3:=Tryz.isAgg3
  z3:=Tryz.sizeOf3
  v3:=Tryz.zeroValue3
  t4:=Tryz.underlying4
  a4:=Tryz.isAgg4
  z4:=Tryz.sizeOf4
  v4:=Tryz.zeroValue4
  t22:=Tryz.underlying34
  a22:=Tryz.isAgg34
  z22:=Tryz.sizeOf34
  v22:=Tryz.zeroValue34
  t23:=Tryz.underlying3
  a23:=Tryz.isAgg3
  z23:=Tryz.sizeOf3
  v23:=Tryz.zeroValue3
  i23:=by kernel_rfl
end
end Go.Proofs
namespace Go.Tf
noncomputable section
open Go.Proofs Go.Proofs.Tryz IntKind
set_option synthInstance.maxHeartbeats 400000
set_option synthInstance.maxSize 10000
set_option linter.unusedVariables false
set_option linter.unusedSimpArgs false
set_option maxRecDepth 100000
def yab (l:List Int):Bool:=yao l
def yaX (l:List Int):List Int:=Lib.compact l
def yRU:Con:=⟨yeK,yeL,fun x=>bif yab x.1 then some ((yaX x.1,()),())else none⟩
theorem yT7 (l:List Int):(Lib.compact l).length≤l.length:=by
 unfold Lib.compact Lib.compactUpTo;rw[List.length_map];exact Nat.le_trans (List.length_filter_le _ _) (by simp)
theorem yRT {l:List Int} {x:Int} (h:x∈Lib.compact l):x∈l:=by
 unfold Lib.compact Lib.compactUpTo at h;obtain⟨i,hi,rfl⟩:=List.mem_map.1 h;have hi:=List.mem_range.1 (List.mem_filter.1 hi).1;simp[hi]
theorem yT8:ConOk prog 176 yRU where
 fn:=⟨_,func176,by kernel_rfl,by kernel_rfl⟩
 run:=fun w Z R xs args fs r ha hF hz hnd hfr=>by
  obtain⟨l,_⟩:=xs;rcases args with _ | ⟨a0,_ | ⟨a1,t⟩⟩<;>rcases fs with _ | ⟨f0,_ | ⟨f1,u⟩⟩<;>try (simp[ArgsOk,yRU]at ha; done)
  obtain⟨⟨cs0,rfl,o0⟩,_⟩:=ha;have hF':(bif yab l then some (((yaX l,()),()):zaY yeL×zak yeK)else none)=some r:=hF;cases hq:yab l with
  | false=>rw[hq]at hF'; cases hF'
  | true =>
   rw[hq]at hF';obtain rfl:=Option.some.inj hF';have hq:=of_decide_eq_true hq;have hl1:=Own.len o0;obtain⟨a0,rfl⟩:=List.length_eq_one_iff.1 hl1;have hfl:([f0]:List (List Nat)).flatten=f0:=by simp
   rw[hfl]at hfr hnd;obtain⟨hd,cap,hv0,hbnd,hlc,hc0⟩:=Own.elems o0;subst hv0;have hlc:l.length≤cap:=hlc;have hbnd:l.length*tI.bytes≤2^47:=hbnd;rcases hc0 with⟨rfl,_⟩ | ⟨b,o,c,T,vs0,fp0,rfl,hB,hcap,hf0,hcs0,e0⟩
   ·exact absurd hq.1 (Nat.lt_irrefl 0)
   ·obtain⟨rfl,hfn,hrd⟩:=yLK e0
    rw[hfn]at hf0;have hs:tI.size=1:=rfl;rw[hs,Nat.mul_one]at hcs0 hcap;have hbf:b∈f0:=by rw[hf0]; exact List.mem_cons_self
    obtain⟨hblt,hbZ,_⟩:=hfr b hbf;have hcl:=yT7 l;have hL:(Lib.compact l++List.replicate (l.length-(Lib.compact l).length) (0:Int)).length=l.length:=by rw[List.length_append,List.length_replicate]; omega
    refine(AnyG.slices_Compact_int Tryz.compL b o cap l w (yLH hB hcs0) (by omega) hlc).mono fun e w2 ⟨he,n,hw2⟩=> ?_
    rw[← Sort.grow_empty (Sort.putRow _ _ _ _ _)]at hw2;subst he hw2;have hB2:=yPP (o:=o) (d:=(Lib.compact l++List.replicate (l.length-(Lib.compact l).length) (0:Int)).toArray) hB n #[];have oth: ∀b',b'<w.heap.size→b'≠b→hp (Sort.grow (Sort.putRow (Value.int .i64) (Sort.ahead w n) b o (Lib.compact l++List.replicate (l.length-(Lib.compact l).length) (0:Int)).toArray) #[]) b'=hp w b':=fun b' h1 h2=>yDL h1 h2 n #[]
    have hcs:=yC9 (m:=(Lib.compact l).length) hB2 (by omega) (by omega);rw[List.take_left]at hcs;have hrd2: ∀x∈Lib.compact l,Rd (hp (Sort.grow (Sort.putRow (Value.int .i64) (Sort.ahead w n) b o (Lib.compact l++List.replicate (l.length-(Lib.compact l).length) (0:Int)).toArray) #[])) Z tI x [.int .i64 x]:=fun x hx=>Rd.keep (fun b' hb'=>oth b' (hz b' (.inl hb')) (fun e=>hbZ (e ▸ hb'))) (fun _ h=>h) (hrd x (yRT hx))
    have hown:=(yK0 hrd2).own (b:=b) (o:=o) (cap:=cap) hB2 (by rw[hs,Nat.mul_one]; exact hcs) (by rw[hs,Nat.mul_one]; unfold Sort.putCells; rw[Array.size_mapIdx]; exact hcap) (by omega) (by have:tI.bytes=8:=rfl; rw[this]at hbnd ⊢; omega);rw[zbU]at hown;refine⟨[_],Z,[[b]],[[]],rfl,rfl,?_,fun b' h1 h2=>oth b' h1 (fun e=>h2 (by rw[hfl,e]; exact hbf)),fun _ h=>h,fun _ h=> .inl h,⟨⟨_,rfl,hown⟩,trivial⟩,⟨rfl,trivial⟩,by simp,fun b' hb'=> ?_⟩
    ·show w.heap.size≤(w.heap.modify b _++ #[]).size
     rw[Array.size_append,Array.size_modify]; omega
    ·simp at hb'
     subst hb';exact⟨.inr (by rw[hfl]; exact hbf),hbZ⟩
def yeN (a0:List Int):Option (zaY yeL×zak yeK):=bif yab a0 then(fun n=>some ((n,()),())) (yaX a0)else none
theorem yBr (a0:List Int) (h:yab a0=true):yeN a0=(fun n=>some ((n,()),())) (yaX a0):=by unfold yeN; rw[h]; rfl
def ymZ:Con:=⟨yeK,yeL,fun x=>yeN x.1⟩
theorem yBl:ConOk prog 176 ymZ:=yT8
def yJ8:Code:=(f110.body).getD .skip
def yKw:Env:=zkw TT [(127,yhD),(133,ydf),(156,yj9),(175,yqW),(176,ymZ)] []
theorem yDo:FrOk prog ⟨yKw,32,fun _=>none⟩ yJ8:=zkA mixed yd ⟨ynt,ygM,yss,yEk,yBl,trivial⟩
abbrev yjJ:List Par:= [.rd tM,.rd tI]
abbrev ypz:List OT:= [⟨false,tM,(.pr (.ow (.ow .fz)) (.pr (.ow (.pr .fz (.ow .fz))) (.pr .fz (.ow .fz))))⟩]
def ymB (a0:dM) (a1:Int):Option (zaY ypz×zak yjJ) :=let r1:=yB a0;let r2:=yaQ a0;bif(!(!r2))then let r3:=yaT a0 a1;bif(!r3)then some ((r1,()),()) else bif(zkl r1.2.2.2.length ([a1]:List Int).length 8)then bnd (yhk (r1.2.2.2++([a1]:List Int))) fun r4 =>bnd (yeN r4.2.1) fun r5 =>some (((r1.1,r1.2.1,r1.2.2.1,r5.1.1),()),()) else none else some ((r1,()),())
theorem yGi:ConOk prog 110 ⟨yjJ,ypz,fun x=>ymB x.1 x.2.1⟩:=zkI (yDo) func110 ntmps110.symm fun x=>by kernel_rfl
theorem ySo {zs:List Int} (h:zs.Pairwise (· ≤ ·)):(Lib.compact zs).Pairwise (· < ·)∧ ∀x,x∈Lib.compact zs↔x∈zs:=by
 have hle: ∀i j,i≤j→j<zs.length→zs.toArray[i]! ≤zs.toArray[j]! :=fun i j hij hj=>by
  have e: ∀k,k<zs.length→zs.toArray[k]! =zs[k]! :=fun k hk=>by simp[hk]
  rw[e i (by omega),e j hj];rcases Nat.lt_or_ge i j with g | g
  ·have:=List.pairwise_iff_getElem.1 h i j (by omega) hj g
   rwa[getElem!_pos zs i (by omega),getElem!_pos zs j hj]
  ·have:i=j:=by omega
   subst this; exact Int.le_refl _
 have key: ∀m,m≤zs.length→(Lib.compactUpTo zs.toArray m).Pairwise (· < ·)∧(∀x∈Lib.compactUpTo zs.toArray m,∃j,j<m∧x=zs.toArray[j]!)∧ ∀j,j<m→zs.toArray[j]! ∈Lib.compactUpTo zs.toArray m:=by
  intro m
  induction m with
  | zero=>intro _; exact⟨List.Pairwise.nil,(fun x hx=>nomatch hx),fun j hj=>absurd hj (Nat.not_lt_zero j)⟩
  | succ m ih =>
   intro hm;obtain⟨i1,i2,i3⟩:=ih (by omega);rw[Lib.compactUpTo_succ];cases hk:Lib.keeps zs.toArray m
   ·rw[if_neg (by simp),List.append_nil]
    have hk2: ¬(m=0∨zs.toArray[m]! ≠zs.toArray[m-1]!):=of_decide_eq_false hk;have h0:m≠0:=fun e=>hk2 (.inl e)
    have he:zs.toArray[m]! =zs.toArray[m-1]! :=Classical.byContradiction fun e=>hk2 (.inr e)
    refine⟨i1,fun x hx=> ?_,fun j hj=> ?_⟩
    ·obtain⟨j,hj,e⟩:=i2 x hx
     exact⟨j,by omega,e⟩
    ·by_cases hjm:j=m
     ·subst hjm; rw[he]; exact i3 _ (by omega)
     ·exact i3 j (by omega)
   ·rw[if_pos rfl]
    have hk2:m=0∨zs.toArray[m]! ≠zs.toArray[m-1]! :=of_decide_eq_true hk;refine⟨?_,fun x hx=> ?_,fun j hj=> ?_⟩
    ·rw[List.pairwise_append]
     refine⟨i1,List.pairwise_singleton _ _,fun x hx y hy=> ?_⟩;rw[List.mem_singleton]at hy;subst hy;obtain⟨j,hj,rfl⟩:=i2 x hx;rcases hk2 with rfl | hk2
     ·omega
     ·have g1:=hle j (m-1) (by omega) (by omega)
      have g2:=hle (m-1) m (by omega) (by omega);omega
    ·rcases List.mem_append.1 hx with hx | hx
     ·obtain⟨j,hj,e⟩:=i2 x hx
      exact⟨j,by omega,e⟩
     ·exact⟨m,by omega,List.mem_singleton.1 hx⟩
    ·by_cases hjm:j=m
     ·subst hjm; exact List.mem_append.2 (.inr (List.mem_singleton.2 rfl))
     ·exact List.mem_append.2 (.inl (i3 j (by omega)))
 obtain⟨k1,k2,k3⟩:=key zs.length (Nat.le_refl _);refine⟨k1,fun x=>⟨fun hx=>yRT hx,fun hx=> ?_⟩⟩;obtain⟨i,hi,rfl⟩:=List.getElem_of_mem hx;have:=k3 i hi;have e:zs.toArray[i]! =zs[i]:=by simp[hi]
 rw[e]at this;exact this
theorem ySC {l m:List Int} (hl:l.Pairwise (· < ·)) (hm:m.Pairwise (· < ·)) (h: ∀x,x∈l↔x∈m):l=m:=by
 have nl:l.Nodup:=hl.imp (fun h=>by omega);have nm:m.Nodup:=hm.imp (fun h=>by omega);exact List.Perm.eq_of_pairwise (le:=(· < ·)) (fun a b _ _ h1 h2=>by omega) hl hm ((List.perm_ext_iff_of_nodup nl nm).2 h)
theorem yTW {l:List Int} {n:Int} (h:l.Pairwise (· < ·)):yaX (yo (l++ [n]))=bif l.any (· ==n)then l else yqd l n:=by
 have hs:(yo (l++ [n])).Pairwise (· ≤ ·):=(List.pairwise_mergeSort (le:=fun x y:Int=>decide (x≤y)) (fun a b c h1 h2=>decide_eq_true (by have:=of_decide_eq_true h1; have:=of_decide_eq_true h2; omega)) (fun a b=>by
  by_cases hab:a≤b
  ·simp[hab]
  ·have:b≤a:=by omega
   simp[this]) (l++ [n])).imp (fun h=>of_decide_eq_true h)
 obtain⟨c1,c2⟩:=ySo hs
 have hm: ∀x,x∈yaX (yo (l++ [n]))↔(x∈l∨x=n):=fun x=>by
  refine(c2 x).trans (((List.mergeSort_perm (l++ [n]) _).mem_iff).trans ?_);rw[List.mem_append,List.mem_singleton]
 cases hn:l.any (· ==n)
 ·refine ySC c1 ?_ fun x=>(hm x).trans ?_
  ·show(yqd l n).Pairwise (· < ·)
   unfold yqd;rw[List.pairwise_append,List.pairwise_cons];refine⟨h.filter _,⟨fun y hy=>zka.1 (List.mem_filter.1 hy).2,h.filter _⟩,fun x hx y hy=> ?_⟩;have g1:=zka.1 (List.mem_filter.1 hx).2;rcases List.mem_cons.1 hy with rfl | hy
   ·exact g1
   ·exact Int.lt_trans g1 (zka.1 (List.mem_filter.1 hy).2)
  ·show _↔x∈yqd l n
   unfold yqd;rw[List.mem_append,List.mem_cons,List.mem_filter,List.mem_filter,zka,zka];constructor
   ·rintro(hx | rfl)
    ·rcases Int.lt_trichotomy x n with g | g | g
     ·exact .inl ⟨hx,g⟩
     ·exact .inr (.inl g)
     ·exact .inr (.inr ⟨hx,g⟩)
    ·exact .inr (.inl rfl)
   ·rintro(g | g | g)
    ·exact .inl g.1
    ·exact .inr g
    ·exact .inl g.1
 ·refine ySC c1 h fun x=>(hm x).trans ?_
  constructor
  ·rintro(hx | rfl)
   ·exact hx
   ·obtain⟨y,hy,e⟩:=List.any_eq_true.1 hn
    rw[← beq_iff_eq.1 e]; exact hy
  ·exact .inl
def ygF (a0:dM) (a1:Int):dM:=spoil a0 a1
theorem yIQ (a0:dM) (a1:Int) (hk:zjx yjJ (a0,a1,())):ymB a0 a1=(fun n=>some ((n,()),())) (ygF a0 a1):=by
 have hb:a0.1.length*24≤2^47:=hk.1.1.1;unfold ymB ygF spoil;simp only[yB,yaQ,yaT,yaa,ygB (show a0.1.length≤1152921504606846976 by omega),Bool.not_not];cases hm:yq a0
 ·rfl
 ·obtain⟨h1,h2,h3,h4,h5,h6⟩:=yak hm
  rw[yh9]at h3;cases hi:inb a1 a0.1.length
  ·rfl
  ·have hl:a0.2.2.2.length≤64:=by
    have:=yAX (l:=a0.2.2.2) (lo:=0) (n:=(a0.1.length:Int)) h3.2 (fun x hx=>by have:=h3.1 x hx; omega) (by omega);omega
   have hap:zkl a0.2.2.2.length ([a1]:List Int).length 8=true:=zkF.2 (by simp only[List.length_cons,List.length_nil]; omega);have hq:yao (a0.2.2.2++ [a1])=true:=decide_eq_true (by simp only[List.length_append,List.length_cons,List.length_nil]; omega)
   have hq2:yab (yo (a0.2.2.2++ [a1]))=true:=by
    have:(yo (a0.2.2.2++ [a1])).length=(a0.2.2.2++ [a1]).length:=(List.mergeSort_perm _ _).length_eq;unfold yab yao;rw[this]; exact hq
   simp only[hap,cond_true,Bool.not_true,cond_false,yEo _ hq,zkH,yBr _ hq2,yTW h3.2];cases a0.2.2.2.any (· ==a1)<;>rfl
def yvJ:Con:=⟨yjJ,ypz,fun x=>(fun n=>some ((n,()),())) (ygF x.1 x.2.1)⟩
theorem yJE:ConOk prog 110 yvJ:=(yGi).mono (fun x r hk h=>(yIQ x.1 x.2.1 hk).trans h)
def yP3:Code:=(f111.body).getD .skip
def yQr:Env:=zkw TT [(81,yL)] []
theorem yHt:FrOk prog ⟨yQr,9,fun _=>none⟩ yP3:=zkA mixed yd ⟨yam,trivial⟩
abbrev yud:List Par:= [.rd tI]
abbrev yux:List OT:= [⟨false,tI,.fz⟩]
def yAj (a0:Int):Option (zaY yux×zak yud) :=let r1:=yf a0 0 1099511627776;bif(!r1)then some (((-1),()),()) else some (((i64.wrap ((i64.wrap (a0+2))+4)),()),())
theorem yMi:ConOk prog 111 ⟨yud,yux,fun x=>yAj x.1⟩:=zkI (yHt) func111 ntmps111.symm fun x=>by kernel_rfl
def yiU (a0:Int):Int :=let r1:=yf a0 0 1099511627776;bif(!r1)then (-1) else (i64.wrap ((i64.wrap (a0+2))+4))
def ypT:Con:=⟨yud,yux,fun x=>(fun n=>some ((n,()),())) (yiU x.1)⟩
theorem yOq (a0:Int):yAj a0=(fun n=>some ((n,()),())) (yiU a0):=zkV (p:=fun(n:Int)=>((n,()),())) (zkG (p:=fun(n:Int)=>((n,()),())) rfl rfl)
theorem yBj:ConOk prog 111 ypT:=(yMi).mono (fun x r _ h=>(yOq x.1).trans h)
theorem yBf (s:Int):yiU s=ybG s:=yaZ s
def yNs:Code:=(f41.body).getD .skip
def yNV:Env:=zkw TT [(55,ylL),(95,ynR),(106,yir),(109,ykK),(110,yvJ),(111,ypT)] []
theorem yFe:FrOk prog ⟨yNV,36,fun _=>none⟩ yNs:=zkA mixed yd ⟨yu7,yz7,yqq,ywj,yJE,yBj,trivial⟩
abbrev ylt:List Par:= [.rd tA,.rd tI,.rd tI]
abbrev yrW:List OT:= [⟨false,tA,(.pr .fz (.pr (.pr .fz .fz) (.pr (.ow (.pr (.ow (.ow .fz)) (.pr (.ow (.pr .fz (.ow .fz))) (.pr .fz (.ow .fz))))) (.pr .fz (.pr .fz (.pr .fz (.pr .fz (.pr .fz (.pr (.ow (.pr .fz (.ow .fz))) (.pr .fz (.pr .fz .fz)))))))))))⟩]
def yoe (a0:dA) (a1 a2:Int):Option (zaY yrW×zak ylt) :=let r1:=ydh a0;let r2:=ycv a0;bif r2 then let r3:=yaW a0 a1;bif r3 then let r4:=ybW a0.2.1 a2;bif r4 then bif(inb a1 a0.2.2.1.length)then let r5:=yiU a2;let r6:=ygF ((nth a0.2.2.1 a1 ([],[],false,[])).1,((nth a0.2.2.1 a1 ([],[],false,[])).2).1,(((nth a0.2.2.1 a1 ([],[],false,[])).2).2)) r5;bif(inb a1 r1.2.2.1.length)then some (((r1.1,r1.2.1,(r1.2.2.1.set (a1).toNat r6),r1.2.2.2),()),()) else none else none else some ((r1,()),()) else some ((r1,()),()) else some ((r1,()),())
theorem yI8:ConOk prog 41 ⟨ylt,yrW,fun x=>yoe x.1 x.2.1 x.2.2.1⟩:=zkI (yFe) func41 ntmps41.symm fun x=>by kernel_rfl
def yhL (a0:dA) (a1 a2:Int):dA:=ywI a0 a1 a2
theorem yLU (a0:dA) (a1 a2:Int) (hk:zjx ylt (a0,a1,a2,())):yoe a0 a1 a2=(fun n=>some ((n,()),())) (yhL a0 a1 a2):=by
 unfold yoe yhL ywI;simp only[ydh,ycv,ygF,ySr,yBf];cases ha:yP a0
 ·rfl
 ·have h5:=yHn ha
  have hd:yaW a0 a1=inb a1 a0.2.2.1.length:=by
   unfold yaW;rw[yaa,ygB (show a0.2.2.1.length≤1152921504606846976 by omega)]
  rw[hd];cases hi:inb a1 a0.2.2.1.length
  ·rfl
  ·cases ya0 a0.2.1 a2<;>rfl
def yxS:Con:=⟨ylt,yrW,fun x=>(fun n=>some ((n,()),())) (yhL x.1 x.2.1 x.2.2.1)⟩
theorem yMR:ConOk prog 41 yxS:=(yI8).mono (fun x r hk h=>(yLU x.1 x.2.1 x.2.2.1 hk).trans h)
def yNA:Code:=(f42.body).getD .skip
def yN3:Env:=zkw TT [(78,yhE),(82,yj),(100,yp1),(112,yhh),(113,yay)] []
theorem yFD:FrOk prog ⟨yN3,41,fun _=>none⟩ yNA:=zkA mixed yd ⟨ynu,ym,yBp,yoc,yb3,trivial⟩
abbrev ylA:List Par:= [.rd tA,.rd tI,.rd tI]
abbrev ysa:List OT:= [⟨false,tA,(.pr .fz (.pr (.pr .fz .fz) (.pr (.ow (.pr (.ow .fz) (.pr (.ow (.pr .fz .fz)) (.pr .fz (.ow .fz))))) (.pr .fz (.pr .fz (.pr .fz (.pr .fz (.pr .fz (.pr (.ow (.pr .fz .fz)) (.pr .fz (.pr .fz .fz)))))))))))⟩]
def yom (a0:dA) (a1 a2:Int):Option (zaY ysa×zak ylA) :=let r1:=yd5 a0;let r2:=yag a0;bif r2 then let r3:=ya a1 0 (i64.wrap ((a0.2.2.1.length:Int)-1));bif r3 then let r4:=ya a2 0 (i64.wrap (a0.2.1.2-1));bif r4 then bif(inb a1 a0.2.2.1.length)then let r5:=yK a2;let r6:=ybn ((nth a0.2.2.1 a1 ([],[],false,[])).1,((nth a0.2.2.1 a1 ([],[],false,[])).2).1,(((nth a0.2.2.1 a1 ([],[],false,[])).2).2)) r5;bif(inb a1 r1.2.2.1.length)then some (((r1.1,r1.2.1,(r1.2.2.1.set (a1).toNat r6),r1.2.2.2),()),()) else none else none else some ((r1,()),()) else some ((r1,()),()) else some ((r1,()),())
theorem yJn:ConOk prog 42 ⟨ylA,ysa,fun x=>yom x.1 x.2.1 x.2.2.1⟩:=zkI (yFD) func42 ntmps42.symm fun x=>by kernel_rfl
def yhQ (a0:dA) (a1 a2:Int):dA:=ywI a0 a1 a2
theorem yL7 (a0:dA) (a1 a2:Int) (hk:zjx ylA (a0,a1,a2,())):yom a0 a1 a2=(fun n=>some ((n,()),())) (yhQ a0 a1 a2):=by
 unfold yom yhQ ywI;simp only[yd5,yag,yaZ,ybn];cases ha:yP a0
 ·rfl
 ·have hg:=yk.1 (ykJ ha)
  have h5:=yHn ha
  rw[ycf,wq ((a0.2.2.1.length:Int)-1) (by omega) (by omega),ycf,wq (a0.2.1.2-1) (by omega) (by omega),show(leb 0 a2&&leb a2 (a0.2.1.2-1))=ya0 a0.2.1 a2 by unfold ya0; rw[ykJ ha]; rfl,
   show(leb 0 a1&&leb a1 ((a0.2.2.1.length:Int)-1))=inb a1 a0.2.2.1.length by rw[Bool.eq_iff_iff,Bool.and_eq_true,zj7,zj7,zj6]; omega]
  cases hi:inb a1 a0.2.2.1.length
  ·rfl
  ·cases ya0 a0.2.1 a2<;>rfl
def yx2:Con:=⟨ylA,ysa,fun x=>(fun n=>some ((n,()),())) (yhQ x.1 x.2.1 x.2.2.1)⟩
theorem yM1:ConOk prog 42 yx2:=(yJn).mono (fun x r hk h=>(yL7 x.1 x.2.1 x.2.2.1 hk).trans h)
def ydc:Code:=(f44.body).getD .skip
def yho:Env:=zkw TT [(78,yhE),(82,yj),(113,yay)] []
theorem yFw:FrOk prog ⟨yho,68,fun _=>none⟩ ydc:=zkA mixed yd ⟨ynu,ym,yb3,trivial⟩
def ywR:Nat→Option Seg:=fun _=>none
def yar:Shape:=⟨[(1,false,[.int .i64]),(2,false,[.ptr 0 0]),(5,false,[.int .i64]),(6,false,[.int .i64])],[(0,[.int .i64,.int .i64,.int .i64,.br tM,.int .i64,.int .i64,.int .i64,.int .i64,.int .i64,.br tW,.int .i64,.bool,.bool])],[]⟩
def yc5:Shape:=⟨[(1,false,[.int .i64]),(2,false,[.ptr 0 0]),(5,false,[.int .i64]),(6,false,[.ci .i64 0])],[(0,[.int .i64,.int .i64,.int .i64,.br tM,.int .i64,.int .i64,.int .i64,.int .i64,.int .i64,.br tW,.int .i64,.bool,.bool])],[]⟩
def yc0:Shape:=⟨[(1,false,[.int .i64]),(2,false,[.ptr 0 0]),(5,false,[.int .i64])],[(0,[.int .i64,.int .i64,.int .i64,.br tM,.int .i64,.int .i64,.int .i64,.int .i64,.int .i64,.br tW,.int .i64,.bool,.bool])],[]⟩
def yc8:Shape:=⟨[(4,false,[.bool])],[],[]⟩
abbrev yix (v0 v1 v2:Int) (v3:dA):(yar).X:=(((v0,()),((),()),(v1,()),(v2,()),()),((v3.1,v3.2.1.1,v3.2.1.2,v3.2.2.1,v3.2.2.2.1,v3.2.2.2.2.1,v3.2.2.2.2.2.1,v3.2.2.2.2.2.2.1,v3.2.2.2.2.2.2.2.1,v3.2.2.2.2.2.2.2.2.1,v3.2.2.2.2.2.2.2.2.2.1,v3.2.2.2.2.2.2.2.2.2.2.1,v3.2.2.2.2.2.2.2.2.2.2.2,()),()),())
abbrev yqk (v0 v1:Int) (v2:dA):(yc5).X:=(((v0,()),((),()),(v1,()),((),()),()),((v2.1,v2.2.1.1,v2.2.1.2,v2.2.2.1,v2.2.2.2.1,v2.2.2.2.2.1,v2.2.2.2.2.2.1,v2.2.2.2.2.2.2.1,v2.2.2.2.2.2.2.2.1,v2.2.2.2.2.2.2.2.2.1,v2.2.2.2.2.2.2.2.2.2.1,v2.2.2.2.2.2.2.2.2.2.2.1,v2.2.2.2.2.2.2.2.2.2.2.2,()),()),())
abbrev yqj (v0 v1:Int) (v2:dA):(yc0).X:=(((v0,()),((),()),(v1,()),()),((v2.1,v2.2.1.1,v2.2.1.2,v2.2.2.1,v2.2.2.2.1,v2.2.2.2.2.1,v2.2.2.2.2.2.1,v2.2.2.2.2.2.2.1,v2.2.2.2.2.2.2.2.1,v2.2.2.2.2.2.2.2.2.1,v2.2.2.2.2.2.2.2.2.2.1,v2.2.2.2.2.2.2.2.2.2.2.1,v2.2.2.2.2.2.2.2.2.2.2.2,()),()),())
abbrev yql (v0:Bool):(yc8).X:=(((v0,()),()),(),())
def yiG (v0 v1 v2 v3 v4 v5:Int) (v6:List dM) (v7 v8 v9 v10 v11:Int) (v12:List dW) (v13:Int) (v14 v15:Bool):Option ((yar).X ⊕ ((yc0).X ⊕ (yc8).X)) :=bif(inb v1 v6.length)then bif(ltb v2 (((((nth v6 v1 ([],[],false,[])).2).2).2).length:Int))then bif(v1 !=v0)then bif(inb v1 v6.length)then bif(inb v2 ((((nth v6 v1 ([],[],false,[])).2).2).2).length)then let r4:=yK 0;bif(leb r4 (nth ((((nth v6 v1 ([],[],false,[])).2).2).2) v2 0))then some (.inr (.inr (((false,()),()),(),()))) else some (.inl (((v0,()),((),()),(v1,()),((i64.wrap (v2+1)),()),()),((v3,v4,v5,v6,v7,v8,v9,v10,v11,v12,v13,v14,v15,()),()),())) else none else none else some (.inl (((v0,()),((),()),(v1,()),((i64.wrap (v2+1)),()),()),((v3,v4,v5,v6,v7,v8,v9,v10,v11,v12,v13,v14,v15,()),()),())) else some (.inr (.inl (((v0,()),((),()),(v1,()),()),((v3,v4,v5,v6,v7,v8,v9,v10,v11,v12,v13,v14,v15,()),()),()))) else none
def yaE (x:(yar).X):=yiG x.1.1.1 x.1.2.2.1.1 x.1.2.2.2.1.1 x.2.1.1.1 x.2.1.1.2.1 x.2.1.1.2.2.1 x.2.1.1.2.2.2.1 x.2.1.1.2.2.2.2.1 x.2.1.1.2.2.2.2.2.1 x.2.1.1.2.2.2.2.2.2.1 x.2.1.1.2.2.2.2.2.2.2.1 x.2.1.1.2.2.2.2.2.2.2.2.1 x.2.1.1.2.2.2.2.2.2.2.2.2.1 x.2.1.1.2.2.2.2.2.2.2.2.2.2.1 x.2.1.1.2.2.2.2.2.2.2.2.2.2.2.1 x.2.1.1.2.2.2.2.2.2.2.2.2.2.2.2.1
def yp4 (x:(yc5).X):(yar).X:=(((x.1.1.1,()),((),()),(x.1.2.2.1.1,()),(0,()),()),((x.2.1.1.1,x.2.1.1.2.1,x.2.1.1.2.2.1,x.2.1.1.2.2.2.1,x.2.1.1.2.2.2.2.1,x.2.1.1.2.2.2.2.2.1,x.2.1.1.2.2.2.2.2.2.1,x.2.1.1.2.2.2.2.2.2.2.1,x.2.1.1.2.2.2.2.2.2.2.2.1,x.2.1.1.2.2.2.2.2.2.2.2.2.1,x.2.1.1.2.2.2.2.2.2.2.2.2.2.1,x.2.1.1.2.2.2.2.2.2.2.2.2.2.2.1,x.2.1.1.2.2.2.2.2.2.2.2.2.2.2.2.1,()),()),())
def yqT:Code:=(zd7 ydc 64 7460).getD .skip
theorem yCj:zd7 ydc 64 1865=some (.block 2 (.loop yqT)):=by kernel_rfl
theorem yCO (x:(yar).X):zhu ⟨yho,68,ywR⟩ 2 yqT 7460 yar yc0 yc8 x=yaE x:=by kernel_rfl
def yp9 (x:(yc5).X):Nat:=18446744073709551616
def yfz (x:(yc5).X):Option ((yc0).X ⊕ (yc8).X):=zF yaE (yp9 x) (yp4 x)
def yqI:Seg:=⟨yc5,yc0,yc8,yfz⟩
def ynz:Nat→Option Seg:=fun q=>bif Nat.beq q 1865 then some yqI else ywR q
theorem yFx:FrOk prog ⟨yho,68,ynz⟩ ydc:=(yFw).loop (sg:=yqI) yar yp4 (by decide) yCj yaE yp9 (by decide) (fun _=>rfl) (fun x r _ h=>h) yCO
def ybh:Shape:=⟨[(1,false,[.int .i64]),(2,false,[.ptr 0 0]),(5,false,[.int .i64])],[(0,[.int .i64,.int .i64,.int .i64,.br tM,.int .i64,.int .i64,.int .i64,.int .i64,.int .i64,.br tW,.int .i64,.bool,.bool])],[]⟩
def yet:Shape:=⟨[(1,false,[.int .i64]),(2,false,[.ptr 0 0]),(5,false,[.ci .i64 0])],[(0,[.int .i64,.int .i64,.int .i64,.br tM,.int .i64,.int .i64,.int .i64,.int .i64,.int .i64,.br tW,.int .i64,.bool,.bool])],[]⟩
def yeh:Shape:=⟨[],[],[]⟩
def yeA:Shape:=⟨[(4,false,[.bool])],[],[]⟩
abbrev ykU (v0 v1:Int) (v2:dA):(ybh).X:=(((v0,()),((),()),(v1,()),()),((v2.1,v2.2.1.1,v2.2.1.2,v2.2.2.1,v2.2.2.2.1,v2.2.2.2.2.1,v2.2.2.2.2.2.1,v2.2.2.2.2.2.2.1,v2.2.2.2.2.2.2.2.1,v2.2.2.2.2.2.2.2.2.1,v2.2.2.2.2.2.2.2.2.2.1,v2.2.2.2.2.2.2.2.2.2.2.1,v2.2.2.2.2.2.2.2.2.2.2.2,()),()),())
abbrev yD2 (v0:Int) (v1:dA):(yet).X:=(((v0,()),((),()),((),()),()),((v1.1,v1.2.1.1,v1.2.1.2,v1.2.2.1,v1.2.2.2.1,v1.2.2.2.2.1,v1.2.2.2.2.2.1,v1.2.2.2.2.2.2.1,v1.2.2.2.2.2.2.2.1,v1.2.2.2.2.2.2.2.2.1,v1.2.2.2.2.2.2.2.2.2.1,v1.2.2.2.2.2.2.2.2.2.2.1,v1.2.2.2.2.2.2.2.2.2.2.2,()),()),())
abbrev yDR  :(yeh).X:=((),(),())
abbrev yD9 (v0:Bool):(yeA).X:=(((v0,()),()),(),())
def yle (v0 v1 v2 v3 v4:Int) (v5:List dM) (v6 v7 v8 v9 v10:Int) (v11:List dW) (v12:Int) (v13 v14:Bool):Option ((ybh).X ⊕ ((yeh).X ⊕ (yeA).X)) :=bif(ltb v1 (v5.length:Int))then zkt (yfz (((v0,()),((),()),(v1,()),((),()),()),((v2,v3,v4,v5,v6,v7,v8,v9,v10,v11,v12,v13,v14,()),()),())) (fun y5 =>some (.inl (((y5.1.1.1,()),((),()),((i64.wrap (y5.1.2.2.1.1+1)),()),()),((y5.2.1.1.1,y5.2.1.1.2.1,y5.2.1.1.2.2.1,y5.2.1.1.2.2.2.1,y5.2.1.1.2.2.2.2.1,y5.2.1.1.2.2.2.2.2.1,y5.2.1.1.2.2.2.2.2.2.1,y5.2.1.1.2.2.2.2.2.2.2.1,y5.2.1.1.2.2.2.2.2.2.2.2.1,y5.2.1.1.2.2.2.2.2.2.2.2.2.1,y5.2.1.1.2.2.2.2.2.2.2.2.2.2.1,y5.2.1.1.2.2.2.2.2.2.2.2.2.2.2.1,y5.2.1.1.2.2.2.2.2.2.2.2.2.2.2.2.1,()),()),()))) (fun y5 =>some (.inr (.inr (((y5.1.1.1,()),()),(),())))) else some (.inr (.inl ((),(),())))
def yby (x:(ybh).X):=yle x.1.1.1 x.1.2.2.1.1 x.2.1.1.1 x.2.1.1.2.1 x.2.1.1.2.2.1 x.2.1.1.2.2.2.1 x.2.1.1.2.2.2.2.1 x.2.1.1.2.2.2.2.2.1 x.2.1.1.2.2.2.2.2.2.1 x.2.1.1.2.2.2.2.2.2.2.1 x.2.1.1.2.2.2.2.2.2.2.2.1 x.2.1.1.2.2.2.2.2.2.2.2.2.1 x.2.1.1.2.2.2.2.2.2.2.2.2.2.1 x.2.1.1.2.2.2.2.2.2.2.2.2.2.2.1 x.2.1.1.2.2.2.2.2.2.2.2.2.2.2.2.1
def ytk (x:(yet).X):(ybh).X:=(((x.1.1.1,()),((),()),(0,()),()),((x.2.1.1.1,x.2.1.1.2.1,x.2.1.1.2.2.1,x.2.1.1.2.2.2.1,x.2.1.1.2.2.2.2.1,x.2.1.1.2.2.2.2.2.1,x.2.1.1.2.2.2.2.2.2.1,x.2.1.1.2.2.2.2.2.2.2.1,x.2.1.1.2.2.2.2.2.2.2.2.1,x.2.1.1.2.2.2.2.2.2.2.2.2.1,x.2.1.1.2.2.2.2.2.2.2.2.2.2.1,x.2.1.1.2.2.2.2.2.2.2.2.2.2.2.1,x.2.1.1.2.2.2.2.2.2.2.2.2.2.2.2.1,()),()),())
def yvy:Code:=(zd7 ydc 64 116).getD .skip
theorem yE5:zd7 ydc 64 29=some (.block 0 (.loop yvy)):=by kernel_rfl
theorem yGL (x:(ybh).X):zhu ⟨yho,68,ynz⟩ 0 yvy 116 ybh yeh yeA x=yby x:=by kernel_rfl
def ytz (x:(yet).X):Nat:=18446744073709551616
def yg0 (x:(yet).X):Option ((yeh).X ⊕ (yeA).X):=zF yby (ytz x) (ytk x)
def ytY:Seg:=⟨yet,yeh,yeA,yg0⟩
def yG3:Nat→Option Seg:=fun q=>bif Nat.beq q 29 then some ytY else ynz q
theorem yFy:FrOk prog ⟨yho,68,yG3⟩ ydc:=(yFx).loop (sg:=ytY) ybh ytk (by decide) yE5 yby ytz (by decide) (fun _=>rfl) (fun x r _ h=>h) yGL
abbrev ylx:List Par:= [.rd tA,.rd tI]
abbrev yr6:List OT:= [⟨false,tB,.fz⟩]
def yoj (a0:dA) (a1:Int):Option (zaY yr6×zak ylx) :=let r1:=yag a0;bif(!(!r1))then bif(!a0.2.2.2.2.2.2.2.2.2.2.2)then let r2:=ya a1 0 (i64.wrap ((a0.2.2.1.length:Int)-1));bif(!(!r2))then bif(a0.2.2.2.1 !=(-1))then bif(a0.2.2.2.1 !=a1)then some ((false,()),()) else zkt (yg0 (((a1,()),((),()),((),()),()),((a0.1,a0.2.1.1,a0.2.1.2,a0.2.2.1,a0.2.2.2.1,a0.2.2.2.2.1,a0.2.2.2.2.2.1,a0.2.2.2.2.2.2.1,a0.2.2.2.2.2.2.2.1,a0.2.2.2.2.2.2.2.2.1,a0.2.2.2.2.2.2.2.2.2.1,a0.2.2.2.2.2.2.2.2.2.2.1,a0.2.2.2.2.2.2.2.2.2.2.2,()),()),())) (fun y6 =>some ((true,()),())) (fun y6 =>some ((y6.1.1.1,()),())) else zkt (yg0 (((a1,()),((),()),((),()),()),((a0.1,a0.2.1.1,a0.2.1.2,a0.2.2.1,a0.2.2.2.1,a0.2.2.2.2.1,a0.2.2.2.2.2.1,a0.2.2.2.2.2.2.1,a0.2.2.2.2.2.2.2.1,a0.2.2.2.2.2.2.2.2.1,a0.2.2.2.2.2.2.2.2.2.1,a0.2.2.2.2.2.2.2.2.2.2.1,a0.2.2.2.2.2.2.2.2.2.2.2,()),()),())) (fun y7 =>some ((true,()),())) (fun y7 =>some ((y7.1.1.1,()),())) else some ((false,()),()) else some ((false,()),()) else some ((false,()),())
theorem yJj:ConOk prog 44 ⟨ylx,yr6,fun x=>yoj x.1 x.2.1⟩:=zkI (yFy) func44 ntmps44.symm fun x=>by kernel_rfl
def yh8 (m:dM):Bool:=m.2.2.2.any (fun n=>leb 6 n)
def yOe (a:dA) (m:Int):Bool:=(List.range a.2.2.1.length).all (fun(i:Nat)=>(i:Int)==m|| !(yh8 (nth a.2.2.1 i yc)))
def yeT (a0:dA) (a1:Int):Bool:=yP a0&&(!a0.2.2.2.2.2.2.2.2.2.2.2&&(inb a1 a0.2.2.1.length&&((a0.2.2.2.1== -1||a0.2.2.2.1==a1)&&yOe a0 a1)))
theorem yL3 (a0:dA) (a1:Int) (hk:zjx ylx (a0,a1,())):yoj a0 a1=(fun n=>some ((n,()),())) (yeT a0 a1):=by
 have hb:a0.2.2.1.length*80≤2^47:=hk.1.2.2.1.1
 have h0: ∀i:Nat,i<a0.2.2.1.length→yfz (yqk a1 i a0)=some (bif(i:Int)==a1|| !(yh8 (nth a0.2.2.1 i yc))then .inl (yqj a1 i a0)else .inr (yql false)):=fun k hk2=>by
  have hb2:(nth a0.2.2.1 k yc).2.2.2.length*8≤2^47:=ylX (P:=fun x:dM=>x.2.2.2.length*8≤2^47) (zkR hk2) (fun x hx=>(hk.1.2.2.1.2 x hx).2.2.2.1)
  have:=zj9 (step:=yaE) (nth a0.2.2.1 k yc).2.2.2 0 (fun i=>yix a1 k i a0) (fun n=>(k:Int)==a1|| !(leb 6 n)) (.inl (yqj a1 k a0)) (.inr (yql false)) (fun i hi=>by
   unfold yc at hi hb2;simp only[yaE,yix,yiG,zky (show(i:Int)<(nth a0.2.2.1 k ([],[],false,[])).2.2.2.length by omega),cond_true,wq ((i:Int)+1) (by omega) (by omega),Int.natCast_add,Int.natCast_one,Int.toNat_natCast,zkR hk2,zkR hi,yc,yaZ,show ybG 0=6 from rfl,bne];rw[zkS (nth a0.2.2.1 k ([],[],false,[])).2.2.2 i]
   cases((k:Int)==a1)<;>cases leb 6 ((nth a0.2.2.1 k ([],[],false,[])).2.2.2.getD i 0)<;>rfl) (by
   simp only[yaE,yix,yiG,zkR hk2,yc,zk3 (Int.le_refl _),cond_false,cond_true]) 18446744073709551616 (by omega)
  rw[show yfz (yqk a1 k a0)=_ from this];congr 2;unfold yh8;cases((k:Int)==a1)
  ·simp[List.all_eq_not_any_not]
  ·simp
 have h1:yg0 (yD2 a1 a0)=some (bif(List.range a0.2.2.1.length).any (fun(i:Nat)=> !((i:Int)==a1|| !(yh8 (nth a0.2.2.1 i yc))))then .inr (yD9 false)else .inl yDR) :=
  zji (step:=yby) (fun i=>ykU a1 i a0) a0.2.2.1.length (fun(i:Nat)=> !((i:Int)==a1|| !(yh8 (nth a0.2.2.1 i yc)))) _ _ (fun i hi=>by
   simp only[yby,ykU,yle,zky (show(i:Int)<a0.2.2.1.length by omega),cond_true,wq ((i:Int)+1) (by omega) (by omega),Int.natCast_add,Int.natCast_one,Int.toNat_natCast,h0 i hi];cases((i:Int)==a1|| !(yh8 (nth a0.2.2.1 i yc)))
   ·rfl
   ·simp only[cond_true,zkN,wq ((i:Int)+1) (by omega) (by omega)]; rfl) (by simp only[yby,ykU,yle,zk3 (Int.le_refl _),cond_false]) _ (by show _<18446744073709551616; omega)
 unfold yoj yeT yOe yag;rw[ygB (show a0.2.2.1.length≤1152921504606846976 by omega),h1,List.all_eq_not_any_not];simp only[bne];cases yP a0
 ·rfl
 cases a0.2.2.2.2.2.2.2.2.2.2.2
 ·cases inb a1 a0.2.2.1.length
  ·rfl
  ·cases(a0.2.2.2.1== -1)<;>cases(a0.2.2.2.1==a1)<;>cases((List.range a0.2.2.1.length).any (fun(i:Nat)=> !((i:Int)==a1|| !(yh8 (nth a0.2.2.1 i yc)))))<;>rfl
 ·rfl
def yxZ:Con:=⟨ylx,yr6,fun x=>(fun n=>some ((n,()),())) (yeT x.1 x.2.1)⟩
theorem yMY:ConOk prog 44 yxZ:=(yJj).mono (fun x r hk h=>(yL3 x.1 x.2.1 hk).trans h)
def yjB:Code:=(f114.body).getD .skip
def yo1:Env:=zkw TT [(111,ypT)] []
theorem yDt:FrOk prog ⟨yo1,16,fun _=>none⟩ yjB:=zkA mixed yd ⟨yBj,trivial⟩
def yvl:Nat→Option Seg:=fun _=>none
def yaM:Shape:=⟨[(6,false,[.br tI]),(7,false,[.int .i64]),(8,false,[.int .i64])],[],[]⟩
def ydC:Shape:=⟨[(6,false,[.br tI]),(7,false,[.int .i64]),(8,false,[.ci .i64 0])],[],[]⟩
def ydu:Shape:=⟨[],[],[]⟩
def ydI:Shape:=⟨[(2,false,[.bool])],[],[]⟩
abbrev yji (v0:List Int) (v1 v2:Int):(yaM).X:=(((v0,()),(v1,()),(v2,()),()),(),())
abbrev yCz (v0:List Int) (v1:Int):(ydC).X:=(((v0,()),(v1,()),((),()),()),(),())
abbrev yCt  :(ydu).X:=((),(),())
abbrev yCD (v0:Bool):(ydI).X:=(((v0,()),()),(),())
def yjt (v0:List Int) (v1 v2:Int):Option ((yaM).X ⊕ ((ydu).X ⊕ (ydI).X)) :=bif(ltb v2 v1)then bif(inb v2 v0.length)then let r2:=yiU 0;bif(leb r2 (nth v0 v2 0))then some (.inr (.inr (((true,()),()),(),()))) else some (.inl (((v0,()),(v1,()),((i64.wrap (v2+1)),()),()),(),())) else none else some (.inr (.inl ((),(),())))
def ya5 (x:(yaM).X):=yjt x.1.1.1 x.1.2.1.1 x.1.2.2.1.1
def yq2 (x:(ydC).X):(yaM).X:=(((x.1.1.1,()),(x.1.2.1.1,()),(0,()),()),(),())
def ys3:Code:=(zd7 yjB 64 52).getD .skip
theorem yC3:zd7 yjB 64 13=some (.block 0 (.loop ys3)):=by kernel_rfl
theorem yEu (x:(yaM).X):zhu ⟨yo1,16,yvl⟩ 0 ys3 52 yaM ydu ydI x=ya5 x:=by kernel_rfl
def yrb (x:(ydC).X):Nat:=18446744073709551616
def yku (x:(ydC).X):Option ((ydu).X ⊕ (ydI).X):=zF ya5 (yrb x) (yq2 x)
def yrp:Seg:=⟨ydC,ydu,ydI,yku⟩
def yEQ:Nat→Option Seg:=fun q=>bif Nat.beq q 13 then some yrp else yvl q
theorem yDu:FrOk prog ⟨yo1,16,yEQ⟩ yjB:=(yDt).loop (sg:=yrp) yaM yq2 (by decide) yC3 ya5 yrb (by decide) (fun _=>rfl) (fun x r _ h=>h) yEu
abbrev yjN:List Par:= [.rd tM]
abbrev ypD:List OT:= [⟨false,tB,.fz⟩]
def ymF (a0:dM):Option (zaY ypD×zak yjN) :=zkt (yku (((a0.2.2.2,()),((a0.2.2.2.length:Int),()),((),()),()),(),())) (fun y2 =>some ((false,()),())) (fun y2 =>some ((y2.1.1.1,()),()))
theorem yGm:ConOk prog 114 ⟨yjN,ypD,fun x=>ymF x.1⟩:=zkI (yDu) func114 ntmps114.symm fun x=>by kernel_rfl
def ygH (a0:dM):Bool:=yh8 a0
theorem yIU (a0:dM) (hk:zjx yjN (a0,())):ymF a0=(fun n=>some ((n,()),())) (ygH a0):=by
 have hb:a0.2.2.2.length*8≤2^47:=hk.1.2.2.2.1
 have h1:yku (yCz a0.2.2.2 a0.2.2.2.length)=some (bif a0.2.2.2.all (fun n=> !(leb 6 n))then .inl yCt else .inr (yCD true)) :=
  zj9 (step:=ya5) a0.2.2.2 0 (fun i=>yji a0.2.2.2 a0.2.2.2.length i) _ _ _ (fun i hi=>by
   simp only[ya5,yji,yjt,zky (show(i:Int)<a0.2.2.2.length by omega),cond_true,wq ((i:Int)+1) (by omega) (by omega),Int.natCast_add,Int.natCast_one,Int.toNat_natCast,zkR hi,zkS,yBf,show ybG 0=6 from rfl]
   cases leb 6 (a0.2.2.2.getD i 0)<;>rfl) (by simp only[ya5,yji,yjt,zk3 (Int.le_refl _),cond_false]) _ (by show _<18446744073709551616; omega)
 unfold ymF ygH yh8;rw[h1,List.all_eq_not_any_not];simp only[Bool.not_not];cases a0.2.2.2.any (fun n=>leb 6 n)<;>rfl
def yvM:Con:=⟨yjN,ypD,fun x=>(fun n=>some ((n,()),())) (ygH x.1)⟩
theorem yJH:ConOk prog 114 yvM:=(yGm).mono (fun x r hk h=>(yIU x.1 hk).trans h)
def ylk:Code:=(f43.body).getD .skip
def yry:Env:=zkw TT [(55,ylL),(106,yir),(114,yvM)] []
theorem yFb:FrOk prog ⟨yry,47,fun _=>none⟩ ylk:=zkA mixed yd ⟨yu7,yqq,yJH,trivial⟩
def ywK:Nat→Option Seg:=fun _=>none
def yba:Shape:=⟨[(1,false,[.int .i64]),(32,false,[.br tM]),(33,false,[.int .i64]),(34,false,[.int .i64])],[],[]⟩
def yem:Shape:=⟨[(1,false,[.int .i64]),(32,false,[.br tM]),(33,false,[.int .i64]),(34,false,[.ci .i64 0])],[],[]⟩
def yea:Shape:=⟨[],[],[]⟩
def yey:Shape:=⟨[(4,false,[.bool])],[],[]⟩
abbrev ykN (v0:Int) (v1:List dM) (v2 v3:Int):(yba).X:=(((v0,()),(v1,()),(v2,()),(v3,()),()),(),())
abbrev yDV (v0:Int) (v1:List dM) (v2:Int):(yem).X:=(((v0,()),(v1,()),(v2,()),((),()),()),(),())
abbrev yDO  :(yea).X:=((),(),())
abbrev yD7 (v0:Bool):(yey).X:=(((v0,()),()),(),())
def yk6 (v0:Int) (v1:List dM) (v2 v3:Int):Option ((yba).X ⊕ ((yea).X ⊕ (yey).X)) :=bif(ltb v3 v2)then bif(inb v3 v1.length)then bif(v3 !=v0)then let r4:=ygH ((nth v1 v3 ([],[],false,[])).1,((nth v1 v3 ([],[],false,[])).2).1,(((nth v1 v3 ([],[],false,[])).2).2));bif r4 then some (.inr (.inr (((false,()),()),(),()))) else some (.inl (((v0,()),(v1,()),(v2,()),((i64.wrap (v3+1)),()),()),(),())) else some (.inl (((v0,()),(v1,()),(v2,()),((i64.wrap (v3+1)),()),()),(),())) else none else some (.inr (.inl ((),(),())))
def ybq (x:(yba).X):=yk6 x.1.1.1 x.1.2.1.1 x.1.2.2.1.1 x.1.2.2.2.1.1
def ytc (x:(yem).X):(yba).X:=(((x.1.1.1,()),(x.1.2.1.1,()),(x.1.2.2.1.1,()),(0,()),()),(),())
def yvq:Code:=(zd7 ylk 64 116).getD .skip
theorem yEX:zd7 ylk 64 29=some (.block 0 (.loop yvq)):=by kernel_rfl
theorem yGD (x:(yba).X):zhu ⟨yry,47,ywK⟩ 0 yvq 116 yba yea yey x=ybq x:=by kernel_rfl
def ytr (x:(yem).X):Nat:=18446744073709551616
def ygZ (x:(yem).X):Option ((yea).X ⊕ (yey).X):=zF ybq (ytr x) (ytc x)
def ytQ:Seg:=⟨yem,yea,yey,ygZ⟩
def yGX:Nat→Option Seg:=fun q=>bif Nat.beq q 29 then some ytQ else ywK q
theorem yFc:FrOk prog ⟨yry,47,yGX⟩ ylk:=(yFb).loop (sg:=ytQ) yba ytc (by decide) yEX ybq ytr (by decide) (fun _=>rfl) (fun x r _ h=>h) yGD
abbrev yls:List Par:= [.rd tA,.rd tI]
abbrev yrU:List OT:= [⟨false,tB,.fz⟩]
def yod (a0:dA) (a1:Int):Option (zaY yrU×zak yls) :=let r1:=ycv a0;bif(!(!r1))then let r2:=yaW a0 a1;bif(!(!r2))then bif(!a0.2.2.2.2.2.2.2.2.2.2.2)then bif(a0.2.2.2.1 !=(-1))then bif(a0.2.2.2.1 !=a1)then some ((false,()),()) else zkt (ygZ (((a1,()),(a0.2.2.1,()),((a0.2.2.1.length:Int),()),((),()),()),(),())) (fun y4 =>some ((true,()),())) (fun y4 =>some ((y4.1.1.1,()),())) else zkt (ygZ (((a1,()),(a0.2.2.1,()),((a0.2.2.1.length:Int),()),((),()),()),(),())) (fun y5 =>some ((true,()),())) (fun y5 =>some ((y5.1.1.1,()),())) else some ((false,()),()) else some ((false,()),()) else some ((false,()),())
theorem yI6:ConOk prog 43 ⟨yls,yrU,fun x=>yod x.1 x.2.1⟩:=zkI (yFc) func43 ntmps43.symm fun x=>by kernel_rfl
def yhK (a0:dA) (a1:Int):Bool:=yeT a0 a1
theorem yLS (a0:dA) (a1:Int) (hk:zjx yls (a0,a1,())):yod a0 a1=(fun n=>some ((n,()),())) (yhK a0 a1):=by
 have hb:a0.2.2.1.length*80≤2^47:=hk.1.2.2.1.1
 have h1:ygZ (yDV a1 a0.2.2.1 a0.2.2.1.length)=some (bif(List.range a0.2.2.1.length).any (fun(i:Nat)=> !((i:Int)==a1|| !(yh8 (nth a0.2.2.1 i yc))))then .inr (yD7 false)else .inl yDO) :=
  zji (step:=ybq) (fun i=>ykN a1 a0.2.2.1 a0.2.2.1.length i) a0.2.2.1.length (fun(i:Nat)=> !((i:Int)==a1|| !(yh8 (nth a0.2.2.1 i yc)))) _ _ (fun i hi=>by
   simp only[ybq,ykN,yk6,zky (show(i:Int)<a0.2.2.1.length by omega),cond_true,wq ((i:Int)+1) (by omega) (by omega),Int.natCast_add,Int.natCast_one,Int.toNat_natCast,zkR hi,zkX,ygH,yc,bne]
   cases((i:Int)==a1)<;>cases yh8 (nth a0.2.2.1 i ([],[],false,[]))<;>rfl) (by simp only[ybq,ykN,yk6,zk3 (Int.le_refl _),cond_false]) _ (by show _<18446744073709551616; omega)
 unfold yod yhK yeT yOe ycv yaW;rw[yaa,ygB (show a0.2.2.1.length≤1152921504606846976 by omega),h1,List.all_eq_not_any_not];simp only[bne];cases yP a0
 ·rfl
 cases inb a1 a0.2.2.1.length
 ·cases a0.2.2.2.2.2.2.2.2.2.2.2<;>rfl
 cases a0.2.2.2.2.2.2.2.2.2.2.2
 ·cases(a0.2.2.2.1== -1)<;>cases(a0.2.2.2.1==a1)<;>cases((List.range a0.2.2.1.length).any (fun(i:Nat)=> !((i:Int)==a1|| !(yh8 (nth a0.2.2.1 i yc)))))<;>rfl
 ·rfl
def yxQ:Con:=⟨yls,yrU,fun x=>(fun n=>some ((n,()),())) (yhK x.1 x.2.1)⟩
theorem yMP:ConOk prog 43 yxQ:=(yI6).mono (fun x r hk h=>(yLS x.1 x.2.1 hk).trans h)
def yCR:Code:=(f4.body).getD .skip
def yCW:Env:=zkw TT [(14,yDa),(27,yxX),(36,yoI),(37,ypW),(38,ypV),(39,yvG),(40,yvO),(41,yxS),(42,yx2),(43,yxQ),(44,yxZ)] []
theorem yBa:FrOk prog ⟨yCW,55,fun _=>none⟩ yCR:=zkA mixed yd ⟨ySw,yMW,yBY,yCK,yCJ,yJB,yJJ,yMR,yM1,yMP,yMY,trivial⟩
abbrev yfR:List Par:= [.kp tYs .fz]
abbrev ykF:List OT:= [⟨false,tB,.fz⟩]
def yiC (a0:List Int):Option (zaY ykF×zak yfR) :=let r1:=ywD a0;bif r1 then some ((true,()),()) else bnd (yb4 a0) fun r2 =>bnd (ycA a0) fun r3 =>bnd (ycz a0) fun r4 =>let r5:=ygC r2.1.1 r2.1.2.1;let r6:=ygI r2.1.1 r2.1.2.1;bnd (ydj r5 r6) fun r7 =>bif r7.1.1 then let r8:=yhL r3.1.1 r3.1.2.1 r3.1.2.2.1;let r9:=yhQ r3.1.1 r3.1.2.1 r3.1.2.2.1;bnd (ydj r8 r9) fun r10 =>bif r10.1.1 then let r11:=yhK r4.1.1 r4.1.2.1;let r12:=yeT r4.1.1 r4.1.2.1;some (((r11==r12),()),()) else some ((false,()),()) else some ((false,()),())
theorem yBU:ConOk prog 4 ⟨yfR,ykF,fun x=>yiC x.1⟩:=zkI (yBa) func4 ntmps4.symm fun x=>by kernel_rfl
def ykZ (a0:List Int):Bool:=true
theorem yTR {a:dA} (m:Int) (h:yg2 a):yg2 (ysl a m):=by
 unfold ysl;cases hc:(yP a&&(inb m a.2.2.1.length&& !(nth a.2.2.1 m yc).2.2.1))
 ·exact h
 ·simp only[Bool.and_eq_true]at hc
  exact yIf (yUe (yUr hc.1) hc.2.1).1 h.2.2
theorem ySt {a:dA} (m s:Int) (h:yg2 a):yg2 (ywI a m s):=by
 unfold ywI;cases hc:(yP a&&(inb m a.2.2.1.length&&ya0 a.2.1 s))
 ·exact h
 ·simp only[Bool.and_eq_true]at hc
  have h0:=yIK hc.1
  have hn:yHa a.2.2.2.2.2.2.2.2.1 (a.1,a.2.1,a.2.2.1.set m.toNat (spoil (nth a.2.2.1 m yc) (ybG s)),a.2.2.2):=by
   refine⟨by show(a.2.2.1.set _ _).length≤5; rw[List.length_set]; exact h0.1,ywF h0.2.1 (yJ2 _ ?_),rfl⟩;exact ylX (P:=fun x:dM=>yq x=true) hc.2.1 h0.2.1
  exact yIf hn h.2.2
theorem yCE (a0:List Int) (hk:zjx yfR (a0,())):yiC a0=(fun n=>some ((n,()),())) (ykZ a0):=by
 have hb:a0.length≤140737488355328:=by have:a0.length*1≤2^47:=hk.1.1; omega
 obtain⟨a,m,e1,q1⟩:=yKZ a0 hb;obtain⟨b,k,s,e2,q2⟩:=yOg a0 hb;obtain⟨c,n,e3⟩:=yOf a0 hb;unfold yiC ykZ;simp only[e1,e2,e3,zkH,ygC,ygI,yhL,yhQ,yhK,yR9 _ (yTR m q1),yR9 _ (ySt k s q2),beq_self_eq_true,cond_true];cases ywD a0<;>rfl
def yBE:Con:=⟨yfR,ykF,fun x=>(fun n=>some ((n,()),())) (ykZ x.1)⟩
theorem yCI:ConOk prog 4 yBE:=(yBU).mono (fun x r hk h=>(yCE x.1 hk).trans h)
end
end Go.Tf
