/- Functions of the program, and what they come to. -/
import Derived.Test.YtolmneojjjpnjaaGreatSpoiltF2
namespace Go.Tf
noncomputable section
open Go.Proofs Go.Proofs.Tryz IntKind
set_option synthInstance.maxHeartbeats 400000
set_option synthInstance.maxSize 10000
set_option linter.unusedVariables false
set_option linter.unusedSimpArgs false
set_option maxRecDepth 100000
def ynD:Code:=(f170.body).getD .skip
def yuo:Env:=zkw TT [(113,yef),(206,yh7),(209,ymG),(210,yrx),(211,yqB)] []
theorem yII:FrOk prog ⟨yuo,61,fun _=>none⟩ ynD:=zkA mixed yc ⟨yix,yn5,yyR,yER,yBU,trivial⟩
def yzA:Nat→Option Seg:=fun _=>none
def ycL:Shape:=⟨[(0,false,[.ptr 1000000000 0]),(1,false,[.int .i64]),(2,false,[.br tI]),(6,false,[.int .i64]),(7,false,[.int .i64])],[(1000000000,[.int .i64,.int .i64,.int .i64,.at 800000000,.int .i64,.int .i64,.int .i64,.int .i64,.int .i64,.at 800000001,.int .i64,.bool,.bool])],[(800000000,tM,(.pr (.ow .fz) (.pr (.ow (.pr .fz .fz)) (.pr .fz (.ow .fz))))),(800000001,tW,(.pr .fz .fz))]⟩
def ygI:Shape:=⟨[(0,false,[.ptr 1000000000 0]),(1,false,[.int .i64]),(2,false,[.br tI]),(6,false,[.int .i64]),(7,false,[.ci .i64 0])],[(1000000000,[.int .i64,.int .i64,.int .i64,.at 800000000,.int .i64,.int .i64,.int .i64,.int .i64,.int .i64,.at 800000001,.int .i64,.bool,.bool])],[(800000000,tM,(.pr (.ow .fz) (.pr (.ow (.pr .fz .fz)) (.pr .fz (.ow .fz))))),(800000001,tW,(.pr .fz .fz))]⟩
def ygu:Shape:=⟨[],[(1000000000,[.int .i64,.int .i64,.int .i64,.at 800000000,.int .i64,.int .i64,.int .i64,.int .i64,.int .i64,.at 800000001,.int .i64,.bool,.bool])],[(800000000,tM,(.pr (.ow .fz) (.pr (.ow (.pr .fz .fz)) (.pr .fz (.ow .fz))))),(800000001,tW,(.pr .fz .fz))]⟩
def ykB:Shape:=⟨[],[],[]⟩
abbrev yoA (v0:Int) (v1:List Int) (v2 v3:Int) (v4:dA):(ycL).X:=((((),()),(v0,()),(v1,()),(v2,()),(v3,()),()),((v4.1,v4.2.1.1,v4.2.1.2,(),v4.2.2.2.1,v4.2.2.2.2.1,v4.2.2.2.2.2.1,v4.2.2.2.2.2.2.1,v4.2.2.2.2.2.2.2.1,(),v4.2.2.2.2.2.2.2.2.2.1,v4.2.2.2.2.2.2.2.2.2.2.1,v4.2.2.2.2.2.2.2.2.2.2.2,()),()),(v4.2.2.1,v4.2.2.2.2.2.2.2.2.1,()))
abbrev yI9 (v0:Int) (v1:List Int) (v2:Int) (v3:dA):(ygI).X:=((((),()),(v0,()),(v1,()),(v2,()),((),()),()),((v3.1,v3.2.1.1,v3.2.1.2,(),v3.2.2.2.1,v3.2.2.2.2.1,v3.2.2.2.2.2.1,v3.2.2.2.2.2.2.1,v3.2.2.2.2.2.2.2.1,(),v3.2.2.2.2.2.2.2.2.2.1,v3.2.2.2.2.2.2.2.2.2.2.1,v3.2.2.2.2.2.2.2.2.2.2.2,()),()),(v3.2.2.1,v3.2.2.2.2.2.2.2.2.1,()))
abbrev yyJ (v0:dA):(ygu).X:=((),((v0.1,v0.2.1.1,v0.2.1.2,(),v0.2.2.2.1,v0.2.2.2.2.1,v0.2.2.2.2.2.1,v0.2.2.2.2.2.2.1,v0.2.2.2.2.2.2.2.1,(),v0.2.2.2.2.2.2.2.2.2.1,v0.2.2.2.2.2.2.2.2.2.2.1,v0.2.2.2.2.2.2.2.2.2.2.2,()),()),(v0.2.2.1,v0.2.2.2.2.2.2.2.2.1,()))
def yo5 (v0:Int) (v1:List Int) (v2 v3 v4 v5 v6 v7 v8 v9 v10 v11 v12:Int) (v13 v14:Bool) (v15:List dM) (v16:List dW):Option ((ycL).X ⊕ ((ygu).X ⊕ (ykB).X)) :=bif(ltb v3 (v15.length:Int))then let r9:=yhJ v1;bif(v3 !=v2)then bif(v5 !=0)then bif(inb ((i64.wrap ((i64.wrap ((i64.wrap (v3-v2))-1))+v5)).tmod v5) v1.length)then let r10:=ydj (v4,(v5,v6),v15,v7,v8,v9,v10,v11,v16,v12,v13,v14) v3 v0;bif r10 then let r11:=ybf v0;bnd (yd7 (v4,(v5,v6),v15,v7,v8,v9,v10,v11,v16,v12,v13,v14) v3 r11 ([(nth v1 ((i64.wrap ((i64.wrap ((i64.wrap (v3-v2))-1))+v5)).tmod v5) 0)]:List Int)) fun r12 =>some (.inl ((((),()),(v0,()),(v1,()),(v2,()),((i64.wrap (v3+1)),()),()),((r12.2.1.1,r12.2.1.2.1.1,r12.2.1.2.1.2,(),r12.2.1.2.2.2.1,r12.2.1.2.2.2.2.1,r12.2.1.2.2.2.2.2.1,r12.2.1.2.2.2.2.2.2.1,r12.2.1.2.2.2.2.2.2.2.1,(),r12.2.1.2.2.2.2.2.2.2.2.2.1,r12.2.1.2.2.2.2.2.2.2.2.2.2.1,r12.2.1.2.2.2.2.2.2.2.2.2.2.2,()),()),(r12.2.1.2.2.1,r12.2.1.2.2.2.2.2.2.2.2.1,()))) else some (.inl ((((),()),(v0,()),(v1,()),(v2,()),((i64.wrap (v3+1)),()),()),((v4,v5,v6,(),v7,v8,v9,v10,v11,(),v12,v13,v14,()),()),(v15,v16,()))) else none else none else let r13:=ydj (v4,(v5,v6),v15,v7,v8,v9,v10,v11,v16,v12,v13,v14) v3 v0;bif r13 then let r14:=ybf v0;bnd (yd7 (v4,(v5,v6),v15,v7,v8,v9,v10,v11,v16,v12,v13,v14) v3 r14 ([r9]:List Int)) fun r15 =>some (.inl ((((),()),(v0,()),(v1,()),(v2,()),((i64.wrap (v3+1)),()),()),((r15.2.1.1,r15.2.1.2.1.1,r15.2.1.2.1.2,(),r15.2.1.2.2.2.1,r15.2.1.2.2.2.2.1,r15.2.1.2.2.2.2.2.1,r15.2.1.2.2.2.2.2.2.1,r15.2.1.2.2.2.2.2.2.2.1,(),r15.2.1.2.2.2.2.2.2.2.2.2.1,r15.2.1.2.2.2.2.2.2.2.2.2.2.1,r15.2.1.2.2.2.2.2.2.2.2.2.2.2,()),()),(r15.2.1.2.2.1,r15.2.1.2.2.2.2.2.2.2.2.1,()))) else some (.inl ((((),()),(v0,()),(v1,()),(v2,()),((i64.wrap (v3+1)),()),()),((v4,v5,v6,(),v7,v8,v9,v10,v11,(),v12,v13,v14,()),()),(v15,v16,()))) else some (.inr (.inl ((),((v4,v5,v6,(),v7,v8,v9,v10,v11,(),v12,v13,v14,()),()),(v15,v16,()))))
def ydd (x:(ycL).X):=yo5 x.1.2.1.1 x.1.2.2.1.1 x.1.2.2.2.1.1 x.1.2.2.2.2.1.1 x.2.1.1.1 x.2.1.1.2.1 x.2.1.1.2.2.1 x.2.1.1.2.2.2.2.1 x.2.1.1.2.2.2.2.2.1 x.2.1.1.2.2.2.2.2.2.1 x.2.1.1.2.2.2.2.2.2.2.1 x.2.1.1.2.2.2.2.2.2.2.2.1 x.2.1.1.2.2.2.2.2.2.2.2.2.2.1 x.2.1.1.2.2.2.2.2.2.2.2.2.2.2.1 x.2.1.1.2.2.2.2.2.2.2.2.2.2.2.2.1 x.2.2.1 x.2.2.2.1
def yym (x:(ygI).X):(ycL).X:=((((),()),(x.1.2.1.1,()),(x.1.2.2.1.1,()),(x.1.2.2.2.1.1,()),(0,()),()),((x.2.1.1.1,x.2.1.1.2.1,x.2.1.1.2.2.1,(),x.2.1.1.2.2.2.2.1,x.2.1.1.2.2.2.2.2.1,x.2.1.1.2.2.2.2.2.2.1,x.2.1.1.2.2.2.2.2.2.2.1,x.2.1.1.2.2.2.2.2.2.2.2.1,(),x.2.1.1.2.2.2.2.2.2.2.2.2.2.1,x.2.1.1.2.2.2.2.2.2.2.2.2.2.2.1,x.2.1.1.2.2.2.2.2.2.2.2.2.2.2.2.1,()),()),(x.2.2.1,x.2.2.2.1,()))
def yzP:Code:=(zd7 ynD 64 28).getD .skip
theorem yLg:zd7 ynD 64 7=some (.block 0 (.loop yzP)):=by kernel_rfl
theorem yNJ (x:(ycL).X):zhu ⟨yuo,61,yzA⟩ 0 yzP 28 ycL ygu ykB x=ydd x:=by kernel_rfl
def yyB (x:(ygI).X):Nat:=18446744073709551616
def ypP (x:(ygI).X):Option ((ygu).X ⊕ (ykB).X):=zF ydd (yyB x) (yym x)
def yzg:Seg:=⟨ygI,ygu,ykB,ypP⟩
def yKQ:Nat→Option Seg:=fun q=>bif Nat.beq q 7 then some yzg else yzA q
theorem yIJ:FrOk prog ⟨yuo,61,yKQ⟩ ynD:=(yII).loop (sg:=yzg) ycL yym (by decide) yLg ydd yyB (by decide) (fun _=>rfl) (fun x r _ h=>h) yNJ
abbrev yjn:List Par:= [.pt tA (.pr .fz (.pr (.pr .fz .fz) (.pr (.ow (.pr (.ow .fz) (.pr (.ow (.pr .fz .fz)) (.pr .fz (.ow .fz))))) (.pr .fz (.pr .fz (.pr .fz (.pr .fz (.pr .fz (.pr (.ow (.pr .fz .fz)) (.pr .fz (.pr .fz .fz))))))))))),.rd tI,.rd tL]
abbrev ynX:List OT:= []
def yrf (a0:dA) (a1:Int) (a2:List Int):Option (zaY ynX×zak yjn) :=let r1:=ycW a0.2.1 a1;zkt (ypP ((((),()),(a1,()),(a2,()),(r1,()),((),()),()),((a0.1,a0.2.1.1,a0.2.1.2,(),a0.2.2.2.1,a0.2.2.2.2.1,a0.2.2.2.2.2.1,a0.2.2.2.2.2.2.1,a0.2.2.2.2.2.2.2.1,(),a0.2.2.2.2.2.2.2.2.2.1,a0.2.2.2.2.2.2.2.2.2.2.1,a0.2.2.2.2.2.2.2.2.2.2.2,()),()),(a0.2.2.1,a0.2.2.2.2.2.2.2.2.1,()))) (fun y15 =>some ((),((y15.2.1.1.1,(y15.2.1.1.2.1,y15.2.1.1.2.2.1),y15.2.2.1,y15.2.1.1.2.2.2.2.1,y15.2.1.1.2.2.2.2.2.1,y15.2.1.1.2.2.2.2.2.2.1,y15.2.1.1.2.2.2.2.2.2.2.1,y15.2.1.1.2.2.2.2.2.2.2.2.1,y15.2.2.2.1,y15.2.1.1.2.2.2.2.2.2.2.2.2.2.1,y15.2.1.1.2.2.2.2.2.2.2.2.2.2.2.1,y15.2.1.1.2.2.2.2.2.2.2.2.2.2.2.2.1),()))) (fun y15 =>none)
theorem yNb:ConOk prog 170 ⟨yjn,ynX,fun x=>yrf x.1 x.2.1 x.2.2.1⟩:=zkI (yIJ) func170 ntmps170.symm fun x=>by kernel_rfl
def yn1 (a0:dA) (a1:Int) (a2:List Int):dA:=yB a0 a1 a2
def yjG (a0:dA) (a1:Int) (a2:List Int):Bool:=yO a0.2.1 a1&&((a2.length:Int)==a0.2.1.1-1&&(a0.2.2.1.length:Int)==a0.2.1.1)
theorem yPd (a0:dA) (a1:Int) (a2:List Int) (hk:zjx yjn (a0,a1,a2,())) (hq:yjG a0 a1 a2=true):yrf a0 a1 a2=(fun n=>some ((),(n,()))) (yn1 a0 a1 a2):=by
 simp only[yjG,Bool.and_eq_true,beq_iff_eq]at hq;have hg:=yl.1 (yah.1 hq.1).1;have hp:=yiI hq.1
 have h1:ypP (yI9 a1 a2 (yg a0.2.1 a1) a0)=some (.inl (yyJ (yB a0 a1 a2))) :=
  zkD (step:=ydd) a0.2.2.1.length (fun i s=>yoA a1 a2 (yg a0.2.1 a1) i s) (yaW (yg a0.2.1 a1) a0.2.1.1 a1 a2) (fun _ s=>s.2.2.1.length=a0.2.2.1.length∧s.2.1=a0.2.1) (fun s=> .inl (yyJ s)) (fun i s hi hs=>⟨by
   have hN:s.2.1.1=a0.2.1.1:=by rw[hs.2]
   simp only[ydd,yoA,yo5,hs.1,zky (show(i:Int)<a0.2.2.1.length by omega),cond_true,wq ((i:Int)+1) (by omega) (by omega),Int.natCast_add,Int.natCast_one,Int.toNat_natCast,zkX,yin,yhJ,ydj,yfa,yaW,ybX];rw[← hN];by_cases he:(i:Int)=yg a0.2.1 a1
   ·rw[show((i:Int) !=yg a0.2.1 a1)=false by simp[he],show((i:Int)==yg a0.2.1 a1)=true from beq_iff_eq.2 he]
    rw[yjE s i (yy a1) [yai a2] (zkR (by rw[hs.1]; exact hi))];cases ybR s i a1<;>rfl
   ·have hd:=yWm (N:=s.2.1.1) (i:=i) (p:=yg a0.2.1 a1) ⟨by omega,by omega⟩ ⟨by omega,by omega⟩ ⟨hp.1,by omega⟩ he
    rw[show((i:Int) !=yg a0.2.1 a1)=true from bne_iff_ne.2 he,show((i:Int)==yg a0.2.1 a1)=false from beq_eq_false_iff_ne.2 he,show(s.2.1.1 !=0)=true from bne_iff_ne.2 (by omega),
     wq ((i:Int)-yg a0.2.1 a1) (by omega) (by omega),wq ((i:Int)-yg a0.2.1 a1-1) (by omega) (by omega),wq ((i:Int)-yg a0.2.1 a1-1+s.2.1.1) (by omega) (by omega),zj6.2 (show 0≤((i:Int)-yg a0.2.1 a1-1+s.2.1.1).tmod s.2.1.1∧((i:Int)-yg a0.2.1 a1-1+s.2.1.1).tmod s.2.1.1<a2.length by omega)]
    rw[yjE s i (yy a1) [nth a2 (((i:Int)-yg a0.2.1 a1-1+s.2.1.1).tmod s.2.1.1) 0] (zkR (by rw[hs.1]; exact hi))]
    cases ybR s i a1<;>rfl,(ytb _ _ _ _ s i).trans hs.1,(yaC (yDO _ _ _ _ s i)).trans hs.2⟩) (fun s hs=>by simp only[ydd,yoA,yo5,hs.1,zk3 (Int.le_refl _),cond_false]) a0 ⟨rfl,rfl⟩ _ (by show _<18446744073709551616; omega)
 unfold yrf yn1 ycW;exact(congrArg (fun z=>zkt z _ _) h1).trans rfl
def yf7 (a0:dA) (a1:Int) (a2:List Int):Option (zaY ynX×zak yjn):=bif yjG a0 a1 a2 then(fun n=>some ((),(n,()))) (yn1 a0 a1 a2)else none
theorem yP2 (a0:dA) (a1:Int) (a2:List Int) (h:yjG a0 a1 a2=true):yf7 a0 a1 a2=(fun n=>some ((),(n,()))) (yn1 a0 a1 a2):=by unfold yf7; rw[h]; rfl
def yAe:Con:=⟨yjn,ynX,fun x=>yf7 x.1 x.2.1 x.2.2.1⟩
theorem yPY:ConOk prog 170 yAe:=(yNb).mono (fun x r hk h=>zkY h (fun hq=>yPd x.1 x.2.1 x.2.2.1 hk hq))
def yN2:Code:=(f171.body).getD .skip
def yOs:Env:=zkw TT [(174,ykL),(208,ykM)] []
theorem yGm:FrOk prog ⟨yOs,17,fun _=>none⟩ yN2:=zkA mixed yc ⟨ysN,ysO,trivial⟩
abbrev ysh:List Par:= [.pt tA (.pr .fz (.pr (.pr .fz .fz) (.pr (.ow (.pr (.ow .fz) (.pr (.ow (.pr .fz .fz)) (.pr .fz (.ow .fz))))) (.pr .fz (.pr .fz (.pr .fz (.pr .fz (.pr .fz (.pr (.ow (.pr .fz .fz)) (.pr .fz (.pr .fz .fz)))))))))))]
abbrev ysy:List OT:= []
def yy3 (a0:dA):Option (zaY ysy×zak ysh) :=let r1:=ydm a0;bif r1.2.2.2.2.2.2.2.2.2.2.1 then some ((),(r1,())) else let r2:=yaG (r1.1,r1.2.1,r1.2.2.1,r1.2.2.2.1,r1.2.2.2.2.1,r1.2.2.2.2.2.1,r1.2.2.2.2.2.1,r1.2.2.2.2.2.2.2);some ((),(r2,()))
theorem yJZ:ConOk prog 171 ⟨ysh,ysy,fun x=>yy3 x.1⟩:=zkI (yGm) func171 ntmps171.symm fun x=>by kernel_rfl
def ye9 (a0:dA):dA :=let r1:=ydm a0;bif r1.2.2.2.2.2.2.2.2.2.2.1 then r1 else let r2:=yaG (r1.1,r1.2.1,r1.2.2.1,r1.2.2.2.1,r1.2.2.2.2.1,r1.2.2.2.2.2.1,r1.2.2.2.2.2.1,r1.2.2.2.2.2.2.2);r2
def yon:Con:=⟨ysh,ysy,fun x=>(fun n=>some ((),(n,()))) (ye9 x.1)⟩
theorem yMy (a0:dA):yy3 a0=(fun n=>some ((),(n,()))) (ye9 a0):=zkV (p:=fun(n:dA)=>((),(n,()))) (zkG (p:=fun(n:dA)=>((),(n,()))) rfl rfl)
theorem yAs:ConOk prog 171 yon:=(yJZ).mono (fun x r _ h=>(yMy x.1).trans h)
theorem yCT (a:dA):ye9 a=yR a:=by
 unfold ye9 yR ydm yaG;show(bif yb (yq a)then yq a else yab (yaV (yq a)))=_;rfl
def yN3:Code:=(f217.body).getD .skip
def yOt:Env:=zkw TT [(169,yBz),(170,yAe),(171,yon)] []
theorem yGn:FrOk prog ⟨yOt,54,fun _=>none⟩ yN3:=zkA mixed yc ⟨yR2,yPY,yAs,trivial⟩
abbrev yhW:List Par:= [.pt tA (.pr .fz (.pr (.pr .fz .fz) (.pr (.ow (.pr (.ow .fz) (.pr (.ow (.pr .fz .fz)) (.pr .fz (.ow .fz))))) (.pr .fz (.pr .fz (.pr .fz (.pr .fz (.pr .fz (.pr (.ow (.pr .fz .fz)) (.pr .fz (.pr .fz .fz))))))))))),.rd tI,.rd tL]
abbrev yl5:List OT:= [⟨false,tI,.fz⟩]
def yoU (a0:dA) (a1:Int) (a2:List Int):Option (zaY yl5×zak yhW) :=bif(leb 4 (i64.wrap (a0.2.2.2.2.2.1-a0.2.2.2.2.2.2.1)))then let r1:=ye9 a0;bif r1.2.2.2.2.2.2.2.2.2.2.1 then some ((6,()),(r1,())) else bif(zkl ([]:List Int).length a2.length 8)then let r2:=yiq r1 (r1.2.2.2.2.2.1,a1,(([]:List Int)++a2));bif r2.2.2.2.2.2.2.2.2.2.2.1 then some ((6,()),(r2,())) else bnd (yf7 (r2.1,r2.2.1,r2.2.2.1,r2.2.2.2.1,r2.2.2.2.2.1,(i64.wrap (r2.2.2.2.2.2.1+1)),r2.2.2.2.2.2.2) a1 a2) fun r3 =>bif r3.2.1.2.2.2.2.2.2.2.2.2.2.1 then some ((6,()),(r3.2.1,())) else some ((0,()),(r3.2.1,())) else none else bif a0.2.2.2.2.2.2.2.2.2.2.1 then some ((6,()),(a0,())) else bif(zkl ([]:List Int).length a2.length 8)then let r4:=yiq a0 (a0.2.2.2.2.2.1,a1,(([]:List Int)++a2));bif r4.2.2.2.2.2.2.2.2.2.2.1 then some ((6,()),(r4,())) else bnd (yf7 (r4.1,r4.2.1,r4.2.2.1,r4.2.2.2.1,r4.2.2.2.2.1,(i64.wrap (r4.2.2.2.2.2.1+1)),r4.2.2.2.2.2.2) a1 a2) fun r5 =>bif r5.2.1.2.2.2.2.2.2.2.2.2.2.1 then some ((6,()),(r5.2.1,())) else some ((0,()),(r5.2.1,())) else none
theorem yJ0:ConOk prog 217 ⟨yhW,yl5,fun x=>yoU x.1 x.2.1 x.2.2.1⟩:=zkI (yGn) func217 ntmps217.symm fun x=>by kernel_rfl
def yir (a0:dA) (a1:Int) (a2:List Int):Int×dA:=yH a0 a1 a2
def yiz (a0:dA) (a1:Int) (a2:List Int):Bool:=yO a0.2.1 a1&&((a2.length:Int)==a0.2.1.1-1&&(a0.2.2.1.length:Int)==a0.2.1.1)
theorem yMz (a0:dA) (a1:Int) (a2:List Int) (hk:zjx yhW (a0,a1,a2,())) (hq:yiz a0 a1 a2=true):yoU a0 a1 a2=(fun n=>some ((n.1,()),(n.2,()))) (yir a0 a1 a2):=by
 have hq':=hq;simp only[yiz,Bool.and_eq_true,beq_iff_eq]at hq;have hg:=yl.1 (yah.1 hq.1).1;have hap:zkl ([]:List Int).length a2.length 8=true:=zkF.2 (by simp only[List.length_nil]; omega)
 have key: ∀b:dA,b.2.1=a0.2.1→b.2.2.1.length=a0.2.2.1.length→yf7 (yU (yJ b (b.2.2.2.2.2.1,a1,a2))) a1 a2=some ((),(yB (yU (yJ b (b.2.2.2.2.2.1,a1,a2))) a1 a2,())):=fun b h1 h2=>yP2 _ _ _ (by
  unfold yjG;rw[show(yU (yJ b (b.2.2.2.2.2.1,a1,a2))).2.1=a0.2.1 from(yaC (ybe _ _)).trans h1,show(yU (yJ b (b.2.2.2.2.2.1,a1,a2))).2.2.1.length=a0.2.2.1.length from(yTL _ _).trans h2]
  exact hq')
 unfold yoU yir yH ym;simp only[yCT,yiq,List.nil_append,hap,cond_true];cases leb 4 (i64.wrap (a0.2.2.2.2.2.1-a0.2.2.2.2.2.2.1))
 ·have hd:=key a0 rfl rfl
  simp only[cond_false];generalize yJ a0 (a0.2.2.2.2.2.1,a1,a2)=R at hd ⊢;generalize yB (yU R) a1 a2=Q at hd ⊢;unfold yU at hd;simp only[cond_false,hd,zkH];unfold yb;cases a0.2.2.2.2.2.2.2.2.2.2.1
  ·cases R.2.2.2.2.2.2.2.2.2.2.1
   ·cases Q.2.2.2.2.2.2.2.2.2.2.1<;>rfl
   ·rfl
  ·rfl
 ·have hd:=key (yR a0) (yDL a0) (yQb a0)
  simp only[cond_true];generalize yR a0=C at hd ⊢;generalize yJ C (C.2.2.2.2.2.1,a1,a2)=R at hd ⊢;generalize yB (yU R) a1 a2=Q at hd ⊢;unfold yU at hd;simp only[cond_true,hd,zkH];unfold yb;cases C.2.2.2.2.2.2.2.2.2.2.1
  ·cases R.2.2.2.2.2.2.2.2.2.2.1
   ·cases Q.2.2.2.2.2.2.2.2.2.2.1<;>rfl
   ·rfl
  ·rfl
def ymi (a0:dA) (a1:Int) (a2:List Int):Option (zaY yl5×zak yhW):=bif yiz a0 a1 a2 then(fun n=>some ((n.1,()),(n.2,()))) (yir a0 a1 a2)else none
theorem yNy (a0:dA) (a1:Int) (a2:List Int) (h:yiz a0 a1 a2=true):ymi a0 a1 a2=(fun n=>some ((n.1,()),(n.2,()))) (yir a0 a1 a2):=by unfold ymi; rw[h]; rfl
def yx9:Con:=⟨yhW,yl5,fun x=>ymi x.1 x.2.1 x.2.2.1⟩
theorem yNt:ConOk prog 217 yx9:=(yJ0).mono (fun x r hk h=>zkY h (fun hq=>yMz x.1 x.2.1 x.2.2.1 hk hq))
def yN4:Code:=(f179.body).getD .skip
def yOu:Env:=zkw TT [(215,yvl),(216,yAd),(217,yx9)] [(36928,(.pr .fz .fz))]
theorem yGo:FrOk prog ⟨yOu,63,fun _=>none⟩ yN4:=zkA mixed yc ⟨yET,yPX,yNt,trivial⟩
abbrev yhX:List Par:= [.pt tA (.pr .fz (.pr (.pr .fz .fz) (.pr (.ow (.pr (.ow .fz) (.pr (.ow (.pr .fz .fz)) (.pr .fz (.ow .fz))))) (.pr .fz (.pr .fz (.pr .fz (.pr .fz (.pr .fz (.pr (.ow (.pr .fz .fz)) (.pr .fz (.pr .fz .fz))))))))))),.rd tI]
abbrev yl6:List OT:= [⟨false,tI,.fz⟩]
def yoV (a0:dA) (a1:Int):Option (zaY yl6×zak yhX) :=let r1:=yhm a0 a1;bif(ltb r1 0)then some ((0,()),(a0,())) else bif(inb r1 a0.2.2.2.2.2.2.2.2.1.length)then let r2:=yD a0 a1 ((nth a0.2.2.2.2.2.2.2.2.1 r1 (0,[])).2);bif(r2 !=0)then some ((r2,()),(a0,())) else bif(inb r1 a0.2.2.2.2.2.2.2.2.1.length)then bnd (ymi a0 a1 ((nth a0.2.2.2.2.2.2.2.2.1 r1 (0,[])).2)) fun r3 =>bif(r3.1.1==0)then bif(zj0 0 r1 r3.2.1.2.2.2.2.2.2.2.2.1.length)then bif(zkl ([]:List dW).length ((r3.2.1.2.2.2.2.2.2.2.2.1.drop (0:Int).toNat).take (r1-0).toNat).length 32)then bif(zj0 (i64.wrap (r1+1)) (r3.2.1.2.2.2.2.2.2.2.2.1.length:Int) r3.2.1.2.2.2.2.2.2.2.2.1.length)then bif(zkl (([]:List dW)++((r3.2.1.2.2.2.2.2.2.2.2.1.drop (0:Int).toNat).take (r1-0).toNat)).length ((r3.2.1.2.2.2.2.2.2.2.2.1.drop ((i64.wrap (r1+1))).toNat).take ((r3.2.1.2.2.2.2.2.2.2.2.1.length:Int)-(i64.wrap (r1+1))).toNat).length 32)then some ((r3.1.1,()),((r3.2.1.1,r3.2.1.2.1,r3.2.1.2.2.1,r3.2.1.2.2.2.1,r3.2.1.2.2.2.2.1,r3.2.1.2.2.2.2.2.1,r3.2.1.2.2.2.2.2.2.1,r3.2.1.2.2.2.2.2.2.2.1,((([]:List dW)++((r3.2.1.2.2.2.2.2.2.2.2.1.drop (0:Int).toNat).take (r1-0).toNat))++((r3.2.1.2.2.2.2.2.2.2.2.1.drop ((i64.wrap (r1+1))).toNat).take ((r3.2.1.2.2.2.2.2.2.2.2.1.length:Int)-(i64.wrap (r1+1))).toNat)),r3.2.1.2.2.2.2.2.2.2.2.2),())) else none else none else none else none else some ((r3.1.1,()),(r3.2.1,())) else none else none
theorem yJ1:ConOk prog 179 ⟨yhX,yl6,fun x=>yoV x.1 x.2.1⟩:=zkI (yGo) func179 ntmps179.symm fun x=>by kernel_rfl
def yis (a0:dA) (a1:Int):Int×dA:=yaT a0 a1
def ysU (a0:dA) (a1:Int):Bool:=decide (a0.2.2.2.2.2.2.2.2.1.length≤1000)
theorem yMA (a0:dA) (a1:Int) (hk:zjx yhX (a0,a1,())) (hq:ysU a0 a1=true):yoV a0 a1=(fun n=>some ((n.1,()),(n.2,()))) (yis a0 a1):=by
 have hq:=of_decide_eq_true hq;unfold yoV yis yaT;simp only[yhm];cases h0:ltb (yaa a0.2.2.2.2.2.2.2.2.1 a1) 0
 ·have h1:=zkW h0
  have hi:inb (yaa a0.2.2.2.2.2.2.2.2.1 a1) a0.2.2.2.2.2.2.2.2.1.length=true:=(yoq (d:=((0:Int),([]:List Int))) (zk2 h1)).1;simp only[hi,cond_true,cond_false];generalize hD:(nth a0.2.2.2.2.2.2.2.2.1 (yaa a0.2.2.2.2.2.2.2.2.1 a1) (0,[])).2=D;cases hc:(yD a0 a1 D !=0)
  ·obtain⟨ha,hl,hw,hd,hs,hb,_⟩:=ytp (bne_eq_false_iff_eq.1 hc)
   rw[yNy a0 a1 D (by unfold yiz; rw[hs,hl,yth ha]; simp)];simp only[zkH,cond_false,yir,yTB];have hk:=zj6.1 hi;cases hr:((yH a0 a1 D).1==0)
   ·rfl
   ·generalize yaa a0.2.2.2.2.2.2.2.2.1 a1=K at h1 hk
    rw[wq (K+1) (by omega) (by omega),zkz.2 (show(0:Int)≤0∧0≤K∧K≤(a0.2.2.2.2.2.2.2.2.1.length:Int)by omega),zkz.2 (show 0≤K+1∧K+1≤(a0.2.2.2.2.2.2.2.2.1.length:Int)∧(a0.2.2.2.2.2.2.2.2.1.length:Int)≤(a0.2.2.2.2.2.2.2.2.1.length:Int)by omega),
     zkF.2 (by rw[List.length_take,List.length_drop,List.length_nil]; omega),zkF.2 (by rw[List.length_append,List.length_take,List.length_take,List.length_drop,List.length_drop,List.length_nil]; omega),yUl h1 hk.2]
    rw[beq_iff_eq.1 hr]; rfl
  ·rfl
 ·rfl
def yco (a0:dA) (a1:Int):Option (zaY yl6×zak yhX):=bif ysU a0 a1 then(fun n=>some ((n.1,()),(n.2,()))) (yis a0 a1)else none
theorem yAv (a0:dA) (a1:Int) (h:ysU a0 a1=true):yco a0 a1=(fun n=>some ((n.1,()),(n.2,()))) (yis a0 a1):=by unfold yco; rw[h]; rfl
def yoo:Con:=⟨yhX,yl6,fun x=>yco x.1 x.2.1⟩
theorem yAt:ConOk prog 179 yoo:=(yJ1).mono (fun x r hk h=>zkY h (fun hq=>yMA x.1 x.2.1 hk hq))
def yps:Code:=(f117.body).getD .skip
def yxd:Env:=zkw TT [(179,yoo)] []
theorem yLW:FrOk prog ⟨yxd,22,fun _=>none⟩ yps:=zkA mixed yc ⟨yAt,trivial⟩
def yBk:Nat→Option Seg:=fun _=>none
def ydy:Shape:=⟨[(0,false,[.ptr 1000000000 0])],[(1000000000,[.int .i64,.int .i64,.int .i64,.at 800000000,.int .i64,.int .i64,.int .i64,.int .i64,.int .i64,.at 800000001,.int .i64,.bool,.bool])],[(800000000,tM,(.pr (.ow .fz) (.pr (.ow (.pr .fz .fz)) (.pr .fz (.ow .fz))))),(800000001,tW,(.pr .fz .fz))]⟩
def yh0:Shape:=⟨[(0,false,[.ptr 1000000000 0])],[(1000000000,[.int .i64,.int .i64,.int .i64,.at 800000000,.int .i64,.int .i64,.int .i64,.int .i64,.int .i64,.at 800000001,.int .i64,.bool,.bool])],[(800000000,tM,(.pr (.ow .fz) (.pr (.ow (.pr .fz .fz)) (.pr .fz (.ow .fz))))),(800000001,tW,(.pr .fz .fz))]⟩
def yhY:Shape:=⟨[],[(1000000000,[.int .i64,.int .i64,.int .i64,.at 800000000,.int .i64,.int .i64,.int .i64,.int .i64,.int .i64,.at 800000001,.int .i64,.bool,.bool])],[(800000000,tM,(.pr (.ow .fz) (.pr (.ow (.pr .fz .fz)) (.pr .fz (.ow .fz))))),(800000001,tW,(.pr .fz .fz))]⟩
def yh3:Shape:=⟨[(2,false,[.int .i64])],[(1000000000,[.int .i64,.int .i64,.int .i64,.at 800000000,.int .i64,.int .i64,.int .i64,.int .i64,.int .i64,.at 800000001,.int .i64,.bool,.bool])],[(800000000,tM,(.pr (.ow .fz) (.pr (.ow (.pr .fz .fz)) (.pr .fz (.ow .fz))))),(800000001,tW,(.pr .fz .fz))]⟩
abbrev yqP (v0:dA):(ydy).X:=((((),()),()),((v0.1,v0.2.1.1,v0.2.1.2,(),v0.2.2.2.1,v0.2.2.2.2.1,v0.2.2.2.2.2.1,v0.2.2.2.2.2.2.1,v0.2.2.2.2.2.2.2.1,(),v0.2.2.2.2.2.2.2.2.2.1,v0.2.2.2.2.2.2.2.2.2.2.1,v0.2.2.2.2.2.2.2.2.2.2.2,()),()),(v0.2.2.1,v0.2.2.2.2.2.2.2.2.1,()))
abbrev yMb (v0:dA):(yh0).X:=((((),()),()),((v0.1,v0.2.1.1,v0.2.1.2,(),v0.2.2.2.1,v0.2.2.2.2.1,v0.2.2.2.2.2.1,v0.2.2.2.2.2.2.1,v0.2.2.2.2.2.2.2.1,(),v0.2.2.2.2.2.2.2.2.2.1,v0.2.2.2.2.2.2.2.2.2.2.1,v0.2.2.2.2.2.2.2.2.2.2.2,()),()),(v0.2.2.1,v0.2.2.2.2.2.2.2.2.1,()))
abbrev yL9 (v0:dA):(yhY).X:=((),((v0.1,v0.2.1.1,v0.2.1.2,(),v0.2.2.2.1,v0.2.2.2.2.1,v0.2.2.2.2.2.1,v0.2.2.2.2.2.2.1,v0.2.2.2.2.2.2.2.1,(),v0.2.2.2.2.2.2.2.2.2.1,v0.2.2.2.2.2.2.2.2.2.2.1,v0.2.2.2.2.2.2.2.2.2.2.2,()),()),(v0.2.2.1,v0.2.2.2.2.2.2.2.2.1,()))
abbrev yMd (v0:Int) (v1:dA):(yh3).X:=(((v0,()),()),((v1.1,v1.2.1.1,v1.2.1.2,(),v1.2.2.2.1,v1.2.2.2.2.1,v1.2.2.2.2.2.1,v1.2.2.2.2.2.2.1,v1.2.2.2.2.2.2.2.1,(),v1.2.2.2.2.2.2.2.2.2.1,v1.2.2.2.2.2.2.2.2.2.2.1,v1.2.2.2.2.2.2.2.2.2.2.2,()),()),(v1.2.2.1,v1.2.2.2.2.2.2.2.2.1,()))
def yrm (v0 v1 v2 v3 v4 v5 v6 v7 v8:Int) (v9 v10:Bool) (v11:List dM) (v12:List dW):Option ((ydy).X ⊕ ((yhY).X ⊕ (yh3).X)) :=bif(ltb 0 (v12.length:Int))then bif(inb 0 v12.length)then bnd (yco (v0,(v1,v2),v11,v3,v4,v5,v6,v7,v12,v8,v9,v10) ((nth v12 0 (0,[])).1)) fun r2 =>bif(r2.1.1 !=0)then some (.inr (.inr (((r2.1.1,()),()),((r2.2.1.1,r2.2.1.2.1.1,r2.2.1.2.1.2,(),r2.2.1.2.2.2.1,r2.2.1.2.2.2.2.1,r2.2.1.2.2.2.2.2.1,r2.2.1.2.2.2.2.2.2.1,r2.2.1.2.2.2.2.2.2.2.1,(),r2.2.1.2.2.2.2.2.2.2.2.2.1,r2.2.1.2.2.2.2.2.2.2.2.2.2.1,r2.2.1.2.2.2.2.2.2.2.2.2.2.2,()),()),(r2.2.1.2.2.1,r2.2.1.2.2.2.2.2.2.2.2.1,())))) else some (.inl ((((),()),()),((r2.2.1.1,r2.2.1.2.1.1,r2.2.1.2.1.2,(),r2.2.1.2.2.2.1,r2.2.1.2.2.2.2.1,r2.2.1.2.2.2.2.2.1,r2.2.1.2.2.2.2.2.2.1,r2.2.1.2.2.2.2.2.2.2.1,(),r2.2.1.2.2.2.2.2.2.2.2.2.1,r2.2.1.2.2.2.2.2.2.2.2.2.2.1,r2.2.1.2.2.2.2.2.2.2.2.2.2.2,()),()),(r2.2.1.2.2.1,r2.2.1.2.2.2.2.2.2.2.2.1,()))) else none else some (.inr (.inl ((),((v0,v1,v2,(),v3,v4,v5,v6,v7,(),v8,v9,v10,()),()),(v11,v12,()))))
def ydH (x:(ydy).X):=yrm x.2.1.1.1 x.2.1.1.2.1 x.2.1.1.2.2.1 x.2.1.1.2.2.2.2.1 x.2.1.1.2.2.2.2.2.1 x.2.1.1.2.2.2.2.2.2.1 x.2.1.1.2.2.2.2.2.2.2.1 x.2.1.1.2.2.2.2.2.2.2.2.1 x.2.1.1.2.2.2.2.2.2.2.2.2.2.1 x.2.1.1.2.2.2.2.2.2.2.2.2.2.2.1 x.2.1.1.2.2.2.2.2.2.2.2.2.2.2.2.1 x.2.2.1 x.2.2.2.1
def yAg (x:(yh0).X):(ydy).X:=((((),()),()),((x.2.1.1.1,x.2.1.1.2.1,x.2.1.1.2.2.1,(),x.2.1.1.2.2.2.2.1,x.2.1.1.2.2.2.2.2.1,x.2.1.1.2.2.2.2.2.2.1,x.2.1.1.2.2.2.2.2.2.2.1,x.2.1.1.2.2.2.2.2.2.2.2.1,(),x.2.1.1.2.2.2.2.2.2.2.2.2.2.1,x.2.1.1.2.2.2.2.2.2.2.2.2.2.2.1,x.2.1.1.2.2.2.2.2.2.2.2.2.2.2.2.1,()),()),(x.2.2.1,x.2.2.2.1,()))
def yBp:Code:=(zd7 yps 64 24).getD .skip
theorem yOv:zd7 yps 64 6=some (.block 0 (.loop yBp)):=by kernel_rfl
theorem yP3 (x:(ydy).X):zhu ⟨yxd,22,yBk⟩ 0 yBp 24 ydy yhY yh3 x=ydH x:=by kernel_rfl
def yAk (x:(yh0).X):Nat:=18446744073709551616
def yr7 (x:(yh0).X):Option ((yhY).X ⊕ (yh3).X):=zF ydH (yAk x) (yAg x)
def yAN:Seg:=⟨yh0,yhY,yh3,yr7⟩
def yOe:Nat→Option Seg:=fun q=>bif Nat.beq q 6 then some yAN else yBk q
theorem yLX:FrOk prog ⟨yxd,22,yOe⟩ yps:=(yLW).loop (sg:=yAN) ydy yAg (by decide) yOv ydH yAk (by decide) (fun _=>rfl) (fun x r _ h=>h) yP3
abbrev yk5:List Par:= [.pt tA (.pr .fz (.pr (.pr .fz .fz) (.pr (.ow (.pr (.ow .fz) (.pr (.ow (.pr .fz .fz)) (.pr .fz (.ow .fz))))) (.pr .fz (.pr .fz (.pr .fz (.pr .fz (.pr .fz (.pr (.ow (.pr .fz .fz)) (.pr .fz (.pr .fz .fz)))))))))))]
abbrev yqn:List OT:= [⟨false,tI,.fz⟩]
def ys5 (a0:dA):Option (zaY yqn×zak yk5) :=zkt (yr7 ((((),()),()),((a0.1,a0.2.1.1,a0.2.1.2,(),a0.2.2.2.1,a0.2.2.2.2.1,a0.2.2.2.2.2.1,a0.2.2.2.2.2.2.1,a0.2.2.2.2.2.2.2.1,(),a0.2.2.2.2.2.2.2.2.2.1,a0.2.2.2.2.2.2.2.2.2.2.1,a0.2.2.2.2.2.2.2.2.2.2.2,()),()),(a0.2.2.1,a0.2.2.2.2.2.2.2.2.1,()))) (fun y2 =>some ((0,()),((y2.2.1.1.1,(y2.2.1.1.2.1,y2.2.1.1.2.2.1),y2.2.2.1,y2.2.1.1.2.2.2.2.1,y2.2.1.1.2.2.2.2.2.1,y2.2.1.1.2.2.2.2.2.2.1,y2.2.1.1.2.2.2.2.2.2.2.1,y2.2.1.1.2.2.2.2.2.2.2.2.1,y2.2.2.2.1,y2.2.1.1.2.2.2.2.2.2.2.2.2.2.1,y2.2.1.1.2.2.2.2.2.2.2.2.2.2.2.1,y2.2.1.1.2.2.2.2.2.2.2.2.2.2.2.2.1),()))) (fun y2 =>some ((y2.1.1.1,()),((y2.2.1.1.1,(y2.2.1.1.2.1,y2.2.1.1.2.2.1),y2.2.2.1,y2.2.1.1.2.2.2.2.1,y2.2.1.1.2.2.2.2.2.1,y2.2.1.1.2.2.2.2.2.2.1,y2.2.1.1.2.2.2.2.2.2.2.1,y2.2.1.1.2.2.2.2.2.2.2.2.1,y2.2.2.2.1,y2.2.1.1.2.2.2.2.2.2.2.2.2.2.1,y2.2.1.1.2.2.2.2.2.2.2.2.2.2.2.1,y2.2.1.1.2.2.2.2.2.2.2.2.2.2.2.2.1),())))
theorem yPA:ConOk prog 117 ⟨yk5,yqn,fun x=>ys5 x.1⟩:=zkI (yLX) func117 ntmps117.symm fun x=>by kernel_rfl
def yqU (a0:dA):Int×dA:=yOx a0
def yyV (a0:dA):Bool:=decide (a0.2.2.2.2.2.2.2.2.1.length≤1000)
theorem yRO (a0:dA) (hk:zjx yk5 (a0,())) (hq:yyV a0=true):ys5 a0=(fun n=>some ((n.1,()),(n.2,()))) (yqU a0):=by
 have hq:=of_decide_eq_true hq
 have h1:=zkC (step:=ydH) a0.2.2.2.2.2.2.2.2.1.length (fun _ s=>yqP s) ysz (fun i s=>s.2.2.2.2.2.2.2.2.1.length+i=a0.2.2.2.2.2.2.2.2.1.length) (fun b=>(0,b))
  (fun r=>bif r.1==0 then .inl (yL9 r.2)else .inr (yMd r.1 r.2)) (fun i s hi hs=>by
   have hp:0<s.2.2.2.2.2.2.2.2.1.length:=by omega
   constructor
   ·simp only[ydH,yqP,yrm,zkX,zky (show(0:Int)<(s.2.2.2.2.2.2.2.2.1.length:Int)by omega),cond_true,show inb 0 s.2.2.2.2.2.2.2.2.1.length=true from zkR (i:=0) hp]
    rw[yAv s (nth s.2.2.2.2.2.2.2.2.1 0 (0,[])).1 (decide_eq_true (show s.2.2.2.2.2.2.2.2.1.length≤1000 by omega))];simp only[zkH,yis];unfold ysz;generalize yaT s (nth s.2.2.2.2.2.2.2.2.1 0 (0,[])).1=R;cases hr:(R.1 !=0)
    ·rfl
    ·simp only[cond_true]
     rw[show(R.1==0)=false from beq_eq_false_iff_ne.2 (bne_iff_ne.1 hr)]; rfl
   ·intro s' h
    unfold ysz at h;cases hr:((yaT s (nth s.2.2.2.2.2.2.2.2.1 0 (0,[])).1).1 !=0)
    ·rw[hr]at h
     simp only[cond_false,Sum.inl.injEq]at h;rw[← h,yT1 hp (bne_eq_false_iff_eq.1 hr),List.length_drop]; omega
    ·rw[hr]at h; cases h) (fun s hs=>by
   simp only[ydH,yqP,yrm,show ltb 0 (s.2.2.2.2.2.2.2.2.1.length:Int)=false from zk3 (by omega)]; rfl) a0 rfl 18446744073709551616 (by omega)
 unfold ys5 yqU yOx;refine(congrArg (fun z=>zkt z _ _) (show yr7 (yMb a0)=_ from h1)).trans ?_;generalize goE ysz (fun b=>(0,b)) a0.2.2.2.2.2.2.2.2.1.length 0 a0=R;cases hr:(R.1==0)
 ·rfl
 ·simp only[cond_true,zkN,zkX]
  rw[show R.1=0 from beq_iff_eq.1 hr]
def yls (a0:dA):Option (zaY yqn×zak yk5):=bif yyV a0 then(fun n=>some ((n.1,()),(n.2,()))) (yqU a0)else none
theorem yR6 (a0:dA) (h:yyV a0=true):yls a0=(fun n=>some ((n.1,()),(n.2,()))) (yqU a0):=by unfold yls; rw[h]; rfl
def yBA:Con:=⟨yk5,yqn,fun x=>yls x.1⟩
theorem yR3:ConOk prog 117 yBA:=(yPA).mono (fun x r hk h=>zkY h (fun hq=>yRO x.1 hk hq))
def ySl:Code:=(f80.body).getD .skip
def ySw:Env:=zkw TT [(72,ydB)] []
theorem yLN:FrOk prog ⟨ySw,12,fun _=>none⟩ ySl:=zkA mixed yc ⟨yhb,trivial⟩
abbrev yxl:List Par:= [.pt tU .fz,.rd tL]
abbrev yxA:List OT:= [⟨false,tI,.fz⟩]
def yiA (a0:dU) (a1:List Int):Option (zaY yxA×zak yxl) :=bnd (yh a0 (a1.length:Int)) fun r1 =>bif(inb r1.1.1 a1.length)then some (((nth a1 r1.1.1 0),()),(r1.2.1,())) else none
theorem yPu:ConOk prog 80 ⟨yxl,yxA,fun x=>yiA x.1 x.2.1⟩:=zkI (yLN) func80 ntmps80.symm fun x=>by kernel_rfl
def yBw:Con:=⟨yxl,yxA,fun x=>yiA x.1 x.2.1⟩
theorem yRZ:ConOk prog 80 yBw:=yPu
theorem yVP (u:List Int×Int×Int) (l:List Int) (h:ydM u) (hl:l≠ []): ∃(r:Int) (u':List Int×Int×Int),yiA u l=some ((r,()),(u',()))∧r∈l∧ydM u':=by
 unfold yiA;obtain⟨r1,u1,e1,q1,d1⟩:=yeo u (l.length:Int) h;have hp:0<l.length:=List.length_pos_iff.2 hl;have hr:=q1.2.1 (by omega);simp only[e1,zkH,zj6.2 ⟨q1.1,hr⟩,cond_true];refine⟨_,_,rfl,?_,d1⟩;have:r1.toNat<l.length:=by have:=q1.1; omega
 unfold nth;rw[List.getD_eq_getElem?_getD,List.getElem?_eq_getElem this,Option.getD_some];exact List.getElem_mem this
def yQU:Code:=(f120.body).getD .skip
def yRn:Env:=zkw TT [(80,yBw)] []
theorem yIr:FrOk prog ⟨yRn,6,fun _=>none⟩ yQU:=zkA mixed yc ⟨yRZ,trivial⟩
abbrev yuE:List Par:= [.pt tU .fz]
abbrev yu8:List OT:= [⟨false,tI,.fz⟩]
def yaU (a0:dU):Option (zaY yu8×zak yuE) :=bnd (yiA a0 ([0,1,2,7,255,256,4660,65535]:List Int)) fun r1 =>some ((r1.1.1,()),(r1.2.1,()))
theorem yMZ:ConOk prog 120 ⟨yuE,yu8,fun x=>yaU x.1⟩:=zkI (yIr) func120 ntmps120.symm fun x=>by kernel_rfl
def yz4:Con:=⟨yuE,yu8,fun x=>yaU x.1⟩
theorem yPO:ConOk prog 120 yz4:=yMZ
theorem yVq (u:List Int×Int×Int) (h:ydM u): ∃(r:Int) (u':List Int×Int×Int),yaU u=some ((r,()),(u',()))∧ya r 0 65535=true∧ydM u':=by
 unfold yaU;obtain⟨r1,u1,e1,q1,d1⟩:=yVP u [0,1,2,7,255,256,4660,65535] h (by simp);simp only[e1,zkH];refine⟨_,_,rfl,?_,d1⟩;simp only[List.mem_cons,List.not_mem_nil,or_false]at q1;exact yWn (by omega) (by omega)
def yKF:Code:=(f203.body).getD .skip
def yK3:Env:=zkw TT [(174,ykL),(177,yqC),(178,ykK)] []
theorem yEg:FrOk prog ⟨yK3,27,fun _=>none⟩ yKF:=zkA mixed yc ⟨ysN,yBV,ysM,trivial⟩
abbrev ygi:List Par:= [.pt tA (.pr .fz (.pr (.pr .fz .fz) (.pr (.ow (.pr (.ow .fz) (.pr (.ow (.pr .fz .fz)) (.pr .fz (.ow .fz))))) (.pr .fz (.pr .fz (.pr .fz (.pr .fz (.pr .fz (.pr (.ow (.pr .fz .fz)) (.pr .fz (.pr .fz .fz)))))))))))]
abbrev ykw:List OT:= [⟨false,tI,.fz⟩]
def yna (a0:dA):Option (zaY ykw×zak ygi) :=let r1:=ybZ a0.2.1;let r2:=ydk r1;bif(inb a0.2.2.2.1 a0.2.2.1.length)then let r3:=yaG (a0.1,a0.2.1,(a0.2.2.1.set (a0.2.2.2.1).toNat r2),a0.2.2.2.1,0,a0.2.2.2.2.2);bif r3.2.2.2.2.2.2.2.2.2.2.1 then some ((6,()),(r3,())) else some ((0,()),(r3,())) else none
theorem yG4:ConOk prog 203 ⟨ygi,ykw,fun x=>yna x.1⟩:=zkI (yEg) func203 ntmps203.symm fun x=>by kernel_rfl
def ykQ (a0:dA):Int×dA:=(bif yb (yab (ybz a0))then 6 else 0,yab (ybz a0))
def yhd (a0:dA):Bool:=yd a0.2.1&&inb a0.2.2.2.1 a0.2.2.1.length
theorem yJB (a0:dA) (hk:zjx ygi (a0,())) (hq:yhd a0=true):yna a0=(fun n=>some ((n.1,()),(n.2,()))) (ykQ a0):=by
 simp only[yhd,Bool.and_eq_true]at hq;have hg:=yl.1 hq.1;unfold yna ykQ;simp only[ybZ,wq (6+a0.2.1.2) (by omega) (by omega),hq.2,ydk,yaG];show(bif yb (yab (ybz a0))then some ((6,()),(yab (ybz a0),()))else some ((0,()),(yab (ybz a0),())))=_;cases yb (yab (ybz a0))<;>rfl
def yha (a0:dA):Option (zaY ykw×zak ygi):=bif yhd a0 then(fun n=>some ((n.1,()),(n.2,()))) (ykQ a0)else none
theorem yKh (a0:dA) (h:yhd a0=true):yha a0=(fun n=>some ((n.1,()),(n.2,()))) (ykQ a0):=by unfold yha; rw[h]; rfl
def yv1:Con:=⟨ygi,ykw,fun x=>yha x.1⟩
theorem yKe:ConOk prog 203 yv1:=(yG4).mono (fun x r hk h=>zkY h (fun hq=>yJB x.1 hk hq))
def yN0:Code:=(f204.body).getD .skip
def yOq:Env:=zkw TT [(113,yef),(206,yh7),(227,yom)] []
theorem yGe:FrOk prog ⟨yOq,49,fun _=>none⟩ yN0:=zkA mixed yc ⟨yix,yn5,yAr,trivial⟩
abbrev yhT:List Par:= [.pt tA (.pr .fz (.pr (.pr .fz .fz) (.pr (.ow (.pr (.ow .fz) (.pr (.ow (.pr .fz .fz)) (.pr .fz (.ow .fz))))) (.pr .fz (.pr .fz (.pr .fz (.pr .fz (.pr .fz (.pr (.ow (.pr .fz .fz)) (.pr .fz (.pr .fz .fz)))))))))))]
abbrev yl2:List OT:= [⟨false,tI,.fz⟩]
def yoQ (a0:dA):Option (zaY yl2×zak yhT) :=bnd (yiw a0 a0.2.2.2.2.1) fun r1 =>bif(!r1.1.2.1)then some ((5,()),(a0,())) else let r2:=ybf a0.2.2.2.2.1;bif(inb a0.2.2.2.1 r1.1.1.length)then bnd (yd7 a0 a0.2.2.2.1 r2 ([(nth r1.1.1 a0.2.2.2.1 0)]:List Int)) fun r3 =>bif r3.2.1.2.2.2.2.2.2.2.2.2.2.1 then some ((6,()),(r3.2.1,())) else some ((0,()),((r3.2.1.1,r3.2.1.2.1,r3.2.1.2.2.1,r3.2.1.2.2.2.1,(i64.wrap (r3.2.1.2.2.2.2.1+1)),r3.2.1.2.2.2.2.2),())) else none
theorem yJU:ConOk prog 204 ⟨yhT,yl2,fun x=>yoQ x.1⟩:=zkI (yGe) func204 ntmps204.symm fun x=>by kernel_rfl
def ymf (a0:dA):Int×dA:=ypk a0
def yiy (a0:dA):Bool:=yd a0.2.1&&(inb a0.2.2.2.1 a0.2.2.1.length&&inb a0.2.2.2.1 a0.2.1.1.toNat)
theorem yMu (a0:dA) (hk:zjx yhT (a0,())) (hq:yiy a0=true):yoQ a0=(fun n=>some ((n.1,()),(n.2,()))) (ymf a0):=by
 simp only[yiy,Bool.and_eq_true]at hq;unfold yoQ ymf ypk;rw[yAu a0 a0.2.2.2.2.1 hq.1];simp only[zkH,ye8,yfa];cases hw:(yP a0 a0.2.2.2.2.1).2
 ·rfl
 ·rw[yFa hw,hq.2.2,yjE a0 a0.2.2.2.1 (yy a0.2.2.2.2.1) [nth (yP a0 a0.2.2.2.2.1).1 a0.2.2.2.1 0] hq.2.1]
  simp only[zkH,ylr,Bool.not_true,cond_false,cond_true];show(bif yb (yaX a0)then some ((6,()),(yaX a0,()))else some ((0,()),(yUA (yaX a0),())))=_;cases yb (yaX a0)<;>rfl
def yiv (a0:dA):Option (zaY yl2×zak yhT):=bif yiy a0 then(fun n=>some ((n.1,()),(n.2,()))) (ymf a0)else none
theorem yNw (a0:dA) (h:yiy a0=true):yiv a0=(fun n=>some ((n.1,()),(n.2,()))) (ymf a0):=by unfold yiv; rw[h]; rfl
def yx7:Con:=⟨yhT,yl2,fun x=>yiv x.1⟩
theorem yNr:ConOk prog 204 yx7:=(yJU).mono (fun x r hk h=>zkY h (fun hq=>yMu x.1 hk hq))
def yQZ:Code:=(f163.body).getD .skip
def yRs:Env:=zkw TT [(72,ydB),(83,yz5),(108,yx6),(112,yvY),(113,yef),(117,yBA),(118,yBC),(119,ykJ),(120,yz4),(171,yon),(179,yoo),(203,yv1),(204,yx7)] []
theorem yIF:FrOk prog ⟨yRs,160,fun _=>none⟩ yQZ:=zkA mixed yc ⟨yhb,yPP,yNq,yKb,yix,yR3,yR5,ysL,yPO,yAs,yAt,yKe,yNr,trivial⟩
abbrev yj:List Par:= [.pt tU .fz,.pt tA (.pr .fz (.pr (.pr .fz .fz) (.pr (.ow (.pr (.ow .fz) (.pr (.ow (.pr .fz .fz)) (.pr .fz (.ow .fz))))) (.pr .fz (.pr .fz (.pr .fz (.pr .fz (.pr .fz (.pr (.ow (.pr .fz .fz)) (.pr .fz (.pr .fz .fz)))))))))))]
abbrev yk:List OT:= []
def yhf (a0:dU) (a1:dA):Option (zaY yk×zak yj) :=bnd (yh a0 14) fun r1 =>let k1:Option (zaY yk×zak yj) :=bnd (ybD r1.2.1 3) fun r9 =>bif r9.1.1 then bif(a1.2.2.2.1==(-1))then bnd (yh r9.2.1 a1.2.1.1) fun r10 =>bnd (yiu a1 r10.1.1) fun r11 =>some ((),(r10.2.1,r11.2.1,())) else some ((),(r9.2.1,a1,())) else some ((),(r9.2.1,a1,()));let k2:Option (zaY yk×zak yj) :=bif(inb a1.2.2.2.1 a1.2.2.1.length)then bif(((nth a1.2.2.1 a1.2.2.2.1 ([],[],false,[])).2).2).1 then bnd (yha a1) fun r12 =>some ((),(r1.2.1,r12.2.1,())) else some ((),(r1.2.1,a1,())) else none;let k3:Option (zaY yk×zak yj) :=bif(leb 0 a1.2.2.2.1)then k2 else some ((),(r1.2.1,a1,()));let k4:Option (zaY yk×zak yj) :=bif(inb a1.2.2.2.1 a1.2.2.1.length)then bif(!((((nth a1.2.2.1 a1.2.2.2.1 ([],[],false,[])).2).2).1))then bif(ltb a1.2.2.2.2.1 a1.2.1.2)then bnd (yiv a1) fun r13 =>some ((),(r1.2.1,r13.2.1,())) else some ((),(r1.2.1,a1,())) else some ((),(r1.2.1,a1,())) else none;let k5:Option (zaY yk×zak yj) :=bif(leb 0 a1.2.2.2.1)then k4 else some ((),(r1.2.1,a1,()));let k6:Option (zaY yk×zak yj) :=bnd (ybD r1.2.1 3) fun r15 =>bif r15.1.1 then bnd (yh r15.2.1 a1.2.1.1) fun r16 =>bif(inb r16.1.1 a1.2.2.1.length)then bnd (yh r16.2.1 a1.2.1.2) fun r17 =>let r18:=ybf r17.1.1;let r19:=ykP ((nth a1.2.2.1 r16.1.1 ([],[],false,[])).1,((nth a1.2.2.1 r16.1.1 ([],[],false,[])).2).1,(((nth a1.2.2.1 r16.1.1 ([],[],false,[])).2).2)) r18;bif(inb r16.1.1 a1.2.2.1.length)then some ((),(r17.2.1,(a1.1,a1.2.1,(a1.2.2.1.set (r16.1.1).toNat r19),a1.2.2.2),())) else none else none else some ((),(r15.2.1,a1,()));let k7:Option (zaY yk×zak yj) :=bif(a1.2.2.2.1==(-1))then k6 else some ((),(r1.2.1,a1,()));let k8:Option (zaY yk×zak yj) :=bif(r1.1.1==12)then let r14:=ye9 a1;some ((),(r1.2.1,r14,())) else k7;let k9:Option (zaY yk×zak yj) :=bif(r1.1.1==10)then k5 else k8;let k10:Option (zaY yk×zak yj) :=bif(r1.1.1==11)then k5 else k8;let k11:Option (zaY yk×zak yj) :=bif(r1.1.1==10)then k9 else k10;let k12:Option (zaY yk×zak yj) :=bif(r1.1.1==9)then k3 else k11;let k13:Option (zaY yk×zak yj) :=bif(r1.1.1==8)then k1 else k12;let k14:Option (zaY yk×zak yj) :=bif(r1.1.1==7)then bnd (yls a1) fun r8 =>some ((),(r1.2.1,r8.2.1,())) else k13;let k15:Option (zaY yk×zak yj) :=bif(r1.1.1==4)then bnd (yh r1.2.1 a1.2.1.2) fun r6 =>bnd (yco a1 r6.1.1) fun r7 =>some ((),(r6.2.1,r7.2.1,())) else k14;let k16:Option (zaY yk×zak yj) :=bif(r1.1.1==5)then bnd (yh r1.2.1 a1.2.1.2) fun r27 =>bnd (yco a1 r27.1.1) fun r28 =>some ((),(r27.2.1,r28.2.1,())) else k14;let k17:Option (zaY yk×zak yj) :=bif(r1.1.1==6)then bnd (yh r1.2.1 a1.2.1.2) fun r48 =>bnd (yco a1 r48.1.1) fun r49 =>some ((),(r48.2.1,r49.2.1,())) else k14;let k18:Option (zaY yk×zak yj) :=bif(r1.1.1==5)then k16 else k17;let k19:Option (zaY yk×zak yj) :=bif(r1.1.1==4)then k15 else k18;bif(r1.1.1==0)then bif(r1.1.1==0)then let r2:=yw a1.2.1;bnd (yh r1.2.1 r2) fun r3 =>bnd (yaU r3.2.1) fun r4 =>bnd (yd8 a1 r3.1.1 r4.1.1) fun r5 =>some ((),(r4.2.1,r5.2.1,())) else k19 else bif(r1.1.1==1)then bif(r1.1.1==1)then let r69:=yw a1.2.1;bnd (yh r1.2.1 r69) fun r70 =>bnd (yaU r70.2.1) fun r71 =>bnd (yd8 a1 r70.1.1 r71.1.1) fun r72 =>some ((),(r71.2.1,r72.2.1,())) else k19 else bif(r1.1.1==2)then bif(r1.1.1==2)then let r136:=yw a1.2.1;bnd (yh r1.2.1 r136) fun r137 =>bnd (yaU r137.2.1) fun r138 =>bnd (yd8 a1 r137.1.1 r138.1.1) fun r139 =>some ((),(r138.2.1,r139.2.1,())) else k19 else bif(r1.1.1==3)then let r203:=yw a1.2.1;bnd (yh r1.2.1 r203) fun r204 =>bnd (yaU r204.2.1) fun r205 =>bnd (yd8 a1 r204.1.1 r205.1.1) fun r206 =>some ((),(r205.2.1,r206.2.1,())) else k19
theorem yM8:ConOk prog 163 ⟨yj,yk,fun x=>yhf x.1 x.2.1⟩:=zkI (yIF) func163 ntmps163.symm fun x=>by kernel_rfl
def yAb:Con:=⟨yj,yk,fun x=>yhf x.1 x.2.1⟩
theorem yPV:ConOk prog 163 yAb:=yM8
def ytg (a:dA) (z:Option (zaY yk×zak yj)):Prop:= ∃(u':dU) (a':dA),z=some ((),(u',a',()))∧ydM u'∧Turned a a'
def yTQ (u:dU) (a:dA):Option (zaY yk×zak yj) :=bnd (yh u (yw a.2.1)) fun r3=>bnd (yaU r3.2.1) fun r4=>bnd (yd8 a r3.1.1 r4.1.1) fun r5=>some ((),(r4.2.1,r5.2.1,()))
def yQv (u:dU) (a:dA):Option (zaY yk×zak yj) :=bnd (yh u a.2.1.2) fun r6=>bnd (yco a r6.1.1) fun r7=>some ((),(r6.2.1,r7.2.1,()))
def yS6 (u:dU) (a:dA):Option (zaY yk×zak yj) :=bnd (ybD u 3) fun r9=>bif r9.1.1 then(bif(a.2.2.2.1==(-1))then(bnd (yh r9.2.1 a.2.1.1) fun r10=>bnd (yiu a r10.1.1) fun r11=>some ((),(r10.2.1,r11.2.1,())))else some ((),(r9.2.1,a,())))else some ((),(r9.2.1,a,()))
def yQw (u:dU) (a:dA):Option (zaY yk×zak yj) :=bif leb 0 a.2.2.2.1 then(bif inb a.2.2.2.1 a.2.2.1.length then(bif(nth a.2.2.1 a.2.2.2.1 yf).2.2.1 then(bnd (yha a) fun r12=>some ((),(u,r12.2.1,())))else some ((),(u,a,())))else none)else some ((),(u,a,()))
def yS7 (u:dU) (a:dA):Option (zaY yk×zak yj) :=bif leb 0 a.2.2.2.1 then(bif inb a.2.2.2.1 a.2.2.1.length then(bif !(nth a.2.2.1 a.2.2.2.1 yf).2.2.1 then(bif ltb a.2.2.2.2.1 a.2.1.2 then(bnd (yiv a) fun r13=>some ((),(u,r13.2.1,())))else some ((),(u,a,())))else some ((),(u,a,())))else none)else some ((),(u,a,()))
def yE7 (u:dU) (a:dA):Option (zaY yk×zak yj) :=bif(a.2.2.2.1==(-1))then(bnd (ybD u 3) fun r15=>bif r15.1.1 then(bnd (yh r15.2.1 a.2.1.1) fun r16=>bif inb r16.1.1 a.2.2.1.length then(bnd (yh r16.2.1 a.2.1.2) fun r17 =>bif inb r16.1.1 a.2.2.1.length then some ((),(r17.2.1,ycX a r16.1.1 (spoil (nth a.2.2.1 r16.1.1 yf) (yy r17.1.1)),()))else none)else none)else some ((),(r15.2.1,a,())))else some ((),(u,a,()))
theorem yCK {u:dU} {a:dA} (h:yaw a) (hk:yae a) (hu:ydM u):ytg a (yTQ u a):=by
 have hg:=yl.1 h.1;have hd:=ytv h.2.2.1 h.1;obtain⟨b,u1,e1,q1,d1⟩:=yeo u (yw a.2.1) hu;obtain⟨x,u2,e2,q2,d2⟩:=yVq u1 d1;have hx:isW x=true:=by rw[ybA]at q2; exact q2
 have hbl:0<yw a.2.1:=by
  rw[yB7 h.1];exact Int.mul_pos (by omega) (by omega)
 have hb:ykF a.2.1 b=true:=by
  have:=q1.2.1 hbl;unfold ykF;rw[zk2 q1.1,zk2 (show b≤yw a.2.1-1 by omega)]; rfl
 unfold yTQ;rw[e1,zkH,e2,zkH,yR8 a b x (by unfold ylt; rw[yFd.2 ⟨h,hk⟩,hb]; exact decide_eq_true (show a.2.2.2.2.2.2.2.2.1.length≤1000 by omega)),zkH];exact⟨_,_,rfl,d2,.put b x hb hx⟩
theorem yCJ {u:dU} {a:dA} (h:yaw a) (hu:ydM u):ytg a (yQv u a):=by
 have hd:=ytv h.2.2.1 h.1;obtain⟨s,u1,e1,q1,d1⟩:=yeo u a.2.1.2 hu;unfold yQv;rw[e1,zkH,yAv a s (decide_eq_true (show a.2.2.2.2.2.2.2.2.1.length≤1000 by omega)),zkH];exact⟨_,_,rfl,d1,.flush s⟩
theorem yVf {u:dU} {a:dA} (h:yaw a) (hu:ydM u):ytg a (bnd (yls a) fun r8=>some ((),(u,r8.2.1,()))):=by
 have hd:=ytv h.2.2.1 h.1;rw[yR6 a (decide_eq_true (show a.2.2.2.2.2.2.2.2.1.length≤1000 by omega)),zkH];exact⟨_,_,rfl,hu,.all⟩
theorem yUC {u:dU} {a:dA} (h:yaw a) (hk:yae a) (hu:ydM u):ytg a (yS6 u a):=by
 have hg:=yl.1 h.1;have hl:=hk.1.2;obtain⟨r,u1,e1,d1⟩:=yTE u 3 hu;unfold yS6;rw[e1,zkH];cases r
 ·exact⟨_,_,rfl,d1,.same⟩
 ·cases h1:(a.2.2.2.1==(-1))
  ·exact⟨_,_,rfl,d1,.same⟩
  ·obtain⟨m,u2,e2,q2,d2⟩:=yeo u1 a.2.1.1 d1
   have hm:inb m a.2.2.1.length=true:=zj6.2 ⟨q2.1,by have:=q2.2.1 (by omega); omega⟩;simp only[cond_true];rw[e2,zkH,yNv a m hm,zkH];exact⟨_,_,rfl,d2,.fail m (beq_iff_eq.1 h1) hm⟩
theorem yUc {u:dU} {a:dA} (h:yaw a) (hk:yae a) (hu:ydM u):ytg a (yQw u a):=by
 have hl:=hk.1.2;have hc:=h.2.2.2.1;unfold yQw;cases h0:leb 0 a.2.2.2.1
 ·exact⟨_,_,rfl,hu,.same⟩
 ·have hi:inb a.2.2.2.1 a.2.2.1.length=true:=zj6.2 ⟨zj7.1 h0,by omega⟩
  rw[hi];cases hf:(nth a.2.2.1 a.2.2.2.1 yf).2.2.1
  ·exact⟨_,_,rfl,hu,.same⟩
  ·simp only[cond_true]
   rw[yKh a (by unfold yhd; rw[h.1,hi]; rfl),zkH];exact⟨_,_,rfl,hu,.spare hi hf⟩
theorem yQx {u:dU} {a:dA} (h:yaw a) (hk:yae a) (hu:ydM u):ytg a (yS7 u a):=by
 have hl:=hk.1.2;have hc:=h.2.2.2.1;unfold yS7;cases h0:leb 0 a.2.2.2.1
 ·exact⟨_,_,rfl,hu,.same⟩
 ·have h0':=zj7.1 h0
  have hi:inb a.2.2.2.1 a.2.2.1.length=true:=zj6.2 ⟨h0',by omega⟩;rw[hi];cases hf:(nth a.2.2.1 a.2.2.2.1 yf).2.2.1
  ·cases hb:ltb a.2.2.2.2.1 a.2.1.2
   ·exact⟨_,_,rfl,hu,.same⟩
   ·simp only[cond_true,Bool.not_false]
    rw[yNw a (by unfold yiy; rw[h.1,hi,zj6.2 (show 0≤a.2.2.2.1∧a.2.2.2.1<a.2.1.1.toNat by omega)]; rfl),zkH];exact⟨_,_,rfl,hu,.step hi hf (zka.1 hb)⟩
  ·exact⟨_,_,rfl,hu,.same⟩
theorem yUd {u:dU} {a:dA} (h:yaw a) (hk:yae a) (hu:ydM u):ytg a (yE7 u a):=by
 have hg:=yl.1 h.1;have hl:=hk.1.2;unfold yE7;cases hlo:(a.2.2.2.1==(-1))
 ·exact⟨_,_,rfl,hu,.same⟩
 ·obtain⟨r,u1,e1,d1⟩:=yTE u 3 hu
  simp only[cond_true];rw[e1,zkH];cases r
  ·exact⟨_,_,rfl,d1,.same⟩
  ·obtain⟨m,u2,e2,q2,d2⟩:=yeo u1 a.2.1.1 d1
   have hm:inb m a.2.2.1.length=true:=zj6.2 ⟨q2.1,by have:=q2.2.1 (by omega); omega⟩;obtain⟨s,u3,e3,q3,d3⟩:=yeo u2 a.2.1.2 d2;simp only[cond_true];rw[e2,zkH];simp only[hm,cond_true];rw[e3,zkH];exact⟨_,_,rfl,d3,.spoil m s (beq_iff_eq.1 hlo) hm q3.1 (q3.2.1 (by omega))⟩
theorem yVs (u:dU) (a:dA) (hu:ydM u) (h:yaw a) (hk:yae a):ytg a (yhf u a):=by
 obtain⟨r,u1,e1,q1,d1⟩:=yeo u 14 hu;have hr:=q1.2.1 (by omega);have h0:=q1.1;unfold yhf;rw[e1,zkH];have hc:(r=0∨r=1∨r=2∨r=3)∨(r=4∨r=5∨r=6)∨r=7∨r=8∨r=9∨(r=10∨r=11)∨r=12∨r=13:=by omega
 rcases hc with(rfl | rfl | rfl | rfl) | (rfl | rfl | rfl) | rfl | rfl | rfl | (rfl | rfl) | rfl | rfl
 ·exact yCK h hk d1
 ·exact yCK h hk d1
 ·exact yCK h hk d1
 ·exact yCK h hk d1
 ·exact yCJ h d1
 ·exact yCJ h d1
 ·exact yCJ h d1
 ·exact yVf h d1
 ·exact yUC h hk d1
 ·exact yUc h hk d1
 ·exact yQx h hk d1
 ·exact yQx h hk d1
 ·refine⟨u1,yR a,?_,d1,.check⟩
  rw[← yCT]; rfl
 ·have:=yUd h hk d1
  unfold yE7 at this;simp only[← yfa]at this;exact this
def ynB:Code:=(f124.body).getD .skip
def yum:Env:=zkw TT [(72,ydB),(115,yzZ),(116,yBy),(163,yAb)] []
theorem yIA:FrOk prog ⟨yum,24,fun _=>none⟩ ynB:=zkA mixed yc ⟨yhb,yPJ,yR1,yPV,trivial⟩
def yzy:Nat→Option Seg:=fun _=>none
def yb9:Shape:=⟨[(0,false,[.ptr 1000000000 0]),(4,false,[.ptr 0 0]),(5,false,[.ptr 4480 0]),(6,false,[.int .i64])],[(0,[.int .i64,.int .i64,.int .i64,.nil,.int .i64,.int .i64,.int .i64,.int .i64,.int .i64,.nil,.int .i64,.bool,.bool]),(4480,[.int .i64,.int .i64,.int .i64,.at 800000000,.int .i64,.int .i64,.int .i64,.int .i64,.int .i64,.at 800000001,.int .i64,.bool,.bool]),(1000000000,[.fz tY,.int .i64,.int .i64])],[(800000000,tM,(.pr (.ow .fz) (.pr (.ow (.pr .fz .fz)) (.pr .fz (.ow .fz))))),(800000001,tW,(.pr .fz .fz))]⟩
def yfA:Shape:=⟨[(0,false,[.ptr 1000000000 0]),(4,false,[.ptr 0 0]),(5,false,[.ptr 4480 0]),(6,false,[.int .i64])],[(0,[.int .i64,.int .i64,.int .i64,.nil,.int .i64,.int .i64,.int .i64,.int .i64,.int .i64,.nil,.int .i64,.bool,.bool]),(4480,[.int .i64,.int .i64,.int .i64,.at 800000000,.int .i64,.int .i64,.int .i64,.int .i64,.int .i64,.at 800000001,.int .i64,.bool,.bool]),(1000000000,[.fz tY,.int .i64,.int .i64])],[(800000000,tM,(.pr (.ow .fz) (.pr (.ow (.pr .fz .fz)) (.pr .fz (.ow .fz))))),(800000001,tW,(.pr .fz .fz))]⟩
def yfp:Shape:=⟨[(4,false,[.ptr 0 0]),(5,false,[.ptr 4480 0])],[(0,[.int .i64,.int .i64,.int .i64,.nil,.int .i64,.int .i64,.int .i64,.int .i64,.int .i64,.nil,.int .i64,.bool,.bool]),(4480,[.int .i64,.int .i64,.int .i64,.at 800000000,.int .i64,.int .i64,.int .i64,.int .i64,.int .i64,.at 800000001,.int .i64,.bool,.bool]),(1000000000,[.fz tY,.int .i64,.int .i64])],[(800000000,tM,(.pr (.ow .fz) (.pr (.ow (.pr .fz .fz)) (.pr .fz (.ow .fz))))),(800000001,tW,(.pr .fz .fz))]⟩
def yiZ:Shape:=⟨[],[],[]⟩
abbrev ymP (v0:Int) (v1 v2:dA) (v3:dU):(yb9).X:=((((),()),((),()),((),()),(v0,()),()),((v1.1,v1.2.1.1,v1.2.1.2,(),v1.2.2.2.1,v1.2.2.2.2.1,v1.2.2.2.2.2.1,v1.2.2.2.2.2.2.1,v1.2.2.2.2.2.2.2.1,(),v1.2.2.2.2.2.2.2.2.2.1,v1.2.2.2.2.2.2.2.2.2.2.1,v1.2.2.2.2.2.2.2.2.2.2.2,()),(v2.1,v2.2.1.1,v2.2.1.2,(),v2.2.2.2.1,v2.2.2.2.2.1,v2.2.2.2.2.2.1,v2.2.2.2.2.2.2.1,v2.2.2.2.2.2.2.2.1,(),v2.2.2.2.2.2.2.2.2.2.1,v2.2.2.2.2.2.2.2.2.2.2.1,v2.2.2.2.2.2.2.2.2.2.2.2,()),(v3.1,v3.2.1,v3.2.2,()),()),(v2.2.2.1,v2.2.2.2.2.2.2.2.2.1,()))
abbrev yGC (v0:Int) (v1 v2:dA) (v3:dU):(yfA).X:=((((),()),((),()),((),()),(v0,()),()),((v1.1,v1.2.1.1,v1.2.1.2,(),v1.2.2.2.1,v1.2.2.2.2.1,v1.2.2.2.2.2.1,v1.2.2.2.2.2.2.1,v1.2.2.2.2.2.2.2.1,(),v1.2.2.2.2.2.2.2.2.2.1,v1.2.2.2.2.2.2.2.2.2.2.1,v1.2.2.2.2.2.2.2.2.2.2.2,()),(v2.1,v2.2.1.1,v2.2.1.2,(),v2.2.2.2.1,v2.2.2.2.2.1,v2.2.2.2.2.2.1,v2.2.2.2.2.2.2.1,v2.2.2.2.2.2.2.2.1,(),v2.2.2.2.2.2.2.2.2.2.1,v2.2.2.2.2.2.2.2.2.2.2.1,v2.2.2.2.2.2.2.2.2.2.2.2,()),(v3.1,v3.2.1,v3.2.2,()),()),(v2.2.2.1,v2.2.2.2.2.2.2.2.2.1,()))
abbrev yGt (v0 v1:dA) (v2:dU):(yfp).X:=((((),()),((),()),()),((v0.1,v0.2.1.1,v0.2.1.2,(),v0.2.2.2.1,v0.2.2.2.2.1,v0.2.2.2.2.2.1,v0.2.2.2.2.2.2.1,v0.2.2.2.2.2.2.2.1,(),v0.2.2.2.2.2.2.2.2.2.1,v0.2.2.2.2.2.2.2.2.2.2.1,v0.2.2.2.2.2.2.2.2.2.2.2,()),(v1.1,v1.2.1.1,v1.2.1.2,(),v1.2.2.2.1,v1.2.2.2.2.1,v1.2.2.2.2.2.1,v1.2.2.2.2.2.2.1,v1.2.2.2.2.2.2.2.1,(),v1.2.2.2.2.2.2.2.2.2.1,v1.2.2.2.2.2.2.2.2.2.2.1,v1.2.2.2.2.2.2.2.2.2.2.2,()),(v2.1,v2.2.1,v2.2.2,()),()),(v1.2.2.1,v1.2.2.2.2.2.2.2.2.1,()))
def ynj (v0 v1 v2 v3 v4 v5 v6 v7 v8 v9:Int) (v10 v11:Bool) (v12 v13 v14 v15 v16 v17 v18 v19 v20:Int) (v21 v22:Bool) (v23:List Int) (v24 v25:Int) (v26:List dM) (v27:List dW):Option ((yb9).X ⊕ ((yfp).X ⊕ (yiZ).X)) :=bif(ltb 0 v0)then bnd (yhf (v23,v24,v25) (v12,(v13,v14),v26,v15,v16,v17,v18,v19,v27,v20,v21,v22)) fun r6 =>some (.inl ((((),()),((),()),((),()),((i64.wrap (v0-1)),()),()),((v1,v2,v3,(),v4,v5,v6,v7,v8,(),v9,v10,v11,()),(r6.2.2.1.1,r6.2.2.1.2.1.1,r6.2.2.1.2.1.2,(),r6.2.2.1.2.2.2.1,r6.2.2.1.2.2.2.2.1,r6.2.2.1.2.2.2.2.2.1,r6.2.2.1.2.2.2.2.2.2.1,r6.2.2.1.2.2.2.2.2.2.2.1,(),r6.2.2.1.2.2.2.2.2.2.2.2.2.1,r6.2.2.1.2.2.2.2.2.2.2.2.2.2.1,r6.2.2.1.2.2.2.2.2.2.2.2.2.2.2,()),(r6.2.1.1,r6.2.1.2.1,r6.2.1.2.2,()),()),(r6.2.2.1.2.2.1,r6.2.2.1.2.2.2.2.2.2.2.2.1,()))) else some (.inr (.inl ((((),()),((),()),()),((v1,v2,v3,(),v4,v5,v6,v7,v8,(),v9,v10,v11,()),(v12,v13,v14,(),v15,v16,v17,v18,v19,(),v20,v21,v22,()),(v23,v24,v25,()),()),(v26,v27,()))))
def ycx (x:(yb9).X):=ynj x.1.2.2.2.1.1 x.2.1.1.1 x.2.1.1.2.1 x.2.1.1.2.2.1 x.2.1.1.2.2.2.2.1 x.2.1.1.2.2.2.2.2.1 x.2.1.1.2.2.2.2.2.2.1 x.2.1.1.2.2.2.2.2.2.2.1 x.2.1.1.2.2.2.2.2.2.2.2.1 x.2.1.1.2.2.2.2.2.2.2.2.2.2.1 x.2.1.1.2.2.2.2.2.2.2.2.2.2.2.1 x.2.1.1.2.2.2.2.2.2.2.2.2.2.2.2.1 x.2.1.2.1.1 x.2.1.2.1.2.1 x.2.1.2.1.2.2.1 x.2.1.2.1.2.2.2.2.1 x.2.1.2.1.2.2.2.2.2.1 x.2.1.2.1.2.2.2.2.2.2.1 x.2.1.2.1.2.2.2.2.2.2.2.1 x.2.1.2.1.2.2.2.2.2.2.2.2.1 x.2.1.2.1.2.2.2.2.2.2.2.2.2.2.1 x.2.1.2.1.2.2.2.2.2.2.2.2.2.2.2.1 x.2.1.2.1.2.2.2.2.2.2.2.2.2.2.2.2.1 x.2.1.2.2.1.1 x.2.1.2.2.1.2.1 x.2.1.2.2.1.2.2.1 x.2.2.1 x.2.2.2.1
def ywb (x:(yfA).X):(yb9).X:=((((),()),((),()),((),()),(x.1.2.2.2.1.1,()),()),((x.2.1.1.1,x.2.1.1.2.1,x.2.1.1.2.2.1,(),x.2.1.1.2.2.2.2.1,x.2.1.1.2.2.2.2.2.1,x.2.1.1.2.2.2.2.2.2.1,x.2.1.1.2.2.2.2.2.2.2.1,x.2.1.1.2.2.2.2.2.2.2.2.1,(),x.2.1.1.2.2.2.2.2.2.2.2.2.2.1,x.2.1.1.2.2.2.2.2.2.2.2.2.2.2.1,x.2.1.1.2.2.2.2.2.2.2.2.2.2.2.2.1,()),(x.2.1.2.1.1,x.2.1.2.1.2.1,x.2.1.2.1.2.2.1,(),x.2.1.2.1.2.2.2.2.1,x.2.1.2.1.2.2.2.2.2.1,x.2.1.2.1.2.2.2.2.2.2.1,x.2.1.2.1.2.2.2.2.2.2.2.1,x.2.1.2.1.2.2.2.2.2.2.2.2.1,(),x.2.1.2.1.2.2.2.2.2.2.2.2.2.2.1,x.2.1.2.1.2.2.2.2.2.2.2.2.2.2.2.1,x.2.1.2.1.2.2.2.2.2.2.2.2.2.2.2.2.1,()),(x.2.1.2.2.1.1,x.2.1.2.2.1.2.1,x.2.1.2.2.1.2.2.1,()),()),(x.2.2.1,x.2.2.2.1,()))
def yxR:Code:=(zd7 ynB 64 116).getD .skip
theorem yHU:zd7 ynB 64 29=some (.block 0 (.loop yxR)):=by kernel_rfl
theorem yKr (x:(yb9).X):zhu ⟨yum,24,yzy⟩ 0 yxR 116 yb9 yfp yiZ x=ycx x:=by kernel_rfl
def ywm (x:(yfA).X):Nat:=18446744073709551616
def yof (x:(yfA).X):Option ((yfp).X ⊕ (yiZ).X):=zF ycx (ywm x) (ywb x)
def ywF:Seg:=⟨yfA,yfp,yiZ,yof⟩
def yKO:Nat→Option Seg:=fun q=>bif Nat.beq q 29 then some ywF else yzy q
theorem yIB:FrOk prog ⟨yum,24,yKO⟩ ynB:=(yIA).loop (sg:=ywF) yb9 ywb (by decide) yHU ycx ywm (by decide) (fun _=>rfl) (fun x r _ h=>h) yKr
abbrev yuI:List Par:= [.pt tU .fz,.rd tI]
abbrev yvd:List OT:= [⟨false,tA,(.pr .fz (.pr (.pr .fz .fz) (.pr (.ow (.pr (.ow .fz) (.pr (.ow (.pr .fz .fz)) (.pr .fz (.ow .fz))))) (.pr .fz (.pr .fz (.pr .fz (.pr .fz (.pr .fz (.pr (.ow (.pr .fz .fz)) (.pr .fz (.pr .fz .fz)))))))))))⟩]
def yhe (a0:dU) (a1:Int):Option (zaY yvd×zak yuI) :=bnd (yh a0 2) fun r1 =>bnd (yiC r1.2.1) fun r2 =>let r3:=yjv (i64.wrap (1+r1.1.1)) r2.1.1;bnd (yh r2.2.1 (i64.wrap (a1+1))) fun r4 =>zkt (yof ((((),()),((),()),((),()),(r4.1.1,()),()),((0,0,0,(),0,0,0,0,0,(),0,false,false,()),(r3.1,r3.2.1.1,r3.2.1.2,(),r3.2.2.2.1,r3.2.2.2.2.1,r3.2.2.2.2.2.1,r3.2.2.2.2.2.2.1,r3.2.2.2.2.2.2.2.1,(),r3.2.2.2.2.2.2.2.2.2.1,r3.2.2.2.2.2.2.2.2.2.2.1,r3.2.2.2.2.2.2.2.2.2.2.2,()),(r4.2.1.1,r4.2.1.2.1,r4.2.1.2.2,()),()),(r3.2.2.1,r3.2.2.2.2.2.2.2.2.1,()))) (fun y6 =>some (((y6.2.1.2.1.1,(y6.2.1.2.1.2.1,y6.2.1.2.1.2.2.1),y6.2.2.1,y6.2.1.2.1.2.2.2.2.1,y6.2.1.2.1.2.2.2.2.2.1,y6.2.1.2.1.2.2.2.2.2.2.1,y6.2.1.2.1.2.2.2.2.2.2.2.1,y6.2.1.2.1.2.2.2.2.2.2.2.2.1,y6.2.2.2.1,y6.2.1.2.1.2.2.2.2.2.2.2.2.2.2.1,y6.2.1.2.1.2.2.2.2.2.2.2.2.2.2.2.1,y6.2.1.2.1.2.2.2.2.2.2.2.2.2.2.2.2.1),()),((y6.2.1.2.2.1.1,y6.2.1.2.2.1.2.1,y6.2.1.2.2.1.2.2.1),()))) (fun y6 =>none)
theorem yM5:ConOk prog 124 ⟨yuI,yvd,fun x=>yhe x.1 x.2.1⟩:=zkI (yIB) func124 ntmps124.symm fun x=>by kernel_rfl
def yz9:Con:=⟨yuI,yvd,fun x=>yhe x.1 x.2.1⟩
theorem yPT:ConOk prog 124 yz9:=yM5
theorem yQg {P:Int→dA→Prop} {K:Int} (hP: ∀k a,P k a→yaw a∧yae a) (hT: ∀k a b,P k a→Turned a b→k+16≤K→P (k+16) b): ∀(n:Nat) (k:Int) (a:dA) (u:dU) (fuel:Nat),n<fuel→n≤1000→ydM u→P k a→k+16*n≤K →
  ∃(a':dA) (u':dU),zF ycx fuel (ymP n yhK a u)=some (.inl (yGt yhK a' u'))∧ydM u'∧P (k+16*n) a'
 | 0,k,a,u,fuel+1,_,_,hu,h,_=>⟨a,u,by simp only[zF,ycx,ymP,ynj]; rfl,hu,by rw[show k+16*((0:Nat):Int)=k by omega]; exact h⟩
 | n+1,k,a,u,fuel+1,hf,hn,hu,h,hk=>by
  obtain⟨hc,hkp⟩:=hP k a h;obtain⟨u1,a1,e1,d1,h1⟩:=yVs u a hu hc hkp;obtain⟨a',u',e2,d2,h2⟩:=yQg hP hT n (k+16) a1 u1 fuel (by omega) (by omega) d1 (hT k a a1 h h1 (by omega)) (by omega);refine⟨a',u',?_,d2,by rw[show k+16*((n+1:Nat):Int)=k+16+16*(n:Int)by omega]; exact h2⟩;rw[← e2,zF];simp only[ycx,ymP,ynj,zky (show(0:Int)<((n+1:Nat):Int)by omega),cond_true,zkX,e1,zkH,show((n+1:Nat):Int)-1=(n:Int)by omega,wq ((n:Int)) (by omega) (by omega)]
theorem yTZ {P:Int→dA→Prop} {K:Int} (hP: ∀k a,P k a→yaw a∧yae a) (hT: ∀k a b,P k a→Turned a b→k+16≤K→P (k+16) b) (h0P: ∀id g,yd g=true→1≤id→id≤60000→P 0 (yjo id g))
  (u:dU) (most:Int) (h:ydM u) (h0:0≤most) (h1:most≤1000) (hm:16*most≤K): ∃(a:dA) (u':dU) (k:Int),yhe u most=some ((a,()),(u',()))∧P k a∧k≤16*most∧ydM u':=by
 obtain⟨r1,u1,e1,q1,d1⟩:=yeo u 2 h;obtain⟨g,u2,e2,q2,d2⟩:=yUU u1 d1;obtain⟨r3,u3,e3,q3,d3⟩:=yeo u2 (most+1) d2;have:=q1.1; have:=q1.2.1 (by omega); have:=q3.1; have:=q3.2.1 (by omega);have hn:=h0P (1+r1) g q2 (by omega) (by omega);obtain⟨a',u',e4,d4,h4⟩:=yQg hP hT r3.toNat 0 (yjo (1+r1) g) u3 18446744073709551616 (by omega) (by omega) d3 hn (by omega);rw[show((r3.toNat:Nat):Int)=r3 by omega]at e4;unfold yhe;simp only[e1,e2,zkH,wq (most+1) (by omega) (by omega),e3,wq (1+r1) (by omega) (by omega),yjv];refine⟨a',u',_,?_,h4,by omega,d4⟩;exact(congrArg (fun z=>zkt z _ _) (show yof (yGC r3 yhK (yjo (1+r1) g) u3)=_ from e4)).trans rfl
def yNV:Code:=(f52.body).getD .skip
def yOl:Env:=zkw TT [(69,yBx),(71,yz6),(124,yz9)] []
theorem yF7:FrOk prog ⟨yOl,11,fun _=>none⟩ yNV:=zkA mixed yc ⟨yR0,yPQ,yPT,trivial⟩
abbrev ysd:List Par:= [.kp tYs .fz]
abbrev ysr:List OT:= [⟨false,tA,(.pr .fz (.pr (.pr .fz .fz) (.pr (.ow (.pr (.ow .fz) (.pr (.ow (.pr .fz .fz)) (.pr .fz (.ow .fz))))) (.pr .fz (.pr .fz (.pr .fz (.pr .fz (.pr .fz (.pr (.ow (.pr .fz .fz)) (.pr .fz (.pr .fz .fz)))))))))))⟩]
def yfS (a0:List Int):Option (zaY ysr×zak ysd) :=let r1:=yio a0;let r2:=ydl a0 24;bnd (yhe r1 (i64.wrap (6+r2))) fun r3 =>some ((r3.1.1,()),())
theorem yJO:ConOk prog 52 ⟨ysd,ysr,fun x=>yfS x.1⟩:=zkI (yF7) func52 ntmps52.symm fun x=>by kernel_rfl
def yx1:Con:=⟨ysd,ysr,fun x=>yfS x.1⟩
theorem yNl:ConOk prog 52 yx1:=yJO
theorem yTY (a0:List Int) (hb:a0.length≤140737488355328): ∃(a:dA) (V:Int→Int→Int),yfS a0=some ((a,()),())∧Wk 480 a∧Ix 480 V a:=by
 obtain⟨h1,h2⟩:=yVr a0 24 (by omega) hb
 obtain⟨a,u',k,e,⟨q1,V,q2⟩,hk,d⟩:=yTZ (P:=fun k a=>Wk k a∧ ∃V,Ix k V a) (K:=480) (fun k a h=>⟨h.1.1,h.1.2.1⟩)
  (fun k a b h ht hk=>by
   obtain⟨hw,V,hi⟩:=h;have hw':=yUI hw ht (by omega)
   exact⟨ydh hw' (by omega),yUu hi ht (by omega) hw'.2.2.1.1⟩) (fun id g g1 g2 g3=>⟨yUF g1 g2 g3,_,yVU g1 g2 g3⟩) _ (6+ydl a0 24) (yVQ a0 hb) (by omega) (by omega) (by omega)
 refine⟨a,V,?_,ydh q1 (by omega),ydD q2 (by omega)⟩;unfold yfS;simp only[wq (6+ydl a0 24) (by omega) (by omega),e,zkH]
def yUh:Code:=(f57.body).getD .skip
def yUi:Env:=zkw TT [] []
theorem ySG:FrOk prog ⟨yUi,21,fun _=>none⟩ yUh:=zkA mixed yc trivial
abbrev yDB:List Par:= [.rd tYs,.rd tI]
abbrev yDC:List OT:= [⟨false,tI,.fz⟩]
def yjJ (a0:List Int) (a1:Int):Option (zaY yDC×zak yDB) :=bif(ltb a1 (a0.length:Int))then bif(inb a1 a0.length)then some (((i64.wrap (nth a0 a1 0)),()),()) else none else some ((((i64.wrap ((i64.wrap (a1*31))+(i64.wrap ((a0.length:Int)*7)))).tmod 256),()),())
theorem yTv:ConOk prog 57 ⟨yDB,yDC,fun x=>yjJ x.1 x.2.1⟩:=zkI (ySG) func57 ntmps57.symm fun x=>by kernel_rfl
def yHn:Con:=⟨yDB,yDC,fun x=>yjJ x.1 x.2.1⟩
theorem yT9:ConOk prog 57 yHn:=yTv
def atV (a0:List Int) (i:Int):Int:=bif ltb i (a0.length:Int)then nth a0 i 0 else(i*31+(a0.length:Int)*7).tmod 256
theorem yVl {a0:List Int} {i:Int} (hb:a0.length≤140737488355328) (hx: ∀x∈a0,0≤x∧x≤255) (i0:0≤i) (i1:i≤1000):yjJ a0 i=some ((atV a0 i,()),())∧0≤atV a0 i∧atV a0 i≤255:=by
 unfold yjJ atV;by_cases h:i<(a0.length:Int)
 ·have hi:inb i a0.length=true:=zj6.2 ⟨i0,h⟩
  have hr:=ywU (P:=fun x:Int=>0≤x∧x≤255) (d:=0) hi hx;rw[zky h,hi,wq (nth a0 i 0) (by omega) (by omega)];exact⟨rfl,hr⟩
 ·rw[zk3 (by omega),cond_false,cond_false,wq (i*31) (by omega) (by omega),wq ((a0.length:Int)*7) (by omega) (by omega),wq (i*31+(a0.length:Int)*7) (by omega) (by omega)]
  refine⟨rfl,Int.tmod_nonneg _ (by omega),?_⟩;have:=Int.tmod_lt_of_pos (i*31+(a0.length:Int)*7) (show(0:Int)<256 by omega);omega
theorem yTV {a0:List Int} (h:Ty.Ok (.sl (.int .u8)) a0): ∀x∈a0,0≤x∧x≤255:=fun x hx=>h.2 x hx
theorem yUR {k:Int} {V:Int→Int→Int} {a:dA} {s:Int} {d:List Int} (h:Ix k V a) (hk:k<59990) (hs:yO a.2.1 s=true) (hl:(d.length:Int)=a.2.1.1-1) (hd:d.all isW=true):yD a s d=0:=by
 have h1:=yah.1 hs;have hg:=yl.1 h1.1;have:=h.xg;have:=h.xs;unfold yD;simp only[yd5,yf9,ybA,yBJ h,hd,show a.2.2.2.2.2.2.2.2.2.2.1=false from h.xu,h.xb,wq (a.2.1.1-1) (by omega) (by omega),wq (a.2.1.2-1) (by omega) (by omega),hl,bne_self_eq_false,zk2 h1.2.1,zk2 h1.2.2,zk1 (show a.2.2.2.2.2.1<60000 by omega),zk1 (show a.2.2.2.2.2.2.2.1<59990 by omega)];rfl
def yQF:Code:=(f88.body).getD .skip
def yQ8:Env:=zkw TT [] []
theorem yH7:FrOk prog ⟨yQ8,8,fun _=>none⟩ yQF:=zkA mixed yc trivial
abbrev yut:List Par:= [.rd tI]
abbrev yuS:List OT:= [⟨false,tI,.fz⟩]
def yAy (a0:Int):Option (zaY yuS×zak yut) :=bif(ltb a0 0)then some (((-1),()),()) else some (((i64.wrap (2+(a0.tmod 4))),()),())
theorem yMI:ConOk prog 88 ⟨yut,yuS,fun x=>yAy x.1⟩:=zkI (yH7) func88 ntmps88.symm fun x=>by kernel_rfl
def ynY (a0:Int):Int :=bif(ltb a0 0)then (-1) else (i64.wrap (2+(a0.tmod 4)))
def yzW:Con:=⟨yut,yuS,fun x=>(fun n=>some ((n,()),())) (ynY x.1)⟩
theorem yOP (a0:Int):yAy a0=(fun n=>some ((n,()),())) (ynY a0):=zkV (p:=fun(n:Int)=>((n,()),())) (zkG (p:=fun(n:Int)=>((n,()),())) rfl rfl)
theorem yPG:ConOk prog 88 yzW:=(yMI).mono (fun x r _ h=>(yOP x.1).trans h)
theorem ySI (q:Int):ynY q=yN q:=rfl
def yQA:Code:=(f192.body).getD .skip
def yQ3:Env:=zkw TT [] []
theorem yHY:FrOk prog ⟨yQ3,26,fun _=>none⟩ yQA:=zkA mixed yc trivial
abbrev yur:List Par:= [.pt tA (.pr .fz (.pr (.pr .fz .fz) (.pr (.ow (.pr (.ow (.ow .fz)) (.pr (.ow (.pr .fz (.ow .fz))) (.pr .fz (.ow .fz))))) (.pr .fz (.pr .fz (.pr .fz (.pr .fz (.pr .fz (.pr (.ow (.pr .fz (.ow .fz))) (.pr .fz (.pr .fz .fz)))))))))))]
abbrev yuL:List OT:= [⟨false,tB,.fz⟩]
def yAw (a0:dA):Option (zaY yuL×zak yur) :=bif(a0.2.2.2.2.2.2.2.2.2.1==0)then some ((false,()),((a0.1,a0.2.1,a0.2.2.1,a0.2.2.2.1,a0.2.2.2.2.1,a0.2.2.2.2.2.1,a0.2.2.2.2.2.2.1,a0.2.2.2.2.2.2.2.1,a0.2.2.2.2.2.2.2.2.1,(-1),true,a0.2.2.2.2.2.2.2.2.2.2.2),())) else bif(ltb 0 a0.2.2.2.2.2.2.2.2.2.1)then some ((true,()),((a0.1,a0.2.1,a0.2.2.1,a0.2.2.2.1,a0.2.2.2.2.1,a0.2.2.2.2.2.1,a0.2.2.2.2.2.2.1,a0.2.2.2.2.2.2.2.1,a0.2.2.2.2.2.2.2.2.1,(i64.wrap (a0.2.2.2.2.2.2.2.2.2.1-1)),a0.2.2.2.2.2.2.2.2.2.2),())) else some ((true,()),(a0,()))
theorem yMB:ConOk prog 192 ⟨yur,yuL,fun x=>yAw x.1⟩:=zkI (yHY) func192 ntmps192.symm fun x=>by kernel_rfl
def yf3 (a0:dA):Bool×dA :=bif(a0.2.2.2.2.2.2.2.2.2.1==0)then (false,(a0.1,a0.2.1,a0.2.2.1,a0.2.2.2.1,a0.2.2.2.2.1,a0.2.2.2.2.2.1,a0.2.2.2.2.2.2.1,a0.2.2.2.2.2.2.2.1,a0.2.2.2.2.2.2.2.2.1,(-1),true,a0.2.2.2.2.2.2.2.2.2.2.2)) else bif(ltb 0 a0.2.2.2.2.2.2.2.2.2.1)then (true,(a0.1,a0.2.1,a0.2.2.1,a0.2.2.2.1,a0.2.2.2.2.1,a0.2.2.2.2.2.1,a0.2.2.2.2.2.2.1,a0.2.2.2.2.2.2.2.1,a0.2.2.2.2.2.2.2.2.1,(i64.wrap (a0.2.2.2.2.2.2.2.2.2.1-1)),a0.2.2.2.2.2.2.2.2.2.2)) else (true,a0)
def yqs:Con:=⟨yur,yuL,fun x=>(fun n=>some ((n.1,()),(n.2,()))) (yf3 x.1)⟩
theorem yOI (a0:dA):yAw a0=(fun n=>some ((n.1,()),(n.2,()))) (yf3 a0):=zkV (p:=fun(n:Bool×dA)=>((n.1,()),(n.2,()))) (zkG (p:=fun(n:Bool×dA)=>((n.1,()),(n.2,()))) rfl (zkG (p:=fun(n:Bool×dA)=>((n.1,()),(n.2,()))) rfl rfl))
theorem yBN:ConOk prog 192 yqs:=(yMB).mono (fun x r _ h=>(yOI x.1).trans h)
theorem yL3 {a:dA} (h:yb a=false):yf3 a=opA a:=by
 unfold yf3 opA;rw[h];cases(a.2.2.2.2.2.2.2.2.2.1==0)
 ·cases ltb 0 a.2.2.2.2.2.2.2.2.2.1
  ·rfl
  ·show(true,_)=(true,ySc a _ false)
   unfold ySc;rw[show a.2.2.2.2.2.2.2.2.2.2=(yb a,a.2.2.2.2.2.2.2.2.2.2.2)from rfl,h]
 ·rfl
def yFs:Code:=(f223.body).getD .skip
def yFD:Env:=zkw TT [] []
theorem yCm:FrOk prog ⟨yFD,7,fun _=>none⟩ yFs:=zkA mixed yc trivial
abbrev ymA:List Par:= [.rd tI,.rp tI]
abbrev ymD:List OT:= [⟨false,tB,.fz⟩]
def yrN (a0 a1:Int):Option (zaY ymD×zak ymA) :=some (((a0==a1),()),())
theorem yDl:ConOk prog 223 ⟨ymA,ymD,fun x=>yrN x.1 x.2.1⟩:=zkI (yCm) func223 ntmps223.symm fun x=>by kernel_rfl
def yc2 (a0 a1:Int):Bool :=(a0==a1)
def yjP:Con:=⟨ymA,ymD,fun x=>(fun n=>some ((n,()),())) (yc2 x.1 x.2.1)⟩
theorem yEG (a0 a1:Int):yrN a0 a1=(fun n=>some ((n,()),())) (yc2 a0 a1):=zkV (p:=fun(n:Bool)=>((n,()),())) rfl
theorem yt3:ConOk prog 223 yjP:=(yDl).mono (fun x r _ h=>(yEG x.1 x.2.1).trans h)
def ydJ:Code:=(f244.body).getD .skip
def yhg:Env:=zkw TT [(223,yjP)] []
theorem ywL:FrOk prog ⟨yhg,19,fun _=>none⟩ ydJ:=zkA mixed yc ⟨yt3,trivial⟩
def ykV:Nat→Option Seg:=fun _=>none
def yV:Shape:=⟨[(0,false,[.br tI]),(1,false,[.fx 223 tI]),(7,false,[.int .i64]),(8,false,[.int .i64])],[],[]⟩
def yaQ:Shape:=⟨[(0,false,[.br tI]),(1,false,[.fx 223 tI]),(7,false,[.int .i64]),(8,false,[.ci .i64 0])],[],[]⟩
def yaP:Shape:=⟨[],[],[]⟩
def yaR:Shape:=⟨[(4,false,[.int .i64])],[],[]⟩
abbrev yep (v0:List Int) (v1 v2 v3:Int):(yV).X:=(((v0,()),(v1,()),(v2,()),(v3,()),()),(),())
abbrev yvq (v0:List Int) (v1 v2:Int):(yaQ).X:=(((v0,()),(v1,()),(v2,()),((),()),()),(),())
abbrev yvp  :(yaP).X:=((),(),())
abbrev yjt (v0:Int):(yaR).X:=(((v0,()),()),(),())
def yet (v0:List Int) (v1 v2 v3:Int):Option ((yV).X ⊕ ((yaP).X ⊕ (yaR).X)) :=bif(ltb v3 v2)then bif(inb v3 v0.length)then let r2:=yc2 (nth v0 v3 0) v1;bif r2 then some (.inr (.inr (((v3,()),()),(),()))) else some (.inl (((v0,()),(v1,()),(v2,()),((i64.wrap (v3+1)),()),()),(),())) else none else some (.inr (.inl ((),(),())))
def yac (x:(yV).X):=yet x.1.1.1 x.1.2.1.1 x.1.2.2.1.1 x.1.2.2.2.1.1
def yjq (x:(yaQ).X):(yV).X:=(((x.1.1.1,()),(x.1.2.1.1,()),(x.1.2.2.1.1,()),(0,()),()),(),())
def ykG:Code:=(zd7 ydJ 64 52).getD .skip
theorem ywJ:zd7 ydJ 64 13=some (.block 0 (.loop ykG)):=by kernel_rfl
theorem ywS (x:(yV).X):zhu ⟨yhg,19,ykV⟩ 0 ykG 52 yV yaP yaR x=yac x:=by kernel_rfl
def yjr (x:(yaQ).X):Nat:=18446744073709551616
def yeX (x:(yaQ).X):Option ((yaP).X ⊕ (yaR).X):=zF yac (yjr x) (yjq x)
def yjH:Seg:=⟨yaQ,yaP,yaR,yeX⟩
def yw1:Nat→Option Seg:=fun q=>bif Nat.beq q 13 then some yjH else ykV q
theorem ywM:FrOk prog ⟨yhg,19,yw1⟩ ydJ:=(ywL).loop (sg:=yjH) yV yjq (by decide) ywJ yac yjr (by decide) (fun _=>rfl) (fun x r _ h=>h) ywS
abbrev ydK:List Par:= [.rd tL,.fn 223 tI]
abbrev yhi:List OT:= [⟨false,tI,.fz⟩]
def yfR (a0:List Int) (a1:Int):Option (zaY yhi×zak ydK) :=zkt (yeX (((a0,()),(a1,()),((a0.length:Int),()),((),()),()),(),())) (fun y2 =>some (((-1),()),())) (fun y2 =>some ((y2.1.1.1,()),()))
theorem yyO:ConOk prog 244 ⟨ydK,yhi,fun x=>yfR x.1 x.2.1⟩:=zkI (ywM) func244 ntmps244.symm fun x=>by kernel_rfl
def ybU (a0:List Int) (a1:Int):Int:=yag (fun e:Int=>e==a1) a0
theorem yzp (a0:List Int) (a1:Int) (hk:zjx ydK (a0,a1,())):yfR a0 a1=(fun n=>some ((n,()),())) (ybU a0 a1):=by
 have hb:a0.length*8≤2^47:=hk.1.1
 have h1:yeX (yvq a0 a1 a0.length)=some (bif leb 0 (yag (fun e:Int=>e==a1) a0)then .inr (yjt (yag (fun e:Int=>e==a1) a0))else .inl yvp) :=
  yQo (step:=yac) a0 0 (fun i=>yep a0 a1 a0.length i) (fun e:Int=>e==a1) (fun i=> .inr (yjt i)) _ (fun i hi=>by
   simp only[yac,yep,yet,zky (show(i:Int)<a0.length by omega),cond_true,wq ((i:Int)+1) (by omega) (by omega),Int.natCast_add,Int.natCast_one,Int.toNat_natCast,zkR hi,zkS,yc2]
   cases(a0.getD i 0==a1)<;>rfl) (by simp only[yac,yep,yet,zk3 (Int.le_refl _),cond_false]) _ (by show _<18446744073709551616; omega)
 unfold yfR ybU;rw[h1];cases h:leb 0 (yag (fun e:Int=>e==a1) a0)
 ·rw[yOE h]; rfl
 ·rfl
def yld:Con:=⟨ydK,yhi,fun x=>(fun n=>some ((n,()),())) (ybU x.1 x.2.1)⟩
theorem yzr:ConOk prog 244 yld:=(yyO).mono (fun x r hk h=>(yzp x.1 x.2.1 hk).trans h)
def ydn:Code:=(f222.body).getD .skip
def yfY:Env:=zkw TT [(223,yjP),(244,yld)] []
theorem yvm:FrOk prog ⟨yfY,42,fun _=>none⟩ ydn:=zkA mixed yc ⟨yt3,yzr,trivial⟩
def yke:Nat→Option Seg:=fun _=>none
def yT:Shape:=⟨[(0,false,[.at 800000000]),(1,false,[.fx 223 tI]),(5,false,[.int .i64]),(6,false,[.int .i64])],[],[(800000000,tI,.fz)]⟩
def yaF:Shape:=⟨[(0,false,[.at 800000000]),(1,false,[.fx 223 tI]),(5,false,[.int .i64]),(6,false,[.int .i64])],[],[(800000000,tI,.fz)]⟩
def yaE:Shape:=⟨[(0,false,[.at 800000000]),(5,false,[.int .i64])],[],[(800000000,tI,.fz)]⟩
def ybW:Shape:=⟨[],[],[]⟩
abbrev ybB (v0 v1 v2:Int) (v3:List Int):(yT).X:=((((),()),(v0,()),(v1,()),(v2,()),()),(),(v3,()))
abbrev yt2 (v0 v1 v2:Int) (v3:List Int):(yaF).X:=((((),()),(v0,()),(v1,()),(v2,()),()),(),(v3,()))
abbrev yt0 (v0:Int) (v1:List Int):(yaE).X:=((((),()),(v0,()),()),(),(v1,()))
def yd9 (v0 v1 v2:Int) (v3:List Int):Option ((yT).X ⊕ ((yaE).X ⊕ (ybW).X)) :=bif(ltb v2 (v3.length:Int))then bif(inb v2 v3.length)then let r3:=yc2 (nth v3 v2 0) v0;bif(!r3)then bif(inb v1 v3.length)then some (.inl ((((),()),(v0,()),((i64.wrap (v1+1)),()),((i64.wrap (v2+1)),()),()),(),((v3.set (v1).toNat (nth v3 v2 0)),()))) else none else some (.inl ((((),()),(v0,()),(v1,()),((i64.wrap (v2+1)),()),()),(),(v3,()))) else none else some (.inr (.inl ((((),()),(v1,()),()),(),(v3,()))))
def y9 (x:(yT).X):=yd9 x.1.2.1.1 x.1.2.2.1.1 x.1.2.2.2.1.1 x.2.2.1
def yiF (x:(yaF).X):(yT).X:=((((),()),(x.1.2.1.1,()),(x.1.2.2.1.1,()),(x.1.2.2.2.1.1,()),()),(),(x.2.2.1,()))
def yjp:Code:=(zd7 ydn 64 244).getD .skip
theorem yvj:zd7 ydn 64 61=some (.block 0 (.loop yjp)):=by kernel_rfl
theorem yvv (x:(yT).X):zhu ⟨yfY,42,yke⟩ 0 yjp 244 yT yaE ybW x=y9 x:=by kernel_rfl
def yiH (x:(yaF).X):Nat:=18446744073709551616
def yen (x:(yaF).X):Option ((yaE).X ⊕ (ybW).X):=zF y9 (yiH x) (yiF x)
def yiJ:Seg:=⟨yaF,yaE,ybW,yen⟩
def ywI:Nat→Option Seg:=fun q=>bif Nat.beq q 61 then some yiJ else yke q
theorem yvn:FrOk prog ⟨yfY,42,ywI⟩ ydn:=(yvm).loop (sg:=yiJ) yT yiF (by decide) yvj y9 yiH (by decide) (fun _=>rfl) (fun x r _ h=>h) yvv
abbrev ydo:List Par:= [.kp tL (.ow .fz),.fn 223 tI]
abbrev yfZ:List OT:= [⟨false,tL,(.ow .fz)⟩]
def ye2 (a0:List Int) (a1:Int):Option (zaY yfZ×zak ydo) :=let r1:=ybU a0 a1;bif(r1==(-1))then some ((a0,()),()) else zkt (yen ((((),()),(a1,()),(r1,()),((i64.wrap (r1+1)),()),()),(),(a0,()))) (fun y3 =>bif(zj0 y3.1.2.1.1 (y3.2.2.1.length:Int) y3.2.2.1.length)then bif(zj0 0 y3.1.2.1.1 (y3.2.2.1.take (y3.1.2.1.1).toNat++(List.replicate ((y3.2.2.1.length:Int)-y3.1.2.1.1).toNat (0:Int))++y3.2.2.1.drop ((y3.1.2.1.1).toNat+(List.replicate ((y3.2.2.1.length:Int)-y3.1.2.1.1).toNat (0:Int)).length)).length)then some (((((y3.2.2.1.take (y3.1.2.1.1).toNat++(List.replicate ((y3.2.2.1.length:Int)-y3.1.2.1.1).toNat (0:Int))++y3.2.2.1.drop ((y3.1.2.1.1).toNat+(List.replicate ((y3.2.2.1.length:Int)-y3.1.2.1.1).toNat (0:Int)).length)).drop (0:Int).toNat).take (y3.1.2.1.1-0).toNat),()),()) else none else none) (fun y3 =>none)
theorem ywR:ConOk prog 222 ⟨ydo,yfZ,fun x=>ye2 x.1 x.2.1⟩:=zkI (yvn) func222 ntmps222.symm fun x=>by kernel_rfl
def ybn (a0:List Int) (a1:Int):List Int:=yCH a0 a1
theorem yyM (a0:List Int) (a1:Int) (hk:zjx ydo (a0,a1,())):ye2 a0 a1=(fun n=>some ((n,()),())) (ybn a0 a1):=by
 have hb:a0.length*8≤2^47:=hk.1.1;have hs:yCH a0 a1=a0.filter (fun x=> !(x==a1)):=rfl;unfold ye2 ybn ybU;simp only[];cases hi:leb 0 (yag (fun e:Int=>e==a1) a0)
 ·rw[yOE hi,hs,yU2 hi]; rfl
 ·obtain⟨h1,h2⟩:=yoq (d:=(0:Int)) hi
  have h3:=zj6.1 h1;have h4:=yQk hi;generalize hk0:yag (fun e:Int=>e==a1) a0=k at *;obtain⟨k,rfl⟩: ∃m:Nat,k=m:=⟨k.toNat,by omega⟩;rw[Int.toNat_natCast]at h4;rw[show((k:Int)== -1)=false from beq_eq_false_iff_ne.2 (by omega),cond_false,wq ((k:Int)+1) (by omega) (by omega)]
  obtain⟨b,e,i,s,rfl,q1,q2,q3⟩:=zjj (step:=y9) (fun x=>(a0.length-Int.toNat x.1.2.2.2.1.1))
   (fun x=> ∃(i j:Nat) (s:List Int),x=ybB a1 i j s∧i<j∧j≤a0.length∧s.length=a0.length∧s.take i=(a0.take j).filter (fun x=> !(x==a1))∧s.drop j=a0.drop j)
   (fun b=> ∃(i:Nat) (s:List Int),b= .inl (yt0 i s)∧i≤a0.length∧s.length=a0.length∧s.take i=a0.filter (fun x=> !(x==a1)))
   (fun x hx=>by
    obtain⟨i,j,s,rfl,p1,p2,p3,p4,p5⟩:=hx;by_cases hj:j<a0.length
    ·left
     have e1:nth s j 0=a0[j]:=by
      rw[zkS,zkJ (by omega)];have:=List.getElem_drop (xs:=s) (i:=j) (j:=0) (h:=by rw[List.length_drop]; omega);have h6:(s.drop j)[0]'(by rw[List.length_drop]; omega)=(a0.drop j)[0]'(by rw[List.length_drop]; omega):=by simp only[p5]
      simpa using h6
     have e2:a0.take (j+1)=a0.take j++ [a0[j]]:=(List.take_append_getElem hj).symm;simp only[y9,ybB,yd9,p3,zky (show(j:Int)<a0.length by omega),zkR hj,zkR (show i<a0.length by omega),e1,yc2,wq ((j:Int)+1) (by omega) (by omega),wq ((i:Int)+1) (by omega) (by omega),cond_true,Int.toNat_natCast];cases hx:(a0[j]==a1)
     ·refine⟨_,rfl,⟨i+1,j+1,s.set i a0[j],rfl,by omega,by omega,by rw[List.length_set,p3],?_,?_⟩,by show a0.length-((j:Int)+1).toNat<a0.length-((j:Int)).toNat; omega⟩
      ·rw[List.take_set,← List.take_append_getElem (show i<s.length by omega),List.set_append_right _ _ (by rw[List.length_take]; omega),p4,e2,List.filter_append,List.filter_cons,hx]
       have:i-(List.filter (fun x=> !x==a1) (a0.take j)).length=0:=by rw[← p4,List.length_take]; omega
       rw[this]; rfl
      ·rw[List.drop_set_of_lt (by omega),← List.drop_drop,p5,List.drop_drop]
     ·refine⟨_,rfl,⟨i,j+1,s,rfl,by omega,by omega,p3,?_,?_⟩,by show a0.length-((j:Int)+1).toNat<a0.length-((j:Int)).toNat; omega⟩
      ·rw[p4,e2,List.filter_append,List.filter_cons,hx]; simp
      ·rw[← List.drop_drop,p5,List.drop_drop]
    ·right
     have:j=a0.length:=by omega
     subst this;rw[List.take_length]at p4;refine⟨_,?_,i,s,rfl,by omega,p3,p4⟩
     simp only[y9,ybB,yd9,p3,zk3 (Int.le_refl _),cond_false]) 18446744073709551616 (ybB a1 k (k+1:Nat) a0) ⟨k,k+1,a0,rfl,by omega,by omega,rfl,h4.symm,rfl⟩ (by show a0.length-((k+1:Nat):Int).toNat<18446744073709551616; omega)
  rw[show((k+1:Nat):Int)=(k:Int)+1 by omega]at e;rw[show yen (yt2 a1 k ((k:Int)+1) a0)=_ from e];rw[hs,← q3]
  have hL:(s.take i++List.replicate ((s.length:Int)-i).toNat (0:Int)++s.drop ((i:Int).toNat+(List.replicate ((s.length:Int)-i).toNat (0:Int)).length)).length=s.length:=by
   simp only[List.length_append,List.length_take,List.length_replicate,List.length_drop]; omega
  show(bif zj0 i s.length s.length then bif zj0 0 i (s.take i++List.replicate ((s.length:Int)-i).toNat (0:Int)++s.drop ((i:Int).toNat+(List.replicate ((s.length:Int)-i).toNat (0:Int)).length)).length then some ((((s.take i++List.replicate ((s.length:Int)-i).toNat (0:Int)++s.drop ((i:Int).toNat+(List.replicate ((s.length:Int)-i).toNat (0:Int)).length)).drop 0).take ((i:Int)-0).toNat,()),())else none else none)=some ((s.take i,()),());rw[hL,zkz.2 (show 0≤(i:Int)∧(i:Int)≤s.length∧(s.length:Int)≤s.length by omega),zkz.2 (show(0:Int)≤0∧(0:Int)≤i∧(i:Int)≤s.length by omega),List.drop_zero,show((i:Int)-0).toNat=i by omega,List.append_assoc,List.take_append_of_le_length (by rw[List.length_take]; omega),List.take_take,Nat.min_self]; rfl
def ykI:Con:=⟨ydo,yfZ,fun x=>(fun n=>some ((n,()),())) (ybn x.1 x.2.1)⟩
theorem yyQ:ConOk prog 222 ykI:=(ywR).mono (fun x r hk h=>(yyM x.1 x.2.1 hk).trans h)
def yKy:Code:=(f193.body).getD .skip
def yKW:Env:=zkw TT [(127,ye4),(133,yfG),(156,ygY),(158,ybx),(186,ysB),(222,ykI)] []
theorem yD1:FrOk prog ⟨yKW,51,fun _=>none⟩ yKy:=zkA mixed yc ⟨yjB,ykS,ymj,ydG,yCN,yyQ,trivial⟩
abbrev yki:List Par:= [.rd tM,.rd tI,.rd tL]
abbrev yqa:List OT:= [⟨false,tM,(.pr (.ow (.ow .fz)) (.pr (.ow (.pr .fz (.ow .fz))) (.pr .fz (.ow .fz))))⟩,⟨false,tB,.fz⟩]
def ym0 (a0:dM) (a1:Int) (a2:List Int):Option (zaY yqa×zak yki) :=let r1:=yar a0;let r2:=yaq a0;bif(!(!r2))then bif(!a0.2.2.1)then let r3:=yak a0 a1;bif(!(!r3))then let r4:=yfL a2;bif(!(!r4))then bif((a0.2.1.length:Int)==60)then some ((r1,false,()),()) else let r5:=yp a2;bif(zkl r1.2.1.length ([(a1,r5)]:List dW).length 32)then let r6:=ybn r1.2.2.2 a1;some (((r1.1,(r1.2.1++([(a1,r5)]:List dW)),r1.2.2.1,r6),true,()),()) else none else some ((r1,false,()),()) else some ((r1,false,()),()) else some ((r1,false,()),()) else some ((r1,false,()),())
theorem yGT:ConOk prog 193 ⟨yki,yqa,fun x=>ym0 x.1 x.2.1 x.2.2.1⟩:=zkI (yD1) func193 ntmps193.symm fun x=>by kernel_rfl
def yg4 (a0:dM) (a1:Int) (a2:List Int):dM×Bool:=yX a0 a1 a2
theorem yJq (a0:dM) (a1:Int) (a2:List Int) (hk:zjx yki (a0,a1,a2,())):ym0 a0 a1 a2=(fun n=>some ((n.1,n.2,()),())) (yg4 a0 a1 a2):=by
 have hb1:a0.1.length*24≤2^47:=hk.1.1.1;unfold ym0 yg4 yX ya9;simp only[yar,yaq,yak,yW,yh8 (show a0.1.length≤1152921504606846976 by omega),yA0,yp,ybn];cases hm:yu a0
 ·rfl
 have hc:=(ybT hm).2.2.2.2.2;cases a0.2.2.1
 ·cases inb a1 a0.1.length
  ·rfl
  cases yad a2
  ·rfl
  by_cases h:(a0.2.1.length:Int)<60
  ·rw[zky h,show((a0.2.1.length:Int)==60)=false from beq_eq_false_iff_ne.2 (by omega),zkF.2 (show(a0.2.1.length+ [(a1,a2)].length)*32≤140737488355328 by simp only[List.length_cons,List.length_nil]; omega)]; rfl
  ·rw[zk3 (by omega),show((a0.2.1.length:Int)==60)=true from beq_iff_eq.2 (by omega)]; rfl
 ·rfl
def yvU:Con:=⟨yki,yqa,fun x=>(fun n=>some ((n.1,n.2,()),())) (yg4 x.1 x.2.1 x.2.2.1)⟩
theorem yJ6:ConOk prog 193 yvU:=(yGT).mono (fun x r hk h=>(yJq x.1 x.2.1 x.2.2.1 hk).trans h)
def yHy:Code:=(f139.body).getD .skip
def yHK:Env:=zkw TT [(192,yqs),(193,yvU)] []
theorem yC4:FrOk prog ⟨yHK,39,fun _=>none⟩ yHy:=zkA mixed yc ⟨yBN,yJ6,trivial⟩
abbrev yfg:List Par:= [.pt tA (.pr .fz (.pr (.pr .fz .fz) (.pr (.ow (.pr (.ow (.ow .fz)) (.pr (.ow (.pr .fz (.ow .fz))) (.pr .fz (.ow .fz))))) (.pr .fz (.pr .fz (.pr .fz (.pr .fz (.pr .fz (.pr (.ow (.pr .fz (.ow .fz))) (.pr .fz (.pr .fz .fz))))))))))),.rd tI,.rd tI,.rd tL]
abbrev yiS:List OT:= [⟨false,tB,.fz⟩]
def ylw (a0:dA) (a1 a2:Int) (a3:List Int):Option (zaY yiS×zak yfg) :=bif(inb a1 a0.2.2.1.length)then bif(((nth a0.2.2.1 a1 ([],[],false,[])).2).2).1 then some ((true,()),(a0,())) else let r1:=yf3 a0;bif(!r1.1)then some ((false,()),(r1.2,())) else bif(inb a1 r1.2.2.2.1.length)then let r2:=yg4 ((nth r1.2.2.2.1 a1 ([],[],false,[])).1,((nth r1.2.2.2.1 a1 ([],[],false,[])).2).1,(((nth r1.2.2.2.1 a1 ([],[],false,[])).2).2)) a2 a3;bif(inb a1 r1.2.2.2.1.length)then some ((true,()),((r1.2.1,r1.2.2.1,(r1.2.2.2.1.set (a1).toNat r2.1),r1.2.2.2.2),())) else none else none else none
theorem yEK:ConOk prog 139 ⟨yfg,yiS,fun x=>ylw x.1 x.2.1 x.2.2.1 x.2.2.2.1⟩:=zkI (yC4) func139 ntmps139.symm fun x=>by kernel_rfl
def ycc (a0:dA) (a1 a2:Int) (a3:List Int):Bool×dA:=(!(yb (yce a0 a1 a2 a3)),yce a0 a1 a2 a3)
def ycf (a0:dA) (a1 a2:Int) (a3:List Int):Bool:=inb a1 a0.2.2.1.length&& !(yb a0)
theorem yGK (a0:dA) (a1 a2:Int) (a3:List Int) (hk:zjx yfg (a0,a1,a2,a3,())) (hq:ycf a0 a1 a2 a3=true):ylw a0 a1 a2 a3=(fun n=>some ((n.1,()),(n.2,()))) (ycc a0 a1 a2 a3):=by
 simp only[ycf,Bool.and_eq_true,Bool.not_eq_true']at hq;unfold ylw ycc;simp only[yS1 hq.2];unfold yce ycX;simp only[yL3 hq.2,yau,hq.1,zkX,yg4];cases(nth a0.2.2.1 a1 yf).2.2.1<;>cases(opA a0).1<;>rfl
def ydF (a0:dA) (a1 a2:Int) (a3:List Int):Option (zaY yiS×zak yfg):=bif ycf a0 a1 a2 a3 then(fun n=>some ((n.1,()),(n.2,()))) (ycc a0 a1 a2 a3)else none
theorem ymU (a0:dA) (a1 a2:Int) (a3:List Int) (h:ycf a0 a1 a2 a3=true):ydF a0 a1 a2 a3=(fun n=>some ((n.1,()),(n.2,()))) (ycc a0 a1 a2 a3):=by unfold ydF; rw[h]; rfl
def ygX:Con:=⟨yfg,yiS,fun x=>ydF x.1 x.2.1 x.2.2.1 x.2.2.2.1⟩
theorem ymT:ConOk prog 139 ygX:=(yEK).mono (fun x r hk h=>zkY h (fun hq=>yGK x.1 x.2.1 x.2.2.1 x.2.2.2.1 hk hq))
def ySf:Code:=(f159.body).getD .skip
def ySq:Env:=zkw TT [(81,yE),(187,yi1)] []
theorem yLx:FrOk prog ⟨ySq,22,fun _=>none⟩ ySf:=zkA mixed yc ⟨yS,yqY,trivial⟩
abbrev yxg:List Par:= [.rd tN]
abbrev yxq:List OT:= [⟨false,tB,.fz⟩]
def yB2 (a0:dN):Option (zaY yxq×zak yxg) :=let r1:=ye a0.1 0 60000;bif r1 then let r2:=ye a0.2.1 0 7;bif r2 then let r3:=ye (a0.2.2.length:Int) 2 4;bif r3 then let r4:=yaf a0.2.2;some ((r4,()),()) else some ((false,()),()) else some ((false,()),()) else some ((false,()),())
theorem yPk:ConOk prog 159 ⟨yxg,yxq,fun x=>yB2 x.1⟩:=zkI (yLx) func159 ntmps159.symm fun x=>by kernel_rfl
def ylp (a0:dN):Bool :=let r1:=ye a0.1 0 60000;bif r1 then let r2:=ye a0.2.1 0 7;bif r2 then let r3:=ye (a0.2.2.length:Int) 2 4;bif r3 then let r4:=yaf a0.2.2;r4 else false else false else false
def yBr:Con:=⟨yxg,yxq,fun x=>(fun n=>some ((n,()),())) (ylp x.1)⟩
theorem yRA (a0:dN):yB2 a0=(fun n=>some ((n,()),())) (ylp a0):=zkV (p:=fun(n:Bool)=>((n,()),())) (zkG (p:=fun(n:Bool)=>((n,()),())) (zkG (p:=fun(n:Bool)=>((n,()),())) (zkG (p:=fun(n:Bool)=>((n,()),())) rfl rfl) rfl) rfl)
theorem yRU:ConOk prog 159 yBr:=(yPk).mono (fun x r _ h=>(yRA x.1).trans h)
theorem yTp (r:dN):ylp r=ybc r:=by
 unfold ylp ybc;simp only[yW,yqN,yf9]
def yQE:Code:=(f164.body).getD .skip
def yQ7:Env:=zkw TT [(159,yBr)] []
theorem yH6:FrOk prog ⟨yQ7,17,fun _=>none⟩ yQE:=zkA mixed yc ⟨yRU,trivial⟩
abbrev ynK:List Par:= [.rd tN]
abbrev yuR:List OT:= [⟨false,tL,(.ow .fz)⟩]
def yq4 (a0:dN):Option (zaY yuR×zak ynK) :=let r1:=ylp a0;bif(!r1)then some (([],()),()) else bif(zkl ([21322,a0.1,a0.2.1,(a0.2.2.length:Int)]:List Int).length a0.2.2.length 8)then some (((([21322,a0.1,a0.2.1,(a0.2.2.length:Int)]:List Int)++a0.2.2),()),()) else none
theorem yMH:ConOk prog 164 ⟨ynK,yuR,fun x=>yq4 x.1⟩:=zkI (yH6) func164 ntmps164.symm fun x=>by kernel_rfl
def yju (a0:dN):List Int:=yjF a0
theorem yOO (a0:dN) (hk:zjx ynK (a0,())):yq4 a0=(fun n=>some ((n,()),())) (yju a0):=by
 unfold yq4 yju yjF;simp only[yTp];cases hr:ybc a0
 ·rfl
 ·have:=(yQt.1 hr).2.2.1
  rw[zkF.2 (show(([21322,a0.1,a0.2.1,(a0.2.2.length:Int)]:List Int).length+a0.2.2.length)*8≤140737488355328 by simp only[List.length_cons,List.length_nil]; omega)]; rfl
def yzV:Con:=⟨ynK,yuR,fun x=>(fun n=>some ((n,()),())) (yju x.1)⟩
theorem yPF:ConOk prog 164 yzV:=(yMH).mono (fun x r hk h=>(yOO x.1 hk).trans h)
def yj9:Code:=(f205.body).getD .skip
def ypA:Env:=zkw TT [(127,ye4),(133,yfG),(158,ybx)] []
theorem yDW:FrOk prog ⟨ypA,34,fun _=>none⟩ yj9:=zkA mixed yc ⟨yjB,ykS,ydG,trivial⟩
def yvA:Nat→Option Seg:=fun _=>none
def ya6:Shape:=⟨[(2,false,[.ptr 64 0]),(3,false,[.ptr 4224 0]),(17,false,[.br tW]),(18,false,[.int .i64]),(19,false,[.int .i64])],[(64,[.nil,.nil,.bool,.nil]),(4224,[.at 800000000,.at 800000001,.bool,.at 800000002])],[(800000000,tL,(.ow .fz)),(800000001,tW,(.pr .fz (.ow .fz))),(800000002,tI,.fz)]⟩
def ydU:Shape:=⟨[(2,false,[.ptr 64 0]),(3,false,[.ptr 4224 0]),(17,false,[.br tW]),(18,false,[.int .i64]),(19,false,[.ci .i64 0])],[(64,[.nil,.nil,.bool,.nil]),(4224,[.at 800000000,.at 800000001,.bool,.at 800000002])],[(800000000,tL,(.ow .fz)),(800000001,tW,(.pr .fz (.ow .fz))),(800000002,tI,.fz)]⟩
def ydP:Shape:=⟨[(2,false,[.ptr 64 0]),(3,false,[.ptr 4224 0])],[(64,[.nil,.nil,.bool,.nil]),(4224,[.at 800000000,.at 800000001,.bool,.at 800000002])],[(800000000,tL,(.ow .fz)),(800000001,tW,(.pr .fz (.ow .fz))),(800000002,tI,.fz)]⟩
def ygN:Shape:=⟨[],[],[]⟩
abbrev yjS (v0:List dW) (v1 v2:Int) (v3 v4:dM):(ya6).X:=((((),()),((),()),(v0,()),(v1,()),(v2,()),()),(((),(),v3.2.2.1,(),()),((),(),v4.2.2.1,(),()),()),(v4.1,v4.2.1,v4.2.2.2,()))
abbrev yDb (v0:List dW) (v1:Int) (v2 v3:dM):(ydU).X:=((((),()),((),()),(v0,()),(v1,()),((),()),()),(((),(),v2.2.2.1,(),()),((),(),v3.2.2.1,(),()),()),(v3.1,v3.2.1,v3.2.2.2,()))
abbrev yrK (v0 v1:dM):(ydP).X:=((((),()),((),()),()),(((),(),v0.2.2.1,(),()),((),(),v1.2.2.1,(),()),()),(v1.1,v1.2.1,v1.2.2.2,()))
def yj3 (v0:List dW) (v1 v2:Int) (v3 v4:Bool) (v5:List (List Int)) (v6:List dW) (v7:List Int):Option ((ya6).X ⊕ ((ydP).X ⊕ (ygN).X)) :=bif(ltb v2 v1)then bif(inb v2 v0.length)then let r4:=yp ((nth v0 v2 (0,[])).2);bif(inb ((nth v0 v2 (0,[])).1) v5.length)then some (.inl ((((),()),((),()),(v0,()),(v1,()),((i64.wrap (v2+1)),()),()),(((),(),v3,(),()),((),(),v4,(),()),()),((v5.set ((nth v0 v2 (0,[])).1).toNat r4),v6,v7,()))) else none else none else some (.inr (.inl ((((),()),((),()),()),(((),(),v3,(),()),((),(),v4,(),()),()),(v5,v6,v7,()))))
def ybj (x:(ya6).X):=yj3 x.1.2.2.1.1 x.1.2.2.2.1.1 x.1.2.2.2.2.1.1 x.2.1.1.2.2.1 x.2.1.2.1.2.2.1 x.2.2.1 x.2.2.2.1 x.2.2.2.2.1
def yrA (x:(ydU).X):(ya6).X:=((((),()),((),()),(x.1.2.2.1.1,()),(x.1.2.2.2.1.1,()),(0,()),()),(((),(),x.2.1.1.2.2.1,(),()),((),(),x.2.1.2.1.2.2.1,(),()),()),(x.2.2.1,x.2.2.2.1,x.2.2.2.2.1,()))
def ytl:Code:=(zd7 yj9 64 244).getD .skip
theorem yDF:zd7 yj9 64 61=some (.block 0 (.loop ytl)):=by kernel_rfl
theorem yE0 (x:(ya6).X):zhu ⟨ypA,34,yvA⟩ 0 ytl 244 ya6 ydP ygN x=ybj x:=by kernel_rfl
def yrG (x:(ydU).X):Nat:=18446744073709551616
def yk0 (x:(ydU).X):Option ((ydP).X ⊕ (ygN).X):=zF ybj (yrG x) (yrA x)
def yrR:Seg:=⟨ydU,ydP,ygN,yk0⟩
def yFw:Nat→Option Seg:=fun q=>bif Nat.beq q 61 then some yrR else yvA q
theorem yDX:FrOk prog ⟨ypA,34,yFw⟩ yj9:=(yDW).loop (sg:=yrR) ya6 yrA (by decide) yDF ybj yrG (by decide) (fun _=>rfl) (fun x r _ h=>h) yE0
abbrev ykf:List Par:= [.rd tM]
abbrev yp6:List OT:= [⟨false,tM,(.pr (.ow (.ow .fz)) (.pr (.ow (.pr .fz (.ow .fz))) (.pr .fz (.ow .fz))))⟩]
def ymX (a0:dM):Option (zaY yp6×zak ykf) :=let r1:=yar a0;let r2:=yaq a0;bif(!(!r2))then bif a0.2.2.1 then some ((r1,()),()) else zkt (yk0 ((((),()),((),()),(a0.2.1,()),((a0.2.1.length:Int),()),((),()),()),(((),(),false,(),()),((),(),r1.2.2.1,(),()),()),(r1.1,r1.2.1,r1.2.2.2,()))) (fun y4 =>some (((y4.2.2.1,[],y4.2.1.2.1.2.2.1,y4.2.2.2.2.1),()),())) (fun y4 =>none) else some ((r1,()),())
theorem yGP:ConOk prog 205 ⟨ykf,yp6,fun x=>ymX x.1⟩:=zkI (yDX) func205 ntmps205.symm fun x=>by kernel_rfl
def yg1 (a0:dM):dM:=yr a0
theorem yJm (a0:dM) (hk:zjx ykf (a0,())):ymX a0=(fun n=>some ((n,()),())) (yg1 a0):=by
 have hb2:a0.2.1.length*32≤2^47:=hk.1.2.1.1;unfold ymX yg1 yr;simp only[yar,yaq];cases hm:yu a0
 ·rfl
 have h1:yk0 (yDb a0.2.1 a0.2.1.length yf a0)=some (.inl (yrK yf (yia (fun _=>true) a0.2.1 a0.1,a0.2))) :=
  zkD (step:=ybj) a0.2.1.length (fun i s=>yjS a0.2.1 a0.2.1.length i yf (s,a0.2)) (yfI (fun _=>true) a0.2.1) (fun i s=>s.length=a0.1.length) (fun s=> .inl (yrK yf (s,a0.2))) (fun i s hi hs=>by
   have hw:=(ySU hm hi).1;refine⟨?_,ywP.trans hs⟩
   simp only[ybj,yjS,yj3,zky (show(i:Int)<a0.2.1.length by omega),cond_true,wq ((i:Int)+1) (by omega) (by omega),Int.natCast_add,Int.natCast_one,Int.toNat_natCast,zkR hi,hs,hw,yfI,yp]) (fun s hs=>by simp only[ybj,yjS,yj3,zk3 (Int.le_refl _),cond_false]) a0.1 rfl _ (by show _<18446744073709551616; omega)
 rw[h1];cases hf:a0.2.2.1
 ·exact congrArg (fun z=>some (((yia (fun _=>true) a0.2.1 a0.1,([]:List dW),z,a0.2.2.2),()),())) hf
 ·rfl
def yvR:Con:=⟨ykf,yp6,fun x=>(fun n=>some ((n,()),())) (yg1 x.1)⟩
theorem yJ3:ConOk prog 205 yvR:=(yGP).mono (fun x r hk h=>(yJm x.1 hk).trans h)
def yj8:Code:=(f165.body).getD .skip
def ypz:Env:=zkw TT [(192,yqs),(205,yvR)] []
theorem yDU:FrOk prog ⟨ypz,38,fun _=>none⟩ yj8:=zkA mixed yc ⟨yBN,yJ3,trivial⟩
def yvz:Nat→Option Seg:=fun _=>none
def ya5:Shape:=⟨[(0,false,[.ptr 1000000000 0]),(8,false,[.int .i64]),(9,false,[.int .i64])],[(1000000000,[.int .i64,.int .i64,.int .i64,.at 800000000,.int .i64,.int .i64,.int .i64,.int .i64,.int .i64,.at 800000001,.int .i64,.bool,.bool])],[(800000000,tM,(.pr (.ow (.ow .fz)) (.pr (.ow (.pr .fz (.ow .fz))) (.pr .fz (.ow .fz))))),(800000001,tW,(.pr .fz (.ow .fz)))]⟩
def ydT:Shape:=⟨[(0,false,[.ptr 1000000000 0]),(8,false,[.int .i64]),(9,false,[.ci .i64 0])],[(1000000000,[.int .i64,.int .i64,.int .i64,.at 800000000,.int .i64,.int .i64,.int .i64,.int .i64,.int .i64,.at 800000001,.int .i64,.bool,.bool])],[(800000000,tM,(.pr (.ow (.ow .fz)) (.pr (.ow (.pr .fz (.ow .fz))) (.pr .fz (.ow .fz))))),(800000001,tW,(.pr .fz (.ow .fz)))]⟩
def ydO:Shape:=⟨[],[(1000000000,[.int .i64,.int .i64,.int .i64,.at 800000000,.int .i64,.int .i64,.int .i64,.int .i64,.int .i64,.at 800000001,.int .i64,.bool,.bool])],[(800000000,tM,(.pr (.ow (.ow .fz)) (.pr (.ow (.pr .fz (.ow .fz))) (.pr .fz (.ow .fz))))),(800000001,tW,(.pr .fz (.ow .fz)))]⟩
def ydY:Shape:=⟨[(2,false,[.bool])],[(1000000000,[.int .i64,.int .i64,.int .i64,.at 800000000,.int .i64,.int .i64,.int .i64,.int .i64,.int .i64,.at 800000001,.int .i64,.bool,.bool])],[(800000000,tM,(.pr (.ow (.ow .fz)) (.pr (.ow (.pr .fz (.ow .fz))) (.pr .fz (.ow .fz))))),(800000001,tW,(.pr .fz (.ow .fz)))]⟩
abbrev yfX (v0 v1:Int) (v2:dA):(ya5).X:=((((),()),(v0,()),(v1,()),()),((v2.1,v2.2.1.1,v2.2.1.2,(),v2.2.2.2.1,v2.2.2.2.2.1,v2.2.2.2.2.2.1,v2.2.2.2.2.2.2.1,v2.2.2.2.2.2.2.2.1,(),v2.2.2.2.2.2.2.2.2.2.1,v2.2.2.2.2.2.2.2.2.2.2.1,v2.2.2.2.2.2.2.2.2.2.2.2,()),()),(v2.2.2.1,v2.2.2.2.2.2.2.2.2.1,()))
abbrev yDa (v0:Int) (v1:dA):(ydT).X:=((((),()),(v0,()),((),()),()),((v1.1,v1.2.1.1,v1.2.1.2,(),v1.2.2.2.1,v1.2.2.2.2.1,v1.2.2.2.2.2.1,v1.2.2.2.2.2.2.1,v1.2.2.2.2.2.2.2.1,(),v1.2.2.2.2.2.2.2.2.2.1,v1.2.2.2.2.2.2.2.2.2.2.1,v1.2.2.2.2.2.2.2.2.2.2.2,()),()),(v1.2.2.1,v1.2.2.2.2.2.2.2.2.1,()))
abbrev yjW (v0:dA):(ydO).X:=((),((v0.1,v0.2.1.1,v0.2.1.2,(),v0.2.2.2.1,v0.2.2.2.2.1,v0.2.2.2.2.2.1,v0.2.2.2.2.2.2.1,v0.2.2.2.2.2.2.2.1,(),v0.2.2.2.2.2.2.2.2.2.1,v0.2.2.2.2.2.2.2.2.2.2.1,v0.2.2.2.2.2.2.2.2.2.2.2,()),()),(v0.2.2.1,v0.2.2.2.2.2.2.2.2.1,()))
abbrev yjY (v0:Bool) (v1:dA):(ydY).X:=(((v0,()),()),((v1.1,v1.2.1.1,v1.2.1.2,(),v1.2.2.2.1,v1.2.2.2.2.1,v1.2.2.2.2.2.1,v1.2.2.2.2.2.2.1,v1.2.2.2.2.2.2.2.1,(),v1.2.2.2.2.2.2.2.2.2.1,v1.2.2.2.2.2.2.2.2.2.2.1,v1.2.2.2.2.2.2.2.2.2.2.2,()),()),(v1.2.2.1,v1.2.2.2.2.2.2.2.2.1,()))
def yj2 (v0 v1 v2 v3 v4 v5 v6 v7 v8 v9 v10:Int) (v11 v12:Bool) (v13:List dM) (v14:List dW):Option ((ya5).X ⊕ ((ydO).X ⊕ (ydY).X)) :=bif(ltb v1 v0)then bif(inb v1 v13.length)then bif(((nth v13 v1 ([],[],false,[])).2).2).1 then some (.inl ((((),()),(v0,()),((i64.wrap (v1+1)),()),()),((v2,v3,v4,(),v5,v6,v7,v8,v9,(),v10,v11,v12,()),()),(v13,v14,()))) else let r3:=yf3 (v2,(v3,v4),v13,v5,v6,v7,v8,v9,v14,v10,v11,v12);bif(!r3.1)then some (.inr (.inr (((false,()),()),((r3.2.1,r3.2.2.1.1,r3.2.2.1.2,(),r3.2.2.2.2.1,r3.2.2.2.2.2.1,r3.2.2.2.2.2.2.1,r3.2.2.2.2.2.2.2.1,r3.2.2.2.2.2.2.2.2.1,(),r3.2.2.2.2.2.2.2.2.2.2.1,r3.2.2.2.2.2.2.2.2.2.2.2.1,r3.2.2.2.2.2.2.2.2.2.2.2.2,()),()),(r3.2.2.2.1,r3.2.2.2.2.2.2.2.2.2.1,())))) else bif(inb v1 r3.2.2.2.1.length)then let r4:=yg1 ((nth r3.2.2.2.1 v1 ([],[],false,[])).1,((nth r3.2.2.2.1 v1 ([],[],false,[])).2).1,(((nth r3.2.2.2.1 v1 ([],[],false,[])).2).2));bif(inb v1 r3.2.2.2.1.length)then some (.inl ((((),()),(v0,()),((i64.wrap (v1+1)),()),()),((r3.2.1,r3.2.2.1.1,r3.2.2.1.2,(),r3.2.2.2.2.1,r3.2.2.2.2.2.1,r3.2.2.2.2.2.2.1,r3.2.2.2.2.2.2.2.1,r3.2.2.2.2.2.2.2.2.1,(),r3.2.2.2.2.2.2.2.2.2.2.1,r3.2.2.2.2.2.2.2.2.2.2.2.1,r3.2.2.2.2.2.2.2.2.2.2.2.2,()),()),((r3.2.2.2.1.set (v1).toNat r4),r3.2.2.2.2.2.2.2.2.2.1,()))) else none else none else none else some (.inr (.inl ((),((v2,v3,v4,(),v5,v6,v7,v8,v9,(),v10,v11,v12,()),()),(v13,v14,()))))
def ybi (x:(ya5).X):=yj2 x.1.2.1.1 x.1.2.2.1.1 x.2.1.1.1 x.2.1.1.2.1 x.2.1.1.2.2.1 x.2.1.1.2.2.2.2.1 x.2.1.1.2.2.2.2.2.1 x.2.1.1.2.2.2.2.2.2.1 x.2.1.1.2.2.2.2.2.2.2.1 x.2.1.1.2.2.2.2.2.2.2.2.1 x.2.1.1.2.2.2.2.2.2.2.2.2.2.1 x.2.1.1.2.2.2.2.2.2.2.2.2.2.2.1 x.2.1.1.2.2.2.2.2.2.2.2.2.2.2.2.1 x.2.2.1 x.2.2.2.1
def yrz (x:(ydT).X):(ya5).X:=((((),()),(x.1.2.1.1,()),(0,()),()),((x.2.1.1.1,x.2.1.1.2.1,x.2.1.1.2.2.1,(),x.2.1.1.2.2.2.2.1,x.2.1.1.2.2.2.2.2.1,x.2.1.1.2.2.2.2.2.2.1,x.2.1.1.2.2.2.2.2.2.2.1,x.2.1.1.2.2.2.2.2.2.2.2.1,(),x.2.1.1.2.2.2.2.2.2.2.2.2.2.1,x.2.1.1.2.2.2.2.2.2.2.2.2.2.2.1,x.2.1.1.2.2.2.2.2.2.2.2.2.2.2.2.1,()),()),(x.2.2.1,x.2.2.2.1,()))
def ytk:Code:=(zd7 yj8 64 52).getD .skip
theorem yDE:zd7 yj8 64 13=some (.block 0 (.loop ytk)):=by kernel_rfl
theorem yEZ (x:(ya5).X):zhu ⟨ypz,38,yvz⟩ 0 ytk 52 ya5 ydO ydY x=ybi x:=by kernel_rfl
def yrF (x:(ydT).X):Nat:=18446744073709551616
def ykZ (x:(ydT).X):Option ((ydO).X ⊕ (ydY).X):=zF ybi (yrF x) (yrz x)
def yrQ:Seg:=⟨ydT,ydO,ydY,ykZ⟩
def yFv:Nat→Option Seg:=fun q=>bif Nat.beq q 13 then some yrQ else yvz q
theorem yDV:FrOk prog ⟨ypz,38,yFv⟩ yj8:=(yDU).loop (sg:=yrQ) ya5 yrz (by decide) yDE ybi yrF (by decide) (fun _=>rfl) (fun x r _ h=>h) yEZ
abbrev ygd:List Par:= [.pt tA (.pr .fz (.pr (.pr .fz .fz) (.pr (.ow (.pr (.ow (.ow .fz)) (.pr (.ow (.pr .fz (.ow .fz))) (.pr .fz (.ow .fz))))) (.pr .fz (.pr .fz (.pr .fz (.pr .fz (.pr .fz (.pr (.ow (.pr .fz (.ow .fz))) (.pr .fz (.pr .fz .fz)))))))))))]
abbrev ykv:List OT:= [⟨false,tB,.fz⟩]
def ymW (a0:dA):Option (zaY ykv×zak ygd) :=zkt (ykZ ((((),()),((a0.2.2.1.length:Int),()),((),()),()),((a0.1,a0.2.1.1,a0.2.1.2,(),a0.2.2.2.1,a0.2.2.2.2.1,a0.2.2.2.2.2.1,a0.2.2.2.2.2.2.1,a0.2.2.2.2.2.2.2.1,(),a0.2.2.2.2.2.2.2.2.2.1,a0.2.2.2.2.2.2.2.2.2.2.1,a0.2.2.2.2.2.2.2.2.2.2.2,()),()),(a0.2.2.1,a0.2.2.2.2.2.2.2.2.1,()))) (fun y4 =>some ((true,()),((y4.2.1.1.1,(y4.2.1.1.2.1,y4.2.1.1.2.2.1),y4.2.2.1,y4.2.1.1.2.2.2.2.1,y4.2.1.1.2.2.2.2.2.1,y4.2.1.1.2.2.2.2.2.2.1,y4.2.1.1.2.2.2.2.2.2.2.1,y4.2.1.1.2.2.2.2.2.2.2.2.1,y4.2.2.2.1,y4.2.1.1.2.2.2.2.2.2.2.2.2.2.1,y4.2.1.1.2.2.2.2.2.2.2.2.2.2.2.1,y4.2.1.1.2.2.2.2.2.2.2.2.2.2.2.2.1),()))) (fun y4 =>some ((y4.1.1.1,()),((y4.2.1.1.1,(y4.2.1.1.2.1,y4.2.1.1.2.2.1),y4.2.2.1,y4.2.1.1.2.2.2.2.1,y4.2.1.1.2.2.2.2.2.1,y4.2.1.1.2.2.2.2.2.2.1,y4.2.1.1.2.2.2.2.2.2.2.1,y4.2.1.1.2.2.2.2.2.2.2.2.1,y4.2.2.2.1,y4.2.1.1.2.2.2.2.2.2.2.2.2.2.1,y4.2.1.1.2.2.2.2.2.2.2.2.2.2.2.1,y4.2.1.1.2.2.2.2.2.2.2.2.2.2.2.2.1),())))
theorem yGO:ConOk prog 165 ⟨ygd,ykv,fun x=>ymW x.1⟩:=zkI (yDV) func165 ntmps165.symm fun x=>by kernel_rfl
def yg0 (a0:dA):Bool×dA:=(!(yb (yq a0)),yq a0)
def yek (a0:dA):Bool:= !(yb a0)
theorem yJl (a0:dA) (hk:zjx ygd (a0,())) (hq:yek a0=true):ymW a0=(fun n=>some ((n.1,()),(n.2,()))) (yg0 a0):=by
 have hb:a0.2.2.1.length*80≤2^47:=hk.1.2.2.1.1
 have h1:ykZ (yDa a0.2.2.1.length a0)=some (bif yb (yq a0)then .inr (yjY false (yq a0))else .inl (yjW (yq a0))):=by
  have:=zkC (step:=ybi) a0.2.2.1.length (fun i s=>yfX a0.2.2.1.length i s) (fun i s=>bif yb (yI s i)then(.inr (yI s i):dA ⊕ dA)else .inl (yI s i)) (fun _ s=>s.2.2.1.length=a0.2.2.1.length∧yb s=false) id
   (fun b=>bif yb b then .inr (yjY false b)else .inl (yjW b)) (fun i s hi hs=>by
    constructor
    ·rw[yE6 hs.2]
     simp only[ybi,yfX,yj2,hs.1,zky (show(i:Int)<a0.2.2.1.length by omega),cond_true,wq ((i:Int)+1) (by omega) (by omega),Int.natCast_add,Int.natCast_one,Int.toNat_natCast,zkR hi,zkX,yL3 hs.2,yau,yg1];cases hf:(nth s.2.2.1 i yf).2.2.1
     ·cases ho:(opA s).1
      ·have e:yI s i=(opA s).2:=by unfold yI; rw[hf,ho]; rfl
       have d:yb (opA s).2=true:=by rw[yPZ hs.2,ho]; rfl
       rw[e];simp only[Bool.not_false,Bool.and_self,cond_true,cond_false,d,yau,yjY]
      ·have e:yI s i=ycX (opA s).2 i (yr (nth s.2.2.1 i yf)):=by unfold yI; rw[hf,ho]; rfl
       rw[e];simp only[Bool.not_true,Bool.not_false,Bool.and_false,cond_true,cond_false,yfX,ycX,yau,Int.toNat_natCast]
     ·have e:yI s i=s:=by unfold yI; rw[hf]; rfl
      rw[e]; rfl
    ·intro s' h
     cases hd:yb (yI s i)
     ·rw[hd]at h
      cases h;exact⟨(yjK s i).trans hs.1,hd⟩
     ·rw[hd]at h; cases h) (fun s hs=>by simp only[ybi,yfX,yj2,hs.2,zk3 (Int.le_refl _),cond_false,id,yjW]) a0 ⟨rfl,by simpa [yek]using hq⟩ 18446744073709551616 (by omega)
  rw[yyF (fun a i h=>yzl i h),← List.range_eq_range']at this;exact this
 unfold ymW yg0;rw[h1];cases hd:yb (yq a0)<;>rfl
def yej (a0:dA):Option (zaY ykv×zak ygd):=bif yek a0 then(fun n=>some ((n.1,()),(n.2,()))) (yg0 a0)else none
theorem yoF (a0:dA) (h:yek a0=true):yej a0=(fun n=>some ((n.1,()),(n.2,()))) (yg0 a0):=by unfold yej; rw[h]; rfl
def yhF:Con:=⟨ygd,ykv,fun x=>yej x.1⟩
theorem yoE:ConOk prog 165 yhF:=(yGO).mono (fun x r hk h=>zkY h (fun hq=>yJl x.1 hk hq))
def yhp:Code:=(f97.body).getD .skip
def ymn:Env:=zkw TT [(88,yzW),(139,ygX),(164,yzV),(165,yhF)] []
theorem yCi:FrOk prog ⟨ymn,26,fun _=>none⟩ yhp:=zkA mixed yc ⟨yPG,ymT,yPF,yoE,trivial⟩
def yro:Nat→Option Seg:=fun _=>none
def yaA:Shape:=⟨[(0,false,[.ptr 1000000000 0]),(3,false,[.ptr 0 0]),(10,false,[.int .i64]),(11,false,[.int .i64])],[(0,[.int .i64,.int .i64,.br tI]),(1000000000,[.int .i64,.int .i64,.int .i64,.at 800000000,.int .i64,.int .i64,.int .i64,.int .i64,.int .i64,.at 800000001,.int .i64,.bool,.bool])],[(800000000,tM,(.pr (.ow (.ow .fz)) (.pr (.ow (.pr .fz (.ow .fz))) (.pr .fz (.ow .fz))))),(800000001,tW,(.pr .fz (.ow .fz)))]⟩
def ycR:Shape:=⟨[(0,false,[.ptr 1000000000 0]),(3,false,[.ptr 0 0]),(10,false,[.int .i64]),(11,false,[.ci .i64 0])],[(0,[.int .i64,.int .i64,.br tI]),(1000000000,[.int .i64,.int .i64,.int .i64,.at 800000000,.int .i64,.int .i64,.int .i64,.int .i64,.int .i64,.at 800000001,.int .i64,.bool,.bool])],[(800000000,tM,(.pr (.ow (.ow .fz)) (.pr (.ow (.pr .fz (.ow .fz))) (.pr .fz (.ow .fz))))),(800000001,tW,(.pr .fz (.ow .fz)))]⟩
def ycP:Shape:=⟨[(0,false,[.ptr 1000000000 0])],[(1000000000,[.int .i64,.int .i64,.int .i64,.at 800000000,.int .i64,.int .i64,.int .i64,.int .i64,.int .i64,.at 800000001,.int .i64,.bool,.bool])],[(800000000,tM,(.pr (.ow (.ow .fz)) (.pr (.ow (.pr .fz (.ow .fz))) (.pr .fz (.ow .fz))))),(800000001,tW,(.pr .fz (.ow .fz)))]⟩
def ycT:Shape:=⟨[(4,false,[.bool])],[(1000000000,[.int .i64,.int .i64,.int .i64,.at 800000000,.int .i64,.int .i64,.int .i64,.int .i64,.int .i64,.at 800000001,.int .i64,.bool,.bool])],[(800000000,tM,(.pr (.ow (.ow .fz)) (.pr (.ow (.pr .fz (.ow .fz))) (.pr .fz (.ow .fz))))),(800000001,tW,(.pr .fz (.ow .fz)))]⟩
abbrev yib (v0 v1:Int) (v2:dN) (v3:dA):(yaA).X:=((((),()),((),()),(v0,()),(v1,()),()),((v2.1,v2.2.1,v2.2.2,()),(v3.1,v3.2.1.1,v3.2.1.2,(),v3.2.2.2.1,v3.2.2.2.2.1,v3.2.2.2.2.2.1,v3.2.2.2.2.2.2.1,v3.2.2.2.2.2.2.2.1,(),v3.2.2.2.2.2.2.2.2.2.1,v3.2.2.2.2.2.2.2.2.2.2.1,v3.2.2.2.2.2.2.2.2.2.2.2,()),()),(v3.2.2.1,v3.2.2.2.2.2.2.2.2.1,()))
abbrev yBL (v0:Int) (v1:dN) (v2:dA):(ycR).X:=((((),()),((),()),(v0,()),((),()),()),((v1.1,v1.2.1,v1.2.2,()),(v2.1,v2.2.1.1,v2.2.1.2,(),v2.2.2.2.1,v2.2.2.2.2.1,v2.2.2.2.2.2.1,v2.2.2.2.2.2.2.1,v2.2.2.2.2.2.2.2.1,(),v2.2.2.2.2.2.2.2.2.2.1,v2.2.2.2.2.2.2.2.2.2.2.1,v2.2.2.2.2.2.2.2.2.2.2.2,()),()),(v2.2.2.1,v2.2.2.2.2.2.2.2.2.1,()))
abbrev yid (v0:dA):(ycP).X:=((((),()),()),((v0.1,v0.2.1.1,v0.2.1.2,(),v0.2.2.2.1,v0.2.2.2.2.1,v0.2.2.2.2.2.1,v0.2.2.2.2.2.2.1,v0.2.2.2.2.2.2.2.1,(),v0.2.2.2.2.2.2.2.2.2.1,v0.2.2.2.2.2.2.2.2.2.2.1,v0.2.2.2.2.2.2.2.2.2.2.2,()),()),(v0.2.2.1,v0.2.2.2.2.2.2.2.2.1,()))
abbrev yif (v0:Bool) (v1:dA):(ycT).X:=(((v0,()),()),((v1.1,v1.2.1.1,v1.2.1.2,(),v1.2.2.2.1,v1.2.2.2.2.1,v1.2.2.2.2.2.1,v1.2.2.2.2.2.2.1,v1.2.2.2.2.2.2.2.1,(),v1.2.2.2.2.2.2.2.2.2.1,v1.2.2.2.2.2.2.2.2.2.2.1,v1.2.2.2.2.2.2.2.2.2.2.2,()),()),(v1.2.2.1,v1.2.2.2.2.2.2.2.2.1,()))
def yiD (v0 v1 v2 v3:Int) (v4:List Int) (v5 v6 v7 v8 v9 v10 v11 v12 v13:Int) (v14 v15:Bool) (v16:List dM) (v17:List dW):Option ((yaA).X ⊕ ((ycP).X ⊕ (ycT).X)) :=bif(ltb v1 v0)then let r4:=ynY v2;let r5:=yju (v2,v3,v4);bnd (ydF (v5,(v6,v7),v16,v8,v9,v10,v11,v12,v17,v13,v14,v15) v1 r4 r5) fun r6 =>bif(!r6.1.1)then some (.inr (.inr (((false,()),()),((r6.2.1.1,r6.2.1.2.1.1,r6.2.1.2.1.2,(),r6.2.1.2.2.2.1,r6.2.1.2.2.2.2.1,r6.2.1.2.2.2.2.2.1,r6.2.1.2.2.2.2.2.2.1,r6.2.1.2.2.2.2.2.2.2.1,(),r6.2.1.2.2.2.2.2.2.2.2.2.1,r6.2.1.2.2.2.2.2.2.2.2.2.2.1,r6.2.1.2.2.2.2.2.2.2.2.2.2.2,()),()),(r6.2.1.2.2.1,r6.2.1.2.2.2.2.2.2.2.2.1,())))) else some (.inl ((((),()),((),()),(v0,()),((i64.wrap (v1+1)),()),()),((v2,v3,v4,()),(r6.2.1.1,r6.2.1.2.1.1,r6.2.1.2.1.2,(),r6.2.1.2.2.2.1,r6.2.1.2.2.2.2.1,r6.2.1.2.2.2.2.2.1,r6.2.1.2.2.2.2.2.2.1,r6.2.1.2.2.2.2.2.2.2.1,(),r6.2.1.2.2.2.2.2.2.2.2.2.1,r6.2.1.2.2.2.2.2.2.2.2.2.2.1,r6.2.1.2.2.2.2.2.2.2.2.2.2.2,()),()),(r6.2.1.2.2.1,r6.2.1.2.2.2.2.2.2.2.2.1,()))) else some (.inr (.inl ((((),()),()),((v5,v6,v7,(),v8,v9,v10,v11,v12,(),v13,v14,v15,()),()),(v16,v17,()))))
def yaI (x:(yaA).X):=yiD x.1.2.2.1.1 x.1.2.2.2.1.1 x.2.1.1.1 x.2.1.1.2.1 x.2.1.1.2.2.1 x.2.1.2.1.1 x.2.1.2.1.2.1 x.2.1.2.1.2.2.1 x.2.1.2.1.2.2.2.2.1 x.2.1.2.1.2.2.2.2.2.1 x.2.1.2.1.2.2.2.2.2.2.1 x.2.1.2.1.2.2.2.2.2.2.2.1 x.2.1.2.1.2.2.2.2.2.2.2.2.1 x.2.1.2.1.2.2.2.2.2.2.2.2.2.2.1 x.2.1.2.1.2.2.2.2.2.2.2.2.2.2.2.1 x.2.1.2.1.2.2.2.2.2.2.2.2.2.2.2.2.1 x.2.2.1 x.2.2.2.1
def ypc (x:(ycR).X):(yaA).X:=((((),()),((),()),(x.1.2.2.1.1,()),(0,()),()),((x.2.1.1.1,x.2.1.1.2.1,x.2.1.1.2.2.1,()),(x.2.1.2.1.1,x.2.1.2.1.2.1,x.2.1.2.1.2.2.1,(),x.2.1.2.1.2.2.2.2.1,x.2.1.2.1.2.2.2.2.2.1,x.2.1.2.1.2.2.2.2.2.2.1,x.2.1.2.1.2.2.2.2.2.2.2.1,x.2.1.2.1.2.2.2.2.2.2.2.2.1,(),x.2.1.2.1.2.2.2.2.2.2.2.2.2.2.1,x.2.1.2.1.2.2.2.2.2.2.2.2.2.2.2.1,x.2.1.2.1.2.2.2.2.2.2.2.2.2.2.2.2.1,()),()),(x.2.2.1,x.2.2.2.1,()))
def yqq:Code:=(zd7 yhp 64 52).getD .skip
theorem yCd:zd7 yhp 64 13=some (.block 0 (.loop yqq)):=by kernel_rfl
theorem yCF (x:(yaA).X):zhu ⟨ymn,26,yro⟩ 0 yqq 52 yaA ycP ycT x=yaI x:=by kernel_rfl
def ype (x:(ycR).X):Nat:=18446744073709551616
def yiM (x:(ycR).X):Option ((ycP).X ⊕ (ycT).X):=zF yaI (ype x) (ypc x)
def ypi:Seg:=⟨ycR,ycP,ycT,yiM⟩
def yCV:Nat→Option Seg:=fun q=>bif Nat.beq q 13 then some ypi else yro q
theorem yCj:FrOk prog ⟨ymn,26,yCV⟩ yhp:=(yCi).loop (sg:=ypi) yaA ypc (by decide) yCd yaI ype (by decide) (fun _=>rfl) (fun x r _ h=>h) yCF
abbrev yeu:List Par:= [.pt tA (.pr .fz (.pr (.pr .fz .fz) (.pr (.ow (.pr (.ow (.ow .fz)) (.pr (.ow (.pr .fz (.ow .fz))) (.pr .fz (.ow .fz))))) (.pr .fz (.pr .fz (.pr .fz (.pr .fz (.pr .fz (.pr (.ow (.pr .fz (.ow .fz))) (.pr .fz (.pr .fz .fz))))))))))),.rd tN]
abbrev yhv:List OT:= [⟨false,tB,.fz⟩]
def yjZ (a0:dA) (a1:dN):Option (zaY yhv×zak yeu) :=zkt (yiM ((((),()),((),()),((a0.2.2.1.length:Int),()),((),()),()),((a1.1,a1.2.1,a1.2.2,()),(a0.1,a0.2.1.1,a0.2.1.2,(),a0.2.2.2.1,a0.2.2.2.2.1,a0.2.2.2.2.2.1,a0.2.2.2.2.2.2.1,a0.2.2.2.2.2.2.2.1,(),a0.2.2.2.2.2.2.2.2.2.1,a0.2.2.2.2.2.2.2.2.2.2.1,a0.2.2.2.2.2.2.2.2.2.2.2,()),()),(a0.2.2.1,a0.2.2.2.2.2.2.2.2.1,()))) (fun y6 =>bnd (yej (y6.2.1.1.1,(y6.2.1.1.2.1,y6.2.1.1.2.2.1),y6.2.2.1,y6.2.1.1.2.2.2.2.1,y6.2.1.1.2.2.2.2.2.1,y6.2.1.1.2.2.2.2.2.2.1,y6.2.1.1.2.2.2.2.2.2.2.1,y6.2.1.1.2.2.2.2.2.2.2.2.1,y6.2.2.2.1,y6.2.1.1.2.2.2.2.2.2.2.2.2.2.1,y6.2.1.1.2.2.2.2.2.2.2.2.2.2.2.1,y6.2.1.1.2.2.2.2.2.2.2.2.2.2.2.2.1)) fun r8 =>some ((r8.1.1,()),(r8.2.1,()))) (fun y6 =>some ((y6.1.1.1,()),((y6.2.1.1.1,(y6.2.1.1.2.1,y6.2.1.1.2.2.1),y6.2.2.1,y6.2.1.1.2.2.2.2.1,y6.2.1.1.2.2.2.2.2.1,y6.2.1.1.2.2.2.2.2.2.1,y6.2.1.1.2.2.2.2.2.2.2.1,y6.2.1.1.2.2.2.2.2.2.2.2.1,y6.2.2.2.1,y6.2.1.1.2.2.2.2.2.2.2.2.2.2.1,y6.2.1.1.2.2.2.2.2.2.2.2.2.2.2.1,y6.2.1.1.2.2.2.2.2.2.2.2.2.2.2.2.1),())))
theorem yDi:ConOk prog 97 ⟨yeu,yhv,fun x=>yjZ x.1 x.2.1⟩:=zkI (yCj) func97 ntmps97.symm fun x=>by kernel_rfl
def yeS (a0:dA) (a1:dN):Bool×dA:=(!(yb (yJ a0 a1)),yJ a0 a1)
def yeU (a0:dA) (a1:dN):Bool:= !(yb a0)
theorem yED (a0:dA) (a1:dN) (hk:zjx yeu (a0,a1,())) (hq:yeU a0 a1=true):yjZ a0 a1=(fun n=>some ((n.1,()),(n.2,()))) (yeS a0 a1):=by
 have hb:a0.2.2.1.length*80≤2^47:=hk.1.2.2.1.1;have hd0:yb a0=false:=by simpa [yeU]using hq
 have h1:yiM (yBL a0.2.2.1.length a1 a0)=some (bif yb ((List.range a0.2.2.1.length).foldl (ybd a1) a0)then .inr (yif false ((List.range a0.2.2.1.length).foldl (ybd a1) a0))else .inl (yid ((List.range a0.2.2.1.length).foldl (ybd a1) a0))):=by
  have:=zkC (step:=yaI) a0.2.2.1.length (fun i s=>yib a0.2.2.1.length i a1 s) (fun i s=>bif yb (ybd a1 s i)then(.inr (ybd a1 s i):dA ⊕ dA)else .inl (ybd a1 s i)) (fun _ s=>s.2.2.1.length=a0.2.2.1.length∧yb s=false) id
   (fun b=>bif yb b then .inr (yif false b)else .inl (yid b)) (fun i s hi hs=>by
    constructor
    ·simp only[yaI,yib,yiD,zky (show(i:Int)<a0.2.2.1.length by omega),cond_true,wq ((i:Int)+1) (by omega) (by omega),Int.natCast_add,Int.natCast_one,Int.toNat_natCast,zkX,ySI,yju]
     rw[ymU s i (yN a1.1) (yjF a1) (by unfold ycf; rw[zkR (by rw[hs.1]; exact hi),hs.2]; rfl)];simp only[zkH,ycc];rw[show yce s i (yN a1.1) (yjF a1)=ybd a1 s i from rfl];cases hd:yb (ybd a1 s i)
     ·rfl
     ·simp only[hd,Bool.not_true,Bool.not_false,cond_true,yif]
    ·intro s' h
     cases hd:yb (ybd a1 s i)
     ·rw[hd]at h
      cases h;exact⟨(yml a1 s i).trans hs.1,hd⟩
     ·rw[hd]at h; cases h) (fun s hs=>by simp only[yaI,yib,yiD,hs.2,zk3 (Int.le_refl _),cond_false,id,yid]) a0 ⟨rfl,hd0⟩ 18446744073709551616 (by omega)
  rw[yyF (fun a i h=>yHt a1 i h),← List.range_eq_range']at this;exact this
 unfold yjZ yeS yJ;refine(congrArg (fun z=>zkt z _ _) h1).trans ?_;cases hd:yb ((List.range a0.2.2.1.length).foldl (ybd a1) a0)
 ·simp only[cond_false,zkN,zkX]
  rw[yoF _ (by unfold yek; rw[hd]; rfl)]; rfl
 ·rw[yAP hd]
  simp only[cond_true,zkO,zkX];rw[hd]; rfl
def yc3 (a0:dA) (a1:dN):Option (zaY yhv×zak yeu):=bif yeU a0 a1 then(fun n=>some ((n.1,()),(n.2,()))) (yeS a0 a1)else none
theorem yEU (a0:dA) (a1:dN) (h:yeU a0 a1=true):yc3 a0 a1=(fun n=>some ((n.1,()),(n.2,()))) (yeS a0 a1):=by unfold yc3; rw[h]; rfl
def yrt:Con:=⟨yeu,yhv,fun x=>yc3 x.1 x.2.1⟩
theorem yEN:ConOk prog 97 yrt:=(yDi).mono (fun x r hk h=>zkY h (fun hq=>yED x.1 x.2.1 hk hq))
def yKv:Code:=(f167.body).getD .skip
def yKT:Env:=zkw TT [(109,yav)] []
theorem yDY:FrOk prog ⟨yKT,17,fun _=>none⟩ yKv:=zkA mixed yc ⟨yby,trivial⟩
abbrev ykg:List Par:= [.rd tG,.rd tI]
abbrev yp7:List OT:= [⟨false,tI,.fz⟩]
def ymY (a0:dG) (a1:Int):Option (zaY yp7×zak ykg) :=let r1:=yL a0 a1;bif(!r1)then some (((-1),()),()) else bif(a0.1 !=0)then some (((i64.wrap ((i64.wrap (a0.1-1))-(a1.tmod a0.1))),()),()) else none
theorem yGQ:ConOk prog 167 ⟨ykg,yp7,fun x=>ymY x.1 x.2.1⟩:=zkI (yDY) func167 ntmps167.symm fun x=>by kernel_rfl
def ycV (a0:dG) (a1:Int):Int:=yg a0 a1
theorem yJn (a0:dG) (a1:Int) (hk:zjx ykg (a0,a1,())):ymY a0 a1=(fun n=>some ((n,()),())) (ycV a0 a1):=by
 unfold ymY ycV;rw[yns];cases hs:yO a0 a1
 ·unfold yg; rw[hs]; rfl
 ·have h1:=yah.1 hs
  have h2:=yl.1 h1.1;have h3:=yiI hs;have h4:yg a0 a1=a0.1-1-a1.tmod a0.1:=by unfold yg; rw[hs]; rfl
  rw[show(a0.1 !=0)=true from bne_iff_ne.2 (by omega),wq (a0.1-1) (by omega) (by omega),wq (a0.1-1-a1.tmod a0.1) (by omega) (by omega),h4]; rfl
def ymF:Con:=⟨ykg,yp7,fun x=>(fun n=>some ((n,()),())) (ycV x.1 x.2.1)⟩
theorem yyP:ConOk prog 167 ymF:=(yGQ).mono (fun x r hk h=>(yJn x.1 x.2.1 hk).trans h)
def yQC:Code:=(f142.body).getD .skip
def yQ5:Env:=zkw TT [(81,yE),(109,yav),(167,ymF)] []
theorem yH2:FrOk prog ⟨yQ5,28,fun _=>none⟩ yQC:=zkA mixed yc ⟨yS,yby,yyP,trivial⟩
abbrev ynH:List Par:= [.rd tG,.rd tI,.rd tI]
abbrev yuO:List OT:= [⟨false,tI,.fz⟩]
def yq1 (a0:dG) (a1 a2:Int):Option (zaY yuO×zak ynH) :=let r1:=yL a0 a1;bif(!(!r1))then let r2:=ye a2 0 (i64.wrap (a0.1-2));bif(!r2)then some (((-1),()),()) else let r3:=ycV a0 a1;bif(a0.1 !=0)then some ((((i64.wrap ((i64.wrap (r3+1))+a2)).tmod a0.1),()),()) else none else some (((-1),()),())
theorem yME:ConOk prog 142 ⟨ynH,yuO,fun x=>yq1 x.1 x.2.1 x.2.2.1⟩:=zkI (yH2) func142 ntmps142.symm fun x=>by kernel_rfl
def yeq (a0:dG) (a1 a2:Int):Int:=yba a0 a1 a2
theorem yOL (a0:dG) (a1 a2:Int) (hk:zjx ynH (a0,a1,a2,())):yq1 a0 a1 a2=(fun n=>some ((n,()),())) (yeq a0 a1 a2):=by
 unfold yq1 yeq yba ycV;rw[yns];cases hs:yO a0 a1
 ·rfl
 ·have h1:=yah.1 hs
  have h2:=yl.1 h1.1;have h3:=yiI hs;rw[yW,ybA,wq (a0.1-2) (by omega) (by omega)];cases hi:(leb 0 a2&&leb a2 (a0.1-2))
  ·rfl
  ·rw[Bool.and_eq_true,zj7,zj7]at hi
   rw[show(a0.1 !=0)=true from bne_iff_ne.2 (by omega)];show some (((i64.wrap (i64.wrap (yg a0 a1+1)+a2)).tmod a0.1,()),())=some (((yg a0 a1+1+a2).tmod a0.1,()),());rw[wq (yg a0 a1+1) (by omega) (by omega),wq (yg a0 a1+1+a2) (by omega) (by omega)]
def yqt:Con:=⟨ynH,yuO,fun x=>(fun n=>some ((n,()),())) (yeq x.1 x.2.1 x.2.2.1)⟩
theorem yBO:ConOk prog 142 yqt:=(yME).mono (fun x r hk h=>(yOL x.1 x.2.1 x.2.2.1 hk).trans h)
end
end Go.Tf
