/- Functions of the program, and what they come to. -/
import Derived.Test.YtgmadfpnljibhaaGreatStripesF7
namespace Go.Tf
noncomputable section
open Go.Proofs
set_option synthInstance.maxHeartbeats 400000
set_option synthInstance.maxSize 10000
set_option linter.unusedVariables false
set_option linter.unusedSimpArgs false
set_option maxRecDepth 100000
section
def yDf:Code:=(Tryz.f264.body).getD .skip
def yDM:Env:=zki TT [(135,yx),(152,yfv),(224,ygK),(269,ywW),(287,yxS)] [(16832,(.pr .fz .fz))]
theorem yKv:FrOk Tryz.prog ⟨yDM,55,fun _=>none⟩ yDf:=zkp yb yd ⟨yD,ylD,yno,yIx,yNA,trivial⟩
def yLS:Nat→Option Seg:=fun _=>none
abbrev yfp:List Par:= [.rd tM,.rd tI,.rd tL]
abbrev yol:List OT:= [⟨false,tM,(.pr (.ow .fz) (.pr (.ow (.pr .fz .fz)) (.pr .fz (.ow .fz))))⟩,⟨false,tB,.fz⟩]
def ykm (a0:dM) (a1:Int) (a2:List Int):Option (ResD yol×MutD yfp) :=
 let r1:=yX a0
 let r2:=yap a0
 bif (!(!r2)) then
 bif (!a0.2.2.1) then
 let r3:=ya a1 0 (IntKind.i64.wrap ((a0.1.length:Int) - 1))
 bif (!(!r3)) then
 let r4:=yhz a2
 bif (!(!r4)) then
 bif (leb 60 (a0.2.1.length:Int)) then
 some ((r1,false,()),())
 else
 bif (zj4 ([]:List Int).length a2.length 8) then
 bif (zj4 r1.2.1.length ([(a1,(([]:List Int)++a2))]:List dW).length 32) then
 let r5:=yhB a0.2.2.2 a1
 some (((r1.1,(r1.2.1++([(a1,(([]:List Int)++a2))]:List dW)),r1.2.2.1,r5),true,()),())
 else none
 else none
 else
 some ((r1,false,()),())
 else
 some ((r1,false,()),())
 else
 some ((r1,false,()),())
 else
 some ((r1,false,()),())
theorem ySk (x:InD yfp):zjH ⟨yDM,55,yLS⟩ Tryz.f264.results.toList yDf yfp yol x=ykm x.1 x.2.1 x.2.2.1:=by kernel_rfl
theorem yNt:ConOk Tryz.prog 264 ⟨yfp,yol,fun x=>ykm x.1 x.2.1 x.2.2.1⟩:=zkh (yKv) Tryz.func264 (by kernel_rfl) (by kernel_rfl) Tryz.ntmps264.symm (by decide) (fun x r h=>(ySk x).trans h)
def yjl (a0:dM) (a1:Int) (a2:List Int):dM×Bool:=yG a0 a1 a2
theorem yQm (a0:dM) (a1:Int) (a2:List Int) (hk:zi9 yfp (a0,a1,a2,())):ykm a0 a1 a2=(fun n=>some ((n.1,n.2,()),())) (yjl a0 a1 a2):=by
 have hb1:a0.1.length * 24≤2 ^ 47:=hk.1.1.1
 have hb2:a2.length * 8≤2 ^ 47:=hk.2.2.1.1
 unfold ykm yjl yG yaC
 simp only [yX,yap,ypD (show a0.1.length≤1152921504606846976 by omega),yE6,yhB,List.nil_append]
 cases yl a0
 ·rfl
 cases a0.2.2.1
 ·cases inb a1 a0.1.length
  ·rfl
  cases yab a2
  ·rfl
  by_cases h:(a0.2.1.length:Int) < 60
  ·rw [zjI h,zkZ h,zkw.2 (show (([]:List Int).length+a2.length) * 8≤140737488355328 by rw [List.length_nil]; omega),zkw.2 (show (a0.2.1.length+ [(a1,a2)].length) * 32≤140737488355328 by simp only [List.length_cons,List.length_nil]; omega)]; rfl
  ·rw [zkm (by omega),zk0 (by omega)]; rfl
 ·rfl
def yzW:Con:=⟨yfp,yol,fun x=>(fun n=>some ((n.1,n.2,()),())) (yjl x.1 x.2.1 x.2.2.1)⟩
theorem yQX:ConOk Tryz.prog 264 yzW:=(yNt).mono (fun x r hk h=>(yQm x.1 x.2.1 x.2.2.1 hk).trans h)
end
section
def yJx:Code:=(Tryz.f207.body).getD .skip
def yJL:Env:=zki TT [(263,yyS),(264,yzW)] []
theorem ySV:FrOk Tryz.prog ⟨yJL,43,fun _=>none⟩ yJx:=zkp yb yd ⟨yLf,yQX,trivial⟩
def yU7:Nat→Option Seg:=fun _=>none
abbrev ygZ:List Par:= [.pt tA (.pr .fz (.pr (.pr .fz .fz) (.pr (.ow (.pr (.ow .fz) (.pr (.ow (.pr .fz .fz)) (.pr .fz (.ow .fz))))) (.pr .fz (.pr .fz (.pr .fz (.pr .fz (.pr .fz (.pr (.ow (.pr .fz .fz)) (.pr .fz (.pr .fz .fz))))))))))),.rd tI,.rd tI,.rd tL]
abbrev ypt:List OT:= []
def yq1 (a0:dA) (a1 a2:Int) (a3:List Int):Option (ResD ypt×MutD ygZ) :=
 bif (inb a1 a0.2.2.1.length) then
 bif (!((((nth a0.2.2.1 a1 ([],[],false,[])).2).2).1)) then
 let r1:=yr1 a0
 bif (!r1.1) then
 some ((),(r1.2,()))
 else
 bif (inb a1 r1.2.2.2.1.length) then
 let r2:=yjl ((nth r1.2.2.2.1 a1 ([],[],false,[])).1,((nth r1.2.2.2.1 a1 ([],[],false,[])).2).1,(((nth r1.2.2.2.1 a1 ([],[],false,[])).2).2)) a2 a3
 bif (inb a1 r1.2.2.2.1.length) then
 some ((),((r1.2.1,r1.2.2.1,(r1.2.2.2.1.set (a1).toNat r2.1),r1.2.2.2.2),()))
 else none
 else none
 else
 some ((),(a0,()))
 else none
theorem yZG (x:InD ygZ):zjH ⟨yJL,43,yU7⟩ Tryz.f207.results.toList yJx ygZ ypt x=yq1 x.1 x.2.1 x.2.2.1 x.2.2.2.1:=by kernel_rfl
theorem yWC:ConOk Tryz.prog 207 ⟨ygZ,ypt,fun x=>yq1 x.1 x.2.1 x.2.2.1 x.2.2.2.1⟩:=zkh (ySV) Tryz.func207 (by kernel_rfl) (by kernel_rfl) Tryz.ntmps207.symm (by decide) (fun x r h=>(yZG x).trans h)
def ypU (a0:dA) (a1 a2:Int) (a3:List Int):dA:=ybo a0 a1 a2 a3
def yCF (a0:dA) (a1 a2:Int) (a3:List Int):Bool:=inb a1 a0.2.2.1.length
theorem yYL (a0:dA) (a1 a2:Int) (a3:List Int) (hk:zi9 ygZ (a0,a1,a2,a3,())) (hq:yCF a0 a1 a2 a3=true):yq1 a0 a1 a2 a3=(fun n=>some ((),(n,()))) (ypU a0 a1 a2 a3):=by
 have hq:inb a1 a0.2.2.1.length=true:=hq
 unfold yq1 ypU ybo setMem
 simp only [yUT,yU,hq,zkV,yjl]
 cases (nth a0.2.2.1 a1 noMem).2.2.1<;>cases (yY a0).1<;>rfl
def yfa (a0:dA) (a1 a2:Int) (a3:List Int):Option (ResD ypt×MutD ygZ):=bif yCF a0 a1 a2 a3 then (fun n=>some ((),(n,()))) (ypU a0 a1 a2 a3) else none
theorem ynp (a0:dA) (a1 a2:Int) (a3:List Int) (h:yCF a0 a1 a2 a3=true):yfa a0 a1 a2 a3=(fun n=>some ((),(n,()))) (ypU a0 a1 a2 a3):=by unfold yfa; rw [h]; rfl
def yld:Con:=⟨ygZ,ypt,fun x=>yfa x.1 x.2.1 x.2.2.1 x.2.2.2.1⟩
theorem ysS:ConOk Tryz.prog 207 yld:=(yWC).mono (fun x r hk h=>zkW h (fun hq=>yYL x.1 x.2.1 x.2.2.1 x.2.2.2.1 hk hq))
end
section
def yig:Code:=(Tryz.f286.body).getD .skip
def yn4:Env:=zki TT [(152,yfv),(224,ygK)] [(32768,(.pr .fz .fz))]
theorem yKo:FrOk Tryz.prog ⟨yn4,40,fun _=>none⟩ yig:=zkp yb yd ⟨ylD,yno,trivial⟩
def yzr:Nat→Option Seg:=fun _=>none
def ybd:Shape:=⟨[(2,false,[.ptr 64 0]),(3,false,[.ptr 4224 0]),(4,false,[.int .i64])],[(64,[.nil,.nil,.bool,.nil]),(4224,[.at 800000000,.at 800000001,.bool,.at 800000002])],[(800000000,tL,.fz),(800000001,tW,(.pr .fz .fz)),(800000002,tI,.fz)]⟩
def ye0:Shape:=⟨[(2,false,[.ptr 64 0]),(3,false,[.ptr 4224 0]),(4,false,[.ci .i64 0])],[(64,[.nil,.nil,.bool,.nil]),(4224,[.at 800000000,.at 800000001,.bool,.at 800000002])],[(800000000,tL,.fz),(800000001,tW,(.pr .fz .fz)),(800000002,tI,.fz)]⟩
def yeU:Shape:=⟨[(2,false,[.ptr 64 0]),(3,false,[.ptr 4224 0])],[(64,[.nil,.nil,.bool,.nil]),(4224,[.at 800000000,.at 800000001,.bool,.at 800000002])],[(800000000,tL,.fz),(800000001,tW,(.pr .fz .fz)),(800000002,tI,.fz)]⟩
def yja:Shape:=⟨[],[],[]⟩
abbrev ynH (v0:Int) (v1 v2:dM):(ybd).X:=((((),()),((),()),(v0,()),()),(((),(),v1.2.2.1,(),()),((),(),v2.2.2.1,(),()),()),(v2.1,v2.2.1,v2.2.2.2,()))
abbrev yI3 (v0 v1:dM):(ye0).X:=((((),()),((),()),((),()),()),(((),(),v0.2.2.1,(),()),((),(),v1.2.2.1,(),()),()),(v1.1,v1.2.1,v1.2.2.2,()))
abbrev ywE (v0 v1:dM):(yeU).X:=((((),()),((),()),()),(((),(),v0.2.2.1,(),()),((),(),v1.2.2.1,(),()),()),(v1.1,v1.2.1,v1.2.2.2,()))
def ynV (v0:Int) (v1 v2:Bool) (v3:List (List Int)) (v4:List dW) (v5:List Int):Option ((ybd).X ⊕ ((yeU).X ⊕ (yja).X)) :=
 bif (ltb v0 (v4.length:Int)) then
 bif (inb v0 v4.length) then
 bif (inb v0 v4.length) then
 bif (inb ((nth v4 v0 (0,[])).1) v3.length) then
 let r4:=(v3.set ((nth v4 v0 (0,[])).1).toNat ((nth v4 v0 (0,[])).2))
 some (.inl ((((),()),((),()),((IntKind.i64.wrap (v0+1)),()),()),(((),(),v1,(),()),((),(),v2,(),()),()),(r4,v4,v5,())))
 else none
 else none
 else none
 else
 some (.inr (.inl ((((),()),((),()),()),(((),(),v1,(),()),((),(),v2,(),()),()),(v3,v4,v5,()))))
def ybv (x:(ybd).X):=ynV x.1.2.2.1.1 x.2.1.1.2.2.1 x.2.1.2.1.2.2.1 x.2.2.1 x.2.2.2.1 x.2.2.2.2.1
def ywu (x:(ye0).X):(ybd).X:=((((),()),((),()),(0,()),()),(((),(),x.2.1.1.2.2.1,(),()),((),(),x.2.1.2.1.2.2.1,(),()),()),(x.2.2.1,x.2.2.2.1,x.2.2.2.2.1,()))
def yxP:Code:=(zdI yig 64 244).getD .skip
theorem yJT:zdI yig 64 61=some (.block 0 (.loop yxP)):=by kernel_rfl
theorem yLq (x:(ybd).X):zg7 ⟨yn4,40,yzr⟩ 0 yxP 244 ybd yeU yja x=ybv x:=by kernel_rfl
def ywB (x:(ye0).X):Nat:=18446744073709551616
def ypk (x:(ye0).X):Option ((yeU).X ⊕ (yja).X):=zr ybv (ywB x) (ywu x)
def ywL:Seg:=⟨ye0,yeU,yja,ypk⟩
def yzs:Nat→Option Seg:=fun q=>bif Nat.beq q 61 then some ywL else yzr q
theorem yKp:FrOk Tryz.prog ⟨yn4,40,yzs⟩ yig:=(yKo).loop (sg:=ywL) ybd ywu (by decide) yJT ybv ywB (by decide) (fun _=>rfl) (fun x r _ h=>h) yLq
abbrev yfl:List Par:= [.rd tM]
abbrev yog:List OT:= [⟨false,tM,(.pr (.ow .fz) (.pr (.ow (.pr .fz .fz)) (.pr .fz (.ow .fz))))⟩]
def yki (a0:dM):Option (ResD yog×MutD yfl) :=
 let r1:=yX a0
 let r2:=yap a0
 bif (!(!r2)) then
 bif a0.2.2.1 then
 some ((r1,()),())
 else
 zjw (ypk ((((),()),((),()),((),()),()),(((),(),false,(),()),((),(),r1.2.2.1,(),()),()),(r1.1,r1.2.1,r1.2.2.2,()))) (fun y4 =>
 some (((y4.2.2.1,([]:List dW),y4.2.1.2.1.2.2.1,y4.2.2.2.2.1),()),())) (fun y4 =>
 none)
 else
 some ((r1,()),())
theorem ySf (x:InD yfl):zjH ⟨yn4,40,yzs⟩ Tryz.f286.results.toList yig yfl yog x=yki x.1:=by kernel_rfl
theorem yNo:ConOk Tryz.prog 286 ⟨yfl,yog,fun x=>yki x.1⟩:=zkh (yKp) Tryz.func286 (by kernel_rfl) (by kernel_rfl) Tryz.ntmps286.symm (by decide) (fun x r h=>(ySf x).trans h)
def yjj (a0:dM):dM:=yq a0
theorem yQh (a0:dM) (hk:zi9 yfl (a0,())):yki a0=(fun n=>some ((n,()),())) (yjj a0):=by
 have hb2:a0.2.1.length * 32≤2 ^ 47:=hk.1.2.1.1
 unfold yki yjj yq
 simp only [yX,yap]
 cases hm:yl a0
 ·rfl
 have h1:ypk (yI3 noMem a0)=some (.inl (ywE noMem (yez (fun _=>true) a0.2.1 a0.1,a0.2))) :=
  zks (step:=ybv) a0.2.1.length (fun i s=>ynH i noMem (s,a0.2)) (ybx (fun _=>true) a0.2.1) (fun i s=>s.length=a0.1.length) (fun s=> .inl (ywE noMem (s,a0.2))) (fun i s hi hs=>by
   have hw:=(yZ2 hm hi).1
   refine ⟨?_,yAJ.trans hs⟩
   simp only [ybv,ynH,ynV,zjI (show (i:Int) < a0.2.1.length by omega),cond_true,wr (show -9223372036854775808≤(i:Int)+1 by omega) (by omega),Int.natCast_add,Int.natCast_one,Int.toNat_natCast,zkO hi,hs,hw,ybx]) (fun s hs=>by simp only [ybv,ynH,ynV,zkm (Int.le_refl _),cond_false]) a0.1 rfl _ (by show _ < 18446744073709551616; omega)
 rw [h1]
 cases hf:a0.2.2.1
 ·exact congrArg (fun z=>some (((yez (fun _=>true) a0.2.1 a0.1,([]:List dW),z,a0.2.2.2),()),())) hf
 ·rfl
def yzT:Con:=⟨yfl,yog,fun x=>(fun n=>some ((n,()),())) (yjj x.1)⟩
theorem yQU:ConOk Tryz.prog 286 yzT:=(yNo).mono (fun x r hk h=>(yQh x.1 hk).trans h)
end
section
def ymJ:Code:=(Tryz.f261.body).getD .skip
def ysc:Env:=zki TT [(263,yyS),(286,yzT)] []
theorem yPv:FrOk Tryz.prog ⟨ysc,39,fun _=>none⟩ ymJ:=zkp yb yd ⟨yLf,yQU,trivial⟩
def yDD:Nat→Option Seg:=fun _=>none
def ydi:Shape:=⟨[(0,false,[.ptr 1000000000 0]),(2,false,[.int .i64])],[(1000000000,[.int .i64,.int .i64,.int .i64,.at 800000000,.int .i64,.int .i64,.int .i64,.int .i64,.int .i64,.at 800000001,.int .i64,.bool,.bool])],[(800000000,tM,(.pr (.ow .fz) (.pr (.ow (.pr .fz .fz)) (.pr .fz (.ow .fz))))),(800000001,tW,(.pr .fz .fz))]⟩
def yiQ:Shape:=⟨[(0,false,[.ptr 1000000000 0]),(2,false,[.ci .i64 0])],[(1000000000,[.int .i64,.int .i64,.int .i64,.at 800000000,.int .i64,.int .i64,.int .i64,.int .i64,.int .i64,.at 800000001,.int .i64,.bool,.bool])],[(800000000,tM,(.pr (.ow .fz) (.pr (.ow (.pr .fz .fz)) (.pr .fz (.ow .fz))))),(800000001,tW,(.pr .fz .fz))]⟩
def yiB:Shape:=⟨[],[(1000000000,[.int .i64,.int .i64,.int .i64,.at 800000000,.int .i64,.int .i64,.int .i64,.int .i64,.int .i64,.at 800000001,.int .i64,.bool,.bool])],[(800000000,tM,(.pr (.ow .fz) (.pr (.ow (.pr .fz .fz)) (.pr .fz (.ow .fz))))),(800000001,tW,(.pr .fz .fz))]⟩
def yos:Shape:=⟨[],[],[]⟩
abbrev yts (v0:Int) (v1:dA):(ydi).X:=((((),()),(v0,()),()),((v1.1,v1.2.1.1,v1.2.1.2,(),v1.2.2.2.1,v1.2.2.2.2.1,v1.2.2.2.2.2.1,v1.2.2.2.2.2.2.1,v1.2.2.2.2.2.2.2.1,(),v1.2.2.2.2.2.2.2.2.2.1,v1.2.2.2.2.2.2.2.2.2.2.1,v1.2.2.2.2.2.2.2.2.2.2.2,()),()),(v1.2.2.1,v1.2.2.2.2.2.2.2.2.1,()))
abbrev yPW (v0:dA):(yiQ).X:=((((),()),((),()),()),((v0.1,v0.2.1.1,v0.2.1.2,(),v0.2.2.2.1,v0.2.2.2.2.1,v0.2.2.2.2.2.1,v0.2.2.2.2.2.2.1,v0.2.2.2.2.2.2.2.1,(),v0.2.2.2.2.2.2.2.2.2.1,v0.2.2.2.2.2.2.2.2.2.2.1,v0.2.2.2.2.2.2.2.2.2.2.2,()),()),(v0.2.2.1,v0.2.2.2.2.2.2.2.2.1,()))
abbrev yCv (v0:dA):(yiB).X:=((),((v0.1,v0.2.1.1,v0.2.1.2,(),v0.2.2.2.1,v0.2.2.2.2.1,v0.2.2.2.2.2.1,v0.2.2.2.2.2.2.1,v0.2.2.2.2.2.2.2.1,(),v0.2.2.2.2.2.2.2.2.2.1,v0.2.2.2.2.2.2.2.2.2.2.1,v0.2.2.2.2.2.2.2.2.2.2.2,()),()),(v0.2.2.1,v0.2.2.2.2.2.2.2.2.1,()))
def ytQ (v0 v1 v2 v3 v4 v5 v6 v7 v8 v9:Int) (v10 v11:Bool) (v12:List dM) (v13:List dW):Option ((ydi).X ⊕ ((yiB).X ⊕ (yos).X)) :=
 bif (ltb v0 (v12.length:Int)) then
 bif (inb v0 v12.length) then
 bif (!((((nth v12 v0 ([],[],false,[])).2).2).1)) then
 let r3:=yr1 (v1,(v2,v3),v12,v4,v5,v6,v7,v8,v13,v9,v10,v11)
 bif r3.1 then
 bif (inb v0 r3.2.2.2.1.length) then
 let r4:=yjj ((nth r3.2.2.2.1 v0 ([],[],false,[])).1,((nth r3.2.2.2.1 v0 ([],[],false,[])).2).1,(((nth r3.2.2.2.1 v0 ([],[],false,[])).2).2))
 bif (inb v0 r3.2.2.2.1.length) then
 some (.inl ((((),()),((IntKind.i64.wrap (v0+1)),()),()),((r3.2.1,r3.2.2.1.1,r3.2.2.1.2,(),r3.2.2.2.2.1,r3.2.2.2.2.2.1,r3.2.2.2.2.2.2.1,r3.2.2.2.2.2.2.2.1,r3.2.2.2.2.2.2.2.2.1,(),r3.2.2.2.2.2.2.2.2.2.2.1,r3.2.2.2.2.2.2.2.2.2.2.2.1,r3.2.2.2.2.2.2.2.2.2.2.2.2,()),()),((r3.2.2.2.1.set (v0).toNat r4),r3.2.2.2.2.2.2.2.2.2.1,())))
 else none
 else none
 else
 some (.inl ((((),()),((IntKind.i64.wrap (v0+1)),()),()),((r3.2.1,r3.2.2.1.1,r3.2.2.1.2,(),r3.2.2.2.2.1,r3.2.2.2.2.2.1,r3.2.2.2.2.2.2.1,r3.2.2.2.2.2.2.2.1,r3.2.2.2.2.2.2.2.2.1,(),r3.2.2.2.2.2.2.2.2.2.2.1,r3.2.2.2.2.2.2.2.2.2.2.2.1,r3.2.2.2.2.2.2.2.2.2.2.2.2,()),()),(r3.2.2.2.1,r3.2.2.2.2.2.2.2.2.2.1,())))
 else
 some (.inl ((((),()),((IntKind.i64.wrap (v0+1)),()),()),((v1,v2,v3,(),v4,v5,v6,v7,v8,(),v9,v10,v11,()),()),(v12,v13,())))
 else none
 else
 some (.inr (.inl ((),((v1,v2,v3,(),v4,v5,v6,v7,v8,(),v9,v10,v11,()),()),(v12,v13,()))))
def ydQ (x:(ydi).X):=ytQ x.1.2.1.1 x.2.1.1.1 x.2.1.1.2.1 x.2.1.1.2.2.1 x.2.1.1.2.2.2.2.1 x.2.1.1.2.2.2.2.2.1 x.2.1.1.2.2.2.2.2.2.1 x.2.1.1.2.2.2.2.2.2.2.1 x.2.1.1.2.2.2.2.2.2.2.2.1 x.2.1.1.2.2.2.2.2.2.2.2.2.2.1 x.2.1.1.2.2.2.2.2.2.2.2.2.2.2.1 x.2.1.1.2.2.2.2.2.2.2.2.2.2.2.2.1 x.2.2.1 x.2.2.2.1
def yB4 (x:(yiQ).X):(ydi).X:=((((),()),(0,()),()),((x.2.1.1.1,x.2.1.1.2.1,x.2.1.1.2.2.1,(),x.2.1.1.2.2.2.2.1,x.2.1.1.2.2.2.2.2.1,x.2.1.1.2.2.2.2.2.2.1,x.2.1.1.2.2.2.2.2.2.2.1,x.2.1.1.2.2.2.2.2.2.2.2.1,(),x.2.1.1.2.2.2.2.2.2.2.2.2.2.1,x.2.1.1.2.2.2.2.2.2.2.2.2.2.2.1,x.2.1.1.2.2.2.2.2.2.2.2.2.2.2.2.1,()),()),(x.2.2.1,x.2.2.2.1,()))
def yD7:Code:=(zdI ymJ 64 12).getD .skip
theorem yRX:zdI ymJ 64 3=some (.block 0 (.loop yD7)):=by kernel_rfl
theorem yUP (x:(ydi).X):zg7 ⟨ysc,39,yDD⟩ 0 yD7 12 ydi yiB yos x=ydQ x:=by kernel_rfl
def yCk (x:(yiQ).X):Nat:=18446744073709551616
def yuK (x:(yiQ).X):Option ((yiB).X ⊕ (yos).X):=zr ydQ (yCk x) (yB4 x)
def yCX:Seg:=⟨yiQ,yiB,yos,yuK⟩
def yDE:Nat→Option Seg:=fun q=>bif Nat.beq q 3 then some yCX else yDD q
theorem yPw:FrOk Tryz.prog ⟨ysc,39,yDE⟩ ymJ:=(yPv).loop (sg:=yCX) ydi yB4 (by decide) yRX ydQ yCk (by decide) (fun _=>rfl) (fun x r _ h=>h) yUP
abbrev yh2:List Par:= [.pt tA (.pr .fz (.pr (.pr .fz .fz) (.pr (.ow (.pr (.ow .fz) (.pr (.ow (.pr .fz .fz)) (.pr .fz (.ow .fz))))) (.pr .fz (.pr .fz (.pr .fz (.pr .fz (.pr .fz (.pr (.ow (.pr .fz .fz)) (.pr .fz (.pr .fz .fz)))))))))))]
abbrev ysK:List OT:= []
def yoY (a0:dA):Option (ResD ysK×MutD yh2) :=
 zjw (yuK ((((),()),((),()),()),((a0.1,a0.2.1.1,a0.2.1.2,(),a0.2.2.2.1,a0.2.2.2.2.1,a0.2.2.2.2.2.1,a0.2.2.2.2.2.2.1,a0.2.2.2.2.2.2.2.1,(),a0.2.2.2.2.2.2.2.2.2.1,a0.2.2.2.2.2.2.2.2.2.2.1,a0.2.2.2.2.2.2.2.2.2.2.2,()),()),(a0.2.2.1,a0.2.2.2.2.2.2.2.2.1,()))) (fun y4 =>
 some ((),((y4.2.1.1.1,(y4.2.1.1.2.1,y4.2.1.1.2.2.1),y4.2.2.1,y4.2.1.1.2.2.2.2.1,y4.2.1.1.2.2.2.2.2.1,y4.2.1.1.2.2.2.2.2.2.1,y4.2.1.1.2.2.2.2.2.2.2.1,y4.2.1.1.2.2.2.2.2.2.2.2.1,y4.2.2.2.1,y4.2.1.1.2.2.2.2.2.2.2.2.2.2.1,y4.2.1.1.2.2.2.2.2.2.2.2.2.2.2.1,y4.2.1.1.2.2.2.2.2.2.2.2.2.2.2.2.1),()))) (fun y4 =>
 none)
theorem yYr (x:InD yh2):zjH ⟨ysc,39,yDE⟩ Tryz.f261.results.toList ymJ yh2 ysK x=yoY x.1:=by kernel_rfl
theorem yUh:ConOk Tryz.prog 261 ⟨yh2,ysK,fun x=>yoY x.1⟩:=zkh (yPw) Tryz.func261 (by kernel_rfl) (by kernel_rfl) Tryz.ntmps261.symm (by decide) (fun x r h=>(yYr x).trans h)
def yd2 (a0:dA):dA:=yn a0
theorem yWi (a0:dA) (hk:zi9 yh2 (a0,())):yoY a0=(fun n=>some ((),(n,()))) (yd2 a0):=by
 have hb:a0.2.2.1.length * 80≤2 ^ 47:=hk.1.2.2.1.1
 have h1:yuK (yPW a0)=some (.inl (yCv (yn a0))) :=
  zks (step:=ydQ) a0.2.2.1.length (fun i s=>yts i s) yC (fun _ s=>s.2.2.1.length=a0.2.2.1.length) (fun s=> .inl (yCv s)) (fun i s hi hs=>⟨by
   simp only [ydQ,yts,ytQ,hs,zjI (show (i:Int) < a0.2.2.1.length by omega),cond_true,wr (show -9223372036854775808≤(i:Int)+1 by omega) (by omega),Int.natCast_add,Int.natCast_one,Int.toNat_natCast,zkO hi,zkV,yUT,yU,yjj,yC,setMem]
   cases (nth s.2.2.1 i noMem).2.2.1<;>cases (yY s).1<;>simp only [cond_true,cond_false,Bool.not_true,Bool.not_false,yU,Int.toNat_natCast],(yjI s i).trans hs⟩) (fun s hs=>by simp only [ydQ,yts,ytQ,hs,zkm (Int.le_refl _),cond_false]) a0 rfl _ (by show _ < 18446744073709551616; omega)
 unfold yoY yd2
 rw [h1]; rfl
def yoA:Con:=⟨yh2,ysK,fun x=>(fun n=>some ((),(n,()))) (yd2 x.1)⟩
theorem yw3:ConOk Tryz.prog 261 yoA:=(yUh).mono (fun x r hk h=>(yWi x.1 hk).trans h)
end
section
def ymI:Code:=(Tryz.f203.body).getD .skip
def ysb:Env:=zki TT [(140,yrn),(207,yld),(261,yoA)] []
theorem yPt:FrOk Tryz.prog ⟨ysb,63,fun _=>none⟩ ymI:=zkp yb yd ⟨yCD,ysS,yw3,trivial⟩
def yDB:Nat→Option Seg:=fun _=>none
def ycs:Shape:=⟨[(0,false,[.ptr 1000000000 0]),(2,false,[.int .i64])],[(1000000000,[.int .i64,.int .i64,.int .i64,.at 800000000,.int .i64,.int .i64,.int .i64,.int .i64,.int .i64,.at 800000001,.int .i64,.bool,.bool])],[(800000000,tM,(.pr (.ow .fz) (.pr (.ow (.pr .fz .fz)) (.pr .fz (.ow .fz))))),(800000001,tW,(.pr .fz .fz))]⟩
def yho:Shape:=⟨[(0,false,[.ptr 1000000000 0]),(2,false,[.ci .i64 0])],[(1000000000,[.int .i64,.int .i64,.int .i64,.at 800000000,.int .i64,.int .i64,.int .i64,.int .i64,.int .i64,.at 800000001,.int .i64,.bool,.bool])],[(800000000,tM,(.pr (.ow .fz) (.pr (.ow (.pr .fz .fz)) (.pr .fz (.ow .fz))))),(800000001,tW,(.pr .fz .fz))]⟩
def yhd:Shape:=⟨[(0,false,[.ptr 1000000000 0])],[(1000000000,[.int .i64,.int .i64,.int .i64,.at 800000000,.int .i64,.int .i64,.int .i64,.int .i64,.int .i64,.at 800000001,.int .i64,.bool,.bool])],[(800000000,tM,(.pr (.ow .fz) (.pr (.ow (.pr .fz .fz)) (.pr .fz (.ow .fz))))),(800000001,tW,(.pr .fz .fz))]⟩
def yl5:Shape:=⟨[],[],[]⟩
abbrev yrx (v0:Int) (v1:dA):(ycs).X:=((((),()),(v0,()),()),((v1.1,v1.2.1.1,v1.2.1.2,(),v1.2.2.2.1,v1.2.2.2.2.1,v1.2.2.2.2.2.1,v1.2.2.2.2.2.2.1,v1.2.2.2.2.2.2.2.1,(),v1.2.2.2.2.2.2.2.2.2.1,v1.2.2.2.2.2.2.2.2.2.2.1,v1.2.2.2.2.2.2.2.2.2.2.2,()),()),(v1.2.2.1,v1.2.2.2.2.2.2.2.2.1,()))
abbrev yM4 (v0:dA):(yho).X:=((((),()),((),()),()),((v0.1,v0.2.1.1,v0.2.1.2,(),v0.2.2.2.1,v0.2.2.2.2.1,v0.2.2.2.2.2.1,v0.2.2.2.2.2.2.1,v0.2.2.2.2.2.2.2.1,(),v0.2.2.2.2.2.2.2.2.2.1,v0.2.2.2.2.2.2.2.2.2.2.1,v0.2.2.2.2.2.2.2.2.2.2.2,()),()),(v0.2.2.1,v0.2.2.2.2.2.2.2.2.1,()))
abbrev yAo (v0:dA):(yhd).X:=((((),()),()),((v0.1,v0.2.1.1,v0.2.1.2,(),v0.2.2.2.1,v0.2.2.2.2.1,v0.2.2.2.2.2.1,v0.2.2.2.2.2.2.1,v0.2.2.2.2.2.2.2.1,(),v0.2.2.2.2.2.2.2.2.2.1,v0.2.2.2.2.2.2.2.2.2.2.1,v0.2.2.2.2.2.2.2.2.2.2.2,()),()),(v0.2.2.1,v0.2.2.2.2.2.2.2.2.1,()))
def yrN (v0 v1 v2 v3 v4 v5 v6 v7 v8 v9:Int) (v10 v11:Bool) (v12:List dM) (v13:List dW):Option ((ycs).X ⊕ ((yhd).X ⊕ (yl5).X)) :=
 bif (ltb v0 (v12.length:Int)) then
 let r3:=yz (v1,v8,v0,v2,v3,v7,v4,v5)
 bnd (yfa (v1,(v2,v3),v12,v4,v5,v6,v7,v8,v13,v9,v10,v11) v0 (v8.tmod 2) r3) fun r4 =>
 some (.inl ((((),()),((IntKind.i64.wrap (v0+1)),()),()),((r4.2.1.1,r4.2.1.2.1.1,r4.2.1.2.1.2,(),r4.2.1.2.2.2.1,r4.2.1.2.2.2.2.1,r4.2.1.2.2.2.2.2.1,r4.2.1.2.2.2.2.2.2.1,r4.2.1.2.2.2.2.2.2.2.1,(),r4.2.1.2.2.2.2.2.2.2.2.2.1,r4.2.1.2.2.2.2.2.2.2.2.2.2.1,r4.2.1.2.2.2.2.2.2.2.2.2.2.2,()),()),(r4.2.1.2.2.1,r4.2.1.2.2.2.2.2.2.2.2.1,())))
 else
 some (.inr (.inl ((((),()),()),((v1,v2,v3,(),v4,v5,v6,v7,v8,(),v9,v10,v11,()),()),(v12,v13,()))))
def ycY (x:(ycs).X):=yrN x.1.2.1.1 x.2.1.1.1 x.2.1.1.2.1 x.2.1.1.2.2.1 x.2.1.1.2.2.2.2.1 x.2.1.1.2.2.2.2.2.1 x.2.1.1.2.2.2.2.2.2.1 x.2.1.1.2.2.2.2.2.2.2.1 x.2.1.1.2.2.2.2.2.2.2.2.1 x.2.1.1.2.2.2.2.2.2.2.2.2.2.1 x.2.1.1.2.2.2.2.2.2.2.2.2.2.2.1 x.2.1.1.2.2.2.2.2.2.2.2.2.2.2.2.1 x.2.2.1 x.2.2.2.1
def yz9 (x:(yho).X):(ycs).X:=((((),()),(0,()),()),((x.2.1.1.1,x.2.1.1.2.1,x.2.1.1.2.2.1,(),x.2.1.1.2.2.2.2.1,x.2.1.1.2.2.2.2.2.1,x.2.1.1.2.2.2.2.2.2.1,x.2.1.1.2.2.2.2.2.2.2.1,x.2.1.1.2.2.2.2.2.2.2.2.1,(),x.2.1.1.2.2.2.2.2.2.2.2.2.2.1,x.2.1.1.2.2.2.2.2.2.2.2.2.2.2.1,x.2.1.1.2.2.2.2.2.2.2.2.2.2.2.2.1,()),()),(x.2.2.1,x.2.2.2.1,()))
def yBz:Code:=(zdI ymI 64 52).getD .skip
theorem yOx:zdI ymI 64 13=some (.block 0 (.loop yBz)):=by kernel_rfl
theorem yRd (x:(ycs).X):zg7 ⟨ysb,63,yDB⟩ 0 yBz 52 ycs yhd yl5 x=ycY x:=by kernel_rfl
def yAk (x:(yho).X):Nat:=18446744073709551616
def ys6 (x:(yho).X):Option ((yhd).X ⊕ (yl5).X):=zr ycY (yAk x) (yz9 x)
def yAB:Seg:=⟨yho,yhd,yl5,ys6⟩
def yDC:Nat→Option Seg:=fun q=>bif Nat.beq q 13 then some yAB else yDB q
theorem yPu:FrOk Tryz.prog ⟨ysb,63,yDC⟩ ymI:=(yPt).loop (sg:=yAB) ycs yz9 (by decide) yOx ycY yAk (by decide) (fun _=>rfl) (fun x r _ h=>h) yRd
abbrev yh1:List Par:= [.pt tA (.pr .fz (.pr (.pr .fz .fz) (.pr (.ow (.pr (.ow .fz) (.pr (.ow (.pr .fz .fz)) (.pr .fz (.ow .fz))))) (.pr .fz (.pr .fz (.pr .fz (.pr .fz (.pr .fz (.pr (.ow (.pr .fz .fz)) (.pr .fz (.pr .fz .fz)))))))))))]
abbrev ysJ:List OT:= []
def yoX (a0:dA):Option (ResD ysJ×MutD yh1) :=
 zjw (ys6 ((((),()),((),()),()),((a0.1,a0.2.1.1,a0.2.1.2,(),a0.2.2.2.1,a0.2.2.2.2.1,a0.2.2.2.2.2.1,a0.2.2.2.2.2.2.1,(IntKind.i64.wrap (a0.2.2.2.2.2.2.2.1+1)),(),a0.2.2.2.2.2.2.2.2.2.1,a0.2.2.2.2.2.2.2.2.2.2.1,a0.2.2.2.2.2.2.2.2.2.2.2,()),()),(a0.2.2.1,a0.2.2.2.2.2.2.2.2.1,()))) (fun y4 =>
 let r6:=yd2 (y4.2.1.1.1,(y4.2.1.1.2.1,y4.2.1.1.2.2.1),y4.2.2.1,y4.2.1.1.2.2.2.2.1,y4.2.1.1.2.2.2.2.2.1,y4.2.1.1.2.2.2.2.2.2.1,y4.2.1.1.2.2.2.2.2.2.2.1,y4.2.1.1.2.2.2.2.2.2.2.2.1,y4.2.2.2.1,y4.2.1.1.2.2.2.2.2.2.2.2.2.2.1,y4.2.1.1.2.2.2.2.2.2.2.2.2.2.2.1,y4.2.1.1.2.2.2.2.2.2.2.2.2.2.2.2.1)
 some ((),(r6,()))) (fun y4 =>
 none)
theorem yYq (x:InD yh1):zjH ⟨ysb,63,yDC⟩ Tryz.f203.results.toList ymI yh1 ysJ x=yoX x.1:=by kernel_rfl
theorem yUg:ConOk Tryz.prog 203 ⟨yh1,ysJ,fun x=>yoX x.1⟩:=zkh (yPu) Tryz.func203 (by kernel_rfl) (by kernel_rfl) Tryz.ntmps203.symm (by decide) (fun x r h=>(yYq x).trans h)
def yaF (a0:dA):dA:=markA a0
theorem yN0 (a:dA) (i:Nat):(yP a i).2.2.1.length=a.2.2.1.length:=ynw _ _ _ _
theorem yWh (a0:dA) (hk:zi9 yh1 (a0,())):yoX a0=(fun n=>some ((),(n,()))) (yaF a0):=by
 have hb:a0.2.2.1.length * 80≤2 ^ 47:=hk.1.2.2.1.1
 have h1:ys6 (yM4 (yaa a0))=some (.inl (yAo ((List.range a0.2.2.1.length).foldl yP (yaa a0)))) :=
  zks (step:=ycY) a0.2.2.1.length (fun i s=>yrx i s) yP (fun _ s=>s.2.2.1.length=a0.2.2.1.length) (fun s=> .inl (yAo s)) (fun i s hi hs=>⟨by
   simp only [ycY,yrx,yrN,hs,zjI (show (i:Int) < a0.2.2.1.length by omega),cond_true,wr (show -9223372036854775808≤(i:Int)+1 by omega) (by omega),Int.natCast_add,Int.natCast_one,Int.toNat_natCast,zkV]
   rw [ynp s i (s.2.2.2.2.2.2.2.1.tmod 2) (yz (s.1,s.2.2.2.2.2.2.2.1,(i:Int),s.2.1.1,s.2.1.2,s.2.2.2.2.2.2.1,s.2.2.2.1,s.2.2.2.2.1)) (zkO (by rw [hs]; exact hi))]
   rfl,(yN0 s i).trans hs⟩) (fun s hs=>by simp only [ycY,yrx,yrN,hs,zkm (Int.le_refl _),cond_false]) (yaa a0) rfl _ (by show _ < 18446744073709551616; omega)
 unfold yoX yaF markA
 exact (congrArg (fun z=>zjw z _ _) h1).trans rfl
def yoz:Con:=⟨yh1,ysJ,fun x=>(fun n=>some ((),(n,()))) (yaF x.1)⟩
theorem yw2:ConOk Tryz.prog 203 yoz:=(yUg).mono (fun x r hk h=>(yWh x.1 hk).trans h)
end
section
def yDg:Code:=(Tryz.f105.body).getD .skip
def yDN:Env:=zki TT [(138,yvl),(139,yoy),(203,yoz)] []
theorem yKw:FrOk Tryz.prog ⟨yDN,27,fun _=>none⟩ yDg:=zkp yb yd ⟨yGC,yw1,yw2,trivial⟩
def yLT:Nat→Option Seg:=fun _=>none
abbrev yc4:List Par:= [.pt tA (.pr .fz (.pr (.pr .fz .fz) (.pr (.ow (.pr (.ow .fz) (.pr (.ow (.pr .fz .fz)) (.pr .fz (.ow .fz))))) (.pr .fz (.pr .fz (.pr .fz (.pr .fz (.pr .fz (.pr (.ow (.pr .fz .fz)) (.pr .fz (.pr .fz .fz)))))))))))]
abbrev yiZ:List OT:= [⟨false,tI,.fz⟩]
def ykn (a0:dA):Option (ResD yiZ×MutD yc4) :=
 let r1:=yce a0.2.1
 let r2:=yd0 r1
 bif (inb a0.2.2.2.1 a0.2.2.1.length) then
 let r3:=yaF (a0.1,a0.2.1,(a0.2.2.1.set (a0.2.2.2.1).toNat r2),a0.2.2.2.1,0,a0.2.2.2.2.2)
 bif r3.2.2.2.2.2.2.2.2.2.2.1 then
 some ((6,()),(r3,()))
 else
 some ((0,()),(r3,()))
 else none
theorem ySl (x:InD yc4):zjH ⟨yDN,27,yLT⟩ Tryz.f105.results.toList yDg yc4 yiZ x=ykn x.1:=by kernel_rfl
theorem yNu:ConOk Tryz.prog 105 ⟨yc4,yiZ,fun x=>ykn x.1⟩:=zkh (yKw) Tryz.func105 (by kernel_rfl) (by kernel_rfl) Tryz.ntmps105.symm (by decide) (fun x r h=>(ySl x).trans h)
def yoE (a0:dA):Int×dA:=(bif downA (markA (spareNew a0)) then 6 else 0,markA (spareNew a0))
def yjr (a0:dA):Bool:=yc a0.2.1&&inb a0.2.2.2.1 a0.2.2.1.length
theorem yQn (a0:dA) (hk:zi9 yc4 (a0,())) (hq:yjr a0=true):ykn a0=(fun n=>some ((n.1,()),(n.2,()))) (yoE a0):=by
 simp only [yjr,Bool.and_eq_true]at hq
 have hg:=yi.1 hq.1
 unfold ykn yoE
 simp only [yce,wr (show -9223372036854775808≤6+a0.2.1.2 by omega) (by omega),hq.2,yd0,yaF]
 show (bif downA (markA (spareNew a0)) then some ((6,()),(markA (spareNew a0),())) else some ((0,()),(markA (spareNew a0),())))=_
 cases downA (markA (spareNew a0))<;>rfl
def yjo (a0:dA):Option (ResD yiZ×MutD yc4):=bif yjr a0 then (fun n=>some ((n.1,()),(n.2,()))) (yoE a0) else none
theorem yQ1 (a0:dA) (h:yjr a0=true):yjo a0=(fun n=>some ((n.1,()),(n.2,()))) (yoE a0):=by unfold yjo; rw [h]; rfl
def yzX:Con:=⟨yc4,yiZ,fun x=>yjo x.1⟩
theorem yQY:ConOk Tryz.prog 105 yzX:=(yNu).mono (fun x r hk h=>zkW h (fun hq=>yQn x.1 hk hq))
end
end
end Go.Tf
