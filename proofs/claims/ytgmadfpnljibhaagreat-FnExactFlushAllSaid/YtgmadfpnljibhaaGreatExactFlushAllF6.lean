/- Functions of the program, and what they come to. -/
import Derived.Test.YtgmadfpnljibhaaGreatExactFlushAllF5
namespace Go.Tf
noncomputable section
open Go.Proofs
set_option synthInstance.maxHeartbeats 400000
set_option synthInstance.maxSize 10000
set_option linter.unusedVariables false
set_option linter.unusedSimpArgs false
set_option maxRecDepth 100000
section
def yCJ:Code:=(Tryz.f107.body).getD .skip
def yDd:Env:=zki TT [(129,yBt),(205,yv2)] []
theorem yKh:FrOk Tryz.prog ⟨yDd,39,fun _=>none⟩ yCJ:=zkp yb yc ⟨ySE,yIo,trivial⟩
def yK9:Nat→Option Seg:=fun _=>none
abbrev yb5:List Par:= [.pt tA (.pr .fz (.pr (.pr .fz .fz) (.pr (.ow (.pr (.ow (.ow .fz)) (.pr (.ow (.pr .fz (.ow .fz))) (.pr .fz (.ow .fz))))) (.pr .fz (.pr .fz (.pr .fz (.pr .fz (.pr .fz (.pr (.ow (.pr .fz (.ow .fz))) (.pr .fz (.pr .fz .fz))))))))))),.rd tI,.rd tI,.rd tL]
abbrev ygY:List OT:= [⟨false,tB,.fz⟩]
def yjx (a0:dA) (a1 a2:Int) (a3:List Int):Option (ResD ygY×MutD yb5) :=
 bif (inb a1 a0.2.2.1.length) then
 bif (((nth a0.2.2.1 a1 ([],[],false,[])).2).2).1 then
 some ((true,()),(a0,()))
 else
 let r1:=yhT a0
 bif (!r1.1) then
 some ((false,()),(r1.2,()))
 else
 bif (inb a1 r1.2.2.2.1.length) then
 let r2:=yjn ((nth r1.2.2.2.1 a1 ([],[],false,[])).1,((nth r1.2.2.2.1 a1 ([],[],false,[])).2).1,(((nth r1.2.2.2.1 a1 ([],[],false,[])).2).2)) a2 a3
 bif (inb a1 r1.2.2.2.1.length) then
 some ((true,()),((r1.2.1,r1.2.2.1,(r1.2.2.2.1.set (a1).toNat r2.1),r1.2.2.2.2),()))
 else none
 else none
 else none
theorem yQm (x:InD yb5):zjH ⟨yDd,39,yK9⟩ Tryz.f107.results.toList yCJ yb5 ygY x=yjx x.1 x.2.1 x.2.2.1 x.2.2.2.1:=by kernel_rfl
theorem yMX:ConOk Tryz.prog 107 ⟨yb5,ygY,fun x=>yjx x.1 x.2.1 x.2.2.1 x.2.2.2.1⟩:=zkh (yKh) Tryz.func107 (by kernel_rfl) (by kernel_rfl) Tryz.ntmps107.symm (by decide) (fun x r h=>(yQm x).trans h)
def ycd (a0:dA) (a1 a2:Int) (a3:List Int):Bool×dA:=(!(yd (yeR a0 a1 a2 a3)),yeR a0 a1 a2 a3)
def ycf (a0:dA) (a1 a2:Int) (a3:List Int):Bool:=inb a1 a0.2.2.1.length&& !(yd a0)
theorem yOO (a0:dA) (a1 a2:Int) (a3:List Int) (hk:zi9 yb5 (a0,a1,a2,a3,())) (hq:ycf a0 a1 a2 a3=true):yjx a0 a1 a2 a3=(fun n=>some ((n.1,()),(n.2,()))) (ycd a0 a1 a2 a3):=by
 simp only [ycf,Bool.and_eq_true,Bool.not_eq_true'] at hq
 unfold yjx ycd
 simp only [y4u hq.2]
 unfold yeR yz2
 simp only [yVa hq.2,yau,hq.1,zkV,yjn]
 cases (nth a0.2.2.1 a1 yh).2.2.1<;>cases (opA a0).1<;>rfl
def yej (a0:dA) (a1 a2:Int) (a3:List Int):Option (ResD ygY×MutD yb5):=bif ycf a0 a1 a2 a3 then (fun n=>some ((n.1,()),(n.2,()))) (ycd a0 a1 a2 a3) else none
theorem ysi (a0:dA) (a1 a2:Int) (a3:List Int) (h:ycf a0 a1 a2 a3=true):yej a0 a1 a2 a3=(fun n=>some ((n.1,()),(n.2,()))) (ycd a0 a1 a2 a3):=by unfold yej; rw [h]; rfl
def yjf:Con:=⟨yb5,ygY,fun x=>yej x.1 x.2.1 x.2.2.1 x.2.2.2.1⟩
theorem ysh:ConOk Tryz.prog 107 yjf:=(yMX).mono (fun x r hk h=>zkW h (fun hq=>yOO x.1 x.2.1 x.2.2.1 x.2.2.2.1 hk hq))
end
section
def yG4:Code:=(Tryz.f128.body).getD .skip
def yHD:Env:=zki TT [] []
theorem yN9:FrOk Tryz.prog ⟨yHD,23,fun _=>none⟩ yG4:=zkp yb yc trivial
def yPV:Nat→Option Seg:=fun _=>none
abbrev ykS:List Par:= [.rd tA,.rd tI]
abbrev yq8:List OT:= [⟨false,tS,(.pr .fz (.pr .fz (.pr .fz (.pr .fz (.pr .fz (.pr .fz (.pr .fz .fz)))))))⟩]
def yut (a0:dA) (a1:Int):Option (ResD yq8×MutD ykS) :=
 some (((a0.1,a0.2.2.2.2.2.2.2.1,a1,a0.2.1.1,a0.2.1.2,a0.2.2.2.2.2.2.1,a0.2.2.2.1,a0.2.2.2.2.1),()),())
theorem yXC (x:InD ykS):zjH ⟨yHD,23,yPV⟩ Tryz.f128.results.toList yG4 ykS yq8 x=yut x.1 x.2.1:=by kernel_rfl
theorem ySi:ConOk Tryz.prog 128 ⟨ykS,yq8,fun x=>yut x.1 x.2.1⟩:=zkh (yN9) Tryz.func128 (by kernel_rfl) (by kernel_rfl) Tryz.ntmps128.symm (by decide) (fun x r h=>(yXC x).trans h)
def yrt (a0:dA) (a1:Int):dS :=
 (a0.1,a0.2.2.2.2.2.2.2.1,a1,a0.2.1.1,a0.2.1.2,a0.2.2.2.2.2.2.1,a0.2.2.2.1,a0.2.2.2.2.1)
def yDA:Con:=⟨ykS,yq8,fun x=>(fun n=>some ((n,()),())) (yrt x.1 x.2.1)⟩
theorem yVs (a0:dA) (a1:Int):yut a0 a1=(fun n=>some ((n,()),())) (yrt a0 a1):=zkS (p:=fun (n:dS)=>((n,()),())) rfl
theorem yWr:ConOk Tryz.prog 128 yDA:=(ySi).mono (fun x r _ h=>(yVs x.1 x.2.1).trans h)
end
section
def yG1:Code:=(Tryz.f218.body).getD .skip
def yHA:Env:=zki TT [(122,yrn),(126,yw),(131,yv6)] []
theorem yNZ:FrOk Tryz.prog ⟨yHA,44,fun _=>none⟩ yG1:=zkp yb yc ⟨yAt,yQ,yIr,trivial⟩
def yPS:Nat→Option Seg:=fun _=>none
abbrev ykN:List Par:= [.rd tS]
abbrev yq3:List OT:= [⟨false,tB,.fz⟩]
def yuq (a0:dS):Option (ResD yq3×MutD ykN) :=
 let r1:=ye a0.1 1 60000
 bif r1 then
 let r2:=ye a0.2.1 0 60000
 bif r2 then
 let r3:=ye a0.2.2.2.2.2.1 0 60000
 bif r3 then
 let r4:=yeL (a0.2.2.2.1,a0.2.2.2.2.1)
 bif r4 then
 let r5:=ye a0.2.2.1 0 (IntKind.i64.wrap (a0.2.2.2.1 - 1))
 bif r5 then
 let r6:=yfu (a0.2.2.2.1,a0.2.2.2.2.1) a0.2.2.2.2.2.2.1 a0.2.2.2.2.2.2.2
 some ((r6,()),())
 else
 some ((false,()),())
 else
 some ((false,()),())
 else
 some ((false,()),())
 else
 some ((false,()),())
 else
 some ((false,()),())
theorem yXw (x:InD ykN):zjH ⟨yHA,44,yPS⟩ Tryz.f218.results.toList yG1 ykN yq3 x=yuq x.1:=by kernel_rfl
theorem ySc:ConOk Tryz.prog 218 ⟨ykN,yq3,fun x=>yuq x.1⟩:=zkh (yNZ) Tryz.func218 (by kernel_rfl) (by kernel_rfl) Tryz.ntmps218.symm (by decide) (fun x r h=>(yXw x).trans h)
def ygx (a0:dS):Bool :=
 let r1:=ye a0.1 1 60000
 bif r1 then
 let r2:=ye a0.2.1 0 60000
 bif r2 then
 let r3:=ye a0.2.2.2.2.2.1 0 60000
 bif r3 then
 let r4:=yeL (a0.2.2.2.1,a0.2.2.2.2.1)
 bif r4 then
 let r5:=ye a0.2.2.1 0 (IntKind.i64.wrap (a0.2.2.2.1 - 1))
 bif r5 then
 let r6:=yfu (a0.2.2.2.1,a0.2.2.2.2.1) a0.2.2.2.2.2.2.1 a0.2.2.2.2.2.2.2
 r6
 else
 false
 else
 false
 else
 false
 else
 false
 else
 false
def yDw:Con:=⟨ykN,yq3,fun x=>(fun n=>some ((n,()),())) (ygx x.1)⟩
theorem yVm (a0:dS):yuq a0=(fun n=>some ((n,()),())) (ygx a0):=zkS (p:=fun (n:Bool)=>((n,()),())) (zkx (p:=fun (n:Bool)=>((n,()),())) (zkx (p:=fun (n:Bool)=>((n,()),())) (zkx (p:=fun (n:Bool)=>((n,()),())) (zkx (p:=fun (n:Bool)=>((n,()),())) (zkx (p:=fun (n:Bool)=>((n,()),())) rfl rfl) rfl) rfl) rfl) rfl)
theorem yWn:ConOk Tryz.prog 218 yDw:=(ySc).mono (fun x r _ h=>(yVm x.1).trans h)
theorem y0Q (s:dS):ygx s=ycu s:=by
 rw [Bool.eq_iff_iff,y3o]
 unfold ygx yfu
 simp only [yU9,yaH]
 cases hg:yf (s.2.2.2.1,s.2.2.2.2.1)
 ·cases ya s.1 1 60000<;>cases ya s.2.1 0 60000<;>cases ya s.2.2.2.2.2.1 0 60000<;>simp
 have hg2:=yo.1 hg
 simp only at hg2
 rw [wr (show -9223372036854775808≤s.2.2.2.1 - 1 by omega) (by omega)]
 simp only [← ysL]
 cases ya s.1 1 60000
 ·simp
 cases ya s.2.1 0 60000
 ·simp
 cases ya s.2.2.2.2.2.1 0 60000
 ·simp
 cases ya s.2.2.1 0 (s.2.2.2.1 - 1)
 ·simp
 cases hl:ya s.2.2.2.2.2.2.1 (-1) (s.2.2.2.1 - 1)
 ·simp
 cases ya s.2.2.2.2.2.2.2 0 s.2.2.2.2.1
 ·simp
 have:=ysL.1 hl
 by_cases h0:s.2.2.2.2.2.2.2=0
 ·simp [h0]
 ·simp [h0]; omega
end
section
def yE6:Code:=(Tryz.f201.body).getD .skip
def yFL:Env:=zki TT [(218,yDw)] []
theorem yL3:FrOk Tryz.prog ⟨yFL,24,fun _=>none⟩ yE6:=zkp yb yc ⟨yWn,trivial⟩
def yNv:Nat→Option Seg:=fun _=>none
abbrev yic:List Par:= [.rd tS]
abbrev yoC:List OT:= [⟨false,tL,(.ow .fz)⟩]
def ysj (a0:dS):Option (ResD yoC×MutD yic) :=
 let r1:=ygx a0
 bif (!r1) then
 some (([],()),())
 else
 some ((([21317,a0.1,a0.2.1,a0.2.2.1,a0.2.2.2.1,a0.2.2.2.2.1,a0.2.2.2.2.2.1,(IntKind.i64.wrap (a0.2.2.2.2.2.2.1+1)),a0.2.2.2.2.2.2.2]:List Int),()),())
theorem yT0 (x:InD yic):zjH ⟨yFL,24,yNv⟩ Tryz.f201.results.toList yE6 yic yoC x=ysj x.1:=by kernel_rfl
theorem yOY:ConOk Tryz.prog 201 ⟨yic,yoC,fun x=>ysj x.1⟩:=zkh (yL3) Tryz.func201 (by kernel_rfl) (by kernel_rfl) Tryz.ntmps201.symm (by decide) (fun x r h=>(yT0 x).trans h)
def yjm (a0:dS):(List Int) :=
 let r1:=ygx a0
 bif (!r1) then
 []
 else
 ([21317,a0.1,a0.2.1,a0.2.2.1,a0.2.2.2.1,a0.2.2.2.2.1,a0.2.2.2.2.2.1,(IntKind.i64.wrap (a0.2.2.2.2.2.2.1+1)),a0.2.2.2.2.2.2.2]:List Int)
def yBs:Con:=⟨yic,yoC,fun x=>(fun n=>some ((n,()),())) (yjm x.1)⟩
theorem yRU (a0:dS):ysj a0=(fun n=>some ((n,()),())) (yjm a0):=zkS (p:=fun (n:(List Int))=>((n,()),())) (zkx (p:=fun (n:(List Int))=>((n,()),())) rfl rfl)
theorem ySD:ConOk Tryz.prog 201 yBs:=(yOY).mono (fun x r _ h=>(yRU x.1).trans h)
theorem y3f (s:dS):yjm s=yaJ s:=by
 unfold yjm yaJ
 rw [y0Q]
end
section
def yh2:Code:=(Tryz.f130.body).getD .skip
def yoj:Env:=zki TT [(133,yro),(200,ydp),(219,ymo)] []
theorem yL0:FrOk Tryz.prog ⟨yoj,34,fun _=>none⟩ yh2:=zkp yb yc ⟨yAu,yha,ywB,trivial⟩
def yAO:Nat→Option Seg:=fun _=>none
def yaW:Shape:=⟨[(2,false,[.ptr 64 0]),(3,false,[.ptr 4224 0]),(17,false,[.br tW]),(18,false,[.int .i64]),(19,false,[.int .i64])],[(64,[.nil,.nil,.bool,.nil]),(4224,[.at 800000000,.at 800000001,.bool,.at 800000002])],[(800000000,tL,(.ow .fz)),(800000001,tW,(.pr .fz (.ow .fz))),(800000002,tI,.fz)]⟩
def yeF:Shape:=⟨[(2,false,[.ptr 64 0]),(3,false,[.ptr 4224 0]),(17,false,[.br tW]),(18,false,[.int .i64]),(19,false,[.ci .i64 0])],[(64,[.nil,.nil,.bool,.nil]),(4224,[.at 800000000,.at 800000001,.bool,.at 800000002])],[(800000000,tL,(.ow .fz)),(800000001,tW,(.pr .fz (.ow .fz))),(800000002,tI,.fz)]⟩
def yez:Shape:=⟨[(2,false,[.ptr 64 0]),(3,false,[.ptr 4224 0])],[(64,[.nil,.nil,.bool,.nil]),(4224,[.at 800000000,.at 800000001,.bool,.at 800000002])],[(800000000,tL,(.ow .fz)),(800000001,tW,(.pr .fz (.ow .fz))),(800000002,tI,.fz)]⟩
def yi0:Shape:=⟨[],[],[]⟩
abbrev ynQ (v0:List dW) (v1 v2:Int) (v3 v4:dM):(yaW).X:=((((),()),((),()),(v0,()),(v1,()),(v2,()),()),(((),(),v3.2.2.1,(),()),((),(),v4.2.2.1,(),()),()),(v4.1,v4.2.1,v4.2.2.2,()))
abbrev yKt (v0:List dW) (v1:Int) (v2 v3:dM):(yeF).X:=((((),()),((),()),(v0,()),(v1,()),((),()),()),(((),(),v2.2.2.1,(),()),((),(),v3.2.2.1,(),()),()),(v3.1,v3.2.1,v3.2.2.2,()))
abbrev yxC (v0 v1:dM):(yez).X:=((((),()),((),()),()),(((),(),v0.2.2.1,(),()),((),(),v1.2.2.1,(),()),()),(v1.1,v1.2.1,v1.2.2.2,()))
def yn4 (v0:List dW) (v1 v2:Int) (v3 v4:Bool) (v5:List (List Int)) (v6:List dW) (v7:List Int):Option ((yaW).X ⊕ ((yez).X ⊕ (yi0).X)) :=
 bif (ltb v2 v1) then
 bif (inb v2 v0.length) then
 let r4:=yi ((nth v0 v2 (0,[])).2)
 bif (inb ((nth v0 v2 (0,[])).1) v5.length) then
 some (.inl ((((),()),((),()),(v0,()),(v1,()),((IntKind.i64.wrap (v2+1)),()),()),(((),(),v3,(),()),((),(),v4,(),()),()),((v5.set ((nth v0 v2 (0,[])).1).toNat r4),v6,v7,())))
 else none
 else none
 else
 some (.inr (.inl ((((),()),((),()),()),(((),(),v3,(),()),((),(),v4,(),()),()),(v5,v6,v7,()))))
def ybc (x:(yaW).X):=yn4 x.1.2.2.1.1 x.1.2.2.2.1.1 x.1.2.2.2.2.1.1 x.2.1.1.2.2.1 x.2.1.2.1.2.2.1 x.2.2.1 x.2.2.2.1 x.2.2.2.2.1
def yxg (x:(yeF).X):(yaW).X:=((((),()),((),()),(x.1.2.2.1.1,()),(x.1.2.2.2.1.1,()),(0,()),()),(((),(),x.2.1.1.2.2.1,(),()),((),(),x.2.1.2.1.2.2.1,(),()),()),(x.2.2.1,x.2.2.2.1,x.2.2.2.2.1,()))
def yy7:Code:=(zdI yh2 64 244).getD .skip
theorem yLA:zdI yh2 64 61=some (.block 0 (.loop yy7)):=by kernel_rfl
theorem yNe (x:(yaW).X):zg7 ⟨yoj,34,yAO⟩ 0 yy7 244 yaW yez yi0 x=ybc x:=by kernel_rfl
def yxs (x:(yeF).X):Nat:=18446744073709551616
def ypR (x:(yeF).X):Option ((yez).X ⊕ (yi0).X):=zr ybc (yxs x) (yxg x)
def yxI:Seg:=⟨yeF,yez,yi0,ypR⟩
def yAP:Nat→Option Seg:=fun q=>bif Nat.beq q 61 then some yxI else yAO q
theorem yL1:FrOk Tryz.prog ⟨yoj,34,yAP⟩ yh2:=(yL0).loop (sg:=yxI) yaW yxg (by decide) yLA ybc yxs (by decide) (fun _=>rfl) (fun x r _ h=>h) yNe
abbrev yeV:List Par:= [.rd tM]
abbrev yoA:List OT:= [⟨false,tM,(.pr (.ow (.ow .fz)) (.pr (.ow (.pr .fz (.ow .fz))) (.pr .fz (.ow .fz))))⟩]
def ykg (a0:dM):Option (ResD yoA×MutD yeV) :=
 let r1:=ya7 a0
 let r2:=yda a0
 bif (!(!r2)) then
 bif a0.2.2.1 then
 some ((r1,()),())
 else
 zjw (ypR ((((),()),((),()),(a0.2.1,()),((a0.2.1.length:Int),()),((),()),()),(((),(),false,(),()),((),(),r1.2.2.1,(),()),()),(r1.1,r1.2.1,r1.2.2.2,()))) (fun y4 =>
 some (((y4.2.2.1,[],y4.2.1.2.1.2.2.1,y4.2.2.2.2.1),()),())) (fun y4 =>
 none)
 else
 some ((r1,()),())
theorem yTY (x:InD yeV):zjH ⟨yoj,34,yAP⟩ Tryz.f130.results.toList yh2 yeV yoA x=ykg x.1:=by kernel_rfl
theorem yOW:ConOk Tryz.prog 130 ⟨yeV,yoA,fun x=>ykg x.1⟩:=zkh (yL1) Tryz.func130 (by kernel_rfl) (by kernel_rfl) Tryz.ntmps130.symm (by decide) (fun x r h=>(yTY x).trans h)
def yjl (a0:dM):dM:=yfr a0
theorem yRS (a0:dM) (hk:zi9 yeV (a0,())):ykg a0=(fun n=>some ((n,()),())) (yjl a0):=by
 have hb2:a0.2.1.length * 32≤2 ^ 47:=hk.1.2.1.1
 unfold ykg yjl yfr
 simp only [ya7,yda]
 cases hm:yu a0
 ·rfl
 have h1:ypR (yKt a0.2.1 a0.2.1.length yh a0)=some (.inl (yxC yh (yeh (fun _=>true) a0.2.1 a0.1,a0.2))) :=
  zks (step:=ybc) a0.2.1.length (fun i s=>ynQ a0.2.1 a0.2.1.length i yh (s,a0.2)) (yf2 (fun _=>true) a0.2.1) (fun i s=>s.length=a0.1.length) (fun s=> .inl (yxC yh (s,a0.2))) (fun i s hi hs=>by
   have hw:=(y2M hm hi).1
   refine ⟨?_,yIQ.trans hs⟩
   simp only [ybc,ynQ,yn4,zjI (show (i:Int) < a0.2.1.length by omega),cond_true,wr (show -9223372036854775808≤(i:Int)+1 by omega) (by omega),Int.natCast_add,Int.natCast_one,Int.toNat_natCast,zkO hi,hs,hw,yf2,yi]) (fun s hs=>by simp only [ybc,ynQ,yn4,zkm (Int.le_refl _),cond_false]) a0.1 rfl _ (by show _ < 18446744073709551616; omega)
 rw [h1]
 cases hf:a0.2.2.1
 ·exact congrArg (fun z=>some (((yeh (fun _=>true) a0.2.1 a0.1,([]:List dW),z,a0.2.2.2),()),())) hf
 ·rfl
def yBr:Con:=⟨yeV,yoA,fun x=>(fun n=>some ((n,()),())) (yjl x.1)⟩
theorem ySC:ConOk Tryz.prog 130 yBr:=(yOW).mono (fun x r hk h=>(yRS x.1 hk).trans h)
end
section
def yh0:Code:=(Tryz.f202.body).getD .skip
def yoh:Env:=zki TT [(130,yBr),(205,yv2)] []
theorem yLW:FrOk Tryz.prog ⟨yoh,38,fun _=>none⟩ yh0:=zkp yb yc ⟨ySC,yIo,trivial⟩
def yAK:Nat→Option Seg:=fun _=>none
def yaU:Shape:=⟨[(0,false,[.ptr 1000000000 0]),(8,false,[.int .i64]),(9,false,[.int .i64])],[(1000000000,[.int .i64,.int .i64,.int .i64,.at 800000000,.int .i64,.int .i64,.int .i64,.int .i64,.int .i64,.at 800000001,.int .i64,.bool,.bool])],[(800000000,tM,(.pr (.ow (.ow .fz)) (.pr (.ow (.pr .fz (.ow .fz))) (.pr .fz (.ow .fz))))),(800000001,tW,(.pr .fz (.ow .fz)))]⟩
def yeD:Shape:=⟨[(0,false,[.ptr 1000000000 0]),(8,false,[.int .i64]),(9,false,[.ci .i64 0])],[(1000000000,[.int .i64,.int .i64,.int .i64,.at 800000000,.int .i64,.int .i64,.int .i64,.int .i64,.int .i64,.at 800000001,.int .i64,.bool,.bool])],[(800000000,tM,(.pr (.ow (.ow .fz)) (.pr (.ow (.pr .fz (.ow .fz))) (.pr .fz (.ow .fz))))),(800000001,tW,(.pr .fz (.ow .fz)))]⟩
def yex:Shape:=⟨[],[(1000000000,[.int .i64,.int .i64,.int .i64,.at 800000000,.int .i64,.int .i64,.int .i64,.int .i64,.int .i64,.at 800000001,.int .i64,.bool,.bool])],[(800000000,tM,(.pr (.ow (.ow .fz)) (.pr (.ow (.pr .fz (.ow .fz))) (.pr .fz (.ow .fz))))),(800000001,tW,(.pr .fz (.ow .fz)))]⟩
def yeJ:Shape:=⟨[(2,false,[.bool])],[(1000000000,[.int .i64,.int .i64,.int .i64,.at 800000000,.int .i64,.int .i64,.int .i64,.int .i64,.int .i64,.at 800000001,.int .i64,.bool,.bool])],[(800000000,tM,(.pr (.ow (.ow .fz)) (.pr (.ow (.pr .fz (.ow .fz))) (.pr .fz (.ow .fz))))),(800000001,tW,(.pr .fz (.ow .fz)))]⟩
abbrev yhr (v0 v1:Int) (v2:dA):(yaU).X:=((((),()),(v0,()),(v1,()),()),((v2.1,v2.2.1.1,v2.2.1.2,(),v2.2.2.2.1,v2.2.2.2.2.1,v2.2.2.2.2.2.1,v2.2.2.2.2.2.2.1,v2.2.2.2.2.2.2.2.1,(),v2.2.2.2.2.2.2.2.2.2.1,v2.2.2.2.2.2.2.2.2.2.2.1,v2.2.2.2.2.2.2.2.2.2.2.2,()),()),(v2.2.2.1,v2.2.2.2.2.2.2.2.2.1,()))
abbrev yKr (v0:Int) (v1:dA):(yeD).X:=((((),()),(v0,()),((),()),()),((v1.1,v1.2.1.1,v1.2.1.2,(),v1.2.2.2.1,v1.2.2.2.2.1,v1.2.2.2.2.2.1,v1.2.2.2.2.2.2.1,v1.2.2.2.2.2.2.2.1,(),v1.2.2.2.2.2.2.2.2.2.1,v1.2.2.2.2.2.2.2.2.2.2.1,v1.2.2.2.2.2.2.2.2.2.2.2,()),()),(v1.2.2.1,v1.2.2.2.2.2.2.2.2.1,()))
abbrev ynU (v0:dA):(yex).X:=((),((v0.1,v0.2.1.1,v0.2.1.2,(),v0.2.2.2.1,v0.2.2.2.2.1,v0.2.2.2.2.2.1,v0.2.2.2.2.2.2.1,v0.2.2.2.2.2.2.2.1,(),v0.2.2.2.2.2.2.2.2.2.1,v0.2.2.2.2.2.2.2.2.2.2.1,v0.2.2.2.2.2.2.2.2.2.2.2,()),()),(v0.2.2.1,v0.2.2.2.2.2.2.2.2.1,()))
abbrev ynW (v0:Bool) (v1:dA):(yeJ).X:=(((v0,()),()),((v1.1,v1.2.1.1,v1.2.1.2,(),v1.2.2.2.1,v1.2.2.2.2.1,v1.2.2.2.2.2.1,v1.2.2.2.2.2.2.1,v1.2.2.2.2.2.2.2.1,(),v1.2.2.2.2.2.2.2.2.2.1,v1.2.2.2.2.2.2.2.2.2.2.1,v1.2.2.2.2.2.2.2.2.2.2.2,()),()),(v1.2.2.1,v1.2.2.2.2.2.2.2.2.1,()))
def yn2 (v0 v1 v2 v3 v4 v5 v6 v7 v8 v9 v10:Int) (v11 v12:Bool) (v13:List dM) (v14:List dW):Option ((yaU).X ⊕ ((yex).X ⊕ (yeJ).X)) :=
 bif (ltb v1 v0) then
 bif (inb v1 v13.length) then
 bif (((nth v13 v1 ([],[],false,[])).2).2).1 then
 some (.inl ((((),()),(v0,()),((IntKind.i64.wrap (v1+1)),()),()),((v2,v3,v4,(),v5,v6,v7,v8,v9,(),v10,v11,v12,()),()),(v13,v14,())))
 else
 let r3:=yhT (v2,(v3,v4),v13,v5,v6,v7,v8,v9,v14,v10,v11,v12)
 bif (!r3.1) then
 some (.inr (.inr (((false,()),()),((r3.2.1,r3.2.2.1.1,r3.2.2.1.2,(),r3.2.2.2.2.1,r3.2.2.2.2.2.1,r3.2.2.2.2.2.2.1,r3.2.2.2.2.2.2.2.1,r3.2.2.2.2.2.2.2.2.1,(),r3.2.2.2.2.2.2.2.2.2.2.1,r3.2.2.2.2.2.2.2.2.2.2.2.1,r3.2.2.2.2.2.2.2.2.2.2.2.2,()),()),(r3.2.2.2.1,r3.2.2.2.2.2.2.2.2.2.1,()))))
 else
 bif (inb v1 r3.2.2.2.1.length) then
 let r4:=yjl ((nth r3.2.2.2.1 v1 ([],[],false,[])).1,((nth r3.2.2.2.1 v1 ([],[],false,[])).2).1,(((nth r3.2.2.2.1 v1 ([],[],false,[])).2).2))
 bif (inb v1 r3.2.2.2.1.length) then
 some (.inl ((((),()),(v0,()),((IntKind.i64.wrap (v1+1)),()),()),((r3.2.1,r3.2.2.1.1,r3.2.2.1.2,(),r3.2.2.2.2.1,r3.2.2.2.2.2.1,r3.2.2.2.2.2.2.1,r3.2.2.2.2.2.2.2.1,r3.2.2.2.2.2.2.2.2.1,(),r3.2.2.2.2.2.2.2.2.2.2.1,r3.2.2.2.2.2.2.2.2.2.2.2.1,r3.2.2.2.2.2.2.2.2.2.2.2.2,()),()),((r3.2.2.2.1.set (v1).toNat r4),r3.2.2.2.2.2.2.2.2.2.1,())))
 else none
 else none
 else none
 else
 some (.inr (.inl ((),((v2,v3,v4,(),v5,v6,v7,v8,v9,(),v10,v11,v12,()),()),(v13,v14,()))))
def yba (x:(yaU).X):=yn2 x.1.2.1.1 x.1.2.2.1.1 x.2.1.1.1 x.2.1.1.2.1 x.2.1.1.2.2.1 x.2.1.1.2.2.2.2.1 x.2.1.1.2.2.2.2.2.1 x.2.1.1.2.2.2.2.2.2.1 x.2.1.1.2.2.2.2.2.2.2.1 x.2.1.1.2.2.2.2.2.2.2.2.1 x.2.1.1.2.2.2.2.2.2.2.2.2.2.1 x.2.1.1.2.2.2.2.2.2.2.2.2.2.2.1 x.2.1.1.2.2.2.2.2.2.2.2.2.2.2.2.1 x.2.2.1 x.2.2.2.1
def yxe (x:(yeD).X):(yaU).X:=((((),()),(x.1.2.1.1,()),(0,()),()),((x.2.1.1.1,x.2.1.1.2.1,x.2.1.1.2.2.1,(),x.2.1.1.2.2.2.2.1,x.2.1.1.2.2.2.2.2.1,x.2.1.1.2.2.2.2.2.2.1,x.2.1.1.2.2.2.2.2.2.2.1,x.2.1.1.2.2.2.2.2.2.2.2.1,(),x.2.1.1.2.2.2.2.2.2.2.2.2.2.1,x.2.1.1.2.2.2.2.2.2.2.2.2.2.2.1,x.2.1.1.2.2.2.2.2.2.2.2.2.2.2.2.1,()),()),(x.2.2.1,x.2.2.2.1,()))
def yy5:Code:=(zdI yh0 64 52).getD .skip
theorem yLy:zdI yh0 64 13=some (.block 0 (.loop yy5)):=by kernel_rfl
theorem yNc (x:(yaU).X):zg7 ⟨yoh,38,yAK⟩ 0 yy5 52 yaU yex yeJ x=yba x:=by kernel_rfl
def yxq (x:(yeD).X):Nat:=18446744073709551616
def ypP (x:(yeD).X):Option ((yex).X ⊕ (yeJ).X):=zr yba (yxq x) (yxe x)
def yxG:Seg:=⟨yeD,yex,yeJ,ypP⟩
def yAL:Nat→Option Seg:=fun q=>bif Nat.beq q 13 then some yxG else yAK q
theorem yLX:FrOk Tryz.prog ⟨yoh,38,yAL⟩ yh0:=(yLW).loop (sg:=yxG) yaU yxe (by decide) yLy yba yxq (by decide) (fun _=>rfl) (fun x r _ h=>h) yNc
abbrev ycO:List Par:= [.pt tA (.pr .fz (.pr (.pr .fz .fz) (.pr (.ow (.pr (.ow (.ow .fz)) (.pr (.ow (.pr .fz (.ow .fz))) (.pr .fz (.ow .fz))))) (.pr .fz (.pr .fz (.pr .fz (.pr .fz (.pr .fz (.pr (.ow (.pr .fz (.ow .fz))) (.pr .fz (.pr .fz .fz)))))))))))]
abbrev yiS:List OT:= [⟨false,tB,.fz⟩]
def yke (a0:dA):Option (ResD yiS×MutD ycO) :=
 zjw (ypP ((((),()),((a0.2.2.1.length:Int),()),((),()),()),((a0.1,a0.2.1.1,a0.2.1.2,(),a0.2.2.2.1,a0.2.2.2.2.1,a0.2.2.2.2.2.1,a0.2.2.2.2.2.2.1,a0.2.2.2.2.2.2.2.1,(),a0.2.2.2.2.2.2.2.2.2.1,a0.2.2.2.2.2.2.2.2.2.2.1,a0.2.2.2.2.2.2.2.2.2.2.2,()),()),(a0.2.2.1,a0.2.2.2.2.2.2.2.2.1,()))) (fun y4 =>
 some ((true,()),((y4.2.1.1.1,(y4.2.1.1.2.1,y4.2.1.1.2.2.1),y4.2.2.1,y4.2.1.1.2.2.2.2.1,y4.2.1.1.2.2.2.2.2.1,y4.2.1.1.2.2.2.2.2.2.1,y4.2.1.1.2.2.2.2.2.2.2.1,y4.2.1.1.2.2.2.2.2.2.2.2.1,y4.2.2.2.1,y4.2.1.1.2.2.2.2.2.2.2.2.2.2.1,y4.2.1.1.2.2.2.2.2.2.2.2.2.2.2.1,y4.2.1.1.2.2.2.2.2.2.2.2.2.2.2.2.1),()))) (fun y4 =>
 some ((y4.1.1.1,()),((y4.2.1.1.1,(y4.2.1.1.2.1,y4.2.1.1.2.2.1),y4.2.2.1,y4.2.1.1.2.2.2.2.1,y4.2.1.1.2.2.2.2.2.1,y4.2.1.1.2.2.2.2.2.2.1,y4.2.1.1.2.2.2.2.2.2.2.1,y4.2.1.1.2.2.2.2.2.2.2.2.1,y4.2.2.2.1,y4.2.1.1.2.2.2.2.2.2.2.2.2.2.1,y4.2.1.1.2.2.2.2.2.2.2.2.2.2.2.1,y4.2.1.1.2.2.2.2.2.2.2.2.2.2.2.2.1),())))
theorem yTW (x:InD ycO):zjH ⟨yoh,38,yAL⟩ Tryz.f202.results.toList yh0 ycO yiS x=yke x.1:=by kernel_rfl
theorem yOU:ConOk Tryz.prog 202 ⟨ycO,yiS,fun x=>yke x.1⟩:=zkh (yLX) Tryz.func202 (by kernel_rfl) (by kernel_rfl) Tryz.ntmps202.symm (by decide) (fun x r h=>(yTW x).trans h)
def yjk (a0:dA):Bool×dA:=(!(yd (yz a0)),yz a0)
def yfl (a0:dA):Bool:= !(yd a0)
theorem yRQ (a0:dA) (hk:zi9 ycO (a0,())) (hq:yfl a0=true):yke a0=(fun n=>some ((n.1,()),(n.2,()))) (yjk a0):=by
 have hb:a0.2.2.1.length * 80≤2 ^ 47:=hk.1.2.2.1.1
 have h1:ypP (yKr a0.2.2.1.length a0)=some (bif yd (yz a0) then .inr (ynW false (yz a0)) else .inl (ynU (yz a0))):=by
  have:=zkr (step:=yba) a0.2.2.1.length (fun i s=>yhr a0.2.2.1.length i s) (fun i s=>bif yd (yC s i) then (.inr (yC s i):dA ⊕ dA) else .inl (yC s i)) (fun _ s=>s.2.2.1.length=a0.2.2.1.length∧yd s=false) id
   (fun b=>bif yd b then .inr (ynW false b) else .inl (ynU b)) (fun i s hi hs=>by
    constructor
    ·rw [y24 hs.2]
     simp only [yba,yhr,yn2,hs.1,zjI (show (i:Int) < a0.2.2.1.length by omega),cond_true,wr (show -9223372036854775808≤(i:Int)+1 by omega) (by omega),Int.natCast_add,Int.natCast_one,Int.toNat_natCast,zkO hi,zkV,yVa hs.2,yau,yjl]
     cases hf:(nth s.2.2.1 i yh).2.2.1
     ·cases ho:(opA s).1
      ·have e:yC s i=(opA s).2:=by unfold yC; rw [hf,ho]; rfl
       have d:yd (opA s).2=true:=by rw [yZG hs.2,ho]; rfl
       rw [e]
       simp only [Bool.not_false,Bool.and_self,cond_true,cond_false,d,yau,ynW]
      ·have e:yC s i=yz2 (opA s).2 i (yfr (nth s.2.2.1 i yh)):=by unfold yC; rw [hf,ho]; rfl
       rw [e]
       simp only [Bool.not_true,Bool.not_false,Bool.and_false,cond_true,cond_false,yhr,yz2,yau,Int.toNat_natCast]
     ·have e:yC s i=s:=by unfold yC; rw [hf]; rfl
      rw [e]; rfl
    ·intro s' h
     cases hd:yd (yC s i)
     ·rw [hd]at h
      cases h
      exact ⟨(ysP s i).trans hs.1,hd⟩
     ·rw [hd]at h; cases h) (fun s hs=>by simp only [yba,yhr,yn2,hs.2,zkm (Int.le_refl _),cond_false,id,ynU]) a0 ⟨rfl,by simpa [yfl] using hq⟩ 18446744073709551616 (by omega)
  rw [yEl (fun a i h=>yNn i h),← List.range_eq_range'] at this
  exact this
 unfold yke yjk
 rw [h1]
 cases hd:yd (yz a0)<;>rfl
def yfk (a0:dA):Option (ResD yiS×MutD ycO):=bif yfl a0 then (fun n=>some ((n.1,()),(n.2,()))) (yjk a0) else none
theorem yup (a0:dA) (h:yfl a0=true):yfk a0=(fun n=>some ((n.1,()),(n.2,()))) (yjk a0):=by unfold yfk; rw [h]; rfl
def yj9:Con:=⟨ycO,yiS,fun x=>yfk x.1⟩
theorem yuo:ConOk Tryz.prog 202 yj9:=(yOU).mono (fun x r hk h=>zkW h (fun hq=>yRQ x.1 hk hq))
end
end
end Go.Tf
