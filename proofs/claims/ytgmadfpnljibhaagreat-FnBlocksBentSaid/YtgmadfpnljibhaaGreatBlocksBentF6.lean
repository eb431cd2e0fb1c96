/- Functions of the program, and what they come to. -/
import Derived.Test.YtgmadfpnljibhaaGreatBlocksBentF5
namespace Go.Tf
noncomputable section
open Go.Proofs
set_option synthInstance.maxHeartbeats 400000
set_option synthInstance.maxSize 10000
set_option linter.unusedVariables false
set_option linter.unusedSimpArgs false
set_option maxRecDepth 100000
section
def yDG:Code:=(Tryz.f107.body).getD .skip
def yD5:Env:=zj3 TT [(129,yCz),(205,yxo)] []
theorem yMs:FrOk Tryz.prog ⟨yD5,39,fun _=>none⟩ yDG:=zj7 yb yc ⟨yVp,yJP,trivial⟩
def yNn:Nat→Option Seg:=fun _=>none
abbrev ycE:List Par:= [.pt tA (.pr .fz (.pr (.pr .fz .fz) (.pr (.ow (.pr (.ow (.ow .fz)) (.pr (.ow (.pr .fz (.ow .fz))) (.pr .fz (.ow .fz))))) (.pr .fz (.pr .fz (.pr .fz (.pr .fz (.pr .fz (.pr (.ow (.pr .fz (.ow .fz))) (.pr .fz (.pr .fz .fz))))))))))),.rd tI,.rd tI,.rd tL]
abbrev yih:List OT:= [⟨false,tB,.fz⟩]
def ykJ (a0:dA) (a1 a2:Int) (a3:List Int):Option (ResD yih×MutD ycE) :=
 bif (inb a1 a0.2.2.1.length) then
 bif (((nth a0.2.2.1 a1 ([],[],false,[])).2).2).1 then
 some ((true,()),(a0,()))
 else
 let r1:=yi8 a0
 bif (!r1.1) then
 some ((false,()),(r1.2,()))
 else
 bif (inb a1 r1.2.2.2.1.length) then
 let r2:=yky ((nth r1.2.2.2.1 a1 ([],[],false,[])).1,((nth r1.2.2.2.1 a1 ([],[],false,[])).2).1,(((nth r1.2.2.2.1 a1 ([],[],false,[])).2).2)) a2 a3
 bif (inb a1 r1.2.2.2.1.length) then
 some ((true,()),((r1.2.1,r1.2.2.1,(r1.2.2.2.1.set (a1).toNat r2.1),r1.2.2.2.2),()))
 else none
 else none
 else none
theorem ySW (x:InD ycE):zjx ⟨yD5,39,yNn⟩ Tryz.f107.results.toList yDG ycE yih x=ykJ x.1 x.2.1 x.2.2.1 x.2.2.2.1:=by kernel_rfl
theorem yPg:ConOk Tryz.prog 107 ⟨ycE,yih,fun x=>ykJ x.1 x.2.1 x.2.2.1 x.2.2.2.1⟩:=zj2 (yMs) Tryz.func107 (by kernel_rfl) (by kernel_rfl) Tryz.ntmps107.symm (by decide) (fun x r h=>(ySW x).trans h)
def ycR (a0:dA) (a1 a2:Int) (a3:List Int):Bool×dA:=(!(ye (yds a0 a1 a2 a3)),yds a0 a1 a2 a3)
def ycU (a0:dA) (a1 a2:Int) (a3:List Int):Bool:=inb a1 a0.2.2.1.length&& !(ye a0)
theorem yRp (a0:dA) (a1 a2:Int) (a3:List Int) (hk:zi2 ycE (a0,a1,a2,a3,())) (hq:ycU a0 a1 a2 a3=true):ykJ a0 a1 a2 a3=(fun n=>some ((n.1,()),(n.2,()))) (ycR a0 a1 a2 a3):=by
 simp only [ycU,Bool.and_eq_true,Bool.not_eq_true'] at hq
 unfold ykJ ycR
 simp only [y65 hq.2]
 unfold yds setMem
 simp only [yX8 hq.2,yaN,hq.1,zks,yky]
 cases (nth a0.2.2.1 a1 noMem).2.2.1<;>cases (opA a0).1<;>rfl
def ye7 (a0:dA) (a1 a2:Int) (a3:List Int):Option (ResD yih×MutD ycE):=bif ycU a0 a1 a2 a3 then (fun n=>some ((n.1,()),(n.2,()))) (ycR a0 a1 a2 a3) else none
theorem ytx (a0:dA) (a1 a2:Int) (a3:List Int) (h:ycU a0 a1 a2 a3=true):ye7 a0 a1 a2 a3=(fun n=>some ((n.1,()),(n.2,()))) (ycR a0 a1 a2 a3):=by unfold ye7; rw [h]; rfl
def yko:Con:=⟨ycE,yih,fun x=>ye7 x.1 x.2.1 x.2.2.1 x.2.2.2.1⟩
theorem ytw:ConOk Tryz.prog 107 yko:=(yPg).mono (fun x r hk h=>zkt h (fun hq=>yRp x.1 x.2.1 x.2.2.1 x.2.2.2.1 hk hq))
end
section
def yIg:Code:=(Tryz.f128.body).getD .skip
def yI1:Env:=zj3 TT [] []
theorem yQD:FrOk Tryz.prog ⟨yI1,23,fun _=>none⟩ yIg:=zj7 yb yc trivial
def ySu:Nat→Option Seg:=fun _=>none
abbrev ylV:List Par:= [.rd tA,.rd tI]
abbrev ysj:List OT:= [⟨false,tS,(.pr .fz (.pr .fz (.pr .fz (.pr .fz (.pr .fz (.pr .fz (.pr .fz .fz)))))))⟩]
def yvJ (a0:dA) (a1:Int):Option (ResD ysj×MutD ylV) :=
 some (((a0.1,a0.2.2.2.2.2.2.2.1,a1,a0.2.1.1,a0.2.1.2,a0.2.2.2.2.2.2.1,a0.2.2.2.1,a0.2.2.2.2.1),()),())
theorem y0r (x:InD ylV):zjx ⟨yI1,23,ySu⟩ Tryz.f128.results.toList yIg ylV ysj x=yvJ x.1 x.2.1:=by kernel_rfl
theorem yU1:ConOk Tryz.prog 128 ⟨ylV,ysj,fun x=>yvJ x.1 x.2.1⟩:=zj2 (yQD) Tryz.func128 (by kernel_rfl) (by kernel_rfl) Tryz.ntmps128.symm (by decide) (fun x r h=>(y0r x).trans h)
def ysA (a0:dA) (a1:Int):dS :=
 (a0.1,a0.2.2.2.2.2.2.2.1,a1,a0.2.1.1,a0.2.1.2,a0.2.2.2.2.2.2.1,a0.2.2.2.1,a0.2.2.2.2.1)
def yEs:Con:=⟨ylV,ysj,fun x=>(fun n=>some ((n,()),())) (ysA x.1 x.2.1)⟩
theorem yYo (a0:dA) (a1:Int):yvJ a0 a1=(fun n=>some ((n,()),())) (ysA a0 a1):=zkq (p:=fun (n:dS)=>((n,()),())) rfl
theorem yZp:ConOk Tryz.prog 128 yEs:=(yU1).mono (fun x r _ h=>(yYo x.1 x.2.1).trans h)
end
section
def yIc:Code:=(Tryz.f218.body).getD .skip
def yIX:Env:=zj3 TT [(122,ymn),(126,yy),(131,yxw)] []
theorem yQs:FrOk Tryz.prog ⟨yIX,44,fun _=>none⟩ yIc:=zj7 yb yc ⟨yuW,yN,yJV,trivial⟩
def ySq:Nat→Option Seg:=fun _=>none
abbrev ylP:List Par:= [.rd tS]
abbrev ysd:List OT:= [⟨false,tB,.fz⟩]
def yvG (a0:dS):Option (ResD ysd×MutD ylP) :=
 let r1:=yf a0.1 1 60000
 bif r1 then
 let r2:=yf a0.2.1 0 60000
 bif r2 then
 let r3:=yf a0.2.2.2.2.2.1 0 60000
 bif r3 then
 let r4:=yct (a0.2.2.2.1,a0.2.2.2.2.1)
 bif r4 then
 let r5:=yf a0.2.2.1 0 (IntKind.i64.wrap (a0.2.2.2.1 - 1))
 bif r5 then
 let r6:=ygs (a0.2.2.2.1,a0.2.2.2.2.1) a0.2.2.2.2.2.2.1 a0.2.2.2.2.2.2.2
 some ((r6,()),())
 else
 some ((false,()),())
 else
 some ((false,()),())
 else
 some ((false,()),())
 else
 some ((false,()),())
 else
 some ((false,()),())
theorem y0k (x:InD ylP):zjx ⟨yIX,44,ySq⟩ Tryz.f218.results.toList yIc ylP ysd x=yvG x.1:=by kernel_rfl
theorem yUU:ConOk Tryz.prog 218 ⟨ylP,ysd,fun x=>yvG x.1⟩:=zj2 (yQs) Tryz.func218 (by kernel_rfl) (by kernel_rfl) Tryz.ntmps218.symm (by decide) (fun x r h=>(y0k x).trans h)
def yhz (a0:dS):Bool :=
 let r1:=yf a0.1 1 60000
 bif r1 then
 let r2:=yf a0.2.1 0 60000
 bif r2 then
 let r3:=yf a0.2.2.2.2.2.1 0 60000
 bif r3 then
 let r4:=yct (a0.2.2.2.1,a0.2.2.2.2.1)
 bif r4 then
 let r5:=yf a0.2.2.1 0 (IntKind.i64.wrap (a0.2.2.2.1 - 1))
 bif r5 then
 let r6:=ygs (a0.2.2.2.1,a0.2.2.2.2.1) a0.2.2.2.2.2.2.1 a0.2.2.2.2.2.2.2
 r6
 else
 false
 else
 false
 else
 false
 else
 false
 else
 false
def yEo:Con:=⟨ylP,ysd,fun x=>(fun n=>some ((n,()),())) (yhz x.1)⟩
theorem yYh (a0:dS):yvG a0=(fun n=>some ((n,()),())) (yhz a0):=zkq (p:=fun (n:Bool)=>((n,()),())) (zkc (p:=fun (n:Bool)=>((n,()),())) (zkc (p:=fun (n:Bool)=>((n,()),())) (zkc (p:=fun (n:Bool)=>((n,()),())) (zkc (p:=fun (n:Bool)=>((n,()),())) (zkc (p:=fun (n:Bool)=>((n,()),())) rfl rfl) rfl) rfl) rfl) rfl)
theorem yZl:ConOk Tryz.prog 218 yEo:=(yUU).mono (fun x r _ h=>(yYh x.1).trans h)
theorem y3E (s:dS):yhz s=ybG s:=by
 rw [Bool.eq_iff_iff,y5C]
 unfold yhz ygs
 simp only [yX7,yag]
 cases hg:yg (s.2.2.2.1,s.2.2.2.2.1)
 ·cases ya s.1 1 60000<;>cases ya s.2.1 0 60000<;>cases ya s.2.2.2.2.2.1 0 60000<;>simp
 have hg2:=yk.1 hg
 simp only at hg2
 rw [wr (show -9223372036854775808≤s.2.2.2.1 - 1 by omega) (by omega)]
 simp only [← yxS]
 cases ya s.1 1 60000
 ·simp
 cases ya s.2.1 0 60000
 ·simp
 cases ya s.2.2.2.2.2.1 0 60000
 ·simp
 cases ya s.2.2.1 0 (s.2.2.2.1 - 1)
 ·simp
 cases hl:ya s.2.2.2.2.2.2.1 (-1) (s.2.2.2.1 - 1)
 ·simp
 cases ya s.2.2.2.2.2.2.2 0 s.2.2.2.2.1
 ·simp
 have:=yxS.1 hl
 by_cases h0:s.2.2.2.2.2.2.2=0
 ·simp [h0]
 ·simp [h0]; omega
end
section
def yF4:Code:=(Tryz.f201.body).getD .skip
def yGK:Env:=zj3 TT [(218,yEo)] []
theorem yOh:FrOk Tryz.prog ⟨yGK,24,fun _=>none⟩ yF4:=zj7 yb yc ⟨yZl,trivial⟩
def yPQ:Nat→Option Seg:=fun _=>none
abbrev yjp:List Par:= [.rd tS]
abbrev ypH:List OT:= [⟨false,tL,(.ow .fz)⟩]
def ytz (a0:dS):Option (ResD ypH×MutD yjp) :=
 let r1:=yhz a0
 bif (!r1) then
 some (([],()),())
 else
 some ((([21317,a0.1,a0.2.1,a0.2.2.1,a0.2.2.2.1,a0.2.2.2.2.1,a0.2.2.2.2.2.1,(IntKind.i64.wrap (a0.2.2.2.2.2.2.1+1)),a0.2.2.2.2.2.2.2]:List Int),()),())
theorem yWV (x:InD yjp):zjx ⟨yGK,24,yPQ⟩ Tryz.f201.results.toList yF4 yjp ypH x=ytz x.1:=by kernel_rfl
theorem yRz:ConOk Tryz.prog 201 ⟨yjp,ypH,fun x=>ytz x.1⟩:=zj2 (yOh) Tryz.func201 (by kernel_rfl) (by kernel_rfl) Tryz.ntmps201.symm (by decide) (fun x r h=>(yWV x).trans h)
def ykw (a0:dS):(List Int) :=
 let r1:=yhz a0
 bif (!r1) then
 []
 else
 ([21317,a0.1,a0.2.1,a0.2.2.1,a0.2.2.2.1,a0.2.2.2.2.1,a0.2.2.2.2.2.1,(IntKind.i64.wrap (a0.2.2.2.2.2.2.1+1)),a0.2.2.2.2.2.2.2]:List Int)
def yCx:Con:=⟨yjp,ypH,fun x=>(fun n=>some ((n,()),())) (ykw x.1)⟩
theorem yUy (a0:dS):ytz a0=(fun n=>some ((n,()),())) (ykw a0):=zkq (p:=fun (n:(List Int))=>((n,()),())) (zkc (p:=fun (n:(List Int))=>((n,()),())) rfl rfl)
theorem yVn:ConOk Tryz.prog 201 yCx:=(yRz).mono (fun x r _ h=>(yUy x.1).trans h)
theorem y5s (s:dS):ykw s=yM s:=by
 unfold ykw yM
 rw [y3E]
end
section
def yjg:Code:=(Tryz.f130.body).getD .skip
def ypu:Env:=zj3 TT [(133,ymo),(200,yaS),(219,ynj)] []
theorem yOd:FrOk Tryz.prog ⟨ypu,34,fun _=>none⟩ yjg:=zj7 yb yc ⟨yuX,ycT,yx4,trivial⟩
def yBX:Nat→Option Seg:=fun _=>none
def ybo:Shape:=⟨[(2,false,[.ptr 64 0]),(3,false,[.ptr 4224 0]),(17,false,[.br tW]),(18,false,[.int .i64]),(19,false,[.int .i64])],[(64,[.nil,.nil,.bool,.nil]),(4224,[.at 800000000,.at 800000001,.bool,.at 800000002])],[(800000000,tL,(.ow .fz)),(800000001,tW,(.pr .fz (.ow .fz))),(800000002,tI,.fz)]⟩
def yfz:Shape:=⟨[(2,false,[.ptr 64 0]),(3,false,[.ptr 4224 0]),(17,false,[.br tW]),(18,false,[.int .i64]),(19,false,[.ci .i64 0])],[(64,[.nil,.nil,.bool,.nil]),(4224,[.at 800000000,.at 800000001,.bool,.at 800000002])],[(800000000,tL,(.ow .fz)),(800000001,tW,(.pr .fz (.ow .fz))),(800000002,tI,.fz)]⟩
def yfr:Shape:=⟨[(2,false,[.ptr 64 0]),(3,false,[.ptr 4224 0])],[(64,[.nil,.nil,.bool,.nil]),(4224,[.at 800000000,.at 800000001,.bool,.at 800000002])],[(800000000,tL,(.ow .fz)),(800000001,tW,(.pr .fz (.ow .fz))),(800000002,tI,.fz)]⟩
def ykb:Shape:=⟨[],[],[]⟩
abbrev yo5 (v0:List dW) (v1 v2:Int) (v3 v4:dM):(ybo).X:=((((),()),((),()),(v0,()),(v1,()),(v2,()),()),(((),(),v3.2.2.1,(),()),((),(),v4.2.2.1,(),()),()),(v4.1,v4.2.1,v4.2.2.2,()))
abbrev yME (v0:List dW) (v1:Int) (v2 v3:dM):(yfz).X:=((((),()),((),()),(v0,()),(v1,()),((),()),()),(((),(),v2.2.2.1,(),()),((),(),v3.2.2.1,(),()),()),(v3.1,v3.2.1,v3.2.2.2,()))
abbrev yzb (v0 v1:dM):(yfr).X:=((((),()),((),()),()),(((),(),v0.2.2.1,(),()),((),(),v1.2.2.1,(),()),()),(v1.1,v1.2.1,v1.2.2.2,()))
def ypk (v0:List dW) (v1 v2:Int) (v3 v4:Bool) (v5:List (List Int)) (v6:List dW) (v7:List Int):Option ((ybo).X ⊕ ((yfr).X ⊕ (ykb).X)) :=
 bif (ltb v2 v1) then
 bif (inb v2 v0.length) then
 let r4:=yl ((nth v0 v2 (0,[])).2)
 bif (inb ((nth v0 v2 (0,[])).1) v5.length) then
 some (.inl ((((),()),((),()),(v0,()),(v1,()),((IntKind.i64.wrap (v2+1)),()),()),(((),(),v3,(),()),((),(),v4,(),()),()),((v5.set ((nth v0 v2 (0,[])).1).toNat r4),v6,v7,())))
 else none
 else none
 else
 some (.inr (.inl ((((),()),((),()),()),(((),(),v3,(),()),((),(),v4,(),()),()),(v5,v6,v7,()))))
def ybL (x:(ybo).X):=ypk x.1.2.2.1.1 x.1.2.2.2.1.1 x.1.2.2.2.2.1.1 x.2.1.1.2.2.1 x.2.1.2.1.2.2.1 x.2.2.1 x.2.2.2.1 x.2.2.2.2.1
def yyV (x:(yfz).X):(ybo).X:=((((),()),((),()),(x.1.2.2.1.1,()),(x.1.2.2.2.1.1,()),(0,()),()),(((),(),x.2.1.1.2.2.1,(),()),((),(),x.2.1.2.1.2.2.1,(),()),()),(x.2.2.1,x.2.2.2.1,x.2.2.2.2.1,()))
def yAq:Code:=(zdD yjg 64 244).getD .skip
theorem yNL:zdD yjg 64 61=some (.block 0 (.loop yAq)):=by kernel_rfl
theorem yPw (x:(ybo).X):zg0 ⟨ypu,34,yBX⟩ 0 yAq 244 ybo yfr ykb x=ybL x:=by kernel_rfl
def yy4 (x:(yfz).X):Nat:=18446744073709551616
def yqY (x:(yfz).X):Option ((yfr).X ⊕ (ykb).X):=zz ybL (yy4 x) (yyV x)
def yzi:Seg:=⟨yfz,yfr,ykb,yqY⟩
def yBY:Nat→Option Seg:=fun q=>bif Nat.beq q 61 then some yzi else yBX q
theorem yOe:FrOk Tryz.prog ⟨ypu,34,yBY⟩ yjg:=(yOd).loop (sg:=yzi) ybo yyV (by decide) yNL ybL yy4 (by decide) (fun _=>rfl) (fun x r _ h=>h) yPw
abbrev yfP:List Par:= [.rd tM]
abbrev ypE:List OT:= [⟨false,tM,(.pr (.ow (.ow .fz)) (.pr (.ow (.pr .fz (.ow .fz))) (.pr .fz (.ow .fz))))⟩]
def ylj (a0:dM):Option (ResD ypE×MutD yfP) :=
 let r1:=ybF a0
 let r2:=ybv a0
 bif (!(!r2)) then
 bif a0.2.2.1 then
 some ((r1,()),())
 else
 zjZ (yqY ((((),()),((),()),(a0.2.1,()),((a0.2.1.length:Int),()),((),()),()),(((),(),false,(),()),((),(),r1.2.2.1,(),()),()),(r1.1,r1.2.1,r1.2.2.2,()))) (fun y4 =>
 some (((y4.2.2.1,[],y4.2.1.2.1.2.2.1,y4.2.2.2.2.1),()),())) (fun y4 =>
 none)
 else
 some ((r1,()),())
theorem yWS (x:InD yfP):zjx ⟨ypu,34,yBY⟩ Tryz.f130.results.toList yjg yfP ypE x=ylj x.1:=by kernel_rfl
theorem yRw:ConOk Tryz.prog 130 ⟨yfP,ypE,fun x=>ylj x.1⟩:=zj2 (yOe) Tryz.func130 (by kernel_rfl) (by kernel_rfl) Tryz.ntmps130.symm (by decide) (fun x r h=>(yWS x).trans h)
def yku (a0:dM):dM:=ye4 a0
theorem yUv (a0:dM) (hk:zi2 yfP (a0,())):ylj a0=(fun n=>some ((n,()),())) (yku a0):=by
 have hb2:a0.2.1.length * 32≤2 ^ 47:=hk.1.2.1.1
 unfold ylj yku ye4
 simp only [ybF,ybv]
 cases hm:yw a0
 ·rfl
 have h1:yqY (yME a0.2.1 a0.2.1.length noMem a0)=some (.inl (yzb noMem (yms (fun _=>true) a0.2.1 a0.1,a0.2))) :=
  zj9 (step:=ybL) a0.2.1.length (fun i s=>yo5 a0.2.1 a0.2.1.length i noMem (s,a0.2)) (yxT (fun _=>true) a0.2.1) (fun i s=>s.length=a0.1.length) (fun s=> .inl (yzb noMem (s,a0.2))) (fun i s hi hs=>by
   have hw:=(y43 hm hi).1
   refine ⟨?_,yKr.trans hs⟩
   simp only [ybL,yo5,ypk,zj5 (show (i:Int) < a0.2.1.length by omega),cond_true,wr (show -9223372036854775808≤(i:Int)+1 by omega) (by omega),Int.natCast_add,Int.natCast_one,Int.toNat_natCast,zkm hi,hs,hw,yxT,yl]) (fun s hs=>by simp only [ybL,yo5,ypk,zky (Int.le_refl _),cond_false]) a0.1 rfl _ (by show _ < 18446744073709551616; omega)
 rw [h1]
 cases hf:a0.2.2.1
 ·exact congrArg (fun z=>some (((yms (fun _=>true) a0.2.1 a0.1,([]:List dW),z,a0.2.2.2),()),())) hf
 ·rfl
def yCv:Con:=⟨yfP,ypE,fun x=>(fun n=>some ((n,()),())) (yku x.1)⟩
theorem yVl:ConOk Tryz.prog 130 yCv:=(yRw).mono (fun x r hk h=>(yUv x.1 hk).trans h)
end
section
def yje:Code:=(Tryz.f202.body).getD .skip
def yps:Env:=zj3 TT [(130,yCv),(205,yxo)] []
theorem yN9:FrOk Tryz.prog ⟨yps,38,fun _=>none⟩ yje:=zj7 yb yc ⟨yVl,yJP,trivial⟩
def yBT:Nat→Option Seg:=fun _=>none
def ybm:Shape:=⟨[(0,false,[.ptr 1000000000 0]),(8,false,[.int .i64]),(9,false,[.int .i64])],[(1000000000,[.int .i64,.int .i64,.int .i64,.at 800000000,.int .i64,.int .i64,.int .i64,.int .i64,.int .i64,.at 800000001,.int .i64,.bool,.bool])],[(800000000,tM,(.pr (.ow (.ow .fz)) (.pr (.ow (.pr .fz (.ow .fz))) (.pr .fz (.ow .fz))))),(800000001,tW,(.pr .fz (.ow .fz)))]⟩
def yfx:Shape:=⟨[(0,false,[.ptr 1000000000 0]),(8,false,[.int .i64]),(9,false,[.ci .i64 0])],[(1000000000,[.int .i64,.int .i64,.int .i64,.at 800000000,.int .i64,.int .i64,.int .i64,.int .i64,.int .i64,.at 800000001,.int .i64,.bool,.bool])],[(800000000,tM,(.pr (.ow (.ow .fz)) (.pr (.ow (.pr .fz (.ow .fz))) (.pr .fz (.ow .fz))))),(800000001,tW,(.pr .fz (.ow .fz)))]⟩
def yfp:Shape:=⟨[],[(1000000000,[.int .i64,.int .i64,.int .i64,.at 800000000,.int .i64,.int .i64,.int .i64,.int .i64,.int .i64,.at 800000001,.int .i64,.bool,.bool])],[(800000000,tM,(.pr (.ow (.ow .fz)) (.pr (.ow (.pr .fz (.ow .fz))) (.pr .fz (.ow .fz))))),(800000001,tW,(.pr .fz (.ow .fz)))]⟩
def yfF:Shape:=⟨[(2,false,[.bool])],[(1000000000,[.int .i64,.int .i64,.int .i64,.at 800000000,.int .i64,.int .i64,.int .i64,.int .i64,.int .i64,.at 800000001,.int .i64,.bool,.bool])],[(800000000,tM,(.pr (.ow (.ow .fz)) (.pr (.ow (.pr .fz (.ow .fz))) (.pr .fz (.ow .fz))))),(800000001,tW,(.pr .fz (.ow .fz)))]⟩
abbrev yiJ (v0 v1:Int) (v2:dA):(ybm).X:=((((),()),(v0,()),(v1,()),()),((v2.1,v2.2.1.1,v2.2.1.2,(),v2.2.2.2.1,v2.2.2.2.2.1,v2.2.2.2.2.2.1,v2.2.2.2.2.2.2.1,v2.2.2.2.2.2.2.2.1,(),v2.2.2.2.2.2.2.2.2.2.1,v2.2.2.2.2.2.2.2.2.2.2.1,v2.2.2.2.2.2.2.2.2.2.2.2,()),()),(v2.2.2.1,v2.2.2.2.2.2.2.2.2.1,()))
abbrev yMC (v0:Int) (v1:dA):(yfx).X:=((((),()),(v0,()),((),()),()),((v1.1,v1.2.1.1,v1.2.1.2,(),v1.2.2.2.1,v1.2.2.2.2.1,v1.2.2.2.2.2.1,v1.2.2.2.2.2.2.1,v1.2.2.2.2.2.2.2.1,(),v1.2.2.2.2.2.2.2.2.2.1,v1.2.2.2.2.2.2.2.2.2.2.1,v1.2.2.2.2.2.2.2.2.2.2.2,()),()),(v1.2.2.1,v1.2.2.2.2.2.2.2.2.1,()))
abbrev ypa (v0:dA):(yfp).X:=((),((v0.1,v0.2.1.1,v0.2.1.2,(),v0.2.2.2.1,v0.2.2.2.2.1,v0.2.2.2.2.2.1,v0.2.2.2.2.2.2.1,v0.2.2.2.2.2.2.2.1,(),v0.2.2.2.2.2.2.2.2.2.1,v0.2.2.2.2.2.2.2.2.2.2.1,v0.2.2.2.2.2.2.2.2.2.2.2,()),()),(v0.2.2.1,v0.2.2.2.2.2.2.2.2.1,()))
abbrev ypc (v0:Bool) (v1:dA):(yfF).X:=(((v0,()),()),((v1.1,v1.2.1.1,v1.2.1.2,(),v1.2.2.2.1,v1.2.2.2.2.1,v1.2.2.2.2.2.1,v1.2.2.2.2.2.2.1,v1.2.2.2.2.2.2.2.1,(),v1.2.2.2.2.2.2.2.2.2.1,v1.2.2.2.2.2.2.2.2.2.2.1,v1.2.2.2.2.2.2.2.2.2.2.2,()),()),(v1.2.2.1,v1.2.2.2.2.2.2.2.2.1,()))
def ypi (v0 v1 v2 v3 v4 v5 v6 v7 v8 v9 v10:Int) (v11 v12:Bool) (v13:List dM) (v14:List dW):Option ((ybm).X ⊕ ((yfp).X ⊕ (yfF).X)) :=
 bif (ltb v1 v0) then
 bif (inb v1 v13.length) then
 bif (((nth v13 v1 ([],[],false,[])).2).2).1 then
 some (.inl ((((),()),(v0,()),((IntKind.i64.wrap (v1+1)),()),()),((v2,v3,v4,(),v5,v6,v7,v8,v9,(),v10,v11,v12,()),()),(v13,v14,())))
 else
 let r3:=yi8 (v2,(v3,v4),v13,v5,v6,v7,v8,v9,v14,v10,v11,v12)
 bif (!r3.1) then
 some (.inr (.inr (((false,()),()),((r3.2.1,r3.2.2.1.1,r3.2.2.1.2,(),r3.2.2.2.2.1,r3.2.2.2.2.2.1,r3.2.2.2.2.2.2.1,r3.2.2.2.2.2.2.2.1,r3.2.2.2.2.2.2.2.2.1,(),r3.2.2.2.2.2.2.2.2.2.2.1,r3.2.2.2.2.2.2.2.2.2.2.2.1,r3.2.2.2.2.2.2.2.2.2.2.2.2,()),()),(r3.2.2.2.1,r3.2.2.2.2.2.2.2.2.2.1,()))))
 else
 bif (inb v1 r3.2.2.2.1.length) then
 let r4:=yku ((nth r3.2.2.2.1 v1 ([],[],false,[])).1,((nth r3.2.2.2.1 v1 ([],[],false,[])).2).1,(((nth r3.2.2.2.1 v1 ([],[],false,[])).2).2))
 bif (inb v1 r3.2.2.2.1.length) then
 some (.inl ((((),()),(v0,()),((IntKind.i64.wrap (v1+1)),()),()),((r3.2.1,r3.2.2.1.1,r3.2.2.1.2,(),r3.2.2.2.2.1,r3.2.2.2.2.2.1,r3.2.2.2.2.2.2.1,r3.2.2.2.2.2.2.2.1,r3.2.2.2.2.2.2.2.2.1,(),r3.2.2.2.2.2.2.2.2.2.2.1,r3.2.2.2.2.2.2.2.2.2.2.2.1,r3.2.2.2.2.2.2.2.2.2.2.2.2,()),()),((r3.2.2.2.1.set (v1).toNat r4),r3.2.2.2.2.2.2.2.2.2.1,())))
 else none
 else none
 else none
 else
 some (.inr (.inl ((),((v2,v3,v4,(),v5,v6,v7,v8,v9,(),v10,v11,v12,()),()),(v13,v14,()))))
def ybJ (x:(ybm).X):=ypi x.1.2.1.1 x.1.2.2.1.1 x.2.1.1.1 x.2.1.1.2.1 x.2.1.1.2.2.1 x.2.1.1.2.2.2.2.1 x.2.1.1.2.2.2.2.2.1 x.2.1.1.2.2.2.2.2.2.1 x.2.1.1.2.2.2.2.2.2.2.1 x.2.1.1.2.2.2.2.2.2.2.2.1 x.2.1.1.2.2.2.2.2.2.2.2.2.2.1 x.2.1.1.2.2.2.2.2.2.2.2.2.2.2.1 x.2.1.1.2.2.2.2.2.2.2.2.2.2.2.2.1 x.2.2.1 x.2.2.2.1
def yyT (x:(yfx).X):(ybm).X:=((((),()),(x.1.2.1.1,()),(0,()),()),((x.2.1.1.1,x.2.1.1.2.1,x.2.1.1.2.2.1,(),x.2.1.1.2.2.2.2.1,x.2.1.1.2.2.2.2.2.1,x.2.1.1.2.2.2.2.2.2.1,x.2.1.1.2.2.2.2.2.2.2.1,x.2.1.1.2.2.2.2.2.2.2.2.1,(),x.2.1.1.2.2.2.2.2.2.2.2.2.2.1,x.2.1.1.2.2.2.2.2.2.2.2.2.2.2.1,x.2.1.1.2.2.2.2.2.2.2.2.2.2.2.2.1,()),()),(x.2.2.1,x.2.2.2.1,()))
def yAo:Code:=(zdD yje 64 52).getD .skip
theorem yNJ:zdD yje 64 13=some (.block 0 (.loop yAo)):=by kernel_rfl
theorem yPu (x:(ybm).X):zg0 ⟨yps,38,yBT⟩ 0 yAo 52 ybm yfp yfF x=ybJ x:=by kernel_rfl
def yy2 (x:(yfx).X):Nat:=18446744073709551616
def yqW (x:(yfx).X):Option ((yfp).X ⊕ (yfF).X):=zz ybJ (yy2 x) (yyT x)
def yzg:Seg:=⟨yfx,yfp,yfF,yqW⟩
def yBU:Nat→Option Seg:=fun q=>bif Nat.beq q 13 then some yzg else yBT q
theorem yOa:FrOk Tryz.prog ⟨yps,38,yBU⟩ yje:=(yN9).loop (sg:=yzg) ybm yyT (by decide) yNJ ybJ yy2 (by decide) (fun _=>rfl) (fun x r _ h=>h) yPu
abbrev ydu:List Par:= [.pt tA (.pr .fz (.pr (.pr .fz .fz) (.pr (.ow (.pr (.ow (.ow .fz)) (.pr (.ow (.pr .fz (.ow .fz))) (.pr .fz (.ow .fz))))) (.pr .fz (.pr .fz (.pr .fz (.pr .fz (.pr .fz (.pr (.ow (.pr .fz (.ow .fz))) (.pr .fz (.pr .fz .fz)))))))))))]
abbrev yj0:List OT:= [⟨false,tB,.fz⟩]
def ylh (a0:dA):Option (ResD yj0×MutD ydu) :=
 zjZ (yqW ((((),()),((a0.2.2.1.length:Int),()),((),()),()),((a0.1,a0.2.1.1,a0.2.1.2,(),a0.2.2.2.1,a0.2.2.2.2.1,a0.2.2.2.2.2.1,a0.2.2.2.2.2.2.1,a0.2.2.2.2.2.2.2.1,(),a0.2.2.2.2.2.2.2.2.2.1,a0.2.2.2.2.2.2.2.2.2.2.1,a0.2.2.2.2.2.2.2.2.2.2.2,()),()),(a0.2.2.1,a0.2.2.2.2.2.2.2.2.1,()))) (fun y4 =>
 some ((true,()),((y4.2.1.1.1,(y4.2.1.1.2.1,y4.2.1.1.2.2.1),y4.2.2.1,y4.2.1.1.2.2.2.2.1,y4.2.1.1.2.2.2.2.2.1,y4.2.1.1.2.2.2.2.2.2.1,y4.2.1.1.2.2.2.2.2.2.2.1,y4.2.1.1.2.2.2.2.2.2.2.2.1,y4.2.2.2.1,y4.2.1.1.2.2.2.2.2.2.2.2.2.2.1,y4.2.1.1.2.2.2.2.2.2.2.2.2.2.2.1,y4.2.1.1.2.2.2.2.2.2.2.2.2.2.2.2.1),()))) (fun y4 =>
 some ((y4.1.1.1,()),((y4.2.1.1.1,(y4.2.1.1.2.1,y4.2.1.1.2.2.1),y4.2.2.1,y4.2.1.1.2.2.2.2.1,y4.2.1.1.2.2.2.2.2.1,y4.2.1.1.2.2.2.2.2.2.1,y4.2.1.1.2.2.2.2.2.2.2.1,y4.2.1.1.2.2.2.2.2.2.2.2.1,y4.2.2.2.1,y4.2.1.1.2.2.2.2.2.2.2.2.2.2.1,y4.2.1.1.2.2.2.2.2.2.2.2.2.2.2.1,y4.2.1.1.2.2.2.2.2.2.2.2.2.2.2.2.1),())))
theorem yWQ (x:InD ydu):zjx ⟨yps,38,yBU⟩ Tryz.f202.results.toList yje ydu yj0 x=ylh x.1:=by kernel_rfl
theorem yRu:ConOk Tryz.prog 202 ⟨ydu,yj0,fun x=>ylh x.1⟩:=zj2 (yOa) Tryz.func202 (by kernel_rfl) (by kernel_rfl) Tryz.ntmps202.symm (by decide) (fun x r h=>(yWQ x).trans h)
def yks (a0:dA):Bool×dA:=(!(ye (yK a0)),yK a0)
def yge (a0:dA):Bool:= !(ye a0)
theorem yUt (a0:dA) (hk:zi2 ydu (a0,())) (hq:yge a0=true):ylh a0=(fun n=>some ((n.1,()),(n.2,()))) (yks a0):=by
 have hb:a0.2.2.1.length * 80≤2 ^ 47:=hk.1.2.2.1.1
 have h1:yqW (yMC a0.2.2.1.length a0)=some (bif ye (yK a0) then .inr (ypc false (yK a0)) else .inl (ypa (yK a0))):=by
  have:=zj8 (step:=ybJ) a0.2.2.1.length (fun i s=>yiJ a0.2.2.1.length i s) (fun i s=>bif ye (yD s i) then (.inr (yD s i):dA ⊕ dA) else .inl (yD s i)) (fun _ s=>s.2.2.1.length=a0.2.2.1.length∧ye s=false) id
   (fun b=>bif ye b then .inr (ypc false b) else .inl (ypa b)) (fun i s hi hs=>by
    constructor
    ·rw [y5i hs.2]
     simp only [ybJ,yiJ,ypi,hs.1,zj5 (show (i:Int) < a0.2.2.1.length by omega),cond_true,wr (show -9223372036854775808≤(i:Int)+1 by omega) (by omega),Int.natCast_add,Int.natCast_one,Int.toNat_natCast,zkm hi,zks,yX8 hs.2,yaN,yku]
     cases hf:(nth s.2.2.1 i noMem).2.2.1
     ·cases ho:(opA s).1
      ·have e:yD s i=(opA s).2:=by unfold yD; rw [hf,ho]; rfl
       have d:ye (opA s).2=true:=by rw [y2k hs.2,ho]; rfl
       rw [e]
       simp only [Bool.not_false,Bool.and_self,cond_true,cond_false,d,yaN,ypc]
      ·have e:yD s i=setMem (opA s).2 i (ye4 (nth s.2.2.1 i noMem)):=by unfold yD; rw [hf,ho]; rfl
       rw [e]
       simp only [Bool.not_true,Bool.not_false,Bool.and_false,cond_true,cond_false,yiJ,setMem,yaN,Int.toNat_natCast]
     ·have e:yD s i=s:=by unfold yD; rw [hf]; rfl
      rw [e]; rfl
    ·intro s' h
     cases hd:ye (yD s i)
     ·rw [hd]at h
      cases h
      exact ⟨(yoW s i).trans hs.1,hd⟩
     ·rw [hd]at h; cases h) (fun s hs=>by simp only [ybJ,yiJ,ypi,hs.2,zky (Int.le_refl _),cond_false,id,ypa]) a0 ⟨rfl,by simpa [yge] using hq⟩ 18446744073709551616 (by omega)
  rw [yE6 (fun a i h=>yPD i h),← List.range_eq_range'] at this
  exact this
 unfold ylh yks
 rw [h1]
 cases hd:ye (yK a0)<;>rfl
def ygd (a0:dA):Option (ResD yj0×MutD ydu):=bif yge a0 then (fun n=>some ((n.1,()),(n.2,()))) (yks a0) else none
theorem yvF (a0:dA) (h:yge a0=true):ygd a0=(fun n=>some ((n.1,()),(n.2,()))) (yks a0):=by unfold ygd; rw [h]; rfl
def yla:Con:=⟨ydu,yj0,fun x=>ygd x.1⟩
theorem yvD:ConOk Tryz.prog 202 yla:=(yRu).mono (fun x r hk h=>zkt h (fun hq=>yUt x.1 hk hq))
end
end
end Go.Tf
