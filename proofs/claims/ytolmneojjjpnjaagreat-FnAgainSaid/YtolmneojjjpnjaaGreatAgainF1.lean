/- Functions of the program, and what they come to. -/
import Derived.Test.YtolmneojjjpnjaaGreatAgainF0
namespace Go.Tf
noncomputable section
open Go.Proofs Go.Proofs.Tryz
set_option synthInstance.maxHeartbeats 400000
set_option synthInstance.maxSize 10000
set_option linter.unusedVariables false
set_option linter.unusedSimpArgs false
set_option maxRecDepth 100000
section
def yGI:Code:=(f195.body).getD .skip
def yHk:Env:=zj0 TT [(82,yw),(150,ygQ)] []
theorem yOo:FrOk prog ⟨yHk,60,fun _=>none⟩ yGI:=zj4 yc yd ⟨yD,ynR,trivial⟩
def yQb:Nat→Option Seg:=fun _=>none
abbrev yk2:List Par:= [.rd tS]
abbrev yrm:List OT:= [⟨false,tB,.fz⟩]
def yuD (a0:dS):Option (ResD yrm×MutD yk2) :=
 let r1:=n_spec_GeoOk (a0.2.2.2.1,a0.2.2.2.2.1)
 bif(!(!r1))then
 let r2:=ya a0.1 1 60000
 bif(!(!r2))then
 let r3:=ya a0.2.1 0 60000
 bif(!(!r3))then
 let r4:=ya a0.2.2.1 0 (IntKind.i64.wrap (a0.2.2.2.1-1))
 bif(!(!r4))then
 let r5:=ya a0.2.2.2.2.2.1 0 60000
 bif(!r5)then
 some ((false,()),())
 else
 let r6:=ya a0.2.2.2.2.2.2.1 (-1) (IntKind.i64.wrap (a0.2.2.2.1-1))
 bif r6 then
 let r7:=ya a0.2.2.2.2.2.2.2 0 a0.2.2.2.2.1
 bif r7 then
 bif(!(leb 0 a0.2.2.2.2.2.2.1))then
 some (((a0.2.2.2.2.2.2.2==0),()),())
 else
 some ((true,()),())
 else
 some ((false,()),())
 else
 some ((false,()),())
 else
 some ((false,()),())
 else
 some ((false,()),())
 else
 some ((false,()),())
 else
 some ((false,()),())
theorem yX0 (x:InD yk2):zju ⟨yHk,60,yQb⟩ f195.results.toList yGI yk2 yrm x=yuD x.1:=by kernel_rfl
theorem ySG:ConOk prog 195 ⟨yk2,yrm,fun x=>yuD x.1⟩:=zjZ (yOo) func195 (by kernel_rfl) (by kernel_rfl) ntmps195.symm (by decide) (fun x r h=>(yX0 x).trans h)
def n_spec_SuperOk (a0:dS):Bool :=
 let r1:=n_spec_GeoOk (a0.2.2.2.1,a0.2.2.2.2.1)
 bif(!(!r1))then
 let r2:=ya a0.1 1 60000
 bif(!(!r2))then
 let r3:=ya a0.2.1 0 60000
 bif(!(!r3))then
 let r4:=ya a0.2.2.1 0 (IntKind.i64.wrap (a0.2.2.2.1-1))
 bif(!(!r4))then
 let r5:=ya a0.2.2.2.2.2.1 0 60000
 bif(!r5)then
 false
 else
 let r6:=ya a0.2.2.2.2.2.2.1 (-1) (IntKind.i64.wrap (a0.2.2.2.1-1))
 bif r6 then
 let r7:=ya a0.2.2.2.2.2.2.2 0 a0.2.2.2.2.1
 bif r7 then
 bif(!(leb 0 a0.2.2.2.2.2.2.1))then
 (a0.2.2.2.2.2.2.2==0)
 else
 true
 else
 false
 else
 false
 else
 false
 else
 false
 else
 false
 else
 false
def yC8:Con:=⟨yk2,yrm,fun x=>(fun n=>some ((n,()),())) (n_spec_SuperOk x.1)⟩
theorem yVT (a0:dS):yuD a0=(fun n=>some ((n,()),())) (n_spec_SuperOk a0):=zkn (p:=fun(n:Bool)=>((n,()),())) (zj9 (p:=fun(n:Bool)=>((n,()),())) (zj9 (p:=fun(n:Bool)=>((n,()),())) (zj9 (p:=fun(n:Bool)=>((n,()),())) (zj9 (p:=fun(n:Bool)=>((n,()),())) (zj9 (p:=fun(n:Bool)=>((n,()),())) rfl (zj9 (p:=fun(n:Bool)=>((n,()),())) (zj9 (p:=fun(n:Bool)=>((n,()),())) (zj9 (p:=fun(n:Bool)=>((n,()),())) rfl rfl) rfl) rfl)) rfl) rfl) rfl) rfl)
theorem yWQ:ConOk prog 195 yC8:=(ySG).mono (fun x r _ h=>(yVT x.1).trans h)
abbrev yeB:dS:=(0,0,0,0,0,0,0,0)
theorem yyM {s:dS}:n_spec_SuperOk s=true↔n_spec_GeoOk (s.2.2.2.1,s.2.2.2.2.1)=true∧(1≤s.1∧s.1≤60000)∧(0≤s.2.1∧s.2.1≤60000)∧(0≤s.2.2.1∧s.2.2.1≤s.2.2.2.1-1)∧(0≤s.2.2.2.2.2.1∧s.2.2.2.2.2.1≤60000)∧(-1≤s.2.2.2.2.2.2.1∧s.2.2.2.2.2.2.1≤s.2.2.2.1-1)∧(0≤s.2.2.2.2.2.2.2∧s.2.2.2.2.2.2.2≤s.2.2.2.2.1)∧(0≤s.2.2.2.2.2.2.1∨s.2.2.2.2.2.2.2=0):=by
 unfold n_spec_SuperOk
 cases hg:n_spec_GeoOk (s.2.2.2.1,s.2.2.2.2.1)
 ·simp
 have hg2:=yg.1 hg;simp only at hg2;rw[wr (show -9223372036854775808≤s.2.2.2.1-1 by omega) (by omega)];simp only[Bool.not_not,cond_true,true_and];simp only[← ywz]
 cases ya s.1 1 60000
 ·simp
 cases ya s.2.1 0 60000
 ·simp
 cases ya s.2.2.1 0 (s.2.2.2.1-1)
 ·simp
 cases ya s.2.2.2.2.2.1 0 60000
 ·simp
 cases ya s.2.2.2.2.2.2.1 (-1) (s.2.2.2.1-1)
 ·simp
 cases ya s.2.2.2.2.2.2.2 0 s.2.2.2.2.1
 ·simp
 cases hl:leb 0 s.2.2.2.2.2.2.1
 ·have:=mt zku (by rw[hl]; simp: ¬leb 0 s.2.2.2.2.2.2.1=true)
  simp[this]
 ·simp[zjB.1 hl]
def yIf (l:List Int):dS:=(nth l 1 0,nth l 2 0,nth l 3 0,nth l 4 0,nth l 5 0,nth l 6 0,IntKind.i64.wrap (nth l 7 0-1),nth l 8 0)
def yey (l:List Int):dS×Bool:=bif(l.length:Int)==9&&(nth l 0 0==21317&&n_spec_SuperOk (yIf l))then(yIf l,true)else(yeB,false)
def yGo (m:dM) (i:Int):dS:=(yey (yy m i).1).1
def ysS (m:dM) (id i:Int):Bool:=(yy m i).2&&((yey (yy m i).1).2&&((yGo m i).1==id&&(yGo m i).2.1.tmod 2==i))
def ynz (b:dS×Bool) (ok:Bool) (s:dS):dS×Bool:=bif ok&&(!b.2||ltb b.1.2.1 s.2.1)then(s,true)else b
def yT (m:dM) (id:Int):dS×Bool:=(List.range 2).foldl (fun s (i:Nat)=>ynz s (ysS m id i) (yGo m i)) (yeB,false)
def yhS (m:dM) (i id:Int):Bool:= !m.2.2.1&&((yT m id).2&&(yT m id).1.2.2.1==i)
def ydo (l:List dM) (id:Int):dS×Bool:=(List.range l.length).foldl (fun s (i:Nat)=>ynz s (yhS (nth l i noMem) i id) (yT (nth l i noMem) id).1) (yeB,false)
def ylt (l:List dM) (id:Int) (s:Int×Int×Bool) (i:Nat):Int×Int×Bool:=bif yhS (nth l i noMem) i id then s else bif s.1== -1||s.1==i then((i:Int),0,s.2.2)else(s.1,s.2.1,true)
def yv5 (b:dS) (l:List dM) (id:Int) (s:Int×Int×Bool):dA:=(id,(b.2.2.2.1,b.2.2.2.2.1),l,s.1,s.2.1,b.2.2.2.2.2.1,b.2.2.2.2.2.1,b.2.1,[],-1,false,s.2.2)
def yHw (l:List dM) (id:Int):dA:=yv5 (ydo l id).1 l id ((List.range l.length).foldl (ylt l id) ((ydo l id).1.2.2.2.2.2.2.1,(ydo l id).1.2.2.2.2.2.2.2,false))
def yfP (l:List dM) (id:Int):dA×Bool:=bif(ydo l id).2&&((l.length:Int)==(ydo l id).1.2.2.2.1&&yR (yHw l id))then(yHw l id,true)else(yae,false)
theorem y46 (b:dS×Bool) (s:dS):ynz b false s=b:=rfl
theorem y3n {m:dM} {i:Int} (h:(yy m i).2=true):memOk m=true:=by
 unfold yy at h
 cases hc:yu0 m i
 ·rw[hc]at h; cases h
 ·exact(Bool.and_eq_true_iff.1 hc).1
theorem y47 {m:dM} {id i:Int} (h:memOk m=false):ysS m id i=false:=by
 unfold ysS
 cases hr:(yy m i).2
 ·rfl
 ·rw[y3n hr]at h; cases h
theorem y45 {m:dM} {id:Int} (h:(yT m id).2=true):memOk m=true:=by
 cases hm:memOk m
 ·unfold yT at h
  simp only[y47 hm,y46]at h;exact h
 ·rfl
end
section
def yGC:Code:=(f212.body).getD .skip
def yHe:Env:=zj0 TT [(81,yz),(123,ylv),(125,ywe)] []
theorem yN7:FrOk prog ⟨yHe,44,fun _=>none⟩ yGC:=zj4 yc yd ⟨yI,ytS,yH4,trivial⟩
def yP5:Nat→Option Seg:=fun _=>none
abbrev ykT:List Par:= [.rd tS]
abbrev yrc:List OT:= [⟨false,tB,.fz⟩]
def yuz (a0:dS):Option (ResD yrc×MutD ykT) :=
 let r1:=ye a0.1 1 60000
 bif r1 then
 let r2:=ye a0.2.1 0 60000
 bif r2 then
 let r3:=ye a0.2.2.2.2.2.1 0 60000
 bif r3 then
 let r4:=ydq (a0.2.2.2.1,a0.2.2.2.2.1)
 bif r4 then
 let r5:=ye a0.2.2.1 0 (IntKind.i64.wrap (a0.2.2.2.1-1))
 bif r5 then
 let r6:=yfU (a0.2.2.2.1,a0.2.2.2.2.1) a0.2.2.2.2.2.2.1 a0.2.2.2.2.2.2.2
 some ((r6,()),())
 else
 some ((false,()),())
 else
 some ((false,()),())
 else
 some ((false,()),())
 else
 some ((false,()),())
 else
 some ((false,()),())
theorem yXP (x:InD ykT):zju ⟨yHe,44,yP5⟩ f212.results.toList yGC ykT yrc x=yuz x.1:=by kernel_rfl
theorem ySv:ConOk prog 212 ⟨ykT,yrc,fun x=>yuz x.1⟩:=zjZ (yN7) func212 (by kernel_rfl) (by kernel_rfl) ntmps212.symm (by decide) (fun x r h=>(yXP x).trans h)
def yez (a0:dS):Bool :=
 let r1:=ye a0.1 1 60000
 bif r1 then
 let r2:=ye a0.2.1 0 60000
 bif r2 then
 let r3:=ye a0.2.2.2.2.2.1 0 60000
 bif r3 then
 let r4:=ydq (a0.2.2.2.1,a0.2.2.2.2.1)
 bif r4 then
 let r5:=ye a0.2.2.1 0 (IntKind.i64.wrap (a0.2.2.2.1-1))
 bif r5 then
 let r6:=yfU (a0.2.2.2.1,a0.2.2.2.2.1) a0.2.2.2.2.2.2.1 a0.2.2.2.2.2.2.2
 r6
 else
 false
 else
 false
 else
 false
 else
 false
 else
 false
def yub:Con:=⟨ykT,yrc,fun x=>(fun n=>some ((n,()),())) (yez x.1)⟩
theorem yVI (a0:dS):yuz a0=(fun n=>some ((n,()),())) (yez a0):=zkn (p:=fun(n:Bool)=>((n,()),())) (zj9 (p:=fun(n:Bool)=>((n,()),())) (zj9 (p:=fun(n:Bool)=>((n,()),())) (zj9 (p:=fun(n:Bool)=>((n,()),())) (zj9 (p:=fun(n:Bool)=>((n,()),())) (zj9 (p:=fun(n:Bool)=>((n,()),())) rfl rfl) rfl) rfl) rfl) rfl)
theorem yGc:ConOk prog 212 yub:=(ySv).mono (fun x r _ h=>(yVI x.1).trans h)
theorem yJY (s:dS):yez s=n_spec_SuperOk s:=by
 rw[Bool.eq_iff_iff,yyM];unfold yez yfU;simp only[yL9,y9]
 cases hg:n_spec_GeoOk (s.2.2.2.1,s.2.2.2.2.1)
 ·cases ya s.1 1 60000<;>cases ya s.2.1 0 60000<;>cases ya s.2.2.2.2.2.1 0 60000<;>simp
 have hg2:=yg.1 hg;simp only at hg2;rw[wr (show -9223372036854775808≤s.2.2.2.1-1 by omega) (by omega)];simp only[← ywz]
 cases ya s.1 1 60000
 ·simp
 cases ya s.2.1 0 60000
 ·simp
 cases ya s.2.2.2.2.2.1 0 60000
 ·simp
 cases ya s.2.2.1 0 (s.2.2.2.1-1)
 ·simp
 cases hl:ya s.2.2.2.2.2.2.1 (-1) (s.2.2.2.1-1)
 ·simp
 cases ya s.2.2.2.2.2.2.2 0 s.2.2.2.2.1
 ·simp
 have:=ywz.1 hl
 by_cases h0:s.2.2.2.2.2.2.2=0
 ·simp[h0]
 ·simp[h0]; omega
end
section
def yEr:Code:=(f198.body).getD .skip
def yE3:Env:=zj0 TT [(212,yub)] []
theorem yLJ:FrOk prog ⟨yE3,46,fun _=>none⟩ yEr:=zj4 yc yd ⟨yGc,trivial⟩
def yNq:Nat→Option Seg:=fun _=>none
abbrev yfn:List Par:= [.rd tL]
abbrev yoI:List OT:= [⟨false,tS,(.pr .fz (.pr .fz (.pr .fz (.pr .fz (.pr .fz (.pr .fz (.pr .fz .fz)))))))⟩,⟨false,tB,.fz⟩]
def ykn (a0:List Int):Option (ResD yoI×MutD yfn) :=
 bif(!((a0.length:Int) !=9))then
 bif(inb 0 a0.length)then
 bif((nth a0 0 0) !=21317)then
 some (((0,0,0,0,0,0,0,0),false,()),())
 else
 bif(inb 1 a0.length)then
 bif(inb 2 a0.length)then
 bif(inb 3 a0.length)then
 bif(inb 4 a0.length)then
 bif(inb 5 a0.length)then
 bif(inb 6 a0.length)then
 bif(inb 7 a0.length)then
 bif(inb 8 a0.length)then
 let r1:=yez ((nth a0 1 0),(nth a0 2 0),(nth a0 3 0),(nth a0 4 0),(nth a0 5 0),(nth a0 6 0),(IntKind.i64.wrap ((nth a0 7 0)-1)),(nth a0 8 0))
 bif(!r1)then
 some (((0,0,0,0,0,0,0,0),false,()),())
 else
 some ((((nth a0 1 0),(nth a0 2 0),(nth a0 3 0),(nth a0 4 0),(nth a0 5 0),(nth a0 6 0),(IntKind.i64.wrap ((nth a0 7 0)-1)),(nth a0 8 0)),true,()),())
 else none
 else none
 else none
 else none
 else none
 else none
 else none
 else none
 else none
 else
 some (((0,0,0,0,0,0,0,0),false,()),())
theorem yUl (x:InD yfn):zju ⟨yE3,46,yNq⟩ f198.results.toList yEr yfn yoI x=ykn x.1:=by kernel_rfl
theorem yO6:ConOk prog 198 ⟨yfn,yoI,fun x=>ykn x.1⟩:=zjZ (yLJ) func198 (by kernel_rfl) (by kernel_rfl) ntmps198.symm (by decide) (fun x r h=>(yUl x).trans h)
def yjy (a0:List Int):dS×Bool:=yey a0
theorem yR7 (a0:List Int) (hk:zi0 yfn (a0,())):ykn a0=(fun n=>some ((n.1,n.2,()),())) (yjy a0):=by
 unfold ykn yjy yey
 by_cases h:(a0.length:Int)=9
 ·simp only[bne,h,yJY,beq_self_eq_true,zjA.2 (show(0:Int)≤0∧(0:Int)<a0.length by omega),zjA.2 (show(0:Int)≤1∧(1:Int)<a0.length by omega),zjA.2 (show(0:Int)≤2∧(2:Int)<a0.length by omega),zjA.2 (show(0:Int)≤3∧(3:Int)<a0.length by omega),zjA.2 (show(0:Int)≤4∧(4:Int)<a0.length by omega),zjA.2 (show(0:Int)≤5∧(5:Int)<a0.length by omega),zjA.2 (show(0:Int)≤6∧(6:Int)<a0.length by omega),zjA.2 (show(0:Int)≤7∧(7:Int)<a0.length by omega),zjA.2 (show(0:Int)≤8∧(8:Int)<a0.length by omega)]
  rw[show n_spec_SuperOk (nth a0 1 0,nth a0 2 0,nth a0 3 0,nth a0 4 0,nth a0 5 0,nth a0 6 0,IntKind.i64.wrap (nth a0 7 0-1),nth a0 8 0)=n_spec_SuperOk (yIf a0)from rfl]
  cases(nth a0 0 0==21317)<;>cases n_spec_SuperOk (yIf a0)<;>rfl
 ·rw[show((a0.length:Int) !=9)=true from bne_iff_ne.2 h,show((a0.length:Int)==9)=false from beq_eq_false_iff_ne.2 h]; rfl
def yA2:Con:=⟨yfn,yoI,fun x=>(fun n=>some ((n.1,n.2,()),())) (yjy x.1)⟩
theorem ySU:ConOk prog 198 yA2:=(yO6).mono (fun x r hk h=>(yR7 x.1 hk).trans h)
end
section
def ygZ:Code:=(f148.body).getD .skip
def yl8:Env:=zj0 TT [(87,ymn),(198,yA2)] []
theorem yKk:FrOk prog ⟨yl8,60,fun _=>none⟩ ygZ:=zj4 yc yd ⟨ywP,ySU,trivial⟩
def yyQ:Nat→Option Seg:=fun _=>none
def yaN:Shape:=⟨[(1,false,[.int .i64]),(2,false,[.ptr 0 0]),(4,false,[.ptr 64 0]),(6,false,[.ptr 4160 0]),(7,false,[.bool]),(14,false,[.int .i64])],[(0,[.br tL,.br tW,.bool,.br tI]),(64,[.int .i64,.int .i64,.int .i64,.int .i64,.int .i64,.int .i64,.int .i64,.int .i64]),(4160,[.int .i64,.int .i64,.int .i64,.int .i64,.int .i64,.int .i64,.int .i64,.int .i64])],[]⟩
def yec:Shape:=⟨[(1,false,[.int .i64]),(2,false,[.ptr 0 0]),(4,false,[.ptr 64 0]),(6,false,[.ptr 4160 0]),(7,false,[.cb false]),(14,false,[.ci .i64 0])],[(0,[.br tL,.br tW,.bool,.br tI]),(64,[.int .i64,.int .i64,.int .i64,.int .i64,.int .i64,.int .i64,.int .i64,.int .i64]),(4160,[.int .i64,.int .i64,.int .i64,.int .i64,.int .i64,.int .i64,.int .i64,.int .i64])],[]⟩
def yd6:Shape:=⟨[(4,false,[.ptr 64 0]),(6,false,[.ptr 4160 0]),(7,false,[.bool])],[(64,[.int .i64,.int .i64,.int .i64,.int .i64,.int .i64,.int .i64,.int .i64,.int .i64]),(4160,[.int .i64,.int .i64,.int .i64,.int .i64,.int .i64,.int .i64,.int .i64,.int .i64])],[]⟩
def yhN:Shape:=⟨[],[],[]⟩
abbrev yms (v0:Int) (v1:Bool) (v2:Int) (v3:dM) (v4 v5:dS):(yaN).X:=(((v0,()),((),()),((),()),((),()),(v1,()),(v2,()),()),((v3.1,v3.2.1,v3.2.2.1,v3.2.2.2,()),(v4.1,v4.2.1,v4.2.2.1,v4.2.2.2.1,v4.2.2.2.2.1,v4.2.2.2.2.2.1,v4.2.2.2.2.2.2.1,v4.2.2.2.2.2.2.2,()),(v5.1,v5.2.1,v5.2.2.1,v5.2.2.2.1,v5.2.2.2.2.1,v5.2.2.2.2.2.1,v5.2.2.2.2.2.2.1,v5.2.2.2.2.2.2.2,()),()),())
abbrev yIz (v0:Int) (v1:dM) (v2 v3:dS):(yec).X:=(((v0,()),((),()),((),()),((),()),((),()),((),()),()),((v1.1,v1.2.1,v1.2.2.1,v1.2.2.2,()),(v2.1,v2.2.1,v2.2.2.1,v2.2.2.2.1,v2.2.2.2.2.1,v2.2.2.2.2.2.1,v2.2.2.2.2.2.2.1,v2.2.2.2.2.2.2.2,()),(v3.1,v3.2.1,v3.2.2.1,v3.2.2.2.1,v3.2.2.2.2.1,v3.2.2.2.2.2.1,v3.2.2.2.2.2.2.1,v3.2.2.2.2.2.2.2,()),()),())
abbrev yIu (v0:Bool) (v1 v2:dS):(yd6).X:=((((),()),((),()),(v0,()),()),((v1.1,v1.2.1,v1.2.2.1,v1.2.2.2.1,v1.2.2.2.2.1,v1.2.2.2.2.2.1,v1.2.2.2.2.2.2.1,v1.2.2.2.2.2.2.2,()),(v2.1,v2.2.1,v2.2.2.1,v2.2.2.2.1,v2.2.2.2.2.1,v2.2.2.2.2.2.1,v2.2.2.2.2.2.2.1,v2.2.2.2.2.2.2.2,()),()),())
def ymY (v0:Int) (v1:Bool) (v2:Int) (v3:List (List Int)) (v4:List dW) (v5:Bool) (v6:List Int) (v7 v8 v9 v10 v11 v12 v13 v14 v15 v16 v17 v18 v19 v20 v21 v22:Int):Option ((yaN).X ⊕ ((yd6).X ⊕ (yhN).X)) :=
 bif(ltb v2 2)then
 let r3:=ybo (v3,v4,v5,v6) v2
 let r4:=yjy r3.1
 bif r3.2 then
 bif r4.2 then
 bif(r4.1.1==v0)then
 bif((r4.1.2.1.tmod 2)==v2)then
 bif(!(!v1))then
 bif(ltb v16 r4.1.2.1)then
 some (.inl (((v0,()),((),()),((),()),((),()),(true,()),((IntKind.i64.wrap (v2+1)),()),()),((v3,v4,v5,v6,()),(v7,v8,v9,v10,v11,v12,v13,v14,()),(r4.1.1,r4.1.2.1,r4.1.2.2.1,r4.1.2.2.2.1,r4.1.2.2.2.2.1,r4.1.2.2.2.2.2.1,r4.1.2.2.2.2.2.2.1,r4.1.2.2.2.2.2.2.2,()),()),()))
 else
 some (.inl (((v0,()),((),()),((),()),((),()),(v1,()),((IntKind.i64.wrap (v2+1)),()),()),((v3,v4,v5,v6,()),(v7,v8,v9,v10,v11,v12,v13,v14,()),(v15,v16,v17,v18,v19,v20,v21,v22,()),()),()))
 else
 some (.inl (((v0,()),((),()),((),()),((),()),(true,()),((IntKind.i64.wrap (v2+1)),()),()),((v3,v4,v5,v6,()),(v7,v8,v9,v10,v11,v12,v13,v14,()),(r4.1.1,r4.1.2.1,r4.1.2.2.1,r4.1.2.2.2.1,r4.1.2.2.2.2.1,r4.1.2.2.2.2.2.1,r4.1.2.2.2.2.2.2.1,r4.1.2.2.2.2.2.2.2,()),()),()))
 else
 some (.inl (((v0,()),((),()),((),()),((),()),(v1,()),((IntKind.i64.wrap (v2+1)),()),()),((v3,v4,v5,v6,()),(v7,v8,v9,v10,v11,v12,v13,v14,()),(v15,v16,v17,v18,v19,v20,v21,v22,()),()),()))
 else
 some (.inl (((v0,()),((),()),((),()),((),()),(v1,()),((IntKind.i64.wrap (v2+1)),()),()),((v3,v4,v5,v6,()),(v7,v8,v9,v10,v11,v12,v13,v14,()),(v15,v16,v17,v18,v19,v20,v21,v22,()),()),()))
 else
 some (.inl (((v0,()),((),()),((),()),((),()),(v1,()),((IntKind.i64.wrap (v2+1)),()),()),((v3,v4,v5,v6,()),(v7,v8,v9,v10,v11,v12,v13,v14,()),(v15,v16,v17,v18,v19,v20,v21,v22,()),()),()))
 else
 some (.inl (((v0,()),((),()),((),()),((),()),(v1,()),((IntKind.i64.wrap (v2+1)),()),()),((v3,v4,v5,v6,()),(v7,v8,v9,v10,v11,v12,v13,v14,()),(v15,v16,v17,v18,v19,v20,v21,v22,()),()),()))
 else
 some (.inr (.inl ((((),()),((),()),(v1,()),()),((v7,v8,v9,v10,v11,v12,v13,v14,()),(v15,v16,v17,v18,v19,v20,v21,v22,()),()),())))
def ya3 (x:(yaN).X):=ymY x.1.1.1 x.1.2.2.2.2.1.1 x.1.2.2.2.2.2.1.1 x.2.1.1.1 x.2.1.1.2.1 x.2.1.1.2.2.1 x.2.1.1.2.2.2.1 x.2.1.2.1.1 x.2.1.2.1.2.1 x.2.1.2.1.2.2.1 x.2.1.2.1.2.2.2.1 x.2.1.2.1.2.2.2.2.1 x.2.1.2.1.2.2.2.2.2.1 x.2.1.2.1.2.2.2.2.2.2.1 x.2.1.2.1.2.2.2.2.2.2.2.1 x.2.1.2.2.1.1 x.2.1.2.2.1.2.1 x.2.1.2.2.1.2.2.1 x.2.1.2.2.1.2.2.2.1 x.2.1.2.2.1.2.2.2.2.1 x.2.1.2.2.1.2.2.2.2.2.1 x.2.1.2.2.1.2.2.2.2.2.2.1 x.2.1.2.2.1.2.2.2.2.2.2.2.1
def ywn (x:(yec).X):(yaN).X:=(((x.1.1.1,()),((),()),((),()),((),()),(false,()),(0,()),()),((x.2.1.1.1,x.2.1.1.2.1,x.2.1.1.2.2.1,x.2.1.1.2.2.2.1,()),(x.2.1.2.1.1,x.2.1.2.1.2.1,x.2.1.2.1.2.2.1,x.2.1.2.1.2.2.2.1,x.2.1.2.1.2.2.2.2.1,x.2.1.2.1.2.2.2.2.2.1,x.2.1.2.1.2.2.2.2.2.2.1,x.2.1.2.1.2.2.2.2.2.2.2.1,()),(x.2.1.2.2.1.1,x.2.1.2.2.1.2.1,x.2.1.2.2.1.2.2.1,x.2.1.2.2.1.2.2.2.1,x.2.1.2.2.1.2.2.2.2.1,x.2.1.2.2.1.2.2.2.2.2.1,x.2.1.2.2.1.2.2.2.2.2.2.1,x.2.1.2.2.1.2.2.2.2.2.2.2.1,()),()),())
def yxl:Code:=(zef ygZ 64 116).getD .skip
theorem yKb:zef ygZ 64 29=some (.block 0 (.loop yxl)):=by kernel_rfl
theorem yKL (x:(yaN).X):zg0 ⟨yl8,60,yyQ⟩ 0 yxl 116 yaN yd6 yhN x=ya3 x:=by kernel_rfl
def ywv (x:(yec).X):Nat:=18446744073709551616
def yn3 (x:(yec).X):Option ((yd6).X ⊕ (yhN).X):=zz ya3 (ywv x) (ywn x)
def yw9:Seg:=⟨yec,yd6,yhN,yn3⟩
def yyR:Nat→Option Seg:=fun q=>bif Nat.beq q 29 then some yw9 else yyQ q
theorem yKl:FrOk prog ⟨yl8,60,yyR⟩ ygZ:=(yKk).loop (sg:=yw9) yaN ywn (by decide) yKb ya3 ywv (by decide) (fun _=>rfl) (fun x r _ h=>h) yKL
abbrev yej:List Par:= [.rd tM,.rd tI]
abbrev ymd:List OT:= [⟨false,tS,(.pr .fz (.pr .fz (.pr .fz (.pr .fz (.pr .fz (.pr .fz (.pr .fz .fz)))))))⟩,⟨false,tB,.fz⟩]
def yjN (a0:dM) (a1:Int):Option (ResD ymd×MutD yej) :=
 zjW (yn3 (((a1,()),((),()),((),()),((),()),((),()),((),()),()),((a0.1,a0.2.1,a0.2.2.1,a0.2.2.2,()),(0,0,0,0,0,0,0,0,()),(0,0,0,0,0,0,0,0,()),()),())) (fun y4 =>
 some (((y4.2.1.2.1.1,y4.2.1.2.1.2.1,y4.2.1.2.1.2.2.1,y4.2.1.2.1.2.2.2.1,y4.2.1.2.1.2.2.2.2.1,y4.2.1.2.1.2.2.2.2.2.1,y4.2.1.2.1.2.2.2.2.2.2.1,y4.2.1.2.1.2.2.2.2.2.2.2.1),y4.1.2.2.1.1,()),())) (fun y4 =>
 none)
theorem yQB (x:InD yej):zju ⟨yl8,60,yyR⟩ f148.results.toList ygZ yej ymd x=yjN x.1 x.2.1:=by kernel_rfl
theorem yMJ:ConOk prog 148 ⟨yej,ymd,fun x=>yjN x.1 x.2.1⟩:=zjZ (yKl) func148 (by kernel_rfl) (by kernel_rfl) ntmps148.symm (by decide) (fun x r h=>(yQB x).trans h)
def yhC (a0:dM) (a1:Int):dS×Bool:=yT a0 a1
theorem yOZ (a0:dM) (a1:Int) (hk:zi0 yej (a0,a1,())):yjN a0 a1=(fun n=>some ((n.1,n.2,()),())) (yhC a0 a1):=by
 have h1:=zj6 (step:=ya3) 2 (fun i s=>yms a1 s.2 i a0 yeB s.1) (fun(s:dS×Bool) (i:Nat)=>ynz s (ysS a0 a1 i) (yGo a0 i)) (fun _ _=>True) (fun s=> .inl (yIu s.2 yeB s.1)) (fun i s hi _=>⟨by
  simp only[ya3,yms,ymY,zj2 (show(i:Int)<2 by omega),cond_true,wr (show -9223372036854775808≤(i:Int)+1 by omega) (by omega),Int.natCast_add,Int.natCast_one,Int.toNat_natCast,zkp,ybo,yjy];unfold ysS ynz yGo
  cases(yy a0 i).2<;>cases(yey (yy a0 i).1).2<;>cases((yey (yy a0 i).1).1.1==a1)<;>cases((yey (yy a0 i).1).1.2.1.tmod 2==(i:Int))<;>cases hf:s.2<;>cases ltb s.1.2.1 (yey (yy a0 i).1).1.2.1<;>simp only[Bool.not_true,Bool.not_false,cond_true,cond_false,Bool.and_true,Bool.true_and,Bool.false_and,Bool.and_false,Bool.or_true,Bool.true_or,Bool.false_or,Bool.or_false,hf],trivial⟩) (fun s _=>by simp only[ya3,yms,ymY]; rfl) (yeB,false) trivial 18446744073709551616 (by omega)
 unfold yjN yhC;rw[show yn3 (yIz a1 a0 yeB yeB)=_ from h1]; rfl
def yy9:Con:=⟨yej,ymd,fun x=>(fun n=>some ((n.1,n.2,()),())) (yhC x.1 x.2.1)⟩
theorem yPt:ConOk prog 148 yy9:=(yMJ).mono (fun x r hk h=>(yOZ x.1 x.2.1 hk).trans h)
end
section
def yEy:Code:=(f73.body).getD .skip
def yFa:Env:=zj0 TT [(127,yex),(148,yy9)] []
theorem yLS:FrOk prog ⟨yFa,35,fun _=>none⟩ yEy:=zj4 yc yd ⟨yih,yPt,trivial⟩
def yNx:Nat→Option Seg:=fun _=>none
abbrev yft:List Par:= [.rd tM,.rd tI,.rd tI]
abbrev yoQ:List OT:= [⟨false,tS,(.pr .fz (.pr .fz (.pr .fz (.pr .fz (.pr .fz (.pr .fz (.pr .fz .fz)))))))⟩,⟨false,tB,.fz⟩]
def ykt (a0:dM) (a1 a2:Int):Option (ResD yoQ×MutD yft) :=
 let r1:=yhC a0 a2
 let r2:=yZ a0
 bif(!(!r2))then
 bif(!a0.2.2.1)then
 bif(!(!r1.2))then
 bif(r1.1.2.2.1 !=a1)then
 some (((0,0,0,0,0,0,0,0),false,()),())
 else
 some ((r1.1,true,()),())
 else
 some (((0,0,0,0,0,0,0,0),false,()),())
 else
 some (((0,0,0,0,0,0,0,0),false,()),())
 else
 some (((0,0,0,0,0,0,0,0),false,()),())
theorem yUt (x:InD yft):zju ⟨yFa,35,yNx⟩ f73.results.toList yEy yft yoQ x=ykt x.1 x.2.1 x.2.2.1:=by kernel_rfl
theorem yPe:ConOk prog 73 ⟨yft,yoQ,fun x=>ykt x.1 x.2.1 x.2.2.1⟩:=zjZ (yLS) func73 (by kernel_rfl) (by kernel_rfl) ntmps73.symm (by decide) (fun x r h=>(yUt x).trans h)
def ydt (a0:dM) (a1 a2:Int):dS×Bool:=bif yhS a0 a1 a2 then((yT a0 a2).1,true)else(yeB,false)
theorem ySf (a0:dM) (a1 a2:Int) (hk:zi0 yft (a0,a1,a2,())):ykt a0 a1 a2=(fun n=>some ((n.1,n.2,()),())) (ydt a0 a1 a2):=by
 unfold ykt ydt yhS;simp only[yhC,yZ,bne]
 cases hb:(yT a0 a2).2
 ·cases memOk a0<;>cases a0.2.2.1<;>rfl
 ·rw[y45 hb]
  cases a0.2.2.1<;>cases((yT a0 a2).1.2.2.1==a1)<;>rfl
def yA7:Con:=⟨yft,yoQ,fun x=>(fun n=>some ((n.1,n.2,()),())) (ydt x.1 x.2.1 x.2.2.1)⟩
theorem ySZ:ConOk prog 73 yA7:=(yPe).mono (fun x r hk h=>(ySf x.1 x.2.1 x.2.2.1 hk).trans h)
end
section
def ycz:Code:=(f133.body).getD .skip
def ygE:Env:=zj0 TT [(158,yaK)] []
theorem yOa:FrOk prog ⟨ygE,49,fun _=>none⟩ ycz:=zj4 yc yd ⟨ycx,trivial⟩
def yCn:Nat→Option Seg:=fun _=>none
def ybF:Shape:=⟨[(1,false,[.ptr 0 0]),(2,false,[.ptr 64 0]),(3,false,[.ptr 4480 0]),(15,false,[.br tL]),(16,false,[.int .i64]),(17,false,[.int .i64])],[(0,[.br tL,.br tW,.bool,.br tI]),(64,[.nil,.nil,.bool,.nil]),(4480,[.at 800000001,.nil,.bool,.at 800000000])],[(800000001,tL,(.ow .fz)),(800000000,tI,.fz)]⟩
def ygh:Shape:=⟨[(1,false,[.ptr 0 0]),(2,false,[.ptr 64 0]),(3,false,[.ptr 4480 0]),(15,false,[.br tL]),(16,false,[.int .i64]),(17,false,[.ci .i64 0])],[(0,[.br tL,.br tW,.bool,.br tI]),(64,[.nil,.nil,.bool,.nil]),(4480,[.at 800000001,.nil,.bool,.at 800000000])],[(800000001,tL,(.ow .fz)),(800000000,tI,.fz)]⟩
def yf5:Shape:=⟨[(1,false,[.ptr 0 0]),(2,false,[.ptr 64 0]),(3,false,[.ptr 4480 0])],[(0,[.br tL,.br tW,.bool,.br tI]),(64,[.nil,.nil,.bool,.nil]),(4480,[.at 800000000,.nil,.bool,.at 800000001])],[(800000000,tL,(.ow .fz)),(800000001,tI,.fz)]⟩
def yj7:Shape:=⟨[],[],[]⟩
abbrev yqs (v0:List (List Int)) (v1 v2:Int) (v3 v4 v5:dM):(ybF).X:=((((),()),((),()),((),()),(v0,()),(v1,()),(v2,()),()),((v3.1,v3.2.1,v3.2.2.1,v3.2.2.2,()),((),(),v4.2.2.1,(),()),((),(),v5.2.2.1,(),()),()),(v5.1,v5.2.2.2,()))
abbrev yMq (v0:List (List Int)) (v1:Int) (v2 v3 v4:dM):(ygh).X:=((((),()),((),()),((),()),(v0,()),(v1,()),((),()),()),((v2.1,v2.2.1,v2.2.2.1,v2.2.2.2,()),((),(),v3.2.2.1,(),()),((),(),v4.2.2.1,(),()),()),(v4.1,v4.2.2.2,()))
abbrev yzK (v0 v1 v2:dM):(yf5).X:=((((),()),((),()),((),()),()),((v0.1,v0.2.1,v0.2.2.1,v0.2.2.2,()),((),(),v1.2.2.1,(),()),((),(),v2.2.2.1,(),()),()),(v2.1,v2.2.2.2,()))
def yqM (v0:List (List Int)) (v1 v2:Int) (v3:List (List Int)) (v4:List dW) (v5:Bool) (v6:List Int) (v7 v8:Bool) (v9:List (List Int)) (v10:List Int):Option ((ybF).X ⊕ ((yf5).X ⊕ (yj7).X)) :=
 bif(ltb v2 v1)then
 bif(inb v2 v0.length)then
 let r4:=yo (nth v0 v2 [])
 bif(zjO v9.length ([r4]:List (List Int)).length 24)then
 some (.inl ((((),()),((),()),((),()),(v0,()),(v1,()),((IntKind.i64.wrap (v2+1)),()),()),((v3,v4,v5,v6,()),((),(),v7,(),()),((),(),v8,(),()),()),((v9++([r4]:List (List Int))),v10,())))
 else none
 else none
 else
 some (.inr (.inl ((((),()),((),()),((),()),()),((v3,v4,v5,v6,()),((),(),v7,(),()),((),(),v8,(),()),()),(v9,v10,()))))
def ybX (x:(ybF).X):=yqM x.1.2.2.2.1.1 x.1.2.2.2.2.1.1 x.1.2.2.2.2.2.1.1 x.2.1.1.1 x.2.1.1.2.1 x.2.1.1.2.2.1 x.2.1.1.2.2.2.1 x.2.1.2.1.2.2.1 x.2.1.2.2.1.2.2.1 x.2.2.1 x.2.2.2.1
def yzi (x:(ygh).X):(ybF).X:=((((),()),((),()),((),()),(x.1.2.2.2.1.1,()),(x.1.2.2.2.2.1.1,()),(0,()),()),((x.2.1.1.1,x.2.1.1.2.1,x.2.1.1.2.2.1,x.2.1.1.2.2.2.1,()),((),(),x.2.1.2.1.2.2.1,(),()),((),(),x.2.1.2.2.1.2.2.1,(),()),()),(x.2.2.1,x.2.2.2.1,()))
def yAQ:Code:=(zef ycz 64 116).getD .skip
theorem yNL:zef ycz 64 29=some (.block 0 (.loop yAQ)):=by kernel_rfl
theorem yPC (x:(ybF).X):zg0 ⟨ygE,49,yCn⟩ 0 yAQ 116 ybF yf5 yj7 x=ybX x:=by kernel_rfl
def yzx (x:(ygh).X):Nat:=18446744073709551616
def yr6 (x:(ygh).X):Option ((yf5).X ⊕ (yj7).X):=zz ybX (yzx x) (yzi x)
def yzW:Seg:=⟨ygh,yf5,yj7,yr6⟩
def yt0:Nat→Option Seg:=fun q=>bif Nat.beq q 29 then some yzW else yCn q
theorem yOb:FrOk prog ⟨ygE,49,yt0⟩ ycz:=(yOa).loop (sg:=yzW) ybF yzi (by decide) yNL ybX yzx (by decide) (fun _=>rfl) (fun x r _ h=>h) yPC
def ybG:Shape:=⟨[(2,false,[.ptr 64 0]),(3,false,[.ptr 4480 0]),(30,false,[.br tW]),(31,false,[.int .i64]),(32,false,[.int .i64])],[(64,[.nil,.nil,.bool,.nil]),(4480,[.at 800000000,.at 800000002,.bool,.at 800000001])],[(800000000,tL,(.ow .fz)),(800000002,tW,(.pr .fz (.ow .fz))),(800000001,tI,.fz)]⟩
def ygi:Shape:=⟨[(2,false,[.ptr 64 0]),(3,false,[.ptr 4480 0]),(30,false,[.br tW]),(31,false,[.int .i64]),(32,false,[.ci .i64 0])],[(64,[.nil,.nil,.bool,.nil]),(4480,[.at 800000000,.at 800000002,.bool,.at 800000001])],[(800000000,tL,(.ow .fz)),(800000002,tW,(.pr .fz (.ow .fz))),(800000001,tI,.fz)]⟩
def yf6:Shape:=⟨[(2,false,[.ptr 64 0]),(3,false,[.ptr 4480 0])],[(64,[.nil,.nil,.bool,.nil]),(4480,[.at 800000000,.at 800000001,.bool,.at 800000002])],[(800000000,tL,(.ow .fz)),(800000001,tW,(.pr .fz (.ow .fz))),(800000002,tI,.fz)]⟩
def yj8:Shape:=⟨[],[],[]⟩
abbrev yqt (v0:List dW) (v1 v2:Int) (v3 v4:dM):(ybG).X:=((((),()),((),()),(v0,()),(v1,()),(v2,()),()),(((),(),v3.2.2.1,(),()),((),(),v4.2.2.1,(),()),()),(v4.1,v4.2.1,v4.2.2.2,()))
abbrev yMr (v0:List dW) (v1:Int) (v2 v3:dM):(ygi).X:=((((),()),((),()),(v0,()),(v1,()),((),()),()),(((),(),v2.2.2.1,(),()),((),(),v3.2.2.1,(),()),()),(v3.1,v3.2.1,v3.2.2.2,()))
abbrev yzL (v0 v1:dM):(yf6).X:=((((),()),((),()),()),(((),(),v0.2.2.1,(),()),((),(),v1.2.2.1,(),()),()),(v1.1,v1.2.1,v1.2.2.2,()))
def yqN (v0:List dW) (v1 v2:Int) (v3 v4:Bool) (v5:List (List Int)) (v6:List dW) (v7:List Int):Option ((ybG).X ⊕ ((yf6).X ⊕ (yj8).X)) :=
 bif(ltb v2 v1)then
 bif(inb v2 v0.length)then
 let r8:=yo ((nth v0 v2 (0,[])).2)
 bif(zjO v6.length ([((nth v0 v2 (0,[])).1,r8)]:List dW).length 32)then
 some (.inl ((((),()),((),()),(v0,()),(v1,()),((IntKind.i64.wrap (v2+1)),()),()),(((),(),v3,(),()),((),(),v4,(),()),()),(v5,(v6++([((nth v0 v2 (0,[])).1,r8)]:List dW)),v7,())))
 else none
 else none
 else
 some (.inr (.inl ((((),()),((),()),()),(((),(),v3,(),()),((),(),v4,(),()),()),(v5,v6,v7,()))))
def ybY (x:(ybG).X):=yqN x.1.2.2.1.1 x.1.2.2.2.1.1 x.1.2.2.2.2.1.1 x.2.1.1.2.2.1 x.2.1.2.1.2.2.1 x.2.2.1 x.2.2.2.1 x.2.2.2.2.1
def yzj (x:(ygi).X):(ybG).X:=((((),()),((),()),(x.1.2.2.1.1,()),(x.1.2.2.2.1.1,()),(0,()),()),(((),(),x.2.1.1.2.2.1,(),()),((),(),x.2.1.2.1.2.2.1,(),()),()),(x.2.2.1,x.2.2.2.1,x.2.2.2.2.1,()))
def yAR:Code:=(zef ycz 64 244).getD .skip
theorem yNM:zef ycz 64 61=some (.block 2 (.loop yAR)):=by kernel_rfl
theorem yPD (x:(ybG).X):zg0 ⟨ygE,49,yt0⟩ 2 yAR 244 ybG yf6 yj8 x=ybY x:=by kernel_rfl
def yzy (x:(ygi).X):Nat:=18446744073709551616
def yr7 (x:(ygi).X):Option ((yf6).X ⊕ (yj8).X):=zz ybY (yzy x) (yzj x)
def yzX:Seg:=⟨ygi,yf6,yj8,yr7⟩
def yCo:Nat→Option Seg:=fun q=>bif Nat.beq q 61 then some yzX else yt0 q
theorem yOc:FrOk prog ⟨ygE,49,yCo⟩ ycz:=(yOb).loop (sg:=yzX) ybG yzj (by decide) yNM ybY yzy (by decide) (fun _=>rfl) (fun x r _ h=>h) yPD
abbrev ygK:List Par:= [.rd tM]
abbrev yre:List OT:= [⟨false,tM,(.pr (.ow (.ow .fz)) (.pr (.ow (.pr .fz (.ow .fz))) (.pr .fz (.ow .fz))))⟩]
def ymG (a0:dM):Option (ResD yre×MutD ygK) :=
 let r1:=yo a0.2.2.2
 zjW (yr6 ((((),()),((),()),((),()),(a0.1,()),((a0.1.length:Int),()),((),()),()),((a0.1,a0.2.1,a0.2.2.1,a0.2.2.2,()),((),(),false,(),()),((),(),a0.2.2.1,(),()),()),([],r1,()))) (fun y4 =>
 zjW (yr7 ((((),()),((),()),(y4.2.1.1.2.1,()),((y4.2.1.1.2.1.length:Int),()),((),()),()),(((),(),y4.2.1.2.1.2.2.1,(),()),((),(),y4.2.1.2.2.1.2.2.1,(),()),()),(y4.2.2.1,[],y4.2.2.2.1,()))) (fun y8 =>
 some (((y8.2.2.1,y8.2.2.2.1,y8.2.1.2.1.2.2.1,y8.2.2.2.2.1),()),())) (fun y8 =>
 none)) (fun y4 =>
 none)
theorem yXR (x:InD ygK):zju ⟨ygE,49,yCo⟩ f133.results.toList ycz ygK yre x=ymG x.1:=by kernel_rfl
theorem ySx:ConOk prog 133 ⟨ygK,yre,fun x=>ymG x.1⟩:=zjZ (yOc) func133 (by kernel_rfl) (by kernel_rfl) ntmps133.symm (by decide) (fun x r h=>(yXR x).trans h)
def yan (a0:dM):dM:=a0
theorem yVK (a0:dM) (hk:zi0 ygK (a0,())):ymG a0=(fun n=>some ((n,()),())) (yan a0):=by
 have hb1:a0.1.length*24≤2^47:=hk.1.1.1;have hb2:a0.2.1.length*32≤2^47:=hk.1.2.1.1
 have h1:yr6 (yMq a0.1 a0.1.length a0 noMem ([],[],a0.2.2.1,a0.2.2.2))=some (.inl (yzK a0 noMem (a0.1,[],a0.2.2.1,a0.2.2.2))):=by
  have:=zj1 (step:=ybX) a0.1 [] (fun i s=>yqs a0.1 a0.1.length i a0 noMem (s,[],a0.2.2.1,a0.2.2.2)) (fun s x=>s++ [x]) (fun i s=>s.length=i) (fun s=> .inl (yzK a0 noMem (s,[],a0.2.2.1,a0.2.2.2))) (fun i s hi hs2=>⟨by
   simp only[ybX,yqs,yqM,zj2 (show(i:Int)<a0.1.length by omega),cond_true,wr (show -9223372036854775808≤(i:Int)+1 by omega) (by omega),Int.natCast_add,Int.natCast_one,Int.toNat_natCast,zkj hi,zkk,yo]
   rw[zj8.2 (show(s.length+ [a0.1.getD i []].length)*24≤140737488355328 by simp only[List.length_cons,List.length_nil]; omega)]; rfl,by simp[hs2]⟩) (fun s _=>by simp only[ybX,yqs,yqM,zkv (Int.le_refl _),cond_false]) [] rfl 18446744073709551616 (by omega)
  rw[yyb]at this;exact this
 have h2:yr7 (yMr a0.2.1 a0.2.1.length noMem (a0.1,[],a0.2.2.1,a0.2.2.2))=some (.inl (yzL noMem a0)):=by
  have:=zj1 (step:=ybY) a0.2.1 (0,[]) (fun i s=>yqt a0.2.1 a0.2.1.length i noMem (a0.1,s,a0.2.2.1,a0.2.2.2)) (fun s x=>s++ [x]) (fun i s=>s.length=i) (fun s=> .inl (yzL noMem (a0.1,s,a0.2.2.1,a0.2.2.2))) (fun i s hi hs2=>⟨by
   simp only[ybY,yqt,yqN,zj2 (show(i:Int)<a0.2.1.length by omega),cond_true,wr (show -9223372036854775808≤(i:Int)+1 by omega) (by omega),Int.natCast_add,Int.natCast_one,Int.toNat_natCast,zkj hi,zkk,yo,zkp]
   rw[zj8.2 (show(s.length+ [a0.2.1.getD i (0,[])].length)*32≤140737488355328 by simp only[List.length_cons,List.length_nil]; omega)]; rfl,by simp[hs2]⟩) (fun s _=>by simp only[ybY,yqt,yqN,zkv (Int.le_refl _),cond_false]) [] rfl 18446744073709551616 (by omega)
  rw[yyb]at this;exact this
 unfold ymG yan;simp only[yo,h1,zkf,h2]
def yhz:Con:=⟨ygK,yre,fun x=>(fun n=>some ((n,()),())) (yan x.1)⟩
theorem ypl:ConOk prog 133 yhz:=(ySx).mono (fun x r hk h=>(yVK x.1 hk).trans h)
end
section
def yil:Code:=(f74.body).getD .skip
def yoz:Env:=zj0 TT [(133,yhz)] []
theorem yLP:FrOk prog ⟨yoz,20,fun _=>none⟩ yil:=zj4 yc yd ⟨ypl,trivial⟩
def yAy:Nat→Option Seg:=fun _=>none
def ybf:Shape:=⟨[(3,false,[.at 800000000]),(7,false,[.br tM]),(8,false,[.int .i64]),(9,false,[.int .i64])],[],[(800000000,tM,(.pr (.ow (.ow .fz)) (.pr (.ow (.pr .fz (.ow .fz))) (.pr .fz (.ow .fz)))))]⟩
def ye4:Shape:=⟨[(3,false,[.at 800000000]),(7,false,[.br tM]),(8,false,[.int .i64]),(9,false,[.ci .i64 0])],[],[(800000000,tM,(.pr (.ow (.ow .fz)) (.pr (.ow (.pr .fz (.ow .fz))) (.pr .fz (.ow .fz)))))]⟩
def yeW:Shape:=⟨[(3,false,[.at 800000000])],[],[(800000000,tM,(.pr (.ow (.ow .fz)) (.pr (.ow (.pr .fz (.ow .fz))) (.pr .fz (.ow .fz)))))]⟩
def yji:Shape:=⟨[],[],[]⟩
abbrev yod (v0:List dM) (v1 v2:Int) (v3:List dM):(ybf).X:=((((),()),(v0,()),(v1,()),(v2,()),()),(),(v3,()))
abbrev yKw (v0:List dM) (v1:Int) (v2:List dM):(ye4).X:=((((),()),(v0,()),(v1,()),((),()),()),(),(v2,()))
abbrev yKp (v0:List dM):(yeW).X:=((((),()),()),(),(v0,()))
def yor (v0:List dM) (v1 v2:Int) (v3:List dM):Option ((ybf).X ⊕ ((yeW).X ⊕ (yji).X)) :=
 bif(ltb v2 v1)then
 bif(inb v2 v0.length)then
 let r2:=yan ((nth v0 v2 ([],[],false,[])).1,((nth v0 v2 ([],[],false,[])).2).1,(((nth v0 v2 ([],[],false,[])).2).2))
 bif(zjO v3.length ([r2]:List dM).length 80)then
 some (.inl ((((),()),(v0,()),(v1,()),((IntKind.i64.wrap (v2+1)),()),()),(),((v3++([r2]:List dM)),())))
 else none
 else none
 else
 some (.inr (.inl ((((),()),()),(),(v3,()))))
def ybu (x:(ybf).X):=yor x.1.2.1.1 x.1.2.2.1.1 x.1.2.2.2.1.1 x.2.2.1
def yxx (x:(ye4).X):(ybf).X:=((((),()),(x.1.2.1.1,()),(x.1.2.2.1.1,()),(0,()),()),(),(x.2.2.1,()))
def yy2:Code:=(zef yil 64 116).getD .skip
theorem yLl:zef yil 64 29=some (.block 0 (.loop yy2)):=by kernel_rfl
theorem yMZ (x:(ybf).X):zg0 ⟨yoz,20,yAy⟩ 0 yy2 116 ybf yeW yji x=ybu x:=by kernel_rfl
def yxG (x:(ye4).X):Nat:=18446744073709551616
def ypX (x:(ye4).X):Option ((yeW).X ⊕ (yji).X):=zz ybu (yxG x) (yxx x)
def yxT:Seg:=⟨ye4,yeW,yji,ypX⟩
def yAz:Nat→Option Seg:=fun q=>bif Nat.beq q 29 then some yxT else yAy q
theorem yLQ:FrOk prog ⟨yoz,20,yAz⟩ yil:=(yLP).loop (sg:=yxT) ybf yxx (by decide) yLl ybu yxG (by decide) (fun _=>rfl) (fun x r _ h=>h) yMZ
abbrev yfs:List Par:= [.rd tMs]
abbrev yoO:List OT:= [⟨false,tMs,(.ow (.pr (.ow (.ow .fz)) (.pr (.ow (.pr .fz (.ow .fz))) (.pr .fz (.ow .fz)))))⟩]
def yks (a0:List dM):Option (ResD yoO×MutD yfs) :=
 zjW (ypX ((((),()),(a0,()),((a0.length:Int),()),((),()),()),(),(([]:List dM),()))) (fun y2 =>
 some ((y2.2.2.1,()),())) (fun y2 =>
 none)
theorem yUr (x:InD yfs):zju ⟨yoz,20,yAz⟩ f74.results.toList yil yfs yoO x=yks x.1:=by kernel_rfl
theorem yPc:ConOk prog 74 ⟨yfs,yoO,fun x=>yks x.1⟩:=zjZ (yLQ) func74 (by kernel_rfl) (by kernel_rfl) ntmps74.symm (by decide) (fun x r h=>(yUr x).trans h)
def yfF (a0:List dM):List dM:=a0
theorem ySd (a0:List dM) (hk:zi0 yfs (a0,())):yks a0=(fun n=>some ((n,()),())) (yfF a0):=by
 have hb:a0.length*80≤2^47:=hk.1.1
 have h1:=zj1 (step:=ybu) a0 noMem (fun i s=>yod a0 a0.length i s) (fun s x=>s++ [x]) (fun i s=>s.length=i) (fun s=> .inl (yKp s)) (fun i s hi hs=>⟨by
   simp only[ybu,yod,yor,zj2 (show(i:Int)<a0.length by omega),cond_true,wr (show -9223372036854775808≤(i:Int)+1 by omega) (by omega),Int.natCast_add,Int.natCast_one,Int.toNat_natCast,zkj hi,zkk,yan,zkp]
   rw[zj8.2 (show(s.length+ [a0.getD i ([],[],false,[])].length)*80≤140737488355328 by simp only[List.length_cons,List.length_nil]; omega)]; rfl,by simp[hs]⟩) (fun s hs=>by simp only[ybu,yod,yor,zkv (Int.le_refl _),cond_false]) [] rfl 18446744073709551616 (by omega)
 rw[yyb]at h1;unfold yks yfF;rw[show ypX (yKw a0 a0.length [])=_ from h1]; rfl
def ysg:Con:=⟨yfs,yoO,fun x=>(fun n=>some ((n,()),())) (yfF x.1)⟩
theorem yDV:ConOk prog 74 ysg:=(yPc).mono (fun x r hk h=>(ySd x.1 hk).trans h)
end
section
def ybN:Code:=(f16.body).getD .skip
def yfk:Env:=zj0 TT [(55,ylu),(73,yA7),(74,ysg)] []
theorem yLE:FrOk prog ⟨yfk,109,fun _=>none⟩ ybN:=zj4 yc yd ⟨ytR,ySZ,yDV,trivial⟩
def yAu:Nat→Option Seg:=fun _=>none
def ybc:Shape:=⟨[(0,false,[.br tM]),(1,false,[.int .i64]),(4,false,[.ptr 0 0]),(6,false,[.ptr 4160 0]),(7,false,[.bool]),(18,false,[.br tM]),(19,false,[.int .i64]),(20,false,[.int .i64])],[(0,[.int .i64,.int .i64,.int .i64,.nil,.int .i64,.int .i64,.int .i64,.int .i64,.int .i64,.nil,.int .i64,.bool,.bool]),(4160,[.int .i64,.int .i64,.int .i64,.int .i64,.int .i64,.int .i64,.int .i64,.int .i64])],[]⟩
def ye1:Shape:=⟨[(0,false,[.br tM]),(1,false,[.int .i64]),(4,false,[.ptr 0 0]),(6,false,[.ptr 4160 0]),(7,false,[.cb false]),(18,false,[.br tM]),(19,false,[.int .i64]),(20,false,[.ci .i64 0])],[(0,[.int .i64,.int .i64,.int .i64,.nil,.int .i64,.int .i64,.int .i64,.int .i64,.int .i64,.nil,.int .i64,.bool,.bool]),(4160,[.int .i64,.int .i64,.int .i64,.int .i64,.int .i64,.int .i64,.int .i64,.int .i64])],[]⟩
def yeT:Shape:=⟨[(0,false,[.br tM]),(1,false,[.int .i64]),(4,false,[.ptr 0 0]),(6,false,[.ptr 4160 0]),(7,false,[.bool])],[(0,[.int .i64,.int .i64,.int .i64,.nil,.int .i64,.int .i64,.int .i64,.int .i64,.int .i64,.nil,.int .i64,.bool,.bool]),(4160,[.int .i64,.int .i64,.int .i64,.int .i64,.int .i64,.int .i64,.int .i64,.int .i64])],[]⟩
def yjb:Shape:=⟨[],[],[]⟩
abbrev yoa (v0:List dM) (v1:Int) (v2:Bool) (v3:List dM) (v4 v5:Int) (v6:dA) (v7:dS):(ybc).X:=(((v0,()),(v1,()),((),()),((),()),(v2,()),(v3,()),(v4,()),(v5,()),()),((v6.1,v6.2.1.1,v6.2.1.2,(),v6.2.2.2.1,v6.2.2.2.2.1,v6.2.2.2.2.2.1,v6.2.2.2.2.2.2.1,v6.2.2.2.2.2.2.2.1,(),v6.2.2.2.2.2.2.2.2.2.1,v6.2.2.2.2.2.2.2.2.2.2.1,v6.2.2.2.2.2.2.2.2.2.2.2,()),(v7.1,v7.2.1,v7.2.2.1,v7.2.2.2.1,v7.2.2.2.2.1,v7.2.2.2.2.2.1,v7.2.2.2.2.2.2.1,v7.2.2.2.2.2.2.2,()),()),())
abbrev yKt (v0:List dM) (v1:Int) (v2:List dM) (v3:Int) (v4:dA) (v5:dS):(ye1).X:=(((v0,()),(v1,()),((),()),((),()),((),()),(v2,()),(v3,()),((),()),()),((v4.1,v4.2.1.1,v4.2.1.2,(),v4.2.2.2.1,v4.2.2.2.2.1,v4.2.2.2.2.2.1,v4.2.2.2.2.2.2.1,v4.2.2.2.2.2.2.2.1,(),v4.2.2.2.2.2.2.2.2.2.1,v4.2.2.2.2.2.2.2.2.2.2.1,v4.2.2.2.2.2.2.2.2.2.2.2,()),(v5.1,v5.2.1,v5.2.2.1,v5.2.2.2.1,v5.2.2.2.2.1,v5.2.2.2.2.2.1,v5.2.2.2.2.2.2.1,v5.2.2.2.2.2.2.2,()),()),())
abbrev yxK (v0:List dM) (v1:Int) (v2:Bool) (v3:dA) (v4:dS):(yeT).X:=(((v0,()),(v1,()),((),()),((),()),(v2,()),()),((v3.1,v3.2.1.1,v3.2.1.2,(),v3.2.2.2.1,v3.2.2.2.2.1,v3.2.2.2.2.2.1,v3.2.2.2.2.2.2.1,v3.2.2.2.2.2.2.2.1,(),v3.2.2.2.2.2.2.2.2.2.1,v3.2.2.2.2.2.2.2.2.2.2.1,v3.2.2.2.2.2.2.2.2.2.2.2,()),(v4.1,v4.2.1,v4.2.2.1,v4.2.2.2.1,v4.2.2.2.2.1,v4.2.2.2.2.2.1,v4.2.2.2.2.2.2.1,v4.2.2.2.2.2.2.2,()),()),())
def yoo (v0:List dM) (v1:Int) (v2:Bool) (v3:List dM) (v4 v5 v6 v7 v8 v9 v10 v11 v12 v13 v14:Int) (v15 v16:Bool) (v17 v18 v19 v20 v21 v22 v23 v24:Int):Option ((ybc).X ⊕ ((yeT).X ⊕ (yjb).X)) :=
 bif(ltb v5 v4)then
 bif(inb v5 v3.length)then
 let r2:=ydt ((nth v3 v5 ([],[],false,[])).1,((nth v3 v5 ([],[],false,[])).2).1,(((nth v3 v5 ([],[],false,[])).2).2)) v5 v1
 bif r2.2 then
 bif(!(!v2))then
 bif(ltb v18 r2.1.2.1)then
 some (.inl (((v0,()),(v1,()),((),()),((),()),(true,()),(v3,()),(v4,()),((IntKind.i64.wrap (v5+1)),()),()),((v6,v7,v8,(),v9,v10,v11,v12,v13,(),v14,v15,v16,()),(r2.1.1,r2.1.2.1,r2.1.2.2.1,r2.1.2.2.2.1,r2.1.2.2.2.2.1,r2.1.2.2.2.2.2.1,r2.1.2.2.2.2.2.2.1,r2.1.2.2.2.2.2.2.2,()),()),()))
 else
 some (.inl (((v0,()),(v1,()),((),()),((),()),(v2,()),(v3,()),(v4,()),((IntKind.i64.wrap (v5+1)),()),()),((v6,v7,v8,(),v9,v10,v11,v12,v13,(),v14,v15,v16,()),(v17,v18,v19,v20,v21,v22,v23,v24,()),()),()))
 else
 some (.inl (((v0,()),(v1,()),((),()),((),()),(true,()),(v3,()),(v4,()),((IntKind.i64.wrap (v5+1)),()),()),((v6,v7,v8,(),v9,v10,v11,v12,v13,(),v14,v15,v16,()),(r2.1.1,r2.1.2.1,r2.1.2.2.1,r2.1.2.2.2.1,r2.1.2.2.2.2.1,r2.1.2.2.2.2.2.1,r2.1.2.2.2.2.2.2.1,r2.1.2.2.2.2.2.2.2,()),()),()))
 else
 some (.inl (((v0,()),(v1,()),((),()),((),()),(v2,()),(v3,()),(v4,()),((IntKind.i64.wrap (v5+1)),()),()),((v6,v7,v8,(),v9,v10,v11,v12,v13,(),v14,v15,v16,()),(v17,v18,v19,v20,v21,v22,v23,v24,()),()),()))
 else none
 else
 some (.inr (.inl (((v0,()),(v1,()),((),()),((),()),(v2,()),()),((v6,v7,v8,(),v9,v10,v11,v12,v13,(),v14,v15,v16,()),(v17,v18,v19,v20,v21,v22,v23,v24,()),()),())))
def ybr (x:(ybc).X):=yoo x.1.1.1 x.1.2.1.1 x.1.2.2.2.2.1.1 x.1.2.2.2.2.2.1.1 x.1.2.2.2.2.2.2.1.1 x.1.2.2.2.2.2.2.2.1.1 x.2.1.1.1 x.2.1.1.2.1 x.2.1.1.2.2.1 x.2.1.1.2.2.2.2.1 x.2.1.1.2.2.2.2.2.1 x.2.1.1.2.2.2.2.2.2.1 x.2.1.1.2.2.2.2.2.2.2.1 x.2.1.1.2.2.2.2.2.2.2.2.1 x.2.1.1.2.2.2.2.2.2.2.2.2.2.1 x.2.1.1.2.2.2.2.2.2.2.2.2.2.2.1 x.2.1.1.2.2.2.2.2.2.2.2.2.2.2.2.1 x.2.1.2.1.1 x.2.1.2.1.2.1 x.2.1.2.1.2.2.1 x.2.1.2.1.2.2.2.1 x.2.1.2.1.2.2.2.2.1 x.2.1.2.1.2.2.2.2.2.1 x.2.1.2.1.2.2.2.2.2.2.1 x.2.1.2.1.2.2.2.2.2.2.2.1
def yxu (x:(ye1).X):(ybc).X:=(((x.1.1.1,()),(x.1.2.1.1,()),((),()),((),()),(false,()),(x.1.2.2.2.2.2.1.1,()),(x.1.2.2.2.2.2.2.1.1,()),(0,()),()),((x.2.1.1.1,x.2.1.1.2.1,x.2.1.1.2.2.1,(),x.2.1.1.2.2.2.2.1,x.2.1.1.2.2.2.2.2.1,x.2.1.1.2.2.2.2.2.2.1,x.2.1.1.2.2.2.2.2.2.2.1,x.2.1.1.2.2.2.2.2.2.2.2.1,(),x.2.1.1.2.2.2.2.2.2.2.2.2.2.1,x.2.1.1.2.2.2.2.2.2.2.2.2.2.2.1,x.2.1.1.2.2.2.2.2.2.2.2.2.2.2.2.1,()),(x.2.1.2.1.1,x.2.1.2.1.2.1,x.2.1.2.1.2.2.1,x.2.1.2.1.2.2.2.1,x.2.1.2.1.2.2.2.2.1,x.2.1.2.1.2.2.2.2.2.1,x.2.1.2.1.2.2.2.2.2.2.1,x.2.1.2.1.2.2.2.2.2.2.2.1,()),()),())
def yyZ:Code:=(zef ybN 64 116).getD .skip
theorem yLi:zef ybN 64 29=some (.block 0 (.loop yyZ)):=by kernel_rfl
theorem yMW (x:(ybc).X):zg0 ⟨yfk,109,yAu⟩ 0 yyZ 116 ybc yeT yjb x=ybr x:=by kernel_rfl
def yxD (x:(ye1).X):Nat:=18446744073709551616
def ypV (x:(ye1).X):Option ((yeT).X ⊕ (yjb).X):=zz ybr (yxD x) (yxu x)
def yxQ:Seg:=⟨ye1,yeT,yjb,ypV⟩
def yr0:Nat→Option Seg:=fun q=>bif Nat.beq q 29 then some yxQ else yAu q
theorem yLF:FrOk prog ⟨yfk,109,yr0⟩ ybN:=(yLE).loop (sg:=yxQ) ybc yxu (by decide) yLi ybr yxD (by decide) (fun _=>rfl) (fun x r _ h=>h) yMW
def yaM:Shape:=⟨[(1,false,[.int .i64]),(4,false,[.ptr 0 0]),(12,false,[.ptr 46272 0]),(75,false,[.br tM]),(76,false,[.int .i64]),(77,false,[.int .i64])],[(0,[.int .i64,.int .i64,.int .i64,.nil,.int .i64,.int .i64,.int .i64,.int .i64,.int .i64,.nil,.int .i64,.bool,.bool]),(46272,[.int .i64,.int .i64,.int .i64,.at 800000000,.int .i64,.int .i64,.int .i64,.int .i64,.int .i64,.nil,.int .i64,.bool,.bool])],[(800000000,tM,(.pr (.ow (.ow .fz)) (.pr (.ow (.pr .fz (.ow .fz))) (.pr .fz (.ow .fz)))))]⟩
def yeb:Shape:=⟨[(1,false,[.int .i64]),(4,false,[.ptr 0 0]),(12,false,[.ptr 46272 0]),(75,false,[.br tM]),(76,false,[.int .i64]),(77,false,[.ci .i64 0])],[(0,[.int .i64,.int .i64,.int .i64,.nil,.int .i64,.int .i64,.int .i64,.int .i64,.int .i64,.nil,.int .i64,.bool,.bool]),(46272,[.int .i64,.int .i64,.int .i64,.at 800000000,.int .i64,.int .i64,.int .i64,.int .i64,.int .i64,.nil,.int .i64,.bool,.bool])],[(800000000,tM,(.pr (.ow (.ow .fz)) (.pr (.ow (.pr .fz (.ow .fz))) (.pr .fz (.ow .fz)))))]⟩
def yd5:Shape:=⟨[(4,false,[.ptr 0 0]),(12,false,[.ptr 46272 0])],[(0,[.int .i64,.int .i64,.int .i64,.nil,.int .i64,.int .i64,.int .i64,.int .i64,.int .i64,.nil,.int .i64,.bool,.bool]),(46272,[.int .i64,.int .i64,.int .i64,.at 800000000,.int .i64,.int .i64,.int .i64,.int .i64,.int .i64,.nil,.int .i64,.bool,.bool])],[(800000000,tM,(.pr (.ow (.ow .fz)) (.pr (.ow (.pr .fz (.ow .fz))) (.pr .fz (.ow .fz)))))]⟩
def yhM:Shape:=⟨[],[],[]⟩
abbrev ymr (v0:Int) (v1:List dM) (v2 v3:Int) (v4 v5:dA):(yaM).X:=(((v0,()),((),()),((),()),(v1,()),(v2,()),(v3,()),()),((v4.1,v4.2.1.1,v4.2.1.2,(),v4.2.2.2.1,v4.2.2.2.2.1,v4.2.2.2.2.2.1,v4.2.2.2.2.2.2.1,v4.2.2.2.2.2.2.2.1,(),v4.2.2.2.2.2.2.2.2.2.1,v4.2.2.2.2.2.2.2.2.2.2.1,v4.2.2.2.2.2.2.2.2.2.2.2,()),(v5.1,v5.2.1.1,v5.2.1.2,(),v5.2.2.2.1,v5.2.2.2.2.1,v5.2.2.2.2.2.1,v5.2.2.2.2.2.2.1,v5.2.2.2.2.2.2.2.1,(),v5.2.2.2.2.2.2.2.2.2.1,v5.2.2.2.2.2.2.2.2.2.2.1,v5.2.2.2.2.2.2.2.2.2.2.2,()),()),(v5.2.2.1,()))
abbrev yIy (v0:Int) (v1:List dM) (v2:Int) (v3 v4:dA):(yeb).X:=(((v0,()),((),()),((),()),(v1,()),(v2,()),((),()),()),((v3.1,v3.2.1.1,v3.2.1.2,(),v3.2.2.2.1,v3.2.2.2.2.1,v3.2.2.2.2.2.1,v3.2.2.2.2.2.2.1,v3.2.2.2.2.2.2.2.1,(),v3.2.2.2.2.2.2.2.2.2.1,v3.2.2.2.2.2.2.2.2.2.2.1,v3.2.2.2.2.2.2.2.2.2.2.2,()),(v4.1,v4.2.1.1,v4.2.1.2,(),v4.2.2.2.1,v4.2.2.2.2.1,v4.2.2.2.2.2.1,v4.2.2.2.2.2.2.1,v4.2.2.2.2.2.2.2.1,(),v4.2.2.2.2.2.2.2.2.2.1,v4.2.2.2.2.2.2.2.2.2.2.1,v4.2.2.2.2.2.2.2.2.2.2.2,()),()),(v4.2.2.1,()))
abbrev ywI (v0 v1:dA):(yd5).X:=((((),()),((),()),()),((v0.1,v0.2.1.1,v0.2.1.2,(),v0.2.2.2.1,v0.2.2.2.2.1,v0.2.2.2.2.2.1,v0.2.2.2.2.2.2.1,v0.2.2.2.2.2.2.2.1,(),v0.2.2.2.2.2.2.2.2.2.1,v0.2.2.2.2.2.2.2.2.2.2.1,v0.2.2.2.2.2.2.2.2.2.2.2,()),(v1.1,v1.2.1.1,v1.2.1.2,(),v1.2.2.2.1,v1.2.2.2.2.1,v1.2.2.2.2.2.1,v1.2.2.2.2.2.2.1,v1.2.2.2.2.2.2.2.1,(),v1.2.2.2.2.2.2.2.2.2.1,v1.2.2.2.2.2.2.2.2.2.2.1,v1.2.2.2.2.2.2.2.2.2.2.2,()),()),(v1.2.2.1,()))
def ymX (v0:Int) (v1:List dM) (v2 v3 v4 v5 v6 v7 v8 v9 v10 v11 v12:Int) (v13 v14:Bool) (v15 v16 v17 v18 v19 v20 v21 v22 v23:Int) (v24 v25:Bool) (v26:List dM):Option ((yaM).X ⊕ ((yd5).X ⊕ (yhM).X)) :=
 bif(ltb v3 v2)then
 bif(inb v3 v1.length)then
 let r6:=ydt ((nth v1 v3 ([],[],false,[])).1,((nth v1 v3 ([],[],false,[])).2).1,(((nth v1 v3 ([],[],false,[])).2).2)) v3 v0
 bif r6.2 then
 some (.inl (((v0,()),((),()),((),()),(v1,()),(v2,()),((IntKind.i64.wrap (v3+1)),()),()),((v4,v5,v6,(),v7,v8,v9,v10,v11,(),v12,v13,v14,()),(v15,v16,v17,(),v18,v19,v20,v21,v22,(),v23,v24,v25,()),()),(v26,())))
 else
 bif(!(v18==(-1)))then
 bif(v18==v3)then
 some (.inl (((v0,()),((),()),((),()),(v1,()),(v2,()),((IntKind.i64.wrap (v3+1)),()),()),((v4,v5,v6,(),v7,v8,v9,v10,v11,(),v12,v13,v14,()),(v15,v16,v17,(),v3,0,v20,v21,v22,(),v23,v24,v25,()),()),(v26,())))
 else
 some (.inl (((v0,()),((),()),((),()),(v1,()),(v2,()),((IntKind.i64.wrap (v3+1)),()),()),((v4,v5,v6,(),v7,v8,v9,v10,v11,(),v12,v13,v14,()),(v15,v16,v17,(),v18,v19,v20,v21,v22,(),v23,v24,true,()),()),(v26,())))
 else
 some (.inl (((v0,()),((),()),((),()),(v1,()),(v2,()),((IntKind.i64.wrap (v3+1)),()),()),((v4,v5,v6,(),v7,v8,v9,v10,v11,(),v12,v13,v14,()),(v15,v16,v17,(),v3,0,v20,v21,v22,(),v23,v24,v25,()),()),(v26,())))
 else none
 else
 some (.inr (.inl ((((),()),((),()),()),((v4,v5,v6,(),v7,v8,v9,v10,v11,(),v12,v13,v14,()),(v15,v16,v17,(),v18,v19,v20,v21,v22,(),v23,v24,v25,()),()),(v26,()))))
def ya2 (x:(yaM).X):=ymX x.1.1.1 x.1.2.2.2.1.1 x.1.2.2.2.2.1.1 x.1.2.2.2.2.2.1.1 x.2.1.1.1 x.2.1.1.2.1 x.2.1.1.2.2.1 x.2.1.1.2.2.2.2.1 x.2.1.1.2.2.2.2.2.1 x.2.1.1.2.2.2.2.2.2.1 x.2.1.1.2.2.2.2.2.2.2.1 x.2.1.1.2.2.2.2.2.2.2.2.1 x.2.1.1.2.2.2.2.2.2.2.2.2.2.1 x.2.1.1.2.2.2.2.2.2.2.2.2.2.2.1 x.2.1.1.2.2.2.2.2.2.2.2.2.2.2.2.1 x.2.1.2.1.1 x.2.1.2.1.2.1 x.2.1.2.1.2.2.1 x.2.1.2.1.2.2.2.2.1 x.2.1.2.1.2.2.2.2.2.1 x.2.1.2.1.2.2.2.2.2.2.1 x.2.1.2.1.2.2.2.2.2.2.2.1 x.2.1.2.1.2.2.2.2.2.2.2.2.1 x.2.1.2.1.2.2.2.2.2.2.2.2.2.2.1 x.2.1.2.1.2.2.2.2.2.2.2.2.2.2.2.1 x.2.1.2.1.2.2.2.2.2.2.2.2.2.2.2.2.1 x.2.2.1
def ywm (x:(yeb).X):(yaM).X:=(((x.1.1.1,()),((),()),((),()),(x.1.2.2.2.1.1,()),(x.1.2.2.2.2.1.1,()),(0,()),()),((x.2.1.1.1,x.2.1.1.2.1,x.2.1.1.2.2.1,(),x.2.1.1.2.2.2.2.1,x.2.1.1.2.2.2.2.2.1,x.2.1.1.2.2.2.2.2.2.1,x.2.1.1.2.2.2.2.2.2.2.1,x.2.1.1.2.2.2.2.2.2.2.2.1,(),x.2.1.1.2.2.2.2.2.2.2.2.2.2.1,x.2.1.1.2.2.2.2.2.2.2.2.2.2.2.1,x.2.1.1.2.2.2.2.2.2.2.2.2.2.2.2.1,()),(x.2.1.2.1.1,x.2.1.2.1.2.1,x.2.1.2.1.2.2.1,(),x.2.1.2.1.2.2.2.2.1,x.2.1.2.1.2.2.2.2.2.1,x.2.1.2.1.2.2.2.2.2.2.1,x.2.1.2.1.2.2.2.2.2.2.2.1,x.2.1.2.1.2.2.2.2.2.2.2.2.1,(),x.2.1.2.1.2.2.2.2.2.2.2.2.2.2.1,x.2.1.2.1.2.2.2.2.2.2.2.2.2.2.2.1,x.2.1.2.1.2.2.2.2.2.2.2.2.2.2.2.2.1,()),()),(x.2.2.1,()))
def yxk:Code:=(zef ybN 64 1012).getD .skip
theorem yKa:zef ybN 64 253=some (.block 2 (.loop yxk)):=by kernel_rfl
theorem yKK (x:(yaM).X):zg0 ⟨yfk,109,yr0⟩ 2 yxk 1012 yaM yd5 yhM x=ya2 x:=by kernel_rfl
def ywu (x:(yeb).X):Nat:=18446744073709551616
def yn2 (x:(yeb).X):Option ((yd5).X ⊕ (yhM).X):=zz ya2 (ywu x) (ywm x)
def yw8:Seg:=⟨yeb,yd5,yhM,yn2⟩
def yAv:Nat→Option Seg:=fun q=>bif Nat.beq q 253 then some yw8 else yr0 q
theorem yLG:FrOk prog ⟨yfk,109,yAv⟩ ybN:=(yLF).loop (sg:=yw8) yaM ywm (by decide) yKa ya2 ywu (by decide) (fun _=>rfl) (fun x r _ h=>h) yKK
abbrev yfl:List Par:= [.rd tMs,.rd tI]
abbrev yoG:List OT:= [⟨false,tA,(.pr .fz (.pr (.pr .fz .fz) (.pr (.ow (.pr (.ow (.ow .fz)) (.pr (.ow (.pr .fz (.ow .fz))) (.pr .fz (.ow .fz))))) (.pr .fz (.pr .fz (.pr .fz (.pr .fz (.pr .fz (.pr (.ow (.pr .fz (.ow .fz))) (.pr .fz (.pr .fz .fz)))))))))))⟩,⟨false,tB,.fz⟩]
def ykl (a0:List dM) (a1:Int):Option (ResD yoG×MutD yfl) :=
 zjW (ypV (((a0,()),(a1,()),((),()),((),()),((),()),(a0,()),((a0.length:Int),()),((),()),()),((0,0,0,(),0,0,0,0,0,(),0,false,false,()),(0,0,0,0,0,0,0,0,()),()),())) (fun y2 =>
 bif(!(!y2.1.2.2.2.2.1.1))then
 bif((y2.1.1.1.length:Int) !=y2.2.1.2.1.2.2.2.1)then
 some (((0,(0,0),[],0,0,0,0,0,[],0,false,false),false,()),())
 else
 let r4:=yfF y2.1.1.1
 zjW (yn2 (((y2.1.2.1.1,()),((),()),((),()),(y2.1.1.1,()),((y2.1.1.1.length:Int),()),((),()),()),((y2.2.1.1.1,y2.2.1.1.2.1,y2.2.1.1.2.2.1,(),y2.2.1.1.2.2.2.2.1,y2.2.1.1.2.2.2.2.2.1,y2.2.1.1.2.2.2.2.2.2.1,y2.2.1.1.2.2.2.2.2.2.2.1,y2.2.1.1.2.2.2.2.2.2.2.2.1,(),y2.2.1.1.2.2.2.2.2.2.2.2.2.2.1,y2.2.1.1.2.2.2.2.2.2.2.2.2.2.2.1,y2.2.1.1.2.2.2.2.2.2.2.2.2.2.2.2.1,()),(y2.1.2.1.1,y2.2.1.2.1.2.2.2.1,y2.2.1.2.1.2.2.2.2.1,(),y2.2.1.2.1.2.2.2.2.2.2.1,y2.2.1.2.1.2.2.2.2.2.2.2.1,y2.2.1.2.1.2.2.2.2.2.1,y2.2.1.2.1.2.2.2.2.2.1,y2.2.1.2.1.2.1,(),(-1),false,false,()),()),(r4,()))) (fun y6 =>
 let r8:=yam (y6.2.1.2.1.1,(y6.2.1.2.1.2.1,y6.2.1.2.1.2.2.1),y6.2.2.1,y6.2.1.2.1.2.2.2.2.1,y6.2.1.2.1.2.2.2.2.2.1,y6.2.1.2.1.2.2.2.2.2.2.1,y6.2.1.2.1.2.2.2.2.2.2.2.1,y6.2.1.2.1.2.2.2.2.2.2.2.2.1,[],y6.2.1.2.1.2.2.2.2.2.2.2.2.2.2.1,y6.2.1.2.1.2.2.2.2.2.2.2.2.2.2.2.1,y6.2.1.2.1.2.2.2.2.2.2.2.2.2.2.2.2.1)
 bif(!r8)then
 some (((0,(0,0),[],0,0,0,0,0,[],0,false,false),false,()),())
 else
 some (((y6.2.1.2.1.1,(y6.2.1.2.1.2.1,y6.2.1.2.1.2.2.1),y6.2.2.1,y6.2.1.2.1.2.2.2.2.1,y6.2.1.2.1.2.2.2.2.2.1,y6.2.1.2.1.2.2.2.2.2.2.1,y6.2.1.2.1.2.2.2.2.2.2.2.1,y6.2.1.2.1.2.2.2.2.2.2.2.2.1,[],y6.2.1.2.1.2.2.2.2.2.2.2.2.2.2.1,y6.2.1.2.1.2.2.2.2.2.2.2.2.2.2.2.1,y6.2.1.2.1.2.2.2.2.2.2.2.2.2.2.2.2.1),true,()),())) (fun y6 =>
 none)
 else
 some (((0,(0,0),[],0,0,0,0,0,[],0,false,false),false,()),())) (fun y2 =>
 none)
theorem yUj (x:InD yfl):zju ⟨yfk,109,yAv⟩ f16.results.toList ybN yfl yoG x=ykl x.1 x.2.1:=by kernel_rfl
theorem yO4:ConOk prog 16 ⟨yfl,yoG,fun x=>ykl x.1 x.2.1⟩:=zjZ (yLG) func16 (by kernel_rfl) (by kernel_rfl) ntmps16.symm (by decide) (fun x r h=>(yUj x).trans h)
def yjw (a0:List dM) (a1:Int):dA×Bool:=yfP a0 a1
theorem yR5 (a0:List dM) (a1:Int) (hk:zi0 yfl (a0,a1,())):ykl a0 a1=(fun n=>some ((n.1,n.2,()),())) (yjw a0 a1):=by
 have hb:a0.length*80≤2^47:=hk.1.1
 have h0:ypV (yKt a0 a1 a0 a0.length yae yeB)=some (.inl (yxK a0 a1 (ydo a0 a1).2 yae (ydo a0 a1).1)) :=
  zj6 (step:=ybr) a0.length (fun i (s:dS×Bool)=>yoa a0 a1 s.2 a0 a0.length i yae s.1) (fun(s:dS×Bool) (i:Nat)=>ynz s (yhS (nth a0 i noMem) i a1) (yT (nth a0 i noMem) a1).1) (fun _ _=>True) (fun(s:dS×Bool)=> .inl (yxK a0 a1 s.2 yae s.1)) (fun i s hi _=>⟨by
  simp only[ybr,yoa,yoo,zj2 (show(i:Int)<a0.length by omega),cond_true,wr (show -9223372036854775808≤(i:Int)+1 by omega) (by omega),Int.natCast_add,Int.natCast_one,Int.toNat_natCast,zkj hi,zkp,ydt]
  cases yhS (nth a0 i noMem) i a1
  ·rfl
  simp only[cond_true];unfold ynz
  cases hf:s.2<;>cases ltb s.1.2.1 (yT (nth a0 i noMem) a1).1.2.1<;>simp only[Bool.not_true,Bool.not_false,cond_true,cond_false,Bool.and_true,Bool.true_and,Bool.false_and,Bool.and_false,Bool.or_true,Bool.true_or,Bool.false_or,Bool.or_false,hf],trivial⟩) (fun s _=>by simp only[ybr,yoa,yoo,zkv (Int.le_refl _),cond_false]) (yeB,false) trivial _ (by show _<18446744073709551616; omega)
 have h1: ∀(b:dS) (s:Int×Int×Bool),yn2 (yIy a1 a0 a0.length yae (yv5 b a0 a1 s))=some (.inl (ywI yae (yv5 b a0 a1 ((List.range a0.length).foldl (ylt a0 a1) s)))):=fun b s =>
  zj6 (step:=ya2) a0.length (fun i s=>ymr a1 a0 a0.length i yae (yv5 b a0 a1 s)) (ylt a0 a1) (fun _ _=>True) (fun s=> .inl (ywI yae (yv5 b a0 a1 s))) (fun i s hi _=>⟨by
   simp only[ya2,ymr,ymX,zj2 (show(i:Int)<a0.length by omega),cond_true,wr (show -9223372036854775808≤(i:Int)+1 by omega) (by omega),Int.natCast_add,Int.natCast_one,Int.toNat_natCast,zkj hi,zkp,ydt,yv5];unfold ylt
   cases yhS (nth a0 i noMem) i a1<;>cases(s.1== -1)<;>cases(s.1==(i:Int))<;>rfl,trivial⟩) (fun s _=>by simp only[ya2,ymr,ymX,zkv (Int.le_refl _),cond_false]) s trivial _ (by show _<18446744073709551616; omega)
 unfold ykl yjw yfP yHw;refine(congrArg (fun z=>zjW z _ _) h0).trans ?_;simp only[zkf,yfF,bne]
 cases(ydo a0 a1).2
 ·rfl
 cases((a0.length:Int)==(ydo a0 a1).1.2.2.2.1)
 ·rfl
 have h2:=h1 (ydo a0 a1).1 ((ydo a0 a1).1.2.2.2.2.2.2.1,(ydo a0 a1).1.2.2.2.2.2.2.2,false);simp only[Bool.not_true,Bool.not_false,cond_true,cond_false,Bool.true_and];refine(congrArg (fun z=>zjW z _ _) h2).trans ?_;simp only[zkf,yam];show(bif !(yR (yv5 (ydo a0 a1).1 a0 a1 ((List.range a0.length).foldl (ylt a0 a1) ((ydo a0 a1).1.2.2.2.2.2.2.1,(ydo a0 a1).1.2.2.2.2.2.2.2,false))))then _ else _)=_
 cases yR (yv5 (ydo a0 a1).1 a0 a1 ((List.range a0.length).foldl (ylt a0 a1) ((ydo a0 a1).1.2.2.2.2.2.2.1,(ydo a0 a1).1.2.2.2.2.2.2.2,false)))<;>rfl
def yA0:Con:=⟨yfl,yoG,fun x=>(fun n=>some ((n.1,n.2,()),())) (yjw x.1 x.2.1)⟩
theorem ySS:ConOk prog 16 yA0:=(yO4).mono (fun x r hk h=>(yR5 x.1 x.2.1 hk).trans h)
end
section
def yI1:Code:=(f88.body).getD .skip
def yJz:Env:=zj0 TT [] []
theorem yQQ:FrOk prog ⟨yJz,8,fun _=>none⟩ yI1:=zj4 yc yd trivial
def yTA:Nat→Option Seg:=fun _=>none
abbrev yne:List Par:= [.rd tI]
abbrev ytm:List OT:= [⟨false,tI,.fz⟩]
def ywU (a0:Int):Option (ResD ytm×MutD yne) :=
 bif(ltb a0 0)then
 some (((-1),()),())
 else
 some (((IntKind.i64.wrap (2+(a0.tmod 4))),()),())
theorem y0D (x:InD yne):zju ⟨yJz,8,yTA⟩ f88.results.toList yI1 yne ytm x=ywU x.1:=by kernel_rfl
theorem yWa:ConOk prog 88 ⟨yne,ytm,fun x=>ywU x.1⟩:=zjZ (yQQ) func88 (by kernel_rfl) (by kernel_rfl) ntmps88.symm (by decide) (fun x r h=>(y0D x).trans h)
def ynJ (a0:Int):Int :=
 bif(ltb a0 0)then
 (-1)
 else
 (IntKind.i64.wrap (2+(a0.tmod 4)))
def ywd:Con:=⟨yne,ytm,fun x=>(fun n=>some ((n,()),())) (ynJ x.1)⟩
theorem yYv (a0:Int):ywU a0=(fun n=>some ((n,()),())) (ynJ a0):=zkn (p:=fun(n:Int)=>((n,()),())) (zj9 (p:=fun(n:Int)=>((n,()),())) rfl rfl)
theorem yH3:ConOk prog 88 ywd:=(yWa).mono (fun x r _ h=>(yYv x.1).trans h)
end
section
def yJi:Code:=(f226.body).getD .skip
def yJQ:Env:=zj0 TT [(82,yw)] []
theorem yRc:FrOk prog ⟨yJQ,5,fun _=>none⟩ yJi:=zj4 yc yd ⟨yD,trivial⟩
def yTR:Nat→Option Seg:=fun _=>none
abbrev ynr:List Par:= [.rd tI]
abbrev ytE:List OT:= [⟨false,tB,.fz⟩]
def yw4 (a0:Int):Option (ResD ytE×MutD ynr) :=
 let r1:=ya a0 0 65535
 some ((r1,()),())
theorem y0W (x:InD ynr):zju ⟨yJQ,5,yTR⟩ f226.results.toList yJi ynr ytE x=yw4 x.1:=by kernel_rfl
theorem yWt:ConOk prog 226 ⟨ynr,ytE,fun x=>yw4 x.1⟩:=zjZ (yRc) func226 (by kernel_rfl) (by kernel_rfl) ntmps226.symm (by decide) (fun x r h=>(y0W x).trans h)
def yai (a0:Int):Bool :=
 let r1:=ya a0 0 65535
 r1
def yFQ:Con:=⟨ynr,ytE,fun x=>(fun n=>some ((n,()),())) (yai x.1)⟩
theorem yYL (a0:Int):yw4 a0=(fun n=>some ((n,()),())) (yai a0):=zkn (p:=fun(n:Bool)=>((n,()),())) rfl
theorem yZy:ConOk prog 226 yFQ:=(yWt).mono (fun x r _ h=>(yYL x.1).trans h)
end
section
def ykL:Code:=(f200.body).getD .skip
def yq4:Env:=zj0 TT [(226,yFQ)] []
theorem yOs:FrOk prog ⟨yq4,16,fun _=>none⟩ ykL:=zj4 yc yd ⟨yZy,trivial⟩
def yCv:Nat→Option Seg:=fun _=>none
def ydz:Shape:=⟨[(0,false,[.br tI]),(3,false,[.int .i64])],[],[]⟩
def yj0:Shape:=⟨[(0,false,[.br tI]),(3,false,[.ci .i64 0])],[],[]⟩
def yjY:Shape:=⟨[],[],[]⟩
def ykb:Shape:=⟨[(2,false,[.bool])],[],[]⟩
def yqR (v0:List Int) (v1:Int):Option ((ydz).X ⊕ ((yjY).X ⊕ (ykb).X)) :=
 bif(ltb v1 (v0.length:Int))then
 bif(inb v1 v0.length)then
 let r2:=yai (nth v0 v1 0)
 bif(!r2)then
 some (.inr (.inr (((false,()),()),(),())))
 else
 some (.inl (((v0,()),((IntKind.i64.wrap (v1+1)),()),()),(),()))
 else none
 else
 some (.inr (.inl ((),(),())))
def yb2 (x:(ydz).X):=yqR x.1.1.1 x.1.2.1.1
def yzn (x:(yj0).X):(ydz).X:=(((x.1.1.1,()),(0,()),()),(),())
def yAV:Code:=(zef ykL 64 52).getD .skip
theorem yNQ:zef ykL 64 13=some (.block 0 (.loop yAV)):=by kernel_rfl
theorem yPH (x:(ydz).X):zg0 ⟨yq4,16,yCv⟩ 0 yAV 52 ydz yjY ykb x=yb2 x:=by kernel_rfl
def yzC (x:(yj0).X):Nat:=18446744073709551616
def ysb (x:(yj0).X):Option ((yjY).X ⊕ (ykb).X):=zz yb2 (yzC x) (yzn x)
def yz1:Seg:=⟨yj0,yjY,ykb,ysb⟩
def yCw:Nat→Option Seg:=fun q=>bif Nat.beq q 13 then some yz1 else yCv q
theorem yOt:FrOk prog ⟨yq4,16,yCw⟩ ykL:=(yOs).loop (sg:=yz1) ydz yzn (by decide) yNQ yb2 yzC (by decide) (fun _=>rfl) (fun x r _ h=>h) yPH
abbrev ygP:List Par:= [.rd tL]
abbrev yro:List OT:= [⟨false,tB,.fz⟩]
def ymO (a0:List Int):Option (ResD yro×MutD ygP) :=
 zjW (ysb (((a0,()),((),()),()),(),())) (fun y2 =>
 some ((true,()),())) (fun y2 =>
 some ((y2.1.1.1,()),()))
theorem yX4 (x:InD ygP):zju ⟨yq4,16,yCw⟩ f200.results.toList ykL ygP yro x=ymO x.1:=by kernel_rfl
theorem ySK:ConOk prog 200 ⟨ygP,yro,fun x=>ymO x.1⟩:=zjZ (yOt) func200 (by kernel_rfl) (by kernel_rfl) ntmps200.symm (by decide) (fun x r h=>(yX4 x).trans h)
def yU (a0:List Int):Bool:=a0.all yai
theorem yVW (a0:List Int) (hk:zi0 ygP (a0,())):ymO a0=(fun n=>some ((n,()),())) (yU a0):=by
 have hb:a0.length*8≤2^47:=hk.1.1
 have hl:ysb (((a0,()),((),()),()),(),())=some (bif a0.all yai then .inl ((),(),())else .inr (((false,()),()),(),())) :=
  zjD (step:=yb2) a0 0 (fun i=>(((a0,()),((i:Int),()),()),(),())) yai _ _ (fun i hi=>by
   simp only[yb2,yqR,zkj hi,zkk,zj2 (show(i:Int)<a0.length by omega),cond_true,wr (show -9223372036854775808≤(i:Int)+1 by omega) (by omega),Int.natCast_add,Int.natCast_one]
   cases yai (a0.getD i 0)<;>rfl) (by simp only[yb2,yqR,zkv (Int.le_refl _),cond_false]) _ (by show _<18446744073709551616; omega)
 unfold ymO yU;rw[hl]
 cases a0.all yai<;>rfl
def yhA:Con:=⟨ygP,yro,fun x=>(fun n=>some ((n,()),())) (yU x.1)⟩
theorem ypm:ConOk prog 200 yhA:=(ySK).mono (fun x r hk h=>(yVW x.1 hk).trans h)
end
section
def ykM:Code:=(f152.body).getD .skip
def yq5:Env:=zj0 TT [(82,yw),(200,yhA)] []
theorem yOu:FrOk prog ⟨yq5,57,fun _=>none⟩ ykM:=zj4 yc yd ⟨yD,ypm,trivial⟩
def yCx:Nat→Option Seg:=fun _=>none
def ybJ:Shape:=⟨[(1,false,[.ptr 0 0]),(3,false,[.int .i64])],[(0,[.int .i64,.int .i64,.int .i64,.br tM,.int .i64,.int .i64,.int .i64,.int .i64,.int .i64,.br tW,.int .i64,.bool,.bool])],[]⟩
def ygl:Shape:=⟨[(1,false,[.ptr 0 0]),(3,false,[.ci .i64 0])],[(0,[.int .i64,.int .i64,.int .i64,.br tM,.int .i64,.int .i64,.int .i64,.int .i64,.int .i64,.br tW,.int .i64,.bool,.bool])],[]⟩
def yf9:Shape:=⟨[],[],[]⟩
def ygs:Shape:=⟨[(2,false,[.bool])],[],[]⟩
abbrev yqw (v0:Int) (v1:dA):(ybJ).X:=((((),()),(v0,()),()),((v1.1,v1.2.1.1,v1.2.1.2,v1.2.2.1,v1.2.2.2.1,v1.2.2.2.2.1,v1.2.2.2.2.2.1,v1.2.2.2.2.2.2.1,v1.2.2.2.2.2.2.2.1,v1.2.2.2.2.2.2.2.2.1,v1.2.2.2.2.2.2.2.2.2.1,v1.2.2.2.2.2.2.2.2.2.2.1,v1.2.2.2.2.2.2.2.2.2.2.2,()),()),())
abbrev yMu (v0:dA):(ygl).X:=((((),()),((),()),()),((v0.1,v0.2.1.1,v0.2.1.2,v0.2.2.1,v0.2.2.2.1,v0.2.2.2.2.1,v0.2.2.2.2.2.1,v0.2.2.2.2.2.2.1,v0.2.2.2.2.2.2.2.1,v0.2.2.2.2.2.2.2.2.1,v0.2.2.2.2.2.2.2.2.2.1,v0.2.2.2.2.2.2.2.2.2.2.1,v0.2.2.2.2.2.2.2.2.2.2.2,()),()),())
abbrev yMi  :(yf9).X:=((),(),())
abbrev yMA (v0:Bool):(ygs).X:=(((v0,()),()),(),())
def yqS (v0 v1 v2 v3:Int) (v4:List dM) (v5 v6 v7 v8 v9:Int) (v10:List dW) (v11:Int) (v12 v13:Bool):Option ((ybJ).X ⊕ ((yf9).X ⊕ (ygs).X)) :=
 bif(ltb v0 (v10.length:Int))then
 bif(inb v0 v10.length)then
 let r3:=ya ((nth v10 v0 (0,[])).1) 0 (IntKind.i64.wrap (v3-1))
 bif(!(!r3))then
 bif(!((((nth v10 v0 (0,[])).2).length:Int) !=(IntKind.i64.wrap (v2-1))))then
 let r4:=yU ((nth v10 v0 (0,[])).2)
 bif(!(!r4))then
 bif(ltb 0 v0)then
 bif(inb (IntKind.i64.wrap (v0-1)) v10.length)then
 bif(leb ((nth v10 v0 (0,[])).1) ((nth v10 (IntKind.i64.wrap (v0-1)) (0,[])).1))then
 some (.inr (.inr (((false,()),()),(),())))
 else
 some (.inl ((((),()),((IntKind.i64.wrap (v0+1)),()),()),((v1,v2,v3,v4,v5,v6,v7,v8,v9,v10,v11,v12,v13,()),()),()))
 else none
 else
 some (.inl ((((),()),((IntKind.i64.wrap (v0+1)),()),()),((v1,v2,v3,v4,v5,v6,v7,v8,v9,v10,v11,v12,v13,()),()),()))
 else
 some (.inr (.inr (((false,()),()),(),())))
 else
 some (.inr (.inr (((false,()),()),(),())))
 else
 some (.inr (.inr (((false,()),()),(),())))
 else none
 else
 some (.inr (.inl ((),(),())))
def yb3 (x:(ybJ).X):=yqS x.1.2.1.1 x.2.1.1.1 x.2.1.1.2.1 x.2.1.1.2.2.1 x.2.1.1.2.2.2.1 x.2.1.1.2.2.2.2.1 x.2.1.1.2.2.2.2.2.1 x.2.1.1.2.2.2.2.2.2.1 x.2.1.1.2.2.2.2.2.2.2.1 x.2.1.1.2.2.2.2.2.2.2.2.1 x.2.1.1.2.2.2.2.2.2.2.2.2.1 x.2.1.1.2.2.2.2.2.2.2.2.2.2.1 x.2.1.1.2.2.2.2.2.2.2.2.2.2.2.1 x.2.1.1.2.2.2.2.2.2.2.2.2.2.2.2.1
def yzo (x:(ygl).X):(ybJ).X:=((((),()),(0,()),()),((x.2.1.1.1,x.2.1.1.2.1,x.2.1.1.2.2.1,x.2.1.1.2.2.2.1,x.2.1.1.2.2.2.2.1,x.2.1.1.2.2.2.2.2.1,x.2.1.1.2.2.2.2.2.2.1,x.2.1.1.2.2.2.2.2.2.2.1,x.2.1.1.2.2.2.2.2.2.2.2.1,x.2.1.1.2.2.2.2.2.2.2.2.2.1,x.2.1.1.2.2.2.2.2.2.2.2.2.2.1,x.2.1.1.2.2.2.2.2.2.2.2.2.2.2.1,x.2.1.1.2.2.2.2.2.2.2.2.2.2.2.2.1,()),()),())
def yAW:Code:=(zef ykM 64 52).getD .skip
theorem yNR:zef ykM 64 13=some (.block 0 (.loop yAW)):=by kernel_rfl
theorem yPI (x:(ybJ).X):zg0 ⟨yq5,57,yCx⟩ 0 yAW 52 ybJ yf9 ygs x=yb3 x:=by kernel_rfl
def yzD (x:(ygl).X):Nat:=18446744073709551616
def ysc (x:(ygl).X):Option ((yf9).X ⊕ (ygs).X):=zz yb3 (yzD x) (yzo x)
def yz2:Seg:=⟨ygl,yf9,ygs,ysc⟩
def yCy:Nat→Option Seg:=fun q=>bif Nat.beq q 13 then some yz2 else yCx q
theorem yOv:FrOk prog ⟨yq5,57,yCy⟩ ykM:=(yOu).loop (sg:=yz2) ybJ yzo (by decide) yNR yb3 yzD (by decide) (fun _=>rfl) (fun x r _ h=>h) yPI
abbrev yep:List Par:= [.rd tA]
abbrev ylm:List OT:= [⟨false,tB,.fz⟩]
def ymP (a0:dA):Option (ResD ylm×MutD yep) :=
 zjW (ysc ((((),()),((),()),()),((a0.1,a0.2.1.1,a0.2.1.2,a0.2.2.1,a0.2.2.2.1,a0.2.2.2.2.1,a0.2.2.2.2.2.1,a0.2.2.2.2.2.2.1,a0.2.2.2.2.2.2.2.1,a0.2.2.2.2.2.2.2.2.1,a0.2.2.2.2.2.2.2.2.2.1,a0.2.2.2.2.2.2.2.2.2.2.1,a0.2.2.2.2.2.2.2.2.2.2.2,()),()),())) (fun y4 =>
 some ((true,()),())) (fun y4 =>
 some ((y4.1.1.1,()),()))
theorem yX5 (x:InD yep):zju ⟨yq5,57,yCy⟩ f152.results.toList ykM yep ylm x=ymP x.1:=by kernel_rfl
theorem ySL:ConOk prog 152 ⟨yep,ylm,fun x=>ymP x.1⟩:=zjZ (yOv) func152 (by kernel_rfl) (by kernel_rfl) ntmps152.symm (by decide) (fun x r h=>(yX5 x).trans h)
def ylM (a0:dA):Bool:=yat a0.2.1 a0.2.2.2.2.2.2.2.2.1
def yyo (a0:dA):Bool:=n_spec_GeoOk a0.2.1
theorem ytY (l:List Int):yU l=l.all isW:=by
 unfold yU;rw[show yai=isW from funext fun x=>by unfold yai; rw[ycf]; rfl]
theorem yVX (a0:dA) (hk:zi0 yep (a0,())) (hq:yyo a0=true):ymP a0=(fun n=>some ((n,()),())) (ylM a0):=by
 have hb:a0.2.2.2.2.2.2.2.2.1.length*32≤2^47:=hk.1.2.2.2.2.2.2.2.2.1.1;have hg:=yg.1 hq
 have h1:ysc (yMu a0)=some (bif(List.range a0.2.2.2.2.2.2.2.2.1.length).any (yic a0.2.1 a0.2.2.2.2.2.2.2.2.1)then .inr (yMA false)else .inl yMi) :=
  ziM (step:=yb3) (fun i=>yqw i a0) a0.2.2.2.2.2.2.2.2.1.length (yic a0.2.1 a0.2.2.2.2.2.2.2.2.1) _ _ (fun i hi=>by
   simp only[yb3,yqw,yqS,zj2 (show(i:Int)<a0.2.2.2.2.2.2.2.2.1.length by omega),cond_true,wr (show -9223372036854775808≤(i:Int)+1 by omega) (by omega),Int.natCast_add,Int.natCast_one,Int.toNat_natCast,zkj hi,ycf,ytY,wr (show -9223372036854775808≤a0.2.1.2-1 by omega) (by omega),wr (show -9223372036854775808≤a0.2.1.1-1 by omega) (by omega),yic];rcases Nat.eq_zero_or_pos i with rfl | h0
   ·cases(leb 0 (nth a0.2.2.2.2.2.2.2.2.1 ((0:Nat):Int) (0,[])).1&&leb (nth a0.2.2.2.2.2.2.2.2.1 ((0:Nat):Int) (0,[])).1 (a0.2.1.2-1))<;>cases(((nth a0.2.2.2.2.2.2.2.2.1 ((0:Nat):Int) (0,[])).2.length:Int) !=a0.2.1.1-1)<;>cases((nth a0.2.2.2.2.2.2.2.2.1 ((0:Nat):Int) (0,[])).2.all isW)<;>rfl
   ·rw[show IntKind.i64.wrap ((i:Int)-1)=((i-1:Nat):Int)by rw[wr (by omega) (by omega)]; omega,zkj (show i-1<a0.2.2.2.2.2.2.2.2.1.length by omega),zj2 (show(0:Int)<i by omega),decide_eq_true h0]
    cases(leb 0 (nth a0.2.2.2.2.2.2.2.2.1 (i:Int) (0,[])).1&&leb (nth a0.2.2.2.2.2.2.2.2.1 (i:Int) (0,[])).1 (a0.2.1.2-1))<;>cases(((nth a0.2.2.2.2.2.2.2.2.1 (i:Int) (0,[])).2.length:Int) !=a0.2.1.1-1)<;>cases((nth a0.2.2.2.2.2.2.2.2.1 (i:Int) (0,[])).2.all isW)<;>cases leb (nth a0.2.2.2.2.2.2.2.2.1 (i:Int) (0,[])).1 (nth a0.2.2.2.2.2.2.2.2.1 ((i-1:Nat):Int) (0,[])).1<;>rfl) (by simp only[yb3,yqw,yqS,zkv (Int.le_refl _),cond_false]) _ (by show _<18446744073709551616; omega)
 unfold ymP ylM yat;rw[h1]
 cases(List.range a0.2.2.2.2.2.2.2.2.1.length).any (yic a0.2.1 a0.2.2.2.2.2.2.2.2.1)<;>rfl
def yrG (a0:dA):Option (ResD ylm×MutD yep):=bif yyo a0 then(fun n=>some ((n,()),())) (ylM a0)else none
theorem yW0 (a0:dA) (h:yyo a0=true):yrG a0=(fun n=>some ((n,()),())) (ylM a0):=by unfold yrG; rw[h]; rfl
def yDb:Con:=⟨yep,ylm,fun x=>yrG x.1⟩
theorem yWT:ConOk prog 152 yDb:=(ySL).mono (fun x r hk h=>zkq h (fun hq=>yVX x.1 hk hq))
end
section
def yKR:Code:=(f159.body).getD .skip
def yK6:Env:=zj0 TT [(81,yz),(187,ymo)] []
theorem yUQ:FrOk prog ⟨yK6,22,fun _=>none⟩ yKR:=zj4 yc yd ⟨yI,ywQ,trivial⟩
def yXq:Nat→Option Seg:=fun _=>none
abbrev yp3:List Par:= [.rd tN]
abbrev yvP:List OT:= [⟨false,tB,.fz⟩]
def yyt (a0:dN):Option (ResD yvP×MutD yp3) :=
 let r1:=ye a0.1 0 60000
 bif r1 then
 let r2:=ye a0.2.1 0 7
 bif r2 then
 let r3:=ye (a0.2.2.length:Int) 2 4
 bif r3 then
 let r4:=yad a0.2.2
 some ((r4,()),())
 else
 some ((false,()),())
 else
 some ((false,()),())
 else
 some ((false,()),())
theorem y2b (x:InD yp3):zju ⟨yK6,22,yXq⟩ f159.results.toList yKR yp3 yvP x=yyt x.1:=by kernel_rfl
theorem yY0:ConOk prog 159 ⟨yp3,yvP,fun x=>yyt x.1⟩:=zjZ (yUQ) func159 (by kernel_rfl) (by kernel_rfl) ntmps159.symm (by decide) (fun x r h=>(y2b x).trans h)
def ylF (a0:dN):Bool :=
 let r1:=ye a0.1 0 60000
 bif r1 then
 let r2:=ye a0.2.1 0 7
 bif r2 then
 let r3:=ye (a0.2.2.length:Int) 2 4
 bif r3 then
 let r4:=yad a0.2.2
 r4
 else
 false
 else
 false
 else
 false
def yx6:Con:=⟨yp3,yvP,fun x=>(fun n=>some ((n,()),())) (ylF x.1)⟩
theorem y1f (a0:dN):yyt a0=(fun n=>some ((n,()),())) (ylF a0):=zkn (p:=fun(n:Bool)=>((n,()),())) (zj9 (p:=fun(n:Bool)=>((n,()),())) (zj9 (p:=fun(n:Bool)=>((n,()),())) (zj9 (p:=fun(n:Bool)=>((n,()),())) rfl rfl) rfl) rfl)
theorem yJZ:ConOk prog 159 yx6:=(yY0).mono (fun x r _ h=>(y1f x.1).trans h)
end
section
def yKV:Code:=(f162.body).getD .skip
def yLa:Env:=zj0 TT [(82,yw),(200,yhA)] []
theorem yU4:FrOk prog ⟨yLa,22,fun _=>none⟩ yKV:=zj4 yc yd ⟨yD,ypm,trivial⟩
def yXu:Nat→Option Seg:=fun _=>none
abbrev yp6:List Par:= [.rd tN]
abbrev yvX:List OT:= [⟨false,tB,.fz⟩]
def yyw (a0:dN):Option (ResD yvX×MutD yp6) :=
 let r1:=ya a0.1 0 60000
 bif r1 then
 let r2:=ya a0.2.1 0 7
 bif r2 then
 let r3:=ya (a0.2.2.length:Int) 2 4
 bif r3 then
 let r4:=yU a0.2.2
 some ((r4,()),())
 else
 some ((false,()),())
 else
 some ((false,()),())
 else
 some ((false,()),())
theorem y2j (x:InD yp6):zju ⟨yLa,22,yXu⟩ f162.results.toList yKV yp6 yvX x=yyw x.1:=by kernel_rfl
theorem yY8:ConOk prog 162 ⟨yp6,yvX,fun x=>yyw x.1⟩:=zjZ (yU4) func162 (by kernel_rfl) (by kernel_rfl) ntmps162.symm (by decide) (fun x r h=>(y2j x).trans h)
def yC (a0:dN):Bool :=
 let r1:=ya a0.1 0 60000
 bif r1 then
 let r2:=ya a0.2.1 0 7
 bif r2 then
 let r3:=ya (a0.2.2.length:Int) 2 4
 bif r3 then
 let r4:=yU a0.2.2
 r4
 else
 false
 else
 false
 else
 false
def yHF:Con:=⟨yp6,yvX,fun x=>(fun n=>some ((n,()),())) (yC x.1)⟩
theorem y1n (a0:dN):yyw a0=(fun n=>some ((n,()),())) (yC a0):=zkn (p:=fun(n:Bool)=>((n,()),())) (zj9 (p:=fun(n:Bool)=>((n,()),())) (zj9 (p:=fun(n:Bool)=>((n,()),())) (zj9 (p:=fun(n:Bool)=>((n,()),())) rfl rfl) rfl) rfl)
theorem y1G:ConOk prog 162 yHF:=(yY8).mono (fun x r _ h=>(y1n x.1).trans h)
abbrev yNk:dN:=(0,0,[])
def putRec (r:dN):List Int:=bif yC r then 21322::r.1::r.2.1::(r.2.2.length:Int)::r.2.2 else[]
def yIK (l:List Int):dN:=(nth l 1 0,nth l 2 0,l.drop 4)
def getRec (l:List Int):dN×Bool:=bif leb 4 (l.length:Int)&&(nth l 0 0==21322&&(nth l 3 0==(l.length:Int)-4&&yC (yIK l)))then(yIK l,true)else(yNk,false)
theorem yu9 {r:dN}:yC r=true↔(0≤r.1∧r.1≤60000)∧(0≤r.2.1∧r.2.1≤7)∧(2≤(r.2.2.length:Int)∧(r.2.2.length:Int)≤4)∧r.2.2.all isW=true:=by
 unfold yC;simp only[ytY,← ywz]
 cases ya r.1 0 60000<;>cases ya r.2.1 0 7<;>cases ya (r.2.2.length:Int) 2 4<;>simp
theorem yPU (r:dN):ylF r=yC r:=by
 unfold ylF yC;simp only[y9,yF6,ytY]
end
section
def yIY:Code:=(f89.body).getD .skip
def yJw:Env:=zj0 TT [(158,yaK),(159,yx6)] []
theorem yQL:FrOk prog ⟨yJw,39,fun _=>none⟩ yIY:=zj4 yc yd ⟨ycx,yJZ,trivial⟩
def yTx:Nat→Option Seg:=fun _=>none
abbrev yhZ:List Par:= [.rd tL]
abbrev yti:List OT:= [⟨false,tN,(.pr .fz (.pr .fz (.ow .fz)))⟩,⟨false,tB,.fz⟩]
def ypp (a0:List Int):Option (ResD yti×MutD yhZ) :=
 bif(!(ltb (a0.length:Int) 4))then
 bif(inb 0 a0.length)then
 bif(!((nth a0 0 0) !=21322))then
 bif(inb 3 a0.length)then
 bif((nth a0 3 0) !=(IntKind.i64.wrap ((a0.length:Int)-4)))then
 some (((0,0,[]),false,()),())
 else
 bif(inb 1 a0.length)then
 bif(inb 2 a0.length)then
 bif(zjt 4 (a0.length:Int) a0.length)then
 let r1:=yo ((a0.drop (4:Int).toNat).take ((a0.length:Int)-4).toNat)
 let r2:=ylF ((nth a0 1 0),(nth a0 2 0),r1)
 bif(!r2)then
 some (((0,0,[]),false,()),())
 else
 some ((((nth a0 1 0),(nth a0 2 0),r1),true,()),())
 else none
 else none
 else none
 else none
 else
 some (((0,0,[]),false,()),())
 else none
 else
 some (((0,0,[]),false,()),())
theorem y0z (x:InD yhZ):zju ⟨yJw,39,yTx⟩ f89.results.toList yIY yhZ yti x=ypp x.1:=by kernel_rfl
theorem yV6:ConOk prog 89 ⟨yhZ,yti,fun x=>ypp x.1⟩:=zjZ (yQL) func89 (by kernel_rfl) (by kernel_rfl) ntmps89.symm (by decide) (fun x r h=>(y0z x).trans h)
def ynH (a0:List Int):dN×Bool:=getRec a0
theorem yYr (a0:List Int) (hk:zi0 yhZ (a0,())):ypp a0=(fun n=>some ((n.1,n.2,()),())) (ynH a0):=by
 have hb:a0.length*8≤2^47:=hk.1.1;unfold ypp ynH getRec yo
 by_cases h:(a0.length:Int)<4
 ·rw[zj2 h,zkt h]; rfl
 ·have ht:(a0.drop (4:Int).toNat).take ((a0.length:Int)-4).toNat=a0.drop 4:=List.take_of_length_le (by rw[List.length_drop]; show a0.length-4≤_; omega)
  rw[zkv (Int.not_lt.1 h),zku (Int.not_lt.1 h)];simp only[bne,Bool.not_false,cond_true,zjA.2 (show(0:Int)≤0∧(0:Int)<a0.length by omega),zjA.2 (show(0:Int)≤1∧(1:Int)<a0.length by omega),zjA.2 (show(0:Int)≤2∧(2:Int)<a0.length by omega),zjA.2 (show(0:Int)≤3∧(3:Int)<a0.length by omega),zj3.2 (show(0:Int)≤4∧(4:Int)≤a0.length∧(a0.length:Int)≤a0.length by omega),ht,wr (show -9223372036854775808≤(a0.length:Int)-4 by omega) (by omega),yPU];rw[show yC (nth a0 1 0,nth a0 2 0,a0.drop 4)=yC (yIK a0)from rfl]
  cases(nth a0 0 0==21322)<;>cases(nth a0 3 0==(a0.length:Int)-4)<;>cases yC (yIK a0)<;>rfl
def yFD:Con:=⟨yhZ,yti,fun x=>(fun n=>some ((n.1,n.2,()),())) (ynH x.1)⟩
theorem yZl:ConOk prog 89 yFD:=(yV6).mono (fun x r hk h=>(yYr x.1 hk).trans h)
end
section
def yJd:Code:=(f91.body).getD .skip
def yJL:Env:=zj0 TT [] []
theorem yQ7:FrOk prog ⟨yJL,8,fun _=>none⟩ yJd:=zj4 yc yd trivial
def yTM:Nat→Option Seg:=fun _=>none
abbrev ynm:List Par:= [.rd tI]
abbrev ytz:List OT:= [⟨false,tI,.fz⟩]
def yw2 (a0:Int):Option (ResD ytz×MutD ynm) :=
 bif(ltb a0 0)then
 some (((-1),()),())
 else
 some (((IntKind.i64.wrap (2+(a0.tmod 4))),()),())
theorem y0R (x:InD ynm):zju ⟨yJL,8,yTM⟩ f91.results.toList yJd ynm ytz x=yw2 x.1:=by kernel_rfl
theorem yWo:ConOk prog 91 ⟨ynm,ytz,fun x=>yw2 x.1⟩:=zjZ (yQ7) func91 (by kernel_rfl) (by kernel_rfl) ntmps91.symm (by decide) (fun x r h=>(y0R x).trans h)
def n_spec_SlotOf (a0:Int):Int :=
 bif(ltb a0 0)then
 (-1)
 else
 (IntKind.i64.wrap (2+(a0.tmod 4)))
def yFL:Con:=⟨ynm,ytz,fun x=>(fun n=>some ((n,()),())) (n_spec_SlotOf x.1)⟩
theorem yYJ (a0:Int):yw2 a0=(fun n=>some ((n,()),())) (n_spec_SlotOf a0):=zkn (p:=fun(n:Int)=>((n,()),())) (zj9 (p:=fun(n:Int)=>((n,()),())) rfl rfl)
theorem yZt:ConOk prog 91 yFL:=(yWo).mono (fun x r _ h=>(yYJ x.1).trans h)
def yId (a:dA) (q:Int) (i:Nat):List Int×Bool:=yy (nth a.2.2.1 i noMem) (n_spec_SlotOf q)
def ytX (a:dA) (q:Int) (i:Nat):dN:=(getRec (yId a q i).1).1
def ylW (a:dA) (q:Int) (i:Nat):Bool:=(yId a q i).2&&((getRec (yId a q i).1).2&&((ytX a q i).1==q&&((leb 0 (ytX a q i).2.1&&leb (ytX a q i).2.1 (a.2.1.2-1))&&((ytX a q i).2.2.length:Int)==a.2.1.1-1)))
def yac (a:dA) (q:Int):dN×Bool:=bif leb 0 (yL (ylW a q) (List.range a.2.2.1.length))then(ytX a q (yL (ylW a q) (List.range a.2.2.1.length)).toNat,true)else(yNk,false)
theorem yXh {n i:Nat} (h:i<n):(List.range n).getD i 0=i:=by rw[zkb (by rw[List.length_range]; exact h)]; simp
theorem y4y {l:List Int} (h:(getRec l).2=true):yC (getRec l).1=true∧l=putRec (getRec l).1:=by
 unfold getRec at h ⊢
 cases hc:(leb 4 (l.length:Int)&&(nth l 0 0==21322&&(nth l 3 0==(l.length:Int)-4&&yC (yIK l))))
 ·rw[hc]at h; cases h
 ·simp only[Bool.and_eq_true,zjB,beq_iff_eq]at hc
  refine⟨hc.2.2.2,?_⟩;show l=putRec (yIK l);unfold putRec;rw[hc.2.2.2]
  match l,hc with
  | x0::x1::x2::x3::t,hc =>
   have e0:x0=21322:=hc.2.1;have e3:x3=((x0::x1::x2::x3::t).length:Int)-4:=hc.2.2.1;have e4:x3=(t.length:Int):=by rw[e3]; simp only[List.length_cons]; omega
   subst e0;rw[e4]; rfl
  | [],hc=>exact absurd hc.1 (by simp)
  | [_],hc=>exact absurd hc.1 (by simp)
  | [_,_],hc=>exact absurd hc.1 (by simp)
  | [_,_,_],hc=>exact absurd hc.1 (by simp)
theorem yQF {a:dA} {q:Int} (h:(yac a q).2=true): ∃i,i<a.2.2.1.length∧ylW a q i=true∧(yac a q).1=ytX a q i:=by
 unfold yac at h ⊢
 cases hk:leb 0 (yL (ylW a q) (List.range a.2.2.1.length))
 ·rw[hk]at h; cases h
 ·obtain⟨h1,h2⟩:=yqj (d:=0) hk
  have h3:=zjA.1 h1;rw[List.length_range]at h3;refine⟨(yL (ylW a q) (List.range a.2.2.1.length)).toNat,by omega,?_,rfl⟩;unfold nth at h2
  rwa[yXh (by omega)]at h2
theorem y5U {a:dA} {q:Int} (hg:n_spec_GeoOk a.2.1=true) (h:(yac a q).2=true):strOk a.2.1 (yac a q).1.2.1=true∧((yac a q).1.2.2.length:Int)=a.2.1.1-1:=by
 obtain⟨i,_,h1,h2⟩:=yQF h;rw[h2];simp only[ylW,Bool.and_eq_true,zjB,beq_iff_eq]at h1;exact⟨yG.2 ⟨hg,h1.2.2.2.1.1,h1.2.2.2.1.2⟩,h1.2.2.2.2⟩
theorem yMa (q:Int):ynJ q=n_spec_SlotOf q:=rfl
end
section
def ykF:Code:=(f23.body).getD .skip
def yqY:Env:=zj0 TT [(87,ymn),(88,ywd),(89,yFD)] []
theorem yN2:FrOk prog ⟨yqY,67,fun _=>none⟩ ykF:=zj4 yc yd ⟨ywP,yH3,yZl,trivial⟩
def yCh:Nat→Option Seg:=fun _=>none
def ybC:Shape:=⟨[(1,false,[.int .i64]),(2,false,[.ptr 0 0]),(4,false,[.ptr 64 0]),(13,false,[.br tM]),(14,false,[.int .i64]),(15,false,[.int .i64])],[(0,[.int .i64,.int .i64,.int .i64,.br tM,.int .i64,.int .i64,.int .i64,.int .i64,.int .i64,.br tW,.int .i64,.bool,.bool]),(64,[.int .i64,.int .i64,.nil])],[]⟩
def yge:Shape:=⟨[(1,false,[.int .i64]),(2,false,[.ptr 0 0]),(4,false,[.ptr 64 0]),(13,false,[.br tM]),(14,false,[.int .i64]),(15,false,[.ci .i64 0])],[(0,[.int .i64,.int .i64,.int .i64,.br tM,.int .i64,.int .i64,.int .i64,.int .i64,.int .i64,.br tW,.int .i64,.bool,.bool]),(64,[.int .i64,.int .i64,.nil])],[]⟩
def yf2:Shape:=⟨[(4,false,[.ptr 64 0])],[(64,[.int .i64,.int .i64,.nil])],[]⟩
def ygq:Shape:=⟨[(4,false,[.ptr 64 0]),(5,false,[.bool])],[(64,[.int .i64,.int .i64,.at 800000000])],[(800000000,tI,.fz)]⟩
abbrev yqp (v0:Int) (v1:List dM) (v2 v3:Int) (v4:dA) (v5:dN):(ybC).X:=(((v0,()),((),()),((),()),(v1,()),(v2,()),(v3,()),()),((v4.1,v4.2.1.1,v4.2.1.2,v4.2.2.1,v4.2.2.2.1,v4.2.2.2.2.1,v4.2.2.2.2.2.1,v4.2.2.2.2.2.2.1,v4.2.2.2.2.2.2.2.1,v4.2.2.2.2.2.2.2.2.1,v4.2.2.2.2.2.2.2.2.2.1,v4.2.2.2.2.2.2.2.2.2.2.1,v4.2.2.2.2.2.2.2.2.2.2.2,()),(v5.1,v5.2.1,(),()),()),())
abbrev yMn (v0:Int) (v1:List dM) (v2:Int) (v3:dA) (v4:dN):(yge).X:=(((v0,()),((),()),((),()),(v1,()),(v2,()),((),()),()),((v3.1,v3.2.1.1,v3.2.1.2,v3.2.2.1,v3.2.2.2.1,v3.2.2.2.2.1,v3.2.2.2.2.2.1,v3.2.2.2.2.2.2.1,v3.2.2.2.2.2.2.2.1,v3.2.2.2.2.2.2.2.2.1,v3.2.2.2.2.2.2.2.2.2.1,v3.2.2.2.2.2.2.2.2.2.2.1,v3.2.2.2.2.2.2.2.2.2.2.2,()),(v4.1,v4.2.1,(),()),()),())
abbrev yMf (v0:dN):(yf2).X:=((((),()),()),((v0.1,v0.2.1,(),()),()),())
abbrev yMy (v0:Bool) (v1:dN):(ygq).X:=((((),()),(v0,()),()),((v1.1,v1.2.1,(),()),()),(v1.2.2,()))
def yqJ (v0:Int) (v1:List dM) (v2 v3 v4 v5 v6:Int) (v7:List dM) (v8 v9 v10 v11 v12:Int) (v13:List dW) (v14:Int) (v15 v16:Bool) (v17 v18:Int):Option ((ybC).X ⊕ ((yf2).X ⊕ (ygq).X)) :=
 bif(ltb v3 v2)then
 bif(inb v3 v1.length)then
 let r4:=ynJ v0
 let r5:=ybo ((nth v1 v3 ([],[],false,[])).1,((nth v1 v3 ([],[],false,[])).2).1,(((nth v1 v3 ([],[],false,[])).2).2)) r4
 let r6:=ynH r5.1
 bif r5.2 then
 bif r6.2 then
 bif(r6.1.1==v0)then
 bif(leb 0 r6.1.2.1)then
 bif(ltb r6.1.2.1 v6)then
 bif((IntKind.i64.wrap ((r6.1.2.2.length:Int)+1))==v5)then
 some (.inr (.inr ((((),()),(true,()),()),((r6.1.1,r6.1.2.1,(),()),()),(r6.1.2.2,()))))
 else
 some (.inl (((v0,()),((),()),((),()),(v1,()),(v2,()),((IntKind.i64.wrap (v3+1)),()),()),((v4,v5,v6,v7,v8,v9,v10,v11,v12,v13,v14,v15,v16,()),(v17,v18,(),()),()),()))
 else
 some (.inl (((v0,()),((),()),((),()),(v1,()),(v2,()),((IntKind.i64.wrap (v3+1)),()),()),((v4,v5,v6,v7,v8,v9,v10,v11,v12,v13,v14,v15,v16,()),(v17,v18,(),()),()),()))
 else
 some (.inl (((v0,()),((),()),((),()),(v1,()),(v2,()),((IntKind.i64.wrap (v3+1)),()),()),((v4,v5,v6,v7,v8,v9,v10,v11,v12,v13,v14,v15,v16,()),(v17,v18,(),()),()),()))
 else
 some (.inl (((v0,()),((),()),((),()),(v1,()),(v2,()),((IntKind.i64.wrap (v3+1)),()),()),((v4,v5,v6,v7,v8,v9,v10,v11,v12,v13,v14,v15,v16,()),(v17,v18,(),()),()),()))
 else
 some (.inl (((v0,()),((),()),((),()),(v1,()),(v2,()),((IntKind.i64.wrap (v3+1)),()),()),((v4,v5,v6,v7,v8,v9,v10,v11,v12,v13,v14,v15,v16,()),(v17,v18,(),()),()),()))
 else
 some (.inl (((v0,()),((),()),((),()),(v1,()),(v2,()),((IntKind.i64.wrap (v3+1)),()),()),((v4,v5,v6,v7,v8,v9,v10,v11,v12,v13,v14,v15,v16,()),(v17,v18,(),()),()),()))
 else none
 else
 some (.inr (.inl ((((),()),()),((v17,v18,(),()),()),())))
def ybU (x:(ybC).X):=yqJ x.1.1.1 x.1.2.2.2.1.1 x.1.2.2.2.2.1.1 x.1.2.2.2.2.2.1.1 x.2.1.1.1 x.2.1.1.2.1 x.2.1.1.2.2.1 x.2.1.1.2.2.2.1 x.2.1.1.2.2.2.2.1 x.2.1.1.2.2.2.2.2.1 x.2.1.1.2.2.2.2.2.2.1 x.2.1.1.2.2.2.2.2.2.2.1 x.2.1.1.2.2.2.2.2.2.2.2.1 x.2.1.1.2.2.2.2.2.2.2.2.2.1 x.2.1.1.2.2.2.2.2.2.2.2.2.2.1 x.2.1.1.2.2.2.2.2.2.2.2.2.2.2.1 x.2.1.1.2.2.2.2.2.2.2.2.2.2.2.2.1 x.2.1.2.1.1 x.2.1.2.1.2.1
def yzf (x:(yge).X):(ybC).X:=(((x.1.1.1,()),((),()),((),()),(x.1.2.2.2.1.1,()),(x.1.2.2.2.2.1.1,()),(0,()),()),((x.2.1.1.1,x.2.1.1.2.1,x.2.1.1.2.2.1,x.2.1.1.2.2.2.1,x.2.1.1.2.2.2.2.1,x.2.1.1.2.2.2.2.2.1,x.2.1.1.2.2.2.2.2.2.1,x.2.1.1.2.2.2.2.2.2.2.1,x.2.1.1.2.2.2.2.2.2.2.2.1,x.2.1.1.2.2.2.2.2.2.2.2.2.1,x.2.1.1.2.2.2.2.2.2.2.2.2.2.1,x.2.1.1.2.2.2.2.2.2.2.2.2.2.2.1,x.2.1.1.2.2.2.2.2.2.2.2.2.2.2.2.1,()),(x.2.1.2.1.1,x.2.1.2.1.2.1,(),()),()),())
def yAN:Code:=(zef ykF 64 52).getD .skip
theorem yNI:zef ykF 64 13=some (.block 0 (.loop yAN)):=by kernel_rfl
theorem yPz (x:(ybC).X):zg0 ⟨yqY,67,yCh⟩ 0 yAN 52 ybC yf2 ygq x=ybU x:=by kernel_rfl
def yzu (x:(yge).X):Nat:=18446744073709551616
def yr3 (x:(yge).X):Option ((yf2).X ⊕ (ygq).X):=zz ybU (yzu x) (yzf x)
def yzT:Seg:=⟨yge,yf2,ygq,yr3⟩
def yCi:Nat→Option Seg:=fun q=>bif Nat.beq q 13 then some yzT else yCh q
theorem yN3:FrOk prog ⟨yqY,67,yCi⟩ ykF:=(yN2).loop (sg:=yzT) ybC yzf (by decide) yNI ybU yzu (by decide) (fun _=>rfl) (fun x r _ h=>h) yPz
abbrev yek:List Par:= [.rd tA,.rd tI]
abbrev yli:List OT:= [⟨false,tN,(.pr .fz (.pr .fz (.ow .fz)))⟩,⟨false,tB,.fz⟩]
def ymC (a0:dA) (a1:Int):Option (ResD yli×MutD yek) :=
 zjW (yr3 (((a1,()),((),()),((),()),(a0.2.2.1,()),((a0.2.2.1.length:Int),()),((),()),()),((a0.1,a0.2.1.1,a0.2.1.2,a0.2.2.1,a0.2.2.2.1,a0.2.2.2.2.1,a0.2.2.2.2.2.1,a0.2.2.2.2.2.2.1,a0.2.2.2.2.2.2.2.1,a0.2.2.2.2.2.2.2.2.1,a0.2.2.2.2.2.2.2.2.2.1,a0.2.2.2.2.2.2.2.2.2.2.1,a0.2.2.2.2.2.2.2.2.2.2.2,()),(0,0,(),()),()),())) (fun y6 =>
 some (((0,0,[]),false,()),())) (fun y6 =>
 some (((y6.2.1.1.1,y6.2.1.1.2.1,y6.2.2.1),y6.1.2.1.1,()),()))
theorem yXM (x:InD yek):zju ⟨yqY,67,yCi⟩ f23.results.toList ykF yek yli x=ymC x.1 x.2.1:=by kernel_rfl
theorem ySs:ConOk prog 23 ⟨yek,yli,fun x=>ymC x.1 x.2.1⟩:=zjZ (yN3) func23 (by kernel_rfl) (by kernel_rfl) ntmps23.symm (by decide) (fun x r h=>(yXM x).trans h)
def ylE (a0:dA) (a1:Int):dN×Bool:=yac a0 a1
def yrK (a0:dA) (a1:Int):Bool:=n_spec_GeoOk a0.2.1||y4x a0.2.1
theorem yVF (a0:dA) (a1:Int) (hk:zi0 yek (a0,a1,())) (hq:yrK a0 a1=true):ymC a0 a1=(fun n=>some ((n.1,n.2,()),())) (ylE a0 a1):=by
 have hb:a0.2.2.1.length*80≤2^47:=hk.1.2.2.1.1;have hg:=y4z hq
 have h1:=yMc (step:=ybU) (List.range a0.2.2.1.length) 0 (fun i=>yqp a1 a0.2.2.1 a0.2.2.1.length i a0 yNk) (ylW a0 a1) (fun k=> .inr (yMy true (ytX a0 a1 k.toNat))) (.inl (yMf yNk)) (fun i hi=>by
  rw[List.length_range]at hi;rw[yXh hi];simp only[ybU,yqp,yqJ,zj2 (show(i:Int)<a0.2.2.1.length by omega),cond_true,wr (show -9223372036854775808≤(i:Int)+1 by omega) (by omega),Int.natCast_add,Int.natCast_one,Int.toNat_natCast,zkj hi,zkp,ybo,ynH,yMa,ylW,ytX,yId,noMem];have e1:ltb (getRec (yy (nth a0.2.2.1 i ([],[],false,[])) (n_spec_SlotOf a1)).1).1.2.1 a0.2.1.2=leb (getRec (yy (nth a0.2.2.1 i ([],[],false,[])) (n_spec_SlotOf a1)).1).1.2.1 (a0.2.1.2-1):=by rw[Bool.eq_iff_iff,zjE,zjB]; omega
  cases hr:(yy (nth a0.2.2.1 i ([],[],false,[])) (n_spec_SlotOf a1)).2
  ·rfl
  cases hg2:(getRec (yy (nth a0.2.2.1 i ([],[],false,[])) (n_spec_SlotOf a1)).1).2
  ·rfl
  have hl:=(yu9.1 (y4y hg2).1).2.2.1;have e2:(IntKind.i64.wrap (((getRec (yy (nth a0.2.2.1 i ([],[],false,[])) (n_spec_SlotOf a1)).1).1.2.2.length:Int)+1)==a0.2.1.1)=(((getRec (yy (nth a0.2.2.1 i ([],[],false,[])) (n_spec_SlotOf a1)).1).1.2.2.length:Int)==a0.2.1.1-1):=by rw[wr (by omega) (by omega),Bool.eq_iff_iff,beq_iff_eq,beq_iff_eq]; omega
  rw[e1,e2]
  cases((getRec (yy (nth a0.2.2.1 i ([],[],false,[])) (n_spec_SlotOf a1)).1).1.1==a1)<;>cases leb 0 (getRec (yy (nth a0.2.2.1 i ([],[],false,[])) (n_spec_SlotOf a1)).1).1.2.1<;>cases leb (getRec (yy (nth a0.2.2.1 i ([],[],false,[])) (n_spec_SlotOf a1)).1).1.2.1 (a0.2.1.2-1)<;>cases(((getRec (yy (nth a0.2.2.1 i ([],[],false,[])) (n_spec_SlotOf a1)).1).1.2.2.length:Int)==a0.2.1.1-1)<;>rfl) (by
   rw[List.length_range]; simp only[ybU,yqp,yqJ,zkv (Int.le_refl _),cond_false]) 18446744073709551616 (by rw[List.length_range]; omega)
 unfold ymC ylE yac;rw[show yr3 (yMn a1 a0.2.2.1 a0.2.2.1.length a0 yNk)=_ from h1]
 cases leb 0 (yL (ylW a0 a1) (List.range a0.2.2.1.length))<;>rfl
def yrE (a0:dA) (a1:Int):Option (ResD yli×MutD yek):=bif yrK a0 a1 then(fun n=>some ((n.1,n.2,()),())) (ylE a0 a1)else none
theorem yWW (a0:dA) (a1:Int) (h:yrK a0 a1=true):yrE a0 a1=(fun n=>some ((n.1,n.2,()),())) (ylE a0 a1):=by unfold yrE; rw[h]; rfl
def yC0:Con:=⟨yek,yli,fun x=>yrE x.1 x.2.1⟩
theorem yWH:ConOk prog 23 yC0:=(ySs).mono (fun x r hk h=>zkq h (fun hq=>yVF x.1 x.2.1 hk hq))
end
section
def ykH:Code:=(f95.body).getD .skip
def yq0:Env:=zj0 TT [(74,ysg),(158,yaK)] []
theorem yN8:FrOk prog ⟨yq0,31,fun _=>none⟩ ykH:=zj4 yc yd ⟨yDV,ycx,trivial⟩
def yCl:Nat→Option Seg:=fun _=>none
def ybE:Shape:=⟨[(1,false,[.ptr 0 0]),(2,false,[.ptr 64 0]),(3,false,[.at 800000000]),(8,false,[.br tW]),(9,false,[.int .i64]),(10,false,[.int .i64])],[(0,[.int .i64,.int .i64,.int .i64,.br tM,.int .i64,.int .i64,.int .i64,.int .i64,.int .i64,.br tW,.int .i64,.bool,.bool]),(64,[.int .i64,.int .i64,.int .i64,.nil,.int .i64,.int .i64,.int .i64,.int .i64,.int .i64,.nil,.int .i64,.bool,.bool])],[(800000000,tW,(.pr .fz (.ow .fz)))]⟩
def ygg:Shape:=⟨[(1,false,[.ptr 0 0]),(2,false,[.ptr 64 0]),(3,false,[.at 800000000]),(8,false,[.br tW]),(9,false,[.int .i64]),(10,false,[.ci .i64 0])],[(0,[.int .i64,.int .i64,.int .i64,.br tM,.int .i64,.int .i64,.int .i64,.int .i64,.int .i64,.br tW,.int .i64,.bool,.bool]),(64,[.int .i64,.int .i64,.int .i64,.nil,.int .i64,.int .i64,.int .i64,.int .i64,.int .i64,.nil,.int .i64,.bool,.bool])],[(800000000,tW,(.pr .fz (.ow .fz)))]⟩
def yf4:Shape:=⟨[(1,false,[.ptr 0 0]),(2,false,[.ptr 64 0]),(3,false,[.at 800000000])],[(0,[.int .i64,.int .i64,.int .i64,.br tM,.int .i64,.int .i64,.int .i64,.int .i64,.int .i64,.br tW,.int .i64,.bool,.bool]),(64,[.int .i64,.int .i64,.int .i64,.nil,.int .i64,.int .i64,.int .i64,.int .i64,.int .i64,.nil,.int .i64,.bool,.bool])],[(800000000,tW,(.pr .fz (.ow .fz)))]⟩
def yj6:Shape:=⟨[],[],[]⟩
abbrev yqr (v0:List dW) (v1 v2:Int) (v3 v4:dA) (v5:List dW):(ybE).X:=((((),()),((),()),((),()),(v0,()),(v1,()),(v2,()),()),((v3.1,v3.2.1.1,v3.2.1.2,v3.2.2.1,v3.2.2.2.1,v3.2.2.2.2.1,v3.2.2.2.2.2.1,v3.2.2.2.2.2.2.1,v3.2.2.2.2.2.2.2.1,v3.2.2.2.2.2.2.2.2.1,v3.2.2.2.2.2.2.2.2.2.1,v3.2.2.2.2.2.2.2.2.2.2.1,v3.2.2.2.2.2.2.2.2.2.2.2,()),(v4.1,v4.2.1.1,v4.2.1.2,(),v4.2.2.2.1,v4.2.2.2.2.1,v4.2.2.2.2.2.1,v4.2.2.2.2.2.2.1,v4.2.2.2.2.2.2.2.1,(),v4.2.2.2.2.2.2.2.2.2.1,v4.2.2.2.2.2.2.2.2.2.2.1,v4.2.2.2.2.2.2.2.2.2.2.2,()),()),(v5,()))
abbrev yMp (v0:List dW) (v1:Int) (v2 v3:dA) (v4:List dW):(ygg).X:=((((),()),((),()),((),()),(v0,()),(v1,()),((),()),()),((v2.1,v2.2.1.1,v2.2.1.2,v2.2.2.1,v2.2.2.2.1,v2.2.2.2.2.1,v2.2.2.2.2.2.1,v2.2.2.2.2.2.2.1,v2.2.2.2.2.2.2.2.1,v2.2.2.2.2.2.2.2.2.1,v2.2.2.2.2.2.2.2.2.2.1,v2.2.2.2.2.2.2.2.2.2.2.1,v2.2.2.2.2.2.2.2.2.2.2.2,()),(v3.1,v3.2.1.1,v3.2.1.2,(),v3.2.2.2.1,v3.2.2.2.2.1,v3.2.2.2.2.2.1,v3.2.2.2.2.2.2.1,v3.2.2.2.2.2.2.2.1,(),v3.2.2.2.2.2.2.2.2.2.1,v3.2.2.2.2.2.2.2.2.2.2.1,v3.2.2.2.2.2.2.2.2.2.2.2,()),()),(v4,()))
abbrev yMg (v0 v1:dA) (v2:List dW):(yf4).X:=((((),()),((),()),((),()),()),((v0.1,v0.2.1.1,v0.2.1.2,v0.2.2.1,v0.2.2.2.1,v0.2.2.2.2.1,v0.2.2.2.2.2.1,v0.2.2.2.2.2.2.1,v0.2.2.2.2.2.2.2.1,v0.2.2.2.2.2.2.2.2.1,v0.2.2.2.2.2.2.2.2.2.1,v0.2.2.2.2.2.2.2.2.2.2.1,v0.2.2.2.2.2.2.2.2.2.2.2,()),(v1.1,v1.2.1.1,v1.2.1.2,(),v1.2.2.2.1,v1.2.2.2.2.1,v1.2.2.2.2.2.1,v1.2.2.2.2.2.2.1,v1.2.2.2.2.2.2.2.1,(),v1.2.2.2.2.2.2.2.2.2.1,v1.2.2.2.2.2.2.2.2.2.2.1,v1.2.2.2.2.2.2.2.2.2.2.2,()),()),(v2,()))
def yqL (v0:List dW) (v1 v2 v3 v4 v5:Int) (v6:List dM) (v7 v8 v9 v10 v11:Int) (v12:List dW) (v13:Int) (v14 v15:Bool) (v16 v17 v18 v19 v20 v21 v22 v23 v24:Int) (v25 v26:Bool) (v27:List dW):Option ((ybE).X ⊕ ((yf4).X ⊕ (yj6).X)) :=
 bif(ltb v2 v1)then
 bif(inb v2 v0.length)then
 let r2:=yo ((nth v0 v2 (0,[])).2)
 bif(zjO v27.length ([((nth v0 v2 (0,[])).1,r2)]:List dW).length 32)then
 some (.inl ((((),()),((),()),((),()),(v0,()),(v1,()),((IntKind.i64.wrap (v2+1)),()),()),((v3,v4,v5,v6,v7,v8,v9,v10,v11,v12,v13,v14,v15,()),(v16,v17,v18,(),v19,v20,v21,v22,v23,(),v24,v25,v26,()),()),((v27++([((nth v0 v2 (0,[])).1,r2)]:List dW)),())))
 else none
 else none
 else
 some (.inr (.inl ((((),()),((),()),((),()),()),((v3,v4,v5,v6,v7,v8,v9,v10,v11,v12,v13,v14,v15,()),(v16,v17,v18,(),v19,v20,v21,v22,v23,(),v24,v25,v26,()),()),(v27,()))))
def ybW (x:(ybE).X):=yqL x.1.2.2.2.1.1 x.1.2.2.2.2.1.1 x.1.2.2.2.2.2.1.1 x.2.1.1.1 x.2.1.1.2.1 x.2.1.1.2.2.1 x.2.1.1.2.2.2.1 x.2.1.1.2.2.2.2.1 x.2.1.1.2.2.2.2.2.1 x.2.1.1.2.2.2.2.2.2.1 x.2.1.1.2.2.2.2.2.2.2.1 x.2.1.1.2.2.2.2.2.2.2.2.1 x.2.1.1.2.2.2.2.2.2.2.2.2.1 x.2.1.1.2.2.2.2.2.2.2.2.2.2.1 x.2.1.1.2.2.2.2.2.2.2.2.2.2.2.1 x.2.1.1.2.2.2.2.2.2.2.2.2.2.2.2.1 x.2.1.2.1.1 x.2.1.2.1.2.1 x.2.1.2.1.2.2.1 x.2.1.2.1.2.2.2.2.1 x.2.1.2.1.2.2.2.2.2.1 x.2.1.2.1.2.2.2.2.2.2.1 x.2.1.2.1.2.2.2.2.2.2.2.1 x.2.1.2.1.2.2.2.2.2.2.2.2.1 x.2.1.2.1.2.2.2.2.2.2.2.2.2.2.1 x.2.1.2.1.2.2.2.2.2.2.2.2.2.2.2.1 x.2.1.2.1.2.2.2.2.2.2.2.2.2.2.2.2.1 x.2.2.1
def yzh (x:(ygg).X):(ybE).X:=((((),()),((),()),((),()),(x.1.2.2.2.1.1,()),(x.1.2.2.2.2.1.1,()),(0,()),()),((x.2.1.1.1,x.2.1.1.2.1,x.2.1.1.2.2.1,x.2.1.1.2.2.2.1,x.2.1.1.2.2.2.2.1,x.2.1.1.2.2.2.2.2.1,x.2.1.1.2.2.2.2.2.2.1,x.2.1.1.2.2.2.2.2.2.2.1,x.2.1.1.2.2.2.2.2.2.2.2.1,x.2.1.1.2.2.2.2.2.2.2.2.2.1,x.2.1.1.2.2.2.2.2.2.2.2.2.2.1,x.2.1.1.2.2.2.2.2.2.2.2.2.2.2.1,x.2.1.1.2.2.2.2.2.2.2.2.2.2.2.2.1,()),(x.2.1.2.1.1,x.2.1.2.1.2.1,x.2.1.2.1.2.2.1,(),x.2.1.2.1.2.2.2.2.1,x.2.1.2.1.2.2.2.2.2.1,x.2.1.2.1.2.2.2.2.2.2.1,x.2.1.2.1.2.2.2.2.2.2.2.1,x.2.1.2.1.2.2.2.2.2.2.2.2.1,(),x.2.1.2.1.2.2.2.2.2.2.2.2.2.2.1,x.2.1.2.1.2.2.2.2.2.2.2.2.2.2.2.1,x.2.1.2.1.2.2.2.2.2.2.2.2.2.2.2.2.1,()),()),(x.2.2.1,()))
def yAP:Code:=(zef ykH 64 116).getD .skip
theorem yNK:zef ykH 64 29=some (.block 0 (.loop yAP)):=by kernel_rfl
theorem yPB (x:(ybE).X):zg0 ⟨yq0,31,yCl⟩ 0 yAP 116 ybE yf4 yj6 x=ybW x:=by kernel_rfl
def yzw (x:(ygg).X):Nat:=18446744073709551616
def yr5 (x:(ygg).X):Option ((yf4).X ⊕ (yj6).X):=zz ybW (yzw x) (yzh x)
def yzV:Seg:=⟨ygg,yf4,yj6,yr5⟩
def yCm:Nat→Option Seg:=fun q=>bif Nat.beq q 29 then some yzV else yCl q
theorem yN9:FrOk prog ⟨yq0,31,yCm⟩ ykH:=(yN8).loop (sg:=yzV) ybE yzh (by decide) yNK ybW yzw (by decide) (fun _=>rfl) (fun x r _ h=>h) yPB
abbrev ygJ:List Par:= [.rd tA]
abbrev yrd:List OT:= [⟨false,tA,(.pr .fz (.pr (.pr .fz .fz) (.pr (.ow (.pr (.ow (.ow .fz)) (.pr (.ow (.pr .fz (.ow .fz))) (.pr .fz (.ow .fz))))) (.pr .fz (.pr .fz (.pr .fz (.pr .fz (.pr .fz (.pr (.ow (.pr .fz (.ow .fz))) (.pr .fz (.pr .fz .fz)))))))))))⟩]
def ymF (a0:dA):Option (ResD yrd×MutD ygJ) :=
 zjW (yr5 ((((),()),((),()),((),()),(a0.2.2.2.2.2.2.2.2.1,()),((a0.2.2.2.2.2.2.2.2.1.length:Int),()),((),()),()),((a0.1,a0.2.1.1,a0.2.1.2,a0.2.2.1,a0.2.2.2.1,a0.2.2.2.2.1,a0.2.2.2.2.2.1,a0.2.2.2.2.2.2.1,a0.2.2.2.2.2.2.2.1,a0.2.2.2.2.2.2.2.2.1,a0.2.2.2.2.2.2.2.2.2.1,a0.2.2.2.2.2.2.2.2.2.2.1,a0.2.2.2.2.2.2.2.2.2.2.2,()),(0,0,0,(),0,0,0,0,0,(),0,false,false,()),()),(([]:List dW),()))) (fun y2 =>
 let r4:=yfF y2.2.1.1.2.2.2.1
 some (((y2.2.1.1.1,(y2.2.1.1.2.1,y2.2.1.1.2.2.1),r4,y2.2.1.1.2.2.2.2.1,y2.2.1.1.2.2.2.2.2.1,y2.2.1.1.2.2.2.2.2.2.1,y2.2.1.1.2.2.2.2.2.2.2.1,y2.2.1.1.2.2.2.2.2.2.2.2.1,y2.2.2.1,y2.2.1.1.2.2.2.2.2.2.2.2.2.2.1,y2.2.1.1.2.2.2.2.2.2.2.2.2.2.2.1,y2.2.1.1.2.2.2.2.2.2.2.2.2.2.2.2.1),()),())) (fun y2 =>
 none)
theorem yXQ (x:InD ygJ):zju ⟨yq0,31,yCm⟩ f95.results.toList ykH ygJ yrd x=ymF x.1:=by kernel_rfl
theorem ySw:ConOk prog 95 ⟨ygJ,yrd,fun x=>ymF x.1⟩:=zjZ (yN9) func95 (by kernel_rfl) (by kernel_rfl) ntmps95.symm (by decide) (fun x r h=>(yXQ x).trans h)
def yeA (a0:dA):dA:=a0
theorem yVJ (a0:dA) (hk:zi0 ygJ (a0,())):ymF a0=(fun n=>some ((n,()),())) (yeA a0):=by
 have hb:a0.2.2.2.2.2.2.2.2.1.length*32≤2^47:=hk.1.2.2.2.2.2.2.2.2.1.1
 have h1:=zj1 (step:=ybW) a0.2.2.2.2.2.2.2.2.1 (0,[]) (fun i s=>yqr a0.2.2.2.2.2.2.2.2.1 a0.2.2.2.2.2.2.2.2.1.length i a0 yae s) (fun s x=>s++ [x]) (fun i s=>s.length=i) (fun s=> .inl (yMg a0 yae s)) (fun i s hi hs=>⟨by
   simp only[ybW,yqr,yqL,zj2 (show(i:Int)<a0.2.2.2.2.2.2.2.2.1.length by omega),cond_true,wr (show -9223372036854775808≤(i:Int)+1 by omega) (by omega),Int.natCast_add,Int.natCast_one,Int.toNat_natCast,zkj hi,zkk,yo,zkp]
   rw[zj8.2 (show(s.length+ [a0.2.2.2.2.2.2.2.2.1.getD i (0,[])].length)*32≤140737488355328 by simp only[List.length_cons,List.length_nil]; omega)]; rfl,by simp[hs]⟩) (fun s hs=>by simp only[ybW,yqr,yqL,zkv (Int.le_refl _),cond_false]) [] rfl 18446744073709551616 (by omega)
 rw[yyb]at h1;unfold ymF yeA;rw[show yr5 (yMp a0.2.2.2.2.2.2.2.2.1 a0.2.2.2.2.2.2.2.2.1.length a0 yae [])=_ from h1]; rfl
def yuc:Con:=⟨ygJ,yrd,fun x=>(fun n=>some ((n,()),())) (yeA x.1)⟩
theorem yGd:ConOk prog 95 yuc:=(ySw).mono (fun x r hk h=>(yVJ x.1 hk).trans h)
end
section
def yEx:Code:=(f96.body).getD .skip
def yE9:Env:=zj0 TT [(55,ylu)] []
theorem yLR:FrOk prog ⟨yE9,15,fun _=>none⟩ yEx:=zj4 yc yd ⟨ytR,trivial⟩
def yNw:Nat→Option Seg:=fun _=>none
abbrev yiu:List Par:= [.rd tA]
abbrev yoP:List OT:= [⟨false,tB,.fz⟩]
def ysy (a0:dA):Option (ResD yoP×MutD yiu) :=
 let r1:=yam a0
 bif r1 then
 bif(!a0.2.2.2.2.2.2.2.2.2.2.1)then
 some (((ltb a0.2.2.2.2.2.2.2.1 60000),()),())
 else
 some ((false,()),())
 else
 some ((false,()),())
theorem yUs (x:InD yiu):zju ⟨yE9,15,yNw⟩ f96.results.toList yEx yiu yoP x=ysy x.1:=by kernel_rfl
theorem yPd:ConOk prog 96 ⟨yiu,yoP,fun x=>ysy x.1⟩:=zjZ (yLR) func96 (by kernel_rfl) (by kernel_rfl) ntmps96.symm (by decide) (fun x r h=>(yUs x).trans h)
def yds (a0:dA):Bool :=
 let r1:=yam a0
 bif r1 then
 bif(!a0.2.2.2.2.2.2.2.2.2.2.1)then
 (ltb a0.2.2.2.2.2.2.2.1 60000)
 else
 false
 else
 false
def yA6:Con:=⟨yiu,yoP,fun x=>(fun n=>some ((n,()),())) (yds x.1)⟩
theorem ySe (a0:dA):ysy a0=(fun n=>some ((n,()),())) (yds a0):=zkn (p:=fun(n:Bool)=>((n,()),())) (zj9 (p:=fun(n:Bool)=>((n,()),())) (zj9 (p:=fun(n:Bool)=>((n,()),())) rfl rfl) rfl)
theorem ySY:ConOk prog 96 yA6:=(yPd).mono (fun x r _ h=>(ySe x.1).trans h)
end
section
def yEB:Code:=(f144.body).getD .skip
def yFd:Env:=zj0 TT [(195,yC8)] []
theorem yLZ:FrOk prog ⟨yFd,25,fun _=>none⟩ yEB:=zj4 yc yd ⟨yWQ,trivial⟩
def yNA:Nat→Option Seg:=fun _=>none
abbrev yiw:List Par:= [.rd tS]
abbrev yoV:List OT:= [⟨false,tL,(.ow .fz)⟩]
def ysz (a0:dS):Option (ResD yoV×MutD yiw) :=
 let r1:=n_spec_SuperOk a0
 bif(!r1)then
 some ((([]:List Int),()),())
 else
 some ((([21317,a0.1,a0.2.1,a0.2.2.1,a0.2.2.2.1,a0.2.2.2.2.1,a0.2.2.2.2.2.1,(IntKind.i64.wrap (a0.2.2.2.2.2.2.1+1)),a0.2.2.2.2.2.2.2]:List Int),()),())
theorem yUy (x:InD yiw):zju ⟨yFd,25,yNA⟩ f144.results.toList yEB yiw yoV x=ysz x.1:=by kernel_rfl
theorem yPj:ConOk prog 144 ⟨yiw,yoV,fun x=>ysz x.1⟩:=zjZ (yLZ) func144 (by kernel_rfl) (by kernel_rfl) ntmps144.symm (by decide) (fun x r h=>(yUy x).trans h)
def n_spec_PutSuper (a0:dS):(List Int) :=
 let r1:=n_spec_SuperOk a0
 bif(!r1)then
 ([]:List Int)
 else
 ([21317,a0.1,a0.2.1,a0.2.2.1,a0.2.2.2.1,a0.2.2.2.2.1,a0.2.2.2.2.2.1,(IntKind.i64.wrap (a0.2.2.2.2.2.2.1+1)),a0.2.2.2.2.2.2.2]:List Int)
def ysi:Con:=⟨yiw,yoV,fun x=>(fun n=>some ((n,()),())) (n_spec_PutSuper x.1)⟩
theorem ySj (a0:dS):ysz a0=(fun n=>some ((n,()),())) (n_spec_PutSuper a0):=zkn (p:=fun(n:(List Int))=>((n,()),())) (zj9 (p:=fun(n:(List Int))=>((n,()),())) rfl rfl)
theorem yDY:ConOk prog 144 ysi:=(yPj).mono (fun x r _ h=>(ySj x.1).trans h)
theorem yJX {s:dS} (h:n_spec_SuperOk s=true):yey (n_spec_PutSuper s)=(s,true):=by
 have hs:=yyM.1 h;have hg:=yg.1 hs.1;simp only at hg
 have hp:n_spec_PutSuper s= [21317,s.1,s.2.1,s.2.2.1,s.2.2.2.1,s.2.2.2.2.1,s.2.2.2.2.2.1,s.2.2.2.2.2.2.1+1,s.2.2.2.2.2.2.2]:=by
  unfold n_spec_PutSuper;rw[h,wr (show -9223372036854775808≤s.2.2.2.2.2.2.1+1 by omega) (by omega)]; rfl
 have ha:yIf (n_spec_PutSuper s)=s:=by
  rw[hp];show(s.1,s.2.1,s.2.2.1,s.2.2.2.1,s.2.2.2.2.1,s.2.2.2.2.2.1,IntKind.i64.wrap (s.2.2.2.2.2.2.1+1-1),s.2.2.2.2.2.2.2)=s;rw[wr (show -9223372036854775808≤s.2.2.2.2.2.2.1+1-1 by omega) (by omega),Int.add_sub_cancel]
 unfold yey;rw[ha,h,hp]; rfl
abbrev downA (a:dA):Bool:=a.2.2.2.2.2.2.2.2.2.2.1
def ymV (a:dA) (f:Int) (d:Bool):dA:=(a.1,a.2.1,a.2.2.1,a.2.2.2.1,a.2.2.2.2.1,a.2.2.2.2.2.1,a.2.2.2.2.2.2.1,a.2.2.2.2.2.2.2.1,a.2.2.2.2.2.2.2.2.1,f,d,a.2.2.2.2.2.2.2.2.2.2.2)
def opA (a:dA):Bool×dA:=bif downA a then(false,a)else bif a.2.2.2.2.2.2.2.2.2.1==0 then(false,ymV a (-1) true)else bif ltb 0 a.2.2.2.2.2.2.2.2.2.1 then(true,ymV a (IntKind.i64.wrap (a.2.2.2.2.2.2.2.2.2.1-1)) (downA a))else(true,a)
def setMem (a:dA) (m:Int) (x:dM):dA:=(a.1,a.2.1,a.2.2.1.set m.toNat x,a.2.2.2)
def yaZ (a:dA) (m n:Int) (s:List Int):dA:=bif(nth a.2.2.1 m noMem).2.2.1 then a else bif(opA a).1 then setMem (opA a).2 m (yE (nth a.2.2.1 m noMem) n s).1 else(opA a).2
def yF (a:dA) (i:Nat):dA:=bif(nth a.2.2.1 i noMem).2.2.1 then a else bif(opA a).1 then setMem (opA a).2 i (ym (nth a.2.2.1 i noMem))else(opA a).2
def yb (a:dA):dA:=(List.range a.2.2.1.length).foldl yF a
def yNn (a:dA) (i:Int):dS:=(a.1,a.2.2.2.2.2.2.2.1,i,a.2.1.1,a.2.1.2,a.2.2.2.2.2.2.1,a.2.2.2.1,a.2.2.2.2.1)
def yH (a:dA) (i:Nat):dA:=yaZ a i (a.2.2.2.2.2.2.2.1.tmod 2) (n_spec_PutSuper (yNn a i))
def yW (a:dA):dA:=(a.1,a.2.1,a.2.2.1,a.2.2.2.1,a.2.2.2.2.1,a.2.2.2.2.2.1,a.2.2.2.2.2.2.1,IntKind.i64.wrap (a.2.2.2.2.2.2.2.1+1),a.2.2.2.2.2.2.2.2)
def markA (a:dA):dA:=yb ((List.range a.2.2.1.length).foldl yH (yW a))
theorem yap (a:dA):(opA a).2.2.2.1=a.2.2.1:=by
 unfold opA
 cases downA a
 ·cases(a.2.2.2.2.2.2.2.2.2.1==0)
  ·cases ltb 0 a.2.2.2.2.2.2.2.2.2.1<;>rfl
  ·rfl
 ·rfl
theorem yZF {a:dA} (h:downA a=false):downA (opA a).2= !(opA a).1:=by
 unfold opA;rw[h]
 cases(a.2.2.2.2.2.2.2.2.2.1==0)
 ·cases ltb 0 a.2.2.2.2.2.2.2.2.2.1
  ·exact h
  ·rfl
 ·rfl
theorem y3I {a:dA} (h:downA a=true):opA a=(false,a):=by unfold opA; rw[h]; rfl
theorem yrJ (a:dA) (m n:Int) (s:List Int):(yaZ a m n s).2.2.1.length=a.2.2.1.length:=by
 unfold yaZ
 cases(nth a.2.2.1 m noMem).2.2.1
 ·cases(opA a).1
  ·show(opA a).2.2.2.1.length=_; rw[yap]
  ·show((opA a).2.2.2.1.set m.toNat _).length=_; rw[List.length_set,yap]
 ·rfl
theorem yn0 (a:dA) (i:Nat):(yF a i).2.2.1.length=a.2.2.1.length:=by
 unfold yF
 cases(nth a.2.2.1 i noMem).2.2.1
 ·cases(opA a).1
  ·show(opA a).2.2.2.1.length=_; rw[yap]
  ·show((opA a).2.2.2.1.set _ _).length=_; rw[List.length_set,yap]
 ·rfl
theorem yjP {one:dA→Nat→dA} (h: ∀a i,(one a i).2.2.1.length=a.2.2.1.length): ∀(l:List Nat) (a:dA),(l.foldl one a).2.2.1.length=a.2.2.1.length
 | [],_=>rfl
 | x::l,a=>by rw[List.foldl_cons,yjP h l,h]
theorem yIO (a:dA):(yb a).2.2.1.length=a.2.2.1.length:=yjP yn0 _ _
theorem yqD {a:dA} (h:downA a=true) (m n:Int) (s:List Int):yaZ a m n s=a:=by
 unfold yaZ;rw[y3I h]
 cases(nth a.2.2.1 m noMem).2.2.1<;>rfl
theorem yEk {a:dA} (i:Nat) (h:downA a=true):yF a i=a:=by
 unfold yF;rw[y3I h]
 cases(nth a.2.2.1 i noMem).2.2.1<;>rfl
theorem yl2 {one:dA→Nat→dA} (hs: ∀a i,downA a=true→one a i=a): ∀(l:List Nat) (a:dA),downA a=true→l.foldl one a=a
 | [],_,_=>rfl
 | x::l,a,h=>by rw[List.foldl_cons,hs a x h]; exact yl2 hs l a h
theorem yvd {a:dA} (h:downA a=true):yb a=a:=yl2 (fun _ i h=>yEk i h) _ a h
theorem y2U {a:dA} (h:downA a=false) (m n:Int) (s:List Int):downA (yaZ a m n s)=(!(nth a.2.2.1 m noMem).2.2.1&& !(opA a).1):=by
 have:=yZF h;unfold yaZ
 cases(nth a.2.2.1 m noMem).2.2.1
 ·cases ho:(opA a).1
  ·rw[ho]at this; exact this
  ·rw[ho]at this; exact this
 ·exact h
theorem yM7 {a:dA} (h:downA a=false) (i:Nat):downA (yF a i)=(!(nth a.2.2.1 i noMem).2.2.1&& !(opA a).1):=by
 have:=yZF h;unfold yF
 cases(nth a.2.2.1 i noMem).2.2.1
 ·cases ho:(opA a).1
  ·rw[ho]at this; exact this
  ·rw[ho]at this; exact this
 ·exact h
theorem yDK {one:dA→Nat→dA} (hs: ∀a i,downA a=true→one a i=a): ∀(k i:Nat) (s:dA),goE (fun i s=>bif downA (one s i)then(.inr (one s i):dA ⊕ dA)else .inl (one s i)) id k i s=(List.range' i k).foldl one s
 | 0,_,_=>rfl
 | k+1,i,s=>by
  rw[List.range'_succ,List.foldl_cons,goE]
  cases hd:downA (one s i)
  ·exact yDK hs k (i+1) (one s i)
  ·exact(yl2 hs _ _ hd).symm
def yY (a:dA) (m:Int):dA:=(a.1,a.2.1,a.2.2.1.set m.toNat (yfE (nth a.2.2.1 m noMem)),m,0,a.2.2.2.2.2)
def yUG (a:dA) (m:Int):dA:=(a.1,a.2.1,a.2.2.1.set m.toNat (yfE (nth a.2.2.1 m noMem)),a.2.2.2.1,a.2.2.2.2.1,a.2.2.2.2.2.1,a.2.2.2.2.2.2.1,a.2.2.2.2.2.2.2.1,a.2.2.2.2.2.2.2.2.1,a.2.2.2.2.2.2.2.2.2.1,a.2.2.2.2.2.2.2.2.2.2.1,true)
def failOne (a:dA) (m:Int):dA:=bif a.2.2.2.1== -1||a.2.2.2.1==m then(bif !(downA a)&&(!a.2.2.2.2.2.2.2.2.2.2.2&&ltb a.2.2.2.2.2.2.2.1 60000)then markA (yY a m)else yY a m)else yUG a m
theorem y5n (a:dA):(markA a).2.2.1.length=a.2.2.1.length:=(yIO _).trans (yjP (one:=yH) (fun _ _=>yrJ _ _ _ _) _ (yW a))
theorem yIH (a:dA):(opA a).2.2.2.2.2.2.2.2.2.1=a.2.2.2.2.2.2.2.2.1:=by
 unfold opA
 cases downA a
 ·cases(a.2.2.2.2.2.2.2.2.2.1==0)
  ·cases ltb 0 a.2.2.2.2.2.2.2.2.2.1<;>rfl
  ·rfl
 ·rfl
theorem y4K (a:dA) (m n:Int) (s:List Int):(yaZ a m n s).2.2.2.2.2.2.2.2.1=a.2.2.2.2.2.2.2.2.1:=by
 unfold yaZ
 cases(nth a.2.2.1 m noMem).2.2.1
 ·cases(opA a).1
  ·exact yIH a
  ·exact yIH a
 ·rfl
theorem y1R (a:dA) (i:Nat):(yF a i).2.2.2.2.2.2.2.2.1=a.2.2.2.2.2.2.2.2.1:=by
 unfold yF
 cases(nth a.2.2.1 i noMem).2.2.1
 ·cases(opA a).1
  ·exact yIH a
  ·exact yIH a
 ·rfl
theorem yIm {one:dA→Nat→dA} (h: ∀a i,(one a i).2.2.2.2.2.2.2.2.1=a.2.2.2.2.2.2.2.2.1): ∀(l:List Nat) (a:dA),(l.foldl one a).2.2.2.2.2.2.2.2.1=a.2.2.2.2.2.2.2.2.1
 | [],_=>rfl
 | x::l,a=>by rw[List.foldl_cons,yIm h l,h]
theorem yIM (a:dA):(yb a).2.2.2.2.2.2.2.2.1=a.2.2.2.2.2.2.2.2.1:=yIm y1R _ _
theorem y37 (a:dA):(markA a).2.2.2.2.2.2.2.2.1=a.2.2.2.2.2.2.2.2.1:=(yIM _).trans (yIm (one:=yH) (fun _ _=>y4K _ _ _ _) _ (yW a))
def yaD (n:Int):dM:=bif leb 1 n&&leb n 20 then(List.replicate n.toNat [],[],false,[])else noMem
theorem yMd {n:Int} (h1:1≤n) (h2:n≤20):memOk (yaD n)=true:=by
 unfold yaD;rw[zku h1,zku h2];refine yui ?_ rfl rfl ?_ ?_ (Nat.zero_le _)
 ·show(List.replicate n.toNat ([]:List Int)).all yaa=true
  rw[List.all_eq_true];intro x hx;rw[(List.mem_replicate.1 hx).2]; rfl
 ·show 1≤(List.replicate n.toNat ([]:List Int)).length; rw[List.length_replicate]; omega
 ·show(List.replicate n.toNat ([]:List Int)).length≤20; rw[List.length_replicate]; omega
def spareNew (a:dA):dA:=(a.1,a.2.1,a.2.2.1.set a.2.2.2.1.toNat (yaD (6+a.2.1.2)),a.2.2.2.1,0,a.2.2.2.2.2)
def yB (a:dA):dA:=(a.1,a.2.1,a.2.2.1,a.2.2.2.1,a.2.2.2.2.1,a.2.2.2.2.2.1,a.2.2.2.2.2.1,a.2.2.2.2.2.2.2)
def checkA (a:dA):dA:=bif downA (yb a)then yb a else markA (yB (yb a))
theorem y4p (a:dA):(checkA a).2.2.1.length=a.2.2.1.length:=by
 unfold checkA
 cases downA (yb a)
 ·exact(y5n (yB (yb a))).trans (yIO a)
 ·exact yIO a
theorem yPP (a:dA):(checkA a).2.2.2.2.2.2.2.2.1=a.2.2.2.2.2.2.2.2.1:=by
 unfold checkA
 cases downA (yb a)
 ·exact(y37 (yB (yb a))).trans (yIM a)
 ·exact yIM a
def y2K (id:Int) (g:dG) (i:Int):dS:=(id,0,i,g.1,g.2,0,-1,0)
def yrC (m:dM) (s:Nat):dM:=(m.1.set (s+6) [0],m.2)
def yjF (id:Int) (g:dG) (i:Int):dM:=((yaD (6+g.2)).1.set 0 (n_spec_PutSuper (y2K id g i)),(yaD (6+g.2)).2)
def yx (id:Int) (g:dG) (i:Int):dM:=(List.range g.2.toNat).foldl yrC (yjF id g i)
def yCH (a:dA) (m:dM):dA:=(a.1,a.2.1,a.2.2.1++ [m],a.2.2.2)
def yCM (id:Int) (g:dG):dA:=(id,g,[],-1,0,0,0,0,[],-1,false,false)
def yeg (id:Int) (g:dG):dA:=bif n_spec_GeoOk g&&(leb 1 id&&leb id 60000)then(List.range g.1.toNat).foldl (fun a (i:Nat)=>yCH a (yx id g i)) (yCM id g)else yae
theorem yPX (l:List Nat) (m:dM):(l.foldl yrC m).1.length=m.1.length:=by
 induction l generalizing m with
 | nil=>rfl
 | cons x t ih=>rw[List.foldl_cons,ih]; show(m.1.set _ _).length=_; rw[List.length_set]
def yl (a:dA):Int×(Int×Int)×Int×Int×Int×Int×Int×List dW×Bool:=(a.1,a.2.1,a.2.2.2.1,a.2.2.2.2.1,a.2.2.2.2.2.1,a.2.2.2.2.2.2.1,a.2.2.2.2.2.2.2.1,a.2.2.2.2.2.2.2.2.1,a.2.2.2.2.2.2.2.2.2.2.2)
theorem yH9 (a:dA):yl (opA a).2=yl a:=by
 unfold opA
 cases downA a
 ·cases(a.2.2.2.2.2.2.2.2.2.1==0)
  ·cases ltb 0 a.2.2.2.2.2.2.2.2.2.1<;>rfl
  ·rfl
 ·rfl
theorem yhJ (a:dA) (m n:Int) (s:List Int):yl (yaZ a m n s)=yl a:=by
 unfold yaZ
 cases(nth a.2.2.1 m noMem).2.2.1
 ·cases(opA a).1
  ·exact yH9 a
  ·exact yH9 a
 ·rfl
theorem yM6 (a:dA) (i:Nat):yl (yF a i)=yl a:=by
 unfold yF
 cases(nth a.2.2.1 i noMem).2.2.1
 ·cases(opA a).1
  ·exact yH9 a
  ·exact yH9 a
 ·rfl
theorem yqi {one:dA→Nat→dA} (h: ∀a i,yl (one a i)=yl a): ∀(l:List Nat) (a:dA),yl (l.foldl one a)=yl a
 | [],_=>rfl
 | x::l,a=>by rw[List.foldl_cons,yqi h l,h]
theorem yag (a:dA):yl (yb a)=yl a:=yqi yM6 _ _
theorem yju (a:dA):yl (markA a)=yl (yW a):=(yag _).trans (yqi (one:=yH) (fun _ _=>yhJ _ _ _ _) _ _)
theorem yO {a b:dA} (h:yl a=yl b):a.2.1=b.2.1:=congrArg (fun x=>x.2.1) h
theorem yjr {a b:dA} (h:yl a=yl b):a.2.2.2.2.1=b.2.2.2.2.1:=congrArg (fun x=>x.2.2.2.1) h
theorem yUg {a b:dA} (h:yl a=yl b):a.2.2.2.2.2.2.2.2.1=b.2.2.2.2.2.2.2.2.1:=congrArg (fun x=>x.2.2.2.2.2.2.2.1) h
def y4L (b:dA):dA:=(b.1,b.2.1,b.2.2.1,b.2.2.2.1,IntKind.i64.wrap (b.2.2.2.2.1+1),b.2.2.2.2.2)
def yaf (a:dA):dA:=yaZ a a.2.2.2.1 (dataAt a.2.2.2.2.1) [nth (yA a a.2.2.2.2.1).1 a.2.2.2.1 0]
def stepOne (a:dA):Int×dA:=bif(yA a a.2.2.2.2.1).2 then(bif downA (yaf a)then(6,yaf a)else(0,y4L (yaf a)))else(5,a)
def yAb (lost:Int) (br:Bool) (S:Int) (i:Nat) (m:dM):Prop:=memOk m=true∧(m.1.length:Int)=6+S∧(m.2.2.1=true→(i:Int)=lost∨br=true)
def yF9 (lost:Int) (br:Bool) (S:Int) (l:List dM):Prop:= ∀i,i<l.length→yAb lost br S i (nth l i noMem)
theorem yql {lost S:Int} {br:Bool} {l:List dM} {i:Nat} {x:dM} (h:yF9 lost br S l) (hx:i<l.length→yAb lost br S i x):yF9 lost br S (l.set i x):=fun j hj=>by
 rw[List.length_set]at hj
 by_cases e:j=i
 ·subst e
  rw[zkk,zkb (by rw[List.length_set]; exact hj),List.getElem_set_self]; exact hx hj
 ·have:=h j hj
  rw[zkk,zkb hj]at this;rw[zkk,zkb (by rw[List.length_set]; exact hj),List.getElem_set_ne (fun e'=>e e'.symm)]; exact this
theorem y4a {a:dA}:ynD a=true↔yF9 a.2.2.2.1 a.2.2.2.2.2.2.2.2.2.2.2 a.2.1.2 a.2.2.1∧(a.2.2.1.length:Int)=a.2.1.1:=by
 constructor
 ·intro h
  refine⟨fun i hi=>y4C h hi,?_⟩;simp only[ynD,Bool.and_eq_true,beq_iff_eq]at h; exact h.2
 ·rintro⟨h1,h2⟩
  simp only[ynD,Bool.and_eq_true,beq_iff_eq,Bool.not_eq_true',List.any_eq_false,List.mem_range];refine⟨fun i hi=> ?_,h2⟩;obtain⟨g1,g2,g3⟩:=h1 i hi;unfold yhB;rw[g1,show(((nth a.2.2.1 i noMem).1.length:Int) !=6+a.2.1.2)=false from bne_eq_false_iff_eq.2 g2]
  cases hf:(nth a.2.2.1 i noMem).2.2.1
  ·simp
  ·rcases g3 hf with e | e
   ·rw[show((i:Int) !=a.2.2.2.1)=false from bne_eq_false_iff_eq.2 e]; simp
   ·rw[e]; simp
def fuz (a:dA):Int:=a.2.2.2.2.2.2.2.2.2.1
def Keep (a:dA):Prop:=(yF9 a.2.2.2.1 a.2.2.2.2.2.2.2.2.2.2.2 a.2.1.2 a.2.2.1∧(a.2.2.1.length:Int)=a.2.1.1)∧ -1≤fuz a∧fuz a≤1000
def coreOk (a:dA):Prop:=n_spec_GeoOk a.2.1=true∧(1≤a.1∧a.1≤60000)∧yat a.2.1 a.2.2.2.2.2.2.2.2.1=true∧(-1≤a.2.2.2.1∧a.2.2.2.1≤a.2.1.1-1)∧(0≤a.2.2.2.2.1∧a.2.2.2.2.1≤a.2.1.2)∧(a.2.2.2.1= -1→a.2.2.2.2.1=0) ∧
 (0≤a.2.2.2.2.2.2.1∧a.2.2.2.2.2.2.1≤60000)∧(a.2.2.2.2.2.2.1≤a.2.2.2.2.2.1∧a.2.2.2.2.2.1≤60000)∧a.2.2.2.2.2.1≤a.2.2.2.2.2.2.1+4∧0≤a.2.2.2.2.2.2.2.1∧a.2.2.2.2.2.2.2.1≤60000
theorem yHv {a:dA}:yR a=true↔coreOk a∧Keep a:=by
 unfold yR coreOk Keep fuz;simp only[Bool.and_eq_true,zjB,y4a,Bool.not_eq_true',Bool.and_eq_false_iff,beq_eq_false_iff_ne,bne_eq_false_iff_eq];constructor
 ·rintro⟨h1,h2,h3,h4,h5,h6,h7,h8,h9,h10,h11,h12⟩
  exact⟨⟨h1,h2,h4,h5,h6,fun e=>h7.resolve_left (fun g=>g e),h8,h9,h10,h11.1,h11.2⟩,h3,h12⟩
 ·rintro⟨⟨h1,h2,h4,h5,h6,h7,h8,h9,h10,h11,h11'⟩,h3,h12⟩
  exact⟨h1,h2,h3,h4,h5,h6,(Decidable.em (a.2.2.2.1= -1)).elim (fun e=> .inr (h7 e)) (fun e=> .inl e),h8,h9,h10,⟨h11,h11'⟩,h12⟩
theorem yB6 {a b:dA} (h:yl b=yl a) (ha:coreOk a):coreOk b:=by
 unfold yl at h;simp only[Prod.mk.injEq]at h;obtain⟨h1,h2,h3,h4,h5,h6,h7,h8,h9⟩:=h;unfold coreOk at *;rw[h1,h2,h3,h4,h5,h6,h7,h8]; exact ha
theorem y5X {a b:dA} (h:yl b=yl a) (hl:b.2.2.1.length=a.2.2.1.length) (hm:yF9 a.2.2.2.1 a.2.2.2.2.2.2.2.2.2.2.2 a.2.1.2 b.2.2.1) (hn:(a.2.2.1.length:Int)=a.2.1.1) (hf: -1≤fuz b∧fuz b≤1000):Keep b:=by
 unfold yl at h;simp only[Prod.mk.injEq]at h;obtain⟨h1,h2,h3,h4,h5,h6,h7,h8,h9⟩:=h;unfold Keep;rw[h2,h3,h9,hl]; exact⟨⟨hm,hn⟩,hf⟩
theorem y6n {a:dA} (h: -1≤fuz a∧fuz a≤1000): -1≤fuz (opA a).2∧fuz (opA a).2≤1000:=by
 unfold opA
 cases downA a
 ·cases h0:(a.2.2.2.2.2.2.2.2.2.1==0)
  ·cases h1:ltb 0 a.2.2.2.2.2.2.2.2.2.1
   ·exact h
   ·have:=zjE.1 h1
    unfold fuz at h;show -1≤IntKind.i64.wrap (a.2.2.2.2.2.2.2.2.2.1-1)∧IntKind.i64.wrap (a.2.2.2.2.2.2.2.2.2.1-1)≤1000;rw[wr (by omega) (by omega)]; omega
  ·show -1≤(-1:Int)∧(-1:Int)≤1000; omega
 ·exact h
theorem yNj {a:dA} (h:Keep a):Keep (opA a).2:=y5X (yH9 a) (by rw[yap]) (by rw[yap]; exact h.1.1) h.1.2 (y6n h.2)
theorem ysY {a:dA} {m:Int} {x:dM} (h:Keep a) (hm:inb m a.2.2.1.length=true) (hx:yAb a.2.2.2.1 a.2.2.2.2.2.2.2.2.2.2.2 a.2.1.2 m.toNat (nth a.2.2.1 m noMem)→yAb a.2.2.2.1 a.2.2.2.2.2.2.2.2.2.2.2 a.2.1.2 m.toNat x):Keep (setMem a m x):=by
 have hm:=zjA.1 hm;refine⟨⟨yql h.1.1 (fun hi=>hx ?_),by show((a.2.2.1.set m.toNat x).length:Int)=_; rw[List.length_set]; exact h.1.2⟩,h.2⟩;have:=h.1.1 m.toNat hi
 rwa[Int.toNat_of_nonneg hm.1]at this
theorem y39 {lost S:Int} {br:Bool} {i:Nat} {m:dM} (n:Int) (s:List Int) (h:yAb lost br S i m):yAb lost br S i (yE m n s).1 :=
 ⟨y26 n s h.1,by rw[(yz5 m n s).1]; exact h.2.1,by rw[(yz5 m n s).2]; exact h.2.2⟩
theorem y38 {lost S:Int} {br:Bool} {i:Nat} {m:dM} (h:yAb lost br S i m):yAb lost br S i (ym m) :=
 ⟨y5c h.1,by rw[(yu4 m).1]; exact h.2.1,by rw[(yu4 m).2]; exact h.2.2⟩
theorem yyd {a:dA} {m n:Int} {s:List Int} (h:Keep a) (hm:inb m a.2.2.1.length=true):Keep (yaZ a m n s):=by
 unfold yaZ
 cases(nth a.2.2.1 m noMem).2.2.1
 ·cases(opA a).1
  ·exact yNj h
  ·exact ysY (yNj h) (by rw[yap]; exact hm) (fun g=>by rw[yap]at g; exact y39 _ _ g)
 ·exact h
theorem y2B {a:dA} {i:Nat} (h:Keep a) (hi:i<a.2.2.1.length):Keep (yF a i):=by
 unfold yF
 cases(nth a.2.2.1 i noMem).2.2.1
 ·cases(opA a).1
  ·exact yNj h
  ·exact ysY (yNj h) (by rw[yap]; exact zkj hi) (fun g=>by rw[yap]at g; exact y38 g)
 ·exact h
theorem ymp {P:dA→Prop} {one:dA→Nat→dA} (hl: ∀a i,(one a i).2.2.1.length=a.2.2.1.length) (ho: ∀a i,P a→i<a.2.2.1.length→P (one a i)): ∀(n:Nat) (a:dA),n≤a.2.2.1.length→P a→P ((List.range n).foldl one a)
 | 0,_,_,h=>h
 | n+1,a,hn,h=>by
  rw[List.range_succ,List.foldl_append];exact ho _ _ (ymp hl ho n a (by omega) h) (by rw[yjP hl]; exact hn)
theorem yl4 {a:dA} (h:Keep a):Keep (yb a):=ymp (P:=Keep) (one:=yF) yn0 (fun _ _=>y2B) _ a (Nat.le_refl _) h
theorem yzG {a:dA} (h:Keep a):Keep (markA a) :=
 yl4 (ymp (P:=Keep) (one:=yH) (fun _ _=>yrJ _ _ _ _) (fun _ _ h hi=>yyd h (zkj hi)) _ (yW a) (Nat.le_refl _) h)
theorem yB1 {a:dA} (h:Keep a):Keep (checkA a):=by
 unfold checkA
 cases downA (yb a)
 ·exact yzG (a:=yB (yb a)) (yl4 h)
 ·exact yl4 h
def yb8 (a:dA):Prop:=downA a=false∧fuz a= -1
theorem y3H {a:dA} (h:yb8 a):opA a=(true,a):=by
 unfold opA;rw[h.1,show a.2.2.2.2.2.2.2.2.2.1= -1 from h.2]; rfl
theorem yIs {a:dA} (h:yb8 a) (m n:Int) (s:List Int):yb8 (yaZ a m n s):=by
 unfold yaZ;rw[y3H h]
 cases(nth a.2.2.1 m noMem).2.2.1<;>exact h
theorem y2x {a:dA} (h:yb8 a) (i:Nat):yb8 (yF a i):=by
 unfold yF;rw[y3H h]
 cases(nth a.2.2.1 i noMem).2.2.1<;>exact h
theorem yzr {a:dA} (h:yb8 a):yb8 (yb a):=ymp (P:=yb8) (one:=yF) yn0 (fun _ i h _=>y2x h i) _ a (Nat.le_refl _) h
theorem yZ9 {a:dA} (h:yb8 a):yb8 (markA a) :=
 yzr (ymp (P:=yb8) (one:=yH) (fun _ _=>yrJ _ _ _ _) (fun _ _ h _=>yIs h _ _ _) _ (yW a) (Nat.le_refl _) h)
theorem yIk {a:dA} (h:yb8 a):checkA a=markA (yB (yb a)):=by
 unfold checkA;rw[(yzr h).1]; rfl
theorem y32 {a:dA} (h:yb8 a):yb8 (checkA a):=by
 rw[yIk h]; exact yZ9 (a:=yB (yb a)) (yzr h)
def Wk (k:Int) (a:dA):Prop:=coreOk a∧Keep a∧yb8 a∧a.2.2.2.2.2.2.2.2.2.2.2=false∧a.2.2.2.2.2.2.2.1≤k
theorem y6u {k:Int} {a:dA} (h:Wk k a):yR a=true:=yHv.2 ⟨h.1,h.2.1⟩
theorem yeI {k j:Int} {a:dA} (h:Wk k a) (hj:k≤j):Wk j a:=⟨h.1,h.2.1,h.2.2.1,h.2.2.2.1,Int.le_trans h.2.2.2.2 hj⟩
theorem yB9 {k:Int} {a b:dA} (hc:yl b=yl a) (hk:Keep b) (hf:yb8 b) (h:Wk k a):Wk k b:=by
 refine⟨yB6 hc h.1,hk,hf,?_⟩;unfold yl at hc;simp only[Prod.mk.injEq]at hc;obtain⟨_,_,_,_,_,_,h7,_,h9⟩:=hc;rw[h7,h9]; exact h.2.2.2
theorem y6w {k:Int} {a:dA} {m n:Int} {s:List Int} (h:Wk k a) (hm:inb m a.2.2.1.length=true):Wk k (yaZ a m n s):=yB9 (yhJ _ _ _ _) (yyd h.2.1 hm) (yIs h.2.2.1 _ _ _) h
theorem y58 {k:Int} {a:dA} (h:Wk k a):Wk k (yb a):=yB9 (yag _) (yl4 h.2.1) (yzr h.2.2.1) h
theorem y5B {k:Int} {a:dA} (h:Wk k a) (hk:k+1≤60000):Wk (k+1) (yW a):=by
 obtain⟨⟨c1,c2,c3,c4,c5,c6,c7,c8,c9,c10,c11⟩,h2,h3,h4,h5⟩:=h;have e:IntKind.i64.wrap (a.2.2.2.2.2.2.2.1+1)=a.2.2.2.2.2.2.2.1+1:=wr (by omega) (by omega);refine⟨⟨c1,c2,c3,c4,c5,c6,c7,c8,c9,?_,?_⟩,h2,h3,h4,?_⟩
 ·show 0≤IntKind.i64.wrap (a.2.2.2.2.2.2.2.1+1); omega
 ·show IntKind.i64.wrap (a.2.2.2.2.2.2.2.1+1)≤_; omega
 ·show IntKind.i64.wrap (a.2.2.2.2.2.2.2.1+1)≤_; omega
theorem yZR {k:Int} {a:dA} (h:Wk k a) (hk:k+1≤60000):Wk (k+1) (markA a):=yB9 (yju _) (yzG h.2.1) (yZ9 h.2.2.1) (y5B h hk)
theorem y4U {k:Int} {a:dA} (h:Wk k a):Wk k (yB a):=by
 obtain⟨⟨c1,c2,c3,c4,c5,c6,c7,c8,c9,c10,c11⟩,h2,h3,h4,h5⟩:=h;refine⟨⟨c1,c2,c3,c4,c5,c6,⟨?_,?_⟩,⟨Int.le_refl _,c8.2⟩,?_,c10,c11⟩,h2,h3,h4,h5⟩
 ·show 0≤a.2.2.2.2.2.1; omega
 ·show a.2.2.2.2.2.1≤60000; omega
 ·show a.2.2.2.2.2.1≤a.2.2.2.2.2.1+4; omega
theorem y23 {k:Int} {a:dA} (h:Wk k a) (hk:k+1≤60000):Wk (k+1) (checkA a):=by
 rw[yIk h.2.2.1]; exact yZR (y4U (y58 h)) hk
theorem y4T {k:Int} {a:dA} {m:Int} {x:dM} (h:Wk k a) (hm:inb m a.2.2.1.length=true) (hx:yAb a.2.2.2.1 a.2.2.2.2.2.2.2.2.2.2.2 a.2.1.2 m.toNat (nth a.2.2.1 m noMem)→yAb a.2.2.2.1 a.2.2.2.2.2.2.2.2.2.2.2 a.2.1.2 m.toNat x):Wk k (setMem a m x) :=
 yB9 (a:=a) (b:=setMem a m x) rfl (ysY h.2.1 hm hx) h.2.2.1 h
theorem y56 {k m:Int} {a:dA} (h:Wk k a) (hl:a.2.2.2.1= -1) (hm:inb m a.2.2.1.length=true) (hk:k+1≤60000):Wk (k+1) (failOne a m):=by
 have hmi:=zjA.1 hm
 have hw:Wk k (yY a m):=by
  obtain⟨⟨c1,c2,c3,c4,c5,c6,c7,c8,c9,c10,c11⟩,⟨⟨g1,g2⟩,g3⟩,f,b,t⟩:=h;refine⟨⟨c1,c2,c3,⟨?_,?_⟩,⟨Int.le_refl _,by show(0:Int)≤a.2.1.2; omega⟩,fun e=>rfl,c7,c8,c9,c10,c11⟩,⟨⟨?_,?_⟩,g3⟩,f,b,t⟩
  ·show -1≤m; omega
  ·show m≤a.2.1.1-1; omega
  ·show yF9 m a.2.2.2.2.2.2.2.2.2.2.2 a.2.1.2 (a.2.2.1.set m.toNat (yfE (nth a.2.2.1 m noMem)))
   refine yql (fun i hi=> ?_) (fun hi=> ?_)
   ·obtain⟨e1,e2,e3⟩:=g1 i hi
    refine⟨e1,e2,fun e=> ?_⟩;rcases e3 e with e | e
    ·omega
    ·exact .inr e
   ·have:=g1 m.toNat hi
    rw[Int.toNat_of_nonneg hmi.1]at this;exact⟨yYb this.1,this.2.1,fun _=> .inl (Int.toNat_of_nonneg hmi.1)⟩
  ·show((a.2.2.1.set m.toNat (yfE (nth a.2.2.1 m noMem))).length:Int)=a.2.1.1
   rw[List.length_set]; exact g2
 unfold failOne;rw[show(a.2.2.2.1== -1)=true from beq_iff_eq.2 hl,h.2.2.1.1,h.2.2.2.1]
 cases ltb a.2.2.2.2.2.2.2.1 60000
 ·exact yeI hw (by omega)
 ·exact yZR hw hk
theorem y5D {k:Int} {a:dA} (h:Wk k a) (hl:inb a.2.2.2.1 a.2.2.1.length=true) (hk:k+1≤60000):Wk (k+1) (markA (spareNew a)):=by
 have hmi:=zjA.1 hl;refine yZR ?_ hk;obtain⟨⟨c1,c2,c3,c4,c5,c6,c7,c8,c9,c10,c11⟩,⟨⟨g1,g2⟩,g3⟩,f,b,t⟩:=h;have hg:=yg.1 c1;refine⟨⟨c1,c2,c3,c4,⟨Int.le_refl _,by show(0:Int)≤a.2.1.2; omega⟩,fun e=>rfl,c7,c8,c9,c10,c11⟩,⟨⟨yql g1 (fun hi=>⟨yMd (by omega) (by omega),?_,fun e=> ?_⟩),?_⟩,g3⟩,f,b,t⟩
 ·unfold yaD
  rw[zku (show 1≤6+a.2.1.2 by omega),zku (show 6+a.2.1.2≤20 by omega)];show((List.replicate (6+a.2.1.2).toNat ([]:List Int)).length:Int)=6+a.2.1.2;rw[List.length_replicate]; omega
 ·unfold yaD at e
  rw[zku (show 1≤6+a.2.1.2 by omega),zku (show 6+a.2.1.2≤20 by omega)]at e
  cases e
 ·show((a.2.2.1.set a.2.2.2.1.toNat (yaD (6+a.2.1.2))).length:Int)=a.2.1.1
  rw[List.length_set]; exact g2
theorem y57 {k:Int} {a:dA} (h:Wk k a) (hl:inb a.2.2.2.1 a.2.2.1.length=true) (hb:a.2.2.2.2.1<a.2.1.2):Wk k (stepOne a).2:=by
 have hp:Wk k (yaf a):=y6w h hl;have e:=yhJ a a.2.2.2.1 (dataAt a.2.2.2.2.1) [nth (yA a a.2.2.2.2.1).1 a.2.2.2.1 0];have e1:(yaf a).2.2.2.2.1=a.2.2.2.2.1:=yjr e;have e2:(yaf a).2.1=a.2.1:=yO e;have e3:(yaf a).2.2.2.1=a.2.2.2.1:=congrArg (fun x=>x.2.2.1) e;unfold stepOne
 cases(yA a a.2.2.2.2.1).2
 ·exact h
 ·generalize yaf a=R at hp e1 e2 e3 ⊢
  rw[hp.2.2.1.1];have hmi:=zjA.1 hl;obtain⟨⟨c1,c2,c3,c4,c5,c6,c7,c8,c9,c10,c11⟩,g2,g3,g4,g5⟩:=hp;have hg:=yg.1 c1;have e4:IntKind.i64.wrap (R.2.2.2.2.1+1)=R.2.2.2.2.1+1:=wr (by omega) (by omega);refine⟨⟨c1,c2,c3,c4,⟨?_,?_⟩,fun e=> ?_,c7,c8,c9,c10,c11⟩,g2,g3,g4,g5⟩
  ·show 0≤IntKind.i64.wrap (R.2.2.2.2.1+1); omega
  ·show IntKind.i64.wrap (R.2.2.2.2.1+1)≤R.2.1.2; rw[e4,e1,e2]; omega
  ·have:R.2.2.2.1= -1:=e
   omega
def yaF (r:dN) (a:dA) (i:Nat):dA:=yaZ a i (n_spec_SlotOf r.1) (putRec r)
def yj (a:dA) (r:dN):dA:=yb ((List.range a.2.2.1.length).foldl (yaF r) a)
theorem ymT (r:dN) (a:dA) (i:Nat):(yaF r a i).2.2.1.length=a.2.2.1.length:=yrJ _ _ _ _
theorem yP0 (r:dN) {a:dA} (i:Nat) (h:downA a=true):yaF r a i=a:=yqD h _ _ _
theorem yNm (a:dA) (r:dN):(yj a r).2.2.1.length=a.2.2.1.length:=(yIO _).trans (yjP (ymT r) _ _)
theorem yaT (a:dA) (r:dN):yl (yj a r)=yl a:=(yag _).trans (yqi (one:=yaF r) (fun _ _=>yhJ _ _ _ _) _ _)
def dataW (p N x:Int) (data:List Int) (i:Int):Int:=bif i==p then x else nth data ((i-p-1+N).tmod N) 0
def yaH (p N s:Int) (data:List Int) (a:dA) (i:Nat):dA:=bif yb9 a i s then yaZ a i (dataAt s) [dataW p N (xorOf data) data i]else a
def yp (a:dA) (s:Int) (data:List Int):dA:=(List.range a.2.2.1.length).foldl (yaH (parityOf a.2.1 s) a.2.1.1 s data) a
theorem ysT (p N s:Int) (data:List Int) (a:dA) (i:Nat):(yaH p N s data a i).2.2.1.length=a.2.2.1.length:=by
 unfold yaH; cases yb9 a i s
 ·rfl
 ·exact yrJ _ _ _ _
theorem yDe (p N s:Int) (data:List Int) {a:dA} (i:Nat) (h:downA a=true):yaH p N s data a i=a:=by
 unfold yaH; cases yb9 a i s
 ·rfl
 ·exact yqD h _ _ _
theorem yLs (p N s:Int) (data:List Int) (a:dA) (i:Nat):yl (yaH p N s data a i)=yl a:=by
 unfold yaH; cases yb9 a i s
 ·rfl
 ·exact yhJ _ _ _ _
theorem y48 (a:dA) (s:Int) (data:List Int):(yp a s data).2.2.1.length=a.2.2.1.length:=yjP (ysT _ _ _ _) _ _
theorem ydU (a:dA) (s:Int) (data:List Int):yl (yp a s data)=yl a:=yqi (yLs _ _ _ _) _ _
theorem y6K {N i p:Int} (h:3≤N∧N≤5) (hi:0≤i∧i<N) (hp:0≤p∧p≤N-1) (hne:i≠p):0≤(i-p-1+N).tmod N∧(i-p-1+N).tmod N<N-1:=by
 rw[Int.tmod_eq_emod_of_nonneg (by omega)];have:N=3∨N=4∨N=5:=by omega
 rcases this with rfl | rfl | rfl<;>omega
theorem y4j {N p x:Int} {data:List Int} (h:3≤N∧N≤5) (hp:0≤p∧p≤N-1) (hd:(data.length:Int)=N-1) :
  (List.range data.length).foldl (fun l (i:Nat)=>l.set ((p+1+i).tmod N).toNat (nth data i 0)) ((List.replicate N.toNat 0).set p.toNat x)=(List.range N.toNat).map (fun(i:Nat)=>dataW p N x data i):=by
 have:N=3∨N=4∨N=5:=by omega
 rcases this with rfl | rfl | rfl
 ·match data,hd with
  | [a,b],_ =>
   have:p=0∨p=1∨p=2:=by omega
   rcases this with rfl | rfl | rfl<;>simp[dataW,nth,List.range_succ,List.replicate_succ]
  | [],hd=>simp at hd
  | [_],hd=>simp at hd
  | _::_::_::_,hd=>simp only[List.length_cons]at hd; omega
 ·match data,hd with
  | [a,b,c],_ =>
   have:p=0∨p=1∨p=2∨p=3:=by omega
   rcases this with rfl | rfl | rfl | rfl<;>simp[dataW,nth,List.range_succ,List.replicate_succ]
  | [],hd=>simp at hd
  | [_],hd=>simp at hd
  | [_,_],hd=>simp at hd
  | _::_::_::_::_,hd=>simp only[List.length_cons]at hd; omega
 ·match data,hd with
  | [a,b,c,d],_ =>
   have:p=0∨p=1∨p=2∨p=3∨p=4:=by omega
   rcases this with rfl | rfl | rfl | rfl | rfl<;>simp[dataW,nth,List.range_succ,List.replicate_succ]
  | [],hd=>simp at hd
  | [_],hd=>simp at hd
  | [_,_],hd=>simp at hd
  | [_,_,_],hd=>simp at hd
  | _::_::_::_::_::_,hd=>simp only[List.length_cons]at hd; omega
def yhU (a:dA):dA:=yj a (yac a a.2.2.2.2.2.1).1
def ylX (a:dA):dA:=yp (yu (yhU a)) (yac a a.2.2.2.2.2.1).1.2.1 (yac a a.2.2.2.2.2.1).1.2.2
def ysB (_:Nat) (a:dA):dA ⊕ (dA ⊕ dA) :=
 bif !(yac a a.2.2.2.2.2.1).2||leb 60000 a.2.2.2.2.2.1 then .inr (.inl a)else bif downA (yhU a)then .inr (.inr (yhU a))else bif downA (ylX a)then .inr (.inr (ylX a))else .inl (ylX a)
def yM5 (a:dA):dA:=match goE ysB .inl 4 0 a with
 | .inl b=>checkA b
 | .inr b=>b
def ynV (a:dA):dA:=bif yR a&&(!(downA a)&&(!a.2.2.2.2.2.2.2.2.2.2.2&&ltb a.2.2.2.2.2.2.2.1 60000))then yM5 a else a
def ymU (l:List dM) (ks:List Int) (id fuse:Int):dA×Bool :=
 bif(yfP (yJ l ks) id).2 then(ynV (bif leb (-1) fuse&&leb fuse 1000 then ymV (yfP (yJ l ks) id).1 fuse (downA (yfP (yJ l ks) id).1)else(yfP (yJ l ks) id).1),true)else(yae,false)
theorem y2W (a:dA):(yhU a).2.1=a.2.1:=yO (yaT _ _)
theorem y5u (a:dA):(ylX a).2.1=a.2.1:=(yO (ydU (yu (yhU a)) _ _)).trans (y2W a)
theorem y5v (a:dA):(ylX a).2.2.1.length=a.2.2.1.length:=(y48 (yu (yhU a)) _ _).trans (yNm a _)
theorem y2X: ∀(k i:Nat) (a b:dA),downA a=false→goE ysB .inl k i a= .inl b→downA b=false
 | 0,_,a,b,h,e=>by cases e; exact h
 | k+1,i,a,b,h,e=>by
  unfold goE ysB at e
  cases hc:(!(yac a a.2.2.2.2.2.1).2||leb 60000 a.2.2.2.2.2.1)
  ·rw[hc]at e
   cases hd1:downA (yhU a)
   ·rw[hd1]at e
    cases hd2:downA (ylX a)
    ·rw[hd2]at e
     exact y2X k (i+1) (ylX a) b hd2 e
    ·rw[hd2]at e; cases e
   ·rw[hd1]at e; cases e
  ·rw[hc]at e; cases e; exact h
theorem yqg {a b:dA} (h:yl a=yl b):a.2.2.2.1=b.2.2.2.1:=congrArg (fun x=>x.2.2.1) h
def dsk (a:dA) (i:Int):dM:=nth a.2.2.1 i noMem
theorem yNg {a:dA} {m i:Int} {x:dM} (hm:inb m a.2.2.1.length=true) (hi:0≤i):dsk (setMem a m x) i=bif m==i then x else dsk a i:=yDS hm hi
def ydZ (n:Int) (s:List Int) (m:dM):dM:=bif m.2.2.1 then m else(yE m n s).1
def Did (g:dM→dM) (i:Int) (a r:dA):Prop:=yl r=yl a∧r.2.2.1.length=a.2.2.1.length ∧
 ((downA r=false∧ ∀j,0≤j→dsk r j=bif i==j then g (dsk a j)else dsk a j)∨(downA r=true∧ ∀j,dsk r j=dsk a j))
theorem yB8 {a:dA} {m:Int} (n:Int) (s:List Int) (h:downA a=false) (hm:inb m a.2.2.1.length=true):Did (ydZ n s) m a (yaZ a m n s):=by
 refine⟨yhJ _ _ _ _,yrJ _ _ _ _,?_⟩;have hd:=y2U h m n s;unfold yaZ at hd ⊢
 cases hf:(nth a.2.2.1 m noMem).2.2.1
 ·rw[hf]at hd
  cases ho:(opA a).1
  ·rw[ho]at hd
   refine .inr ⟨hd,fun j=> ?_⟩;show nth (opA a).2.2.2.1 j noMem=dsk a j;rw[yap]; rfl
  ·rw[ho]at hd
   refine .inl ⟨hd,fun j hj=> ?_⟩;show dsk (setMem (opA a).2 m (yE (nth a.2.2.1 m noMem) n s).1) j=_;rw[yNg (by rw[yap]; exact hm) hj]
   cases hj2:(m==j)
   ·show nth (opA a).2.2.2.1 j noMem=dsk a j
    rw[yap]; rfl
   ·have:=beq_iff_eq.1 hj2
    subst this;show _=ydZ n s (dsk a m);unfold ydZ dsk;rw[hf]; rfl
 ·refine .inl ⟨h,fun j hj=> ?_⟩
  cases hj2:(m==j)
  ·rfl
  ·have:=beq_iff_eq.1 hj2
   subst this;show dsk a m=ydZ n s (dsk a m);unfold ydZ dsk;rw[hf]; rfl
theorem y5w {a:dA} {i:Nat} (h:downA a=false) (hm:i<a.2.2.1.length):Did ym i a (yF a i):=by
 refine⟨yM6 _ _,yn0 _ _,?_⟩;have hd:=yM7 h i;unfold yF at hd ⊢
 cases hf:(nth a.2.2.1 i noMem).2.2.1
 ·rw[hf]at hd
  cases ho:(opA a).1
  ·rw[ho]at hd
   refine .inr ⟨hd,fun j=> ?_⟩;show nth (opA a).2.2.2.1 j noMem=dsk a j;rw[yap]; rfl
  ·rw[ho]at hd
   refine .inl ⟨hd,fun j hj=> ?_⟩;show dsk (setMem (opA a).2 i (ym (nth a.2.2.1 i noMem))) j=_;rw[yNg (by rw[yap]; exact zkj hm) hj]
   cases hj2:((i:Int)==j)
   ·show nth (opA a).2.2.2.1 j noMem=dsk a j
    rw[yap]; rfl
   ·have:=beq_iff_eq.1 hj2
    subst this; rfl
 ·refine .inl ⟨h,fun j hj=> ?_⟩
  cases hj2:((i:Int)==j)
  ·rfl
  ·have:=beq_iff_eq.1 hj2
   subst this;show dsk a i=ym (dsk a i);unfold ym dsk;rw[hf,Bool.not_true,Bool.and_false]; rfl
def Adv (g:Int→dM→dM) (a r:dA) (n:Nat):Prop:=yl r=yl a∧r.2.2.1.length=a.2.2.1.length ∧
 ∃k:Nat,k≤n∧(∀j:Int,0≤j→dsk r j=bif ltb j k then g j (dsk a j)else dsk a j)∧(downA r=false→k=n)
theorem yCJ {one:dA→Nat→dA} {g:Int→dM→dM} {a:dA} (hs: ∀b i,downA b=true→one b i=b)
  (ho: ∀(b:dA) (i:Nat),yl b=yl a→b.2.2.1.length=a.2.2.1.length→i<a.2.2.1.length→downA b=false→dsk b i=dsk a i→Did (g i) i b (one b i)) (hd:downA a=false) :
  ∀n,n≤a.2.2.1.length→Adv g a ((List.range n).foldl one a) n
 | 0,_=>⟨rfl,rfl,0,Nat.le_refl _,fun j hj=>by rw[zkv (show((0:Nat):Int)≤j by omega)]; rfl,fun _=>rfl⟩
 | n+1,hn=>by
  obtain⟨h1,h2,k,h3,h4,h5⟩:=yCJ hs ho hd n (by omega);rw[List.range_succ,List.foldl_append,List.foldl_cons,List.foldl_nil];generalize (List.range n).foldl one a=R at h1 h2 h4 h5 ⊢
  cases hR:downA R
  ·have hk:=h5 hR
   subst hk;have e:dsk R k=dsk a k:=by rw[h4 k (by omega),zkv (Int.le_refl _)]; rfl
   obtain⟨g1,g2,g3⟩:=ho R k h1 h2 (by omega) hR e;refine⟨g1.trans h1,g2.trans h2,?_⟩;rcases g3 with⟨g3,g4⟩ | ⟨g3,g4⟩
   ·refine⟨k+1,Nat.le_refl _,fun j hj=> ?_,fun _=>rfl⟩
    rw[g4 j hj]
    by_cases hj2:(k:Int)=j
    ·subst hj2
     rw[show((k:Int)==(k:Int))=true from beq_self_eq_true _,zj2 (show(k:Int)<((k+1:Nat):Int)by omega),e]; try rfl
    ·rw[show((k:Int)==j)=false from beq_eq_false_iff_ne.2 hj2,cond_false,h4 j hj,show ltb j ((k+1:Nat):Int)=ltb j k by rw[Bool.eq_iff_iff,zjE,zjE]; omega]
   ·refine⟨k,by omega,fun j hj=>by rw[g4 j,h4 j hj],fun h=> ?_⟩
    rw[g3]at h; cases h
  ·rw[hs R n hR]
   exact⟨h1,h2,k,by omega,h4,fun h=>by rw[hR]at h; cases h⟩
theorem yTq {a:dA} (hd:downA a=false):Adv (fun _=>ym) a (yb a) a.2.2.1.length :=
 yCJ (one:=yF) (g:=fun _=>ym) (fun _ i h=>yEk i h) (fun b i _ h2 hi hb _=>y5w hb (by omega)) hd _ (Nat.le_refl _)
theorem y11 {a b:dA} (h:yl b=yl a) (i:Int):yNn b i=yNn a i:=by
 unfold yl at h;simp only[Prod.mk.injEq]at h;obtain⟨h1,h2,h3,h4,h5,h6,h7,h8,h9⟩:=h;unfold yNn;rw[h1,h2,h3,h4,h6,h7]
theorem yuh {a b:dA} (h:yl b=yl a):b.2.2.2.2.2.2.2.1=a.2.2.2.2.2.2.2.1:=congrArg (fun x=>x.2.2.2.2.2.2.1) h
theorem yug {a b:dA} (h:yl b=yl a):b.2.2.2.2.2.2.2.2.2.2.2=a.2.2.2.2.2.2.2.2.2.2.2:=congrArg (fun x=>x.2.2.2.2.2.2.2.2) h
theorem y5O {a b:dA} (h:yl b=yl a):b.1=a.1:=congrArg (fun x=>x.1) h
def y1U (a:dA) (i:Int) (m:dM):dM:=ydZ (a.2.2.2.2.2.2.2.1.tmod 2) (n_spec_PutSuper (yNn a i)) m
theorem y2H {a:dA} (hd:downA a=false):Adv (y1U a) a ((List.range a.2.2.1.length).foldl yH a) a.2.2.1.length :=
 yCJ (one:=yH) (g:=y1U a) (fun _ i h=>yqD h _ _ _) (fun b i h1 h2 hi hb _=>by
  have:=yB8 (b.2.2.2.2.2.2.2.1.tmod 2) (n_spec_PutSuper (yNn b i)) hb (show inb (i:Int) b.2.2.1.length=true from zkj (by omega));rw[yuh h1,y11 h1]at this;unfold y1U yH;rw[yuh h1,y11 h1]
  exact this) hd _ (Nat.le_refl _)
theorem y3J {a:dA} (r:dN) (hd:downA a=false):Adv (fun _=>ydZ (n_spec_SlotOf r.1) (putRec r)) a ((List.range a.2.2.1.length).foldl (yaF r) a) a.2.2.1.length :=
 yCJ (one:=yaF r) (g:=fun _=>ydZ (n_spec_SlotOf r.1) (putRec r)) (fun _ i h=>yP0 r i h) (fun b i _ h2 hi hb _=>yB8 _ _ hb (zkj (by omega))) hd _ (Nat.le_refl _)
def yM (L B i s:Int) (m:dM):Bool:= !m.2.2.1&&(i !=L||ltb s B)
theorem y3C {a:dA} {i s:Int} (hi:inb i a.2.2.1.length=true):yb9 a i s=yM a.2.2.2.1 a.2.2.2.2.1 i s (dsk a i):=by
 unfold yb9 yM dsk;rw[hi]; rfl
def yjt (L B p N s:Int) (d:List Int) (i:Int) (m:dM):dM:=bif yM L B i s m then(yE m (dataAt s) [dataW p N (xorOf d) d i]).1 else m
theorem yQx {a:dA} (s:Int) (d:List Int) (hd:downA a=false):Adv (yjt a.2.2.2.1 a.2.2.2.2.1 (parityOf a.2.1 s) a.2.1.1 s d) a (yp a s d) a.2.2.1.length :=
 yCJ (one:=yaH (parityOf a.2.1 s) a.2.1.1 s d) (g:=yjt a.2.2.2.1 a.2.2.2.2.1 (parityOf a.2.1 s) a.2.1.1 s d) (fun _ i h=>yDe _ _ _ _ i h) (fun b i h1 h2 hi hb _=>by
  have hib:inb (i:Int) b.2.2.1.length=true:=zkj (by omega);unfold yaH;rw[y3C hib,yqg h1,yjr h1]
  cases hl:yM a.2.2.2.1 a.2.2.2.2.1 i s (dsk b i)
  ·refine⟨rfl,rfl,.inl ⟨hb,fun j hj=> ?_⟩⟩
   by_cases hj2:(i:Int)=j
   ·subst hj2
    rw[beq_self_eq_true];show dsk b i=yjt _ _ _ _ _ _ _ (dsk b i);unfold yjt;rw[hl]; rfl
   ·rw[show((i:Int)==j)=false from beq_eq_false_iff_ne.2 hj2]; rfl
  ·obtain⟨g1,g2,g3⟩:=yB8 (dataAt s) [dataW (parityOf a.2.1 s) a.2.1.1 (xorOf d) d i] hb hib
   refine⟨g1,g2,g3.imp (fun⟨g3,g4⟩=>⟨g3,fun j hj=> ?_⟩) id⟩;show dsk (yaZ b i (dataAt s) _) j=_;rw[g4 j hj]
   by_cases hj2:(i:Int)=j
   ·subst hj2
    rw[beq_self_eq_true,cond_true,cond_true];unfold yjt ydZ;rw[hl,cond_true];simp only[yM,Bool.and_eq_true,Bool.not_eq_true']at hl;rw[hl.1]; rfl
   ·rw[show((i:Int)==j)=false from beq_eq_false_iff_ne.2 hj2]; rfl) hd _ (Nat.le_refl _)
theorem yMT (s:dS):yaa (n_spec_PutSuper s)=true:=by
 unfold n_spec_PutSuper
 cases h:n_spec_SuperOk s
 ·rfl
 ·unfold n_spec_SuperOk at h
  simp only[ycf]at h
  cases hg:n_spec_GeoOk (s.2.2.2.1,s.2.2.2.2.1)
  ·rw[hg]at h; cases h
  have hge:=yg.1 hg;simp only at hge;rw[hg,wr (show -9223372036854775808≤s.2.2.2.1-1 by omega) (by omega)]at h
  cases h2:(leb 1 s.1&&leb s.1 60000)
  ·rw[h2]at h; cases h
  cases h3:(leb 0 s.2.1&&leb s.2.1 60000)
  ·rw[h2,h3]at h; cases h
  cases h4:(leb 0 s.2.2.1&&leb s.2.2.1 (s.2.2.2.1-1))
  ·rw[h2,h3,h4]at h; cases h
  cases h5:(leb 0 s.2.2.2.2.2.1&&leb s.2.2.2.2.2.1 60000)
  ·rw[h2,h3,h4,h5]at h; cases h
  cases h6:(leb (-1) s.2.2.2.2.2.2.1&&leb s.2.2.2.2.2.2.1 (s.2.2.2.1-1))
  ·rw[h2,h3,h4,h5,h6]at h; cases h
  cases h7:(leb 0 s.2.2.2.2.2.2.2&&leb s.2.2.2.2.2.2.2 s.2.2.2.2.1)
  ·rw[h2,h3,h4,h5,h6,h7]at h; cases h
  simp only[Bool.and_eq_true,zjB]at h2 h3 h4 h5 h6 h7;rw[yzQ];refine⟨by show(9:Nat)≤12; omega,?_⟩;have hw:IntKind.i64.wrap (s.2.2.2.2.2.2.1+1)=s.2.2.2.2.2.2.1+1:=wr (by omega) (by omega);simp only[Bool.not_true,cond_false,hw,List.mem_cons,List.not_mem_nil,or_false]
  rintro x (rfl | rfl | rfl | rfl | rfl | rfl | rfl | rfl | rfl)<;>omega
theorem yrD {g:dG} (id i:Int) (hg:n_spec_GeoOk g=true):memOk (yx id g i)=true∧((yx id g i).1.length:Int)=6+g.2∧(yx id g i).2=([],false,[]):=by
 have hge:=yg.1 hg
 have hm:yaD (6+g.2)=(List.replicate (6+g.2).toNat [],[],false,[]):=by
  unfold yaD;rw[zku (show 1≤6+g.2 by omega),zku (show 6+g.2≤20 by omega)]; rfl
 have key: ∀(l:List Nat) (m:dM),m.1.all yaa=true∧m.2=([],false,[])→(l.foldl yrC m).1.all yaa=true∧(l.foldl yrC m).2=([],false,[]):=by
  intro l
  induction l with
  | nil=>intro m h; exact h
  | cons x t ih =>
   intro m h;refine ih _ ⟨?_,h.2⟩;rw[List.all_eq_true];intro y hy;rcases List.mem_or_eq_of_mem_set hy with h1 | rfl
   ·exact List.all_eq_true.1 h.1 y h1
   ·rfl
 have ht:(yjF id g i).1.all yaa=true∧(yjF id g i).2=([],false,[]):=by
  unfold yjF;rw[hm];refine⟨?_,rfl⟩;rw[List.all_eq_true];intro y hy;rcases List.mem_or_eq_of_mem_set hy with h1 | rfl
  ·rw[List.eq_of_mem_replicate h1]; rfl
  ·exact yMT _
 have hl:((yx id g i).1.length:Int)=6+g.2:=by
  unfold yx;rw[yPX];unfold yjF;rw[hm];show(((List.replicate (6+g.2).toNat ([]:List Int)).set 0 _).length:Int)=_;rw[List.length_set,List.length_replicate]; omega
 obtain⟨h1,h2⟩:=key (List.range g.2.toNat) _ ht;refine⟨yui h1 ?_ ?_ ?_ ?_ ?_,hl,h2⟩
 ·show List.all ((yx id g i).2).1 _=true
  rw[show(yx id g i).2=([],false,[])from h2]; rfl
 ·show yrs _ ((yx id g i).2).2.2=true
  rw[show(yx id g i).2=([],false,[])from h2,yuX];exact⟨fun x hx=>absurd hx List.not_mem_nil,List.Pairwise.nil⟩
 ·show 1≤(yx id g i).1.length; omega
 ·show(yx id g i).1.length≤20; omega
 ·show((yx id g i).2).1.length≤60
  rw[show(yx id g i).2=([],false,[])from h2]; exact Nat.zero_le _
theorem yFj {id:Int} {g:dG} (hg:n_spec_GeoOk g=true) (h1:1≤id) (h2:id≤60000):yeg id g=(id,g,(List.range g.1.toNat).map (fun(i:Nat)=>yx id g i),-1,0,0,0,0,[],-1,false,false):=by
 unfold yeg;rw[hg,zku h1,zku h2]
 have: ∀(n:Nat),(List.range n).foldl (fun a (i:Nat)=>yCH a (yx id g i)) (yCM id g)=(id,g,(List.range n).map (fun(i:Nat)=>yx id g i),-1,0,0,0,0,[],-1,false,false):=by
  intro n
  induction n with
  | zero=>rfl
  | succ n ih=>rw[List.range_succ,List.foldl_append,ih,List.map_append]; rfl
 exact this _
theorem y4S {id:Int} {g:dG} (hg:n_spec_GeoOk g=true) (h1:1≤id) (h2:id≤60000):Wk 0 (yeg id g):=by
 have hge:=yg.1 hg;rw[yFj hg h1 h2];have hl:((List.range g.1.toNat).map (fun(i:Nat)=>yx id g i)).length=g.1.toNat:=by rw[List.length_map,List.length_range]
 refine⟨⟨hg,⟨h1,h2⟩,?_,⟨Int.le_refl _,?_⟩,⟨Int.le_refl _,?_⟩,fun _=>rfl,?_,?_,?_,?_,?_⟩,⟨⟨fun i hi=> ?_,?_⟩,?_,?_⟩,⟨rfl,rfl⟩,rfl,Int.le_refl _⟩
 ·rfl
 ·show(-1:Int)≤g.1-1; omega
 ·show(0:Int)≤g.2; omega
 ·show(0:Int)≤0∧(0:Int)≤60000; omega
 ·show(0:Int)≤0∧(0:Int)≤60000; omega
 ·show(0:Int)≤0+4; omega
 ·show(0:Int)≤0; omega
 ·show(0:Int)≤60000; omega
 ·have hi':i<((List.range g.1.toNat).map (fun(i:Nat)=>yx id g i)).length:=hi
  show yAb (-1) false g.2 i (nth ((List.range g.1.toNat).map (fun(i:Nat)=>yx id g i)) i noMem);rw[zkk,zkb hi',List.getElem_map,List.getElem_range];obtain⟨k1,k2,k3⟩:=yrD id i hg;refine⟨k1,k2,fun e=> ?_⟩;rw[show(yx id g i).2=([],false,[])from k3]at e
  cases e
 ·show(((List.range g.1.toNat).map (fun(i:Nat)=>yx id g i)).length:Int)=g.1
  rw[hl]; omega
 ·show(-1:Int)≤ -1; omega
 ·show(-1:Int)≤1000; omega
def yk (a:dA):dA:=bif leb 4 (IntKind.i64.wrap (a.2.2.2.2.2.1-a.2.2.2.2.2.2.1))then checkA a else a
def yv (a:dA) (s:Int) (d:List Int):Int×dA :=
 bif downA (yk a)then(6,yk a)else
 bif downA (yj (yk a) ((yk a).2.2.2.2.2.1,s,d))then(6,yj (yk a) ((yk a).2.2.2.2.2.1,s,d))else
 (bif downA (yp (yu (yj (yk a) ((yk a).2.2.2.2.2.1,s,d))) s d)then 6 else 0,yp (yu (yj (yk a) ((yk a).2.2.2.2.2.1,s,d))) s d)
theorem yZV (a:dA):(checkA a).2.1=a.2.1:=by
 unfold checkA
 cases downA (yb a)
 ·exact(yO (yju (yB (yb a)))).trans (show(yb a).2.1=a.2.1 from yO (yag a))
 ·exact yO (yag a)
theorem yXH (a:dA):(yk a).2.1=a.2.1:=by
 unfold yk
 cases leb 4 (IntKind.i64.wrap (a.2.2.2.2.2.1-a.2.2.2.2.2.2.1))
 ·rfl
 ·exact yZV a
theorem y5E {k m n:Int} {a:dA} (h:Wk k a) (hm:inb m a.2.2.1.length=true):Wk k (setMem a m (spoil (nth a.2.2.1 m noMem) n)) :=
 y4T h hm (fun g=>⟨yTp n g.1,by rw[(yqG _ _).1]; exact g.2.1,by rw[(yqG _ _).2]; exact g.2.2⟩)
theorem y4q {α:Type} {c:Bool} {x y:α} (h:c=true):(bif !c then x else y)=y:=by subst h; rfl
theorem y1Z {α:Type} {c:Bool} {x y:α} (h:c=false):(bif !c then x else y)=x:=by subst h; rfl
theorem ycJ {a:dA} (h:Keep a) {i:Int} (h0:0≤i) (h1:i<a.2.1.1):memOk (dsk a i)=true∧((dsk a i).1.length:Int)=6+a.2.1.2∧((dsk a i).2.2.1=true→i=a.2.2.2.1∨a.2.2.2.2.2.2.2.2.2.2.2=true):=by
 have:=h.1.1 i.toNat (by have:=h.1.2; omega);unfold yAb at this;rw[Int.toNat_of_nonneg h0]at this;exact this
theorem yjs {s:Int} (h0:0≤s) (h1:s≤1000):dataAt s=s+6:=by
 unfold dataAt;rw[zku h0,zku (show s≤1099511627776 by omega)]; rfl
def hasW (a:dA) (s i:Int):Bool:=yM a.2.2.2.1 a.2.2.2.2.1 i s (dsk a i)&& !(yaC (dsk a i) (s+6))
def View (V:Int→Int→Int) (a:dA):Prop:= ∀i s,0≤i→i<a.2.1.1→0≤s→s<a.2.1.2→hasW a s i=true→curS (dsk a i) (s+6)= [V s i]
def vlist (V:Int→Int→Int) (N:Int) (s:Int):List Int:=(List.range N.toNat).map (fun(i:Nat)=>V s i)
structure EvV (g:dG) (V:Int→Int→Int):Prop where
 ev: ∀s,0≤s→s<g.2→xorOf (vlist V g.1 s)=0
 ew: ∀s i,0≤s→s<g.2→0≤i→i<g.1→isW (V s i)=true
theorem yve {V:Int→Int→Int} {a:dA} {i s:Int} (hg:n_spec_GeoOk a.2.1=true) (hk:Keep a) (hv:View V a) (i0:0≤i) (i1:i<a.2.1.1) (s0:0≤s) (s1:s<a.2.1.2):yn a i s=hasW a s i∧(hasW a s i=true→yjV a i s=V s i):=by
 have hge:=yg.1 hg;have hin:inb i a.2.2.1.length=true:=zjA.2 (by have:=hk.1.2; omega);obtain⟨d1,d2,d3⟩:=ycJ hk i0 i1
 have key:yM a.2.2.2.1 a.2.2.2.2.1 i s (dsk a i)=true→ycY a i s=bif yaC (dsk a i) (s+6)then([],false)else(curS (dsk a i) (s+6),true):=fun hl=>by
  simp only[yM,Bool.and_eq_true,Bool.not_eq_true']at hl;unfold ycY;rw[yjs s0 (by omega)];exact yTo d1 hl.1 (zjA.2 (show 0≤s+6∧s+6<((dsk a i).1.length:Int)by omega))
 have hw:yn a i s=hasW a s i:=by
  unfold yn;rw[y3C hin]
  cases hl:yM a.2.2.2.1 a.2.2.2.2.1 i s (dsk a i)
  ·unfold hasW; rw[hl]; rfl
  ·rw[key hl]
   cases hb:yaC (dsk a i) (s+6)
   ·have hh:hasW a s i=true:=by unfold hasW; rw[hl,hb]; rfl
    rw[hh,cond_false,hv i s i0 i1 s0 s1 hh]; rfl
   ·unfold hasW; rw[hl,hb]; rfl
 refine⟨hw,fun hh=> ?_⟩;unfold yjV;rw[hw,hh,cond_true];have hh':=hh;unfold hasW at hh';rw[Bool.and_eq_true,Bool.not_eq_true']at hh';rw[key hh'.1,hh'.2,cond_false,hv i s i0 i1 s0 s1 hh]; rfl
theorem y5H: ∀(l:List Int) (k:Nat) (x:Int),k<l.length→yfj (l.set k x)=yfj l ^^^ bv (nth l k 0) ^^^ bv x:=by
 intro l k x hk
 have e1:l=l.take k++nth l k 0::l.drop (k+1):=by
  rw[zkk,zkb hk,← List.drop_eq_getElem_cons hk,List.take_append_drop]
 have e2:l.set k x=l.take k++x::l.drop (k+1):=by
  rw[List.set_eq_take_append_cons_drop,if_pos hk]
 have fo: ∀(l:List Int) (v:BitVec 64),l.foldl (fun v x=>v ^^^ bv x) v=v ^^^ yfj l:=by
  intro l
  induction l with
  | nil=>intro v; show v=v ^^^ 0#64; rw[BitVec.xor_zero]
  | cons y t ih =>
   intro v;unfold yfj;rw[List.foldl_cons,List.foldl_cons,ih,ih (0#64 ^^^ bv y),BitVec.zero_xor,BitVec.xor_assoc]
 have cut: ∀(A:List Int) (y:Int) (B:List Int),yfj (A++y::B)=yfj A ^^^ bv y ^^^ yfj B:=fun A y B=>by
  show(A++y::B).foldl _ _=_;rw[List.foldl_append,List.foldl_cons,fo]; rfl
 rw[e2,cut]
 conv=>rhs; rw[e1]
 rw[cut];have hn:nth (List.take k l++nth l (↑k) 0::List.drop (k+1) l) (k:Int) 0=nth l k 0:=by rw[← e1]
 rw[hn,BitVec.xor_assoc (yfj (l.take k)),BitVec.xor_assoc (yfj (l.take k)),BitVec.xor_comm (bv (nth l k 0)),BitVec.xor_assoc (yfj (l.take k)),y0s,BitVec.xor_comm (bv x),BitVec.xor_assoc]
theorem y4k {l:List Int} (h:xorOf l=0):yfj l=0#64:=by
 rw[yqV]at h;have:=congrArg bv h;rw[yx5]at this;rw[this]; rfl
theorem y0i {p:Nat→Bool}: ∀{n:Nat},yeL p n=false→ ∀j,j<n→p j=true∨(j:Int)=yq p n
 | 0,_,j,hj=>absurd hj (Nat.not_lt_zero _)
 | n+1,h,j,hj=>by
  have h':yeL p n=false:=by
   unfold yeL at h ⊢;rw[List.range_succ,List.any_append,Bool.or_eq_false_iff]at h;exact h.1
  have hl:(!p n&&leb 0 (yq p n))=false:=by
   unfold yeL at h;rw[List.range_succ,List.any_append,Bool.or_eq_false_iff]at h;simpa using h.2
  unfold yq;rcases Nat.lt_succ_iff_lt_or_eq.1 hj with hj | rfl
  ·rcases y0i h' j hj with h1 | h1
   ·exact .inl h1
   ·cases hp:p n
    ·rw[hp,← h1]at hl
     rw[zku (show(0:Int)≤j by omega)]at hl; cases hl
    ·exact .inr h1
  ·cases hp:p j
   ·exact .inr rfl
   ·exact .inl rfl
theorem y0h {p:Nat→Bool}: ∀{n:Nat},leb 0 (yq p n)=false→ ∀j,j<n→p j=true
 | 0,_,j,hj=>absurd hj (Nat.not_lt_zero _)
 | n+1,h,j,hj=>by
  unfold yq at h
  cases hp:p n
  ·rw[hp,cond_false,zku (show(0:Int)≤n by omega)]at h; cases h
  ·rw[hp,cond_true]at h
   rcases Nat.lt_succ_iff_lt_or_eq.1 hj with hj | rfl
   ·exact y0h h j hj
   ·exact hp
theorem yNa (V:Int→Int→Int) (N s:Int):(vlist V N s).length=N.toNat:=by unfold vlist; rw[List.length_map,List.length_range]
theorem y4R (V:Int→Int→Int) (N s:Int) {j:Nat} (h:j<(vlist V N s).length):(vlist V N s)[j]=V s j:=by simp[vlist]
theorem y22 (V:Int→Int→Int) {N s i:Int} (h0:0≤i) (h1:i<N):nth (vlist V N s) i 0=V s i:=by
 unfold vlist nth;rw[zkb (by rw[List.length_map,List.length_range]; omega),List.getElem_map,List.getElem_range,Int.toNat_of_nonneg h0]
theorem yXn {V:Int→Int→Int} {a:dA} {s:Int} (hg:n_spec_GeoOk a.2.1=true) (hk:Keep a) (he:EvV a.2.1 V) (hv:View V a) (s0:0≤s) (s1:s<a.2.1.2) :
  yA a s=bif yeL (fun(i:Nat)=>hasW a s i) a.2.1.1.toNat then([],false)else(vlist V a.2.1.1 s,true):=by
 have hw: ∀i:Nat,i<a.2.1.1.toNat→yn a i s=hasW a s i:=fun i hi=>(yve hg hk hv (by omega) (by omega) s0 s1).1
 have hm: ∀n,n≤a.2.1.1.toNat→yq (fun(i:Nat)=>yn a i s) n=yq (fun(i:Nat)=>hasW a s i) n:=by
  intro n
  induction n with
  | zero=>intro _; rfl
  | succ n ih=>intro hn; unfold yq; rw[hw n (by omega),ih (by omega)]
 have h2:yeL (fun(i:Nat)=>yn a i s) a.2.1.1.toNat=yeL (fun(i:Nat)=>hasW a s i) a.2.1.1.toNat:=by
  unfold yeL;rw[Bool.eq_iff_iff,List.any_eq_true,List.any_eq_true];constructor
  ·rintro⟨i,hi,h⟩
   have hi':=List.mem_range.1 hi;exact⟨i,hi,by dsimp only at h ⊢; rw[hw i hi',hm i (by omega)]at h; exact h⟩
  ·rintro⟨i,hi,h⟩
   have hi':=List.mem_range.1 hi;exact⟨i,hi,by dsimp only at h ⊢; rw[hw i hi',hm i (by omega)]; exact h⟩
 unfold yA;rw[h2,hm _ (Nat.le_refl _)]
 cases hc:yeL (fun(i:Nat)=>hasW a s i) a.2.1.1.toNat
 ·simp only[cond_false]
  cases hn:leb 0 (yq (fun(i:Nat)=>hasW a s i) a.2.1.1.toNat)
  ·simp only[cond_false]
   congr 1
   refine List.map_congr_left fun i hi=> ?_
   have hi':=List.mem_range.1 hi;exact(yve hg hk hv (by omega) (by omega) s0 s1).2 (y0h hn i hi')
  ·simp only[cond_true]
   congr 1
   rcases yMe (fun(i:Nat)=>hasW a s i) a.2.1.1.toNat with h3 | ⟨k0,k1,k2⟩
   ·rw[h3]at hn; cases hn
   ·have hu:=y0i hc
    generalize yq (fun(i:Nat)=>hasW a s i) a.2.1.1.toNat=k at *;obtain⟨k,rfl⟩: ∃m:Nat,k=m:=⟨k.toNat,by omega⟩;rw[Int.toNat_natCast]at k2 ⊢;have hkl:k<(vlist V a.2.1.1 s).length:=by rw[yNa]; omega
    have e:yK a s a.2.1.1.toNat=(vlist V a.2.1.1 s).set k 0:=by
     refine List.ext_getElem (by rw[yfi,List.length_set,yNa]) fun j h3 h4=> ?_
     rw[yfi]at h3;rw[List.getElem_set];have e1:(yK a s a.2.1.1.toNat)[j]'(by rw[yfi]; exact h3)=yjV a j s:=by unfold yK; simp
     have e2:(vlist V a.2.1.1 s)[j]'(by rw[yNa]; exact h3)=V s j:=by unfold vlist; simp
     rw[e1]
     by_cases hj:k=j
     ·subst hj
      rw[if_pos rfl];unfold yjV;rw[hw k (by omega),k2]; rfl
     ·rw[if_neg hj,e2]
      rcases hu j h3 with h5 | h5
      ·exact(yve hg hk hv (by omega) (by omega) s0 s1).2 h5
      ·exact absurd h5 (by omega)
    have hx:xorOf (yK a s a.2.1.1.toNat)=V s k:=by
     rw[e,yqV,y5H _ _ _ hkl,y4k (he.ev s s0 s1),BitVec.zero_xor,show bv 0=0#64 by decide,BitVec.xor_zero,y22 V (by omega) (by omega)];have:=yu7.1 (he.ew s k s0 s1 (by omega) (by omega));exact y5x (by omega) (by omega)
    rw[hx,e,List.set_set];refine List.ext_getElem (by rw[List.length_set]) fun j h3 h4=> ?_
    rw[List.getElem_set]
    by_cases hj:k=j
    ·subst hj
     rw[if_pos rfl];exact(y4R _ _ _ h4).symm
    ·rw[if_neg hj]
 ·rfl
end
end
end Go.Tf
