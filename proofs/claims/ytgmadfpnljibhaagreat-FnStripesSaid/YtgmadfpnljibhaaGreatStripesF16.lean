/- Functions of the program, and what they come to. -/
import Derived.Test.YtgmadfpnljibhaaGreatStripesF15
namespace Go.Tf
noncomputable section
open Go.Proofs
set_option synthInstance.maxHeartbeats 400000
set_option synthInstance.maxSize 10000
set_option linter.unusedVariables false
set_option linter.unusedSimpArgs false
set_option maxRecDepth 100000
section
def yo0:Code:=(Tryz.f45.body).getD .skip
def yun:Env:=zki TT [(100,yBE),(122,yqG),(126,yJ),(131,yvh),(132,yBD),(133,ylc)] []
theorem ySq:FrOk Tryz.prog ⟨yun,103,fun _=>none⟩ yo0:=zkp yb yd ⟨yUm,yy1,yT,yGz,yUl,ysR,trivial⟩
def yFm:Nat→Option Seg:=fun _=>none
def yc6:Shape:=⟨[(1,false,[.ptr 0 0]),(41,false,[.br tM]),(42,false,[.int .i64]),(43,false,[.int .i64])],[(0,[.int .i64,.int .i64,.int .i64,.br tM,.int .i64,.int .i64,.int .i64,.int .i64,.int .i64,.br tW,.int .i64,.bool,.bool])],[]⟩
def yiD:Shape:=⟨[(1,false,[.ptr 0 0]),(41,false,[.br tM]),(42,false,[.int .i64]),(43,false,[.ci .i64 0])],[(0,[.int .i64,.int .i64,.int .i64,.br tM,.int .i64,.int .i64,.int .i64,.int .i64,.int .i64,.br tW,.int .i64,.bool,.bool])],[]⟩
def yio:Shape:=⟨[(1,false,[.ptr 0 0])],[(0,[.int .i64,.int .i64,.int .i64,.br tM,.int .i64,.int .i64,.int .i64,.int .i64,.int .i64,.br tW,.int .i64,.bool,.bool])],[]⟩
def yi1:Shape:=⟨[(2,false,[.bool])],[],[]⟩
abbrev ytg (v0:List dM) (v1 v2:Int) (v3:dA):(yc6).X:=((((),()),(v0,()),(v1,()),(v2,()),()),((v3.1,v3.2.1.1,v3.2.1.2,v3.2.2.1,v3.2.2.2.1,v3.2.2.2.2.1,v3.2.2.2.2.2.1,v3.2.2.2.2.2.2.1,v3.2.2.2.2.2.2.2.1,v3.2.2.2.2.2.2.2.2.1,v3.2.2.2.2.2.2.2.2.2.1,v3.2.2.2.2.2.2.2.2.2.2.1,v3.2.2.2.2.2.2.2.2.2.2.2,()),()),())
abbrev yPK (v0:List dM) (v1:Int) (v2:dA):(yiD).X:=((((),()),(v0,()),(v1,()),((),()),()),((v2.1,v2.2.1.1,v2.2.1.2,v2.2.2.1,v2.2.2.2.1,v2.2.2.2.2.1,v2.2.2.2.2.2.1,v2.2.2.2.2.2.2.1,v2.2.2.2.2.2.2.2.1,v2.2.2.2.2.2.2.2.2.1,v2.2.2.2.2.2.2.2.2.2.1,v2.2.2.2.2.2.2.2.2.2.2.1,v2.2.2.2.2.2.2.2.2.2.2.2,()),()),())
abbrev yPC (v0:dA):(yio).X:=((((),()),()),((v0.1,v0.2.1.1,v0.2.1.2,v0.2.2.1,v0.2.2.2.1,v0.2.2.2.2.1,v0.2.2.2.2.2.1,v0.2.2.2.2.2.2.1,v0.2.2.2.2.2.2.2.1,v0.2.2.2.2.2.2.2.2.1,v0.2.2.2.2.2.2.2.2.2.1,v0.2.2.2.2.2.2.2.2.2.2.1,v0.2.2.2.2.2.2.2.2.2.2.2,()),()),())
abbrev yPY (v0:Bool):(yi1).X:=(((v0,()),()),(),())
def ytE (v0:List dM) (v1 v2 v3 v4 v5:Int) (v6:List dM) (v7 v8 v9 v10 v11:Int) (v12:List dW) (v13:Int) (v14 v15:Bool):Option ((yc6).X ⊕ ((yio).X ⊕ (yi1).X)) :=
 bif (ltb v2 v1) then
 bif (inb v2 v0.length) then
 let r7:=ybf ((nth v0 v2 ([],[],false,[])).1,((nth v0 v2 ([],[],false,[])).2).1,(((nth v0 v2 ([],[],false,[])).2).2))
 bif (!(!r7)) then
 let r8:=yqL (v4,v5)
 bif (!((((nth v0 v2 ([],[],false,[])).1).length:Int) !=r8)) then
 bif (((nth v0 v2 ([],[],false,[])).2).2).1 then
 bif (v7 !=v2) then
 bif (!v15) then
 some (.inr (.inr (((false,()),()),(),())))
 else
 some (.inl ((((),()),(v0,()),(v1,()),((IntKind.i64.wrap (v2+1)),()),()),((v3,v4,v5,v6,v7,v8,v9,v10,v11,v12,v13,v14,v15,()),()),()))
 else
 some (.inl ((((),()),(v0,()),(v1,()),((IntKind.i64.wrap (v2+1)),()),()),((v3,v4,v5,v6,v7,v8,v9,v10,v11,v12,v13,v14,v15,()),()),()))
 else
 some (.inl ((((),()),(v0,()),(v1,()),((IntKind.i64.wrap (v2+1)),()),()),((v3,v4,v5,v6,v7,v8,v9,v10,v11,v12,v13,v14,v15,()),()),()))
 else
 some (.inr (.inr (((false,()),()),(),())))
 else
 some (.inr (.inr (((false,()),()),(),())))
 else none
 else
 some (.inr (.inl ((((),()),()),((v3,v4,v5,v6,v7,v8,v9,v10,v11,v12,v13,v14,v15,()),()),())))
def ydE (x:(yc6).X):=ytE x.1.2.1.1 x.1.2.2.1.1 x.1.2.2.2.1.1 x.2.1.1.1 x.2.1.1.2.1 x.2.1.1.2.2.1 x.2.1.1.2.2.2.1 x.2.1.1.2.2.2.2.1 x.2.1.1.2.2.2.2.2.1 x.2.1.1.2.2.2.2.2.2.1 x.2.1.1.2.2.2.2.2.2.2.1 x.2.1.1.2.2.2.2.2.2.2.2.1 x.2.1.1.2.2.2.2.2.2.2.2.2.1 x.2.1.1.2.2.2.2.2.2.2.2.2.2.1 x.2.1.1.2.2.2.2.2.2.2.2.2.2.2.1 x.2.1.1.2.2.2.2.2.2.2.2.2.2.2.2.1
def yBR (x:(yiD).X):(yc6).X:=((((),()),(x.1.2.1.1,()),(x.1.2.2.1.1,()),(0,()),()),((x.2.1.1.1,x.2.1.1.2.1,x.2.1.1.2.2.1,x.2.1.1.2.2.2.1,x.2.1.1.2.2.2.2.1,x.2.1.1.2.2.2.2.2.1,x.2.1.1.2.2.2.2.2.2.1,x.2.1.1.2.2.2.2.2.2.2.1,x.2.1.1.2.2.2.2.2.2.2.2.1,x.2.1.1.2.2.2.2.2.2.2.2.2.1,x.2.1.1.2.2.2.2.2.2.2.2.2.2.1,x.2.1.1.2.2.2.2.2.2.2.2.2.2.2.1,x.2.1.1.2.2.2.2.2.2.2.2.2.2.2.2.1,()),()),())
def yDU:Code:=(zdI yo0 64 116).getD .skip
theorem yRK:zdI yo0 64 29=some (.block 0 (.loop yDU)):=by kernel_rfl
theorem yUC (x:(yc6).X):zg7 ⟨yun,103,yFm⟩ 0 yDU 116 yc6 yio yi1 x=ydE x:=by kernel_rfl
def yB7 (x:(yiD).X):Nat:=18446744073709551616
def yux (x:(yiD).X):Option ((yio).X ⊕ (yi1).X):=zr ydE (yB7 x) (yBR x)
def yCK:Seg:=⟨yiD,yio,yi1,yux⟩
def yFn:Nat→Option Seg:=fun q=>bif Nat.beq q 29 then some yCK else yFm q
theorem ySr:FrOk Tryz.prog ⟨yun,103,yFn⟩ yo0:=(ySq).loop (sg:=yCK) yc6 yBR (by decide) yRK ydE yB7 (by decide) (fun _=>rfl) (fun x r _ h=>h) yUC
abbrev ykB:List Par:= [.rd tA]
abbrev yuO:List OT:= [⟨false,tB,.fz⟩]
def yqS (a0:dA):Option (ResD yuO×MutD ykB) :=
 let r1:=ye3 a0.2.1
 bif (!(!r1)) then
 bif (!((a0.2.2.1.length:Int) !=a0.2.1.1)) then
 let r2:=yf a0.1 1 60000
 bif (!(!r2)) then
 let r3:=yfJ a0.2.1 a0.2.2.2.1 a0.2.2.2.2.1
 bif (!(!r3)) then
 bnd (yqQ a0) fun r4 =>
 bif (!r4.1.1) then
 some ((false,()),())
 else
 zjw (yux ((((),()),(a0.2.2.1,()),((a0.2.2.1.length:Int),()),((),()),()),((a0.1,a0.2.1.1,a0.2.1.2,a0.2.2.1,a0.2.2.2.1,a0.2.2.2.2.1,a0.2.2.2.2.2.1,a0.2.2.2.2.2.2.1,a0.2.2.2.2.2.2.2.1,a0.2.2.2.2.2.2.2.2.1,a0.2.2.2.2.2.2.2.2.2.1,a0.2.2.2.2.2.2.2.2.2.2.1,a0.2.2.2.2.2.2.2.2.2.2.2,()),()),())) (fun y8 =>
 let r10:=yf y8.2.1.1.2.2.2.2.2.2.1 0 60000
 bif r10 then
 let r11:=yf y8.2.1.1.2.2.2.2.2.2.2.1 0 60000
 bif r11 then
 let r12:=yf y8.2.1.1.2.2.2.2.2.2.2.2.1 0 60000
 bif r12 then
 let r13:=yf (IntKind.i64.wrap (y8.2.1.1.2.2.2.2.2.2.1 - y8.2.1.1.2.2.2.2.2.2.2.1)) 0 4
 bif r13 then
 let r14:=yf y8.2.1.1.2.2.2.2.2.2.2.2.2.2.1 (-1) 1000
 some ((r14,()),())
 else
 some ((false,()),())
 else
 some ((false,()),())
 else
 some ((false,()),())
 else
 some ((false,()),())) (fun y8 =>
 some ((y8.1.1.1,()),()))
 else
 some ((false,()),())
 else
 some ((false,()),())
 else
 some ((false,()),())
 else
 some ((false,()),())
theorem yZo (x:InD ykB):zjH ⟨yun,103,yFn⟩ Tryz.f45.results.toList yo0 ykB yuO x=yqS x.1:=by kernel_rfl
theorem yWk:ConOk Tryz.prog 45 ⟨ykB,yuO,fun x=>yqS x.1⟩:=zkh (ySr) Tryz.func45 (by kernel_rfl) (by kernel_rfl) Tryz.ntmps45.symm (by decide) (fun x r h=>(yZo x).trans h)
theorem y2Z {S T G F z TS le:Bool} (h1:T=true→TS=true→S=true) (h2:S=true→T=true→z=(TS&&le)) :
  (bif S then bif T then bif G then bif z then some ((F,()),()) else some ((false,()),()) else some ((false,()),()) else some ((false,()),()) else some ((false,()),()))=some (((T&&(TS&&(le&&(G&&F)))),()),()):=by
 cases S
 ·cases T
  ·rfl
  ·cases TS
   ·rfl
   ·exact absurd (h1 rfl rfl) Bool.false_ne_true
 ·cases T
  ·cases G<;>rfl
  ·rw [h2 rfl rfl]
   cases TS<;>cases le<;>cases G<;>rfl
def yds (a0:dA):Bool:=yw a0
theorem yYv (a0:dA) (hk:zi9 ykB (a0,())):yqS a0=(fun n=>some ((n,()),())) (yds a0):=by
 have hb:a0.2.2.1.length * 80≤2 ^ 47:=hk.1.2.2.1.1
 unfold yqS yds yw
 simp only [yS4,yai,ycd]
 cases hg:yc a0.2.1
 ·rfl
 have hg2:=yi.1 hg
 have h1:yux (yPK a0.2.2.1 a0.2.2.1.length a0)=some (bif (List.range a0.2.2.1.length).any (yhw a0) then .inr (yPY false) else .inl (yPC a0)) :=
  zf4 (step:=ydE) (fun i=>ytg a0.2.2.1 a0.2.2.1.length i a0) a0.2.2.1.length (yhw a0) _ _ (fun i hi=>by
   simp only [ydE,ytg,ytE,zjI (show (i:Int) < a0.2.2.1.length by omega),cond_true,wr (show -9223372036854775808≤(i:Int)+1 by omega) (by omega),Int.natCast_add,Int.natCast_one,Int.toNat_natCast,zkO hi,zkV,ybf,yhw,yqL,wr (show -9223372036854775808≤6+a0.2.1.2 by omega) (by omega),noMem]
   rw [show (a0.2.2.2.1 !=(i:Int))=((i:Int) !=a0.2.2.2.1) from bne_comm]
   cases yl (nth a0.2.2.1 i ([],[],false,[]))<;>cases (((nth a0.2.2.1 i ([],[],false,[])).1.length:Int) !=6+a0.2.1.2)<;>cases (nth a0.2.2.1 i ([],[],false,[])).2.2.1<;>cases ((i:Int) !=a0.2.2.2.1)<;>cases a0.2.2.2.2.2.2.2.2.2.2.2<;>rfl) (by simp only [ydE,ytg,ytE,zkm (Int.le_refl _),cond_false]) _ (by show _ < 18446744073709551616; omega)
 rw [yUy a0 hg,h1]
 simp only [zky,ylo,yfJ,yai,ycd,wr (show -9223372036854775808≤a0.2.1.1 - 1 by omega) (by omega),ync]
 have hw:(leb 0 a0.2.2.2.2.2.1&&leb a0.2.2.2.2.2.1 60000)=true→(leb 0 a0.2.2.2.2.2.2.1&&leb a0.2.2.2.2.2.2.1 60000)=true→IntKind.i64.wrap (a0.2.2.2.2.2.1 - a0.2.2.2.2.2.2.1)=a0.2.2.2.2.2.1 - a0.2.2.2.2.2.2.1:=fun h h'=>by
  rw [Bool.and_eq_true,zjQ,zjQ]at h h'
  exact wr (by omega) (by omega)
 simp only [bne,Bool.not_not,cond_true,Bool.true_and]
 have h2:(leb 0 a0.2.2.2.2.2.1&&leb a0.2.2.2.2.2.1 60000)=true→(leb 0 a0.2.2.2.2.2.2.1&&leb a0.2.2.2.2.2.2.1 60000)=true→(leb 0 (IntKind.i64.wrap (a0.2.2.2.2.2.1 - a0.2.2.2.2.2.2.1))&&leb (IntKind.i64.wrap (a0.2.2.2.2.2.1 - a0.2.2.2.2.2.2.1)) 4)=((leb a0.2.2.2.2.2.2.1 a0.2.2.2.2.2.1&&leb a0.2.2.2.2.2.1 60000)&&leb a0.2.2.2.2.2.1 (a0.2.2.2.2.2.2.1+4)):=fun h h'=>by
  rw [hw h h',Bool.eq_iff_iff]
  simp only [Bool.and_eq_true,zjQ]at h h' ⊢
  omega
 have h3:(leb 0 a0.2.2.2.2.2.2.1&&leb a0.2.2.2.2.2.2.1 60000)=true→(leb a0.2.2.2.2.2.2.1 a0.2.2.2.2.2.1&&leb a0.2.2.2.2.2.1 60000)=true→(leb 0 a0.2.2.2.2.2.1&&leb a0.2.2.2.2.2.1 60000)=true:=fun h h'=>by
  simp only [Bool.and_eq_true,zjQ]at h h' ⊢
  omega
 cases ((a0.2.2.1.length:Int)==a0.2.1.1)
 ·cases (leb 1 a0.1&&leb a0.1 60000)<;>cases (List.range a0.2.2.1.length).any (yhw a0)<;>rfl
 cases (leb 1 a0.1&&leb a0.1 60000)
 ·rfl
 cases (leb (-1) a0.2.2.2.1&&leb a0.2.2.2.1 (a0.2.1.1 - 1))
 ·cases (List.range a0.2.2.1.length).any (yhw a0)<;>cases yaI a0.2.1 a0.2.2.2.2.2.2.2.2.1<;>rfl
 cases (leb 0 a0.2.2.2.2.1&&leb a0.2.2.2.2.1 a0.2.1.2)
 ·cases (List.range a0.2.2.1.length).any (yhw a0)<;>cases yaI a0.2.1 a0.2.2.2.2.2.2.2.2.1<;>rfl
 cases yaI a0.2.1 a0.2.2.2.2.2.2.2.2.1
 ·cases (List.range a0.2.2.1.length).any (yhw a0)<;>cases (a0.2.2.2.1== -1)<;>cases (a0.2.2.2.2.1==0)<;>rfl
 cases (List.range a0.2.2.1.length).any (yhw a0)
 ·cases (a0.2.2.2.1== -1)<;>cases (a0.2.2.2.2.1==0)
  case true.false=>rfl
  all_goals exact y2Z h3 h2
 ·cases (a0.2.2.2.1== -1)<;>cases (a0.2.2.2.2.1==0)<;>rfl
def yqF:Con:=⟨ykB,yuO,fun x=>(fun n=>some ((n,()),())) (yds x.1)⟩
theorem yy0:ConOk Tryz.prog 45 yqF:=(yWk).mono (fun x r hk h=>(yYv x.1 hk).trans h)
end
section
def yXc:Code:=(Tryz.f52.body).getD .skip
def yXd:Env:=zki TT [] []
theorem yZM:FrOk Tryz.prog ⟨yXd,21,fun _=>none⟩ yXc:=zkp yb yd trivial
def y0q:Nat→Option Seg:=fun _=>none
abbrev yxF:List Par:= [.rd tYs,.rd tI]
abbrev yDQ:List OT:= [⟨false,tI,.fz⟩]
def yjE (a0:List Int) (a1:Int):Option (ResD yDQ×MutD yxF) :=
 bif (ltb a1 (a0.length:Int)) then
 bif (inb a1 a0.length) then
 some (((IntKind.i64.wrap (nth a0 a1 0)),()),())
 else none
 else
 some ((((IntKind.i64.wrap ((IntKind.i64.wrap (a1 * 31))+(IntKind.i64.wrap ((a0.length:Int) * 7)))).tmod 256),()),())
theorem y1z (x:InD yxF):zjH ⟨yXd,21,y0q⟩ Tryz.f52.results.toList yXc yxF yDQ x=yjE x.1 x.2.1:=by kernel_rfl
theorem y0E:ConOk Tryz.prog 52 ⟨yxF,yDQ,fun x=>yjE x.1 x.2.1⟩:=zkh (yZM) Tryz.func52 (by kernel_rfl) (by kernel_rfl) Tryz.ntmps52.symm (by decide) (fun x r h=>(y1z x).trans h)
def yNV:Con:=⟨yxF,yDQ,fun x=>yjE x.1 x.2.1⟩
theorem y1l:ConOk Tryz.prog 52 yNV:=y0E
def atV (a0:List Int) (i:Int):Int:=bif ltb i (a0.length:Int) then nth a0 i 0 else (i * 31+(a0.length:Int) * 7).tmod 256
theorem y09 {a0:List Int} {i:Int} (hb:a0.length≤140737488355328) (hx: ∀ x∈a0,0≤x∧x≤255) (i0:0≤i) (i1:i≤1000):yjE a0 i=some ((atV a0 i,()),())∧0≤atV a0 i∧atV a0 i≤255:=by
 unfold yjE atV
 by_cases h:i < (a0.length:Int)
 ·have hi:inb i a0.length=true:=zjP.2 ⟨i0,h⟩
  have hr:=yub (P:=fun x:Int=>0≤x∧x≤255) (d:=0) hi hx
  rw [zjI h,hi,wr (show -9223372036854775808≤nth a0 i 0 by omega) (by omega)]
  exact ⟨rfl,hr⟩
 ·rw [zkm (by omega),cond_false,cond_false,wr (show -9223372036854775808≤i * 31 by omega) (by omega),wr (show -9223372036854775808≤(a0.length:Int) * 7 by omega) (by omega),wr (show -9223372036854775808≤i * 31+(a0.length:Int) * 7 by omega) (by omega)]
  refine ⟨rfl,Int.tmod_nonneg _ (by omega),?_⟩
  have:=Int.tmod_lt_of_pos (i * 31+(a0.length:Int) * 7) (show (0:Int) < 256 by omega)
  omega
theorem y04 {a0:List Int} (h:Ty.Ok (.sl (.int .u8)) a0): ∀ x∈a0,0≤x∧x≤255:=fun x hx=>h.2 x hx
theorem y2b {k:Int} {V:Int→Int→Int} {a:dA} {s:Int} {d:List Int} (h:Ix k V a) (hk:k < 59990) (hs:yI a.2.1 s=true) (hl:(d.length:Int)=a.2.1.1 - 1) (hd:d.all isW=true):yy a s d=0:=by
 have h1:=yN.1 hs
 have hg:=yi.1 h1.1
 have:=h.xg
 have:=h.xs
 unfold yy
 simp only [ye7,yh9,ycd,yCn h,hd,show a.2.2.2.2.2.2.2.2.2.2.1=false from h.xu,h.xb,wr (show -9223372036854775808≤a.2.1.1 - 1 by omega) (by omega),wr (show -9223372036854775808≤a.2.1.2 - 1 by omega) (by omega),hl,bne_self_eq_false,zk0 h1.2.1,zk0 h1.2.2,zkZ (show a.2.2.2.2.2.1 < 60000 by omega),zkZ (show a.2.2.2.2.2.2.2.1 < 59990 by omega)]
 rfl
theorem y2r {N p i:Int} (h:3≤N∧N≤5) (hp:0≤p∧p≤N - 1) (hi:0≤i∧i≤N - 2):(p+1+i).tmod N≠p∧((p+1+i).tmod N - p - 1+N).tmod N=i:=by
 have e1:(p+1+i).tmod N=(p+1+i) % N:=Int.tmod_eq_emod_of_nonneg (by omega)
 rw [e1]
 have h0:0≤(p+1+i) % N∧(p+1+i) % N < N:=⟨Int.emod_nonneg _ (by omega),Int.emod_lt_of_pos _ (by omega)⟩
 rw [Int.tmod_eq_emod_of_nonneg (by omega)]
 have:N=3∨N=4∨N=5:=by omega
 rcases this with rfl | rfl | rfl<;>omega
theorem y1y {g:dG} {s i:Int} (hs:yI g s=true) (h0:0≤i) (h1:i≤g.1 - 2):yao g s i=(ye g s+1+i).tmod g.1:=by
 unfold yao
 rw [hs,zk0 h0,zk0 h1]; rfl
theorem y03 {V:Int→Int→Int} {g:dG} {s:Int} {d:List Int} (hs:yI g s=true) (hl:(d.length:Int)=g.1 - 1):yh3 (yza V g s d) g s=d:=by
 have hg:=yi.1 (yN.1 hs).1
 have hp:=ygz hs
 refine List.ext_getElem (by rw [yET]; omega) fun i h1 h2=> ?_
 rw [yET]at h1
 have hdi:=yLC hs (show (0:Int)≤(i:Int) by omega) (show (i:Int)≤g.1 - 2 by omega)
 have e:(yh3 (yza V g s d) g s)[i]'(by rw [yET]; exact h1)=nth (vlist (yza V g s d) g.1 s) (yao g s i) 0:=by unfold yh3; simp
 rw [e,yRe _ hdi.1 (by omega)]
 obtain ⟨r1,r2⟩:=y2r (i:=(i:Int)) hg.1 hp (by omega)
 unfold yza ycc
 rw [beq_self_eq_true,cond_true,y1y hs (by omega) (by omega),show ((ye g s+1+(i:Int)).tmod g.1==ye g s)=false from beq_eq_false_iff_ne.2 r1,cond_false,r2,zjW,zcq h2]
theorem yXu {p:Nat→Bool} {L:Int}: ∀ n:Nat,(∀ i:Nat,i < n→(i:Int)≠L→p i=true)→ygs p n≤bif decide (L < n)&&leb 0 L then 1 else 0
 | 0,_=>Nat.zero_le _
 | n+1,h=>by
  have ih:=yXu n (fun i hi hl=>h i (by omega) hl)
  rw [ygt]
  by_cases hL:(n:Int)=L
  ·subst hL
   have e:(decide (((n:Nat):Int) < ((n:Nat):Int))&&leb 0 (n:Int))=false:=by simp
   rw [e]at ih
   rw [decide_eq_true (show (n:Int) < ((n+1:Nat):Int) by omega),zk0 (show (0:Int)≤n by omega)]
   cases p n<;>simp only [Bool.and_self,cond_true,cond_false]at * <;>omega
  ·rw [h n (by omega) hL,cond_true]
   have e:(decide (L < ((n+1:Nat):Int))&&leb 0 L)=(decide (L < (n:Int))&&leb 0 L):=by
    rw [Bool.eq_iff_iff,Bool.and_eq_true,Bool.and_eq_true,decide_eq_true_eq,decide_eq_true_eq]
    constructor<;>rintro ⟨h1,h2⟩<;>exact ⟨by omega,h2⟩
   rw [e]; exact ih
theorem yNY {p q:Nat→Bool}: ∀ n:Nat,(∀ i,i < n→p i=q i)→ygs p n=ygs q n
 | 0,_=>rfl
 | n+1,h=>by rw [ygt,ygt,h n (by omega),yNY n (fun i hi=>h i (by omega))]
theorem y1f {k:Int} {V:Int→Int→Int} {a:dA} {i s:Int} (h:Ix k V a) (i0:0≤i) (i1:i < a.2.1.1) (hl:i≠a.2.2.2.1):yH a.2.2.2.1 a.2.2.2.2.1 i s (dsk a i)=true:=by
 obtain ⟨_,_,d3⟩:=yqI h.xk i0 i1
 rw [h.xb]at d3
 unfold yH
 rw [show (i !=a.2.2.2.1)=true from bne_iff_ne.2 hl]
 cases hf:(dsk a i).2.2.1
 ·rfl
 ·rcases d3 hf with e | e
  ·exact absurd e hl
  ·cases e
theorem y1s {k:Int} {V:Int→Int→Int} {a:dA} {s:Int} {d:List Int} (h:Ix k V a) (hs:yI a.2.1 s=true) (hd:d.all isW=true) (hq:a.2.2.2.2.2.1 < 60000) (hk:k+1≤60000) (hu:downA (yu a s d).2=false):ygr (yu a s d).2 s < 2:=by
 have h1:=yN.1 hs
 unfold ygr
 rw [yuf]
 have:=yXu (p:=fun (i:Nat)=>yR (yu a s d).2 s i) (L:=a.2.2.2.1) a.2.1.1.toNat (fun i hi hl=>by
  rw [yXJ h hs hd hq hk hu (by omega) (by omega) h1.2.1 (by omega),beq_self_eq_true]
  exact y1f h (by omega) (by omega) hl)
 have h2:(bif decide (a.2.2.2.1 < ((a.2.1.1.toNat:Nat):Int))&&leb 0 a.2.2.2.1 then 1 else 0)≤1:=by cases (decide (a.2.2.2.1 < ((a.2.1.1.toNat:Nat):Int))&&leb 0 a.2.2.2.1)<;>decide
 omega
theorem y0N {k:Int} {V:Int→Int→Int} {a:dA} {s t:Int} {d:List Int} (h:Ix k V a) (hs:yI a.2.1 s=true) (hd:d.all isW=true) (hq:a.2.2.2.2.2.1 < 60000) (hk:k+1≤60000) (hu:downA (yu a s d).2=false) (t0:0≤t) (t1:t < a.2.1.2) (hts:t≠s):ygr (yu a s d).2 t=ygr a t:=by
 unfold ygr
 rw [yuf]
 exact yNY _ (fun i hi=>by rw [yXJ h hs hd hq hk hu (by omega) (by omega) t0 t1,show (t==s)=false from beq_eq_false_iff_ne.2 hts]; rfl)
theorem yZj {V:Int→Int→Int} {g:dG} {s t:Int} {d:List Int} (hts:t≠s):yh3 (yza V g s d) g t=yh3 V g t:=by
 unfold yh3 vlist yza
 rw [show (t==s)=false from beq_eq_false_iff_ne.2 hts]; rfl
theorem y05 {a0:List Int} (hb:a0.length≤140737488355328) (hx: ∀ x∈a0,0≤x∧x≤255) (f:Int) (h0:0≤f) (h1:f≤257) (j n:Nat) (hn:n+j≤900):((List.range n).map (fun (i:Nat)=>atV a0 ((i:Int)+j) * f)).all isW=true:=by
 rw [yAP]
 intro x hx'
 obtain ⟨i,hi,rfl⟩:=List.mem_map.1 hx'
 have hi:=List.mem_range.1 hi
 obtain ⟨_,a1,a2⟩:=y09 (i:=(i:Int)+j) hb hx (by omega) (by omega)
 refine yqK.2 ⟨Int.mul_nonneg a1 h0,?_⟩
 have:=Int.mul_le_mul a2 h1 h0 (by omega:(0:Int)≤255)
 omega
end
section
def ycw:Code:=(Tryz.f219.body).getD .skip
def ygA:Env:=zki TT [(200,ybN)] []
theorem yMk:FrOk Tryz.prog ⟨ygA,49,fun _=>none⟩ ycw:=zkp yb yd ⟨yeB,trivial⟩
def yAY:Nat→Option Seg:=fun _=>none
def ybE:Shape:=⟨[(1,false,[.ptr 0 0]),(2,false,[.ptr 64 0]),(3,false,[.ptr 4480 0]),(15,false,[.br tL]),(16,false,[.int .i64]),(17,false,[.int .i64])],[(0,[.br tL,.br tW,.bool,.br tI]),(64,[.nil,.nil,.bool,.nil]),(4480,[.at 800000001,.nil,.bool,.at 800000000])],[(800000001,tL,(.ow .fz)),(800000000,tI,.fz)]⟩
def yf4:Shape:=⟨[(1,false,[.ptr 0 0]),(2,false,[.ptr 64 0]),(3,false,[.ptr 4480 0]),(15,false,[.br tL]),(16,false,[.int .i64]),(17,false,[.ci .i64 0])],[(0,[.br tL,.br tW,.bool,.br tI]),(64,[.nil,.nil,.bool,.nil]),(4480,[.at 800000001,.nil,.bool,.at 800000000])],[(800000001,tL,(.ow .fz)),(800000000,tI,.fz)]⟩
def yfS:Shape:=⟨[(1,false,[.ptr 0 0]),(2,false,[.ptr 64 0]),(3,false,[.ptr 4480 0])],[(0,[.br tL,.br tW,.bool,.br tI]),(64,[.nil,.nil,.bool,.nil]),(4480,[.at 800000000,.nil,.bool,.at 800000001])],[(800000000,tL,(.ow .fz)),(800000001,tI,.fz)]⟩
def yjV:Shape:=⟨[],[],[]⟩
abbrev ypI (v0:List (List Int)) (v1 v2:Int) (v3 v4 v5:dM):(ybE).X:=((((),()),((),()),((),()),(v0,()),(v1,()),(v2,()),()),((v3.1,v3.2.1,v3.2.2.1,v3.2.2.2,()),((),(),v4.2.2.1,(),()),((),(),v5.2.2.1,(),()),()),(v5.1,v5.2.2.2,()))
abbrev yKL (v0:List (List Int)) (v1:Int) (v2 v3 v4:dM):(yf4).X:=((((),()),((),()),((),()),(v0,()),(v1,()),((),()),()),((v2.1,v2.2.1,v2.2.2.1,v2.2.2.2,()),((),(),v3.2.2.1,(),()),((),(),v4.2.2.1,(),()),()),(v4.1,v4.2.2.2,()))
abbrev yyu (v0 v1 v2:dM):(yfS).X:=((((),()),((),()),((),()),()),((v0.1,v0.2.1,v0.2.2.1,v0.2.2.2,()),((),(),v1.2.2.1,(),()),((),(),v2.2.2.1,(),()),()),(v2.1,v2.2.2.2,()))
def yp3 (v0:List (List Int)) (v1 v2:Int) (v3:List (List Int)) (v4:List dW) (v5:Bool) (v6:List Int) (v7 v8:Bool) (v9:List (List Int)) (v10:List Int):Option ((ybE).X ⊕ ((yfS).X ⊕ (yjV).X)) :=
 bif (ltb v2 v1) then
 bif (inb v2 v0.length) then
 let r4:=yp (nth v0 v2 [])
 bif (zj4 v9.length ([r4]:List (List Int)).length 24) then
 some (.inl ((((),()),((),()),((),()),(v0,()),(v1,()),((IntKind.i64.wrap (v2+1)),()),()),((v3,v4,v5,v6,()),((),(),v7,(),()),((),(),v8,(),()),()),((v9++([r4]:List (List Int))),v10,())))
 else none
 else none
 else
 some (.inr (.inl ((((),()),((),()),((),()),()),((v3,v4,v5,v6,()),((),(),v7,(),()),((),(),v8,(),()),()),(v9,v10,()))))
def ybU (x:(ybE).X):=yp3 x.1.2.2.2.1.1 x.1.2.2.2.2.1.1 x.1.2.2.2.2.2.1.1 x.2.1.1.1 x.2.1.1.2.1 x.2.1.1.2.2.1 x.2.1.1.2.2.2.1 x.2.1.2.1.2.2.1 x.2.1.2.2.1.2.2.1 x.2.2.1 x.2.2.2.1
def yxY (x:(yf4).X):(ybE).X:=((((),()),((),()),((),()),(x.1.2.2.2.1.1,()),(x.1.2.2.2.2.1.1,()),(0,()),()),((x.2.1.1.1,x.2.1.1.2.1,x.2.1.1.2.2.1,x.2.1.1.2.2.2.1,()),((),(),x.2.1.2.1.2.2.1,(),()),((),(),x.2.1.2.2.1.2.2.1,(),()),()),(x.2.2.1,x.2.2.2.1,()))
def yzC:Code:=(zdI ycw 64 116).getD .skip
theorem yLZ:zdI ycw 64 29=some (.block 0 (.loop yzC)):=by kernel_rfl
theorem yNG (x:(ybE).X):zg7 ⟨ygA,49,yAY⟩ 0 yzC 116 ybE yfS yjV x=ybU x:=by kernel_rfl
def yyf (x:(yf4).X):Nat:=18446744073709551616
def yra (x:(yf4).X):Option ((yfS).X ⊕ (yjV).X):=zr ybU (yyf x) (yxY x)
def yyF:Seg:=⟨yf4,yfS,yjV,yra⟩
def ysV:Nat→Option Seg:=fun q=>bif Nat.beq q 29 then some yyF else yAY q
theorem yMl:FrOk Tryz.prog ⟨ygA,49,ysV⟩ ycw:=(yMk).loop (sg:=yyF) ybE yxY (by decide) yLZ ybU yyf (by decide) (fun _=>rfl) (fun x r _ h=>h) yNG
def ybF:Shape:=⟨[(2,false,[.ptr 64 0]),(3,false,[.ptr 4480 0]),(30,false,[.br tW]),(31,false,[.int .i64]),(32,false,[.int .i64])],[(64,[.nil,.nil,.bool,.nil]),(4480,[.at 800000000,.at 800000002,.bool,.at 800000001])],[(800000000,tL,(.ow .fz)),(800000002,tW,(.pr .fz (.ow .fz))),(800000001,tI,.fz)]⟩
def yf5:Shape:=⟨[(2,false,[.ptr 64 0]),(3,false,[.ptr 4480 0]),(30,false,[.br tW]),(31,false,[.int .i64]),(32,false,[.ci .i64 0])],[(64,[.nil,.nil,.bool,.nil]),(4480,[.at 800000000,.at 800000002,.bool,.at 800000001])],[(800000000,tL,(.ow .fz)),(800000002,tW,(.pr .fz (.ow .fz))),(800000001,tI,.fz)]⟩
def yfT:Shape:=⟨[(2,false,[.ptr 64 0]),(3,false,[.ptr 4480 0])],[(64,[.nil,.nil,.bool,.nil]),(4480,[.at 800000000,.at 800000001,.bool,.at 800000002])],[(800000000,tL,(.ow .fz)),(800000001,tW,(.pr .fz (.ow .fz))),(800000002,tI,.fz)]⟩
def yjW:Shape:=⟨[],[],[]⟩
abbrev ypJ (v0:List dW) (v1 v2:Int) (v3 v4:dM):(ybF).X:=((((),()),((),()),(v0,()),(v1,()),(v2,()),()),(((),(),v3.2.2.1,(),()),((),(),v4.2.2.1,(),()),()),(v4.1,v4.2.1,v4.2.2.2,()))
abbrev yKM (v0:List dW) (v1:Int) (v2 v3:dM):(yf5).X:=((((),()),((),()),(v0,()),(v1,()),((),()),()),(((),(),v2.2.2.1,(),()),((),(),v3.2.2.1,(),()),()),(v3.1,v3.2.1,v3.2.2.2,()))
abbrev yyv (v0 v1:dM):(yfT).X:=((((),()),((),()),()),(((),(),v0.2.2.1,(),()),((),(),v1.2.2.1,(),()),()),(v1.1,v1.2.1,v1.2.2.2,()))
def yp4 (v0:List dW) (v1 v2:Int) (v3 v4:Bool) (v5:List (List Int)) (v6:List dW) (v7:List Int):Option ((ybF).X ⊕ ((yfT).X ⊕ (yjW).X)) :=
 bif (ltb v2 v1) then
 bif (inb v2 v0.length) then
 let r8:=yp ((nth v0 v2 (0,[])).2)
 bif (zj4 v6.length ([((nth v0 v2 (0,[])).1,r8)]:List dW).length 32) then
 some (.inl ((((),()),((),()),(v0,()),(v1,()),((IntKind.i64.wrap (v2+1)),()),()),(((),(),v3,(),()),((),(),v4,(),()),()),(v5,(v6++([((nth v0 v2 (0,[])).1,r8)]:List dW)),v7,())))
 else none
 else none
 else
 some (.inr (.inl ((((),()),((),()),()),(((),(),v3,(),()),((),(),v4,(),()),()),(v5,v6,v7,()))))
def ybV (x:(ybF).X):=yp4 x.1.2.2.1.1 x.1.2.2.2.1.1 x.1.2.2.2.2.1.1 x.2.1.1.2.2.1 x.2.1.2.1.2.2.1 x.2.2.1 x.2.2.2.1 x.2.2.2.2.1
def yxZ (x:(yf5).X):(ybF).X:=((((),()),((),()),(x.1.2.2.1.1,()),(x.1.2.2.2.1.1,()),(0,()),()),(((),(),x.2.1.1.2.2.1,(),()),((),(),x.2.1.2.1.2.2.1,(),()),()),(x.2.2.1,x.2.2.2.1,x.2.2.2.2.1,()))
def yzD:Code:=(zdI ycw 64 244).getD .skip
theorem yL0:zdI ycw 64 61=some (.block 2 (.loop yzD)):=by kernel_rfl
theorem yNH (x:(ybF).X):zg7 ⟨ygA,49,ysV⟩ 2 yzD 244 ybF yfT yjW x=ybV x:=by kernel_rfl
def yyg (x:(yf5).X):Nat:=18446744073709551616
def yrb (x:(yf5).X):Option ((yfT).X ⊕ (yjW).X):=zr ybV (yyg x) (yxZ x)
def yyG:Seg:=⟨yf5,yfT,yjW,yrb⟩
def yAZ:Nat→Option Seg:=fun q=>bif Nat.beq q 61 then some yyG else ysV q
theorem yMm:FrOk Tryz.prog ⟨ygA,49,yAZ⟩ ycw:=(yMl).loop (sg:=yyG) ybF yxZ (by decide) yL0 ybV yyg (by decide) (fun _=>rfl) (fun x r _ h=>h) yNH
abbrev ygE:List Par:= [.rd tM]
abbrev yqq:List OT:= [⟨false,tM,(.pr (.ow (.ow .fz)) (.pr (.ow (.pr .fz (.ow .fz))) (.pr .fz (.ow .fz))))⟩]
def ymj (a0:dM):Option (ResD yqq×MutD ygE) :=
 let r1:=yp a0.2.2.2
 zjw (yra ((((),()),((),()),((),()),(a0.1,()),((a0.1.length:Int),()),((),()),()),((a0.1,a0.2.1,a0.2.2.1,a0.2.2.2,()),((),(),false,(),()),((),(),a0.2.2.1,(),()),()),([],r1,()))) (fun y4 =>
 zjw (yrb ((((),()),((),()),(y4.2.1.1.2.1,()),((y4.2.1.1.2.1.length:Int),()),((),()),()),(((),(),y4.2.1.2.1.2.2.1,(),()),((),(),y4.2.1.2.2.1.2.2.1,(),()),()),(y4.2.2.1,[],y4.2.2.2.1,()))) (fun y8 =>
 some (((y8.2.2.1,y8.2.2.2.1,y8.2.1.2.1.2.2.1,y8.2.2.2.2.1),()),())) (fun y8 =>
 none)) (fun y4 =>
 none)
theorem yVh (x:InD ygE):zjH ⟨ygA,49,yAZ⟩ Tryz.f219.results.toList ycw ygE yqq x=ymj x.1:=by kernel_rfl
theorem yQt:ConOk Tryz.prog 219 ⟨ygE,yqq,fun x=>ymj x.1⟩:=zkh (yMm) Tryz.func219 (by kernel_rfl) (by kernel_rfl) Tryz.ntmps219.symm (by decide) (fun x r h=>(yVh x).trans h)
def ybn (a0:dM):dM:=a0
theorem yTo (a0:dM) (hk:zi9 ygE (a0,())):ymj a0=(fun n=>some ((n,()),())) (ybn a0):=by
 have hb1:a0.1.length * 24≤2 ^ 47:=hk.1.1.1
 have hb2:a0.2.1.length * 32≤2 ^ 47:=hk.1.2.1.1
 have h1:yra (yKL a0.1 a0.1.length a0 noMem ([],[],a0.2.2.1,a0.2.2.2))=some (.inl (yyu a0 noMem (a0.1,[],a0.2.2.1,a0.2.2.2))):=by
  have:=zkk (step:=ybU) a0.1 [] (fun i s=>ypI a0.1 a0.1.length i a0 noMem (s,[],a0.2.2.1,a0.2.2.2)) (fun s x=>s++ [x]) (fun i s=>s.length=i) (fun s=> .inl (yyu a0 noMem (s,[],a0.2.2.1,a0.2.2.2))) (fun i s hi hs2=>⟨by
   simp only [ybU,ypI,yp3,zjI (show (i:Int) < a0.1.length by omega),cond_true,wr (show -9223372036854775808≤(i:Int)+1 by omega) (by omega),Int.natCast_add,Int.natCast_one,Int.toNat_natCast,zkO hi,zjW,yp]
   rw [zkw.2 (show (s.length+ [a0.1.getD i []].length) * 24≤140737488355328 by simp only [List.length_cons,List.length_nil]; omega)]; rfl,by simp [hs2]⟩) (fun s _=>by simp only [ybU,ypI,yp3,zkm (Int.le_refl _),cond_false]) [] rfl 18446744073709551616 (by omega)
  rw [ytd]at this
  exact this
 have h2:yrb (yKM a0.2.1 a0.2.1.length noMem (a0.1,[],a0.2.2.1,a0.2.2.2))=some (.inl (yyv noMem a0)):=by
  have:=zkk (step:=ybV) a0.2.1 (0,[]) (fun i s=>ypJ a0.2.1 a0.2.1.length i noMem (a0.1,s,a0.2.2.1,a0.2.2.2)) (fun s x=>s++ [x]) (fun i s=>s.length=i) (fun s=> .inl (yyv noMem (a0.1,s,a0.2.2.1,a0.2.2.2))) (fun i s hi hs2=>⟨by
   simp only [ybV,ypJ,yp4,zjI (show (i:Int) < a0.2.1.length by omega),cond_true,wr (show -9223372036854775808≤(i:Int)+1 by omega) (by omega),Int.natCast_add,Int.natCast_one,Int.toNat_natCast,zkO hi,zjW,yp,zkV]
   rw [zkw.2 (show (s.length+ [a0.2.1.getD i (0,[])].length) * 32≤140737488355328 by simp only [List.length_cons,List.length_nil]; omega)]; rfl,by simp [hs2]⟩) (fun s _=>by simp only [ybV,ypJ,yp4,zkm (Int.le_refl _),cond_false]) [] rfl 18446744073709551616 (by omega)
  rw [ytd]at this
  exact this
 unfold ymj ybn
 simp only [yp,h1,zkJ,h2]
def yl6:Con:=⟨ygE,yqq,fun x=>(fun n=>some ((n,()),())) (ybn x.1)⟩
theorem yvM:ConOk Tryz.prog 219 yl6:=(yQt).mono (fun x r hk h=>(yTo x.1 hk).trans h)
end
section
def yid:Code:=(Tryz.f143.body).getD .skip
def yn1:Env:=zki TT [(219,yl6)] []
theorem yKi:FrOk Tryz.prog ⟨yn1,20,fun _=>none⟩ yid:=zkp yb yd ⟨yvM,trivial⟩
def yzl:Nat→Option Seg:=fun _=>none
def ybb:Shape:=⟨[(3,false,[.at 800000000]),(7,false,[.br tM]),(8,false,[.int .i64]),(9,false,[.int .i64])],[],[(800000000,tM,(.pr (.ow (.ow .fz)) (.pr (.ow (.pr .fz (.ow .fz))) (.pr .fz (.ow .fz)))))]⟩
def yeY:Shape:=⟨[(3,false,[.at 800000000]),(7,false,[.br tM]),(8,false,[.int .i64]),(9,false,[.ci .i64 0])],[],[(800000000,tM,(.pr (.ow (.ow .fz)) (.pr (.ow (.pr .fz (.ow .fz))) (.pr .fz (.ow .fz)))))]⟩
def yeS:Shape:=⟨[(3,false,[.at 800000000])],[],[(800000000,tM,(.pr (.ow (.ow .fz)) (.pr (.ow (.pr .fz (.ow .fz))) (.pr .fz (.ow .fz)))))]⟩
def yi7:Shape:=⟨[],[],[]⟩
abbrev ynF (v0:List dM) (v1 v2:Int) (v3:List dM):(ybb).X:=((((),()),(v0,()),(v1,()),(v2,()),()),(),(v3,()))
abbrev yI1 (v0:List dM) (v1:Int) (v2:List dM):(yeY).X:=((((),()),(v0,()),(v1,()),((),()),()),(),(v2,()))
abbrev yIX (v0:List dM):(yeS).X:=((((),()),()),(),(v0,()))
def ynS (v0:List dM) (v1 v2:Int) (v3:List dM):Option ((ybb).X ⊕ ((yeS).X ⊕ (yi7).X)) :=
 bif (ltb v2 v1) then
 bif (inb v2 v0.length) then
 let r2:=ybn ((nth v0 v2 ([],[],false,[])).1,((nth v0 v2 ([],[],false,[])).2).1,(((nth v0 v2 ([],[],false,[])).2).2))
 bif (zj4 v3.length ([r2]:List dM).length 80) then
 some (.inl ((((),()),(v0,()),(v1,()),((IntKind.i64.wrap (v2+1)),()),()),(),((v3++([r2]:List dM)),())))
 else none
 else none
 else
 some (.inr (.inl ((((),()),()),(),(v3,()))))
def ybs (x:(ybb).X):=ynS x.1.2.1.1 x.1.2.2.1.1 x.1.2.2.2.1.1 x.2.2.1
def ywr (x:(yeY).X):(ybb).X:=((((),()),(x.1.2.1.1,()),(x.1.2.2.1.1,()),(0,()),()),(),(x.2.2.1,()))
def yxM:Code:=(zdI yid 64 116).getD .skip
theorem yJQ:zdI yid 64 29=some (.block 0 (.loop yxM)):=by kernel_rfl
theorem yLn (x:(ybb).X):zg7 ⟨yn1,20,yzl⟩ 0 yxM 116 ybb yeS yi7 x=ybs x:=by kernel_rfl
def ywy (x:(yeY).X):Nat:=18446744073709551616
def yph (x:(yeY).X):Option ((yeS).X ⊕ (yi7).X):=zr ybs (ywy x) (ywr x)
def ywI:Seg:=⟨yeY,yeS,yi7,yph⟩
def yzm:Nat→Option Seg:=fun q=>bif Nat.beq q 29 then some ywI else yzl q
theorem yKj:FrOk Tryz.prog ⟨yn1,20,yzm⟩ yid:=(yKi).loop (sg:=ywI) ybb ywr (by decide) yJQ ybs ywy (by decide) (fun _=>rfl) (fun x r _ h=>h) yLn
abbrev yfj:List Par:= [.rd tMs]
abbrev yod:List OT:= [⟨false,tMs,(.ow (.pr (.ow (.ow .fz)) (.pr (.ow (.pr .fz (.ow .fz))) (.pr .fz (.ow .fz)))))⟩]
def ykg (a0:List dM):Option (ResD yod×MutD yfj) :=
 zjw (yph ((((),()),(a0,()),((a0.length:Int),()),((),()),()),(),(([]:List dM),()))) (fun y2 =>
 some ((y2.2.2.1,()),())) (fun y2 =>
 none)
theorem ySc (x:InD yfj):zjH ⟨yn1,20,yzm⟩ Tryz.f143.results.toList yid yfj yod x=ykg x.1:=by kernel_rfl
theorem yNl:ConOk Tryz.prog 143 ⟨yfj,yod,fun x=>ykg x.1⟩:=zkh (yKj) Tryz.func143 (by kernel_rfl) (by kernel_rfl) Tryz.ntmps143.symm (by decide) (fun x r h=>(ySc x).trans h)
def yoC (a0:List dM):List dM:=a0
theorem yQf (a0:List dM) (hk:zi9 yfj (a0,())):ykg a0=(fun n=>some ((n,()),())) (yoC a0):=by
 have hb:a0.length * 80≤2 ^ 47:=hk.1.1
 have h1:=zkk (step:=ybs) a0 noMem (fun i s=>ynF a0 a0.length i s) (fun s x=>s++ [x]) (fun i s=>s.length=i) (fun s=> .inl (yIX s)) (fun i s hi hs=>⟨by
   simp only [ybs,ynF,ynS,zjI (show (i:Int) < a0.length by omega),cond_true,wr (show -9223372036854775808≤(i:Int)+1 by omega) (by omega),Int.natCast_add,Int.natCast_one,Int.toNat_natCast,zkO hi,zjW,ybn,zkV]
   rw [zkw.2 (show (s.length+ [a0.getD i ([],[],false,[])].length) * 80≤140737488355328 by simp only [List.length_cons,List.length_nil]; omega)]; rfl,by simp [hs]⟩) (fun s hs=>by simp only [ybs,ynF,ynS,zkm (Int.le_refl _),cond_false]) [] rfl 18446744073709551616 (by omega)
 rw [ytd]at h1
 unfold ykg yoC
 rw [show yph (yI1 a0 a0.length [])=_ from h1]; rfl
def yzR:Con:=⟨yfj,yod,fun x=>(fun n=>some ((n,()),())) (yoC x.1)⟩
theorem yQS:ConOk Tryz.prog 143 yzR:=(yNl).mono (fun x r hk h=>(yQf x.1 hk).trans h)
end
section
def ykr:Code:=(Tryz.f98.body).getD .skip
def yqg:Env:=zki TT [(143,yzR),(200,ybN)] []
theorem yMi:FrOk Tryz.prog ⟨yqg,31,fun _=>none⟩ ykr:=zkp yb yd ⟨yQS,yeB,trivial⟩
def yAW:Nat→Option Seg:=fun _=>none
def ybD:Shape:=⟨[(1,false,[.ptr 0 0]),(2,false,[.ptr 64 0]),(3,false,[.at 800000000]),(8,false,[.br tW]),(9,false,[.int .i64]),(10,false,[.int .i64])],[(0,[.int .i64,.int .i64,.int .i64,.br tM,.int .i64,.int .i64,.int .i64,.int .i64,.int .i64,.br tW,.int .i64,.bool,.bool]),(64,[.int .i64,.int .i64,.int .i64,.nil,.int .i64,.int .i64,.int .i64,.int .i64,.int .i64,.nil,.int .i64,.bool,.bool])],[(800000000,tW,(.pr .fz (.ow .fz)))]⟩
def yf3:Shape:=⟨[(1,false,[.ptr 0 0]),(2,false,[.ptr 64 0]),(3,false,[.at 800000000]),(8,false,[.br tW]),(9,false,[.int .i64]),(10,false,[.ci .i64 0])],[(0,[.int .i64,.int .i64,.int .i64,.br tM,.int .i64,.int .i64,.int .i64,.int .i64,.int .i64,.br tW,.int .i64,.bool,.bool]),(64,[.int .i64,.int .i64,.int .i64,.nil,.int .i64,.int .i64,.int .i64,.int .i64,.int .i64,.nil,.int .i64,.bool,.bool])],[(800000000,tW,(.pr .fz (.ow .fz)))]⟩
def yfR:Shape:=⟨[(1,false,[.ptr 0 0]),(2,false,[.ptr 64 0]),(3,false,[.at 800000000])],[(0,[.int .i64,.int .i64,.int .i64,.br tM,.int .i64,.int .i64,.int .i64,.int .i64,.int .i64,.br tW,.int .i64,.bool,.bool]),(64,[.int .i64,.int .i64,.int .i64,.nil,.int .i64,.int .i64,.int .i64,.int .i64,.int .i64,.nil,.int .i64,.bool,.bool])],[(800000000,tW,(.pr .fz (.ow .fz)))]⟩
def yjU:Shape:=⟨[],[],[]⟩
abbrev ypH (v0:List dW) (v1 v2:Int) (v3 v4:dA) (v5:List dW):(ybD).X:=((((),()),((),()),((),()),(v0,()),(v1,()),(v2,()),()),((v3.1,v3.2.1.1,v3.2.1.2,v3.2.2.1,v3.2.2.2.1,v3.2.2.2.2.1,v3.2.2.2.2.2.1,v3.2.2.2.2.2.2.1,v3.2.2.2.2.2.2.2.1,v3.2.2.2.2.2.2.2.2.1,v3.2.2.2.2.2.2.2.2.2.1,v3.2.2.2.2.2.2.2.2.2.2.1,v3.2.2.2.2.2.2.2.2.2.2.2,()),(v4.1,v4.2.1.1,v4.2.1.2,(),v4.2.2.2.1,v4.2.2.2.2.1,v4.2.2.2.2.2.1,v4.2.2.2.2.2.2.1,v4.2.2.2.2.2.2.2.1,(),v4.2.2.2.2.2.2.2.2.2.1,v4.2.2.2.2.2.2.2.2.2.2.1,v4.2.2.2.2.2.2.2.2.2.2.2,()),()),(v5,()))
abbrev yKK (v0:List dW) (v1:Int) (v2 v3:dA) (v4:List dW):(yf3).X:=((((),()),((),()),((),()),(v0,()),(v1,()),((),()),()),((v2.1,v2.2.1.1,v2.2.1.2,v2.2.2.1,v2.2.2.2.1,v2.2.2.2.2.1,v2.2.2.2.2.2.1,v2.2.2.2.2.2.2.1,v2.2.2.2.2.2.2.2.1,v2.2.2.2.2.2.2.2.2.1,v2.2.2.2.2.2.2.2.2.2.1,v2.2.2.2.2.2.2.2.2.2.2.1,v2.2.2.2.2.2.2.2.2.2.2.2,()),(v3.1,v3.2.1.1,v3.2.1.2,(),v3.2.2.2.1,v3.2.2.2.2.1,v3.2.2.2.2.2.1,v3.2.2.2.2.2.2.1,v3.2.2.2.2.2.2.2.1,(),v3.2.2.2.2.2.2.2.2.2.1,v3.2.2.2.2.2.2.2.2.2.2.1,v3.2.2.2.2.2.2.2.2.2.2.2,()),()),(v4,()))
abbrev yKD (v0 v1:dA) (v2:List dW):(yfR).X:=((((),()),((),()),((),()),()),((v0.1,v0.2.1.1,v0.2.1.2,v0.2.2.1,v0.2.2.2.1,v0.2.2.2.2.1,v0.2.2.2.2.2.1,v0.2.2.2.2.2.2.1,v0.2.2.2.2.2.2.2.1,v0.2.2.2.2.2.2.2.2.1,v0.2.2.2.2.2.2.2.2.2.1,v0.2.2.2.2.2.2.2.2.2.2.1,v0.2.2.2.2.2.2.2.2.2.2.2,()),(v1.1,v1.2.1.1,v1.2.1.2,(),v1.2.2.2.1,v1.2.2.2.2.1,v1.2.2.2.2.2.1,v1.2.2.2.2.2.2.1,v1.2.2.2.2.2.2.2.1,(),v1.2.2.2.2.2.2.2.2.2.1,v1.2.2.2.2.2.2.2.2.2.2.1,v1.2.2.2.2.2.2.2.2.2.2.2,()),()),(v2,()))
def yp2 (v0:List dW) (v1 v2 v3 v4 v5:Int) (v6:List dM) (v7 v8 v9 v10 v11:Int) (v12:List dW) (v13:Int) (v14 v15:Bool) (v16 v17 v18 v19 v20 v21 v22 v23 v24:Int) (v25 v26:Bool) (v27:List dW):Option ((ybD).X ⊕ ((yfR).X ⊕ (yjU).X)) :=
 bif (ltb v2 v1) then
 bif (inb v2 v0.length) then
 let r2:=yp ((nth v0 v2 (0,[])).2)
 bif (zj4 v27.length ([((nth v0 v2 (0,[])).1,r2)]:List dW).length 32) then
 some (.inl ((((),()),((),()),((),()),(v0,()),(v1,()),((IntKind.i64.wrap (v2+1)),()),()),((v3,v4,v5,v6,v7,v8,v9,v10,v11,v12,v13,v14,v15,()),(v16,v17,v18,(),v19,v20,v21,v22,v23,(),v24,v25,v26,()),()),((v27++([((nth v0 v2 (0,[])).1,r2)]:List dW)),())))
 else none
 else none
 else
 some (.inr (.inl ((((),()),((),()),((),()),()),((v3,v4,v5,v6,v7,v8,v9,v10,v11,v12,v13,v14,v15,()),(v16,v17,v18,(),v19,v20,v21,v22,v23,(),v24,v25,v26,()),()),(v27,()))))
def ybT (x:(ybD).X):=yp2 x.1.2.2.2.1.1 x.1.2.2.2.2.1.1 x.1.2.2.2.2.2.1.1 x.2.1.1.1 x.2.1.1.2.1 x.2.1.1.2.2.1 x.2.1.1.2.2.2.1 x.2.1.1.2.2.2.2.1 x.2.1.1.2.2.2.2.2.1 x.2.1.1.2.2.2.2.2.2.1 x.2.1.1.2.2.2.2.2.2.2.1 x.2.1.1.2.2.2.2.2.2.2.2.1 x.2.1.1.2.2.2.2.2.2.2.2.2.1 x.2.1.1.2.2.2.2.2.2.2.2.2.2.1 x.2.1.1.2.2.2.2.2.2.2.2.2.2.2.1 x.2.1.1.2.2.2.2.2.2.2.2.2.2.2.2.1 x.2.1.2.1.1 x.2.1.2.1.2.1 x.2.1.2.1.2.2.1 x.2.1.2.1.2.2.2.2.1 x.2.1.2.1.2.2.2.2.2.1 x.2.1.2.1.2.2.2.2.2.2.1 x.2.1.2.1.2.2.2.2.2.2.2.1 x.2.1.2.1.2.2.2.2.2.2.2.2.1 x.2.1.2.1.2.2.2.2.2.2.2.2.2.2.1 x.2.1.2.1.2.2.2.2.2.2.2.2.2.2.2.1 x.2.1.2.1.2.2.2.2.2.2.2.2.2.2.2.2.1 x.2.2.1
def yxX (x:(yf3).X):(ybD).X:=((((),()),((),()),((),()),(x.1.2.2.2.1.1,()),(x.1.2.2.2.2.1.1,()),(0,()),()),((x.2.1.1.1,x.2.1.1.2.1,x.2.1.1.2.2.1,x.2.1.1.2.2.2.1,x.2.1.1.2.2.2.2.1,x.2.1.1.2.2.2.2.2.1,x.2.1.1.2.2.2.2.2.2.1,x.2.1.1.2.2.2.2.2.2.2.1,x.2.1.1.2.2.2.2.2.2.2.2.1,x.2.1.1.2.2.2.2.2.2.2.2.2.1,x.2.1.1.2.2.2.2.2.2.2.2.2.2.1,x.2.1.1.2.2.2.2.2.2.2.2.2.2.2.1,x.2.1.1.2.2.2.2.2.2.2.2.2.2.2.2.1,()),(x.2.1.2.1.1,x.2.1.2.1.2.1,x.2.1.2.1.2.2.1,(),x.2.1.2.1.2.2.2.2.1,x.2.1.2.1.2.2.2.2.2.1,x.2.1.2.1.2.2.2.2.2.2.1,x.2.1.2.1.2.2.2.2.2.2.2.1,x.2.1.2.1.2.2.2.2.2.2.2.2.1,(),x.2.1.2.1.2.2.2.2.2.2.2.2.2.2.1,x.2.1.2.1.2.2.2.2.2.2.2.2.2.2.2.1,x.2.1.2.1.2.2.2.2.2.2.2.2.2.2.2.2.1,()),()),(x.2.2.1,()))
def yzB:Code:=(zdI ykr 64 116).getD .skip
theorem yLY:zdI ykr 64 29=some (.block 0 (.loop yzB)):=by kernel_rfl
theorem yNF (x:(ybD).X):zg7 ⟨yqg,31,yAW⟩ 0 yzB 116 ybD yfR yjU x=ybT x:=by kernel_rfl
def yye (x:(yf3).X):Nat:=18446744073709551616
def yq9 (x:(yf3).X):Option ((yfR).X ⊕ (yjU).X):=zr ybT (yye x) (yxX x)
def yyE:Seg:=⟨yf3,yfR,yjU,yq9⟩
def yAX:Nat→Option Seg:=fun q=>bif Nat.beq q 29 then some yyE else yAW q
theorem yMj:FrOk Tryz.prog ⟨yqg,31,yAX⟩ ykr:=(yMi).loop (sg:=yyE) ybD yxX (by decide) yLY ybT yye (by decide) (fun _=>rfl) (fun x r _ h=>h) yNF
abbrev ygD:List Par:= [.rd tA]
abbrev yqp:List OT:= [⟨false,tA,(.pr .fz (.pr (.pr .fz .fz) (.pr (.ow (.pr (.ow (.ow .fz)) (.pr (.ow (.pr .fz (.ow .fz))) (.pr .fz (.ow .fz))))) (.pr .fz (.pr .fz (.pr .fz (.pr .fz (.pr .fz (.pr (.ow (.pr .fz (.ow .fz))) (.pr .fz (.pr .fz .fz)))))))))))⟩]
def ymi (a0:dA):Option (ResD yqp×MutD ygD) :=
 zjw (yq9 ((((),()),((),()),((),()),(a0.2.2.2.2.2.2.2.2.1,()),((a0.2.2.2.2.2.2.2.2.1.length:Int),()),((),()),()),((a0.1,a0.2.1.1,a0.2.1.2,a0.2.2.1,a0.2.2.2.1,a0.2.2.2.2.1,a0.2.2.2.2.2.1,a0.2.2.2.2.2.2.1,a0.2.2.2.2.2.2.2.1,a0.2.2.2.2.2.2.2.2.1,a0.2.2.2.2.2.2.2.2.2.1,a0.2.2.2.2.2.2.2.2.2.2.1,a0.2.2.2.2.2.2.2.2.2.2.2,()),(0,0,0,(),0,0,0,0,0,(),0,false,false,()),()),(([]:List dW),()))) (fun y2 =>
 let r4:=yoC y2.2.1.1.2.2.2.1
 some (((y2.2.1.1.1,(y2.2.1.1.2.1,y2.2.1.1.2.2.1),r4,y2.2.1.1.2.2.2.2.1,y2.2.1.1.2.2.2.2.2.1,y2.2.1.1.2.2.2.2.2.2.1,y2.2.1.1.2.2.2.2.2.2.2.1,y2.2.1.1.2.2.2.2.2.2.2.2.1,y2.2.2.1,y2.2.1.1.2.2.2.2.2.2.2.2.2.2.1,y2.2.1.1.2.2.2.2.2.2.2.2.2.2.2.1,y2.2.1.1.2.2.2.2.2.2.2.2.2.2.2.2.1),()),())) (fun y2 =>
 none)
theorem yVg (x:InD ygD):zjH ⟨yqg,31,yAX⟩ Tryz.f98.results.toList ykr ygD yqp x=ymi x.1:=by kernel_rfl
theorem yQs:ConOk Tryz.prog 98 ⟨ygD,yqp,fun x=>ymi x.1⟩:=zkh (yMj) Tryz.func98 (by kernel_rfl) (by kernel_rfl) Tryz.ntmps98.symm (by decide) (fun x r h=>(yVg x).trans h)
def yln (a0:dA):dA:=a0
theorem yTn (a0:dA) (hk:zi9 ygD (a0,())):ymi a0=(fun n=>some ((n,()),())) (yln a0):=by
 have hb:a0.2.2.2.2.2.2.2.2.1.length * 32≤2 ^ 47:=hk.1.2.2.2.2.2.2.2.2.1.1
 have h1:=zkk (step:=ybT) a0.2.2.2.2.2.2.2.2.1 (0,[]) (fun i s=>ypH a0.2.2.2.2.2.2.2.2.1 a0.2.2.2.2.2.2.2.2.1.length i a0 ydv s) (fun s x=>s++ [x]) (fun i s=>s.length=i) (fun s=> .inl (yKD a0 ydv s)) (fun i s hi hs=>⟨by
   simp only [ybT,ypH,yp2,zjI (show (i:Int) < a0.2.2.2.2.2.2.2.2.1.length by omega),cond_true,wr (show -9223372036854775808≤(i:Int)+1 by omega) (by omega),Int.natCast_add,Int.natCast_one,Int.toNat_natCast,zkO hi,zjW,yp,zkV]
   rw [zkw.2 (show (s.length+ [a0.2.2.2.2.2.2.2.2.1.getD i (0,[])].length) * 32≤140737488355328 by simp only [List.length_cons,List.length_nil]; omega)]; rfl,by simp [hs]⟩) (fun s hs=>by simp only [ybT,ypH,yp2,zkm (Int.le_refl _),cond_false]) [] rfl 18446744073709551616 (by omega)
 rw [ytd]at h1
 unfold ymi yln
 rw [show yq9 (yKK a0.2.2.2.2.2.2.2.2.1 a0.2.2.2.2.2.2.2.2.1.length a0 ydv [])=_ from h1]; rfl
def yBC:Con:=⟨ygD,yqp,fun x=>(fun n=>some ((n,()),())) (yln x.1)⟩
theorem yUk:ConOk Tryz.prog 98 yBC:=(yQs).mono (fun x r hk h=>(yTn x.1 hk).trans h)
end
section
def yHE:Code:=(Tryz.f102.body).getD .skip
def yIa:Env:=zki TT [] []
theorem yOP:FrOk Tryz.prog ⟨yIa,4,fun _=>none⟩ yHE:=zkp yb yd trivial
def yRo:Nat→Option Seg:=fun _=>none
abbrev ymO:List Par:= [.rd tB]
abbrev ysl:List OT:= [⟨false,tI,.fz⟩]
def yvT (a0:Bool):Option (ResD ysl×MutD ymO) :=
 bif a0 then
 some ((0,()),())
 else
 some ((6,()),())
theorem yXX (x:InD ymO):zjH ⟨yIa,4,yRo⟩ Tryz.f102.results.toList yHE ymO ysl x=yvT x.1:=by kernel_rfl
theorem yTN:ConOk Tryz.prog 102 ⟨ymO,ysl,fun x=>yvT x.1⟩:=zkh (yOP) Tryz.func102 (by kernel_rfl) (by kernel_rfl) Tryz.ntmps102.symm (by decide) (fun x r h=>(yXX x).trans h)
def ysM (a0:Bool):Int :=
 bif a0 then
 0
 else
 6
def yEc:Con:=⟨ymO,ysl,fun x=>(fun n=>some ((n,()),())) (ysM x.1)⟩
theorem yVT (a0:Bool):yvT a0=(fun n=>some ((n,()),())) (ysM a0):=zkS (p:=fun (n:Int)=>((n,()),())) (zkx (p:=fun (n:Int)=>((n,()),())) rfl rfl)
theorem yWK:ConOk Tryz.prog 102 yEc:=(yTN).mono (fun x r _ h=>(yVT x.1).trans h)
end
end
end Go.Tf
