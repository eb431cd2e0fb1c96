/- Functions of the program, and what they come to. -/
import Derived.Test.YtgmadfpnljibhaaGreatStripesF19
namespace Go.Tf
noncomputable section
open Go.Proofs
set_option synthInstance.maxHeartbeats 400000
set_option synthInstance.maxSize 10000
set_option linter.unusedVariables false
set_option linter.unusedSimpArgs false
set_option maxRecDepth 100000
section
def yHz:Code:=(Tryz.f148.body).getD .skip
def yH5:Env:=zki TT [(116,ycL),(126,yJ),(231,yrl)] []
theorem yOK:FrOk Tryz.prog ⟨yH5,28,fun _=>none⟩ yHz:=zkp yb yd ⟨ygk,yT,yCA,trivial⟩
def yRj:Nat→Option Seg:=fun _=>none
abbrev yhQ:List Par:= [.rd tG,.rd tI,.rd tI]
abbrev ysg:List OT:= [⟨false,tI,.fz⟩]
def yoI (a0:dG) (a1 a2:Int):Option (ResD ysg×MutD yhQ) :=
 let r1:=yag a0 a1
 bif (!(!r1)) then
 let r2:=yf a2 0 (IntKind.i64.wrap (a0.1 - 2))
 bif (!r2) then
 some (((-1),()),())
 else
 let r3:=ydt a0 a1
 bif (a0.1 !=0) then
 some ((((IntKind.i64.wrap ((IntKind.i64.wrap (r3+1))+a2)).tmod a0.1),()),())
 else none
 else
 some (((-1),()),())
theorem yXS (x:InD yhQ):zjH ⟨yH5,28,yRj⟩ Tryz.f148.results.toList yHz yhQ ysg x=yoI x.1 x.2.1 x.2.2.1:=by kernel_rfl
theorem yTI:ConOk Tryz.prog 148 ⟨yhQ,ysg,fun x=>yoI x.1 x.2.1 x.2.2.1⟩:=zkh (yOK) Tryz.func148 (by kernel_rfl) (by kernel_rfl) Tryz.ntmps148.symm (by decide) (fun x r h=>(yXS x).trans h)
def yfH (a0:dG) (a1 a2:Int):Int:=yao a0 a1 a2
theorem yVO (a0:dG) (a1 a2:Int) (hk:zi9 yhQ (a0,a1,a2,())):yoI a0 a1 a2=(fun n=>some ((n,()),())) (yfH a0 a1 a2):=by
 unfold yoI yfH yao ydt
 rw [yxp]
 cases hs:yI a0 a1
 ·rfl
 ·have h1:=yN.1 hs
  have h2:=yi.1 h1.1
  have h3:=ygz hs
  rw [yai,ycd,wr (show -9223372036854775808≤a0.1 - 2 by omega) (by omega)]
  cases hi:(leb 0 a2&&leb a2 (a0.1 - 2))
  ·rfl
  ·rw [Bool.and_eq_true,zjQ,zjQ]at hi
   rw [show (a0.1 !=0)=true from bne_iff_ne.2 (by omega)]
   show some (((IntKind.i64.wrap (IntKind.i64.wrap (ye a0 a1+1)+a2)).tmod a0.1,()),())=some (((ye a0 a1+1+a2).tmod a0.1,()),())
   rw [wr (show -9223372036854775808≤ye a0 a1+1 by omega) (by omega),wr (show -9223372036854775808≤ye a0 a1+1+a2 by omega) (by omega)]
def yvc:Con:=⟨yhQ,ysg,fun x=>(fun n=>some ((n,()),())) (yfH x.1 x.2.1 x.2.2.1)⟩
theorem yGw:ConOk Tryz.prog 148 yvc:=(yTI).mono (fun x r hk h=>(yVO x.1 x.2.1 x.2.2.1 hk).trans h)
end
section
def yzc:Code:=(Tryz.f241.body).getD .skip
def yzw:Env:=zki TT [(214,yqH)] []
theorem yGZ:FrOk Tryz.prog ⟨yzw,5,fun _=>none⟩ yzc:=zkp yb yd ⟨yy2,trivial⟩
def yIC:Nat→Option Seg:=fun _=>none
abbrev yfM:List Par:= [.rd tL]
abbrev yjP:List OT:= [⟨false,tI,.fz⟩]
def ynM (a0:List Int):Option (ResD yjP×MutD yfM) :=
 let r1:=yb8 a0
 some ((r1,()),())
theorem yMc (x:InD yfM):zjH ⟨yzw,5,yIC⟩ Tryz.f241.results.toList yzc yfM yjP x=ynM x.1:=by kernel_rfl
theorem yJb:ConOk Tryz.prog 241 ⟨yfM,yjP,fun x=>ynM x.1⟩:=zkh (yGZ) Tryz.func241 (by kernel_rfl) (by kernel_rfl) Tryz.ntmps241.symm (by decide) (fun x r h=>(yMc x).trans h)
def yj7 (a0:List Int):Int :=
 let r1:=yb8 a0
 r1
def ywm:Con:=⟨yfM,yjP,fun x=>(fun n=>some ((n,()),())) (yj7 x.1)⟩
theorem yK0 (a0:List Int):ynM a0=(fun n=>some ((n,()),())) (yj7 a0):=zkS (p:=fun (n:Int)=>((n,()),())) rfl
theorem yLd:ConOk Tryz.prog 241 ywm:=(yJb).mono (fun x r _ h=>(yK0 x.1).trans h)
end
section
def ya4:Code:=(Tryz.f165.body).getD .skip
def yei:Env:=zki TT [(47,yvd),(107,yje),(108,yvb),(148,yvc),(231,yrl),(241,ywm)] []
theorem yIL:FrOk Tryz.prog ⟨yei,70,fun _=>none⟩ ya4:=zkp yb yd ⟨yGx,yrz,yGv,yGw,yCA,yLd,trivial⟩
def yxu:Nat→Option Seg:=fun _=>none
def yaO:Shape:=⟨[(0,false,[.ptr 1000000000 0]),(1,false,[.int .i64]),(7,false,[.at 800000000]),(28,false,[.br tI]),(29,false,[.int .i64]),(30,false,[.int .i64])],[(1000000000,[.int .i64,.int .i64,.int .i64,.at 800000001,.int .i64,.int .i64,.int .i64,.int .i64,.int .i64,.at 800000002,.int .i64,.bool,.bool])],[(800000000,tI,.fz),(800000001,tM,(.pr (.ow (.ow .fz)) (.pr (.ow (.pr .fz (.ow .fz))) (.pr .fz (.ow .fz))))),(800000002,tW,(.pr .fz (.ow .fz)))]⟩
def yed:Shape:=⟨[(0,false,[.ptr 1000000000 0]),(1,false,[.int .i64]),(7,false,[.at 800000000]),(28,false,[.br tI]),(29,false,[.int .i64]),(30,false,[.ci .i64 0])],[(1000000000,[.int .i64,.int .i64,.int .i64,.at 800000001,.int .i64,.int .i64,.int .i64,.int .i64,.int .i64,.at 800000002,.int .i64,.bool,.bool])],[(800000000,tI,.fz),(800000001,tM,(.pr (.ow (.ow .fz)) (.pr (.ow (.pr .fz (.ow .fz))) (.pr .fz (.ow .fz))))),(800000002,tW,(.pr .fz (.ow .fz)))]⟩
def yd8:Shape:=⟨[(0,false,[.ptr 1000000000 0]),(1,false,[.int .i64]),(7,false,[.at 800000000])],[(1000000000,[.int .i64,.int .i64,.int .i64,.at 800000001,.int .i64,.int .i64,.int .i64,.int .i64,.int .i64,.at 800000002,.int .i64,.bool,.bool])],[(800000000,tI,.fz),(800000001,tM,(.pr (.ow (.ow .fz)) (.pr (.ow (.pr .fz (.ow .fz))) (.pr .fz (.ow .fz))))),(800000002,tW,(.pr .fz (.ow .fz)))]⟩
def yhE:Shape:=⟨[],[],[]⟩
abbrev yl9 (v0:Int) (v1:List Int) (v2 v3:Int) (v4:dA) (v5:List Int):(yaO).X:=((((),()),(v0,()),((),()),(v1,()),(v2,()),(v3,()),()),((v4.1,v4.2.1.1,v4.2.1.2,(),v4.2.2.2.1,v4.2.2.2.2.1,v4.2.2.2.2.2.1,v4.2.2.2.2.2.2.1,v4.2.2.2.2.2.2.2.1,(),v4.2.2.2.2.2.2.2.2.2.1,v4.2.2.2.2.2.2.2.2.2.2.1,v4.2.2.2.2.2.2.2.2.2.2.2,()),()),(v5,v4.2.2.1,v4.2.2.2.2.2.2.2.2.1,()))
abbrev yHc (v0:Int) (v1:List Int) (v2:Int) (v3:dA) (v4:List Int):(yed).X:=((((),()),(v0,()),((),()),(v1,()),(v2,()),((),()),()),((v3.1,v3.2.1.1,v3.2.1.2,(),v3.2.2.2.1,v3.2.2.2.2.1,v3.2.2.2.2.2.1,v3.2.2.2.2.2.2.1,v3.2.2.2.2.2.2.2.1,(),v3.2.2.2.2.2.2.2.2.2.1,v3.2.2.2.2.2.2.2.2.2.2.1,v3.2.2.2.2.2.2.2.2.2.2.2,()),()),(v4,v3.2.2.1,v3.2.2.2.2.2.2.2.2.1,()))
abbrev yvF (v0:Int) (v1:dA) (v2:List Int):(yd8).X:=((((),()),(v0,()),((),()),()),((v1.1,v1.2.1.1,v1.2.1.2,(),v1.2.2.2.1,v1.2.2.2.2.1,v1.2.2.2.2.2.1,v1.2.2.2.2.2.2.1,v1.2.2.2.2.2.2.2.1,(),v1.2.2.2.2.2.2.2.2.2.1,v1.2.2.2.2.2.2.2.2.2.2.1,v1.2.2.2.2.2.2.2.2.2.2.2,()),()),(v2,v1.2.2.1,v1.2.2.2.2.2.2.2.2.1,()))
def ymw (v0:Int) (v1:List Int) (v2 v3 v4 v5 v6 v7 v8 v9 v10 v11 v12:Int) (v13 v14:Bool) (v15:List Int) (v16:List dM) (v17:List dW):Option ((yaO).X ⊕ ((yd8).X ⊕ (yhE).X)) :=
 bif (ltb v3 v2) then
 bif (inb v3 v1.length) then
 let r5:=yfH (v5,v6) v0 v3
 bif (inb r5 v15.length) then
 some (.inl ((((),()),(v0,()),((),()),(v1,()),(v2,()),((IntKind.i64.wrap (v3+1)),()),()),((v4,v5,v6,(),v7,v8,v9,v10,v11,(),v12,v13,v14,()),()),((v15.set (r5).toNat (nth v1 v3 0)),v16,v17,())))
 else none
 else none
 else
 some (.inr (.inl ((((),()),(v0,()),((),()),()),((v4,v5,v6,(),v7,v8,v9,v10,v11,(),v12,v13,v14,()),()),(v15,v16,v17,()))))
def yaZ (x:(yaO).X):=ymw x.1.2.1.1 x.1.2.2.2.1.1 x.1.2.2.2.2.1.1 x.1.2.2.2.2.2.1.1 x.2.1.1.1 x.2.1.1.2.1 x.2.1.1.2.2.1 x.2.1.1.2.2.2.2.1 x.2.1.1.2.2.2.2.2.1 x.2.1.1.2.2.2.2.2.2.1 x.2.1.1.2.2.2.2.2.2.2.1 x.2.1.1.2.2.2.2.2.2.2.2.1 x.2.1.1.2.2.2.2.2.2.2.2.2.2.1 x.2.1.1.2.2.2.2.2.2.2.2.2.2.2.1 x.2.1.1.2.2.2.2.2.2.2.2.2.2.2.2.1 x.2.2.1 x.2.2.2.1 x.2.2.2.2.1
def yvr (x:(yed).X):(yaO).X:=((((),()),(x.1.2.1.1,()),((),()),(x.1.2.2.2.1.1,()),(x.1.2.2.2.2.1.1,()),(0,()),()),((x.2.1.1.1,x.2.1.1.2.1,x.2.1.1.2.2.1,(),x.2.1.1.2.2.2.2.1,x.2.1.1.2.2.2.2.2.1,x.2.1.1.2.2.2.2.2.2.1,x.2.1.1.2.2.2.2.2.2.2.1,x.2.1.1.2.2.2.2.2.2.2.2.1,(),x.2.1.1.2.2.2.2.2.2.2.2.2.2.1,x.2.1.1.2.2.2.2.2.2.2.2.2.2.2.1,x.2.1.1.2.2.2.2.2.2.2.2.2.2.2.2.1,()),()),(x.2.2.1,x.2.2.2.1,x.2.2.2.2.1,()))
def ywf:Code:=(zdI ya4 64 244).getD .skip
theorem yIF:zdI ya4 64 61=some (.block 0 (.loop ywf)):=by kernel_rfl
theorem yJj (x:(yaO).X):zg7 ⟨yei,70,yxu⟩ 0 ywf 244 yaO yd8 yhE x=yaZ x:=by kernel_rfl
def yvw (x:(yed).X):Nat:=18446744073709551616
def ynx (x:(yed).X):Option ((yd8).X ⊕ (yhE).X):=zr yaZ (yvw x) (yvr x)
def yv5:Seg:=⟨yed,yd8,yhE,ynx⟩
def ypa:Nat→Option Seg:=fun q=>bif Nat.beq q 61 then some yv5 else yxu q
theorem yIM:FrOk Tryz.prog ⟨yei,70,ypa⟩ ya4:=(yIL).loop (sg:=yv5) yaO yvr (by decide) yIF yaZ yvw (by decide) (fun _=>rfl) (fun x r _ h=>h) yJj
def yaA:Shape:=⟨[(0,false,[.ptr 1000000000 0]),(1,false,[.int .i64]),(46,false,[.at 800000000]),(47,false,[.int .i64]),(48,false,[.int .i64])],[(1000000000,[.int .i64,.int .i64,.int .i64,.at 800000001,.int .i64,.int .i64,.int .i64,.int .i64,.int .i64,.at 800000002,.int .i64,.bool,.bool])],[(800000000,tI,.fz),(800000001,tM,(.pr (.ow (.ow .fz)) (.pr (.ow (.pr .fz (.ow .fz))) (.pr .fz (.ow .fz))))),(800000002,tW,(.pr .fz (.ow .fz)))]⟩
def ydo:Shape:=⟨[(0,false,[.ptr 1000000000 0]),(1,false,[.int .i64]),(46,false,[.at 800000000]),(47,false,[.int .i64]),(48,false,[.ci .i64 0])],[(1000000000,[.int .i64,.int .i64,.int .i64,.at 800000001,.int .i64,.int .i64,.int .i64,.int .i64,.int .i64,.at 800000002,.int .i64,.bool,.bool])],[(800000000,tI,.fz),(800000001,tM,(.pr (.ow (.ow .fz)) (.pr (.ow (.pr .fz (.ow .fz))) (.pr .fz (.ow .fz))))),(800000002,tW,(.pr .fz (.ow .fz)))]⟩
def ydl:Shape:=⟨[],[(1000000000,[.int .i64,.int .i64,.int .i64,.at 800000000,.int .i64,.int .i64,.int .i64,.int .i64,.int .i64,.at 800000001,.int .i64,.bool,.bool])],[(800000000,tM,(.pr (.ow (.ow .fz)) (.pr (.ow (.pr .fz (.ow .fz))) (.pr .fz (.ow .fz))))),(800000001,tW,(.pr .fz (.ow .fz)))]⟩
def ydr:Shape:=⟨[(6,false,[.bool])],[(1000000000,[.int .i64,.int .i64,.int .i64,.at 800000000,.int .i64,.int .i64,.int .i64,.int .i64,.int .i64,.at 800000001,.int .i64,.bool,.bool])],[(800000000,tM,(.pr (.ow (.ow .fz)) (.pr (.ow (.pr .fz (.ow .fz))) (.pr .fz (.ow .fz))))),(800000001,tW,(.pr .fz (.ow .fz)))]⟩
abbrev ylg (v0 v1 v2:Int) (v3:dA) (v4:List Int):(yaA).X:=((((),()),(v0,()),((),()),(v1,()),(v2,()),()),((v3.1,v3.2.1.1,v3.2.1.2,(),v3.2.2.2.1,v3.2.2.2.2.1,v3.2.2.2.2.2.1,v3.2.2.2.2.2.2.1,v3.2.2.2.2.2.2.2.1,(),v3.2.2.2.2.2.2.2.2.2.1,v3.2.2.2.2.2.2.2.2.2.2.1,v3.2.2.2.2.2.2.2.2.2.2.2,()),()),(v4,v3.2.2.1,v3.2.2.2.2.2.2.2.2.1,()))
abbrev yGs (v0 v1:Int) (v2:dA) (v3:List Int):(ydo).X:=((((),()),(v0,()),((),()),(v1,()),((),()),()),((v2.1,v2.2.1.1,v2.2.1.2,(),v2.2.2.2.1,v2.2.2.2.2.1,v2.2.2.2.2.2.1,v2.2.2.2.2.2.2.1,v2.2.2.2.2.2.2.2.1,(),v2.2.2.2.2.2.2.2.2.2.1,v2.2.2.2.2.2.2.2.2.2.2.1,v2.2.2.2.2.2.2.2.2.2.2.2,()),()),(v3,v2.2.2.1,v2.2.2.2.2.2.2.2.2.1,()))
abbrev ylj (v0:dA):(ydl).X:=((),((v0.1,v0.2.1.1,v0.2.1.2,(),v0.2.2.2.1,v0.2.2.2.2.1,v0.2.2.2.2.2.1,v0.2.2.2.2.2.2.1,v0.2.2.2.2.2.2.2.1,(),v0.2.2.2.2.2.2.2.2.2.1,v0.2.2.2.2.2.2.2.2.2.2.1,v0.2.2.2.2.2.2.2.2.2.2.2,()),()),(v0.2.2.1,v0.2.2.2.2.2.2.2.2.1,()))
abbrev yll (v0:Bool) (v1:dA):(ydr).X:=(((v0,()),()),((v1.1,v1.2.1.1,v1.2.1.2,(),v1.2.2.2.1,v1.2.2.2.2.1,v1.2.2.2.2.2.1,v1.2.2.2.2.2.2.1,v1.2.2.2.2.2.2.2.1,(),v1.2.2.2.2.2.2.2.2.2.1,v1.2.2.2.2.2.2.2.2.2.2.1,v1.2.2.2.2.2.2.2.2.2.2.2,()),()),(v1.2.2.1,v1.2.2.2.2.2.2.2.2.1,()))
def ylG (v0 v1 v2 v3 v4 v5 v6 v7 v8 v9 v10 v11:Int) (v12 v13:Bool) (v14:List Int) (v15:List dM) (v16:List dW):Option ((yaA).X ⊕ ((ydl).X ⊕ (ydr).X)) :=
 bif (ltb v2 v1) then
 bif (inb v2 v14.length) then
 let r10:=yfI (v3,(v4,v5),v15,v6,v7,v8,v9,v10,v16,v11,v12,v13) v2 v0
 bif r10 then
 let r11:=yne v0
 bnd (yeA (v3,(v4,v5),v15,v6,v7,v8,v9,v10,v16,v11,v12,v13) v2 r11 ([(nth v14 v2 0)]:List Int)) fun r12 =>
 bif (!r12.1.1) then
 some (.inr (.inr (((false,()),()),((r12.2.1.1,r12.2.1.2.1.1,r12.2.1.2.1.2,(),r12.2.1.2.2.2.1,r12.2.1.2.2.2.2.1,r12.2.1.2.2.2.2.2.1,r12.2.1.2.2.2.2.2.2.1,r12.2.1.2.2.2.2.2.2.2.1,(),r12.2.1.2.2.2.2.2.2.2.2.2.1,r12.2.1.2.2.2.2.2.2.2.2.2.2.1,r12.2.1.2.2.2.2.2.2.2.2.2.2.2,()),()),(r12.2.1.2.2.1,r12.2.1.2.2.2.2.2.2.2.2.1,()))))
 else
 some (.inl ((((),()),(v0,()),((),()),(v1,()),((IntKind.i64.wrap (v2+1)),()),()),((r12.2.1.1,r12.2.1.2.1.1,r12.2.1.2.1.2,(),r12.2.1.2.2.2.1,r12.2.1.2.2.2.2.1,r12.2.1.2.2.2.2.2.1,r12.2.1.2.2.2.2.2.2.1,r12.2.1.2.2.2.2.2.2.2.1,(),r12.2.1.2.2.2.2.2.2.2.2.2.1,r12.2.1.2.2.2.2.2.2.2.2.2.2.1,r12.2.1.2.2.2.2.2.2.2.2.2.2.2,()),()),(v14,r12.2.1.2.2.1,r12.2.1.2.2.2.2.2.2.2.2.1,())))
 else
 some (.inl ((((),()),(v0,()),((),()),(v1,()),((IntKind.i64.wrap (v2+1)),()),()),((v3,v4,v5,(),v6,v7,v8,v9,v10,(),v11,v12,v13,()),()),(v14,v15,v16,())))
 else none
 else
 some (.inr (.inl ((),((v3,v4,v5,(),v6,v7,v8,v9,v10,(),v11,v12,v13,()),()),(v15,v16,()))))
def yaL (x:(yaA).X):=ylG x.1.2.1.1 x.1.2.2.2.1.1 x.1.2.2.2.2.1.1 x.2.1.1.1 x.2.1.1.2.1 x.2.1.1.2.2.1 x.2.1.1.2.2.2.2.1 x.2.1.1.2.2.2.2.2.1 x.2.1.1.2.2.2.2.2.2.1 x.2.1.1.2.2.2.2.2.2.2.1 x.2.1.1.2.2.2.2.2.2.2.2.1 x.2.1.1.2.2.2.2.2.2.2.2.2.2.1 x.2.1.1.2.2.2.2.2.2.2.2.2.2.2.1 x.2.1.1.2.2.2.2.2.2.2.2.2.2.2.2.1 x.2.2.1 x.2.2.2.1 x.2.2.2.2.1
def yt2 (x:(ydo).X):(yaA).X:=((((),()),(x.1.2.1.1,()),((),()),(x.1.2.2.2.1.1,()),(0,()),()),((x.2.1.1.1,x.2.1.1.2.1,x.2.1.1.2.2.1,(),x.2.1.1.2.2.2.2.1,x.2.1.1.2.2.2.2.2.1,x.2.1.1.2.2.2.2.2.2.1,x.2.1.1.2.2.2.2.2.2.2.1,x.2.1.1.2.2.2.2.2.2.2.2.1,(),x.2.1.1.2.2.2.2.2.2.2.2.2.2.1,x.2.1.1.2.2.2.2.2.2.2.2.2.2.2.1,x.2.1.1.2.2.2.2.2.2.2.2.2.2.2.2.1,()),()),(x.2.2.1,x.2.2.2.1,x.2.2.2.2.1,()))
def yu8:Code:=(zdI ya4 64 500).getD .skip
theorem yGO:zdI ya4 64 125=some (.block 2 (.loop yu8)):=by kernel_rfl
theorem yHr (x:(yaA).X):zg7 ⟨yei,70,ypa⟩ 2 yu8 500 yaA ydl ydr x=yaL x:=by kernel_rfl
def yt5 (x:(ydo).X):Nat:=18446744073709551616
def ylR (x:(ydo).X):Option ((ydl).X ⊕ (ydr).X):=zr yaL (yt5 x) (yt2 x)
def yud:Seg:=⟨ydo,ydl,ydr,ylR⟩
def yxv:Nat→Option Seg:=fun q=>bif Nat.beq q 125 then some yud else ypa q
theorem yIN:FrOk Tryz.prog ⟨yei,70,yxv⟩ ya4:=(yIM).loop (sg:=yud) yaA yt2 (by decide) yGO yaL yt5 (by decide) (fun _=>rfl) (fun x r _ h=>h) yHr
abbrev ycg:List Par:= [.pt tA (.pr .fz (.pr (.pr .fz .fz) (.pr (.ow (.pr (.ow (.ow .fz)) (.pr (.ow (.pr .fz (.ow .fz))) (.pr .fz (.ow .fz))))) (.pr .fz (.pr .fz (.pr .fz (.pr .fz (.pr .fz (.pr (.ow (.pr .fz (.ow .fz))) (.pr .fz (.pr .fz .fz))))))))))),.rd tI,.rd tL]
abbrev yhq:List OT:= [⟨false,tB,.fz⟩]
def yjt (a0:dA) (a1:Int) (a2:List Int):Option (ResD yhq×MutD ycg) :=
 bif (zkc a0.2.1.1 8) then
 let r1:=ydt a0.2.1 a1
 let r2:=yj7 a2
 bif (inb r1 (List.replicate (a0.2.1.1).toNat (0:Int)).length) then
 let r3:=((List.replicate (a0.2.1.1).toNat (0:Int)).set (r1).toNat r2)
 zjw (ynx ((((),()),(a1,()),((),()),(a2,()),((a2.length:Int),()),((),()),()),((a0.1,a0.2.1.1,a0.2.1.2,(),a0.2.2.2.1,a0.2.2.2.2.1,a0.2.2.2.2.2.1,a0.2.2.2.2.2.2.1,a0.2.2.2.2.2.2.2.1,(),a0.2.2.2.2.2.2.2.2.2.1,a0.2.2.2.2.2.2.2.2.2.2.1,a0.2.2.2.2.2.2.2.2.2.2.2,()),()),(r3,a0.2.2.1,a0.2.2.2.2.2.2.2.2.1,()))) (fun y5 =>
 zjw (ylR ((((),()),(y5.1.2.1.1,()),((),()),((y5.2.2.1.length:Int),()),((),()),()),((y5.2.1.1.1,y5.2.1.1.2.1,y5.2.1.1.2.2.1,(),y5.2.1.1.2.2.2.2.1,y5.2.1.1.2.2.2.2.2.1,y5.2.1.1.2.2.2.2.2.2.1,y5.2.1.1.2.2.2.2.2.2.2.1,y5.2.1.1.2.2.2.2.2.2.2.2.1,(),y5.2.1.1.2.2.2.2.2.2.2.2.2.2.1,y5.2.1.1.2.2.2.2.2.2.2.2.2.2.2.1,y5.2.1.1.2.2.2.2.2.2.2.2.2.2.2.2.1,()),()),(y5.2.2.1,y5.2.2.2.1,y5.2.2.2.2.1,()))) (fun y12 =>
 some ((true,()),((y12.2.1.1.1,(y12.2.1.1.2.1,y12.2.1.1.2.2.1),y12.2.2.1,y12.2.1.1.2.2.2.2.1,y12.2.1.1.2.2.2.2.2.1,y12.2.1.1.2.2.2.2.2.2.1,y12.2.1.1.2.2.2.2.2.2.2.1,y12.2.1.1.2.2.2.2.2.2.2.2.1,y12.2.2.2.1,y12.2.1.1.2.2.2.2.2.2.2.2.2.2.1,y12.2.1.1.2.2.2.2.2.2.2.2.2.2.2.1,y12.2.1.1.2.2.2.2.2.2.2.2.2.2.2.2.1),()))) (fun y12 =>
 some ((y12.1.1.1,()),((y12.2.1.1.1,(y12.2.1.1.2.1,y12.2.1.1.2.2.1),y12.2.2.1,y12.2.1.1.2.2.2.2.1,y12.2.1.1.2.2.2.2.2.1,y12.2.1.1.2.2.2.2.2.2.1,y12.2.1.1.2.2.2.2.2.2.2.1,y12.2.1.1.2.2.2.2.2.2.2.2.1,y12.2.2.2.1,y12.2.1.1.2.2.2.2.2.2.2.2.2.2.1,y12.2.1.1.2.2.2.2.2.2.2.2.2.2.2.1,y12.2.1.1.2.2.2.2.2.2.2.2.2.2.2.2.1),())))) (fun y5 =>
 none)
 else none
 else none
theorem yOA (x:InD ycg):zjH ⟨yei,70,yxv⟩ Tryz.f165.results.toList ya4 ycg yhq x=yjt x.1 x.2.1 x.2.2.1:=by kernel_rfl
theorem yK4:ConOk Tryz.prog 165 ⟨ycg,yhq,fun x=>yjt x.1 x.2.1 x.2.2.1⟩:=zkh (yIN) Tryz.func165 (by kernel_rfl) (by kernel_rfl) Tryz.ntmps165.symm (by decide) (fun x r h=>(yOA x).trans h)
def yme (a0:dA) (a1:Int) (a2:List Int):Bool×dA:=(!(downA (yA a0 a1 a2)),yA a0 a1 a2)
def yhD (a0:dA) (a1:Int) (a2:List Int):Bool:= !(downA a0)&&(yI a0.2.1 a1&&((a2.length:Int)==a0.2.1.1 - 1&&(a0.2.2.1.length:Int)==a0.2.1.1))
theorem yM9 (a0:dA) (a1:Int) (a2:List Int) (hk:zi9 ycg (a0,a1,a2,())) (hq:yhD a0 a1 a2=true):yjt a0 a1 a2=(fun n=>some ((n.1,()),(n.2,()))) (yme a0 a1 a2):=by
 simp only [yhD,Bool.and_eq_true,beq_iff_eq,Bool.not_eq_true'] at hq
 obtain ⟨hd0,hs0,hl0,hm0⟩:=hq
 have hg:=yi.1 (yN.1 hs0).1
 have hp:=ygz hs0
 have hL:=y1q (N:=a0.2.1.1) (p:=ye a0.2.1 a1) (x:=xorOf a2) (data:=a2) ⟨by omega,by omega⟩ hp hl0
 generalize hw:(List.range a0.2.1.1.toNat).map (fun (i:Nat)=>ycc (ye a0.2.1 a1) a0.2.1.1 (xorOf a2) a2 i)=W at hL
 have hWl:W.length=a0.2.2.1.length:=by rw [← hw,List.length_map,List.length_range]; omega
 have hWat: ∀ i:Nat,i < a0.2.2.1.length→nth W i 0=ycc (ye a0.2.1 a1) a0.2.1.1 (xorOf a2) a2 i:=fun i hi=>by
  rw [← hw,zjW,zcq (by rw [List.length_map,List.length_range]; omega)]; simp
 have h1:ynx (yHc a1 a2 a2.length a0 ((List.replicate a0.2.1.1.toNat 0).set (ye a0.2.1 a1).toNat (xorOf a2)))=some (.inl (yvF a1 a0 W)):=by
  have:=zks (step:=yaZ) a2.length (fun i s=>yl9 a1 a2 a2.length i a0 s) (fun l (i:Nat)=>l.set ((ye a0.2.1 a1+1+i).tmod a0.2.1.1).toNat (nth a2 i 0)) (fun _ s=>s.length=a0.2.1.1.toNat) (fun s=> .inl (yvF a1 a0 s)) (fun i s hi hs=>⟨by
   have hd:=yLC hs0 (show (0:Int)≤i by omega) (show (i:Int)≤a0.2.1.1 - 2 by omega)
   have he:yao a0.2.1 a1 i=(ye a0.2.1 a1+1+i).tmod a0.2.1.1:=by unfold yao; rw [hs0,zk0 (show (0:Int)≤i by omega),zk0 (show (i:Int)≤a0.2.1.1 - 2 by omega)]; rfl
   simp only [yaZ,yl9,ymw,zjI (show (i:Int) < a2.length by omega),cond_true,wr (show -9223372036854775808≤(i:Int)+1 by omega) (by omega),Int.natCast_add,Int.natCast_one,Int.toNat_natCast,zkO hi,zkV,yfH,zjP.2 (show 0≤yao a0.2.1 a1 i∧yao a0.2.1 a1 i < s.length by omega)]
   rw [he],by rw [List.length_set]; exact hs⟩) (fun s hs=>by simp only [yaZ,yl9,ymw,zkm (Int.le_refl _),cond_false]) ((List.replicate a0.2.1.1.toNat 0).set (ye a0.2.1 a1).toNat (xorOf a2)) (by rw [List.length_set,List.length_replicate]) 18446744073709551616 (by omega)
  rw [hL]at this
  exact this
 have h2:ylR (yGs a1 W.length a0 W)=some (bif downA (yA a0 a1 a2) then .inr (yll false (yA a0 a1 a2)) else .inl (ylj (yA a0 a1 a2))):=by
  have:=zkr (step:=yaL) a0.2.2.1.length (fun i s=>ylg a1 W.length i s W) (fun i s=>bif downA (yaH (ye a0.2.1 a1) a0.2.1.1 a1 a2 s i) then (.inr (yaH (ye a0.2.1 a1) a0.2.1.1 a1 a2 s i):dA ⊕ dA) else .inl (yaH (ye a0.2.1 a1) a0.2.1.1 a1 a2 s i)) (fun _ s=>s.2.2.1.length=a0.2.2.1.length∧downA s=false) id
   (fun b=>bif downA b then .inr (yll false b) else .inl (ylj b)) (fun i s hi hs=>by
    constructor
    ·simp only [yaL,ylg,ylG,zjI (show (i:Int) < W.length by omega),cond_true,wr (show -9223372036854775808≤(i:Int)+1 by omega) (by omega),Int.natCast_add,Int.natCast_one,Int.toNat_natCast,zkO (show i < W.length by omega),zkV,yfI,yGp,hWat i hi,yaH]
     rw [yrA s i (dataAt a1) [ycc (ye a0.2.1 a1) a0.2.1.1 (xorOf a2) a2 i] (by unfold ycv; rw [zkO (by rw [hs.1]; exact hi),hs.2]; rfl)]
     cases hlv:yby s i a1
     ·simp only [cond_false,hs.2]
     ·simp only [zky,yct,cond_true]
      cases hd:downA (ybo s i (dataAt a1) [ycc (ye a0.2.1 a1) a0.2.1.1 (xorOf a2) a2 i])
      ·rfl
      ·simp only [hd,Bool.not_true,Bool.not_false,cond_true,yll]
    ·intro s' h
     cases hd:downA (yaH (ye a0.2.1 a1) a0.2.1.1 a1 a2 s i)
     ·rw [hd]at h
      cases h
      exact ⟨(ynu _ _ _ _ s i).trans hs.1,hd⟩
     ·rw [hd]at h; cases h) (fun s hs=>by simp only [yaL,ylg,ylG,hs.2,hWl,zkm (Int.le_refl _),cond_false,id,ylj]) a0 ⟨rfl,hd0⟩ 18446744073709551616 (by omega)
  rw [yCm (fun a i h=>yJZ _ _ _ _ i h),← List.range_eq_range'] at this
  exact this
 unfold yjt yme ydt yj7 yb8
 rw [zkH.2 (show 0≤a0.2.1.1∧a0.2.1.1 * ((8:Nat):Int)≤140737488355328 by omega)]
 simp only [cond_true]
 rw [zjP.2 (show 0≤ye a0.2.1 a1∧ye a0.2.1 a1 < ((List.replicate a0.2.1.1.toNat (0:Int)).length:Int) by rw [List.length_replicate]; omega),cond_true]
 refine (congrArg (fun z=>zjw z _ _) h1).trans ?_
 rw [zkJ]
 refine (congrArg (fun z=>zjw z _ _) h2).trans ?_
 cases hd:downA (yA a0 a1 a2)
 ·rfl
 ·simp only [cond_true,zkK,zkV]; rfl
def ycu (a0:dA) (a1:Int) (a2:List Int):Option (ResD yhq×MutD ycg):=bif yhD a0 a1 a2 then (fun n=>some ((n.1,()),(n.2,()))) (yme a0 a1 a2) else none
theorem yNC (a0:dA) (a1:Int) (a2:List Int) (h:yhD a0 a1 a2=true):ycu a0 a1 a2=(fun n=>some ((n.1,()),(n.2,()))) (yme a0 a1 a2):=by unfold ycu; rw [h]; rfl
def yxR:Con:=⟨ycg,yhq,fun x=>ycu x.1 x.2.1 x.2.2.1⟩
theorem yNy:ConOk Tryz.prog 165 yxR:=(yK4).mono (fun x r hk h=>zkW h (fun hq=>yM9 x.1 x.2.1 x.2.2.1 hk hq))
end
section
def yzb:Code:=(Tryz.f145.body).getD .skip
def yzv:Env:=zki TT [(111,yxQ),(164,ywk),(165,yxR),(200,ybN)] []
theorem yGY:FrOk Tryz.prog ⟨yzv,44,fun _=>none⟩ yzb:=zkp yb yd ⟨yNx,yLb,yNy,yeB,trivial⟩
def yIB:Nat→Option Seg:=fun _=>none
abbrev yaN:List Par:= [.pt tA (.pr .fz (.pr (.pr .fz .fz) (.pr (.ow (.pr (.ow (.ow .fz)) (.pr (.ow (.pr .fz (.ow .fz))) (.pr .fz (.ow .fz))))) (.pr .fz (.pr .fz (.pr .fz (.pr .fz (.pr .fz (.pr (.ow (.pr .fz (.ow .fz))) (.pr .fz (.pr .fz .fz))))))))))),.rd tI,.rd tL]
abbrev ydA:List OT:= [⟨false,tB,.fz⟩]
def yhL (a0:dA) (a1:Int) (a2:List Int):Option (ResD ydA×MutD yaN) :=
 bif (leb 4 (IntKind.i64.wrap (a0.2.2.2.2.2.1 - a0.2.2.2.2.2.2.1))) then
 bnd (ymf a0) fun r1 =>
 bif (!r1.1.1) then
 some ((false,()),(r1.2.1,()))
 else
 let r2:=yp a2
 bnd (ydC r1.2.1 (r1.2.1.2.2.2.2.2.1,a1,r2)) fun r3 =>
 bif (!r3.1.1) then
 some ((false,()),(r3.2.1,()))
 else
 bnd (ycu (r3.2.1.1,r3.2.1.2.1,r3.2.1.2.2.1,r3.2.1.2.2.2.1,r3.2.1.2.2.2.2.1,(IntKind.i64.wrap (r3.2.1.2.2.2.2.2.1+1)),r3.2.1.2.2.2.2.2.2) a1 a2) fun r4 =>
 some ((r4.1.1,()),(r4.2.1,()))
 else
 let r5:=yp a2
 bnd (ydC a0 (a0.2.2.2.2.2.1,a1,r5)) fun r6 =>
 bif (!r6.1.1) then
 some ((false,()),(r6.2.1,()))
 else
 bnd (ycu (r6.2.1.1,r6.2.1.2.1,r6.2.1.2.2.1,r6.2.1.2.2.2.1,r6.2.1.2.2.2.2.1,(IntKind.i64.wrap (r6.2.1.2.2.2.2.2.1+1)),r6.2.1.2.2.2.2.2.2) a1 a2) fun r7 =>
 some ((r7.1.1,()),(r7.2.1,()))
theorem yMb (x:InD yaN):zjH ⟨yzv,44,yIB⟩ Tryz.f145.results.toList yzb yaN ydA x=yhL x.1 x.2.1 x.2.2.1:=by kernel_rfl
theorem yJa:ConOk Tryz.prog 145 ⟨yaN,ydA,fun x=>yhL x.1 x.2.1 x.2.2.1⟩:=zkh (yGY) Tryz.func145 (by kernel_rfl) (by kernel_rfl) Tryz.ntmps145.symm (by decide) (fun x r h=>(yMb x).trans h)
def ygj (a0:dA) (a1:Int) (a2:List Int):Bool×dA:=(!(downA (yu a0 a1 a2).2),(yu a0 a1 a2).2)
def ygm (a0:dA) (a1:Int) (a2:List Int):Bool:= !(downA a0)&&(yI a0.2.1 a1&&((a2.length:Int)==a0.2.1.1 - 1&&(a0.2.2.1.length:Int)==a0.2.1.1))
theorem yKZ (a0:dA) (a1:Int) (a2:List Int) (hk:zi9 yaN (a0,a1,a2,())) (hq:ygm a0 a1 a2=true):yhL a0 a1 a2=(fun n=>some ((n.1,()),(n.2,()))) (ygj a0 a1 a2):=by
 simp only [ygm,Bool.and_eq_true,beq_iff_eq,Bool.not_eq_true'] at hq
 obtain ⟨hd0,hs0,hl0,hm0⟩:=hq
 have key: ∀ b:dA,b.2.1=a0.2.1→b.2.2.1.length=a0.2.2.1.length→downA (yF b (b.2.2.2.2.2.1,a1,a2))=false→ycu (yO (yF b (b.2.2.2.2.2.1,a1,a2))) a1 a2=some ((!(downA (yA (yO (yF b (b.2.2.2.2.2.1,a1,a2))) a1 a2)),()),(yA (yO (yF b (b.2.2.2.2.2.1,a1,a2))) a1 a2,())):=fun b h1 h2 h3=>yNC _ _ _ (by
  unfold yhD
  rw [show downA (yO (yF b (b.2.2.2.2.2.1,a1,a2)))=downA (yF b (b.2.2.2.2.2.1,a1,a2)) from rfl,h3,show (yO (yF b (b.2.2.2.2.2.1,a1,a2))).2.1=a0.2.1 from (yaf (ybj _ _)).trans h1,show (yO (yF b (b.2.2.2.2.2.1,a1,a2))).2.2.1.length=a0.2.2.1.length from (y0X _ _).trans h2,hs0,hl0,hm0]
  simp)
 have fin: ∀ b:dA,b.2.1=a0.2.1→b.2.2.1.length=a0.2.2.1.length→downA b=false →
   (bnd (ydC b (b.2.2.2.2.2.1,a1,a2)) fun r3=>bif !r3.1.1 then some ((false,()),(r3.2.1,())) else bnd (ycu (yO r3.2.1) a1 a2) fun r4=>(some ((r4.1.1,()),(r4.2.1,())):Option (ResD ydA×MutD yaN))) =
   some ((!(downA (bif downA (yF b (b.2.2.2.2.2.1,a1,a2)) then (6,yF b (b.2.2.2.2.2.1,a1,a2)) else (bif downA (yA (yO (yF b (b.2.2.2.2.2.1,a1,a2))) a1 a2) then 6 else 0,yA (yO (yF b (b.2.2.2.2.2.1,a1,a2))) a1 a2):Int×dA).2),()),((bif downA (yF b (b.2.2.2.2.2.1,a1,a2)) then (6,yF b (b.2.2.2.2.2.1,a1,a2)) else (bif downA (yA (yO (yF b (b.2.2.2.2.2.1,a1,a2))) a1 a2) then 6 else 0,yA (yO (yF b (b.2.2.2.2.2.1,a1,a2))) a1 a2):Int×dA).2,())):=fun b h1 h2 h3=>by
  rw [yLh b _ (by unfold ygl; rw [h3]; rfl)]
  have hk:=key b h1 h2
  simp only [zky,ygi]
  generalize yF b (b.2.2.2.2.2.1,a1,a2)=R at hk ⊢
  rcases Bool.eq_false_or_eq_true (downA R) with hr | hr
  ·simp only [hr,Bool.not_true,Bool.not_false,cond_true]
  ·rw [hk hr]
   simp only [hr,Bool.not_false,Bool.not_true,cond_false,zky]
 unfold yhL ygj yu yk
 simp only [yp]
 cases h4:leb 4 (IntKind.i64.wrap (a0.2.2.2.2.2.1 - a0.2.2.2.2.2.2.1))
 ·simp only [cond_false]
  have:=fin a0 rfl rfl hd0
  unfold yO at this ⊢
  rw [this]
  rw [show downA a0=false from hd0]; rfl
 ·simp only [cond_true]
  rw [yNB a0 (by unfold ymg; rw [hd0]; rfl)]
  simp only [zky,yhx]
  rcases Bool.eq_false_or_eq_true (downA (checkA a0)) with hc | hc
  ·simp only [hc,Bool.not_true,Bool.not_false,cond_true]
  ·have:=fin (checkA a0) (yJV a0) (ytZ a0) hc
   simp only [hc,Bool.not_false,Bool.not_true,cond_false]
   unfold yO at this ⊢
   exact this
def yj9 (a0:dA) (a1:Int) (a2:List Int):Option (ResD ydA×MutD yaN):=bif ygm a0 a1 a2 then (fun n=>some ((n.1,()),(n.2,()))) (ygj a0 a1 a2) else none
theorem yLi (a0:dA) (a1:Int) (a2:List Int) (h:ygm a0 a1 a2=true):yj9 a0 a1 a2=(fun n=>some ((n.1,()),(n.2,()))) (ygj a0 a1 a2):=by unfold yj9; rw [h]; rfl
def ywl:Con:=⟨yaN,ydA,fun x=>yj9 x.1 x.2.1 x.2.2.1⟩
theorem yLc:ConOk Tryz.prog 145 ywl:=(yJa).mono (fun x r hk h=>zkW h (fun hq=>yKZ x.1 x.2.1 x.2.2.1 hk hq))
end
section
def yxs:Code:=(Tryz.f53.body).getD .skip
def yxD:Env:=zki TT [(45,yqF),(98,yBC),(102,yEc),(116,ycL),(144,yvg),(145,ywl)] []
theorem yGj:FrOk Tryz.prog ⟨yxD,55,fun _=>none⟩ yxs:=zkp yb yd ⟨yy0,yUk,yWK,ygk,yGy,yLc,trivial⟩
def yGL:Nat→Option Seg:=fun _=>none
abbrev ycz:List Par:= [.rd tA,.rd tI,.rd tL]
abbrev yiV:List OT:= [⟨false,tA,(.pr .fz (.pr (.pr .fz .fz) (.pr (.ow (.pr (.ow (.ow .fz)) (.pr (.ow (.pr .fz (.ow .fz))) (.pr .fz (.ow .fz))))) (.pr .fz (.pr .fz (.pr .fz (.pr .fz (.pr .fz (.pr (.ow (.pr .fz (.ow .fz))) (.pr .fz (.pr .fz .fz)))))))))))⟩,⟨false,tI,.fz⟩]
def ygv (a0:dA) (a1:Int) (a2:List Int):Option (ResD yiV×MutD ycz) :=
 let r1:=yln a0
 let r2:=yds a0
 bif (!(!r2)) then
 let r3:=ydY a0.2.1 a2
 bif (!r3) then
 some ((r1,1,()),())
 else
 bif a0.2.2.2.2.2.2.2.2.2.2.1 then
 some ((r1,6,()),())
 else
 let r4:=yag a0.2.1 a1
 bif (!r4) then
 some ((r1,2,()),())
 else
 bif a0.2.2.2.2.2.2.2.2.2.2.2 then
 some ((r1,5,()),())
 else
 bif (!(a0.2.2.2.2.2.1==60000)) then
 bif (leb 59990 a0.2.2.2.2.2.2.2.1) then
 some ((r1,7,()),())
 else
 bnd (yj9 r1 a1 a2) fun r5 =>
 let r6:=ysM r5.1.1
 some ((r5.2.1,r6,()),())
 else
 some ((r1,7,()),())
 else
 some ((r1,1,()),())
theorem yJ2 (x:InD ycz):zjH ⟨yxD,55,yGL⟩ Tryz.f53.results.toList yxs ycz yiV x=ygv x.1 x.2.1 x.2.2.1:=by kernel_rfl
theorem yHk:ConOk Tryz.prog 53 ⟨ycz,yiV,fun x=>ygv x.1 x.2.1 x.2.2.1⟩:=zkh (yGj) Tryz.func53 (by kernel_rfl) (by kernel_rfl) Tryz.ntmps53.symm (by decide) (fun x r h=>(yJ2 x).trans h)
def ye5 (a0:dA) (a1:Int) (a2:List Int):dA×Int:=yxh a0 a1 a2
theorem yI5 (a0:dA) (a1:Int) (a2:List Int) (hk:zi9 ycz (a0,a1,a2,())):ygv a0 a1 a2=(fun n=>some ((n.1,n.2,()),())) (ye5 a0 a1 a2):=by
 have hz:=fun h=>yt0 (a:=a0) (s:=a1) (d:=a2) h
 unfold ygv ye5 yxh
 unfold yy at hz ⊢
 simp only [yln,yds,ye7,yh9,ycd]at hz ⊢
 cases ha:yw a0
 ·rfl
 have hg:=yi.1 (ydV ha)
 have hc:=(yLx.1 ha).1
 unfold coreOk at hc
 have hdo:ydY a0.2.1 a2=((a2.length:Int)==a0.2.1.1 - 1&&a2.all isW):=by
  unfold ydY
  rw [yvB,wr (show -9223372036854775808≤a0.2.1.1 - 1 by omega) (by omega)]
  cases ((a2.length:Int)==a0.2.1.1 - 1)<;>rfl
 rw [hdo,yxp,show yI a0.2.1 a1=(leb 0 a1&&leb a1 (a0.2.1.2 - 1)) by unfold yI; rw [ydV ha]; rfl]
 rw [ha,wr (show -9223372036854775808≤a0.2.1.1 - 1 by omega) (by omega),wr (show -9223372036854775808≤a0.2.1.2 - 1 by omega) (by omega)] at hz
 rw [wr (show -9223372036854775808≤a0.2.1.1 - 1 by omega) (by omega),wr (show -9223372036854775808≤a0.2.1.2 - 1 by omega) (by omega)]
 rw [show (a0.2.2.2.2.2.1==60000)=leb 60000 a0.2.2.2.2.2.1 by rw [Bool.eq_iff_iff,beq_iff_eq,zjQ]; omega]
 unfold bne at hz ⊢
 cases hl:((a2.length:Int)==a0.2.1.1 - 1)
 ·rfl
 cases hw:a2.all isW
 ·rfl
 rcases Bool.eq_false_or_eq_true a0.2.2.2.2.2.2.2.2.2.2.1 with hd | hd
 ·simp only [hd,Bool.not_true,Bool.not_false,Bool.and_self,cond_true,cond_false]; rfl
 cases hs:(leb 0 a1&&leb a1 (a0.2.1.2 - 1))
 ·simp only [hd,Bool.not_true,Bool.not_false,Bool.and_self,cond_true,cond_false]; rfl
 rcases Bool.eq_false_or_eq_true a0.2.2.2.2.2.2.2.2.2.2.2 with hb | hb
 ·simp only [hd,hb,Bool.not_true,Bool.not_false,Bool.and_self,cond_true,cond_false]; rfl
 cases h6:leb 60000 a0.2.2.2.2.2.1
 ·cases h7:leb 59990 a0.2.2.2.2.2.2.2.1
  ·simp only [hd,hb,Bool.not_true,Bool.not_false,Bool.and_self,cond_true,cond_false,beq_self_eq_true]
   have hso:yI a0.2.1 a1=true:=by unfold yI; rw [ydV ha,hs]; rfl
   rw [yLi a0 a1 a2 (by unfold ygm; rw [show downA a0=false from hd,hso,hl,beq_iff_eq.2 (ytV ha)]; rfl)]
   simp only [zky,ygj,ysM]
   rw [y1r]
   cases downA (yu a0 a1 a2).2<;>rfl
  ·simp only [hd,hb,Bool.not_true,Bool.not_false,Bool.and_self,cond_true,cond_false]; rfl
 ·simp only [hd,hb,Bool.not_true,Bool.not_false,Bool.and_self,cond_true,cond_false]; rfl
def yvf:Con:=⟨ycz,yiV,fun x=>(fun n=>some ((n.1,n.2,()),())) (ye5 x.1 x.2.1 x.2.2.1)⟩
theorem yJf:ConOk Tryz.prog 53 yvf:=(yHk).mono (fun x r hk h=>(yI5 x.1 x.2.1 x.2.2.1 hk).trans h)
end
section
def ydU:Code:=(Tryz.f103.body).getD .skip
def yhO:Env:=zki TT [(152,yfv)] [(8192,(.pr (.ow .fz) (.pr (.ow (.pr .fz .fz)) (.pr .fz (.ow .fz))))),(25088,(.pr (.ow .fz) (.pr (.ow (.pr .fz .fz)) (.pr .fz (.ow .fz))))),(28672,(.pr .fz .fz)),(46144,(.pr .fz .fz))]
theorem yPe:FrOk Tryz.prog ⟨yhO,57,fun _=>none⟩ ydU:=zkp yb yd ⟨ylD,trivial⟩
def yDr:Nat→Option Seg:=fun _=>none
def yco:Shape:=⟨[(1,false,[.ptr 0 0]),(2,false,[.ptr 64 0]),(3,false,[.ptr 4160 0]),(4,false,[.int .i64])],[(0,[.int .i64,.int .i64,.int .i64,.br tM,.int .i64,.int .i64,.int .i64,.int .i64,.int .i64,.br tW,.int .i64,.bool,.bool]),(64,[.int .i64,.int .i64,.int .i64,.nil,.int .i64,.int .i64,.int .i64,.int .i64,.int .i64,.nil,.int .i64,.bool,.bool]),(4160,[.int .i64,.int .i64,.int .i64,.at 800000000,.int .i64,.int .i64,.int .i64,.int .i64,.int .i64,.br tW,.int .i64,.bool,.bool])],[(800000000,tM,(.pr (.ow .fz) (.pr (.ow (.pr .fz .fz)) (.pr .fz (.ow .fz)))))]⟩
def yhk:Shape:=⟨[(1,false,[.ptr 0 0]),(2,false,[.ptr 64 0]),(3,false,[.ptr 4160 0]),(4,false,[.ci .i64 0])],[(0,[.int .i64,.int .i64,.int .i64,.br tM,.int .i64,.int .i64,.int .i64,.int .i64,.int .i64,.br tW,.int .i64,.bool,.bool]),(64,[.int .i64,.int .i64,.int .i64,.nil,.int .i64,.int .i64,.int .i64,.int .i64,.int .i64,.nil,.int .i64,.bool,.bool]),(4160,[.int .i64,.int .i64,.int .i64,.at 800000000,.int .i64,.int .i64,.int .i64,.int .i64,.int .i64,.br tW,.int .i64,.bool,.bool])],[(800000000,tM,(.pr (.ow .fz) (.pr (.ow (.pr .fz .fz)) (.pr .fz (.ow .fz)))))]⟩
def yg9:Shape:=⟨[(1,false,[.ptr 0 0]),(2,false,[.ptr 64 0]),(3,false,[.ptr 4160 0])],[(0,[.int .i64,.int .i64,.int .i64,.br tM,.int .i64,.int .i64,.int .i64,.int .i64,.int .i64,.br tW,.int .i64,.bool,.bool]),(64,[.int .i64,.int .i64,.int .i64,.nil,.int .i64,.int .i64,.int .i64,.int .i64,.int .i64,.nil,.int .i64,.bool,.bool]),(4160,[.int .i64,.int .i64,.int .i64,.at 800000000,.int .i64,.int .i64,.int .i64,.int .i64,.int .i64,.br tW,.int .i64,.bool,.bool])],[(800000000,tM,(.pr (.ow .fz) (.pr (.ow (.pr .fz .fz)) (.pr .fz (.ow .fz)))))]⟩
def yl2:Shape:=⟨[],[],[]⟩
abbrev yru (v0:Int) (v1 v2 v3:dA):(yco).X:=((((),()),((),()),((),()),(v0,()),()),((v1.1,v1.2.1.1,v1.2.1.2,v1.2.2.1,v1.2.2.2.1,v1.2.2.2.2.1,v1.2.2.2.2.2.1,v1.2.2.2.2.2.2.1,v1.2.2.2.2.2.2.2.1,v1.2.2.2.2.2.2.2.2.1,v1.2.2.2.2.2.2.2.2.2.1,v1.2.2.2.2.2.2.2.2.2.2.1,v1.2.2.2.2.2.2.2.2.2.2.2,()),(v2.1,v2.2.1.1,v2.2.1.2,(),v2.2.2.2.1,v2.2.2.2.2.1,v2.2.2.2.2.2.1,v2.2.2.2.2.2.2.1,v2.2.2.2.2.2.2.2.1,(),v2.2.2.2.2.2.2.2.2.2.1,v2.2.2.2.2.2.2.2.2.2.2.1,v2.2.2.2.2.2.2.2.2.2.2.2,()),(v3.1,v3.2.1.1,v3.2.1.2,(),v3.2.2.2.1,v3.2.2.2.2.1,v3.2.2.2.2.2.1,v3.2.2.2.2.2.2.1,v3.2.2.2.2.2.2.2.1,v3.2.2.2.2.2.2.2.2.1,v3.2.2.2.2.2.2.2.2.2.1,v3.2.2.2.2.2.2.2.2.2.2.1,v3.2.2.2.2.2.2.2.2.2.2.2,()),()),(v3.2.2.1,()))
abbrev yM1 (v0 v1 v2:dA):(yhk).X:=((((),()),((),()),((),()),((),()),()),((v0.1,v0.2.1.1,v0.2.1.2,v0.2.2.1,v0.2.2.2.1,v0.2.2.2.2.1,v0.2.2.2.2.2.1,v0.2.2.2.2.2.2.1,v0.2.2.2.2.2.2.2.1,v0.2.2.2.2.2.2.2.2.1,v0.2.2.2.2.2.2.2.2.2.1,v0.2.2.2.2.2.2.2.2.2.2.1,v0.2.2.2.2.2.2.2.2.2.2.2,()),(v1.1,v1.2.1.1,v1.2.1.2,(),v1.2.2.2.1,v1.2.2.2.2.1,v1.2.2.2.2.2.1,v1.2.2.2.2.2.2.1,v1.2.2.2.2.2.2.2.1,(),v1.2.2.2.2.2.2.2.2.2.1,v1.2.2.2.2.2.2.2.2.2.2.1,v1.2.2.2.2.2.2.2.2.2.2.2,()),(v2.1,v2.2.1.1,v2.2.1.2,(),v2.2.2.2.1,v2.2.2.2.2.1,v2.2.2.2.2.2.1,v2.2.2.2.2.2.2.1,v2.2.2.2.2.2.2.2.1,v2.2.2.2.2.2.2.2.2.1,v2.2.2.2.2.2.2.2.2.2.1,v2.2.2.2.2.2.2.2.2.2.2.1,v2.2.2.2.2.2.2.2.2.2.2.2,()),()),(v2.2.2.1,()))
abbrev yMS (v0 v1 v2:dA):(yg9).X:=((((),()),((),()),((),()),()),((v0.1,v0.2.1.1,v0.2.1.2,v0.2.2.1,v0.2.2.2.1,v0.2.2.2.2.1,v0.2.2.2.2.2.1,v0.2.2.2.2.2.2.1,v0.2.2.2.2.2.2.2.1,v0.2.2.2.2.2.2.2.2.1,v0.2.2.2.2.2.2.2.2.2.1,v0.2.2.2.2.2.2.2.2.2.2.1,v0.2.2.2.2.2.2.2.2.2.2.2,()),(v1.1,v1.2.1.1,v1.2.1.2,(),v1.2.2.2.1,v1.2.2.2.2.1,v1.2.2.2.2.2.1,v1.2.2.2.2.2.2.1,v1.2.2.2.2.2.2.2.1,(),v1.2.2.2.2.2.2.2.2.2.1,v1.2.2.2.2.2.2.2.2.2.2.1,v1.2.2.2.2.2.2.2.2.2.2.2,()),(v2.1,v2.2.1.1,v2.2.1.2,(),v2.2.2.2.1,v2.2.2.2.2.1,v2.2.2.2.2.2.1,v2.2.2.2.2.2.2.1,v2.2.2.2.2.2.2.2.1,v2.2.2.2.2.2.2.2.2.1,v2.2.2.2.2.2.2.2.2.2.1,v2.2.2.2.2.2.2.2.2.2.2.1,v2.2.2.2.2.2.2.2.2.2.2.2,()),()),(v2.2.2.1,()))
def yrK (v0 v1 v2 v3:Int) (v4:List dM) (v5 v6 v7 v8 v9:Int) (v10:List dW) (v11:Int) (v12 v13:Bool) (v14 v15 v16 v17 v18 v19 v20 v21 v22:Int) (v23 v24:Bool) (v25 v26 v27 v28 v29 v30 v31 v32:Int) (v33:List dW) (v34:Int) (v35 v36:Bool) (v37:List dM):Option ((yco).X ⊕ ((yg9).X ⊕ (yl2).X)) :=
 bif (ltb v0 (v4.length:Int)) then
 bif (inb v0 v4.length) then
 let r2:=yX ((nth v4 v0 ([],[],false,[])).1,((nth v4 v0 ([],[],false,[])).2).1,(((nth v4 v0 ([],[],false,[])).2).2))
 bif (zj4 v37.length ([r2]:List dM).length 80) then
 some (.inl ((((),()),((),()),((),()),((IntKind.i64.wrap (v0+1)),()),()),((v1,v2,v3,v4,v5,v6,v7,v8,v9,v10,v11,v12,v13,()),(v14,v15,v16,(),v17,v18,v19,v20,v21,(),v22,v23,v24,()),(v25,v26,v27,(),v28,v29,v30,v31,v32,v33,v34,v35,v36,()),()),((v37++([r2]:List dM)),())))
 else none
 else none
 else
 some (.inr (.inl ((((),()),((),()),((),()),()),((v1,v2,v3,v4,v5,v6,v7,v8,v9,v10,v11,v12,v13,()),(v14,v15,v16,(),v17,v18,v19,v20,v21,(),v22,v23,v24,()),(v25,v26,v27,(),v28,v29,v30,v31,v32,v33,v34,v35,v36,()),()),(v37,()))))
def ycV (x:(yco).X):=yrK x.1.2.2.2.1.1 x.2.1.1.1 x.2.1.1.2.1 x.2.1.1.2.2.1 x.2.1.1.2.2.2.1 x.2.1.1.2.2.2.2.1 x.2.1.1.2.2.2.2.2.1 x.2.1.1.2.2.2.2.2.2.1 x.2.1.1.2.2.2.2.2.2.2.1 x.2.1.1.2.2.2.2.2.2.2.2.1 x.2.1.1.2.2.2.2.2.2.2.2.2.1 x.2.1.1.2.2.2.2.2.2.2.2.2.2.1 x.2.1.1.2.2.2.2.2.2.2.2.2.2.2.1 x.2.1.1.2.2.2.2.2.2.2.2.2.2.2.2.1 x.2.1.2.1.1 x.2.1.2.1.2.1 x.2.1.2.1.2.2.1 x.2.1.2.1.2.2.2.2.1 x.2.1.2.1.2.2.2.2.2.1 x.2.1.2.1.2.2.2.2.2.2.1 x.2.1.2.1.2.2.2.2.2.2.2.1 x.2.1.2.1.2.2.2.2.2.2.2.2.1 x.2.1.2.1.2.2.2.2.2.2.2.2.2.2.1 x.2.1.2.1.2.2.2.2.2.2.2.2.2.2.2.1 x.2.1.2.1.2.2.2.2.2.2.2.2.2.2.2.2.1 x.2.1.2.2.1.1 x.2.1.2.2.1.2.1 x.2.1.2.2.1.2.2.1 x.2.1.2.2.1.2.2.2.2.1 x.2.1.2.2.1.2.2.2.2.2.1 x.2.1.2.2.1.2.2.2.2.2.2.1 x.2.1.2.2.1.2.2.2.2.2.2.2.1 x.2.1.2.2.1.2.2.2.2.2.2.2.2.1 x.2.1.2.2.1.2.2.2.2.2.2.2.2.2.1 x.2.1.2.2.1.2.2.2.2.2.2.2.2.2.2.1 x.2.1.2.2.1.2.2.2.2.2.2.2.2.2.2.2.1 x.2.1.2.2.1.2.2.2.2.2.2.2.2.2.2.2.2.1 x.2.2.1
def yz5 (x:(yhk).X):(yco).X:=((((),()),((),()),((),()),(0,()),()),((x.2.1.1.1,x.2.1.1.2.1,x.2.1.1.2.2.1,x.2.1.1.2.2.2.1,x.2.1.1.2.2.2.2.1,x.2.1.1.2.2.2.2.2.1,x.2.1.1.2.2.2.2.2.2.1,x.2.1.1.2.2.2.2.2.2.2.1,x.2.1.1.2.2.2.2.2.2.2.2.1,x.2.1.1.2.2.2.2.2.2.2.2.2.1,x.2.1.1.2.2.2.2.2.2.2.2.2.2.1,x.2.1.1.2.2.2.2.2.2.2.2.2.2.2.1,x.2.1.1.2.2.2.2.2.2.2.2.2.2.2.2.1,()),(x.2.1.2.1.1,x.2.1.2.1.2.1,x.2.1.2.1.2.2.1,(),x.2.1.2.1.2.2.2.2.1,x.2.1.2.1.2.2.2.2.2.1,x.2.1.2.1.2.2.2.2.2.2.1,x.2.1.2.1.2.2.2.2.2.2.2.1,x.2.1.2.1.2.2.2.2.2.2.2.2.1,(),x.2.1.2.1.2.2.2.2.2.2.2.2.2.2.1,x.2.1.2.1.2.2.2.2.2.2.2.2.2.2.2.1,x.2.1.2.1.2.2.2.2.2.2.2.2.2.2.2.2.1,()),(x.2.1.2.2.1.1,x.2.1.2.2.1.2.1,x.2.1.2.2.1.2.2.1,(),x.2.1.2.2.1.2.2.2.2.1,x.2.1.2.2.1.2.2.2.2.2.1,x.2.1.2.2.1.2.2.2.2.2.2.1,x.2.1.2.2.1.2.2.2.2.2.2.2.1,x.2.1.2.2.1.2.2.2.2.2.2.2.2.1,x.2.1.2.2.1.2.2.2.2.2.2.2.2.2.1,x.2.1.2.2.1.2.2.2.2.2.2.2.2.2.2.1,x.2.1.2.2.1.2.2.2.2.2.2.2.2.2.2.2.1,x.2.1.2.2.1.2.2.2.2.2.2.2.2.2.2.2.2.1,()),()),(x.2.2.1,()))
def yBv:Code:=(zdI ydU 64 244).getD .skip
theorem yOt:zdI ydU 64 61=some (.block 0 (.loop yBv)):=by kernel_rfl
theorem yQ9 (x:(yco).X):zg7 ⟨yhO,57,yDr⟩ 0 yBv 244 yco yg9 yl2 x=ycV x:=by kernel_rfl
def yAg (x:(yhk).X):Nat:=18446744073709551616
def ys3 (x:(yhk).X):Option ((yg9).X ⊕ (yl2).X):=zr ycV (yAg x) (yz5 x)
def yAx:Seg:=⟨yhk,yg9,yl2,ys3⟩
def yum:Nat→Option Seg:=fun q=>bif Nat.beq q 61 then some yAx else yDr q
theorem yPf:FrOk Tryz.prog ⟨yhO,57,yum⟩ ydU:=(yPe).loop (sg:=yAx) yco yz5 (by decide) yOt ycV yAg (by decide) (fun _=>rfl) (fun x r _ h=>h) yQ9
def ybK:Shape:=⟨[(1,false,[.ptr 0 0]),(2,false,[.ptr 64 0]),(3,false,[.ptr 4160 0]),(5,false,[.int .i64])],[(0,[.int .i64,.int .i64,.int .i64,.br tM,.int .i64,.int .i64,.int .i64,.int .i64,.int .i64,.br tW,.int .i64,.bool,.bool]),(64,[.int .i64,.int .i64,.int .i64,.nil,.int .i64,.int .i64,.int .i64,.int .i64,.int .i64,.nil,.int .i64,.bool,.bool]),(4160,[.int .i64,.int .i64,.int .i64,.at 800000000,.int .i64,.int .i64,.int .i64,.int .i64,.int .i64,.at 800000001,.int .i64,.bool,.bool])],[(800000000,tM,(.pr (.ow .fz) (.pr (.ow (.pr .fz .fz)) (.pr .fz (.ow .fz))))),(800000001,tW,(.pr .fz .fz))]⟩
def yga:Shape:=⟨[(1,false,[.ptr 0 0]),(2,false,[.ptr 64 0]),(3,false,[.ptr 4160 0]),(5,false,[.ci .i64 0])],[(0,[.int .i64,.int .i64,.int .i64,.br tM,.int .i64,.int .i64,.int .i64,.int .i64,.int .i64,.br tW,.int .i64,.bool,.bool]),(64,[.int .i64,.int .i64,.int .i64,.nil,.int .i64,.int .i64,.int .i64,.int .i64,.int .i64,.nil,.int .i64,.bool,.bool]),(4160,[.int .i64,.int .i64,.int .i64,.at 800000000,.int .i64,.int .i64,.int .i64,.int .i64,.int .i64,.at 800000001,.int .i64,.bool,.bool])],[(800000000,tM,(.pr (.ow .fz) (.pr (.ow (.pr .fz .fz)) (.pr .fz (.ow .fz))))),(800000001,tW,(.pr .fz .fz))]⟩
def yfY:Shape:=⟨[(2,false,[.ptr 64 0]),(3,false,[.ptr 4160 0])],[(64,[.int .i64,.int .i64,.int .i64,.nil,.int .i64,.int .i64,.int .i64,.int .i64,.int .i64,.nil,.int .i64,.bool,.bool]),(4160,[.int .i64,.int .i64,.int .i64,.at 800000000,.int .i64,.int .i64,.int .i64,.int .i64,.int .i64,.at 800000001,.int .i64,.bool,.bool])],[(800000000,tM,(.pr (.ow .fz) (.pr (.ow (.pr .fz .fz)) (.pr .fz (.ow .fz))))),(800000001,tW,(.pr .fz .fz))]⟩
def yj2:Shape:=⟨[],[],[]⟩
abbrev ypO (v0:Int) (v1 v2 v3:dA):(ybK).X:=((((),()),((),()),((),()),(v0,()),()),((v1.1,v1.2.1.1,v1.2.1.2,v1.2.2.1,v1.2.2.2.1,v1.2.2.2.2.1,v1.2.2.2.2.2.1,v1.2.2.2.2.2.2.1,v1.2.2.2.2.2.2.2.1,v1.2.2.2.2.2.2.2.2.1,v1.2.2.2.2.2.2.2.2.2.1,v1.2.2.2.2.2.2.2.2.2.2.1,v1.2.2.2.2.2.2.2.2.2.2.2,()),(v2.1,v2.2.1.1,v2.2.1.2,(),v2.2.2.2.1,v2.2.2.2.2.1,v2.2.2.2.2.2.1,v2.2.2.2.2.2.2.1,v2.2.2.2.2.2.2.2.1,(),v2.2.2.2.2.2.2.2.2.2.1,v2.2.2.2.2.2.2.2.2.2.2.1,v2.2.2.2.2.2.2.2.2.2.2.2,()),(v3.1,v3.2.1.1,v3.2.1.2,(),v3.2.2.2.1,v3.2.2.2.2.1,v3.2.2.2.2.2.1,v3.2.2.2.2.2.2.1,v3.2.2.2.2.2.2.2.1,(),v3.2.2.2.2.2.2.2.2.2.1,v3.2.2.2.2.2.2.2.2.2.2.1,v3.2.2.2.2.2.2.2.2.2.2.2,()),()),(v3.2.2.1,v3.2.2.2.2.2.2.2.2.1,()))
abbrev yKR (v0 v1 v2:dA):(yga).X:=((((),()),((),()),((),()),((),()),()),((v0.1,v0.2.1.1,v0.2.1.2,v0.2.2.1,v0.2.2.2.1,v0.2.2.2.2.1,v0.2.2.2.2.2.1,v0.2.2.2.2.2.2.1,v0.2.2.2.2.2.2.2.1,v0.2.2.2.2.2.2.2.2.1,v0.2.2.2.2.2.2.2.2.2.1,v0.2.2.2.2.2.2.2.2.2.2.1,v0.2.2.2.2.2.2.2.2.2.2.2,()),(v1.1,v1.2.1.1,v1.2.1.2,(),v1.2.2.2.1,v1.2.2.2.2.1,v1.2.2.2.2.2.1,v1.2.2.2.2.2.2.1,v1.2.2.2.2.2.2.2.1,(),v1.2.2.2.2.2.2.2.2.2.1,v1.2.2.2.2.2.2.2.2.2.2.1,v1.2.2.2.2.2.2.2.2.2.2.2,()),(v2.1,v2.2.1.1,v2.2.1.2,(),v2.2.2.2.1,v2.2.2.2.2.1,v2.2.2.2.2.2.1,v2.2.2.2.2.2.2.1,v2.2.2.2.2.2.2.2.1,(),v2.2.2.2.2.2.2.2.2.2.1,v2.2.2.2.2.2.2.2.2.2.2.1,v2.2.2.2.2.2.2.2.2.2.2.2,()),()),(v2.2.2.1,v2.2.2.2.2.2.2.2.2.1,()))
abbrev yKF (v0 v1:dA):(yfY).X:=((((),()),((),()),()),((v0.1,v0.2.1.1,v0.2.1.2,(),v0.2.2.2.1,v0.2.2.2.2.1,v0.2.2.2.2.2.1,v0.2.2.2.2.2.2.1,v0.2.2.2.2.2.2.2.1,(),v0.2.2.2.2.2.2.2.2.2.1,v0.2.2.2.2.2.2.2.2.2.2.1,v0.2.2.2.2.2.2.2.2.2.2.2,()),(v1.1,v1.2.1.1,v1.2.1.2,(),v1.2.2.2.1,v1.2.2.2.2.1,v1.2.2.2.2.2.1,v1.2.2.2.2.2.2.1,v1.2.2.2.2.2.2.2.1,(),v1.2.2.2.2.2.2.2.2.2.1,v1.2.2.2.2.2.2.2.2.2.2.1,v1.2.2.2.2.2.2.2.2.2.2.2,()),()),(v1.2.2.1,v1.2.2.2.2.2.2.2.2.1,()))
def yqb (v0 v1 v2 v3:Int) (v4:List dM) (v5 v6 v7 v8 v9:Int) (v10:List dW) (v11:Int) (v12 v13:Bool) (v14 v15 v16 v17 v18 v19 v20 v21 v22:Int) (v23 v24:Bool) (v25 v26 v27 v28 v29 v30 v31 v32 v33:Int) (v34 v35:Bool) (v36:List dM) (v37:List dW):Option ((ybK).X ⊕ ((yfY).X ⊕ (yj2).X)) :=
 bif (ltb v0 (v10.length:Int)) then
 bif (inb v0 v10.length) then
 bif (inb v0 v10.length) then
 bif (zj4 ([]:List Int).length ((nth v10 v0 (0,[])).2).length 8) then
 bif (zj4 v37.length ([((nth v10 v0 (0,[])).1,(([]:List Int)++((nth v10 v0 (0,[])).2)))]:List dW).length 32) then
 some (.inl ((((),()),((),()),((),()),((IntKind.i64.wrap (v0+1)),()),()),((v1,v2,v3,v4,v5,v6,v7,v8,v9,v10,v11,v12,v13,()),(v14,v15,v16,(),v17,v18,v19,v20,v21,(),v22,v23,v24,()),(v25,v26,v27,(),v28,v29,v30,v31,v32,(),v33,v34,v35,()),()),(v36,(v37++([((nth v10 v0 (0,[])).1,(([]:List Int)++((nth v10 v0 (0,[])).2)))]:List dW)),())))
 else none
 else none
 else none
 else none
 else
 some (.inr (.inl ((((),()),((),()),()),((v14,v15,v16,(),v17,v18,v19,v20,v21,(),v22,v23,v24,()),(v25,v26,v27,(),v28,v29,v30,v31,v32,(),v33,v34,v35,()),()),(v36,v37,()))))
def yb2 (x:(ybK).X):=yqb x.1.2.2.2.1.1 x.2.1.1.1 x.2.1.1.2.1 x.2.1.1.2.2.1 x.2.1.1.2.2.2.1 x.2.1.1.2.2.2.2.1 x.2.1.1.2.2.2.2.2.1 x.2.1.1.2.2.2.2.2.2.1 x.2.1.1.2.2.2.2.2.2.2.1 x.2.1.1.2.2.2.2.2.2.2.2.1 x.2.1.1.2.2.2.2.2.2.2.2.2.1 x.2.1.1.2.2.2.2.2.2.2.2.2.2.1 x.2.1.1.2.2.2.2.2.2.2.2.2.2.2.1 x.2.1.1.2.2.2.2.2.2.2.2.2.2.2.2.1 x.2.1.2.1.1 x.2.1.2.1.2.1 x.2.1.2.1.2.2.1 x.2.1.2.1.2.2.2.2.1 x.2.1.2.1.2.2.2.2.2.1 x.2.1.2.1.2.2.2.2.2.2.1 x.2.1.2.1.2.2.2.2.2.2.2.1 x.2.1.2.1.2.2.2.2.2.2.2.2.1 x.2.1.2.1.2.2.2.2.2.2.2.2.2.2.1 x.2.1.2.1.2.2.2.2.2.2.2.2.2.2.2.1 x.2.1.2.1.2.2.2.2.2.2.2.2.2.2.2.2.1 x.2.1.2.2.1.1 x.2.1.2.2.1.2.1 x.2.1.2.2.1.2.2.1 x.2.1.2.2.1.2.2.2.2.1 x.2.1.2.2.1.2.2.2.2.2.1 x.2.1.2.2.1.2.2.2.2.2.2.1 x.2.1.2.2.1.2.2.2.2.2.2.2.1 x.2.1.2.2.1.2.2.2.2.2.2.2.2.1 x.2.1.2.2.1.2.2.2.2.2.2.2.2.2.2.1 x.2.1.2.2.1.2.2.2.2.2.2.2.2.2.2.2.1 x.2.1.2.2.1.2.2.2.2.2.2.2.2.2.2.2.2.1 x.2.2.1 x.2.2.2.1
def yx6 (x:(yga).X):(ybK).X:=((((),()),((),()),((),()),(0,()),()),((x.2.1.1.1,x.2.1.1.2.1,x.2.1.1.2.2.1,x.2.1.1.2.2.2.1,x.2.1.1.2.2.2.2.1,x.2.1.1.2.2.2.2.2.1,x.2.1.1.2.2.2.2.2.2.1,x.2.1.1.2.2.2.2.2.2.2.1,x.2.1.1.2.2.2.2.2.2.2.2.1,x.2.1.1.2.2.2.2.2.2.2.2.2.1,x.2.1.1.2.2.2.2.2.2.2.2.2.2.1,x.2.1.1.2.2.2.2.2.2.2.2.2.2.2.1,x.2.1.1.2.2.2.2.2.2.2.2.2.2.2.2.1,()),(x.2.1.2.1.1,x.2.1.2.1.2.1,x.2.1.2.1.2.2.1,(),x.2.1.2.1.2.2.2.2.1,x.2.1.2.1.2.2.2.2.2.1,x.2.1.2.1.2.2.2.2.2.2.1,x.2.1.2.1.2.2.2.2.2.2.2.1,x.2.1.2.1.2.2.2.2.2.2.2.2.1,(),x.2.1.2.1.2.2.2.2.2.2.2.2.2.2.1,x.2.1.2.1.2.2.2.2.2.2.2.2.2.2.2.1,x.2.1.2.1.2.2.2.2.2.2.2.2.2.2.2.2.1,()),(x.2.1.2.2.1.1,x.2.1.2.2.1.2.1,x.2.1.2.2.1.2.2.1,(),x.2.1.2.2.1.2.2.2.2.1,x.2.1.2.2.1.2.2.2.2.2.1,x.2.1.2.2.1.2.2.2.2.2.2.1,x.2.1.2.2.1.2.2.2.2.2.2.2.1,x.2.1.2.2.1.2.2.2.2.2.2.2.2.1,(),x.2.1.2.2.1.2.2.2.2.2.2.2.2.2.2.1,x.2.1.2.2.1.2.2.2.2.2.2.2.2.2.2.2.1,x.2.1.2.2.1.2.2.2.2.2.2.2.2.2.2.2.2.1,()),()),(x.2.2.1,x.2.2.2.1,()))
def yzK:Code:=(zdI ydU 64 1012).getD .skip
theorem yL7:zdI ydU 64 253=some (.block 2 (.loop yzK)):=by kernel_rfl
theorem yNO (x:(ybK).X):zg7 ⟨yhO,57,yum⟩ 2 yzK 1012 ybK yfY yj2 x=yb2 x:=by kernel_rfl
def yyn (x:(yga).X):Nat:=18446744073709551616
def yri (x:(yga).X):Option ((yfY).X ⊕ (yj2).X):=zr yb2 (yyn x) (yx6 x)
def yyN:Seg:=⟨yga,yfY,yj2,yri⟩
def yDs:Nat→Option Seg:=fun q=>bif Nat.beq q 253 then some yyN else yum q
theorem yPg:FrOk Tryz.prog ⟨yhO,57,yDs⟩ ydU:=(yPf).loop (sg:=yyN) ybK yx6 (by decide) yL7 yb2 yyn (by decide) (fun _=>rfl) (fun x r _ h=>h) yNO
abbrev yhZ:List Par:= [.rd tA]
abbrev ysE:List OT:= [⟨false,tA,(.pr .fz (.pr (.pr .fz .fz) (.pr (.ow (.pr (.ow .fz) (.pr (.ow (.pr .fz .fz)) (.pr .fz (.ow .fz))))) (.pr .fz (.pr .fz (.pr .fz (.pr .fz (.pr .fz (.pr (.ow (.pr .fz .fz)) (.pr .fz (.pr .fz .fz)))))))))))⟩]
def yoS (a0:dA):Option (ResD ysE×MutD yhZ) :=
 zjw (ys3 ((((),()),((),()),((),()),((),()),()),((a0.1,a0.2.1.1,a0.2.1.2,a0.2.2.1,a0.2.2.2.1,a0.2.2.2.2.1,a0.2.2.2.2.2.1,a0.2.2.2.2.2.2.1,a0.2.2.2.2.2.2.2.1,a0.2.2.2.2.2.2.2.2.1,a0.2.2.2.2.2.2.2.2.2.1,a0.2.2.2.2.2.2.2.2.2.2.1,a0.2.2.2.2.2.2.2.2.2.2.2,()),(0,0,0,(),0,0,0,0,0,(),0,false,false,()),(a0.1,a0.2.1.1,a0.2.1.2,(),a0.2.2.2.1,a0.2.2.2.2.1,a0.2.2.2.2.2.1,a0.2.2.2.2.2.2.1,a0.2.2.2.2.2.2.2.1,a0.2.2.2.2.2.2.2.2.1,a0.2.2.2.2.2.2.2.2.2.1,a0.2.2.2.2.2.2.2.2.2.2.1,a0.2.2.2.2.2.2.2.2.2.2.2,()),()),(([]:List dM),()))) (fun y2 =>
 zjw (yri ((((),()),((),()),((),()),((),()),()),((y2.2.1.1.1,y2.2.1.1.2.1,y2.2.1.1.2.2.1,y2.2.1.1.2.2.2.1,y2.2.1.1.2.2.2.2.1,y2.2.1.1.2.2.2.2.2.1,y2.2.1.1.2.2.2.2.2.2.1,y2.2.1.1.2.2.2.2.2.2.2.1,y2.2.1.1.2.2.2.2.2.2.2.2.1,y2.2.1.1.2.2.2.2.2.2.2.2.2.1,y2.2.1.1.2.2.2.2.2.2.2.2.2.2.1,y2.2.1.1.2.2.2.2.2.2.2.2.2.2.2.1,y2.2.1.1.2.2.2.2.2.2.2.2.2.2.2.2.1,()),(y2.2.1.2.1.1,y2.2.1.2.1.2.1,y2.2.1.2.1.2.2.1,(),y2.2.1.2.1.2.2.2.2.1,y2.2.1.2.1.2.2.2.2.2.1,y2.2.1.2.1.2.2.2.2.2.2.1,y2.2.1.2.1.2.2.2.2.2.2.2.1,y2.2.1.2.1.2.2.2.2.2.2.2.2.1,(),y2.2.1.2.1.2.2.2.2.2.2.2.2.2.2.1,y2.2.1.2.1.2.2.2.2.2.2.2.2.2.2.2.1,y2.2.1.2.1.2.2.2.2.2.2.2.2.2.2.2.2.1,()),(y2.2.1.2.2.1.1,y2.2.1.2.2.1.2.1,y2.2.1.2.2.1.2.2.1,(),y2.2.1.2.2.1.2.2.2.2.1,y2.2.1.2.2.1.2.2.2.2.2.1,y2.2.1.2.2.1.2.2.2.2.2.2.1,y2.2.1.2.2.1.2.2.2.2.2.2.2.1,y2.2.1.2.2.1.2.2.2.2.2.2.2.2.1,(),y2.2.1.2.2.1.2.2.2.2.2.2.2.2.2.2.1,y2.2.1.2.2.1.2.2.2.2.2.2.2.2.2.2.2.1,y2.2.1.2.2.1.2.2.2.2.2.2.2.2.2.2.2.2.1,()),()),(y2.2.2.1,([]:List dW),()))) (fun y3 =>
 some (((y3.2.1.2.1.1,(y3.2.1.2.1.2.1,y3.2.1.2.1.2.2.1),y3.2.2.1,y3.2.1.2.1.2.2.2.2.1,y3.2.1.2.1.2.2.2.2.2.1,y3.2.1.2.1.2.2.2.2.2.2.1,y3.2.1.2.1.2.2.2.2.2.2.2.1,y3.2.1.2.1.2.2.2.2.2.2.2.2.1,y3.2.2.2.1,y3.2.1.2.1.2.2.2.2.2.2.2.2.2.2.1,y3.2.1.2.1.2.2.2.2.2.2.2.2.2.2.2.1,y3.2.1.2.1.2.2.2.2.2.2.2.2.2.2.2.2.1),()),())) (fun y3 =>
 none)) (fun y2 =>
 none)
theorem yYh (x:InD yhZ):zjH ⟨yhO,57,yDs⟩ Tryz.f103.results.toList ydU yhZ ysE x=yoS x.1:=by kernel_rfl
theorem yT7:ConOk Tryz.prog 103 ⟨yhZ,ysE,fun x=>yoS x.1⟩:=zkh (yPg) Tryz.func103 (by kernel_rfl) (by kernel_rfl) Tryz.ntmps103.symm (by decide) (fun x r h=>(yYh x).trans h)
def ynj (a0:dA):dA:=a0
theorem yWa (a0:dA) (hk:zi9 yhZ (a0,())):yoS a0=(fun n=>some ((n,()),())) (ynj a0):=by
 have hb:a0.2.2.1.length * 80≤2 ^ 47:=hk.1.2.2.1.1
 have hb2:a0.2.2.2.2.2.2.2.2.1.length * 32≤2 ^ 47:=hk.1.2.2.2.2.2.2.2.2.1.1
 have hc: ∀ i,i < a0.2.2.2.2.2.2.2.2.1.length→(a0.2.2.2.2.2.2.2.2.1.getD i (0,[])).2.length * 8≤2 ^ 47:=fun i hi=>by rw [zcq hi]; exact (hk.1.2.2.2.2.2.2.2.2.1.2 _ (List.getElem_mem hi)).2.1
 have h1:=zkk (step:=ycV) a0.2.2.1 noMem (fun i s=>yru i a0 ydv (a0.1,a0.2.1,s,a0.2.2.2)) (fun s x=>s++ [x]) (fun i s=>s.length=i) (fun s=> .inl (yMS a0 ydv (a0.1,a0.2.1,s,a0.2.2.2))) (fun i s hi hs=>⟨by
   simp only [ycV,yru,yrK,zjI (show (i:Int) < a0.2.2.1.length by omega),cond_true,wr (show -9223372036854775808≤(i:Int)+1 by omega) (by omega),Int.natCast_add,Int.natCast_one,Int.toNat_natCast,zkO hi,zjW,yX,zkV]
   rw [zkw.2 (show (s.length+ [a0.2.2.1.getD i ([],[],false,[])].length) * 80≤140737488355328 by simp only [List.length_cons,List.length_nil]; omega)]; rfl,by simp [hs]⟩) (fun s hs=>by simp only [ycV,yru,yrK,zkm (Int.le_refl _),cond_false]) [] rfl 18446744073709551616 (by omega)
 have h2:=zkk (step:=yb2) a0.2.2.2.2.2.2.2.2.1 (0,[]) (fun i s=>ypO i a0 ydv (a0.1,a0.2.1,a0.2.2.1,a0.2.2.2.1,a0.2.2.2.2.1,a0.2.2.2.2.2.1,a0.2.2.2.2.2.2.1,a0.2.2.2.2.2.2.2.1,s,a0.2.2.2.2.2.2.2.2.2)) (fun s x=>s++ [x]) (fun i s=>s.length=i) (fun s=> .inl (yKF ydv (a0.1,a0.2.1,a0.2.2.1,a0.2.2.2.1,a0.2.2.2.2.1,a0.2.2.2.2.2.1,a0.2.2.2.2.2.2.1,a0.2.2.2.2.2.2.2.1,s,a0.2.2.2.2.2.2.2.2.2))) (fun i s hi hs=>⟨by
   have:=hc i hi
   simp only [yb2,ypO,yqb,zjI (show (i:Int) < a0.2.2.2.2.2.2.2.2.1.length by omega),cond_true,wr (show -9223372036854775808≤(i:Int)+1 by omega) (by omega),Int.natCast_add,Int.natCast_one,Int.toNat_natCast,zkO hi,zjW,List.nil_append,zkV]
   rw [zkw.2 (show (([]:List Int).length+(a0.2.2.2.2.2.2.2.2.1.getD i (0,[])).2.length) * 8≤140737488355328 by rw [List.length_nil]; omega),zkw.2 (show (s.length+ [a0.2.2.2.2.2.2.2.2.1.getD i (0,[])].length) * 32≤140737488355328 by simp only [List.length_cons,List.length_nil]; omega)]; rfl,by simp [hs]⟩) (fun s hs=>by simp only [yb2,ypO,yqb,zkm (Int.le_refl _),cond_false]) [] rfl 18446744073709551616 (by omega)
 rw [ytd]at h1 h2
 unfold yoS ynj
 rw [show ys3 (yM1 a0 ydv (a0.1,a0.2.1,[],a0.2.2.2))=_ from h1,zkJ]
 refine (congrArg (fun z=>zjw z _ _) (show yri (yKR a0 ydv (a0.1,a0.2.1,a0.2.2.1,a0.2.2.2.1,a0.2.2.2.2.1,a0.2.2.2.2.2.1,a0.2.2.2.2.2.2.1,a0.2.2.2.2.2.2.2.1,[],a0.2.2.2.2.2.2.2.2.2))=_ from h2)).trans rfl
def yEn:Con:=⟨yhZ,ysE,fun x=>(fun n=>some ((n,()),())) (ynj x.1)⟩
theorem yWV:ConOk Tryz.prog 103 yEn:=(yT7).mono (fun x r hk h=>(yWa x.1 hk).trans h)
end
end
end Go.Tf
