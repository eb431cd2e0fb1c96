/- Functions of the program, and what they come to. -/
import Derived.Test.YtfpjmijaiekbgaaGreatExactReplayF19
namespace Go.Tf
noncomputable section
open Go.Proofs
set_option synthInstance.maxHeartbeats 400000
set_option synthInstance.maxSize 10000
set_option linter.unusedVariables false
set_option linter.unusedSimpArgs false
set_option maxRecDepth 100000
section
def yFy:Code:=(Tryz.f171.body).getD .skip
def yFT:Env:=zki TT [(114,yp)] []
theorem yMl:FrOk Tryz.prog ⟨yFT,34,fun _=>none⟩ yFy:=zkp yb yc ⟨yE,trivial⟩
def yOY:Nat→Option Seg:=fun _=>none
abbrev ygl:List Par:= [.rd tA,.rd tI,.rd tI]
abbrev yrv:List OT:= [⟨false,tB,.fz⟩]
def ynA (a0:dA) (a1:Int) (a2:Int):Option (ResD yrv×MutD ygl) :=
  let r1:=ye a1 0 (IntKind.i64.wrap ((a0.2.2.1.length:Int) - 1))
  bif r1 then
    bif (inb a1 a0.2.2.1.length) then
      bif (!((((nth a0.2.2.1 a1 ([],[],false,[])).2).2).1)) then
        bif (!(a0.2.2.2.1 !=a1)) then
          some (((ltb a2 a0.2.2.2.2.1),()),())
        else
          some ((true,()),())
      else
        some ((false,()),())
    else none
  else
    some ((false,()),())
theorem yU5 (x:InD ygl):zjH ⟨yFT,34,yOY⟩ Tryz.f171.results.toList yFy ygl yrv x=ynA x.1 x.2.1 x.2.2.1:=by kernel_rfl
theorem yQ7:ConOk Tryz.prog 171 ⟨ygl,yrv,fun x=>ynA x.1 x.2.1 x.2.2.1⟩:=zkh (yMl) Tryz.func171 (by kernel_rfl) (by kernel_rfl) Tryz.ntmps171.symm (by decide) (fun x r h=>(yU5 x).trans h)
def ylZ (a0:dA) (a1 a2:Int):Bool:=yjV a0 a1 a2
theorem yTf (a0:dA) (a1 a2:Int) (hk:zi9 ygl (a0,a1,a2,())):ynA a0 a1 a2=(fun n=>some ((n,()),())) (ylZ a0 a1 a2):=by
  have hb:a0.2.2.1.length * 80≤2 ^ 47:=hk.1.2.2.1.1
  unfold ynA ylZ yjV yh
  rw [yV,yq8 (show a0.2.2.1.length≤1152921504606846976 by omega),bne_comm]
  cases inb a1 a0.2.2.1.length
  · rfl
  · cases (nth a0.2.2.1 a1 ([],[],false,[])).2.2.1<;>cases (a1 !=a0.2.2.2.1)<;>rfl
def yDe:Con:=⟨ygl,yrv,fun x=>(fun n=>some ((n,()),())) (ylZ x.1 x.2.1 x.2.2.1)⟩
theorem yUi:ConOk Tryz.prog 171 yDe:=(yQ7).mono (fun x r hk h=>(yTf x.1 x.2.1 x.2.2.1 hk).trans h)
end
section
def yap:Code:=(Tryz.f87.body).getD .skip
def ydh:Env:=zki TT [(78,yhX),(79,yDb),(127,yDc),(169,yuV),(170,yqu),(171,yDe)] []
theorem yGq:FrOk Tryz.prog ⟨ydh,70,fun _=>none⟩ yap:=zkp yb yc ⟨yqE,yUf,yUg,yI0,yBI,yUi,trivial⟩
def ywd:Nat→Option Seg:=fun _=>none
def yac:Shape:=⟨[(0,false,[.ptr 1000000000 0]),(1,false,[.int .i64]),(7,false,[.at 800000000]),(28,false,[.br tI]),(29,false,[.int .i64]),(30,false,[.int .i64])],[(1000000000,[.int .i64,.int .i64,.int .i64,.at 800000001,.int .i64,.int .i64,.int .i64,.int .i64,.int .i64,.at 800000002,.int .i64,.bool,.bool])],[(800000000,tI,.fz),(800000001,tM,(.pr (.ow (.ow .fz)) (.pr (.ow (.pr .fz (.ow .fz))) (.pr .fz (.ow .fz))))),(800000002,tW,(.pr .fz (.ow .fz)))]⟩
def ydf:Shape:=⟨[(0,false,[.ptr 1000000000 0]),(1,false,[.int .i64]),(7,false,[.at 800000000]),(28,false,[.br tI]),(29,false,[.int .i64]),(30,false,[.ci .i64 0])],[(1000000000,[.int .i64,.int .i64,.int .i64,.at 800000001,.int .i64,.int .i64,.int .i64,.int .i64,.int .i64,.at 800000002,.int .i64,.bool,.bool])],[(800000000,tI,.fz),(800000001,tM,(.pr (.ow (.ow .fz)) (.pr (.ow (.pr .fz (.ow .fz))) (.pr .fz (.ow .fz))))),(800000002,tW,(.pr .fz (.ow .fz)))]⟩
def ydd:Shape:=⟨[(0,false,[.ptr 1000000000 0]),(1,false,[.int .i64]),(7,false,[.at 800000000])],[(1000000000,[.int .i64,.int .i64,.int .i64,.at 800000001,.int .i64,.int .i64,.int .i64,.int .i64,.int .i64,.at 800000002,.int .i64,.bool,.bool])],[(800000000,tI,.fz),(800000001,tM,(.pr (.ow (.ow .fz)) (.pr (.ow (.pr .fz (.ow .fz))) (.pr .fz (.ow .fz))))),(800000002,tW,(.pr .fz (.ow .fz)))]⟩
def yf9:Shape:=⟨[],[],[]⟩
abbrev ykZ (v0:Int) (v1:List Int) (v2:Int) (v3:Int) (v4:dA) (v5:List Int):(yac).X:=((((),()),(v0,()),((),()),(v1,()),(v2,()),(v3,()),()),((v4.1,v4.2.1.1,v4.2.1.2,(),v4.2.2.2.1,v4.2.2.2.2.1,v4.2.2.2.2.2.1,v4.2.2.2.2.2.2.1,v4.2.2.2.2.2.2.2.1,(),v4.2.2.2.2.2.2.2.2.2.1,v4.2.2.2.2.2.2.2.2.2.2.1,v4.2.2.2.2.2.2.2.2.2.2.2,()),()),(v5,v4.2.2.1,v4.2.2.2.2.2.2.2.2.1,()))
abbrev yFk (v0:Int) (v1:List Int) (v2:Int) (v3:dA) (v4:List Int):(ydf).X:=((((),()),(v0,()),((),()),(v1,()),(v2,()),((),()),()),((v3.1,v3.2.1.1,v3.2.1.2,(),v3.2.2.2.1,v3.2.2.2.2.1,v3.2.2.2.2.2.1,v3.2.2.2.2.2.2.1,v3.2.2.2.2.2.2.2.1,(),v3.2.2.2.2.2.2.2.2.2.1,v3.2.2.2.2.2.2.2.2.2.2.1,v3.2.2.2.2.2.2.2.2.2.2.2,()),()),(v4,v3.2.2.1,v3.2.2.2.2.2.2.2.2.1,()))
abbrev yuq (v0:Int) (v1:dA) (v2:List Int):(ydd).X:=((((),()),(v0,()),((),()),()),((v1.1,v1.2.1.1,v1.2.1.2,(),v1.2.2.2.1,v1.2.2.2.2.1,v1.2.2.2.2.2.1,v1.2.2.2.2.2.2.1,v1.2.2.2.2.2.2.2.1,(),v1.2.2.2.2.2.2.2.2.2.1,v1.2.2.2.2.2.2.2.2.2.2.1,v1.2.2.2.2.2.2.2.2.2.2.2,()),()),(v2,v1.2.2.1,v1.2.2.2.2.2.2.2.2.1,()))
def yln (v0:Int) (v1:List Int) (v2:Int) (v3:Int) (v4:Int) (v5:Int) (v6:Int) (v7:Int) (v8:Int) (v9:Int) (v10:Int) (v11:Int) (v12:Int) (v13:Bool) (v14:Bool) (v15:List Int) (v16:List dM) (v17:List dW):Option ((yac).X ⊕ ((ydd).X ⊕ (yf9).X)) :=
  bif (ltb v3 v2) then
    bif (inb v3 v1.length) then
      let r5:=ylX (v5,v6) v0 v3
      bif (inb r5 v15.length) then
        some (.inl ((((),()),(v0,()),((),()),(v1,()),(v2,()),((IntKind.i64.wrap (v3+1)),()),()),((v4,v5,v6,(),v7,v8,v9,v10,v11,(),v12,v13,v14,()),()),((v15.set (r5).toNat (nth v1 v3 0)),v16,v17,())))
      else none
    else none
  else
    some (.inr (.inl ((((),()),(v0,()),((),()),()),((v4,v5,v6,(),v7,v8,v9,v10,v11,(),v12,v13,v14,()),()),(v15,v16,v17,()))))
def yal (x:(yac).X):=yln x.1.2.1.1 x.1.2.2.2.1.1 x.1.2.2.2.2.1.1 x.1.2.2.2.2.2.1.1 x.2.1.1.1 x.2.1.1.2.1 x.2.1.1.2.2.1 x.2.1.1.2.2.2.2.1 x.2.1.1.2.2.2.2.2.1 x.2.1.1.2.2.2.2.2.2.1 x.2.1.1.2.2.2.2.2.2.2.1 x.2.1.1.2.2.2.2.2.2.2.2.1 x.2.1.1.2.2.2.2.2.2.2.2.2.2.1 x.2.1.1.2.2.2.2.2.2.2.2.2.2.2.1 x.2.1.1.2.2.2.2.2.2.2.2.2.2.2.2.1 x.2.2.1 x.2.2.2.1 x.2.2.2.2.1
def yuh (x:(ydf).X):(yac).X:=((((),()),(x.1.2.1.1,()),((),()),(x.1.2.2.2.1.1,()),(x.1.2.2.2.2.1.1,()),(0,()),()),((x.2.1.1.1,x.2.1.1.2.1,x.2.1.1.2.2.1,(),x.2.1.1.2.2.2.2.1,x.2.1.1.2.2.2.2.2.1,x.2.1.1.2.2.2.2.2.2.1,x.2.1.1.2.2.2.2.2.2.2.1,x.2.1.1.2.2.2.2.2.2.2.2.1,(),x.2.1.1.2.2.2.2.2.2.2.2.2.2.1,x.2.1.1.2.2.2.2.2.2.2.2.2.2.2.1,x.2.1.1.2.2.2.2.2.2.2.2.2.2.2.2.1,()),()),(x.2.2.1,x.2.2.2.1,x.2.2.2.2.1,()))
def yuQ:Code:=(zdI yap 64 244).getD .skip
theorem yGl:zdI yap 64 61=some (.block 0 (.loop yuQ)):=by kernel_rfl
theorem yGN (x:(yac).X):zg7 ⟨ydh,70,ywd⟩ 0 yuQ 244 yac ydd yf9 x=yal x:=by kernel_rfl
def yul (x:(ydf).X):Nat:=(fun (u0:Int) (u1:List Int) (u2:Int) (u3:Int) (u4:Int) (u5:Int) (u6:Int) (u7:Int) (u8:Int) (u9:Int) (u10:Int) (u11:Int) (u12:Bool) (u13:Bool) (u14:List Int) (u15:List dM) (u16:List dW)=>18446744073709551616) x.1.2.1.1 x.1.2.2.2.1.1 x.1.2.2.2.2.1.1 x.2.1.1.1 x.2.1.1.2.1 x.2.1.1.2.2.1 x.2.1.1.2.2.2.2.1 x.2.1.1.2.2.2.2.2.1 x.2.1.1.2.2.2.2.2.2.1 x.2.1.1.2.2.2.2.2.2.2.1 x.2.1.1.2.2.2.2.2.2.2.2.1 x.2.1.1.2.2.2.2.2.2.2.2.2.2.1 x.2.1.1.2.2.2.2.2.2.2.2.2.2.2.1 x.2.1.1.2.2.2.2.2.2.2.2.2.2.2.2.1 x.2.2.1 x.2.2.2.1 x.2.2.2.2.1
def ymc (x:(ydf).X):Option ((ydd).X ⊕ (yf9).X):=zr yal (yul x) (yuh x)
def yuK:Seg:=⟨ydf,ydd,yf9,ymc⟩
def yn4:Nat→Option Seg:=fun q=>bif Nat.beq q 61 then some yuK else ywd q
theorem yGr:FrOk Tryz.prog ⟨ydh,70,yn4⟩ yap:=(yGq).loop (sg:=yuK) yac yuh (by decide) yGl yal yul (by decide) (fun _=>rfl) (fun x r _ h=>h) yGN
def yU:Shape:=⟨[(0,false,[.ptr 1000000000 0]),(1,false,[.int .i64]),(46,false,[.at 800000000]),(47,false,[.int .i64]),(48,false,[.int .i64])],[(1000000000,[.int .i64,.int .i64,.int .i64,.at 800000001,.int .i64,.int .i64,.int .i64,.int .i64,.int .i64,.at 800000002,.int .i64,.bool,.bool])],[(800000000,tI,.fz),(800000001,tM,(.pr (.ow (.ow .fz)) (.pr (.ow (.pr .fz (.ow .fz))) (.pr .fz (.ow .fz))))),(800000002,tW,(.pr .fz (.ow .fz)))]⟩
def ycC:Shape:=⟨[(0,false,[.ptr 1000000000 0]),(1,false,[.int .i64]),(46,false,[.at 800000000]),(47,false,[.int .i64]),(48,false,[.ci .i64 0])],[(1000000000,[.int .i64,.int .i64,.int .i64,.at 800000001,.int .i64,.int .i64,.int .i64,.int .i64,.int .i64,.at 800000002,.int .i64,.bool,.bool])],[(800000000,tI,.fz),(800000001,tM,(.pr (.ow (.ow .fz)) (.pr (.ow (.pr .fz (.ow .fz))) (.pr .fz (.ow .fz))))),(800000002,tW,(.pr .fz (.ow .fz)))]⟩
def ycA:Shape:=⟨[],[(1000000000,[.int .i64,.int .i64,.int .i64,.at 800000000,.int .i64,.int .i64,.int .i64,.int .i64,.int .i64,.at 800000001,.int .i64,.bool,.bool])],[(800000000,tM,(.pr (.ow (.ow .fz)) (.pr (.ow (.pr .fz (.ow .fz))) (.pr .fz (.ow .fz))))),(800000001,tW,(.pr .fz (.ow .fz)))]⟩
def ycE:Shape:=⟨[(6,false,[.bool])],[(1000000000,[.int .i64,.int .i64,.int .i64,.at 800000000,.int .i64,.int .i64,.int .i64,.int .i64,.int .i64,.at 800000001,.int .i64,.bool,.bool])],[(800000000,tM,(.pr (.ow (.ow .fz)) (.pr (.ow (.pr .fz (.ow .fz))) (.pr .fz (.ow .fz))))),(800000001,tW,(.pr .fz (.ow .fz)))]⟩
abbrev yjX (v0:Int) (v1:Int) (v2:Int) (v3:dA) (v4:List Int):(yU).X:=((((),()),(v0,()),((),()),(v1,()),(v2,()),()),((v3.1,v3.2.1.1,v3.2.1.2,(),v3.2.2.2.1,v3.2.2.2.2.1,v3.2.2.2.2.2.1,v3.2.2.2.2.2.2.1,v3.2.2.2.2.2.2.2.1,(),v3.2.2.2.2.2.2.2.2.2.1,v3.2.2.2.2.2.2.2.2.2.2.1,v3.2.2.2.2.2.2.2.2.2.2.2,()),()),(v4,v3.2.2.1,v3.2.2.2.2.2.2.2.2.1,()))
abbrev yEW (v0:Int) (v1:Int) (v2:dA) (v3:List Int):(ycC).X:=((((),()),(v0,()),((),()),(v1,()),((),()),()),((v2.1,v2.2.1.1,v2.2.1.2,(),v2.2.2.2.1,v2.2.2.2.2.1,v2.2.2.2.2.2.1,v2.2.2.2.2.2.2.1,v2.2.2.2.2.2.2.2.1,(),v2.2.2.2.2.2.2.2.2.2.1,v2.2.2.2.2.2.2.2.2.2.2.1,v2.2.2.2.2.2.2.2.2.2.2.2,()),()),(v3,v2.2.2.1,v2.2.2.2.2.2.2.2.2.1,()))
abbrev yjZ (v0:dA):(ycA).X:=((),((v0.1,v0.2.1.1,v0.2.1.2,(),v0.2.2.2.1,v0.2.2.2.2.1,v0.2.2.2.2.2.1,v0.2.2.2.2.2.2.1,v0.2.2.2.2.2.2.2.1,(),v0.2.2.2.2.2.2.2.2.2.1,v0.2.2.2.2.2.2.2.2.2.2.1,v0.2.2.2.2.2.2.2.2.2.2.2,()),()),(v0.2.2.1,v0.2.2.2.2.2.2.2.2.1,()))
abbrev yj1 (v0:Bool) (v1:dA):(ycE).X:=(((v0,()),()),((v1.1,v1.2.1.1,v1.2.1.2,(),v1.2.2.2.1,v1.2.2.2.2.1,v1.2.2.2.2.2.1,v1.2.2.2.2.2.2.1,v1.2.2.2.2.2.2.2.1,(),v1.2.2.2.2.2.2.2.2.2.1,v1.2.2.2.2.2.2.2.2.2.2.1,v1.2.2.2.2.2.2.2.2.2.2.2,()),()),(v1.2.2.1,v1.2.2.2.2.2.2.2.2.1,()))
def ykg (v0:Int) (v1:Int) (v2:Int) (v3:Int) (v4:Int) (v5:Int) (v6:Int) (v7:Int) (v8:Int) (v9:Int) (v10:Int) (v11:Int) (v12:Bool) (v13:Bool) (v14:List Int) (v15:List dM) (v16:List dW):Option ((yU).X ⊕ ((ycA).X ⊕ (ycE).X)) :=
  bif (ltb v2 v1) then
    bif (inb v2 v14.length) then
      let r10:=ylZ (v3,(v4,v5),v15,v6,v7,v8,v9,v10,v16,v11,v12,v13) v2 v0
      bif r10 then
        let r11:=yrZ v0
        bnd (ydB (v3,(v4,v5),v15,v6,v7,v8,v9,v10,v16,v11,v12,v13) v2 r11 ([(nth v14 v2 0)]:List Int)) fun r12 =>
        bif (!r12.1.1) then
          some (.inr (.inr (((false,()),()),((r12.2.1.1,r12.2.1.2.1.1,r12.2.1.2.1.2,(),r12.2.1.2.2.2.1,r12.2.1.2.2.2.2.1,r12.2.1.2.2.2.2.2.1,r12.2.1.2.2.2.2.2.2.1,r12.2.1.2.2.2.2.2.2.2.1,(),r12.2.1.2.2.2.2.2.2.2.2.2.1,r12.2.1.2.2.2.2.2.2.2.2.2.2.1,r12.2.1.2.2.2.2.2.2.2.2.2.2.2,()),()),(r12.2.1.2.2.1,r12.2.1.2.2.2.2.2.2.2.2.1,()))))
        else
          some (.inl ((((),()),(v0,()),((),()),(v1,()),((IntKind.i64.wrap (v2+1)),()),()),((r12.2.1.1,r12.2.1.2.1.1,r12.2.1.2.1.2,(),r12.2.1.2.2.2.1,r12.2.1.2.2.2.2.1,r12.2.1.2.2.2.2.2.1,r12.2.1.2.2.2.2.2.2.1,r12.2.1.2.2.2.2.2.2.2.1,(),r12.2.1.2.2.2.2.2.2.2.2.2.1,r12.2.1.2.2.2.2.2.2.2.2.2.2.1,r12.2.1.2.2.2.2.2.2.2.2.2.2.2,()),()),(v14,r12.2.1.2.2.1,r12.2.1.2.2.2.2.2.2.2.2.1,())))
      else
        some (.inl ((((),()),(v0,()),((),()),(v1,()),((IntKind.i64.wrap (v2+1)),()),()),((v3,v4,v5,(),v6,v7,v8,v9,v10,(),v11,v12,v13,()),()),(v14,v15,v16,())))
    else none
  else
    some (.inr (.inl ((),((v3,v4,v5,(),v6,v7,v8,v9,v10,(),v11,v12,v13,()),()),(v15,v16,()))))
def yab (x:(yU).X):=ykg x.1.2.1.1 x.1.2.2.2.1.1 x.1.2.2.2.2.1.1 x.2.1.1.1 x.2.1.1.2.1 x.2.1.1.2.2.1 x.2.1.1.2.2.2.2.1 x.2.1.1.2.2.2.2.2.1 x.2.1.1.2.2.2.2.2.2.1 x.2.1.1.2.2.2.2.2.2.2.1 x.2.1.1.2.2.2.2.2.2.2.2.1 x.2.1.1.2.2.2.2.2.2.2.2.2.2.1 x.2.1.1.2.2.2.2.2.2.2.2.2.2.2.1 x.2.1.1.2.2.2.2.2.2.2.2.2.2.2.2.1 x.2.2.1 x.2.2.2.1 x.2.2.2.2.1
def ys5 (x:(ycC).X):(yU).X:=((((),()),(x.1.2.1.1,()),((),()),(x.1.2.2.2.1.1,()),(0,()),()),((x.2.1.1.1,x.2.1.1.2.1,x.2.1.1.2.2.1,(),x.2.1.1.2.2.2.2.1,x.2.1.1.2.2.2.2.2.1,x.2.1.1.2.2.2.2.2.2.1,x.2.1.1.2.2.2.2.2.2.2.1,x.2.1.1.2.2.2.2.2.2.2.2.1,(),x.2.1.1.2.2.2.2.2.2.2.2.2.2.1,x.2.1.1.2.2.2.2.2.2.2.2.2.2.2.1,x.2.1.1.2.2.2.2.2.2.2.2.2.2.2.2.1,()),()),(x.2.2.1,x.2.2.2.1,x.2.2.2.2.1,()))
def yt9:Code:=(zdI yap 64 500).getD .skip
theorem yE7:zdI yap 64 125=some (.block 2 (.loop yt9)):=by kernel_rfl
theorem yFr (x:(yU).X):zg7 ⟨ydh,70,yn4⟩ 2 yt9 500 yU ycA ycE x=yab x:=by kernel_rfl
def ys7 (x:(ycC).X):Nat:=(fun (u0:Int) (u1:Int) (u2:Int) (u3:Int) (u4:Int) (u5:Int) (u6:Int) (u7:Int) (u8:Int) (u9:Int) (u10:Int) (u11:Bool) (u12:Bool) (u13:List Int) (u14:List dM) (u15:List dW)=>18446744073709551616) x.1.2.1.1 x.1.2.2.2.1.1 x.2.1.1.1 x.2.1.1.2.1 x.2.1.1.2.2.1 x.2.1.1.2.2.2.2.1 x.2.1.1.2.2.2.2.2.1 x.2.1.1.2.2.2.2.2.2.1 x.2.1.1.2.2.2.2.2.2.2.1 x.2.1.1.2.2.2.2.2.2.2.2.1 x.2.1.1.2.2.2.2.2.2.2.2.2.2.1 x.2.1.1.2.2.2.2.2.2.2.2.2.2.2.1 x.2.1.1.2.2.2.2.2.2.2.2.2.2.2.2.1 x.2.2.1 x.2.2.2.1 x.2.2.2.2.1
def ykp (x:(ycC).X):Option ((ycA).X ⊕ (ycE).X):=zr yab (ys7 x) (ys5 x)
def ytb:Seg:=⟨ycC,ycA,ycE,ykp⟩
def ywe:Nat→Option Seg:=fun q=>bif Nat.beq q 125 then some ytb else yn4 q
theorem yGs:FrOk Tryz.prog ⟨ydh,70,ywe⟩ yap:=(yGr).loop (sg:=ytb) yU ys5 (by decide) yE7 yab ys7 (by decide) (fun _=>rfl) (fun x r _ h=>h) yFr
abbrev ybE:List Par:= [.pt tA (.pr .fz (.pr (.pr .fz .fz) (.pr (.ow (.pr (.ow (.ow .fz)) (.pr (.ow (.pr .fz (.ow .fz))) (.pr .fz (.ow .fz))))) (.pr .fz (.pr .fz (.pr .fz (.pr .fz (.pr .fz (.pr (.ow (.pr .fz (.ow .fz))) (.pr .fz (.pr .fz .fz))))))))))),.rd tI,.rd tL]
abbrev yfO:List OT:= [⟨false,tB,.fz⟩]
def yii (a0:dA) (a1:Int) (a2:List Int):Option (ResD yfO×MutD ybE) :=
  bif (zkc a0.2.1.1 8) then
    let r1:=ycF a0.2.1 a1
    let r2:=yiY a2
    bif (inb r1 (List.replicate (a0.2.1.1).toNat (0:Int)).length) then
      let r3:=((List.replicate (a0.2.1.1).toNat (0:Int)).set (r1).toNat r2)
      zjw (ymc ((((),()),(a1,()),((),()),(a2,()),((a2.length:Int),()),((),()),()),((a0.1,a0.2.1.1,a0.2.1.2,(),a0.2.2.2.1,a0.2.2.2.2.1,a0.2.2.2.2.2.1,a0.2.2.2.2.2.2.1,a0.2.2.2.2.2.2.2.1,(),a0.2.2.2.2.2.2.2.2.2.1,a0.2.2.2.2.2.2.2.2.2.2.1,a0.2.2.2.2.2.2.2.2.2.2.2,()),()),(r3,a0.2.2.1,a0.2.2.2.2.2.2.2.2.1,()))) (fun y5 =>
        zjw (ykp ((((),()),(y5.1.2.1.1,()),((),()),((y5.2.2.1.length:Int),()),((),()),()),((y5.2.1.1.1,y5.2.1.1.2.1,y5.2.1.1.2.2.1,(),y5.2.1.1.2.2.2.2.1,y5.2.1.1.2.2.2.2.2.1,y5.2.1.1.2.2.2.2.2.2.1,y5.2.1.1.2.2.2.2.2.2.2.1,y5.2.1.1.2.2.2.2.2.2.2.2.1,(),y5.2.1.1.2.2.2.2.2.2.2.2.2.2.1,y5.2.1.1.2.2.2.2.2.2.2.2.2.2.2.1,y5.2.1.1.2.2.2.2.2.2.2.2.2.2.2.2.1,()),()),(y5.2.2.1,y5.2.2.2.1,y5.2.2.2.2.1,()))) (fun y12 =>
          some ((true,()),((y12.2.1.1.1,(y12.2.1.1.2.1,y12.2.1.1.2.2.1),y12.2.2.1,y12.2.1.1.2.2.2.2.1,y12.2.1.1.2.2.2.2.2.1,y12.2.1.1.2.2.2.2.2.2.1,y12.2.1.1.2.2.2.2.2.2.2.1,y12.2.1.1.2.2.2.2.2.2.2.2.1,y12.2.2.2.1,y12.2.1.1.2.2.2.2.2.2.2.2.2.2.1,y12.2.1.1.2.2.2.2.2.2.2.2.2.2.2.1,y12.2.1.1.2.2.2.2.2.2.2.2.2.2.2.2.1),()))) (fun y12 =>
          some ((y12.1.1.1,()),((y12.2.1.1.1,(y12.2.1.1.2.1,y12.2.1.1.2.2.1),y12.2.2.1,y12.2.1.1.2.2.2.2.1,y12.2.1.1.2.2.2.2.2.1,y12.2.1.1.2.2.2.2.2.2.1,y12.2.1.1.2.2.2.2.2.2.2.1,y12.2.1.1.2.2.2.2.2.2.2.2.1,y12.2.2.2.1,y12.2.1.1.2.2.2.2.2.2.2.2.2.2.1,y12.2.1.1.2.2.2.2.2.2.2.2.2.2.2.1,y12.2.1.1.2.2.2.2.2.2.2.2.2.2.2.2.1),())))) (fun y5 =>
        none)
    else none
  else none
theorem yMb (x:InD ybE):zjH ⟨ydh,70,ywe⟩ Tryz.f87.results.toList yap ybE yfO x=yii x.1 x.2.1 x.2.2.1:=by kernel_rfl
theorem yIS:ConOk Tryz.prog 87 ⟨ybE,yfO,fun x=>yii x.1 x.2.1 x.2.2.1⟩:=zkh (yGs) Tryz.func87 (by kernel_rfl) (by kernel_rfl) Tryz.ntmps87.symm (by decide) (fun x r h=>(yMb x).trans h)
def yk2 (a0:dA) (a1:Int) (a2:List Int):Bool×dA:=(!(yd (ygE a0 a1 a2)),ygE a0 a1 a2)
def yf4 (a0:dA) (a1:Int) (a2:List Int):Bool:= !(yd a0)&&(yjh a0.2.1 a1&&((a2.length:Int)==a0.2.1.1 - 1&&(a0.2.2.1.length:Int)==a0.2.1.1))
theorem yKJ (a0:dA) (a1:Int) (a2:List Int) (hk:zi9 ybE (a0,a1,a2,())) (hq:yf4 a0 a1 a2=true):yii a0 a1 a2=(fun n=>some ((n.1,()),(n.2,()))) (yk2 a0 a1 a2):=by
  simp only [yf4,Bool.and_eq_true,beq_iff_eq,Bool.not_eq_true'] at hq
  obtain ⟨hd0,hs0,hl0,hm0⟩:=hq
  have hg:=yaF.1 (ykk.1 hs0).1
  have hp:=ys9 hs0
  have hL:=yXV (N:=a0.2.1.1) (p:=yg a0.2.1 a1) (x:=ynV a2) (data:=a2) ⟨by omega,by omega⟩ hp hl0
  generalize hw:(List.range a0.2.1.1.toNat).map (fun (i:Nat)=>yv9 (yg a0.2.1 a1) a0.2.1.1 (ynV a2) a2 i)=W at hL
  have hWl:W.length=a0.2.2.1.length:=by rw [← hw,List.length_map,List.length_range]; omega
  have hWat: ∀ i:Nat,i < a0.2.2.1.length→nth W i 0=yv9 (yg a0.2.1 a1) a0.2.1.1 (ynV a2) a2 i:=fun i hi=>by
    rw [← hw,zjW,zcq (by rw [List.length_map,List.length_range]; omega)]; simp
  have h1:ymc (yFk a1 a2 a2.length a0 ((List.replicate a0.2.1.1.toNat 0).set (yg a0.2.1 a1).toNat (ynV a2)))=some (.inl (yuq a1 a0 W)):=by
    have:=zks (step:=yal) a2.length (fun i s=>ykZ a1 a2 a2.length i a0 s) (fun l (i:Nat)=>l.set ((yg a0.2.1 a1+1+i).tmod a0.2.1.1).toNat (nth a2 i 0)) (fun _ s=>s.length=a0.2.1.1.toNat) (fun s=> .inl (yuq a1 a0 s)) (fun i s hi hs=>⟨by
      have hd:=yYC hs0 (show (0:Int)≤i by omega) (show (i:Int)≤a0.2.1.1 - 2 by omega)
      have he:yug a0.2.1 a1 i=(yg a0.2.1 a1+1+i).tmod a0.2.1.1:=by unfold yug; rw [hs0,zk0 (show (0:Int)≤i by omega),zk0 (show (i:Int)≤a0.2.1.1 - 2 by omega)]; rfl
      simp only [yal,ykZ,yln,zjI (show (i:Int) < a2.length by omega),cond_true,wr (show -9223372036854775808≤(i:Int)+1 by omega) (by omega),Int.natCast_add,Int.natCast_one,Int.toNat_natCast,zkO hi,zkV,ylX,zjP.2 (show 0≤yug a0.2.1 a1 i∧yug a0.2.1 a1 i < s.length by omega)]
      rw [he],by rw [List.length_set]; exact hs⟩) (fun s hs=>by simp only [yal,ykZ,yln,zkm (Int.le_refl _),cond_false]) ((List.replicate a0.2.1.1.toNat 0).set (yg a0.2.1 a1).toNat (ynV a2)) (by rw [List.length_set,List.length_replicate]) 18446744073709551616 (by omega)
    rw [hL]at this
    exact this
  have h2:ykp (yEW a1 W.length a0 W)=some (bif yd (ygE a0 a1 a2) then .inr (yj1 false (ygE a0 a1 a2)) else .inl (yjZ (ygE a0 a1 a2))):=by
    have:=zkr (step:=yab) a0.2.2.1.length (fun i s=>yjX a1 W.length i s W) (fun i s=>bif yd (ydy (yg a0.2.1 a1) a0.2.1.1 a1 a2 s i) then (.inr (ydy (yg a0.2.1 a1) a0.2.1.1 a1 a2 s i):dA ⊕ dA) else .inl (ydy (yg a0.2.1 a1) a0.2.1.1 a1 a2 s i)) (fun _ s=>s.2.2.1.length=a0.2.2.1.length∧yd s=false) id
      (fun b=>bif yd b then .inr (yj1 false b) else .inl (yjZ b)) (fun i s hi hs=>by
        constructor
        · simp only [yab,yjX,ykg,zjI (show (i:Int) < W.length by omega),cond_true,wr (show -9223372036854775808≤(i:Int)+1 by omega) (by omega),Int.natCast_add,Int.natCast_one,Int.toNat_natCast,zkO (show i < W.length by omega),zkV,ylZ,yS8,hWat i hi,ydy]
          rw [yqG s i (yuf a1) [yv9 (yg a0.2.1 a1) a0.2.1.1 (ynV a2) a2 i] (by unfold ybO; rw [zkO (by rw [hs.1]; exact hi),hs.2]; rfl)]
          cases hlv:yjV s i a1
          · simp only [cond_false,hs.2]
          · simp only [zky,ybN,cond_true]
            cases hd:yd (yfb s i (yuf a1) [yv9 (yg a0.2.1 a1) a0.2.1.1 (ynV a2) a2 i])
            · rfl
            · simp only [hd,Bool.not_true,Bool.not_false,cond_true,yj1]
        · intro s' h
          cases hd:yd (ydy (yg a0.2.1 a1) a0.2.1.1 a1 a2 s i)
          · rw [hd]at h
            cases h
            exact ⟨(yv8 _ _ _ _ s i).trans hs.1,hd⟩
          · rw [hd]at h; cases h) (fun s hs=>by simp only [yab,yjX,ykg,hs.2,hWl,zkm (Int.le_refl _),cond_false,id,yjZ]) a0 ⟨rfl,hd0⟩ 18446744073709551616 (by omega)
    rw [yBy (fun a i h=>yWC _ _ _ _ i h),← List.range_eq_range'] at this
    exact this
  unfold yii yk2 ycF yiY yj5
  rw [zkH.2 (show 0≤a0.2.1.1∧a0.2.1.1 * ((8:Nat):Int)≤140737488355328 by omega)]
  simp only [cond_true]
  rw [zjP.2 (show 0≤yg a0.2.1 a1∧yg a0.2.1 a1 < ((List.replicate a0.2.1.1.toNat (0:Int)).length:Int) by rw [List.length_replicate]; omega),cond_true]
  refine (congrArg (fun z=>zjw z _ _) h1).trans ?_
  rw [zkJ]
  refine (congrArg (fun z=>zjw z _ _) h2).trans ?_
  cases hd:yd (ygE a0 a1 a2)
  · rfl
  · simp only [cond_true,zkK,zkV]; rfl
def yf2 (a0:dA) (a1:Int) (a2:List Int):Option (ResD yfO×MutD ybE):=bif yf4 a0 a1 a2 then (fun n=>some ((n.1,()),(n.2,()))) (yk2 a0 a1 a2) else none
theorem yLg (a0:dA) (a1:Int) (a2:List Int) (h:yf4 a0 a1 a2=true):yf2 a0 a1 a2=(fun n=>some ((n.1,()),(n.2,()))) (yk2 a0 a1 a2):=by unfold yf2; rw [h]; rfl
def ywy:Con:=⟨ybE,yfO,fun x=>yf2 x.1 x.2.1 x.2.2.1⟩
theorem yLb:ConOk Tryz.prog 87 ywy:=(yIS).mono (fun x r hk h=>zkW h (fun hq=>yKJ x.1 x.2.1 x.2.2.1 hk hq))
end
section
def yDV:Code:=(Tryz.f258.body).getD .skip
def yEm:Env:=zki TT [(114,yp),(129,ypH),(130,yuc)] []
theorem yJX:FrOk Tryz.prog ⟨yEm,44,fun _=>none⟩ yDV:=zkp yb yc ⟨yE,yxJ,yE1,trivial⟩
def yLN:Nat→Option Seg:=fun _=>none
abbrev yjz:List Par:= [.rd tS]
abbrev ypq:List OT:= [⟨false,tB,.fz⟩]
def ysE (a0:dS):Option (ResD ypq×MutD yjz) :=
  let r1:=ye a0.1 1 60000
  bif r1 then
    let r2:=ye a0.2.1 0 60000
    bif r2 then
      let r3:=ye a0.2.2.2.2.2.1 0 60000
      bif r3 then
        let r4:=ydX (a0.2.2.2.1,a0.2.2.2.2.1)
        bif r4 then
          let r5:=ye a0.2.2.1 0 (IntKind.i64.wrap (a0.2.2.2.1 - 1))
          bif r5 then
            let r6:=yet (a0.2.2.2.1,a0.2.2.2.2.1) a0.2.2.2.2.2.2.1 a0.2.2.2.2.2.2.2
            some ((r6,()),())
          else
            some ((false,()),())
        else
          some ((false,()),())
      else
        some ((false,()),())
    else
      some ((false,()),())
  else
    some ((false,()),())
theorem ySG (x:InD yjz):zjH ⟨yEm,44,yLN⟩ Tryz.f258.results.toList yDV yjz ypq x=ysE x.1:=by kernel_rfl
theorem yNY:ConOk Tryz.prog 258 ⟨yjz,ypq,fun x=>ysE x.1⟩:=zkh (yJX) Tryz.func258 (by kernel_rfl) (by kernel_rfl) Tryz.ntmps258.symm (by decide) (fun x r h=>(ySG x).trans h)
def yfs (a0:dS):Bool :=
  let r1:=ye a0.1 1 60000
  bif r1 then
    let r2:=ye a0.2.1 0 60000
    bif r2 then
      let r3:=ye a0.2.2.2.2.2.1 0 60000
      bif r3 then
        let r4:=ydX (a0.2.2.2.1,a0.2.2.2.2.1)
        bif r4 then
          let r5:=ye a0.2.2.1 0 (IntKind.i64.wrap (a0.2.2.2.1 - 1))
          bif r5 then
            let r6:=yet (a0.2.2.2.1,a0.2.2.2.2.1) a0.2.2.2.2.2.2.1 a0.2.2.2.2.2.2.2
            r6
          else
            false
        else
          false
      else
        false
    else
      false
  else
    false
def yAL:Con:=⟨yjz,ypq,fun x=>(fun n=>some ((n,()),())) (yfs x.1)⟩
theorem yQJ (a0:dS):ysE a0=(fun n=>some ((n,()),())) (yfs a0):=zkS (p:=fun (n:Bool)=>((n,()),())) (zkx (p:=fun (n:Bool)=>((n,()),())) (zkx (p:=fun (n:Bool)=>((n,()),())) (zkx (p:=fun (n:Bool)=>((n,()),())) (zkx (p:=fun (n:Bool)=>((n,()),())) (zkx (p:=fun (n:Bool)=>((n,()),())) rfl rfl) rfl) rfl) rfl) rfl)
theorem yRG:ConOk Tryz.prog 258 yAL:=(yNY).mono (fun x r _ h=>(yQJ x.1).trans h)
theorem yVE (s:dS):yfs s=yb2 s:=by
  rw [Bool.eq_iff_iff,yXG]
  unfold yfs yet
  simp only [yQD,yV]
  cases hg:yf (s.2.2.2.1,s.2.2.2.2.1)
  · cases ya s.1 1 60000<;>cases ya s.2.1 0 60000<;>cases ya s.2.2.2.2.2.1 0 60000<;>simp
  have hg2:=yaF.1 hg
  simp only at hg2
  rw [wr (show -9223372036854775808≤s.2.2.2.1 - 1 by omega) (by omega)]
  simp only [← yq7]
  cases ya s.1 1 60000
  · simp
  cases ya s.2.1 0 60000
  · simp
  cases ya s.2.2.2.2.2.1 0 60000
  · simp
  cases ya s.2.2.1 0 (s.2.2.2.1 - 1)
  · simp
  cases hl:ya s.2.2.2.2.2.2.1 (-1) (s.2.2.2.1 - 1)
  · simp
  cases ya s.2.2.2.2.2.2.2 0 s.2.2.2.2.1
  · simp
  have:=yq7.1 hl
  by_cases h0:s.2.2.2.2.2.2.2=0
  · simp [h0]
  · simp [h0]; omega
end
section
def yCa:Code:=(Tryz.f232.body).getD .skip
def yCN:Env:=zki TT [(258,yAL)] []
theorem yHX:FrOk Tryz.prog ⟨yCN,24,fun _=>none⟩ yCa:=zkp yb yc ⟨yRG,trivial⟩
def yJp:Nat→Option Seg:=fun _=>none
abbrev ygZ:List Par:= [.rd tS]
abbrev ymZ:List OT:= [⟨false,tL,(.ow .fz)⟩]
def yqH (a0:dS):Option (ResD ymZ×MutD ygZ) :=
  let r1:=yfs a0
  bif (!r1) then
    some (([],()),())
  else
    some ((([21317,a0.1,a0.2.1,a0.2.2.1,a0.2.2.2.1,a0.2.2.2.2.1,a0.2.2.2.2.2.1,(IntKind.i64.wrap (a0.2.2.2.2.2.2.1+1)),a0.2.2.2.2.2.2.2]:List Int),()),())
theorem yPD (x:InD ygZ):zjH ⟨yCN,24,yJp⟩ Tryz.f232.results.toList yCa ygZ ymZ x=yqH x.1:=by kernel_rfl
theorem yKT:ConOk Tryz.prog 232 ⟨ygZ,ymZ,fun x=>yqH x.1⟩:=zkh (yHX) Tryz.func232 (by kernel_rfl) (by kernel_rfl) Tryz.ntmps232.symm (by decide) (fun x r h=>(yPD x).trans h)
def yh7 (a0:dS):(List Int) :=
  let r1:=yfs a0
  bif (!r1) then
    []
  else
    ([21317,a0.1,a0.2.1,a0.2.2.1,a0.2.2.2.1,a0.2.2.2.2.1,a0.2.2.2.2.2.1,(IntKind.i64.wrap (a0.2.2.2.2.2.2.1+1)),a0.2.2.2.2.2.2.2]:List Int)
def yyI:Con:=⟨ygZ,ymZ,fun x=>(fun n=>some ((n,()),())) (yh7 x.1)⟩
theorem yNF (a0:dS):yqH a0=(fun n=>some ((n,()),())) (yh7 a0):=zkS (p:=fun (n:(List Int))=>((n,()),())) (zkx (p:=fun (n:(List Int))=>((n,()),())) rfl rfl)
theorem yOk:ConOk Tryz.prog 232 yyI:=(yKT).mono (fun x r _ h=>(yNF x.1).trans h)
theorem yXB (s:dS):yh7 s=yaj s:=by
  unfold yh7 yaj
  rw [yVE]
end
section
def yDX:Code:=(Tryz.f233.body).getD .skip
def yEo:Env:=zki TT [] []
theorem yJ6:FrOk Tryz.prog ⟨yEo,23,fun _=>none⟩ yDX:=zkp yb yc trivial
def yLP:Nat→Option Seg:=fun _=>none
abbrev yjC:List Par:= [.rd tA,.rd tI]
abbrev ypu:List OT:= [⟨false,tS,(.pr .fz (.pr .fz (.pr .fz (.pr .fz (.pr .fz (.pr .fz (.pr .fz .fz)))))))⟩]
def ysG (a0:dA) (a1:Int):Option (ResD ypu×MutD yjC) :=
  some (((a0.1,a0.2.2.2.2.2.2.2.1,a1,a0.2.1.1,a0.2.1.2,a0.2.2.2.2.2.2.1,a0.2.2.2.1,a0.2.2.2.2.1),()),())
theorem ySL (x:InD yjC):zjH ⟨yEo,23,yLP⟩ Tryz.f233.results.toList yDX yjC ypu x=ysG x.1 x.2.1:=by kernel_rfl
theorem yN3:ConOk Tryz.prog 233 ⟨yjC,ypu,fun x=>ysG x.1 x.2.1⟩:=zkh (yJ6) Tryz.func233 (by kernel_rfl) (by kernel_rfl) Tryz.ntmps233.symm (by decide) (fun x r h=>(ySL x).trans h)
def ypP (a0:dA) (a1:Int):dS :=
  (a0.1,a0.2.2.2.2.2.2.2.1,a1,a0.2.1.1,a0.2.1.2,a0.2.2.2.2.2.2.1,a0.2.2.2.1,a0.2.2.2.2.1)
def yAP:Con:=⟨yjC,ypu,fun x=>(fun n=>some ((n,()),())) (ypP x.1 x.2.1)⟩
theorem yQO (a0:dA) (a1:Int):ysG a0 a1=(fun n=>some ((n,()),())) (ypP a0 a1):=zkS (p:=fun (n:dS)=>((n,()),())) rfl
theorem yRK:ConOk Tryz.prog 233 yAP:=(yN3).mono (fun x r _ h=>(yQO x.1 x.2.1).trans h)
end
section
def ygM:Code:=(Tryz.f172.body).getD .skip
def ymF:Env:=zki TT [(78,yhX),(168,yiV),(232,yyI),(233,yAP)] []
theorem yHQ:FrOk Tryz.prog ⟨ymF,37,fun _=>none⟩ ygM:=zkp yb yc ⟨yqE,ysC,yOk,yRK,trivial⟩
def yxX:Nat→Option Seg:=fun _=>none
def yas:Shape:=⟨[(0,false,[.ptr 1000000000 0]),(15,false,[.int .i64]),(16,false,[.int .i64])],[(1000000000,[.int .i64,.int .i64,.int .i64,.at 800000000,.int .i64,.int .i64,.int .i64,.int .i64,.int .i64,.at 800000001,.int .i64,.bool,.bool])],[(800000000,tM,(.pr (.ow (.ow .fz)) (.pr (.ow (.pr .fz (.ow .fz))) (.pr .fz (.ow .fz))))),(800000001,tW,(.pr .fz (.ow .fz)))]⟩
def ydQ:Shape:=⟨[(0,false,[.ptr 1000000000 0]),(15,false,[.int .i64]),(16,false,[.ci .i64 0])],[(1000000000,[.int .i64,.int .i64,.int .i64,.at 800000000,.int .i64,.int .i64,.int .i64,.int .i64,.int .i64,.at 800000001,.int .i64,.bool,.bool])],[(800000000,tM,(.pr (.ow (.ow .fz)) (.pr (.ow (.pr .fz (.ow .fz))) (.pr .fz (.ow .fz))))),(800000001,tW,(.pr .fz (.ow .fz)))]⟩
def ydL:Shape:=⟨[(0,false,[.ptr 1000000000 0])],[(1000000000,[.int .i64,.int .i64,.int .i64,.at 800000000,.int .i64,.int .i64,.int .i64,.int .i64,.int .i64,.at 800000001,.int .i64,.bool,.bool])],[(800000000,tM,(.pr (.ow (.ow .fz)) (.pr (.ow (.pr .fz (.ow .fz))) (.pr .fz (.ow .fz))))),(800000001,tW,(.pr .fz (.ow .fz)))]⟩
def ydV:Shape:=⟨[(2,false,[.bool])],[(1000000000,[.int .i64,.int .i64,.int .i64,.at 800000000,.int .i64,.int .i64,.int .i64,.int .i64,.int .i64,.at 800000001,.int .i64,.bool,.bool])],[(800000000,tM,(.pr (.ow (.ow .fz)) (.pr (.ow (.pr .fz (.ow .fz))) (.pr .fz (.ow .fz))))),(800000001,tW,(.pr .fz (.ow .fz)))]⟩
abbrev ymh (v0:Int) (v1:Int) (v2:dA):(yas).X:=((((),()),(v0,()),(v1,()),()),((v2.1,v2.2.1.1,v2.2.1.2,(),v2.2.2.2.1,v2.2.2.2.2.1,v2.2.2.2.2.2.1,v2.2.2.2.2.2.2.1,v2.2.2.2.2.2.2.2.1,(),v2.2.2.2.2.2.2.2.2.2.1,v2.2.2.2.2.2.2.2.2.2.2.1,v2.2.2.2.2.2.2.2.2.2.2.2,()),()),(v2.2.2.1,v2.2.2.2.2.2.2.2.2.1,()))
abbrev yGC (v0:Int) (v1:dA):(ydQ).X:=((((),()),(v0,()),((),()),()),((v1.1,v1.2.1.1,v1.2.1.2,(),v1.2.2.2.1,v1.2.2.2.2.1,v1.2.2.2.2.2.1,v1.2.2.2.2.2.2.1,v1.2.2.2.2.2.2.2.1,(),v1.2.2.2.2.2.2.2.2.2.1,v1.2.2.2.2.2.2.2.2.2.2.1,v1.2.2.2.2.2.2.2.2.2.2.2,()),()),(v1.2.2.1,v1.2.2.2.2.2.2.2.2.1,()))
abbrev yml (v0:dA):(ydL).X:=((((),()),()),((v0.1,v0.2.1.1,v0.2.1.2,(),v0.2.2.2.1,v0.2.2.2.2.1,v0.2.2.2.2.2.1,v0.2.2.2.2.2.2.1,v0.2.2.2.2.2.2.2.1,(),v0.2.2.2.2.2.2.2.2.2.1,v0.2.2.2.2.2.2.2.2.2.2.1,v0.2.2.2.2.2.2.2.2.2.2.2,()),()),(v0.2.2.1,v0.2.2.2.2.2.2.2.2.1,()))
abbrev ymn (v0:Bool) (v1:dA):(ydV).X:=(((v0,()),()),((v1.1,v1.2.1.1,v1.2.1.2,(),v1.2.2.2.1,v1.2.2.2.2.1,v1.2.2.2.2.2.1,v1.2.2.2.2.2.2.1,v1.2.2.2.2.2.2.2.1,(),v1.2.2.2.2.2.2.2.2.2.1,v1.2.2.2.2.2.2.2.2.2.2.1,v1.2.2.2.2.2.2.2.2.2.2.2,()),()),(v1.2.2.1,v1.2.2.2.2.2.2.2.2.1,()))
def yms (v0:Int) (v1:Int) (v2:Int) (v3:Int) (v4:Int) (v5:Int) (v6:Int) (v7:Int) (v8:Int) (v9:Int) (v10:Int) (v11:Bool) (v12:Bool) (v13:List dM) (v14:List dW):Option ((yas).X ⊕ ((ydL).X ⊕ (ydV).X)) :=
  bif (ltb v1 v0) then
    let r4:=ypP (v2,(v3,v4),v13,v5,v6,v7,v8,v9,v14,v10,v11,v12) v1
    let r5:=yh7 r4
    bnd (ydB (v2,(v3,v4),v13,v5,v6,v7,v8,v9,v14,v10,v11,v12) v1 (v9.tmod 2) r5) fun r6 =>
    bif (!r6.1.1) then
      some (.inr (.inr (((false,()),()),((r6.2.1.1,r6.2.1.2.1.1,r6.2.1.2.1.2,(),r6.2.1.2.2.2.1,r6.2.1.2.2.2.2.1,r6.2.1.2.2.2.2.2.1,r6.2.1.2.2.2.2.2.2.1,r6.2.1.2.2.2.2.2.2.2.1,(),r6.2.1.2.2.2.2.2.2.2.2.2.1,r6.2.1.2.2.2.2.2.2.2.2.2.2.1,r6.2.1.2.2.2.2.2.2.2.2.2.2.2,()),()),(r6.2.1.2.2.1,r6.2.1.2.2.2.2.2.2.2.2.1,()))))
    else
      some (.inl ((((),()),(v0,()),((IntKind.i64.wrap (v1+1)),()),()),((r6.2.1.1,r6.2.1.2.1.1,r6.2.1.2.1.2,(),r6.2.1.2.2.2.1,r6.2.1.2.2.2.2.1,r6.2.1.2.2.2.2.2.1,r6.2.1.2.2.2.2.2.2.1,r6.2.1.2.2.2.2.2.2.2.1,(),r6.2.1.2.2.2.2.2.2.2.2.2.1,r6.2.1.2.2.2.2.2.2.2.2.2.2.1,r6.2.1.2.2.2.2.2.2.2.2.2.2.2,()),()),(r6.2.1.2.2.1,r6.2.1.2.2.2.2.2.2.2.2.1,())))
  else
    some (.inr (.inl ((((),()),()),((v2,v3,v4,(),v5,v6,v7,v8,v9,(),v10,v11,v12,()),()),(v13,v14,()))))
def yaJ (x:(yas).X):=yms x.1.2.1.1 x.1.2.2.1.1 x.2.1.1.1 x.2.1.1.2.1 x.2.1.1.2.2.1 x.2.1.1.2.2.2.2.1 x.2.1.1.2.2.2.2.2.1 x.2.1.1.2.2.2.2.2.2.1 x.2.1.1.2.2.2.2.2.2.2.1 x.2.1.1.2.2.2.2.2.2.2.2.1 x.2.1.1.2.2.2.2.2.2.2.2.2.2.1 x.2.1.1.2.2.2.2.2.2.2.2.2.2.2.1 x.2.1.1.2.2.2.2.2.2.2.2.2.2.2.2.1 x.2.2.1 x.2.2.2.1
def yuX (x:(ydQ).X):(yas).X:=((((),()),(x.1.2.1.1,()),(0,()),()),((x.2.1.1.1,x.2.1.1.2.1,x.2.1.1.2.2.1,(),x.2.1.1.2.2.2.2.1,x.2.1.1.2.2.2.2.2.1,x.2.1.1.2.2.2.2.2.2.1,x.2.1.1.2.2.2.2.2.2.2.1,x.2.1.1.2.2.2.2.2.2.2.2.1,(),x.2.1.1.2.2.2.2.2.2.2.2.2.2.1,x.2.1.1.2.2.2.2.2.2.2.2.2.2.2.1,x.2.1.1.2.2.2.2.2.2.2.2.2.2.2.2.1,()),()),(x.2.2.1,x.2.2.2.1,()))
def ywm:Code:=(zdI ygM 64 116).getD .skip
theorem yHw:zdI ygM 64 29=some (.block 0 (.loop ywm)):=by kernel_rfl
theorem yI4 (x:(yas).X):zg7 ⟨ymF,37,yxX⟩ 0 ywm 116 yas ydL ydV x=yaJ x:=by kernel_rfl
def yu8 (x:(ydQ).X):Nat:=(fun (u0:Int) (u1:Int) (u2:Int) (u3:Int) (u4:Int) (u5:Int) (u6:Int) (u7:Int) (u8:Int) (u9:Int) (u10:Bool) (u11:Bool) (u12:List dM) (u13:List dW)=>18446744073709551616) x.1.2.1.1 x.2.1.1.1 x.2.1.1.2.1 x.2.1.1.2.2.1 x.2.1.1.2.2.2.2.1 x.2.1.1.2.2.2.2.2.1 x.2.1.1.2.2.2.2.2.2.1 x.2.1.1.2.2.2.2.2.2.2.1 x.2.1.1.2.2.2.2.2.2.2.2.1 x.2.1.1.2.2.2.2.2.2.2.2.2.2.1 x.2.1.1.2.2.2.2.2.2.2.2.2.2.2.1 x.2.1.1.2.2.2.2.2.2.2.2.2.2.2.2.1 x.2.2.1 x.2.2.2.1
def yn7 (x:(ydQ).X):Option ((ydL).X ⊕ (ydV).X):=zr yaJ (yu8 x) (yuX x)
def yvl:Seg:=⟨ydQ,ydL,ydV,yn7⟩
def yxY:Nat→Option Seg:=fun q=>bif Nat.beq q 29 then some yvl else yxX q
theorem yHR:FrOk Tryz.prog ⟨ymF,37,yxY⟩ ygM:=(yHQ).loop (sg:=yvl) yas yuX (by decide) yHw yaJ yu8 (by decide) (fun _=>rfl) (fun x r _ h=>h) yI4
abbrev yck:List Par:= [.pt tA (.pr .fz (.pr (.pr .fz .fz) (.pr (.ow (.pr (.ow (.ow .fz)) (.pr (.ow (.pr .fz (.ow .fz))) (.pr .fz (.ow .fz))))) (.pr .fz (.pr .fz (.pr .fz (.pr .fz (.pr .fz (.pr (.ow (.pr .fz (.ow .fz))) (.pr .fz (.pr .fz .fz)))))))))))]
abbrev yhD:List OT:= [⟨false,tB,.fz⟩]
def yi0 (a0:dA):Option (ResD yhD×MutD yck) :=
  zjw (yn7 ((((),()),((a0.2.2.1.length:Int),()),((),()),()),((a0.1,a0.2.1.1,a0.2.1.2,(),a0.2.2.2.1,a0.2.2.2.2.1,a0.2.2.2.2.2.1,a0.2.2.2.2.2.2.1,(IntKind.i64.wrap (a0.2.2.2.2.2.2.2.1+1)),(),a0.2.2.2.2.2.2.2.2.2.1,a0.2.2.2.2.2.2.2.2.2.2.1,a0.2.2.2.2.2.2.2.2.2.2.2,()),()),(a0.2.2.1,a0.2.2.2.2.2.2.2.2.1,()))) (fun y6 =>
    bnd (yen (y6.2.1.1.1,(y6.2.1.1.2.1,y6.2.1.1.2.2.1),y6.2.2.1,y6.2.1.1.2.2.2.2.1,y6.2.1.1.2.2.2.2.2.1,y6.2.1.1.2.2.2.2.2.2.1,y6.2.1.1.2.2.2.2.2.2.2.1,y6.2.1.1.2.2.2.2.2.2.2.2.1,y6.2.2.2.1,y6.2.1.1.2.2.2.2.2.2.2.2.2.2.1,y6.2.1.1.2.2.2.2.2.2.2.2.2.2.2.1,y6.2.1.1.2.2.2.2.2.2.2.2.2.2.2.2.1)) fun r8 =>
    some ((r8.1.1,()),(r8.2.1,()))) (fun y6 =>
    some ((y6.1.1.1,()),((y6.2.1.1.1,(y6.2.1.1.2.1,y6.2.1.1.2.2.1),y6.2.2.1,y6.2.1.1.2.2.2.2.1,y6.2.1.1.2.2.2.2.2.1,y6.2.1.1.2.2.2.2.2.2.1,y6.2.1.1.2.2.2.2.2.2.2.1,y6.2.1.1.2.2.2.2.2.2.2.2.1,y6.2.2.2.1,y6.2.1.1.2.2.2.2.2.2.2.2.2.2.1,y6.2.1.1.2.2.2.2.2.2.2.2.2.2.2.1,y6.2.1.1.2.2.2.2.2.2.2.2.2.2.2.2.1),())))
theorem yPz (x:InD yck):zjH ⟨ymF,37,yxY⟩ Tryz.f172.results.toList ygM yck yhD x=yi0 x.1:=by kernel_rfl
theorem yKP:ConOk Tryz.prog 172 ⟨yck,yhD,fun x=>yi0 x.1⟩:=zkh (yHR) Tryz.func172 (by kernel_rfl) (by kernel_rfl) Tryz.ntmps172.symm (by decide) (fun x r h=>(yPz x).trans h)
def ynu (a0:dA):Bool×dA:=(!(yd (ygd a0)),ygd a0)
def yif (a0:dA):Bool:= !(yd a0)
theorem yW9 {a:dA} (i:Nat) (h:yd a=true):yaG a i=a:=yOB h _ _ _
theorem yNB (a0:dA) (hk:zi9 yck (a0,())) (hq:yif a0=true):yi0 a0=(fun n=>some ((n.1,()),(n.2,()))) (ynu a0):=by
  have hb:a0.2.2.1.length * 80≤2 ^ 47:=hk.1.2.2.1.1
  have hd0:yd a0=false:=by simpa [yif] using hq
  have h1:yn7 (yGC a0.2.2.1.length (yns a0))=some (bif yd ((List.range a0.2.2.1.length).foldl yaG (yns a0)) then .inr (ymn false ((List.range a0.2.2.1.length).foldl yaG (yns a0))) else .inl (yml ((List.range a0.2.2.1.length).foldl yaG (yns a0)))):=by
    have:=zkr (step:=yaJ) a0.2.2.1.length (fun i s=>ymh a0.2.2.1.length i s) (fun i s=>bif yd (yaG s i) then (.inr (yaG s i):dA ⊕ dA) else .inl (yaG s i)) (fun _ s=>s.2.2.1.length=a0.2.2.1.length∧yd s=false) id
      (fun b=>bif yd b then .inr (ymn false b) else .inl (yml b)) (fun i s hi hs=>by
        constructor
        · simp only [yaJ,ymh,yms,zjI (show (i:Int) < a0.2.2.1.length by omega),cond_true,wr (show -9223372036854775808≤(i:Int)+1 by omega) (by omega),Int.natCast_add,Int.natCast_one,Int.toNat_natCast,zkV,yXB,ypP]
          rw [yqG s i (s.2.2.2.2.2.2.2.1.tmod 2) (yaj (s.1,s.2.2.2.2.2.2.2.1,(i:Int),s.2.1.1,s.2.1.2,s.2.2.2.2.2.2.1,s.2.2.2.1,s.2.2.2.2.1)) (by unfold ybO; rw [zkO (by rw [hs.1]; exact hi),hs.2]; rfl)]
          simp only [zky,ybN]
          rw [show yfb s i (s.2.2.2.2.2.2.2.1.tmod 2) (yaj (s.1,s.2.2.2.2.2.2.2.1,(i:Int),s.2.1.1,s.2.1.2,s.2.2.2.2.2.2.1,s.2.2.2.1,s.2.2.2.2.1))=yaG s i from rfl]
          cases hd:yd (yaG s i)
          · rfl
          · simp only [hd,Bool.not_true,Bool.not_false,cond_true,ymn]
        · intro s' h
          cases hd:yd (yaG s i)
          · rw [hd]at h
            cases h
            exact ⟨(yLM s i).trans hs.1,hd⟩
          · rw [hd]at h; cases h) (fun s hs=>by simp only [yaJ,ymh,yms,hs.2,zkm (Int.le_refl _),cond_false,id,yml]) (yns a0) ⟨rfl,hd0⟩ 18446744073709551616 (by omega)
    rw [yBy (fun a i h=>yW9 i h),← List.range_eq_range'] at this
    exact this
  unfold yi0 ynu ygd
  refine (congrArg (fun z=>zjw z _ _) h1).trans ?_
  cases hd:yd ((List.range a0.2.2.1.length).foldl yaG (yns a0))
  · simp only [cond_false,zkJ,zkV]
    rw [ysD _ (by unfold yeo; rw [hd]; rfl)]; rfl
  · rw [yUV hd]
    simp only [cond_true,zkK,zkV]
    rw [hd]; rfl
def yie (a0:dA):Option (ResD yhD×MutD yck):=bif yif a0 then (fun n=>some ((n.1,()),(n.2,()))) (ynu a0) else none
theorem yOy (a0:dA) (h:yif a0=true):yie a0=(fun n=>some ((n.1,()),(n.2,()))) (ynu a0):=by unfold yie; rw [h]; rfl
def yyG:Con:=⟨yck,yhD,fun x=>yie x.1⟩
theorem yOi:ConOk Tryz.prog 172 yyG:=(yKP).mono (fun x r hk h=>zkW h (fun hq=>yNB x.1 hk hq))
end
end
end Go.Tf
