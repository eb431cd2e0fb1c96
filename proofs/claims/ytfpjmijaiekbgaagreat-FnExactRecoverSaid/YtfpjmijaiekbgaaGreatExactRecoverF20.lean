/- Functions of the program, and what they come to. -/
import Derived.Test.YtfpjmijaiekbgaaGreatExactRecoverF19
namespace Go.Tf
noncomputable section
open Go.Proofs
set_option synthInstance.maxHeartbeats 400000
set_option synthInstance.maxSize 10000
set_option linter.unusedVariables false
set_option linter.unusedSimpArgs false
set_option maxRecDepth 100000
section
def yAJ:Code:=(Tryz.f169.body).getD .skip
def yBe:Env:=zki TT [(202,yHU)] []
theorem yIv:FrOk Tryz.prog ⟨yBe,5,fun _=>none⟩ yAJ:=zkp yb yc ⟨y0E,trivial⟩
def yJQ:Nat→Option Seg:=fun _=>none
abbrev yfu:List Par:= [.rd tL]
abbrev yj0:List OT:= [⟨false,tI,.fz⟩]
def yoj (a0:List Int):Option (ResD yj0×MutD yfu) :=
  let r1:=ylA a0
  some ((r1,()),())
theorem yNL (x:InD yfu):zjH ⟨yBe,5,yJQ⟩ Tryz.f169.results.toList yAJ yfu yj0 x=yoj x.1:=by kernel_rfl
theorem yKs:ConOk Tryz.prog 169 ⟨yfu,yj0,fun x=>yoj x.1⟩:=zkh (yIv) Tryz.func169 (by kernel_rfl) (by kernel_rfl) Tryz.ntmps169.symm (by decide) (fun x r h=>(yNL x).trans h)
def ykj (a0:List Int):Int :=
  let r1:=ylA a0
  r1
def yxm:Con:=⟨yfu,yj0,fun x=>(fun n=>some ((n,()),())) (ykj x.1)⟩
theorem yMC (a0:List Int):yoj a0=(fun n=>some ((n,()),())) (ykj a0):=zkS (p:=fun (n:Int)=>((n,()),())) rfl
theorem yMQ:ConOk Tryz.prog 169 yxm:=(yKs).mono (fun x r _ h=>(yMC x.1).trans h)
end
section
def yIX:Code:=(Tryz.f171.body).getD .skip
def yJm:Env:=zki TT [(114,yn)] []
theorem yQE:FrOk Tryz.prog ⟨yJm,34,fun _=>none⟩ yIX:=zkp yb yc ⟨yw,trivial⟩
def yTq:Nat→Option Seg:=fun _=>none
abbrev yhx:List Par:= [.rd tA,.rd tI,.rd tI]
abbrev ytA:List OT:= [⟨false,tB,.fz⟩]
def ypB (a0:dA) (a1:Int) (a2:Int):Option (ResD ytA×MutD yhx) :=
  let r1:=yd a1 0 (IntKind.i64.wrap ((a0.2.2.1.length:Int) - 1))
  bif r1 then
    bif (inb a1 a0.2.2.1.length) then
      bif (!((((nth a0.2.2.1 a1 ([],[],false,[])).2).2).1)) then
        bif (!(a0.2.2.2.1 !=a1)) then
          some (((ltb a2 a0.2.2.2.2.1),()),())
        else
          some ((true,()),())
      else
        some ((false,()),())
    else none
  else
    some ((false,()),())
theorem yZD (x:InD yhx):zjH ⟨yJm,34,yTq⟩ Tryz.f171.results.toList yIX yhx ytA x=ypB x.1 x.2.1 x.2.2.1:=by kernel_rfl
theorem yVI:ConOk Tryz.prog 171 ⟨yhx,ytA,fun x=>ypB x.1 x.2.1 x.2.2.1⟩:=zkh (yQE) Tryz.func171 (by kernel_rfl) (by kernel_rfl) Tryz.ntmps171.symm (by decide) (fun x r h=>(yZD x).trans h)
def ynI (a0:dA) (a1 a2:Int):Bool:=ylr a0 a1 a2
theorem yXU (a0:dA) (a1 a2:Int) (hk:zi9 yhx (a0,a1,a2,())):ypB a0 a1 a2=(fun n=>some ((n,()),())) (ynI a0 a1 a2):=by
  have hb:a0.2.2.1.length * 80≤2 ^ 47:=hk.1.2.2.1.1
  unfold ypB ynI ylr yf
  rw [yM,ytb (show a0.2.2.1.length≤1152921504606846976 by omega),bne_comm]
  cases inb a1 a0.2.2.1.length
  · rfl
  · cases (nth a0.2.2.1 a1 ([],[],false,[])).2.2.1<;>cases (a1 !=a0.2.2.2.1)<;>rfl
def yGn:Con:=⟨yhx,ytA,fun x=>(fun n=>some ((n,()),())) (ynI x.1 x.2.1 x.2.2.1)⟩
theorem yYQ:ConOk Tryz.prog 171 yGn:=(yVI).mono (fun x r hk h=>(yXU x.1 x.2.1 x.2.2.1 hk).trans h)
end
section
def yaK:Code:=(Tryz.f87.body).getD .skip
def ydS:Env:=zki TT [(78,yje),(79,yGk),(127,yGl),(169,yxm),(170,yst),(171,yGn)] []
theorem yJ2:FrOk Tryz.prog ⟨ydS,70,fun _=>none⟩ yaK:=zkp yb yc ⟨ysG,yYN,yYO,yMQ,yEI,yYQ,trivial⟩
def yyU:Nat→Option Seg:=fun _=>none
def yan:Shape:=⟨[(0,false,[.ptr 1000000000 0]),(1,false,[.int .i64]),(7,false,[.at 800000000]),(28,false,[.br tI]),(29,false,[.int .i64]),(30,false,[.int .i64])],[(1000000000,[.int .i64,.int .i64,.int .i64,.at 800000001,.int .i64,.int .i64,.int .i64,.int .i64,.int .i64,.at 800000002,.int .i64,.bool,.bool])],[(800000000,tI,.fz),(800000001,tM,(.pr (.ow (.ow .fz)) (.pr (.ow (.pr .fz (.ow .fz))) (.pr .fz (.ow .fz))))),(800000002,tW,(.pr .fz (.ow .fz)))]⟩
def ydM:Shape:=⟨[(0,false,[.ptr 1000000000 0]),(1,false,[.int .i64]),(7,false,[.at 800000000]),(28,false,[.br tI]),(29,false,[.int .i64]),(30,false,[.ci .i64 0])],[(1000000000,[.int .i64,.int .i64,.int .i64,.at 800000001,.int .i64,.int .i64,.int .i64,.int .i64,.int .i64,.at 800000002,.int .i64,.bool,.bool])],[(800000000,tI,.fz),(800000001,tM,(.pr (.ow (.ow .fz)) (.pr (.ow (.pr .fz (.ow .fz))) (.pr .fz (.ow .fz))))),(800000002,tW,(.pr .fz (.ow .fz)))]⟩
def ydG:Shape:=⟨[(0,false,[.ptr 1000000000 0]),(1,false,[.int .i64]),(7,false,[.at 800000000])],[(1000000000,[.int .i64,.int .i64,.int .i64,.at 800000001,.int .i64,.int .i64,.int .i64,.int .i64,.int .i64,.at 800000002,.int .i64,.bool,.bool])],[(800000000,tI,.fz),(800000001,tM,(.pr (.ow (.ow .fz)) (.pr (.ow (.pr .fz (.ow .fz))) (.pr .fz (.ow .fz))))),(800000002,tW,(.pr .fz (.ow .fz)))]⟩
def yhh:Shape:=⟨[],[],[]⟩
abbrev ymw (v0:Int) (v1:List Int) (v2:Int) (v3:Int) (v4:dA) (v5:List Int):(yan).X:=((((),()),(v0,()),((),()),(v1,()),(v2,()),(v3,()),()),((v4.1,v4.2.1.1,v4.2.1.2,(),v4.2.2.2.1,v4.2.2.2.2.1,v4.2.2.2.2.2.1,v4.2.2.2.2.2.2.1,v4.2.2.2.2.2.2.2.1,(),v4.2.2.2.2.2.2.2.2.2.1,v4.2.2.2.2.2.2.2.2.2.2.1,v4.2.2.2.2.2.2.2.2.2.2.2,()),()),(v5,v4.2.2.1,v4.2.2.2.2.2.2.2.2.1,()))
abbrev yIF (v0:Int) (v1:List Int) (v2:Int) (v3:dA) (v4:List Int):(ydM).X:=((((),()),(v0,()),((),()),(v1,()),(v2,()),((),()),()),((v3.1,v3.2.1.1,v3.2.1.2,(),v3.2.2.2.1,v3.2.2.2.2.1,v3.2.2.2.2.2.1,v3.2.2.2.2.2.2.1,v3.2.2.2.2.2.2.2.1,(),v3.2.2.2.2.2.2.2.2.2.1,v3.2.2.2.2.2.2.2.2.2.2.1,v3.2.2.2.2.2.2.2.2.2.2.2,()),()),(v4,v3.2.2.1,v3.2.2.2.2.2.2.2.2.1,()))
abbrev ywH (v0:Int) (v1:dA) (v2:List Int):(ydG).X:=((((),()),(v0,()),((),()),()),((v1.1,v1.2.1.1,v1.2.1.2,(),v1.2.2.2.1,v1.2.2.2.2.1,v1.2.2.2.2.2.1,v1.2.2.2.2.2.2.1,v1.2.2.2.2.2.2.2.1,(),v1.2.2.2.2.2.2.2.2.2.1,v1.2.2.2.2.2.2.2.2.2.2.1,v1.2.2.2.2.2.2.2.2.2.2.2,()),()),(v2,v1.2.2.1,v1.2.2.2.2.2.2.2.2.1,()))
def ym2 (v0:Int) (v1:List Int) (v2:Int) (v3:Int) (v4:Int) (v5:Int) (v6:Int) (v7:Int) (v8:Int) (v9:Int) (v10:Int) (v11:Int) (v12:Int) (v13:Bool) (v14:Bool) (v15:List Int) (v16:List dM) (v17:List dW):Option ((yan).X ⊕ ((ydG).X ⊕ (yhh).X)) :=
  bif (ltb v3 v2) then
    bif (inb v3 v1.length) then
      let r5:=ynG (v5,v6) v0 v3
      bif (inb r5 v15.length) then
        some (.inl ((((),()),(v0,()),((),()),(v1,()),(v2,()),((IntKind.i64.wrap (v3+1)),()),()),((v4,v5,v6,(),v7,v8,v9,v10,v11,(),v12,v13,v14,()),()),((v15.set (r5).toNat (nth v1 v3 0)),v16,v17,())))
      else none
    else none
  else
    some (.inr (.inl ((((),()),(v0,()),((),()),()),((v4,v5,v6,(),v7,v8,v9,v10,v11,(),v12,v13,v14,()),()),(v15,v16,v17,()))))
def yaB (x:(yan).X):=ym2 x.1.2.1.1 x.1.2.2.2.1.1 x.1.2.2.2.2.1.1 x.1.2.2.2.2.2.1.1 x.2.1.1.1 x.2.1.1.2.1 x.2.1.1.2.2.1 x.2.1.1.2.2.2.2.1 x.2.1.1.2.2.2.2.2.1 x.2.1.1.2.2.2.2.2.2.1 x.2.1.1.2.2.2.2.2.2.2.1 x.2.1.1.2.2.2.2.2.2.2.2.1 x.2.1.1.2.2.2.2.2.2.2.2.2.2.1 x.2.1.1.2.2.2.2.2.2.2.2.2.2.2.1 x.2.1.1.2.2.2.2.2.2.2.2.2.2.2.2.1 x.2.2.1 x.2.2.2.1 x.2.2.2.2.1
def ywm (x:(ydM).X):(yan).X:=((((),()),(x.1.2.1.1,()),((),()),(x.1.2.2.2.1.1,()),(x.1.2.2.2.2.1.1,()),(0,()),()),((x.2.1.1.1,x.2.1.1.2.1,x.2.1.1.2.2.1,(),x.2.1.1.2.2.2.2.1,x.2.1.1.2.2.2.2.2.1,x.2.1.1.2.2.2.2.2.2.1,x.2.1.1.2.2.2.2.2.2.2.1,x.2.1.1.2.2.2.2.2.2.2.2.1,(),x.2.1.1.2.2.2.2.2.2.2.2.2.2.1,x.2.1.1.2.2.2.2.2.2.2.2.2.2.2.1,x.2.1.1.2.2.2.2.2.2.2.2.2.2.2.2.1,()),()),(x.2.2.1,x.2.2.2.1,x.2.2.2.2.1,()))
def yxd:Code:=(zdI yaK 64 244).getD .skip
theorem yJT:zdI yaK 64 61=some (.block 0 (.loop yxd)):=by kernel_rfl
theorem yKw (x:(yan).X):zg7 ⟨ydS,70,yyU⟩ 0 yxd 244 yan ydG yhh x=yaB x:=by kernel_rfl
def ywu (x:(ydM).X):Nat:=(fun (u0:Int) (u1:List Int) (u2:Int) (u3:Int) (u4:Int) (u5:Int) (u6:Int) (u7:Int) (u8:Int) (u9:Int) (u10:Int) (u11:Int) (u12:Bool) (u13:Bool) (u14:List Int) (u15:List dM) (u16:List dW)=>18446744073709551616) x.1.2.1.1 x.1.2.2.2.1.1 x.1.2.2.2.2.1.1 x.2.1.1.1 x.2.1.1.2.1 x.2.1.1.2.2.1 x.2.1.1.2.2.2.2.1 x.2.1.1.2.2.2.2.2.1 x.2.1.1.2.2.2.2.2.2.1 x.2.1.1.2.2.2.2.2.2.2.1 x.2.1.1.2.2.2.2.2.2.2.2.1 x.2.1.1.2.2.2.2.2.2.2.2.2.2.1 x.2.1.1.2.2.2.2.2.2.2.2.2.2.2.1 x.2.1.1.2.2.2.2.2.2.2.2.2.2.2.2.1 x.2.2.1 x.2.2.2.1 x.2.2.2.2.1
def ynY (x:(ydM).X):Option ((ydG).X ⊕ (yhh).X):=zr yaB (ywu x) (ywm x)
def yw1:Seg:=⟨ydM,ydG,yhh,ynY⟩
def yp4:Nat→Option Seg:=fun q=>bif Nat.beq q 61 then some yw1 else yyU q
theorem yJ3:FrOk Tryz.prog ⟨ydS,70,yp4⟩ yaK:=(yJ2).loop (sg:=yw1) yan ywm (by decide) yJT yaB ywu (by decide) (fun _=>rfl) (fun x r _ h=>h) yKw
def yae:Shape:=⟨[(0,false,[.ptr 1000000000 0]),(1,false,[.int .i64]),(46,false,[.at 800000000]),(47,false,[.int .i64]),(48,false,[.int .i64])],[(1000000000,[.int .i64,.int .i64,.int .i64,.at 800000001,.int .i64,.int .i64,.int .i64,.int .i64,.int .i64,.at 800000002,.int .i64,.bool,.bool])],[(800000000,tI,.fz),(800000001,tM,(.pr (.ow (.ow .fz)) (.pr (.ow (.pr .fz (.ow .fz))) (.pr .fz (.ow .fz))))),(800000002,tW,(.pr .fz (.ow .fz)))]⟩
def ycY:Shape:=⟨[(0,false,[.ptr 1000000000 0]),(1,false,[.int .i64]),(46,false,[.at 800000000]),(47,false,[.int .i64]),(48,false,[.ci .i64 0])],[(1000000000,[.int .i64,.int .i64,.int .i64,.at 800000001,.int .i64,.int .i64,.int .i64,.int .i64,.int .i64,.at 800000002,.int .i64,.bool,.bool])],[(800000000,tI,.fz),(800000001,tM,(.pr (.ow (.ow .fz)) (.pr (.ow (.pr .fz (.ow .fz))) (.pr .fz (.ow .fz))))),(800000002,tW,(.pr .fz (.ow .fz)))]⟩
def ycW:Shape:=⟨[],[(1000000000,[.int .i64,.int .i64,.int .i64,.at 800000000,.int .i64,.int .i64,.int .i64,.int .i64,.int .i64,.at 800000001,.int .i64,.bool,.bool])],[(800000000,tM,(.pr (.ow (.ow .fz)) (.pr (.ow (.pr .fz (.ow .fz))) (.pr .fz (.ow .fz))))),(800000001,tW,(.pr .fz (.ow .fz)))]⟩
def yc0:Shape:=⟨[(6,false,[.bool])],[(1000000000,[.int .i64,.int .i64,.int .i64,.at 800000000,.int .i64,.int .i64,.int .i64,.int .i64,.int .i64,.at 800000001,.int .i64,.bool,.bool])],[(800000000,tM,(.pr (.ow (.ow .fz)) (.pr (.ow (.pr .fz (.ow .fz))) (.pr .fz (.ow .fz))))),(800000001,tW,(.pr .fz (.ow .fz)))]⟩
abbrev ylt (v0:Int) (v1:Int) (v2:Int) (v3:dA) (v4:List Int):(yae).X:=((((),()),(v0,()),((),()),(v1,()),(v2,()),()),((v3.1,v3.2.1.1,v3.2.1.2,(),v3.2.2.2.1,v3.2.2.2.2.1,v3.2.2.2.2.2.1,v3.2.2.2.2.2.2.1,v3.2.2.2.2.2.2.2.1,(),v3.2.2.2.2.2.2.2.2.2.1,v3.2.2.2.2.2.2.2.2.2.2.1,v3.2.2.2.2.2.2.2.2.2.2.2,()),()),(v4,v3.2.2.1,v3.2.2.2.2.2.2.2.2.1,()))
abbrev yIh (v0:Int) (v1:Int) (v2:dA) (v3:List Int):(ycY).X:=((((),()),(v0,()),((),()),(v1,()),((),()),()),((v2.1,v2.2.1.1,v2.2.1.2,(),v2.2.2.2.1,v2.2.2.2.2.1,v2.2.2.2.2.2.1,v2.2.2.2.2.2.2.1,v2.2.2.2.2.2.2.2.1,(),v2.2.2.2.2.2.2.2.2.2.1,v2.2.2.2.2.2.2.2.2.2.2.1,v2.2.2.2.2.2.2.2.2.2.2.2,()),()),(v3,v2.2.2.1,v2.2.2.2.2.2.2.2.2.1,()))
abbrev ylv (v0:dA):(ycW).X:=((),((v0.1,v0.2.1.1,v0.2.1.2,(),v0.2.2.2.1,v0.2.2.2.2.1,v0.2.2.2.2.2.1,v0.2.2.2.2.2.2.1,v0.2.2.2.2.2.2.2.1,(),v0.2.2.2.2.2.2.2.2.2.1,v0.2.2.2.2.2.2.2.2.2.2.1,v0.2.2.2.2.2.2.2.2.2.2.2,()),()),(v0.2.2.1,v0.2.2.2.2.2.2.2.2.1,()))
abbrev ylx (v0:Bool) (v1:dA):(yc0).X:=(((v0,()),()),((v1.1,v1.2.1.1,v1.2.1.2,(),v1.2.2.2.1,v1.2.2.2.2.1,v1.2.2.2.2.2.1,v1.2.2.2.2.2.2.1,v1.2.2.2.2.2.2.2.1,(),v1.2.2.2.2.2.2.2.2.2.1,v1.2.2.2.2.2.2.2.2.2.2.1,v1.2.2.2.2.2.2.2.2.2.2.2,()),()),(v1.2.2.1,v1.2.2.2.2.2.2.2.2.1,()))
def ylO (v0:Int) (v1:Int) (v2:Int) (v3:Int) (v4:Int) (v5:Int) (v6:Int) (v7:Int) (v8:Int) (v9:Int) (v10:Int) (v11:Int) (v12:Bool) (v13:Bool) (v14:List Int) (v15:List dM) (v16:List dW):Option ((yae).X ⊕ ((ycW).X ⊕ (yc0).X)) :=
  bif (ltb v2 v1) then
    bif (inb v2 v14.length) then
      let r10:=ynI (v3,(v4,v5),v15,v6,v7,v8,v9,v10,v16,v11,v12,v13) v2 v0
      bif r10 then
        let r11:=yt3 v0
        bnd (yeh (v3,(v4,v5),v15,v6,v7,v8,v9,v10,v16,v11,v12,v13) v2 r11 ([(nth v14 v2 0)]:List Int)) fun r12 =>
        bif (!r12.1.1) then
          some (.inr (.inr (((false,()),()),((r12.2.1.1,r12.2.1.2.1.1,r12.2.1.2.1.2,(),r12.2.1.2.2.2.1,r12.2.1.2.2.2.2.1,r12.2.1.2.2.2.2.2.1,r12.2.1.2.2.2.2.2.2.1,r12.2.1.2.2.2.2.2.2.2.1,(),r12.2.1.2.2.2.2.2.2.2.2.2.1,r12.2.1.2.2.2.2.2.2.2.2.2.2.1,r12.2.1.2.2.2.2.2.2.2.2.2.2.2,()),()),(r12.2.1.2.2.1,r12.2.1.2.2.2.2.2.2.2.2.1,()))))
        else
          some (.inl ((((),()),(v0,()),((),()),(v1,()),((IntKind.i64.wrap (v2+1)),()),()),((r12.2.1.1,r12.2.1.2.1.1,r12.2.1.2.1.2,(),r12.2.1.2.2.2.1,r12.2.1.2.2.2.2.1,r12.2.1.2.2.2.2.2.1,r12.2.1.2.2.2.2.2.2.1,r12.2.1.2.2.2.2.2.2.2.1,(),r12.2.1.2.2.2.2.2.2.2.2.2.1,r12.2.1.2.2.2.2.2.2.2.2.2.2.1,r12.2.1.2.2.2.2.2.2.2.2.2.2.2,()),()),(v14,r12.2.1.2.2.1,r12.2.1.2.2.2.2.2.2.2.2.1,())))
      else
        some (.inl ((((),()),(v0,()),((),()),(v1,()),((IntKind.i64.wrap (v2+1)),()),()),((v3,v4,v5,(),v6,v7,v8,v9,v10,(),v11,v12,v13,()),()),(v14,v15,v16,())))
    else none
  else
    some (.inr (.inl ((),((v3,v4,v5,(),v6,v7,v8,v9,v10,(),v11,v12,v13,()),()),(v15,v16,()))))
def yak (x:(yae).X):=ylO x.1.2.1.1 x.1.2.2.2.1.1 x.1.2.2.2.2.1.1 x.2.1.1.1 x.2.1.1.2.1 x.2.1.1.2.2.1 x.2.1.1.2.2.2.2.1 x.2.1.1.2.2.2.2.2.1 x.2.1.1.2.2.2.2.2.2.1 x.2.1.1.2.2.2.2.2.2.2.1 x.2.1.1.2.2.2.2.2.2.2.2.1 x.2.1.1.2.2.2.2.2.2.2.2.2.2.1 x.2.1.1.2.2.2.2.2.2.2.2.2.2.2.1 x.2.1.1.2.2.2.2.2.2.2.2.2.2.2.2.1 x.2.2.1 x.2.2.2.1 x.2.2.2.2.1
def yvg (x:(ycY).X):(yae).X:=((((),()),(x.1.2.1.1,()),((),()),(x.1.2.2.2.1.1,()),(0,()),()),((x.2.1.1.1,x.2.1.1.2.1,x.2.1.1.2.2.1,(),x.2.1.1.2.2.2.2.1,x.2.1.1.2.2.2.2.2.1,x.2.1.1.2.2.2.2.2.2.1,x.2.1.1.2.2.2.2.2.2.2.1,x.2.1.1.2.2.2.2.2.2.2.2.1,(),x.2.1.1.2.2.2.2.2.2.2.2.2.2.1,x.2.1.1.2.2.2.2.2.2.2.2.2.2.2.1,x.2.1.1.2.2.2.2.2.2.2.2.2.2.2.2.1,()),()),(x.2.2.1,x.2.2.2.1,x.2.2.2.2.1,()))
def ywd:Code:=(zdI yaK 64 500).getD .skip
theorem yIr:zdI yaK 64 125=some (.block 2 (.loop ywd)):=by kernel_rfl
theorem yIQ (x:(yae).X):zg7 ⟨ydS,70,yp4⟩ 2 ywd 500 yae ycW yc0 x=yak x:=by kernel_rfl
def yvi (x:(ycY).X):Nat:=(fun (u0:Int) (u1:Int) (u2:Int) (u3:Int) (u4:Int) (u5:Int) (u6:Int) (u7:Int) (u8:Int) (u9:Int) (u10:Int) (u11:Bool) (u12:Bool) (u13:List Int) (u14:List dM) (u15:List dW)=>18446744073709551616) x.1.2.1.1 x.1.2.2.2.1.1 x.2.1.1.1 x.2.1.1.2.1 x.2.1.1.2.2.1 x.2.1.1.2.2.2.2.1 x.2.1.1.2.2.2.2.2.1 x.2.1.1.2.2.2.2.2.2.1 x.2.1.1.2.2.2.2.2.2.2.1 x.2.1.1.2.2.2.2.2.2.2.2.1 x.2.1.1.2.2.2.2.2.2.2.2.2.2.1 x.2.1.1.2.2.2.2.2.2.2.2.2.2.2.1 x.2.1.1.2.2.2.2.2.2.2.2.2.2.2.2.1 x.2.2.1 x.2.2.2.1 x.2.2.2.2.1
def ylZ (x:(ycY).X):Option ((ycW).X ⊕ (yc0).X):=zr yak (yvi x) (yvg x)
def yvm:Seg:=⟨ycY,ycW,yc0,ylZ⟩
def yyV:Nat→Option Seg:=fun q=>bif Nat.beq q 125 then some yvm else yp4 q
theorem yJ4:FrOk Tryz.prog ⟨ydS,70,yyV⟩ yaK:=(yJ3).loop (sg:=yvm) yae yvg (by decide) yIr yak yvi (by decide) (fun _=>rfl) (fun x r _ h=>h) yIQ
abbrev ybZ:List Par:= [.pt tA (.pr .fz (.pr (.pr .fz .fz) (.pr (.ow (.pr (.ow (.ow .fz)) (.pr (.ow (.pr .fz (.ow .fz))) (.pr .fz (.ow .fz))))) (.pr .fz (.pr .fz (.pr .fz (.pr .fz (.pr .fz (.pr (.ow (.pr .fz (.ow .fz))) (.pr .fz (.pr .fz .fz))))))))))),.rd tI,.rd tL]
abbrev ygT:List OT:= [⟨false,tB,.fz⟩]
def yjB (a0:dA) (a1:Int) (a2:List Int):Option (ResD ygT×MutD ybZ) :=
  bif (zkc a0.2.1.1 8) then
    let r1:=yc3 a0.2.1 a1
    let r2:=ykj a2
    bif (inb r1 (List.replicate (a0.2.1.1).toNat (0:Int)).length) then
      let r3:=((List.replicate (a0.2.1.1).toNat (0:Int)).set (r1).toNat r2)
      zjw (ynY ((((),()),(a1,()),((),()),(a2,()),((a2.length:Int),()),((),()),()),((a0.1,a0.2.1.1,a0.2.1.2,(),a0.2.2.2.1,a0.2.2.2.2.1,a0.2.2.2.2.2.1,a0.2.2.2.2.2.2.1,a0.2.2.2.2.2.2.2.1,(),a0.2.2.2.2.2.2.2.2.2.1,a0.2.2.2.2.2.2.2.2.2.2.1,a0.2.2.2.2.2.2.2.2.2.2.2,()),()),(r3,a0.2.2.1,a0.2.2.2.2.2.2.2.2.1,()))) (fun y5 =>
        zjw (ylZ ((((),()),(y5.1.2.1.1,()),((),()),((y5.2.2.1.length:Int),()),((),()),()),((y5.2.1.1.1,y5.2.1.1.2.1,y5.2.1.1.2.2.1,(),y5.2.1.1.2.2.2.2.1,y5.2.1.1.2.2.2.2.2.1,y5.2.1.1.2.2.2.2.2.2.1,y5.2.1.1.2.2.2.2.2.2.2.1,y5.2.1.1.2.2.2.2.2.2.2.2.1,(),y5.2.1.1.2.2.2.2.2.2.2.2.2.2.1,y5.2.1.1.2.2.2.2.2.2.2.2.2.2.2.1,y5.2.1.1.2.2.2.2.2.2.2.2.2.2.2.2.1,()),()),(y5.2.2.1,y5.2.2.2.1,y5.2.2.2.2.1,()))) (fun y12 =>
          some ((true,()),((y12.2.1.1.1,(y12.2.1.1.2.1,y12.2.1.1.2.2.1),y12.2.2.1,y12.2.1.1.2.2.2.2.1,y12.2.1.1.2.2.2.2.2.1,y12.2.1.1.2.2.2.2.2.2.1,y12.2.1.1.2.2.2.2.2.2.2.1,y12.2.1.1.2.2.2.2.2.2.2.2.1,y12.2.2.2.1,y12.2.1.1.2.2.2.2.2.2.2.2.2.2.1,y12.2.1.1.2.2.2.2.2.2.2.2.2.2.2.1,y12.2.1.1.2.2.2.2.2.2.2.2.2.2.2.2.1),()))) (fun y12 =>
          some ((y12.1.1.1,()),((y12.2.1.1.1,(y12.2.1.1.2.1,y12.2.1.1.2.2.1),y12.2.2.1,y12.2.1.1.2.2.2.2.1,y12.2.1.1.2.2.2.2.2.1,y12.2.1.1.2.2.2.2.2.2.1,y12.2.1.1.2.2.2.2.2.2.2.1,y12.2.1.1.2.2.2.2.2.2.2.2.1,y12.2.2.2.1,y12.2.1.1.2.2.2.2.2.2.2.2.2.2.1,y12.2.1.1.2.2.2.2.2.2.2.2.2.2.2.1,y12.2.1.1.2.2.2.2.2.2.2.2.2.2.2.2.1),())))) (fun y5 =>
        none)
    else none
  else none
theorem yQs (x:InD ybZ):zjH ⟨ydS,70,yyV⟩ Tryz.f87.results.toList yaK ybZ ygT x=yjB x.1 x.2.1 x.2.2.1:=by kernel_rfl
theorem yMG:ConOk Tryz.prog 87 ⟨ybZ,ygT,fun x=>yjB x.1 x.2.1 x.2.2.1⟩:=zkh (yJ4) Tryz.func87 (by kernel_rfl) (by kernel_rfl) Tryz.ntmps87.symm (by decide) (fun x r h=>(yQs x).trans h)
def ymD (a0:dA) (a1:Int) (a2:List Int):Bool×dA:=(!(ye (yhP a0 a1 a2)),yhP a0 a1 a2)
def yhc (a0:dA) (a1:Int) (a2:List Int):Bool:= !(ye a0)&&(ykH a0.2.1 a1&&((a2.length:Int)==a0.2.1.1 - 1&&(a0.2.2.1.length:Int)==a0.2.1.1))
theorem yON (a0:dA) (a1:Int) (a2:List Int) (hk:zi9 ybZ (a0,a1,a2,())) (hq:yhc a0 a1 a2=true):yjB a0 a1 a2=(fun n=>some ((n.1,()),(n.2,()))) (ymD a0 a1 a2):=by
  simp only [yhc,Bool.and_eq_true,beq_iff_eq,Bool.not_eq_true'] at hq
  obtain ⟨hd0,hs0,hl0,hm0⟩:=hq
  have hg:=yaZ.1 (ylS.1 hs0).1
  have hp:=yvk hs0
  have hL:=y2e (N:=a0.2.1.1) (p:=yh a0.2.1 a1) (x:=ypV a2) (data:=a2) ⟨by omega,by omega⟩ hp hl0
  generalize hw:(List.range a0.2.1.1.toNat).map (fun (i:Nat)=>yyQ (yh a0.2.1 a1) a0.2.1.1 (ypV a2) a2 i)=W at hL
  have hWl:W.length=a0.2.2.1.length:=by rw [← hw,List.length_map,List.length_range]; omega
  have hWat: ∀ i:Nat,i < a0.2.2.1.length→nth W i 0=yyQ (yh a0.2.1 a1) a0.2.1.1 (ypV a2) a2 i:=fun i hi=>by
    rw [← hw,zjW,zcq (by rw [List.length_map,List.length_range]; omega)]; simp
  have h1:ynY (yIF a1 a2 a2.length a0 ((List.replicate a0.2.1.1.toNat 0).set (yh a0.2.1 a1).toNat (ypV a2)))=some (.inl (ywH a1 a0 W)):=by
    have:=zks (step:=yaB) a2.length (fun i s=>ymw a1 a2 a2.length i a0 s) (fun l (i:Nat)=>l.set ((yh a0.2.1 a1+1+i).tmod a0.2.1.1).toNat (nth a2 i 0)) (fun _ s=>s.length=a0.2.1.1.toNat) (fun s=> .inl (ywH a1 a0 s)) (fun i s hi hs=>⟨by
      have hd:=y2O hs0 (show (0:Int)≤i by omega) (show (i:Int)≤a0.2.1.1 - 2 by omega)
      have he:ywl a0.2.1 a1 i=(yh a0.2.1 a1+1+i).tmod a0.2.1.1:=by unfold ywl; rw [hs0,zk0 (show (0:Int)≤i by omega),zk0 (show (i:Int)≤a0.2.1.1 - 2 by omega)]; rfl
      simp only [yaB,ymw,ym2,zjI (show (i:Int) < a2.length by omega),cond_true,wr (show -9223372036854775808≤(i:Int)+1 by omega) (by omega),Int.natCast_add,Int.natCast_one,Int.toNat_natCast,zkO hi,zkV,ynG,zjP.2 (show 0≤ywl a0.2.1 a1 i∧ywl a0.2.1 a1 i < s.length by omega)]
      rw [he],by rw [List.length_set]; exact hs⟩) (fun s hs=>by simp only [yaB,ymw,ym2,zkm (Int.le_refl _),cond_false]) ((List.replicate a0.2.1.1.toNat 0).set (yh a0.2.1 a1).toNat (ypV a2)) (by rw [List.length_set,List.length_replicate]) 18446744073709551616 (by omega)
    rw [hL]at this
    exact this
  have h2:ylZ (yIh a1 W.length a0 W)=some (bif ye (yhP a0 a1 a2) then .inr (ylx false (yhP a0 a1 a2)) else .inl (ylv (yhP a0 a1 a2))):=by
    have:=zkr (step:=yak) a0.2.2.1.length (fun i s=>ylt a1 W.length i s W) (fun i s=>bif ye (yec (yh a0.2.1 a1) a0.2.1.1 a1 a2 s i) then (.inr (yec (yh a0.2.1 a1) a0.2.1.1 a1 a2 s i):dA ⊕ dA) else .inl (yec (yh a0.2.1 a1) a0.2.1.1 a1 a2 s i)) (fun _ s=>s.2.2.1.length=a0.2.2.1.length∧ye s=false) id
      (fun b=>bif ye b then .inr (ylx false b) else .inl (ylv b)) (fun i s hi hs=>by
        constructor
        · simp only [yak,ylt,ylO,zjI (show (i:Int) < W.length by omega),cond_true,wr (show -9223372036854775808≤(i:Int)+1 by omega) (by omega),Int.natCast_add,Int.natCast_one,Int.toNat_natCast,zkO (show i < W.length by omega),zkV,ynI,yXN,hWat i hi,yec]
          rw [ysI s i (ywk a1) [yyQ (yh a0.2.1 a1) a0.2.1.1 (ypV a2) a2 i] (by unfold ycb; rw [zkO (by rw [hs.1]; exact hi),hs.2]; rfl)]
          cases hlv:ylr s i a1
          · simp only [cond_false,hs.2]
          · simp only [zky,yb9,cond_true]
            cases hd:ye (yf4 s i (ywk a1) [yyQ (yh a0.2.1 a1) a0.2.1.1 (ypV a2) a2 i])
            · rfl
            · simp only [hd,Bool.not_true,Bool.not_false,cond_true,ylx]
        · intro s' h
          cases hd:ye (yec (yh a0.2.1 a1) a0.2.1.1 a1 a2 s i)
          · rw [hd]at h
            cases h
            exact ⟨(yyP _ _ _ _ s i).trans hs.1,hd⟩
          · rw [hd]at h; cases h) (fun s hs=>by simp only [yak,ylt,ylO,hs.2,hWl,zkm (Int.le_refl _),cond_false,id,ylv]) a0 ⟨rfl,hd0⟩ 18446744073709551616 (by omega)
    rw [yEy (fun a i h=>y0V _ _ _ _ i h),← List.range_eq_range'] at this
    exact this
  unfold yjB ymD yc3 ykj ylA
  rw [zkH.2 (show 0≤a0.2.1.1∧a0.2.1.1 * ((8:Nat):Int)≤140737488355328 by omega)]
  simp only [cond_true]
  rw [zjP.2 (show 0≤yh a0.2.1 a1∧yh a0.2.1 a1 < ((List.replicate a0.2.1.1.toNat (0:Int)).length:Int) by rw [List.length_replicate]; omega),cond_true]
  refine (congrArg (fun z=>zjw z _ _) h1).trans ?_
  rw [zkJ]
  refine (congrArg (fun z=>zjw z _ _) h2).trans ?_
  cases hd:ye (yhP a0 a1 a2)
  · rfl
  · simp only [cond_true,zkK,zkV]; rfl
def yg9 (a0:dA) (a1:Int) (a2:List Int):Option (ResD ygT×MutD ybZ):=bif yhc a0 a1 a2 then (fun n=>some ((n.1,()),(n.2,()))) (ymD a0 a1 a2) else none
theorem yPt (a0:dA) (a1:Int) (a2:List Int) (h:yhc a0 a1 a2=true):yg9 a0 a1 a2=(fun n=>some ((n.1,()),(n.2,()))) (ymD a0 a1 a2):=by unfold yg9; rw [h]; rfl
def yzl:Con:=⟨ybZ,ygT,fun x=>yg9 x.1 x.2.1 x.2.2.1⟩
theorem yPm:ConOk Tryz.prog 87 yzl:=(yMG).mono (fun x r hk h=>zkW h (fun hq=>yON x.1 x.2.1 x.2.2.1 hk hq))
end
section
def yHe:Code:=(Tryz.f258.body).getD .skip
def yHI:Env:=zki TT [(114,yn),(129,yrJ),(130,ywg)] []
theorem yNV:FrOk Tryz.prog ⟨yHI,44,fun _=>none⟩ yHe:=zkp yb yc ⟨yw,yAy,yIl,trivial⟩
def yP2:Nat→Option Seg:=fun _=>none
abbrev yk1:List Par:= [.rd tS]
abbrev yro:List OT:= [⟨false,tB,.fz⟩]
def yuM (a0:dS):Option (ResD yro×MutD yk1) :=
  let r1:=yd a0.1 1 60000
  bif r1 then
    let r2:=yd a0.2.1 0 60000
    bif r2 then
      let r3:=yd a0.2.2.2.2.2.1 0 60000
      bif r3 then
        let r4:=yeJ (a0.2.2.2.1,a0.2.2.2.2.1)
        bif r4 then
          let r5:=yd a0.2.2.1 0 (IntKind.i64.wrap (a0.2.2.2.1 - 1))
          bif r5 then
            let r6:=yfq (a0.2.2.2.1,a0.2.2.2.2.1) a0.2.2.2.2.2.2.1 a0.2.2.2.2.2.2.2
            some ((r6,()),())
          else
            some ((false,()),())
        else
          some ((false,()),())
      else
        some ((false,()),())
    else
      some ((false,()),())
  else
    some ((false,()),())
theorem yXe (x:InD yk1):zjH ⟨yHI,44,yP2⟩ Tryz.f258.results.toList yHe yk1 yro x=yuM x.1:=by kernel_rfl
theorem ySm:ConOk Tryz.prog 258 ⟨yk1,yro,fun x=>yuM x.1⟩:=zkh (yNV) Tryz.func258 (by kernel_rfl) (by kernel_rfl) Tryz.ntmps258.symm (by decide) (fun x r h=>(yXe x).trans h)
def yee (a0:dS):Bool :=
  let r1:=yd a0.1 1 60000
  bif r1 then
    let r2:=yd a0.2.1 0 60000
    bif r2 then
      let r3:=yd a0.2.2.2.2.2.1 0 60000
      bif r3 then
        let r4:=yeJ (a0.2.2.2.1,a0.2.2.2.2.1)
        bif r4 then
          let r5:=yd a0.2.2.1 0 (IntKind.i64.wrap (a0.2.2.2.1 - 1))
          bif r5 then
            let r6:=yfq (a0.2.2.2.1,a0.2.2.2.2.1) a0.2.2.2.2.2.2.1 a0.2.2.2.2.2.2.2
            r6
          else
            false
        else
          false
      else
        false
    else
      false
  else
    false
def yus:Con:=⟨yk1,yro,fun x=>(fun n=>some ((n,()),())) (yee x.1)⟩
theorem yVh (a0:dS):yuM a0=(fun n=>some ((n,()),())) (yee a0):=zkS (p:=fun (n:Bool)=>((n,()),())) (zkx (p:=fun (n:Bool)=>((n,()),())) (zkx (p:=fun (n:Bool)=>((n,()),())) (zkx (p:=fun (n:Bool)=>((n,()),())) (zkx (p:=fun (n:Bool)=>((n,()),())) (zkx (p:=fun (n:Bool)=>((n,()),())) rfl rfl) rfl) rfl) rfl) rfl)
theorem yGS:ConOk Tryz.prog 258 yus:=(ySm).mono (fun x r _ h=>(yVh x.1).trans h)
theorem yJJ (s:dS):yee s=yr s:=by
  rw [Bool.eq_iff_iff,y1X]
  unfold yee yfq
  simp only [yU5,yM]
  cases hg:yg (s.2.2.2.1,s.2.2.2.2.1)
  · cases ya s.1 1 60000<;>cases ya s.2.1 0 60000<;>cases ya s.2.2.2.2.2.1 0 60000<;>simp
  have hg2:=yaZ.1 hg
  simp only at hg2
  rw [wr (show -9223372036854775808≤s.2.2.2.1 - 1 by omega) (by omega)]
  simp only [← yta]
  cases ya s.1 1 60000
  · simp
  cases ya s.2.1 0 60000
  · simp
  cases ya s.2.2.2.2.2.1 0 60000
  · simp
  cases ya s.2.2.1 0 (s.2.2.2.1 - 1)
  · simp
  cases hl:ya s.2.2.2.2.2.2.1 (-1) (s.2.2.2.1 - 1)
  · simp
  cases ya s.2.2.2.2.2.2.2 0 s.2.2.2.2.1
  · simp
  have:=yta.1 hl
  by_cases h0:s.2.2.2.2.2.2.2=0
  · simp [h0]
  · simp [h0]; omega
end
section
def yFf:Code:=(Tryz.f232.body).getD .skip
def yFT:Env:=zki TT [(258,yus)] []
theorem yLH:FrOk Tryz.prog ⟨yFT,24,fun _=>none⟩ yFf:=zkp yb yc ⟨yGS,trivial⟩
def yNi:Nat→Option Seg:=fun _=>none
abbrev yid:List Par:= [.rd tS]
abbrev yoZ:List OT:= [⟨false,tL,(.ow .fz)⟩]
def ysJ (a0:dS):Option (ResD yoZ×MutD yid) :=
  let r1:=yee a0
  bif (!r1) then
    some (([],()),())
  else
    some ((([21317,a0.1,a0.2.1,a0.2.2.1,a0.2.2.2.1,a0.2.2.2.2.1,a0.2.2.2.2.2.1,(IntKind.i64.wrap (a0.2.2.2.2.2.2.1+1)),a0.2.2.2.2.2.2.2]:List Int),()),())
theorem yT6 (x:InD yid):zjH ⟨yFT,24,yNi⟩ Tryz.f232.results.toList yFf yid yoZ x=ysJ x.1:=by kernel_rfl
theorem yO1:ConOk Tryz.prog 232 ⟨yid,yoZ,fun x=>ysJ x.1⟩:=zkh (yLH) Tryz.func232 (by kernel_rfl) (by kernel_rfl) Tryz.ntmps232.symm (by decide) (fun x r h=>(yT6 x).trans h)
def yjo (a0:dS):(List Int) :=
  let r1:=yee a0
  bif (!r1) then
    []
  else
    ([21317,a0.1,a0.2.1,a0.2.2.1,a0.2.2.2.1,a0.2.2.2.2.1,a0.2.2.2.2.2.1,(IntKind.i64.wrap (a0.2.2.2.2.2.2.1+1)),a0.2.2.2.2.2.2.2]:List Int)
def yBD:Con:=⟨yid,yoZ,fun x=>(fun n=>some ((n,()),())) (yjo x.1)⟩
theorem yRY (a0:dS):ysJ a0=(fun n=>some ((n,()),())) (yjo a0):=zkS (p:=fun (n:(List Int))=>((n,()),())) (zkx (p:=fun (n:(List Int))=>((n,()),())) rfl rfl)
theorem ySN:ConOk Tryz.prog 232 yBD:=(yO1).mono (fun x r _ h=>(yRY x.1).trans h)
theorem y1R (s:dS):yjo s=yax s:=by
  unfold yjo yax
  rw [yJJ]
end
section
def yHg:Code:=(Tryz.f233.body).getD .skip
def yHK:Env:=zki TT [] []
theorem yN4:FrOk Tryz.prog ⟨yHK,23,fun _=>none⟩ yHg:=zkp yb yc trivial
def yP4:Nat→Option Seg:=fun _=>none
abbrev yk4:List Par:= [.rd tA,.rd tI]
abbrev yrs:List OT:= [⟨false,tS,(.pr .fz (.pr .fz (.pr .fz (.pr .fz (.pr .fz (.pr .fz (.pr .fz .fz)))))))⟩]
def yuO (a0:dA) (a1:Int):Option (ResD yrs×MutD yk4) :=
  some (((a0.1,a0.2.2.2.2.2.2.2.1,a1,a0.2.1.1,a0.2.1.2,a0.2.2.2.2.2.2.1,a0.2.2.2.1,a0.2.2.2.2.1),()),())
theorem yXj (x:InD yk4):zjH ⟨yHK,23,yP4⟩ Tryz.f233.results.toList yHg yk4 yrs x=yuO x.1 x.2.1:=by kernel_rfl
theorem ySr:ConOk Tryz.prog 233 ⟨yk4,yrs,fun x=>yuO x.1 x.2.1⟩:=zkh (yN4) Tryz.func233 (by kernel_rfl) (by kernel_rfl) Tryz.ntmps233.symm (by decide) (fun x r h=>(yXj x).trans h)
def yrP (a0:dA) (a1:Int):dS :=
  (a0.1,a0.2.2.2.2.2.2.2.1,a1,a0.2.1.1,a0.2.1.2,a0.2.2.2.2.2.2.1,a0.2.2.2.1,a0.2.2.2.2.1)
def yDO:Con:=⟨yk4,yrs,fun x=>(fun n=>some ((n,()),())) (yrP x.1 x.2.1)⟩
theorem yVm (a0:dA) (a1:Int):yuO a0 a1=(fun n=>some ((n,()),())) (yrP a0 a1):=zkS (p:=fun (n:dS)=>((n,()),())) rfl
theorem yWk:ConOk Tryz.prog 233 yDO:=(ySr).mono (fun x r _ h=>(yVm x.1 x.2.1).trans h)
end
end
end Go.Tf
