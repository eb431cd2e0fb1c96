/- Functions of the program, and what they come to. -/
import Derived.Test.YtfpjmijaiekbgaaGreatExactReplayF11
namespace Go.Tf
noncomputable section
open Go.Proofs
set_option synthInstance.maxHeartbeats 400000
set_option synthInstance.maxSize 10000
set_option linter.unusedVariables false
set_option linter.unusedSimpArgs false
set_option maxRecDepth 100000
section
def yn1:Code:=(Tryz.f256.body).getD .skip
def ytn:Env:=zki TT [] []
theorem yQw:FrOk Tryz.prog ⟨ytn,18,fun _=>none⟩ yn1:=zkp yb yc trivial
def yEg:Nat→Option Seg:=fun _=>none
def ycu:Shape:=⟨[(0,false,[.br tI]),(3,false,[.int .i64]),(4,false,[.int .i64])],[],[]⟩
def yhy:Shape:=⟨[(0,false,[.br tI]),(3,false,[.ci .i64 0]),(4,false,[.ci .i64 0])],[],[]⟩
def yhg:Shape:=⟨[(3,false,[.int .i64])],[],[]⟩
def ynj:Shape:=⟨[],[],[]⟩
abbrev ysx (v0:List Int) (v1:Int) (v2:Int):(ycu).X:=(((v0,()),(v1,()),(v2,()),()),(),())
abbrev yNp (v0:List Int):(yhy).X:=(((v0,()),((),()),((),()),()),(),())
abbrev yBC (v0:Int):(yhg).X:=(((v0,()),()),(),())
def ysW (v0:List Int) (v1:Int) (v2:Int):Option ((ycu).X ⊕ ((yhg).X ⊕ (ynj).X)) :=
  bif (ltb v2 (v0.length:Int)) then
    bif (inb v2 v0.length) then
      some (.inl (((v0,()),((IntKind.i64.wrap ((BitVec.ofInt IntKind.i64.bits v1 ^^^ BitVec.ofInt IntKind.i64.bits (nth v0 v2 0)).toNat:Int)),()),((IntKind.i64.wrap (v2+1)),()),()),(),()))
    else none
  else
    some (.inr (.inl (((v1,()),()),(),())))
def yc2 (x:(ycu).X):=ysW x.1.1.1 x.1.2.1.1 x.1.2.2.1.1
def yBc (x:(yhy).X):(ycu).X:=(((x.1.1.1,()),(0,()),(0,()),()),(),())
def yC6:Code:=(zdI yn1 64 116).getD .skip
theorem yPp:zdI yn1 64 29=some (.block 0 (.loop yC6)):=by kernel_rfl
theorem ySb (x:(ycu).X):zg7 ⟨ytn,18,yEg⟩ 0 yC6 116 ycu yhg ynj x=yc2 x:=by kernel_rfl
def yBt (x:(yhy).X):Nat:=(fun (u0:List Int)=>18446744073709551616) x.1.1.1
def ytA (x:(yhy).X):Option ((yhg).X ⊕ (ynj).X):=zr yc2 (yBt x) (yBc x)
def yBW:Seg:=⟨yhy,yhg,ynj,ytA⟩
def yEh:Nat→Option Seg:=fun q=>bif Nat.beq q 29 then some yBW else yEg q
theorem yQx:FrOk Tryz.prog ⟨ytn,18,yEh⟩ yn1:=(yQw).loop (sg:=yBW) ycu yBc (by decide) yPp yc2 yBt (by decide) (fun _=>rfl) (fun x r _ h=>h) ySb
abbrev yjL:List Par:= [.rd tL]
abbrev yt4:List OT:= [⟨false,tI,.fz⟩]
def yp7 (a0:List Int):Option (ResD yt4×MutD yjL) :=
  zjw (ytA (((a0,()),((),()),((),()),()),(),())) (fun y0 =>
    some ((y0.1.1.1,()),())) (fun y0 =>
    none)
theorem yW2 (x:InD yjL):zjH ⟨ytn,18,yEh⟩ Tryz.f256.results.toList yn1 yjL yt4 x=yp7 x.1:=by kernel_rfl
theorem yUb:ConOk Tryz.prog 256 ⟨yjL,yt4,fun x=>yp7 x.1⟩:=zkh (yQx) Tryz.func256 (by kernel_rfl) (by kernel_rfl) Tryz.ntmps256.symm (by decide) (fun x r h=>(yW2 x).trans h)
def ykb (a0:List Int):Int:=ynV a0
theorem yV4 (a0:List Int) (hk:zi9 yjL (a0,())):yp7 a0=(fun n=>some ((n,()),())) (ykb a0):=by
  have hb:a0.length * 8≤2 ^ 47:=hk.1.1
  have h1:ytA (yNp a0)=some (.inl (yBC (ynV a0))) :=
    zkk (step:=yc2) a0 0 (fun i s=>ysx a0 s i) xw (fun _ _=>True) (fun s=> .inl (yBC s)) (fun i s hi _=>⟨by
      simp only [yc2,ysx,ysW,zjI (show (i:Int) < a0.length by omega),cond_true,wr (show -9223372036854775808≤(i:Int)+1 by omega) (by omega),Int.natCast_add,Int.natCast_one,Int.toNat_natCast,zkO hi,zjW]; rfl,trivial⟩) (fun s _=>by simp only [yc2,ysx,ysW,zkm (Int.le_refl _),cond_false]) 0 trivial _ (by show _ < 18446744073709551616; omega)
  unfold yp7 ykb
  rw [h1]; rfl
def yEL:Con:=⟨yjL,yt4,fun x=>(fun n=>some ((n,()),())) (ykb x.1)⟩
theorem yWu:ConOk Tryz.prog 256 yEL:=(yUb).mono (fun x r hk h=>(yV4 x.1 hk).trans h)
end
section
def yxW:Code:=(Tryz.f226.body).getD .skip
def yyn:Env:=zki TT [(256,yEL)] []
theorem yFe:FrOk Tryz.prog ⟨yyn,5,fun _=>none⟩ yxW:=zkp yb yc ⟨yWu,trivial⟩
def yGk:Nat→Option Seg:=fun _=>none
abbrev yeA:List Par:= [.rd tL]
abbrev yiH:List OT:= [⟨false,tI,.fz⟩]
def ymr (a0:List Int):Option (ResD yiH×MutD yeA) :=
  let r1:=ykb a0
  some ((r1,()),())
theorem yJS (x:InD yeA):zjH ⟨yyn,5,yGk⟩ Tryz.f226.results.toList yxW yeA yiH x=ymr x.1:=by kernel_rfl
theorem yGL:ConOk Tryz.prog 226 ⟨yeA,yiH,fun x=>ymr x.1⟩:=zkh (yFe) Tryz.func226 (by kernel_rfl) (by kernel_rfl) Tryz.ntmps226.symm (by decide) (fun x r h=>(yJS x).trans h)
def yiZ (a0:List Int):Int :=
  let r1:=ykb a0
  r1
def yuW:Con:=⟨yeA,yiH,fun x=>(fun n=>some ((n,()),())) (yiZ x.1)⟩
theorem yIQ (a0:List Int):ymr a0=(fun n=>some ((n,()),())) (yiZ a0):=zkS (p:=fun (n:Int)=>((n,()),())) rfl
theorem yI1:ConOk Tryz.prog 226 yuW:=(yGL).mono (fun x r _ h=>(yIQ x.1).trans h)
end
section
def yFJ:Code:=(Tryz.f227.body).getD .skip
def yF4:Env:=zki TT [(98,yz)] []
theorem yMO:FrOk Tryz.prog ⟨yF4,34,fun _=>none⟩ yFJ:=zkp yb yc ⟨yP,trivial⟩
def yO9:Nat→Option Seg:=fun _=>none
abbrev ygx:List Par:= [.rd tA,.rd tI,.rd tI]
abbrev yrP:List OT:= [⟨false,tB,.fz⟩]
def ynM (a0:dA) (a1:Int) (a2:Int):Option (ResD yrP×MutD ygx) :=
  let r1:=ya a1 0 (IntKind.i64.wrap ((a0.2.2.1.length:Int) - 1))
  bif r1 then
    bif (inb a1 a0.2.2.1.length) then
      bif (!((((nth a0.2.2.1 a1 ([],[],false,[])).2).2).1)) then
        bif (!(a1 !=a0.2.2.2.1)) then
          some (((ltb a2 a0.2.2.2.2.1),()),())
        else
          some ((true,()),())
      else
        some ((false,()),())
    else none
  else
    some ((false,()),())
theorem yVp (x:InD ygx):zjH ⟨yF4,34,yO9⟩ Tryz.f227.results.toList yFJ ygx yrP x=ynM x.1 x.2.1 x.2.2.1:=by kernel_rfl
theorem yRr:ConOk Tryz.prog 227 ⟨ygx,yrP,fun x=>ynM x.1 x.2.1 x.2.2.1⟩:=zkh (yMO) Tryz.func227 (by kernel_rfl) (by kernel_rfl) Tryz.ntmps227.symm (by decide) (fun x r h=>(yVp x).trans h)
def ygK (a0:dA) (a1 a2:Int):Bool:=yjV a0 a1 a2
theorem yTz (a0:dA) (a1 a2:Int) (hk:zi9 ygx (a0,a1,a2,())):ynM a0 a1 a2=(fun n=>some ((n,()),())) (ygK a0 a1 a2):=by
  have hb:a0.2.2.1.length * 80≤2 ^ 47:=hk.1.2.2.1.1
  unfold ynM ygK yjV yh
  rw [yq8 (show a0.2.2.1.length≤1152921504606846976 by omega)]
  cases inb a1 a0.2.2.1.length
  · rfl
  · cases (nth a0.2.2.1 a1 ([],[],false,[])).2.2.1<;>cases (a1 !=a0.2.2.2.1)<;>rfl
def yDr:Con:=⟨ygx,yrP,fun x=>(fun n=>some ((n,()),())) (ygK x.1 x.2.1 x.2.2.1)⟩
theorem yUv:ConOk Tryz.prog 227 yDr:=(yRr).mono (fun x r hk h=>(yTz x.1 x.2.1 x.2.2.1 hk).trans h)
end
section
def ylB:Code:=(Tryz.f162.body).getD .skip
def yro:Env:=zki TT [(149,ypJ),(150,yDp),(225,yyR),(226,yuW),(227,yDr)] []
theorem yM2:FrOk Tryz.prog ⟨yro,61,fun _=>none⟩ ylB:=zkp yb yc ⟨yxL,yUt,yOt,yI1,yUv,trivial⟩
def yCG:Nat→Option Seg:=fun _=>none
def ycw:Shape:=⟨[(0,false,[.ptr 1000000000 0]),(1,false,[.int .i64]),(2,false,[.br tI]),(6,false,[.int .i64]),(7,false,[.int .i64])],[(1000000000,[.int .i64,.int .i64,.int .i64,.at 800000000,.int .i64,.int .i64,.int .i64,.int .i64,.int .i64,.at 800000001,.int .i64,.bool,.bool])],[(800000000,tM,(.pr (.ow .fz) (.pr (.ow (.pr .fz .fz)) (.pr .fz (.ow .fz))))),(800000001,tW,(.pr .fz .fz))]⟩
def yhA:Shape:=⟨[(0,false,[.ptr 1000000000 0]),(1,false,[.int .i64]),(2,false,[.br tI]),(6,false,[.int .i64]),(7,false,[.ci .i64 0])],[(1000000000,[.int .i64,.int .i64,.int .i64,.at 800000000,.int .i64,.int .i64,.int .i64,.int .i64,.int .i64,.at 800000001,.int .i64,.bool,.bool])],[(800000000,tM,(.pr (.ow .fz) (.pr (.ow (.pr .fz .fz)) (.pr .fz (.ow .fz))))),(800000001,tW,(.pr .fz .fz))]⟩
def yhi:Shape:=⟨[],[(1000000000,[.int .i64,.int .i64,.int .i64,.at 800000000,.int .i64,.int .i64,.int .i64,.int .i64,.int .i64,.at 800000001,.int .i64,.bool,.bool])],[(800000000,tM,(.pr (.ow .fz) (.pr (.ow (.pr .fz .fz)) (.pr .fz (.ow .fz))))),(800000001,tW,(.pr .fz .fz))]⟩
def ynk:Shape:=⟨[],[],[]⟩
abbrev ysz (v0:Int) (v1:List Int) (v2:Int) (v3:Int) (v4:dA):(ycw).X:=((((),()),(v0,()),(v1,()),(v2,()),(v3,()),()),((v4.1,v4.2.1.1,v4.2.1.2,(),v4.2.2.2.1,v4.2.2.2.2.1,v4.2.2.2.2.2.1,v4.2.2.2.2.2.2.1,v4.2.2.2.2.2.2.2.1,(),v4.2.2.2.2.2.2.2.2.2.1,v4.2.2.2.2.2.2.2.2.2.2.1,v4.2.2.2.2.2.2.2.2.2.2.2,()),()),(v4.2.2.1,v4.2.2.2.2.2.2.2.2.1,()))
abbrev yNr (v0:Int) (v1:List Int) (v2:Int) (v3:dA):(yhA).X:=((((),()),(v0,()),(v1,()),(v2,()),((),()),()),((v3.1,v3.2.1.1,v3.2.1.2,(),v3.2.2.2.1,v3.2.2.2.2.1,v3.2.2.2.2.2.1,v3.2.2.2.2.2.2.1,v3.2.2.2.2.2.2.2.1,(),v3.2.2.2.2.2.2.2.2.2.1,v3.2.2.2.2.2.2.2.2.2.2.1,v3.2.2.2.2.2.2.2.2.2.2.2,()),()),(v3.2.2.1,v3.2.2.2.2.2.2.2.2.1,()))
abbrev yBD (v0:dA):(yhi).X:=((),((v0.1,v0.2.1.1,v0.2.1.2,(),v0.2.2.2.1,v0.2.2.2.2.1,v0.2.2.2.2.2.1,v0.2.2.2.2.2.2.1,v0.2.2.2.2.2.2.2.1,(),v0.2.2.2.2.2.2.2.2.2.1,v0.2.2.2.2.2.2.2.2.2.2.1,v0.2.2.2.2.2.2.2.2.2.2.2,()),()),(v0.2.2.1,v0.2.2.2.2.2.2.2.2.1,()))
def ysY (v0:Int) (v1:List Int) (v2:Int) (v3:Int) (v4:Int) (v5:Int) (v6:Int) (v7:Int) (v8:Int) (v9:Int) (v10:Int) (v11:Int) (v12:Int) (v13:Bool) (v14:Bool) (v15:List dM) (v16:List dW):Option ((ycw).X ⊕ ((yhi).X ⊕ (ynk).X)) :=
  bif (ltb v3 (v15.length:Int)) then
    let r9:=yiZ v1
    bif (v3 !=v2) then
      bif (v5 !=0) then
        bif (inb ((IntKind.i64.wrap ((IntKind.i64.wrap ((IntKind.i64.wrap (v3 - v2)) - 1))+v5)).tmod v5) v1.length) then
          let r10:=ygK (v4,(v5,v6),v15,v7,v8,v9,v10,v11,v16,v12,v13,v14) v3 v0
          bif r10 then
            let r11:=ygJ v0
            bnd (yf3 (v4,(v5,v6),v15,v7,v8,v9,v10,v11,v16,v12,v13,v14) v3 r11 ([(nth v1 ((IntKind.i64.wrap ((IntKind.i64.wrap ((IntKind.i64.wrap (v3 - v2)) - 1))+v5)).tmod v5) 0)]:List Int)) fun r12 =>
            some (.inl ((((),()),(v0,()),(v1,()),(v2,()),((IntKind.i64.wrap (v3+1)),()),()),((r12.2.1.1,r12.2.1.2.1.1,r12.2.1.2.1.2,(),r12.2.1.2.2.2.1,r12.2.1.2.2.2.2.1,r12.2.1.2.2.2.2.2.1,r12.2.1.2.2.2.2.2.2.1,r12.2.1.2.2.2.2.2.2.2.1,(),r12.2.1.2.2.2.2.2.2.2.2.2.1,r12.2.1.2.2.2.2.2.2.2.2.2.2.1,r12.2.1.2.2.2.2.2.2.2.2.2.2.2,()),()),(r12.2.1.2.2.1,r12.2.1.2.2.2.2.2.2.2.2.1,())))
          else
            some (.inl ((((),()),(v0,()),(v1,()),(v2,()),((IntKind.i64.wrap (v3+1)),()),()),((v4,v5,v6,(),v7,v8,v9,v10,v11,(),v12,v13,v14,()),()),(v15,v16,())))
        else none
      else none
    else
      let r13:=ygK (v4,(v5,v6),v15,v7,v8,v9,v10,v11,v16,v12,v13,v14) v3 v0
      bif r13 then
        let r14:=ygJ v0
        bnd (yf3 (v4,(v5,v6),v15,v7,v8,v9,v10,v11,v16,v12,v13,v14) v3 r14 ([r9]:List Int)) fun r15 =>
        some (.inl ((((),()),(v0,()),(v1,()),(v2,()),((IntKind.i64.wrap (v3+1)),()),()),((r15.2.1.1,r15.2.1.2.1.1,r15.2.1.2.1.2,(),r15.2.1.2.2.2.1,r15.2.1.2.2.2.2.1,r15.2.1.2.2.2.2.2.1,r15.2.1.2.2.2.2.2.2.1,r15.2.1.2.2.2.2.2.2.2.1,(),r15.2.1.2.2.2.2.2.2.2.2.2.1,r15.2.1.2.2.2.2.2.2.2.2.2.2.1,r15.2.1.2.2.2.2.2.2.2.2.2.2.2,()),()),(r15.2.1.2.2.1,r15.2.1.2.2.2.2.2.2.2.2.1,())))
      else
        some (.inl ((((),()),(v0,()),(v1,()),(v2,()),((IntKind.i64.wrap (v3+1)),()),()),((v4,v5,v6,(),v7,v8,v9,v10,v11,(),v12,v13,v14,()),()),(v15,v16,())))
  else
    some (.inr (.inl ((),((v4,v5,v6,(),v7,v8,v9,v10,v11,(),v12,v13,v14,()),()),(v15,v16,()))))
def yc4 (x:(ycw).X):=ysY x.1.2.1.1 x.1.2.2.1.1 x.1.2.2.2.1.1 x.1.2.2.2.2.1.1 x.2.1.1.1 x.2.1.1.2.1 x.2.1.1.2.2.1 x.2.1.1.2.2.2.2.1 x.2.1.1.2.2.2.2.2.1 x.2.1.1.2.2.2.2.2.2.1 x.2.1.1.2.2.2.2.2.2.2.1 x.2.1.1.2.2.2.2.2.2.2.2.1 x.2.1.1.2.2.2.2.2.2.2.2.2.2.1 x.2.1.1.2.2.2.2.2.2.2.2.2.2.2.1 x.2.1.1.2.2.2.2.2.2.2.2.2.2.2.2.1 x.2.2.1 x.2.2.2.1
def yBe (x:(yhA).X):(ycw).X:=((((),()),(x.1.2.1.1,()),(x.1.2.2.1.1,()),(x.1.2.2.2.1.1,()),(0,()),()),((x.2.1.1.1,x.2.1.1.2.1,x.2.1.1.2.2.1,(),x.2.1.1.2.2.2.2.1,x.2.1.1.2.2.2.2.2.1,x.2.1.1.2.2.2.2.2.2.1,x.2.1.1.2.2.2.2.2.2.2.1,x.2.1.1.2.2.2.2.2.2.2.2.1,(),x.2.1.1.2.2.2.2.2.2.2.2.2.2.1,x.2.1.1.2.2.2.2.2.2.2.2.2.2.2.1,x.2.1.1.2.2.2.2.2.2.2.2.2.2.2.2.1,()),()),(x.2.2.1,x.2.2.2.1,()))
def yC8:Code:=(zdI ylB 64 28).getD .skip
theorem yPr:zdI ylB 64 7=some (.block 0 (.loop yC8)):=by kernel_rfl
theorem ySd (x:(ycw).X):zg7 ⟨yro,61,yCG⟩ 0 yC8 28 ycw yhi ynk x=yc4 x:=by kernel_rfl
def yBv (x:(yhA).X):Nat:=(fun (u0:Int) (u1:List Int) (u2:Int) (u3:Int) (u4:Int) (u5:Int) (u6:Int) (u7:Int) (u8:Int) (u9:Int) (u10:Int) (u11:Int) (u12:Bool) (u13:Bool) (u14:List dM) (u15:List dW)=>18446744073709551616) x.1.2.1.1 x.1.2.2.1.1 x.1.2.2.2.1.1 x.2.1.1.1 x.2.1.1.2.1 x.2.1.1.2.2.1 x.2.1.1.2.2.2.2.1 x.2.1.1.2.2.2.2.2.1 x.2.1.1.2.2.2.2.2.2.1 x.2.1.1.2.2.2.2.2.2.2.1 x.2.1.1.2.2.2.2.2.2.2.2.1 x.2.1.1.2.2.2.2.2.2.2.2.2.2.1 x.2.1.1.2.2.2.2.2.2.2.2.2.2.2.1 x.2.1.1.2.2.2.2.2.2.2.2.2.2.2.2.1 x.2.2.1 x.2.2.2.1
def ytC (x:(yhA).X):Option ((yhi).X ⊕ (ynk).X):=zr yc4 (yBv x) (yBe x)
def yBY:Seg:=⟨yhA,yhi,ynk,ytC⟩
def yCH:Nat→Option Seg:=fun q=>bif Nat.beq q 7 then some yBY else yCG q
theorem yM3:FrOk Tryz.prog ⟨yro,61,yCH⟩ ylB:=(yM2).loop (sg:=yBY) ycw yBe (by decide) yPr yc4 yBv (by decide) (fun _=>rfl) (fun x r _ h=>h) ySd
abbrev yer:List Par:= [.pt tA (.pr .fz (.pr (.pr .fz .fz) (.pr (.ow (.pr (.ow .fz) (.pr (.ow (.pr .fz .fz)) (.pr .fz (.ow .fz))))) (.pr .fz (.pr .fz (.pr .fz (.pr .fz (.pr .fz (.pr (.ow (.pr .fz .fz)) (.pr .fz (.pr .fz .fz))))))))))),.rd tI,.rd tL]
abbrev ylS:List OT:= []
def ynS (a0:dA) (a1:Int) (a2:List Int):Option (ResD ylS×MutD yer) :=
  let r1:=yia a0.2.1 a1
  zjw (ytC ((((),()),(a1,()),(a2,()),(r1,()),((),()),()),((a0.1,a0.2.1.1,a0.2.1.2,(),a0.2.2.2.1,a0.2.2.2.2.1,a0.2.2.2.2.2.1,a0.2.2.2.2.2.2.1,a0.2.2.2.2.2.2.2.1,(),a0.2.2.2.2.2.2.2.2.2.1,a0.2.2.2.2.2.2.2.2.2.2.1,a0.2.2.2.2.2.2.2.2.2.2.2,()),()),(a0.2.2.1,a0.2.2.2.2.2.2.2.2.1,()))) (fun y15 =>
    some ((),((y15.2.1.1.1,(y15.2.1.1.2.1,y15.2.1.1.2.2.1),y15.2.2.1,y15.2.1.1.2.2.2.2.1,y15.2.1.1.2.2.2.2.2.1,y15.2.1.1.2.2.2.2.2.2.1,y15.2.1.1.2.2.2.2.2.2.2.1,y15.2.1.1.2.2.2.2.2.2.2.2.1,y15.2.2.2.1,y15.2.1.1.2.2.2.2.2.2.2.2.2.2.1,y15.2.1.1.2.2.2.2.2.2.2.2.2.2.2.1,y15.2.1.1.2.2.2.2.2.2.2.2.2.2.2.2.1),()))) (fun y15 =>
    none)
theorem yVy (x:InD yer):zjH ⟨yro,61,yCH⟩ Tryz.f162.results.toList ylB yer ylS x=ynS x.1 x.2.1 x.2.2.1:=by kernel_rfl
theorem yRA:ConOk Tryz.prog 162 ⟨yer,ylS,fun x=>ynS x.1 x.2.1 x.2.2.1⟩:=zkh (yM3) Tryz.func162 (by kernel_rfl) (by kernel_rfl) Tryz.ntmps162.symm (by decide) (fun x r h=>(yVy x).trans h)
def yr1 (a0:dA) (a1:Int) (a2:List Int):dA:=ygE a0 a1 a2
def yl9 (a0:dA) (a1:Int) (a2:List Int):Bool:=yjh a0.2.1 a1&&((a2.length:Int)==a0.2.1.1 - 1&&(a0.2.2.1.length:Int)==a0.2.1.1)
theorem yTI (a0:dA) (a1:Int) (a2:List Int) (hk:zi9 yer (a0,a1,a2,())) (hq:yl9 a0 a1 a2=true):ynS a0 a1 a2=(fun n=>some ((),(n,()))) (yr1 a0 a1 a2):=by
  simp only [yl9,Bool.and_eq_true,beq_iff_eq]at hq
  have hg:=yaF.1 (ykk.1 hq.1).1
  have hp:=ys9 hq.1
  have h1:ytC (yNr a1 a2 (yg a0.2.1 a1) a0)=some (.inl (yBD (ygE a0 a1 a2))) :=
    zks (step:=yc4) a0.2.2.1.length (fun i s=>ysz a1 a2 (yg a0.2.1 a1) i s) (ydy (yg a0.2.1 a1) a0.2.1.1 a1 a2) (fun _ s=>s.2.2.1.length=a0.2.2.1.length∧s.2.1=a0.2.1) (fun s=> .inl (yBD s)) (fun i s hi hs=>⟨by
      have hN:s.2.1.1=a0.2.1.1:=by rw [hs.2]
      simp only [yc4,ysz,ysY,hs.1,zjI (show (i:Int) < a0.2.2.1.length by omega),cond_true,wr (show -9223372036854775808≤(i:Int)+1 by omega) (by omega),Int.natCast_add,Int.natCast_one,Int.toNat_natCast,zkV,ykb,yiZ,ygK,yE5,ydy,yv9]
      rw [← hN]
      by_cases he:(i:Int)=yg a0.2.1 a1
      · rw [show ((i:Int) !=yg a0.2.1 a1)=false by simp [he],show ((i:Int)==yg a0.2.1 a1)=true from beq_iff_eq.2 he]
        rw [yr5 s i (yuf a1) [ynV a2] (zkO (by rw [hs.1]; exact hi))]
        cases yjV s i a1<;>rfl
      · have hd:=yZo (N:=s.2.1.1) (i:=i) (p:=yg a0.2.1 a1) ⟨by omega,by omega⟩ ⟨by omega,by omega⟩ ⟨hp.1,by omega⟩ he
        rw [show ((i:Int) !=yg a0.2.1 a1)=true from bne_iff_ne.2 he,show ((i:Int)==yg a0.2.1 a1)=false from beq_eq_false_iff_ne.2 he,show (s.2.1.1 !=0)=true from bne_iff_ne.2 (by omega),
          wr (show -9223372036854775808≤(i:Int) - yg a0.2.1 a1 by omega) (by omega),wr (show -9223372036854775808≤(i:Int) - yg a0.2.1 a1 - 1 by omega) (by omega),wr (show -9223372036854775808≤(i:Int) - yg a0.2.1 a1 - 1+s.2.1.1 by omega) (by omega),zjP.2 (show 0≤((i:Int) - yg a0.2.1 a1 - 1+s.2.1.1).tmod s.2.1.1∧((i:Int) - yg a0.2.1 a1 - 1+s.2.1.1).tmod s.2.1.1 < a2.length by omega)]
        rw [yr5 s i (yuf a1) [nth a2 (((i:Int) - yg a0.2.1 a1 - 1+s.2.1.1).tmod s.2.1.1) 0] (zkO (by rw [hs.1]; exact hi))]
        cases yjV s i a1<;>rfl,(yv8 _ _ _ _ s i).trans hs.1,(yL9 (yHL _ _ _ _ s i)).trans hs.2⟩) (fun s hs=>by simp only [yc4,ysz,ysY,hs.1,zkm (Int.le_refl _),cond_false]) a0 ⟨rfl,rfl⟩ _ (by show _ < 18446744073709551616; omega)
  unfold ynS yr1 yia
  exact (congrArg (fun z=>zjw z _ _) h1).trans rfl
def yl8 (a0:dA) (a1:Int) (a2:List Int):Option (ResD ylS×MutD yer):=bif yl9 a0 a1 a2 then (fun n=>some ((),(n,()))) (yr1 a0 a1 a2) else none
theorem yUG (a0:dA) (a1:Int) (a2:List Int) (h:yl9 a0 a1 a2=true):yl8 a0 a1 a2=(fun n=>some ((),(n,()))) (yr1 a0 a1 a2):=by unfold yl8; rw [h]; rfl
def yDy:Con:=⟨yer,ylS,fun x=>yl8 x.1 x.2.1 x.2.2.1⟩
theorem yUC:ConOk Tryz.prog 162 yDy:=(yRA).mono (fun x r hk h=>zkW h (fun hq=>yTI x.1 x.2.1 x.2.2.1 hk hq))
end
section
def ylC:Code:=(Tryz.f228.body).getD .skip
def yrp:Env:=zki TT [(149,ypJ),(224,ynr),(241,yyS)] []
theorem yM4:FrOk Tryz.prog ⟨yrp,63,fun _=>none⟩ ylC:=zkp yb yc ⟨yxL,yvI,yOu,trivial⟩
def yCI:Nat→Option Seg:=fun _=>none
def ybM:Shape:=⟨[(0,false,[.ptr 1000000000 0]),(2,false,[.int .i64])],[(1000000000,[.int .i64,.int .i64,.int .i64,.at 800000000,.int .i64,.int .i64,.int .i64,.int .i64,.int .i64,.at 800000001,.int .i64,.bool,.bool])],[(800000000,tM,(.pr (.ow .fz) (.pr (.ow (.pr .fz .fz)) (.pr .fz (.ow .fz))))),(800000001,tW,(.pr .fz .fz))]⟩
def yfM:Shape:=⟨[(0,false,[.ptr 1000000000 0]),(2,false,[.ci .i64 0])],[(1000000000,[.int .i64,.int .i64,.int .i64,.at 800000000,.int .i64,.int .i64,.int .i64,.int .i64,.int .i64,.at 800000001,.int .i64,.bool,.bool])],[(800000000,tM,(.pr (.ow .fz) (.pr (.ow (.pr .fz .fz)) (.pr .fz (.ow .fz))))),(800000001,tW,(.pr .fz .fz))]⟩
def yfF:Shape:=⟨[(0,false,[.ptr 1000000000 0])],[(1000000000,[.int .i64,.int .i64,.int .i64,.at 800000000,.int .i64,.int .i64,.int .i64,.int .i64,.int .i64,.at 800000001,.int .i64,.bool,.bool])],[(800000000,tM,(.pr (.ow .fz) (.pr (.ow (.pr .fz .fz)) (.pr .fz (.ow .fz))))),(800000001,tW,(.pr .fz .fz))]⟩
def ykV:Shape:=⟨[],[],[]⟩
abbrev yqC (v0:Int) (v1:dA):(ybM).X:=((((),()),(v0,()),()),((v1.1,v1.2.1.1,v1.2.1.2,(),v1.2.2.2.1,v1.2.2.2.2.1,v1.2.2.2.2.2.1,v1.2.2.2.2.2.2.1,v1.2.2.2.2.2.2.2.1,(),v1.2.2.2.2.2.2.2.2.2.1,v1.2.2.2.2.2.2.2.2.2.2.1,v1.2.2.2.2.2.2.2.2.2.2.2,()),()),(v1.2.2.1,v1.2.2.2.2.2.2.2.2.1,()))
abbrev yKF (v0:dA):(yfM).X:=((((),()),((),()),()),((v0.1,v0.2.1.1,v0.2.1.2,(),v0.2.2.2.1,v0.2.2.2.2.1,v0.2.2.2.2.2.1,v0.2.2.2.2.2.2.1,v0.2.2.2.2.2.2.2.1,(),v0.2.2.2.2.2.2.2.2.2.1,v0.2.2.2.2.2.2.2.2.2.2.1,v0.2.2.2.2.2.2.2.2.2.2.2,()),()),(v0.2.2.1,v0.2.2.2.2.2.2.2.2.1,()))
abbrev yzs (v0:dA):(yfF).X:=((((),()),()),((v0.1,v0.2.1.1,v0.2.1.2,(),v0.2.2.2.1,v0.2.2.2.2.1,v0.2.2.2.2.2.1,v0.2.2.2.2.2.2.1,v0.2.2.2.2.2.2.2.1,(),v0.2.2.2.2.2.2.2.2.2.1,v0.2.2.2.2.2.2.2.2.2.2.1,v0.2.2.2.2.2.2.2.2.2.2.2,()),()),(v0.2.2.1,v0.2.2.2.2.2.2.2.2.1,()))
def yqZ (v0:Int) (v1:Int) (v2:Int) (v3:Int) (v4:Int) (v5:Int) (v6:Int) (v7:Int) (v8:Int) (v9:Int) (v10:Bool) (v11:Bool) (v12:List dM) (v13:List dW):Option ((ybM).X ⊕ ((yfF).X ⊕ (ykV).X)) :=
  bif (ltb v0 (v12.length:Int)) then
    let r3:=yaj (v1,v8,v0,v2,v3,v7,v4,v5)
    bnd (yf3 (v1,(v2,v3),v12,v4,v5,v6,v7,v8,v13,v9,v10,v11) v0 (v8.tmod 2) r3) fun r4 =>
    some (.inl ((((),()),((IntKind.i64.wrap (v0+1)),()),()),((r4.2.1.1,r4.2.1.2.1.1,r4.2.1.2.1.2,(),r4.2.1.2.2.2.1,r4.2.1.2.2.2.2.1,r4.2.1.2.2.2.2.2.1,r4.2.1.2.2.2.2.2.2.1,r4.2.1.2.2.2.2.2.2.2.1,(),r4.2.1.2.2.2.2.2.2.2.2.2.1,r4.2.1.2.2.2.2.2.2.2.2.2.2.1,r4.2.1.2.2.2.2.2.2.2.2.2.2.2,()),()),(r4.2.1.2.2.1,r4.2.1.2.2.2.2.2.2.2.2.1,())))
  else
    some (.inr (.inl ((((),()),()),((v1,v2,v3,(),v4,v5,v6,v7,v8,(),v9,v10,v11,()),()),(v12,v13,()))))
def ych (x:(ybM).X):=yqZ x.1.2.1.1 x.2.1.1.1 x.2.1.1.2.1 x.2.1.1.2.2.1 x.2.1.1.2.2.2.2.1 x.2.1.1.2.2.2.2.2.1 x.2.1.1.2.2.2.2.2.2.1 x.2.1.1.2.2.2.2.2.2.2.1 x.2.1.1.2.2.2.2.2.2.2.2.1 x.2.1.1.2.2.2.2.2.2.2.2.2.2.1 x.2.1.1.2.2.2.2.2.2.2.2.2.2.2.1 x.2.1.1.2.2.2.2.2.2.2.2.2.2.2.2.1 x.2.2.1 x.2.2.2.1
def yza (x:(yfM).X):(ybM).X:=((((),()),(0,()),()),((x.2.1.1.1,x.2.1.1.2.1,x.2.1.1.2.2.1,(),x.2.1.1.2.2.2.2.1,x.2.1.1.2.2.2.2.2.1,x.2.1.1.2.2.2.2.2.2.1,x.2.1.1.2.2.2.2.2.2.2.1,x.2.1.1.2.2.2.2.2.2.2.2.1,(),x.2.1.1.2.2.2.2.2.2.2.2.2.2.1,x.2.1.1.2.2.2.2.2.2.2.2.2.2.2.1,x.2.1.1.2.2.2.2.2.2.2.2.2.2.2.2.1,()),()),(x.2.2.1,x.2.2.2.1,()))
def yAI:Code:=(zdI ylC 64 52).getD .skip
theorem yL8:zdI ylC 64 13=some (.block 0 (.loop yAI)):=by kernel_rfl
theorem yOQ (x:(ybM).X):zg7 ⟨yrp,63,yCI⟩ 0 yAI 52 ybM yfF ykV x=ych x:=by kernel_rfl
def yzp (x:(yfM).X):Nat:=(fun (u0:Int) (u1:Int) (u2:Int) (u3:Int) (u4:Int) (u5:Int) (u6:Int) (u7:Int) (u8:Int) (u9:Bool) (u10:Bool) (u11:List dM) (u12:List dW)=>18446744073709551616) x.2.1.1.1 x.2.1.1.2.1 x.2.1.1.2.2.1 x.2.1.1.2.2.2.2.1 x.2.1.1.2.2.2.2.2.1 x.2.1.1.2.2.2.2.2.2.1 x.2.1.1.2.2.2.2.2.2.2.1 x.2.1.1.2.2.2.2.2.2.2.2.1 x.2.1.1.2.2.2.2.2.2.2.2.2.2.1 x.2.1.1.2.2.2.2.2.2.2.2.2.2.2.1 x.2.1.1.2.2.2.2.2.2.2.2.2.2.2.2.1 x.2.2.1 x.2.2.2.1
def ysm (x:(yfM).X):Option ((yfF).X ⊕ (ykV).X):=zr ych (yzp x) (yza x)
def yzH:Seg:=⟨yfM,yfF,ykV,ysm⟩
def yCJ:Nat→Option Seg:=fun q=>bif Nat.beq q 13 then some yzH else yCI q
theorem yM5:FrOk Tryz.prog ⟨yrp,63,yCJ⟩ ylC:=(yM4).loop (sg:=yzH) ybM yza (by decide) yL8 ych yzp (by decide) (fun _=>rfl) (fun x r _ h=>h) yOQ
abbrev ygC:List Par:= [.pt tA (.pr .fz (.pr (.pr .fz .fz) (.pr (.ow (.pr (.ow .fz) (.pr (.ow (.pr .fz .fz)) (.pr .fz (.ow .fz))))) (.pr .fz (.pr .fz (.pr .fz (.pr .fz (.pr .fz (.pr (.ow (.pr .fz .fz)) (.pr .fz (.pr .fz .fz)))))))))))]
abbrev yrX:List OT:= []
def ynT (a0:dA):Option (ResD yrX×MutD ygC) :=
  zjw (ysm ((((),()),((),()),()),((a0.1,a0.2.1.1,a0.2.1.2,(),a0.2.2.2.1,a0.2.2.2.2.1,a0.2.2.2.2.2.1,a0.2.2.2.2.2.2.1,(IntKind.i64.wrap (a0.2.2.2.2.2.2.2.1+1)),(),a0.2.2.2.2.2.2.2.2.2.1,a0.2.2.2.2.2.2.2.2.2.2.1,a0.2.2.2.2.2.2.2.2.2.2.2,()),()),(a0.2.2.1,a0.2.2.2.2.2.2.2.2.1,()))) (fun y4 =>
    let r6:=yc9 (y4.2.1.1.1,(y4.2.1.1.2.1,y4.2.1.1.2.2.1),y4.2.2.1,y4.2.1.1.2.2.2.2.1,y4.2.1.1.2.2.2.2.2.1,y4.2.1.1.2.2.2.2.2.2.1,y4.2.1.1.2.2.2.2.2.2.2.1,y4.2.1.1.2.2.2.2.2.2.2.2.1,y4.2.2.2.1,y4.2.1.1.2.2.2.2.2.2.2.2.2.2.1,y4.2.1.1.2.2.2.2.2.2.2.2.2.2.2.1,y4.2.1.1.2.2.2.2.2.2.2.2.2.2.2.2.1)
    some ((),(r6,()))) (fun y4 =>
    none)
theorem yVz (x:InD ygC):zjH ⟨yrp,63,yCJ⟩ Tryz.f228.results.toList ylC ygC yrX x=ynT x.1:=by kernel_rfl
theorem yRB:ConOk Tryz.prog 228 ⟨ygC,yrX,fun x=>ynT x.1⟩:=zkh (yM5) Tryz.func228 (by kernel_rfl) (by kernel_rfl) Tryz.ntmps228.symm (by decide) (fun x r h=>(yVz x).trans h)
def ygL (a0:dA):dA:=ygd a0
theorem yLM (a:dA) (i:Nat):(yaG a i).2.2.1.length=a.2.2.1.length:=yzS _ _ _ _
theorem yTJ (a0:dA) (hk:zi9 ygC (a0,())):ynT a0=(fun n=>some ((),(n,()))) (ygL a0):=by
  have hb:a0.2.2.1.length * 80≤2 ^ 47:=hk.1.2.2.1.1
  have h1:ysm (yKF (yns a0))=some (.inl (yzs ((List.range a0.2.2.1.length).foldl yaG (yns a0)))) :=
    zks (step:=ych) a0.2.2.1.length (fun i s=>yqC i s) yaG (fun _ s=>s.2.2.1.length=a0.2.2.1.length) (fun s=> .inl (yzs s)) (fun i s hi hs=>⟨by
      simp only [ych,yqC,yqZ,hs,zjI (show (i:Int) < a0.2.2.1.length by omega),cond_true,wr (show -9223372036854775808≤(i:Int)+1 by omega) (by omega),Int.natCast_add,Int.natCast_one,Int.toNat_natCast,zkV]
      rw [yr5 s i (s.2.2.2.2.2.2.2.1.tmod 2) (yaj (s.1,s.2.2.2.2.2.2.2.1,(i:Int),s.2.1.1,s.2.1.2,s.2.2.2.2.2.2.1,s.2.2.2.1,s.2.2.2.2.1)) (zkO (by rw [hs]; exact hi))]
      rfl,(yLM s i).trans hs⟩) (fun s hs=>by simp only [ych,yqC,yqZ,hs,zkm (Int.le_refl _),cond_false]) (yns a0) rfl _ (by show _ < 18446744073709551616; omega)
  unfold ynT ygL ygd
  exact (congrArg (fun z=>zjw z _ _) h1).trans rfl
def yDz:Con:=⟨ygC,yrX,fun x=>(fun n=>some ((),(n,()))) (ygL x.1)⟩
theorem yUD:ConOk Tryz.prog 228 yDz:=(yRB).mono (fun x r hk h=>(yTJ x.1 hk).trans h)
end
section
def yD1:Code:=(Tryz.f163.body).getD .skip
def yEs:Env:=zki TT [(224,ynr),(228,yDz)] []
theorem yKu:FrOk Tryz.prog ⟨yEs,17,fun _=>none⟩ yD1:=zkp yb yc ⟨yvI,yUD,trivial⟩
def yLT:Nat→Option Seg:=fun _=>none
abbrev yjN:List Par:= [.pt tA (.pr .fz (.pr (.pr .fz .fz) (.pr (.ow (.pr (.ow .fz) (.pr (.ow (.pr .fz .fz)) (.pr .fz (.ow .fz))))) (.pr .fz (.pr .fz (.pr .fz (.pr .fz (.pr .fz (.pr (.ow (.pr .fz .fz)) (.pr .fz (.pr .fz .fz)))))))))))]
abbrev ypG:List OT:= []
def ysK (a0:dA):Option (ResD ypG×MutD yjN) :=
  let r1:=yc9 a0
  bif r1.2.2.2.2.2.2.2.2.2.2.1 then
    some ((),(r1,()))
  else
    let r2:=ygL (r1.1,r1.2.1,r1.2.2.1,r1.2.2.2.1,r1.2.2.2.2.1,r1.2.2.2.2.2.1,r1.2.2.2.2.2.1,r1.2.2.2.2.2.2.2)
    some ((),(r2,()))
theorem ySZ (x:InD yjN):zjH ⟨yEs,17,yLT⟩ Tryz.f163.results.toList yD1 yjN ypG x=ysK x.1:=by kernel_rfl
theorem yOh:ConOk Tryz.prog 163 ⟨yjN,ypG,fun x=>ysK x.1⟩:=zkh (yKu) Tryz.func163 (by kernel_rfl) (by kernel_rfl) Tryz.ntmps163.symm (by decide) (fun x r h=>(ySZ x).trans h)
def ykd (a0:dA):dA :=
  let r1:=yc9 a0
  bif r1.2.2.2.2.2.2.2.2.2.2.1 then
    r1
  else
    let r2:=ygL (r1.1,r1.2.1,r1.2.2.1,r1.2.2.2.1,r1.2.2.2.2.1,r1.2.2.2.2.2.1,r1.2.2.2.2.2.1,r1.2.2.2.2.2.2.2)
    r2
def yA1:Con:=⟨yjN,ypG,fun x=>(fun n=>some ((),(n,()))) (ykd x.1)⟩
theorem yQ2 (a0:dA):ysK a0=(fun n=>some ((),(n,()))) (ykd a0):=zkS (p:=fun (n:dA)=>((),(n,()))) (zkx (p:=fun (n:dA)=>((),(n,()))) rfl rfl)
theorem yRW:ConOk Tryz.prog 163 yA1:=(yOh).mono (fun x r _ h=>(yQ2 x.1).trans h)
theorem yWx (a:dA):ykd a=yQ a:=by
  unfold ykd yQ yc9 ygL
  show (bif yd (yH a) then yH a else ygd (yrd (yH a)))=_
  rfl
end
end
end Go.Tf
