/- Functions of the program, and what they come to. -/
import Derived.Test.YtgmadfpnljibhaaWordsF15
namespace Go.Tf
noncomputable section
open Go.Proofs
set_option synthInstance.maxHeartbeats 400000
set_option synthInstance.maxSize 10000
set_option linter.unusedVariables false
set_option linter.unusedSimpArgs false
set_option maxRecDepth 100000
section
def yq3:Code:=(Try.f13.body).getD .skip
def yq9:Env:=zki TT [(11,ykX)] []
theorem yxj:FrOk Try.prog ⟨yq9,5,fun _=>none⟩ yq3:=zkp yc yd ⟨yqV,trivial⟩
def yyD:Nat→Option Seg:=fun _=>none
abbrev ydn:List Par:= [.rd tL]
abbrev ygg:List OT:= [⟨false,tI,.fz⟩]
def yi4 (a0:List Int):Option (ResD ygg×MutD ydn) :=
  let r1:=ybV a0
  some ((r1,()),())
theorem yAI (x:InD ydn):zjH ⟨yq9,5,yyD⟩ Try.f13.results.toList yq3 ydn ygg x=yi4 x.1:=by kernel_rfl
theorem yyP:ConOk Try.prog 13 ⟨ydn,ygg,fun x=>yi4 x.1⟩:=zkh (yxj) Try.func13 (by kernel_rfl) (by kernel_rfl) Try.ntmps13.symm (by decide) (fun x r h=>(yAI x).trans h)
def ygp (a0:List Int):Int :=
  let r1:=ybV a0
  r1
def ypp:Con:=⟨ydn,ygg,fun x=>(fun n=>some ((n,()),())) (ygp x.1)⟩
theorem yz0 (a0:List Int):yi4 a0=(fun n=>some ((n,()),())) (ygp a0):=zkS (p:=fun (n:Int)=>((n,()),())) rfl
theorem yz5:ConOk Try.prog 13 ypp:=(yyP).mono (fun x r _ h=>(yz0 x.1).trans h)
end
section
def ybc:Code:=(Try.f3.body).getD .skip
def ydR:Env:=zki TT [(6,yzm),(7,ysO),(8,ypE),(9,yu0),(10,yu2),(11,ykX),(12,ylv),(13,ypp),(14,yoH),(15,ykW)] []
theorem yAR:FrOk Try.prog ⟨ydR,83,fun _=>none⟩ ybc:=zkp yc yd ⟨yMS,yHk,yyy,yJo,yJq,yqV,ytz,yz5,yw1,yqU,trivial⟩
def ysk:Nat→Option Seg:=fun _=>none
def y9:Shape:=⟨[(3,false,[.ptr 12416 0]),(4,false,[.int .i64]),(5,false,[.at 800000000]),(7,false,[.at 800000001]),(9,false,[.int .i64])],[(12416,[.int .i64,.int .i64,.int .i64,.at 800000002,.int .i64,.int .i64,.int .i64,.int .i64,.int .i64,.at 800000003,.int .i64,.bool,.bool])],[(800000000,tI,.fz),(800000001,tI,.fz),(800000002,tM,(.pr (.ow .fz) (.pr (.ow (.pr .fz .fz)) (.pr .fz (.ow .fz))))),(800000003,tW,(.pr .fz .fz))]⟩
def ybS:Shape:=⟨[(3,false,[.ptr 12416 0]),(4,false,[.int .i64]),(5,false,[.at 800000000]),(7,false,[.at 800000001]),(9,false,[.ci .i64 0])],[(12416,[.int .i64,.int .i64,.int .i64,.at 800000002,.int .i64,.int .i64,.int .i64,.int .i64,.int .i64,.at 800000003,.int .i64,.bool,.bool])],[(800000000,tI,.fz),(800000001,tI,.fz),(800000002,tM,(.pr (.ow .fz) (.pr (.ow (.pr .fz .fz)) (.pr .fz (.ow .fz))))),(800000003,tW,(.pr .fz .fz))]⟩
def ybR:Shape:=⟨[(3,false,[.ptr 12416 0]),(4,false,[.int .i64])],[(12416,[.int .i64,.int .i64,.int .i64,.at 800000000,.int .i64,.int .i64,.int .i64,.int .i64,.int .i64,.at 800000001,.int .i64,.bool,.bool])],[(800000000,tM,(.pr (.ow .fz) (.pr (.ow (.pr .fz .fz)) (.pr .fz (.ow .fz))))),(800000001,tW,(.pr .fz .fz))]⟩
def ydK:Shape:=⟨[(2,false,[.bool])],[],[]⟩
abbrev yhf (v0:Int) (v1:Int) (v2:dA) (v3:List Int) (v4:List Int):(y9).X:=((((),()),(v0,()),((),()),((),()),(v1,()),()),((v2.1,v2.2.1.1,v2.2.1.2,(),v2.2.2.2.1,v2.2.2.2.2.1,v2.2.2.2.2.2.1,v2.2.2.2.2.2.2.1,v2.2.2.2.2.2.2.2.1,(),v2.2.2.2.2.2.2.2.2.2.1,v2.2.2.2.2.2.2.2.2.2.2.1,v2.2.2.2.2.2.2.2.2.2.2.2,()),()),(v3,v4,v2.2.2.1,v2.2.2.2.2.2.2.2.2.1,()))
abbrev ywZ (v0:Int) (v1:dA) (v2:List Int) (v3:List Int):(ybS).X:=((((),()),(v0,()),((),()),((),()),((),()),()),((v1.1,v1.2.1.1,v1.2.1.2,(),v1.2.2.2.1,v1.2.2.2.2.1,v1.2.2.2.2.2.1,v1.2.2.2.2.2.2.1,v1.2.2.2.2.2.2.2.1,(),v1.2.2.2.2.2.2.2.2.2.1,v1.2.2.2.2.2.2.2.2.2.2.1,v1.2.2.2.2.2.2.2.2.2.2.2,()),()),(v2,v3,v1.2.2.1,v1.2.2.2.2.2.2.2.2.1,()))
abbrev ywY (v0:Int) (v1:dA):(ybR).X:=((((),()),(v0,()),()),((v1.1,v1.2.1.1,v1.2.1.2,(),v1.2.2.2.1,v1.2.2.2.2.1,v1.2.2.2.2.2.1,v1.2.2.2.2.2.2.1,v1.2.2.2.2.2.2.2.1,(),v1.2.2.2.2.2.2.2.2.2.1,v1.2.2.2.2.2.2.2.2.2.2.1,v1.2.2.2.2.2.2.2.2.2.2.2,()),()),(v1.2.2.1,v1.2.2.2.2.2.2.2.2.1,()))
def yhC (v0:Int) (v1:Int) (v2:Int) (v3:Int) (v4:Int) (v5:Int) (v6:Int) (v7:Int) (v8:Int) (v9:Int) (v10:Int) (v11:Bool) (v12:Bool) (v13:List Int) (v14:List Int) (v15:List dM) (v16:List dW):Option ((y9).X ⊕ ((ybR).X ⊕ (ydK).X)) :=
  bif (ltb v1 (v14.length:Int)) then
    let r10:=ydm (v3,v4) v0 v1
    bif (inb r10 v13.length) then
      bif (inb v1 v14.length) then
        bif ((nth v13 r10 0) !=(nth v14 v1 0)) then
          some (.inr (.inr (((false,()),()),(),())))
        else
          some (.inl ((((),()),(v0,()),((),()),((),()),((IntKind.i64.wrap (v1+1)),()),()),((v2,v3,v4,(),v5,v6,v7,v8,v9,(),v10,v11,v12,()),()),(v13,v14,v15,v16,())))
      else none
    else none
  else
    some (.inr (.inl ((((),()),(v0,()),()),((v2,v3,v4,(),v5,v6,v7,v8,v9,(),v10,v11,v12,()),()),(v15,v16,()))))
def yad (x:(y9).X):=yhC x.1.2.1.1 x.1.2.2.2.2.1.1 x.2.1.1.1 x.2.1.1.2.1 x.2.1.1.2.2.1 x.2.1.1.2.2.2.2.1 x.2.1.1.2.2.2.2.2.1 x.2.1.1.2.2.2.2.2.2.1 x.2.1.1.2.2.2.2.2.2.2.1 x.2.1.1.2.2.2.2.2.2.2.2.1 x.2.1.1.2.2.2.2.2.2.2.2.2.2.1 x.2.1.1.2.2.2.2.2.2.2.2.2.2.2.1 x.2.1.1.2.2.2.2.2.2.2.2.2.2.2.2.1 x.2.2.1 x.2.2.2.1 x.2.2.2.2.1 x.2.2.2.2.2.1
def ynN (x:(ybS).X):(y9).X:=((((),()),(x.1.2.1.1,()),((),()),((),()),(0,()),()),((x.2.1.1.1,x.2.1.1.2.1,x.2.1.1.2.2.1,(),x.2.1.1.2.2.2.2.1,x.2.1.1.2.2.2.2.2.1,x.2.1.1.2.2.2.2.2.2.1,x.2.1.1.2.2.2.2.2.2.2.1,x.2.1.1.2.2.2.2.2.2.2.2.1,(),x.2.1.1.2.2.2.2.2.2.2.2.2.2.1,x.2.1.1.2.2.2.2.2.2.2.2.2.2.2.1,x.2.1.1.2.2.2.2.2.2.2.2.2.2.2.2.1,()),()),(x.2.2.1,x.2.2.2.1,x.2.2.2.2.1,x.2.2.2.2.2.1,()))
def yoG:Code:=(zdI ybc 64 250492).getD .skip
theorem yxc:zdI ybc 64 62623=some (.block 2 (.loop yoG)):=by kernel_rfl
theorem yxE (x:(y9).X):zg7 ⟨ydR,83,ysk⟩ 2 yoG 250492 y9 ybR ydK x=yad x:=by kernel_rfl
def ynO (x:(ybS).X):Nat:=(fun (u0:Int) (u1:Int) (u2:Int) (u3:Int) (u4:Int) (u5:Int) (u6:Int) (u7:Int) (u8:Int) (u9:Int) (u10:Bool) (u11:Bool) (u12:List Int) (u13:List Int) (u14:List dM) (u15:List dW)=>18446744073709551616) x.1.2.1.1 x.2.1.1.1 x.2.1.1.2.1 x.2.1.1.2.2.1 x.2.1.1.2.2.2.2.1 x.2.1.1.2.2.2.2.2.1 x.2.1.1.2.2.2.2.2.2.1 x.2.1.1.2.2.2.2.2.2.2.1 x.2.1.1.2.2.2.2.2.2.2.2.1 x.2.1.1.2.2.2.2.2.2.2.2.2.2.1 x.2.1.1.2.2.2.2.2.2.2.2.2.2.2.1 x.2.1.1.2.2.2.2.2.2.2.2.2.2.2.2.1 x.2.2.1 x.2.2.2.1 x.2.2.2.2.1 x.2.2.2.2.2.1
def ydJ (x:(ybS).X):Option ((ybR).X ⊕ (ydK).X):=zr yad (ynO x) (ynN x)
def ynT:Seg:=⟨ybS,ybR,ydK,ydJ⟩
def ymT:Nat→Option Seg:=fun q=>bif Nat.beq q 62623 then some ynT else ysk q
theorem yAS:FrOk Try.prog ⟨ydR,83,ymT⟩ ybc:=(yAR).loop (sg:=ynT) y9 ynN (by decide) yxc yad ynO (by decide) (fun _=>rfl) (fun x r _ h=>h) yxE
def yaF:Shape:=⟨[(3,false,[.ptr 12416 0]),(4,false,[.int .i64])],[(12416,[.int .i64,.int .i64,.int .i64,.at 800000000,.int .i64,.int .i64,.int .i64,.int .i64,.int .i64,.at 800000001,.int .i64,.bool,.bool])],[(800000000,tM,(.pr (.ow .fz) (.pr (.ow (.pr .fz .fz)) (.pr .fz (.ow .fz))))),(800000001,tW,(.pr .fz .fz))]⟩
def ydz:Shape:=⟨[(3,false,[.ptr 12416 0]),(4,false,[.ci .i64 0])],[(12416,[.int .i64,.int .i64,.int .i64,.at 800000000,.int .i64,.int .i64,.int .i64,.int .i64,.int .i64,.at 800000001,.int .i64,.bool,.bool])],[(800000000,tM,(.pr (.ow .fz) (.pr (.ow (.pr .fz .fz)) (.pr .fz (.ow .fz))))),(800000001,tW,(.pr .fz .fz))]⟩
def yds:Shape:=⟨[(3,false,[.ptr 12416 0])],[(12416,[.int .i64,.int .i64,.int .i64,.at 800000000,.int .i64,.int .i64,.int .i64,.int .i64,.int .i64,.at 800000001,.int .i64,.bool,.bool])],[(800000000,tM,(.pr (.ow .fz) (.pr (.ow (.pr .fz .fz)) (.pr .fz (.ow .fz))))),(800000001,tW,(.pr .fz .fz))]⟩
def ygl:Shape:=⟨[(2,false,[.bool])],[],[]⟩
abbrev yki (v0:Int) (v1:dA):(yaF).X:=((((),()),(v0,()),()),((v1.1,v1.2.1.1,v1.2.1.2,(),v1.2.2.2.1,v1.2.2.2.2.1,v1.2.2.2.2.2.1,v1.2.2.2.2.2.2.1,v1.2.2.2.2.2.2.2.1,(),v1.2.2.2.2.2.2.2.2.2.1,v1.2.2.2.2.2.2.2.2.2.2.1,v1.2.2.2.2.2.2.2.2.2.2.2,()),()),(v1.2.2.1,v1.2.2.2.2.2.2.2.2.1,()))
abbrev yzS (v0:dA):(ydz).X:=((((),()),((),()),()),((v0.1,v0.2.1.1,v0.2.1.2,(),v0.2.2.2.1,v0.2.2.2.2.1,v0.2.2.2.2.2.1,v0.2.2.2.2.2.2.1,v0.2.2.2.2.2.2.2.1,(),v0.2.2.2.2.2.2.2.2.2.1,v0.2.2.2.2.2.2.2.2.2.2.1,v0.2.2.2.2.2.2.2.2.2.2.2,()),()),(v0.2.2.1,v0.2.2.2.2.2.2.2.2.1,()))
abbrev yzM (v0:dA):(yds).X:=((((),()),()),((v0.1,v0.2.1.1,v0.2.1.2,(),v0.2.2.2.1,v0.2.2.2.2.1,v0.2.2.2.2.2.1,v0.2.2.2.2.2.2.1,v0.2.2.2.2.2.2.2.1,(),v0.2.2.2.2.2.2.2.2.2.1,v0.2.2.2.2.2.2.2.2.2.2.1,v0.2.2.2.2.2.2.2.2.2.2.2,()),()),(v0.2.2.1,v0.2.2.2.2.2.2.2.2.1,()))
def ykw (v0:Int) (v1:Int) (v2:Int) (v3:Int) (v4:Int) (v5:Int) (v6:Int) (v7:Int) (v8:Int) (v9:Int) (v10:Bool) (v11:Bool) (v12:List dM) (v13:List dW):Option ((yaF).X ⊕ ((yds).X ⊕ (ygl).X)) :=
  bif (ltb v0 v3) then
    let r13:=ycV (v1,(v2,v3),v12,v4,v5,v6,v7,v8,v13,v9,v10,v11) v0
    let r14:=yiI (v1,(v2,v3),v12,v4,v5,v6,v7,v8,v13,v9,v10,v11) v0
    bif (!(!(r13.2==r14.2))) then
      let r15:=yiK (v1,(v2,v3),v12,v4,v5,v6,v7,v8,v13,v9,v10,v11) v0
      bif (!(r13.2==(ltb r15 2))) then
        some (.inr (.inr (((false,()),()),(),())))
      else
        bif r13.2 then
          let r16:=ybV r13.1
          bif (!(r16 !=0)) then
            let r17:=ybU (v2,v3) v0
            bif (inb r17 r13.1.length) then
              let r18:=ygp r14.1
              bif ((nth r13.1 r17 0) !=r18) then
                some (.inr (.inr (((false,()),()),(),())))
              else
                zjw (ydJ ((((),()),(v0,()),((),()),((),()),((),()),()),((v1,v2,v3,(),v4,v5,v6,v7,v8,(),v9,v10,v11,()),()),(r13.1,r14.1,v12,v13,()))) (fun y18 =>
                  some (.inl ((((),()),((IntKind.i64.wrap (y18.1.2.1.1+1)),()),()),((y18.2.1.1.1,y18.2.1.1.2.1,y18.2.1.1.2.2.1,(),y18.2.1.1.2.2.2.2.1,y18.2.1.1.2.2.2.2.2.1,y18.2.1.1.2.2.2.2.2.2.1,y18.2.1.1.2.2.2.2.2.2.2.1,y18.2.1.1.2.2.2.2.2.2.2.2.1,(),y18.2.1.1.2.2.2.2.2.2.2.2.2.2.1,y18.2.1.1.2.2.2.2.2.2.2.2.2.2.2.1,y18.2.1.1.2.2.2.2.2.2.2.2.2.2.2.2.1,()),()),(y18.2.2.1,y18.2.2.2.1,())))) (fun y18 =>
                  some (.inr (.inr (((y18.1.1.1,()),()),(),()))))
            else none
          else
            some (.inr (.inr (((false,()),()),(),())))
        else
          zjw (ydJ ((((),()),(v0,()),((),()),((),()),((),()),()),((v1,v2,v3,(),v4,v5,v6,v7,v8,(),v9,v10,v11,()),()),(r13.1,r14.1,v12,v13,()))) (fun y19 =>
            some (.inl ((((),()),((IntKind.i64.wrap (y19.1.2.1.1+1)),()),()),((y19.2.1.1.1,y19.2.1.1.2.1,y19.2.1.1.2.2.1,(),y19.2.1.1.2.2.2.2.1,y19.2.1.1.2.2.2.2.2.1,y19.2.1.1.2.2.2.2.2.2.1,y19.2.1.1.2.2.2.2.2.2.2.1,y19.2.1.1.2.2.2.2.2.2.2.2.1,(),y19.2.1.1.2.2.2.2.2.2.2.2.2.2.1,y19.2.1.1.2.2.2.2.2.2.2.2.2.2.2.1,y19.2.1.1.2.2.2.2.2.2.2.2.2.2.2.2.1,()),()),(y19.2.2.1,y19.2.2.2.1,())))) (fun y19 =>
            some (.inr (.inr (((y19.1.1.1,()),()),(),()))))
    else
      some (.inr (.inr (((false,()),()),(),())))
  else
    some (.inr (.inl ((((),()),()),((v1,v2,v3,(),v4,v5,v6,v7,v8,(),v9,v10,v11,()),()),(v12,v13,()))))
def yaP (x:(yaF).X):=ykw x.1.2.1.1 x.2.1.1.1 x.2.1.1.2.1 x.2.1.1.2.2.1 x.2.1.1.2.2.2.2.1 x.2.1.1.2.2.2.2.2.1 x.2.1.1.2.2.2.2.2.2.1 x.2.1.1.2.2.2.2.2.2.2.1 x.2.1.1.2.2.2.2.2.2.2.2.1 x.2.1.1.2.2.2.2.2.2.2.2.2.2.1 x.2.1.1.2.2.2.2.2.2.2.2.2.2.2.1 x.2.1.1.2.2.2.2.2.2.2.2.2.2.2.2.1 x.2.2.1 x.2.2.2.1
def yql (x:(ydz).X):(yaF).X:=((((),()),(0,()),()),((x.2.1.1.1,x.2.1.1.2.1,x.2.1.1.2.2.1,(),x.2.1.1.2.2.2.2.1,x.2.1.1.2.2.2.2.2.1,x.2.1.1.2.2.2.2.2.2.1,x.2.1.1.2.2.2.2.2.2.2.1,x.2.1.1.2.2.2.2.2.2.2.2.1,(),x.2.1.1.2.2.2.2.2.2.2.2.2.2.1,x.2.1.1.2.2.2.2.2.2.2.2.2.2.2.1,x.2.1.1.2.2.2.2.2.2.2.2.2.2.2.2.1,()),()),(x.2.2.1,x.2.2.2.1,()))
def yrf:Code:=(zdI ybc 64 244).getD .skip
theorem yAD:zdI ybc 64 61=some (.block 0 (.loop yrf)):=by kernel_rfl
theorem yBN (x:(yaF).X):zg7 ⟨ydR,83,ymT⟩ 0 yrf 244 yaF yds ygl x=yaP x:=by kernel_rfl
def yqx (x:(ydz).X):Nat:=(fun (u0:Int) (u1:Int) (u2:Int) (u3:Int) (u4:Int) (u5:Int) (u6:Int) (u7:Int) (u8:Int) (u9:Bool) (u10:Bool) (u11:List dM) (u12:List dW)=>18446744073709551616) x.2.1.1.1 x.2.1.1.2.1 x.2.1.1.2.2.1 x.2.1.1.2.2.2.2.1 x.2.1.1.2.2.2.2.2.1 x.2.1.1.2.2.2.2.2.2.1 x.2.1.1.2.2.2.2.2.2.2.1 x.2.1.1.2.2.2.2.2.2.2.2.1 x.2.1.1.2.2.2.2.2.2.2.2.2.2.1 x.2.1.1.2.2.2.2.2.2.2.2.2.2.2.1 x.2.1.1.2.2.2.2.2.2.2.2.2.2.2.2.1 x.2.2.1 x.2.2.2.1
def ylq (x:(ydz).X):Option ((yds).X ⊕ (ygl).X):=zr yaP (yqx x) (yql x)
def yqL:Seg:=⟨ydz,yds,ygl,ylq⟩
def ysl:Nat→Option Seg:=fun q=>bif Nat.beq q 61 then some yqL else ymT q
theorem yAT:FrOk Try.prog ⟨ydR,83,ysl⟩ ybc:=(yAS).loop (sg:=yqL) yaF yql (by decide) yAD yaP yqx (by decide) (fun _=>rfl) (fun x r _ h=>h) yBN
abbrev ydU:List Par:= [.kp tYs .fz]
abbrev ykM:List OT:= [⟨false,tB,.fz⟩]
def yhY (a0:List Int):Option (ResD ykM×MutD ydU) :=
  let r1:=yr8 a0
  bif r1 then
    some ((true,()),())
  else
    bnd (ycJ a0) fun r2 =>
    zjw (ylq ((((),()),((),()),()),((r2.1.1.1,r2.1.1.2.1.1,r2.1.1.2.1.2,(),r2.1.1.2.2.2.1,r2.1.1.2.2.2.2.1,r2.1.1.2.2.2.2.2.1,r2.1.1.2.2.2.2.2.2.1,r2.1.1.2.2.2.2.2.2.2.1,(),r2.1.1.2.2.2.2.2.2.2.2.2.1,r2.1.1.2.2.2.2.2.2.2.2.2.2.1,r2.1.1.2.2.2.2.2.2.2.2.2.2.2,()),()),(r2.1.1.2.2.1,r2.1.1.2.2.2.2.2.2.2.2.1,()))) (fun y20 =>
      let r22:=ybT (y20.2.1.1.1,(y20.2.1.1.2.1,y20.2.1.1.2.2.1),y20.2.2.1,y20.2.1.1.2.2.2.2.1,y20.2.1.1.2.2.2.2.2.1,y20.2.1.1.2.2.2.2.2.2.1,y20.2.1.1.2.2.2.2.2.2.2.1,y20.2.1.1.2.2.2.2.2.2.2.2.1,y20.2.2.2.1,y20.2.1.1.2.2.2.2.2.2.2.2.2.2.1,y20.2.1.1.2.2.2.2.2.2.2.2.2.2.2.1,y20.2.1.1.2.2.2.2.2.2.2.2.2.2.2.2.1)
      some ((r22,()),())) (fun y20 =>
      some ((y20.1.1.1,()),()))
theorem yIc (x:InD ydU):zjH ⟨ydR,83,ysl⟩ Try.f3.results.toList ybc ydU ykM x=yhY x.1:=by kernel_rfl
theorem yD3:ConOk Try.prog 3 ⟨ydU,ykM,fun x=>yhY x.1⟩:=zkh (yAT) Try.func3 (by kernel_rfl) (by kernel_rfl) Try.ntmps3.symm (by decide) (fun x r h=>(yIc x).trans h)
def ypK (a0:List Int):Bool:=true
theorem yMG (s:Int) (a:dA) (l d:List Int) (h: ∀ i:Nat,i < d.length→inb (yaB a.2.1 s i) l.length=true∧nth d i 0=nth l (yaB a.2.1 s i) 0) (hl:d.length≤1000):ydJ (ywZ s a l d)=some (.inl (ywY s a)) :=
  zjs (step:=yad) (fun i=>yhf s i a l d) d.length _ (fun i hi=>by
    obtain ⟨h1,h2⟩:=h i hi
    simp only [yad,yhf,yhC,zjI (show (i:Int) < d.length by omega),cond_true,wr (show -9223372036854775808≤(i:Int)+1 by omega) (by omega),Int.natCast_add,Int.natCast_one,Int.toNat_natCast,zkO hi,ydm,h1,h2,bne_self_eq_false,cond_false]) (by simp only [yad,yhf,yhC,zkm (Int.le_refl _),cond_false]) 18446744073709551616 (by omega)
theorem yGu (a0:List Int) (hk:zi9 ydU (a0,())):yhY a0=(fun n=>some ((n,()),())) (ypK a0):=by
  have hb:a0.length≤140737488355328:=by have:a0.length * 1≤2 ^ 47:=hk.1.1; omega
  obtain ⟨a,V,e,hw,hi⟩:=yNg a0 hb
  have hg:=yk.1 hi.xc.1
  have l1:ylq (yzS a)=some (.inl (yzM a)) :=
    zjs (step:=yaP) (fun i=>yki i a) a.2.1.2.toNat _ (fun i hi2=>by
      have s0:(0:Int)≤i:=by omega
      have s1:(i:Int) < a.2.1.2:=by omega
      have hso:=yMd hi s0 s1
      have hwd:ycV a i=yv a i:=by unfold ycV; rw [yzG hi,hi.xb,hso]; rfl
      simp only [yaP,yki,ykw,zjI (show (i:Int) < a.2.1.2 by omega),cond_true,wr (show -9223372036854775808≤(i:Int)+1 by omega) (by omega),Int.natCast_add,Int.natCast_one,Int.toNat_natCast,zkV,hwd,yiI,yiK,ybV,ybU,ygp,yMe hi s0 s1,yNm hi s0 s1,yOM hi s0 s1]
      by_cases h2:yp5 a i < 2
      · rw [decide_eq_true h2,zjI (show ((yp5 a i:Nat):Int) < 2 by omega)]
        have hp:=yf0 hso
        have e1:=yMG i a (vlist V a.2.1.1 i) (ynJ V a.2.1 i) (fun k hk=>by
          rw [yvI]at hk
          have hdi:=yH6 hso (show (0:Int)≤(k:Int) by omega) (show (k:Int)≤a.2.1.1 - 2 by omega)
          refine ⟨zjP.2 (by rw [ynU]; omega),?_⟩
          rw [zjW,zcq (by rw [yvI]; exact hk)]
          unfold ynJ; simp) (by rw [yvI]; omega)
        simp only [cond_true,cond_false,beq_self_eq_true,Bool.not_true,Bool.not_false,hi.xe.ev i s0 s1,bne_self_eq_false,zjP.2 (show 0≤yf a.2.1 i∧yf a.2.1 i < ((vlist V a.2.1.1 i).length:Int) by rw [ynU]; omega),yKq hso hi.xe]
        refine (congrArg (fun z=>zjw z _ _) e1).trans ?_
        rw [zkJ,wr (show -9223372036854775808≤(i:Int)+1 by omega) (by omega)]
      · rw [decide_eq_false h2,zkm (show 2≤((yp5 a i:Nat):Int) by omega)]
        have e1:=yMG i a [] [] (fun k hk=>absurd hk (Nat.not_lt_zero _)) (Nat.zero_le _)
        simp only [cond_true,cond_false,beq_self_eq_true,Bool.not_true,Bool.not_false]
        refine (congrArg (fun z=>zjw z _ _) e1).trans ?_
        rw [zkJ,wr (show -9223372036854775808≤(i:Int)+1 by omega) (by omega)]) (by simp only [yaP,yki,ykw,zkm (show a.2.1.2≤((a.2.1.2.toNat:Nat):Int) by omega),cond_false]) 18446744073709551616 (by omega)
  unfold yhY ypK
  simp only [e,zky]
  cases yr8 a0
  · simp only [cond_false]
    refine (congrArg (fun z=>zjw z _ _) l1).trans ?_
    simp only [zkJ,zkV,ybT,yzG hi]
  · rfl
def yCs:Con:=⟨ydU,ykM,fun x=>(fun n=>some ((n,()),())) (ypK x.1)⟩
theorem yHj:ConOk Try.prog 3 yCs:=(yD3).mono (fun x r hk h=>(yGu x.1 hk).trans h)
end
end
end Go.Tf
