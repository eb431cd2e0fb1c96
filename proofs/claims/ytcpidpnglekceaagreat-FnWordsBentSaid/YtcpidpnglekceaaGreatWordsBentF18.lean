/- Functions of the program, and what they come to. -/
import Derived.Test.YtcpidpnglekceaaGreatWordsBentF17
namespace Go.Tf
noncomputable section
open Go.Proofs
set_option synthInstance.maxHeartbeats 400000
set_option synthInstance.maxSize 10000
set_option linter.unusedVariables false
set_option linter.unusedSimpArgs false
set_option maxRecDepth 100000
section
def yiG:Code:=(Tryz.f68.body).getD .skip
def ym5:Env:=zki TT [(83,yhI),(115,yq),(171,yj7)] []
theorem yER:FrOk Tryz.prog ⟨ym5,43,fun _=>none⟩ yiG:=zkp ye yf ⟨ynQ,yu,yq9,trivial⟩
def yvU:Nat→Option Seg:=fun _=>none
def ya9:Shape:=⟨[(1,false,[.int .i64]),(2,false,[.ptr 0 0]),(5,false,[.int .i64]),(6,false,[.int .i64])],[(0,[.int .i64,.int .i64,.int .i64,.br tM,.int .i64,.int .i64,.int .i64,.int .i64,.int .i64,.br tW,.int .i64,.bool,.bool])],[]⟩
def yeF:Shape:=⟨[(1,false,[.int .i64]),(2,false,[.ptr 0 0]),(5,false,[.ci .i64 0]),(6,false,[.ci .i64 0])],[(0,[.int .i64,.int .i64,.int .i64,.br tM,.int .i64,.int .i64,.int .i64,.int .i64,.int .i64,.br tW,.int .i64,.bool,.bool])],[]⟩
def yes:Shape:=⟨[(5,false,[.int .i64])],[],[]⟩
def yh9:Shape:=⟨[],[],[]⟩
abbrev ymr (v0:Int) (v1:Int) (v2:Int) (v3:dA):(ya9).X:=(((v0,()),((),()),(v1,()),(v2,()),()),((v3.1,v3.2.1.1,v3.2.1.2,v3.2.2.1,v3.2.2.2.1,v3.2.2.2.2.1,v3.2.2.2.2.2.1,v3.2.2.2.2.2.2.1,v3.2.2.2.2.2.2.2.1,v3.2.2.2.2.2.2.2.2.1,v3.2.2.2.2.2.2.2.2.2.1,v3.2.2.2.2.2.2.2.2.2.2.1,v3.2.2.2.2.2.2.2.2.2.2.2,()),()),())
abbrev yDj (v0:Int) (v1:dA):(yeF).X:=(((v0,()),((),()),((),()),((),()),()),((v1.1,v1.2.1.1,v1.2.1.2,v1.2.2.1,v1.2.2.2.1,v1.2.2.2.2.1,v1.2.2.2.2.2.1,v1.2.2.2.2.2.2.1,v1.2.2.2.2.2.2.2.1,v1.2.2.2.2.2.2.2.2.1,v1.2.2.2.2.2.2.2.2.2.1,v1.2.2.2.2.2.2.2.2.2.2.1,v1.2.2.2.2.2.2.2.2.2.2.2,()),()),())
abbrev yDa (v0:Int):(yes).X:=(((v0,()),()),(),())
def ymF (v0:Int) (v1:Int) (v2:Int) (v3:Int) (v4:Int) (v5:Int) (v6:List dM) (v7:Int) (v8:Int) (v9:Int) (v10:Int) (v11:Int) (v12:List dW) (v13:Int) (v14:Bool) (v15:Bool):Option ((ya9).X ⊕ ((yes).X ⊕ (yh9).X)) :=
  bif (ltb v2 v4) then
    let r4:=ya5 (v3,(v4,v5),v6,v7,v8,v9,v10,v11,v12,v13,v14,v15) v2 v0
    bif (!r4.2) then
      some (.inl (((v0,()),((),()),((IntKind.i64.wrap (v1+1)),()),((IntKind.i64.wrap (v2+1)),()),()),((v3,v4,v5,v6,v7,v8,v9,v10,v11,v12,v13,v14,v15,()),()),()))
    else
      some (.inl (((v0,()),((),()),(v1,()),((IntKind.i64.wrap (v2+1)),()),()),((v3,v4,v5,v6,v7,v8,v9,v10,v11,v12,v13,v14,v15,()),()),()))
  else
    some (.inr (.inl (((v1,()),()),(),())))
def ybD (x:(ya9).X):=ymF x.1.1.1 x.1.2.2.1.1 x.1.2.2.2.1.1 x.2.1.1.1 x.2.1.1.2.1 x.2.1.1.2.2.1 x.2.1.1.2.2.2.1 x.2.1.1.2.2.2.2.1 x.2.1.1.2.2.2.2.2.1 x.2.1.1.2.2.2.2.2.2.1 x.2.1.1.2.2.2.2.2.2.2.1 x.2.1.1.2.2.2.2.2.2.2.2.1 x.2.1.1.2.2.2.2.2.2.2.2.2.1 x.2.1.1.2.2.2.2.2.2.2.2.2.2.1 x.2.1.1.2.2.2.2.2.2.2.2.2.2.2.1 x.2.1.1.2.2.2.2.2.2.2.2.2.2.2.2.1
def ysR (x:(yeF).X):(ya9).X:=(((x.1.1.1,()),((),()),(0,()),(0,()),()),((x.2.1.1.1,x.2.1.1.2.1,x.2.1.1.2.2.1,x.2.1.1.2.2.2.1,x.2.1.1.2.2.2.2.1,x.2.1.1.2.2.2.2.2.1,x.2.1.1.2.2.2.2.2.2.1,x.2.1.1.2.2.2.2.2.2.2.1,x.2.1.1.2.2.2.2.2.2.2.2.1,x.2.1.1.2.2.2.2.2.2.2.2.2.1,x.2.1.1.2.2.2.2.2.2.2.2.2.2.1,x.2.1.1.2.2.2.2.2.2.2.2.2.2.2.1,x.2.1.1.2.2.2.2.2.2.2.2.2.2.2.2.1,()),()),())
def yt4:Code:=(zdI yiG 64 244).getD .skip
theorem yEf:zdI yiG 64 61=some (.block 0 (.loop yt4)):=by kernel_rfl
theorem yGC (x:(ya9).X):zg7 ⟨ym5,43,yvU⟩ 0 yt4 244 ya9 yes yh9 x=ybD x:=by kernel_rfl
def ys4 (x:(yeF).X):Nat:=(fun (u0:Int) (u1:Int) (u2:Int) (u3:Int) (u4:List dM) (u5:Int) (u6:Int) (u7:Int) (u8:Int) (u9:Int) (u10:List dW) (u11:Int) (u12:Bool) (u13:Bool)=>18446744073709551616) x.1.1.1 x.2.1.1.1 x.2.1.1.2.1 x.2.1.1.2.2.1 x.2.1.1.2.2.2.1 x.2.1.1.2.2.2.2.1 x.2.1.1.2.2.2.2.2.1 x.2.1.1.2.2.2.2.2.2.1 x.2.1.1.2.2.2.2.2.2.2.1 x.2.1.1.2.2.2.2.2.2.2.2.1 x.2.1.1.2.2.2.2.2.2.2.2.2.1 x.2.1.1.2.2.2.2.2.2.2.2.2.2.1 x.2.1.1.2.2.2.2.2.2.2.2.2.2.2.1 x.2.1.1.2.2.2.2.2.2.2.2.2.2.2.2.1
def ynW (x:(yeF).X):Option ((yes).X ⊕ (yh9).X):=zr ybD (ys4 x) (ysR x)
def ytm:Seg:=⟨yeF,yes,yh9,ynW⟩
def yvV:Nat→Option Seg:=fun q=>bif Nat.beq q 61 then some ytm else yvU q
theorem yES:FrOk Tryz.prog ⟨ym5,43,yvV⟩ yiG:=(yER).loop (sg:=ytm) ya9 ysR (by decide) yEf ybD ys4 (by decide) (fun _=>rfl) (fun x r _ h=>h) yGC
abbrev yfh:List Par:= [.rd tA,.rd tI]
abbrev ynu:List OT:= [⟨false,tI,.fz⟩]
def ykm (a0:dA) (a1:Int):Option (ResD ynu×MutD yfh) :=
  let r1:=yak a0
  bif (!(!r1)) then
    let r2:=yb a1 0 (IntKind.i64.wrap (a0.2.1.2 - 1))
    bif (!r2) then
      some ((a0.2.1.1,()),())
    else
      zjw (ynW (((a1,()),((),()),((),()),((),()),()),((a0.1,a0.2.1.1,a0.2.1.2,a0.2.2.1,a0.2.2.2.1,a0.2.2.2.2.1,a0.2.2.2.2.2.1,a0.2.2.2.2.2.2.1,a0.2.2.2.2.2.2.2.1,a0.2.2.2.2.2.2.2.2.1,a0.2.2.2.2.2.2.2.2.2.1,a0.2.2.2.2.2.2.2.2.2.2.1,a0.2.2.2.2.2.2.2.2.2.2.2,()),()),())) (fun y4 =>
        some ((y4.1.1.1,()),())) (fun y4 =>
        none)
  else
    some ((a0.2.1.1,()),())
theorem yM9 (x:InD yfh):zjH ⟨ym5,43,yvV⟩ Tryz.f68.results.toList yiG yfh ynu x=ykm x.1 x.2.1:=by kernel_rfl
theorem yJl:ConOk Tryz.prog 68 ⟨yfh,ynu,fun x=>ykm x.1 x.2.1⟩:=zkh (yES) Tryz.func68 (by kernel_rfl) (by kernel_rfl) Tryz.ntmps68.symm (by decide) (fun x r h=>(yM9 x).trans h)
def yjl (a0:dA) (a1:Int):Int:=yIH a0 a1
theorem yLe (a0:dA) (a1:Int) (hk:zi9 yfh (a0,a1,())):ykm a0 a1=(fun n=>some ((n,()),())) (yjl a0 a1):=by
  unfold ykm yjl yIH yak
  cases ha:yv a0
  · rfl
  have hg:=yn.1 (yac ha)
  have h1:ynW (yDj a1 a0)=some (.inl (yDa ((ylK (fun (i:Nat)=>ym a0 i a1) a0.2.1.1.toNat:Nat):Int))) :=
    zjs (step:=ybD) (fun i=>ymr a1 ((ylK (fun (i:Nat)=>ym a0 i a1) i:Nat):Int) i a0) a0.2.1.1.toNat _ (fun i hi=>by
      have:=yOV (fun (i:Nat)=>ym a0 i a1) i
      simp only [ybD,ymr,ymF,zjI (show (i:Int) < a0.2.1.1 by omega),cond_true,wr (show -9223372036854775808≤(i:Int)+1 by omega) (by omega),Int.natCast_add,Int.natCast_one,Int.toNat_natCast,zkV,ya5,yIF,wr (show -9223372036854775808≤((ylK (fun (i:Nat)=>ym a0 i a1) i:Nat):Int)+1 by omega) (by omega)]
      cases ym a0 i a1<;>rfl) (by simp only [ybD,ymr,ymF,zkm (show a0.2.1.1≤(a0.2.1.1.toNat:Int) by omega),cond_false]) _ (by show _ < 18446744073709551616; omega)
  rw [yaL,wr (show -9223372036854775808≤a0.2.1.2 - 1 by omega) (by omega),h1]
  cases (leb 0 a1&&leb a1 (a0.2.1.2 - 1))<;>rfl
def ywS:Con:=⟨yfh,ynu,fun x=>(fun n=>some ((n,()),())) (yjl x.1 x.2.1)⟩
theorem yL8:ConOk Tryz.prog 68 ywS:=(yJl).mono (fun x r hk h=>(yLe x.1 x.2.1 hk).trans h)
end
section
def yrx:Code:=(Tryz.f6.body).getD .skip
def yrB:Env:=zki TT [(15,yBs),(59,yrI),(60,yqZ),(61,yyq),(62,ywI),(63,ywQ),(64,yyo),(65,yyr),(66,ysK),(67,ywL),(68,ywS)] []
theorem yyH:FrOk Tryz.prog ⟨yrB,97,fun _=>none⟩ yrx:=zkp ye yf ⟨yPl,yDJ,yAn,yNX,yLY,yL6,yNV,yNY,yGt,yL1,yL8,trivial⟩
def yy0:Nat→Option Seg:=fun _=>none
abbrev ybk:List Par:= [.kp tYs .fz]
abbrev yf9:List OT:= [⟨false,tB,.fz⟩]
def ydV (a0:List Int):Option (ResD yf9×MutD ybk) :=
  let r1:=ytz a0
  bif r1 then
    some ((true,()),())
  else
    bnd (ybw a0) fun r2 =>
    let r3:=yeW r2.1.1 r2.1.2.1
    let r4:=yld r2.1.1 r2.1.2.1
    let r5:=yjd r2.1.1 r2.1.2.1
    let r6:=yjj r2.1.1 r2.1.2.1
    let r7:=ylb r2.1.1 r2.1.2.1
    let r8:=yle r2.1.1 r2.1.2.1
    bif (r3.2==r4.2) then
      let r9:=yb5 r3.1 r4.1
      bif r9 then
        bif (r5.2==r6.2) then
          let r10:=yb5 r5.1 r6.1
          bif r10 then
            bif (r7.1==r8.1) then
              bif (r7.2==r8.2) then
                let r11:=yjg r2.1.1 r2.1.2.1
                let r12:=yjl r2.1.1 r2.1.2.1
                some (((r11==r12),()),())
              else
                some ((false,()),())
            else
              some ((false,()),())
          else
            some ((false,()),())
        else
          some ((false,()),())
      else
        some ((false,()),())
    else
      some ((false,()),())
theorem yBw (x:InD ybk):zjH ⟨yrB,97,yy0⟩ Tryz.f6.results.toList yrx ybk yf9 x=ydV x.1:=by kernel_rfl
theorem yzl:ConOk Tryz.prog 6 ⟨ybk,yf9,fun x=>ydV x.1⟩:=zkh (yyH) Tryz.func6 (by kernel_rfl) (by kernel_rfl) Tryz.ntmps6.symm (by decide) (fun x r h=>(yBw x).trans h)
def ylc (a0:List Int):Bool:=true
theorem yAH (a0:List Int) (hk:zi9 ybk (a0,())):ydV a0=(fun n=>some ((n,()),())) (ylc a0):=by
  have hb:a0.length≤140737488355328:=by have:a0.length * 1≤2 ^ 47:=hk.1.1; omega
  obtain ⟨a,s,e1⟩:=yOl a0 hb
  unfold ydV ylc
  simp only [e1,zky,yeW,yld,yjd,yjj,ylb,yle,yjg,yjl,beq_self_eq_true,yOd,cond_true]
  cases ytz a0<;>rfl
def yy3:Con:=⟨ybk,yf9,fun x=>(fun n=>some ((n,()),())) (ylc x.1)⟩
theorem yAM:ConOk Tryz.prog 6 yy3:=(yzl).mono (fun x r hk h=>(yAH x.1 hk).trans h)
end
end
end Go.Tf
