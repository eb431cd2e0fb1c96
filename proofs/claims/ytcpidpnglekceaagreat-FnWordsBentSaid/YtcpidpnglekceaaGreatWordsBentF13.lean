/- Functions of the program, and what they come to. -/
import Derived.Test.YtcpidpnglekceaaGreatWordsBentF12
namespace Go.Tf
noncomputable section
open Go.Proofs
set_option synthInstance.maxHeartbeats 400000
set_option synthInstance.maxSize 10000
set_option linter.unusedVariables false
set_option linter.unusedSimpArgs false
set_option maxRecDepth 100000
section
def yzA:Code:=(Tryz.f177.body).getD .skip
def yz1:Env:=zki TT [(131,yK)] []
theorem yEG:FrOk Tryz.prog ⟨yz1,26,fun _=>none⟩ yzA:=zkp ye yf ⟨yaa,trivial⟩
def yGW:Nat→Option Seg:=fun _=>none
abbrev yiT:List Par:= [.rd tG,.rd tI,.rd tI]
abbrev ynm:List OT:= [⟨false,tB,.fz⟩]
def yql (a0:dG) (a1:Int) (a2:Int):Option (ResD ynm×MutD yiT) :=
  let r1:=yl a1 (-1) (IntKind.i64.wrap (a0.1 - 1))
  bif r1 then
    let r2:=yl a2 0 a0.2
    bif r2 then
      bif (!(a2==0)) then
        some (((a1 !=(-1)),()),())
      else
        some ((true,()),())
    else
      some ((false,()),())
  else
    some ((false,()),())
theorem yM0 (x:InD yiT):zjH ⟨yz1,26,yGW⟩ Tryz.f177.results.toList yzA yiT ynm x=yql x.1 x.2.1 x.2.2.1:=by kernel_rfl
theorem yJc:ConOk Tryz.prog 177 ⟨yiT,ynm,fun x=>yql x.1 x.2.1 x.2.2.1⟩:=zkh (yEG) Tryz.func177 (by kernel_rfl) (by kernel_rfl) Tryz.ntmps177.symm (by decide) (fun x r h=>(yM0 x).trans h)
def ynM (a0:dG) (a1:Int) (a2:Int):Bool :=
  let r1:=yl a1 (-1) (IntKind.i64.wrap (a0.1 - 1))
  bif r1 then
    let r2:=yl a2 0 a0.2
    bif r2 then
      bif (!(a2==0)) then
        (a1 !=(-1))
      else
        true
    else
      false
  else
    false
def ywO:Con:=⟨yiT,ynm,fun x=>(fun n=>some ((n,()),())) (ynM x.1 x.2.1 x.2.2.1)⟩
theorem yK5 (a0:dG) (a1:Int) (a2:Int):yql a0 a1 a2=(fun n=>some ((n,()),())) (ynM a0 a1 a2):=zkS (p:=fun (n:Bool)=>((n,()),())) (zkx (p:=fun (n:Bool)=>((n,()),())) (zkx (p:=fun (n:Bool)=>((n,()),())) (zkx (p:=fun (n:Bool)=>((n,()),())) rfl rfl) rfl) rfl)
theorem yL4:ConOk Tryz.prog 177 ywO:=(yJc).mono (fun x r _ h=>(yK5 x.1 x.2.1 x.2.2.1).trans h)
end
section
def ytD:Code:=(Tryz.f117.body).getD .skip
def ytT:Env:=zki TT [(131,yK),(175,yqX)] []
theorem yAz:FrOk Tryz.prog ⟨ytT,14,fun _=>none⟩ ytD:=zkp ye yf ⟨yaa,yAl,trivial⟩
def yA7:Nat→Option Seg:=fun _=>none
abbrev yej:List Par:= [.rd tG,.rd tI]
abbrev yh4:List OT:= [⟨false,tB,.fz⟩]
def ylh (a0:dG) (a1:Int):Option (ResD yh4×MutD yej) :=
  let r1:=yhL a0
  bif r1 then
    let r2:=yl a1 0 (IntKind.i64.wrap (a0.2 - 1))
    some ((r2,()),())
  else
    some ((false,()),())
theorem yEs (x:InD yej):zjH ⟨ytT,14,yA7⟩ Tryz.f117.results.toList ytD yej yh4 x=ylh x.1 x.2.1:=by kernel_rfl
theorem yB8:ConOk Tryz.prog 117 ⟨yej,yh4,fun x=>ylh x.1 x.2.1⟩:=zkh (yAz) Tryz.func117 (by kernel_rfl) (by kernel_rfl) Tryz.ntmps117.symm (by decide) (fun x r h=>(yEs x).trans h)
def yN (a0:dG) (a1:Int):Bool :=
  let r1:=yhL a0
  bif r1 then
    let r2:=yl a1 0 (IntKind.i64.wrap (a0.2 - 1))
    r2
  else
    false
def ybt:Con:=⟨yej,yh4,fun x=>(fun n=>some ((n,()),())) (yN x.1 x.2.1)⟩
theorem yDv (a0:dG) (a1:Int):ylh a0 a1=(fun n=>some ((n,()),())) (yN a0 a1):=zkS (p:=fun (n:Bool)=>((n,()),())) (zkx (p:=fun (n:Bool)=>((n,()),())) rfl rfl)
theorem ydQ:ConOk Tryz.prog 117 ybt:=(yB8).mono (fun x r _ h=>(yDv x.1 x.2.1).trans h)
theorem yxk (g:dG) (s:Int):yN g s=yS g s:=by
  unfold yN yS
  rw [yIC]
  cases hg:yd g
  · rfl
  have:=yn.1 hg
  rw [yat,yaL,wr (by omega) (by omega)]; rfl
end
section
def yzz:Code:=(Tryz.f156.body).getD .skip
def yz0:Env:=zki TT [(131,yK)] []
theorem yEF:FrOk Tryz.prog ⟨yz0,5,fun _=>none⟩ yzz:=zkp ye yf ⟨yaa,trivial⟩
def yGV:Nat→Option Seg:=fun _=>none
abbrev yiS:List Par:= [.rd tI]
abbrev ynl:List OT:= [⟨false,tB,.fz⟩]
def yqk (a0:Int):Option (ResD ynl×MutD yiS) :=
  let r1:=yl a0 0 65535
  some ((r1,()),())
theorem yMZ (x:InD yiS):zjH ⟨yz0,5,yGV⟩ Tryz.f156.results.toList yzz yiS ynl x=yqk x.1:=by kernel_rfl
theorem yJb:ConOk Tryz.prog 156 ⟨yiS,ynl,fun x=>yqk x.1⟩:=zkh (yEF) Tryz.func156 (by kernel_rfl) (by kernel_rfl) Tryz.ntmps156.symm (by decide) (fun x r h=>(yMZ x).trans h)
def yV (a0:Int):Bool :=
  let r1:=yl a0 0 65535
  r1
def ywN:Con:=⟨yiS,ynl,fun x=>(fun n=>some ((n,()),())) (yV x.1)⟩
theorem yK4 (a0:Int):yqk a0=(fun n=>some ((n,()),())) (yV a0):=zkS (p:=fun (n:Bool)=>((n,()),())) rfl
theorem yL3:ConOk Tryz.prog 156 ywN:=(yJb).mono (fun x r _ h=>(yK4 x.1).trans h)
end
section
def yg6:Code:=(Tryz.f247.body).getD .skip
def ylt:Env:=zki TT [(156,ywN)] []
theorem yCP:FrOk Tryz.prog ⟨ylt,15,fun _=>none⟩ yg6:=zkp ye yf ⟨yL3,trivial⟩
def ytJ:Nat→Option Seg:=fun _=>none
def yca:Shape:=⟨[(5,false,[.br tI]),(6,false,[.int .i64]),(7,false,[.int .i64])],[],[]⟩
def ygJ:Shape:=⟨[(5,false,[.br tI]),(6,false,[.int .i64]),(7,false,[.ci .i64 0])],[],[]⟩
def ygH:Shape:=⟨[],[],[]⟩
def ygO:Shape:=⟨[(2,false,[.bool])],[],[]⟩
def yll (v0:List Int) (v1:Int) (v2:Int):Option ((yca).X ⊕ ((ygH).X ⊕ (ygO).X)) :=
  bif (ltb v2 v1) then
    bif (inb v2 v0.length) then
      let r2:=yV (nth v0 v2 0)
      bif (!r2) then
        some (.inr (.inr (((false,()),()),(),())))
      else
        some (.inl (((v0,()),(v1,()),((IntKind.i64.wrap (v2+1)),()),()),(),()))
    else none
  else
    some (.inr (.inl ((),(),())))
def yaY (x:(yca).X):=yll x.1.1.1 x.1.2.1.1 x.1.2.2.1.1
def yrO (x:(ygJ).X):(yca).X:=(((x.1.1.1,()),(x.1.2.1.1,()),(0,()),()),(),())
def ysD:Code:=(zdI yg6 64 52).getD .skip
theorem yCE:zdI yg6 64 13=some (.block 0 (.loop ysD)):=by kernel_rfl
theorem yDO (x:(yca).X):zg7 ⟨ylt,15,ytJ⟩ 0 ysD 52 yca ygH ygO x=yaY x:=by kernel_rfl
def yrY (x:(ygJ).X):Nat:=(fun (u0:List Int) (u1:Int)=>18446744073709551616) x.1.1.1 x.1.2.1.1
def yme (x:(ygJ).X):Option ((ygH).X ⊕ (ygO).X):=zr yaY (yrY x) (yrO x)
def ysd:Seg:=⟨ygJ,ygH,ygO,yme⟩
def ytK:Nat→Option Seg:=fun q=>bif Nat.beq q 13 then some ysd else ytJ q
theorem yCQ:FrOk Tryz.prog ⟨ylt,15,ytK⟩ yg6:=(yCP).loop (sg:=ysd) yca yrO (by decide) yCE yaY yrY (by decide) (fun _=>rfl) (fun x r _ h=>h) yDO
abbrev yd0:List Par:= [.rd tL]
abbrev ylA:List OT:= [⟨false,tB,.fz⟩]
def yiq (a0:List Int):Option (ResD ylA×MutD yd0) :=
  zjw (yme (((a0,()),((a0.length:Int),()),((),()),()),(),())) (fun y2 =>
    some ((true,()),())) (fun y2 =>
    some ((y2.1.1.1,()),()))
theorem yKC (x:InD yd0):zjH ⟨ylt,15,ytK⟩ Tryz.f247.results.toList yg6 yd0 ylA x=yiq x.1:=by kernel_rfl
theorem yGd:ConOk Tryz.prog 247 ⟨yd0,ylA,fun x=>yiq x.1⟩:=zkh (yCQ) Tryz.func247 (by kernel_rfl) (by kernel_rfl) Tryz.ntmps247.symm (by decide) (fun x r h=>(yKC x).trans h)
def yan (a0:List Int):Bool:=a0.all yV
theorem yIR (a0:List Int) (hk:zi9 yd0 (a0,())):yiq a0=(fun n=>some ((n,()),())) (yan a0):=by
  have hb:a0.length * 8≤2 ^ 47:=hk.1.1
  have hl:yme (((a0,()),((a0.length:Int),()),((),()),()),(),())=some (bif a0.all yV then .inl ((),(),()) else .inr (((false,()),()),(),())) :=
    zjS (step:=yaY) a0 0 (fun i=>(((a0,()),((a0.length:Int),()),((i:Int),()),()),(),())) yV _ _ (fun i hi=>by
      simp only [yaY,yll,zkO hi,zjW,zjI (show (i:Int) < a0.length by omega),cond_true,wr (show -9223372036854775808≤(i:Int)+1 by omega) (by omega),Int.natCast_add,Int.natCast_one]
      cases yV (a0.getD i 0)<;>rfl) (by simp only [yaY,yll,zkm (Int.le_refl _),cond_false]) _ (by show _ < 18446744073709551616; omega)
  unfold yiq yan
  rw [hl]
  cases a0.all yV<;>rfl
def yn6:Con:=⟨yd0,ylA,fun x=>(fun n=>some ((n,()),())) (yan x.1)⟩
theorem yxc:ConOk Tryz.prog 247 yn6:=(yGd).mono (fun x r hk h=>(yIR x.1 hk).trans h)
end
section
def yzx:Code:=(Tryz.f193.body).getD .skip
def yzY:Env:=zki TT [(247,yn6)] []
theorem yED:FrOk Tryz.prog ⟨yzY,15,fun _=>none⟩ yzx:=zkp ye yf ⟨yxc,trivial⟩
def yGT:Nat→Option Seg:=fun _=>none
abbrev yiQ:List Par:= [.rd tG,.rd tL]
abbrev ynj:List OT:= [⟨false,tB,.fz⟩]
def yqi (a0:dG) (a1:List Int):Option (ResD ynj×MutD yiQ) :=
  bif ((a1.length:Int)==(IntKind.i64.wrap (a0.1 - 1))) then
    let r1:=yan a1
    some ((r1,()),())
  else
    some ((false,()),())
theorem yMX (x:InD yiQ):zjH ⟨yzY,15,yGT⟩ Tryz.f193.results.toList yzx yiQ ynj x=yqi x.1 x.2.1:=by kernel_rfl
theorem yI9:ConOk Tryz.prog 193 ⟨yiQ,ynj,fun x=>yqi x.1 x.2.1⟩:=zkh (yED) Tryz.func193 (by kernel_rfl) (by kernel_rfl) Tryz.ntmps193.symm (by decide) (fun x r h=>(yMX x).trans h)
def yjh (a0:dG) (a1:List Int):Bool :=
  bif ((a1.length:Int)==(IntKind.i64.wrap (a0.1 - 1))) then
    let r1:=yan a1
    r1
  else
    false
def ywM:Con:=⟨yiQ,ynj,fun x=>(fun n=>some ((n,()),())) (yjh x.1 x.2.1)⟩
theorem yK2 (a0:dG) (a1:List Int):yqi a0 a1=(fun n=>some ((n,()),())) (yjh a0 a1):=zkS (p:=fun (n:Bool)=>((n,()),())) (zkx (p:=fun (n:Bool)=>((n,()),())) rfl rfl)
theorem yL2:ConOk Tryz.prog 193 ywM:=(yI9).mono (fun x r _ h=>(yK2 x.1 x.2.1).trans h)
end
section
def yg5:Code:=(Tryz.f178.body).getD .skip
def yls:Env:=zki TT [(117,ybt),(193,ywM)] []
theorem yCM:FrOk Tryz.prog ⟨yls,44,fun _=>none⟩ yg5:=zkp ye yf ⟨ydQ,yL2,trivial⟩
def ytH:Nat→Option Seg:=fun _=>none
def yaQ:Shape:=⟨[(1,false,[.ptr 0 0]),(6,false,[.br tW]),(7,false,[.int .i64]),(8,false,[.int .i64])],[(0,[.int .i64,.int .i64,.int .i64,.br tM,.int .i64,.int .i64,.int .i64,.int .i64,.int .i64,.br tW,.int .i64,.bool,.bool])],[]⟩
def ydH:Shape:=⟨[(1,false,[.ptr 0 0]),(6,false,[.br tW]),(7,false,[.int .i64]),(8,false,[.ci .i64 0])],[(0,[.int .i64,.int .i64,.int .i64,.br tM,.int .i64,.int .i64,.int .i64,.int .i64,.int .i64,.br tW,.int .i64,.bool,.bool])],[]⟩
def ydB:Shape:=⟨[],[],[]⟩
def ydL:Shape:=⟨[(2,false,[.bool])],[],[]⟩
abbrev yk7 (v0:List dW) (v1:Int) (v2:Int) (v3:dA):(yaQ).X:=((((),()),(v0,()),(v1,()),(v2,()),()),((v3.1,v3.2.1.1,v3.2.1.2,v3.2.2.1,v3.2.2.2.1,v3.2.2.2.2.1,v3.2.2.2.2.2.1,v3.2.2.2.2.2.2.1,v3.2.2.2.2.2.2.2.1,v3.2.2.2.2.2.2.2.2.1,v3.2.2.2.2.2.2.2.2.2.1,v3.2.2.2.2.2.2.2.2.2.2.1,v3.2.2.2.2.2.2.2.2.2.2.2,()),()),())
abbrev yBZ (v0:List dW) (v1:Int) (v2:dA):(ydH).X:=((((),()),(v0,()),(v1,()),((),()),()),((v2.1,v2.2.1.1,v2.2.1.2,v2.2.2.1,v2.2.2.2.1,v2.2.2.2.2.1,v2.2.2.2.2.2.1,v2.2.2.2.2.2.2.1,v2.2.2.2.2.2.2.2.1,v2.2.2.2.2.2.2.2.2.1,v2.2.2.2.2.2.2.2.2.2.1,v2.2.2.2.2.2.2.2.2.2.2.1,v2.2.2.2.2.2.2.2.2.2.2.2,()),()),())
abbrev yBU  :(ydB).X:=((),(),())
abbrev yB3 (v0:Bool):(ydL).X:=(((v0,()),()),(),())
def ylk (v0:List dW) (v1:Int) (v2:Int) (v3:Int) (v4:Int) (v5:Int) (v6:List dM) (v7:Int) (v8:Int) (v9:Int) (v10:Int) (v11:Int) (v12:List dW) (v13:Int) (v14:Bool) (v15:Bool):Option ((yaQ).X ⊕ ((ydB).X ⊕ (ydL).X)) :=
  bif (ltb v2 v1) then
    bif (inb v2 v0.length) then
      let r4:=yN (v4,v5) ((nth v0 v2 (0,[])).1)
      bif (!(!r4)) then
        bif (ltb 0 v2) then
          bif (inb (IntKind.i64.wrap (v2 - 1)) v12.length) then
            bif (!(leb ((nth v0 v2 (0,[])).1) ((nth v12 (IntKind.i64.wrap (v2 - 1)) (0,[])).1))) then
              let r5:=yjh (v4,v5) ((nth v0 v2 (0,[])).2)
              bif (!r5) then
                some (.inr (.inr (((false,()),()),(),())))
              else
                some (.inl ((((),()),(v0,()),(v1,()),((IntKind.i64.wrap (v2+1)),()),()),((v3,v4,v5,v6,v7,v8,v9,v10,v11,v12,v13,v14,v15,()),()),()))
            else
              some (.inr (.inr (((false,()),()),(),())))
          else none
        else
          let r6:=yjh (v4,v5) ((nth v0 v2 (0,[])).2)
          bif (!r6) then
            some (.inr (.inr (((false,()),()),(),())))
          else
            some (.inl ((((),()),(v0,()),(v1,()),((IntKind.i64.wrap (v2+1)),()),()),((v3,v4,v5,v6,v7,v8,v9,v10,v11,v12,v13,v14,v15,()),()),()))
      else
        some (.inr (.inr (((false,()),()),(),())))
    else none
  else
    some (.inr (.inl ((),(),())))
def yaX (x:(yaQ).X):=ylk x.1.2.1.1 x.1.2.2.1.1 x.1.2.2.2.1.1 x.2.1.1.1 x.2.1.1.2.1 x.2.1.1.2.2.1 x.2.1.1.2.2.2.1 x.2.1.1.2.2.2.2.1 x.2.1.1.2.2.2.2.2.1 x.2.1.1.2.2.2.2.2.2.1 x.2.1.1.2.2.2.2.2.2.2.1 x.2.1.1.2.2.2.2.2.2.2.2.1 x.2.1.1.2.2.2.2.2.2.2.2.2.1 x.2.1.1.2.2.2.2.2.2.2.2.2.2.1 x.2.1.1.2.2.2.2.2.2.2.2.2.2.2.1 x.2.1.1.2.2.2.2.2.2.2.2.2.2.2.2.1
def yrN (x:(ydH).X):(yaQ).X:=((((),()),(x.1.2.1.1,()),(x.1.2.2.1.1,()),(0,()),()),((x.2.1.1.1,x.2.1.1.2.1,x.2.1.1.2.2.1,x.2.1.1.2.2.2.1,x.2.1.1.2.2.2.2.1,x.2.1.1.2.2.2.2.2.1,x.2.1.1.2.2.2.2.2.2.1,x.2.1.1.2.2.2.2.2.2.2.1,x.2.1.1.2.2.2.2.2.2.2.2.1,x.2.1.1.2.2.2.2.2.2.2.2.2.1,x.2.1.1.2.2.2.2.2.2.2.2.2.2.1,x.2.1.1.2.2.2.2.2.2.2.2.2.2.2.1,x.2.1.1.2.2.2.2.2.2.2.2.2.2.2.2.1,()),()),())
def ysC:Code:=(zdI yg5 64 52).getD .skip
theorem yCD:zdI yg5 64 13=some (.block 0 (.loop ysC)):=by kernel_rfl
theorem yDN (x:(yaQ).X):zg7 ⟨yls,44,ytH⟩ 0 ysC 52 yaQ ydB ydL x=yaX x:=by kernel_rfl
def yrX (x:(ydH).X):Nat:=(fun (u0:List dW) (u1:Int) (u2:Int) (u3:Int) (u4:Int) (u5:List dM) (u6:Int) (u7:Int) (u8:Int) (u9:Int) (u10:Int) (u11:List dW) (u12:Int) (u13:Bool) (u14:Bool)=>18446744073709551616) x.1.2.1.1 x.1.2.2.1.1 x.2.1.1.1 x.2.1.1.2.1 x.2.1.1.2.2.1 x.2.1.1.2.2.2.1 x.2.1.1.2.2.2.2.1 x.2.1.1.2.2.2.2.2.1 x.2.1.1.2.2.2.2.2.2.1 x.2.1.1.2.2.2.2.2.2.2.1 x.2.1.1.2.2.2.2.2.2.2.2.1 x.2.1.1.2.2.2.2.2.2.2.2.2.1 x.2.1.1.2.2.2.2.2.2.2.2.2.2.1 x.2.1.1.2.2.2.2.2.2.2.2.2.2.2.1 x.2.1.1.2.2.2.2.2.2.2.2.2.2.2.2.1
def ymd (x:(ydH).X):Option ((ydB).X ⊕ (ydL).X):=zr yaX (yrX x) (yrN x)
def ysc:Seg:=⟨ydH,ydB,ydL,ymd⟩
def ytI:Nat→Option Seg:=fun q=>bif Nat.beq q 13 then some ysc else ytH q
theorem yCN:FrOk Tryz.prog ⟨yls,44,ytI⟩ yg5:=(yCM).loop (sg:=ysc) yaQ yrN (by decide) yCD yaX yrX (by decide) (fun _=>rfl) (fun x r _ h=>h) yDN
abbrev ycK:List Par:= [.rd tA]
abbrev yhz:List OT:= [⟨false,tB,.fz⟩]
def yip (a0:dA):Option (ResD yhz×MutD ycK) :=
  zjw (ymd ((((),()),(a0.2.2.2.2.2.2.2.2.1,()),((a0.2.2.2.2.2.2.2.2.1.length:Int),()),((),()),()),((a0.1,a0.2.1.1,a0.2.1.2,a0.2.2.1,a0.2.2.2.1,a0.2.2.2.2.1,a0.2.2.2.2.2.1,a0.2.2.2.2.2.2.1,a0.2.2.2.2.2.2.2.1,a0.2.2.2.2.2.2.2.2.1,a0.2.2.2.2.2.2.2.2.2.1,a0.2.2.2.2.2.2.2.2.2.2.1,a0.2.2.2.2.2.2.2.2.2.2.2,()),()),())) (fun y6 =>
    some ((true,()),())) (fun y6 =>
    some ((y6.1.1.1,()),()))
theorem yKA (x:InD ycK):zjH ⟨yls,44,ytI⟩ Tryz.f178.results.toList yg5 ycK yhz x=yip x.1:=by kernel_rfl
theorem yGb:ConOk Tryz.prog 178 ⟨ycK,yhz,fun x=>yip x.1⟩:=zkh (yCN) Tryz.func178 (by kernel_rfl) (by kernel_rfl) Tryz.ntmps178.symm (by decide) (fun x r h=>(yKA x).trans h)
def yhO (a0:dA):Bool:=yay a0.2.1 a0.2.2.2.2.2.2.2.2.1
def yre (a0:dA):Bool:=yd a0.2.1
theorem yID (l:List Int):yan l=l.all isW:=by
  unfold yan
  rw [show yV=isW from funext fun x=>by unfold yV; rw [yat,yaL]; rfl]
theorem yIP (a0:dA) (hk:zi9 ycK (a0,())) (hq:yre a0=true):yip a0=(fun n=>some ((n,()),())) (yhO a0):=by
  have hb:a0.2.2.2.2.2.2.2.2.1.length * 32≤2 ^ 47:=hk.1.2.2.2.2.2.2.2.2.1.1
  have hg:=yn.1 hq
  have hq':yd a0.2.1=true:=hq
  have h1:ymd (yBZ a0.2.2.2.2.2.2.2.2.1 a0.2.2.2.2.2.2.2.2.1.length a0)=some (bif (List.range a0.2.2.2.2.2.2.2.2.1.length).any (yfo a0.2.1 a0.2.2.2.2.2.2.2.2.1) then .inr (yB3 false) else .inl yBU) :=
    zf4 (step:=yaX) (fun i=>yk7 a0.2.2.2.2.2.2.2.2.1 a0.2.2.2.2.2.2.2.2.1.length i a0) a0.2.2.2.2.2.2.2.2.1.length (yfo a0.2.1 a0.2.2.2.2.2.2.2.2.1) _ _ (fun i hi=>by
      simp only [yaX,yk7,ylk,zjI (show (i:Int) < a0.2.2.2.2.2.2.2.2.1.length by omega),cond_true,wr (show -9223372036854775808≤(i:Int)+1 by omega) (by omega),Int.natCast_add,Int.natCast_one,Int.toNat_natCast,zkO hi,zkV,yN,yjh,yIC,hq',yat,yaL,yID,wr (show -9223372036854775808≤a0.2.1.2 - 1 by omega) (by omega),wr (show -9223372036854775808≤a0.2.1.1 - 1 by omega) (by omega),yfo,bne]
      rcases Nat.eq_zero_or_pos i with rfl | h0
      · cases (leb 0 (nth a0.2.2.2.2.2.2.2.2.1 ((0:Nat):Int) (0,[])).1&&leb (nth a0.2.2.2.2.2.2.2.2.1 ((0:Nat):Int) (0,[])).1 (a0.2.1.2 - 1))<;>cases (((nth a0.2.2.2.2.2.2.2.2.1 ((0:Nat):Int) (0,[])).2.length:Int)==a0.2.1.1 - 1)<;>cases ((nth a0.2.2.2.2.2.2.2.2.1 ((0:Nat):Int) (0,[])).2.all isW)<;>rfl
      · rw [show IntKind.i64.wrap ((i:Int) - 1)=((i - 1:Nat):Int) by rw [wr (by omega) (by omega)]; omega,zkO (show i - 1 < a0.2.2.2.2.2.2.2.2.1.length by omega),zjI (show (0:Int) < i by omega),decide_eq_true h0]
        cases (leb 0 (nth a0.2.2.2.2.2.2.2.2.1 (i:Int) (0,[])).1&&leb (nth a0.2.2.2.2.2.2.2.2.1 (i:Int) (0,[])).1 (a0.2.1.2 - 1))<;>cases (((nth a0.2.2.2.2.2.2.2.2.1 (i:Int) (0,[])).2.length:Int)==a0.2.1.1 - 1)<;>cases ((nth a0.2.2.2.2.2.2.2.2.1 (i:Int) (0,[])).2.all isW)<;>cases leb (nth a0.2.2.2.2.2.2.2.2.1 (i:Int) (0,[])).1 (nth a0.2.2.2.2.2.2.2.2.1 ((i - 1:Nat):Int) (0,[])).1<;>rfl) (by simp only [yaX,yk7,ylk,zkm (Int.le_refl _),cond_false]) _ (by show _ < 18446744073709551616; omega)
  unfold yip yhO yay
  rw [h1]
  cases (List.range a0.2.2.2.2.2.2.2.2.1.length).any (yfo a0.2.1 a0.2.2.2.2.2.2.2.2.1)<;>rfl
def ylP (a0:dA):Option (ResD yhz×MutD ycK):=bif yre a0 then (fun n=>some ((n,()),())) (yhO a0) else none
theorem yJQ (a0:dA) (h:yre a0=true):ylP a0=(fun n=>some ((n,()),())) (yhO a0):=by unfold ylP; rw [h]; rfl
def yug:Con:=⟨ycK,yhz,fun x=>ylP x.1⟩
theorem yJH:ConOk Tryz.prog 178 yug:=(yGb).mono (fun x r hk h=>zkW h (fun hq=>yIP x.1 hk hq))
end
end
end Go.Tf
