/- Functions of the program, and what they come to. -/
import Derived.Test.YtgmadfpnljibhaaWordsF0
namespace Go.Tf
noncomputable section
open Go.Proofs
set_option synthInstance.maxHeartbeats 400000
set_option synthInstance.maxSize 10000
set_option linter.unusedVariables false
set_option linter.unusedSimpArgs false
set_option maxRecDepth 100000
section
def yx1:Code:=(Try.f162.body).getD .skip
def yyr:Env:=zki TT [(60,yp)] []
theorem yCY:FrOk Try.prog ⟨yyr,5,fun _=>none⟩ yx1:=zkp yc yd ⟨yx,trivial⟩
def yEZ:Nat→Option Seg:=fun _=>none
abbrev yiy:List Par:= [.rd tI]
abbrev ymD:List OT:= [⟨false,tB,.fz⟩]
def ype (a0:Int):Option (ResD ymD×MutD yiy) :=
  let r1:=ya a0 0 65535
  some ((r1,()),())
theorem yKO (x:InD yiy):zjH ⟨yyr,5,yEZ⟩ Try.f162.results.toList yx1 yiy ymD x=ype x.1:=by kernel_rfl
theorem yG4:ConOk Try.prog 162 ⟨yiy,ymD,fun x=>ype x.1⟩:=zkh (yCY) Try.func162 (by kernel_rfl) (by kernel_rfl) Try.ntmps162.symm (by decide) (fun x r h=>(yKO x).trans h)
def yN (a0:Int):Bool :=
  let r1:=ya a0 0 65535
  r1
def yve:Con:=⟨yiy,ymD,fun x=>(fun n=>some ((n,()),())) (yN x.1)⟩
theorem yIS (a0:Int):ype a0=(fun n=>some ((n,()),())) (yN a0):=zkS (p:=fun (n:Bool)=>((n,()),())) rfl
theorem yJC:ConOk Try.prog 162 yve:=(yG4).mono (fun x r _ h=>(yIS x.1).trans h)
end
section
def ygF:Code:=(Try.f136.body).getD .skip
def ykG:Env:=zki TT [(162,yve)] []
theorem yA3:FrOk Try.prog ⟨ykG,16,fun _=>none⟩ ygF:=zkp yc yd ⟨yJC,trivial⟩
def yso:Nat→Option Seg:=fun _=>none
def ybZ:Shape:=⟨[(0,false,[.br tI]),(3,false,[.int .i64])],[],[]⟩
def ygf:Shape:=⟨[(0,false,[.br tI]),(3,false,[.ci .i64 0])],[],[]⟩
def ygd:Shape:=⟨[],[],[]⟩
def ygn:Shape:=⟨[(2,false,[.bool])],[],[]⟩
def yky (v0:List Int) (v1:Int):Option ((ybZ).X ⊕ ((ygd).X ⊕ (ygn).X)) :=
  bif (ltb v1 (v0.length:Int)) then
    bif (inb v1 v0.length) then
      let r2:=yN (nth v0 v1 0)
      bif (!r2) then
        some (.inr (.inr (((false,()),()),(),())))
      else
        some (.inl (((v0,()),((IntKind.i64.wrap (v1+1)),()),()),(),()))
    else none
  else
    some (.inr (.inl ((),(),())))
def yaR (x:(ybZ).X):=yky x.1.1.1 x.1.2.1.1
def yqn (x:(ygf).X):(ybZ).X:=(((x.1.1.1,()),(0,()),()),(),())
def yrh:Code:=(zdI ygF 64 52).getD .skip
theorem yAF:zdI ygF 64 13=some (.block 0 (.loop yrh)):=by kernel_rfl
theorem yBP (x:(ybZ).X):zg7 ⟨ykG,16,yso⟩ 0 yrh 52 ybZ ygd ygn x=yaR x:=by kernel_rfl
def yqz (x:(ygf).X):Nat:=(fun (u0:List Int)=>18446744073709551616) x.1.1.1
def yls (x:(ygf).X):Option ((ygd).X ⊕ (ygn).X):=zr yaR (yqz x) (yqn x)
def yqN:Seg:=⟨ygf,ygd,ygn,yls⟩
def ysp:Nat→Option Seg:=fun q=>bif Nat.beq q 13 then some yqN else yso q
theorem yA4:FrOk Try.prog ⟨ykG,16,ysp⟩ ygF:=(yA3).loop (sg:=yqN) ybZ yqn (by decide) yAF yaR yqz (by decide) (fun _=>rfl) (fun x r _ h=>h) yBP
abbrev ydX:List Par:= [.rd tL]
abbrev ykT:List OT:= [⟨false,tB,.fz⟩]
def yh3 (a0:List Int):Option (ResD ykT×MutD ydX) :=
  zjw (yls (((a0,()),((),()),()),(),())) (fun y2 =>
    some ((true,()),())) (fun y2 =>
    some ((y2.1.1.1,()),()))
theorem yIl (x:InD ydX):zjH ⟨ykG,16,ysp⟩ Try.f136.results.toList ygF ydX ykT x=yh3 x.1:=by kernel_rfl
theorem yEc:ConOk Try.prog 136 ⟨ydX,ykT,fun x=>yh3 x.1⟩:=zkh (yA4) Try.func136 (by kernel_rfl) (by kernel_rfl) Try.ntmps136.symm (by decide) (fun x r h=>(yIl x).trans h)
def yC (a0:List Int):Bool:=a0.all yN
theorem yGB (a0:List Int) (hk:zi9 ydX (a0,())):yh3 a0=(fun n=>some ((n,()),())) (yC a0):=by
  have hb:a0.length * 8≤2 ^ 47:=hk.1.1
  have hl:yls (((a0,()),((),()),()),(),())=some (bif a0.all yN then .inl ((),(),()) else .inr (((false,()),()),(),())) :=
    zjS (step:=yaR) a0 0 (fun i=>(((a0,()),((i:Int),()),()),(),())) yN _ _ (fun i hi=>by
      simp only [yaR,yky,zkO hi,zjW,zjI (show (i:Int) < a0.length by omega),cond_true,wr (show -9223372036854775808≤(i:Int)+1 by omega) (by omega),Int.natCast_add,Int.natCast_one]
      cases yN (a0.getD i 0)<;>rfl) (by simp only [yaR,yky,zkm (Int.le_refl _),cond_false]) _ (by show _ < 18446744073709551616; omega)
  unfold yh3 yC
  rw [hl]
  cases a0.all yN<;>rfl
def yeF:Con:=⟨ydX,ykT,fun x=>(fun n=>some ((n,()),())) (yC x.1)⟩
theorem yjz:ConOk Try.prog 136 yeF:=(yEc).mono (fun x r hk h=>(yGB x.1 hk).trans h)
end
section
def yy2:Code:=(Try.f137.body).getD .skip
def yzd:Env:=zki TT [(136,yeF)] []
theorem yFU:FrOk Try.prog ⟨yzd,10,fun _=>none⟩ yy2:=zkp yc yd ⟨yjz,trivial⟩
def yHX:Nat→Option Seg:=fun _=>none
abbrev yj5:List Par:= [.rd tL]
abbrev yoz:List OT:= [⟨false,tB,.fz⟩]
def ypY (a0:List Int):Option (ResD yoz×MutD yj5) :=
  bif (leb (a0.length:Int) 12) then
    let r1:=yC a0
    some ((r1,()),())
  else
    some ((false,()),())
theorem yLX (x:InD yj5):zjH ⟨yzd,10,yHX⟩ Try.f137.results.toList yy2 yj5 yoz x=ypY x.1:=by kernel_rfl
theorem yJc:ConOk Try.prog 137 ⟨yj5,yoz,fun x=>ypY x.1⟩:=zkh (yFU) Try.func137 (by kernel_rfl) (by kernel_rfl) Try.ntmps137.symm (by decide) (fun x r h=>(yLX x).trans h)
def yeI (a0:List Int):Bool :=
  bif (leb (a0.length:Int) 12) then
    let r1:=yC a0
    r1
  else
    false
def ypF:Con:=⟨yj5,yoz,fun x=>(fun n=>some ((n,()),())) (yeI x.1)⟩
theorem yLb (a0:List Int):ypY a0=(fun n=>some ((n,()),())) (yeI a0):=zkS (p:=fun (n:Bool)=>((n,()),())) (zkx (p:=fun (n:Bool)=>((n,()),())) rfl rfl)
theorem yyz:ConOk Try.prog 137 ypF:=(yJc).mono (fun x r _ h=>(yLb x.1).trans h)
theorem yvQ:yeI=yI:=funext fun s=>by
  unfold yeI yI yC
  rw [show yN=isW from funext fun x=>by unfold yN; rw [ybB]; rfl]
  cases leb (s.length:Int) 12<;>rfl
end
section
def yat:Code:=(Try.f101.body).getD .skip
def ycQ:Env:=zki TT [(60,yp),(137,ypF)] []
theorem yFP:FrOk Try.prog ⟨ycQ,91,fun _=>none⟩ yat:=zkp yc yd ⟨yx,yyz,trivial⟩
def ywb:Nat→Option Seg:=fun _=>none
def ybJ:Shape:=⟨[(1,false,[.ptr 0 0]),(3,false,[.int .i64]),(4,false,[.int .i64])],[(0,[.br tL,.br tW,.bool,.br tI])],[]⟩
def yfx:Shape:=⟨[(1,false,[.ptr 0 0]),(3,false,[.int .i64]),(4,false,[.ci .i64 0])],[(0,[.br tL,.br tW,.bool,.br tI])],[]⟩
def yfk:Shape:=⟨[(1,false,[.ptr 0 0]),(3,false,[.int .i64])],[(0,[.br tL,.br tW,.bool,.br tI])],[]⟩
def yfP:Shape:=⟨[(2,false,[.bool])],[],[]⟩
abbrev ynh (v0:Int) (v1:Int) (v2:dM):(ybJ).X:=((((),()),(v0,()),(v1,()),()),((v2.1,v2.2.1,v2.2.2.1,v2.2.2.2,()),()),())
abbrev yDx (v0:Int) (v1:dM):(yfx).X:=((((),()),(v0,()),((),()),()),((v1.1,v1.2.1,v1.2.2.1,v1.2.2.2,()),()),())
abbrev yDo (v0:Int) (v1:dM):(yfk).X:=((((),()),(v0,()),()),((v1.1,v1.2.1,v1.2.2.1,v1.2.2.2,()),()),())
abbrev yDJ (v0:Bool):(yfP).X:=(((v0,()),()),(),())
def yny (v0:Int) (v1:Int) (v2:List (List Int)) (v3:List dW) (v4:Bool) (v5:List Int):Option ((ybJ).X ⊕ ((yfk).X ⊕ (yfP).X)) :=
  bif (ltb v1 v0) then
    bif (inb v1 v2.length) then
      let r2:=yeI (nth v2 v1 [])
      bif (!r2) then
        some (.inr (.inr (((false,()),()),(),())))
      else
        some (.inl ((((),()),(v0,()),((IntKind.i64.wrap (v1+1)),()),()),((v2,v3,v4,v5,()),()),()))
    else none
  else
    some (.inr (.inl ((((),()),(v0,()),()),((v2,v3,v4,v5,()),()),())))
def yb6 (x:(ybJ).X):=yny x.1.2.1.1 x.1.2.2.1.1 x.2.1.1.1 x.2.1.1.2.1 x.2.1.1.2.2.1 x.2.1.1.2.2.2.1
def ys3 (x:(yfx).X):(ybJ).X:=((((),()),(x.1.2.1.1,()),(0,()),()),((x.2.1.1.1,x.2.1.1.2.1,x.2.1.1.2.2.1,x.2.1.1.2.2.2.1,()),()),())
def yuP:Code:=(zdI yat 64 116).getD .skip
theorem yFa:zdI yat 64 29=some (.block 0 (.loop yuP)):=by kernel_rfl
theorem yHD (x:(ybJ).X):zg7 ⟨ycQ,91,ywb⟩ 0 yuP 116 ybJ yfk yfP x=yb6 x:=by kernel_rfl
def yti (x:(yfx).X):Nat:=(fun (u0:Int) (u1:List (List Int)) (u2:List dW) (u3:Bool) (u4:List Int)=>18446744073709551616) x.1.2.1.1 x.2.1.1.1 x.2.1.1.2.1 x.2.1.1.2.2.1 x.2.1.1.2.2.2.1
def yof (x:(yfx).X):Option ((yfk).X ⊕ (yfP).X):=zr yb6 (yti x) (ys3 x)
def ytP:Seg:=⟨yfx,yfk,yfP,yof⟩
def ypx:Nat→Option Seg:=fun q=>bif Nat.beq q 29 then some ytP else ywb q
theorem yFQ:FrOk Try.prog ⟨ycQ,91,ypx⟩ yat:=(yFP).loop (sg:=ytP) ybJ ys3 (by decide) yFa yb6 yti (by decide) (fun _=>rfl) (fun x r _ h=>h) yHD
def ybK:Shape:=⟨[(1,false,[.ptr 0 0]),(3,false,[.int .i64]),(5,false,[.int .i64])],[(0,[.br tL,.br tW,.bool,.br tI])],[]⟩
def yfy:Shape:=⟨[(1,false,[.ptr 0 0]),(3,false,[.int .i64]),(5,false,[.ci .i64 0])],[(0,[.br tL,.br tW,.bool,.br tI])],[]⟩
def yfl:Shape:=⟨[(1,false,[.ptr 0 0]),(3,false,[.int .i64])],[(0,[.br tL,.br tW,.bool,.br tI])],[]⟩
def yfQ:Shape:=⟨[(2,false,[.bool])],[],[]⟩
abbrev yni (v0:Int) (v1:Int) (v2:dM):(ybK).X:=((((),()),(v0,()),(v1,()),()),((v2.1,v2.2.1,v2.2.2.1,v2.2.2.2,()),()),())
abbrev yDy (v0:Int) (v1:dM):(yfy).X:=((((),()),(v0,()),((),()),()),((v1.1,v1.2.1,v1.2.2.1,v1.2.2.2,()),()),())
abbrev yDp (v0:Int) (v1:dM):(yfl).X:=((((),()),(v0,()),()),((v1.1,v1.2.1,v1.2.2.1,v1.2.2.2,()),()),())
abbrev yDK (v0:Bool):(yfQ).X:=(((v0,()),()),(),())
def ynz (v0:Int) (v1:Int) (v2:List (List Int)) (v3:List dW) (v4:Bool) (v5:List Int):Option ((ybK).X ⊕ ((yfl).X ⊕ (yfQ).X)) :=
  bif (ltb v1 (v3.length:Int)) then
    bif (inb v1 v3.length) then
      let r6:=ya ((nth v3 v1 (0,[])).1) 0 (IntKind.i64.wrap (v0 - 1))
      bif (!(!r6)) then
        bif (inb v1 v3.length) then
          let r7:=yeI ((nth v3 v1 (0,[])).2)
          bif (!r7) then
            some (.inr (.inr (((false,()),()),(),())))
          else
            some (.inl ((((),()),(v0,()),((IntKind.i64.wrap (v1+1)),()),()),((v2,v3,v4,v5,()),()),()))
        else none
      else
        some (.inr (.inr (((false,()),()),(),())))
    else none
  else
    some (.inr (.inl ((((),()),(v0,()),()),((v2,v3,v4,v5,()),()),())))
def yb7 (x:(ybK).X):=ynz x.1.2.1.1 x.1.2.2.1.1 x.2.1.1.1 x.2.1.1.2.1 x.2.1.1.2.2.1 x.2.1.1.2.2.2.1
def ys4 (x:(yfy).X):(ybK).X:=((((),()),(x.1.2.1.1,()),(0,()),()),((x.2.1.1.1,x.2.1.1.2.1,x.2.1.1.2.2.1,x.2.1.1.2.2.2.1,()),()),())
def yuQ:Code:=(zdI yat 64 244).getD .skip
theorem yFb:zdI yat 64 61=some (.block 2 (.loop yuQ)):=by kernel_rfl
theorem yHE (x:(ybK).X):zg7 ⟨ycQ,91,ypx⟩ 2 yuQ 244 ybK yfl yfQ x=yb7 x:=by kernel_rfl
def ytj (x:(yfy).X):Nat:=(fun (u0:Int) (u1:List (List Int)) (u2:List dW) (u3:Bool) (u4:List Int)=>18446744073709551616) x.1.2.1.1 x.2.1.1.1 x.2.1.1.2.1 x.2.1.1.2.2.1 x.2.1.1.2.2.2.1
def yog (x:(yfy).X):Option ((yfl).X ⊕ (yfQ).X):=zr yb7 (ytj x) (ys4 x)
def ytQ:Seg:=⟨yfy,yfl,yfQ,yog⟩
def ypy:Nat→Option Seg:=fun q=>bif Nat.beq q 61 then some ytQ else ypx q
theorem yFR:FrOk Try.prog ⟨ycQ,91,ypy⟩ yat:=(yFQ).loop (sg:=ytQ) ybK ys4 (by decide) yFb yb7 ytj (by decide) (fun _=>rfl) (fun x r _ h=>h) yHE
def ya4:Shape:=⟨[(1,false,[.ptr 0 0]),(3,false,[.int .i64]),(6,false,[.int .i64])],[(0,[.br tL,.br tW,.bool,.br tI])],[]⟩
def yev:Shape:=⟨[(1,false,[.ptr 0 0]),(3,false,[.int .i64]),(6,false,[.ci .i64 0])],[(0,[.br tL,.br tW,.bool,.br tI])],[]⟩
def yek:Shape:=⟨[(1,false,[.ptr 0 0]),(3,false,[.int .i64])],[(0,[.br tL,.br tW,.bool,.br tI])],[]⟩
def yeD:Shape:=⟨[(2,false,[.bool])],[],[]⟩
abbrev ylC (v0:Int) (v1:Int) (v2:dM):(ya4).X:=((((),()),(v0,()),(v1,()),()),((v2.1,v2.2.1,v2.2.2.1,v2.2.2.2,()),()),())
abbrev yBm (v0:Int) (v1:dM):(yev).X:=((((),()),(v0,()),((),()),()),((v1.1,v1.2.1,v1.2.2.1,v1.2.2.2,()),()),())
abbrev yBf (v0:Int) (v1:dM):(yek).X:=((((),()),(v0,()),()),((v1.1,v1.2.1,v1.2.2.1,v1.2.2.2,()),()),())
abbrev yBt (v0:Bool):(yeD).X:=(((v0,()),()),(),())
def ylP (v0:Int) (v1:Int) (v2:List (List Int)) (v3:List dW) (v4:Bool) (v5:List Int):Option ((ya4).X ⊕ ((yek).X ⊕ (yeD).X)) :=
  bif (ltb v1 (v5.length:Int)) then
    bif (inb v1 v5.length) then
      let r10:=ya (nth v5 v1 0) 0 (IntKind.i64.wrap (v0 - 1))
      bif (!(!r10)) then
        bif (ltb 0 v1) then
          bif (inb (IntKind.i64.wrap (v1 - 1)) v5.length) then
            bif (inb v1 v5.length) then
              bif (leb (nth v5 v1 0) (nth v5 (IntKind.i64.wrap (v1 - 1)) 0)) then
                some (.inr (.inr (((false,()),()),(),())))
              else
                some (.inl ((((),()),(v0,()),((IntKind.i64.wrap (v1+1)),()),()),((v2,v3,v4,v5,()),()),()))
            else none
          else none
        else
          some (.inl ((((),()),(v0,()),((IntKind.i64.wrap (v1+1)),()),()),((v2,v3,v4,v5,()),()),()))
      else
        some (.inr (.inr (((false,()),()),(),())))
    else none
  else
    some (.inr (.inl ((((),()),(v0,()),()),((v2,v3,v4,v5,()),()),())))
def ybu (x:(ya4).X):=ylP x.1.2.1.1 x.1.2.2.1.1 x.2.1.1.1 x.2.1.1.2.1 x.2.1.1.2.2.1 x.2.1.1.2.2.2.1
def yrv (x:(yev).X):(ya4).X:=((((),()),(x.1.2.1.1,()),(0,()),()),((x.2.1.1.1,x.2.1.1.2.1,x.2.1.1.2.2.1,x.2.1.1.2.2.2.1,()),()),())
def ysE:Code:=(zdI yat 64 500).getD .skip
theorem yCl:zdI yat 64 125=some (.block 4 (.loop ysE)):=by kernel_rfl
theorem yEv (x:(ya4).X):zg7 ⟨ycQ,91,ypy⟩ 4 ysE 500 ya4 yek yeD x=ybu x:=by kernel_rfl
def yrG (x:(yev).X):Nat:=(fun (u0:Int) (u1:List (List Int)) (u2:List dW) (u3:Bool) (u4:List Int)=>18446744073709551616) x.1.2.1.1 x.2.1.1.1 x.2.1.1.2.1 x.2.1.1.2.2.1 x.2.1.1.2.2.2.1
def ymY (x:(yev).X):Option ((yek).X ⊕ (yeD).X):=zr ybu (yrG x) (yrv x)
def yrW:Seg:=⟨yev,yek,yeD,ymY⟩
def ywc:Nat→Option Seg:=fun q=>bif Nat.beq q 125 then some yrW else ypy q
theorem yFS:FrOk Try.prog ⟨ycQ,91,ywc⟩ yat:=(yFR).loop (sg:=yrW) ya4 yrv (by decide) yCl ybu yrG (by decide) (fun _=>rfl) (fun x r _ h=>h) yEv
abbrev ygS:List Par:= [.rd tM]
abbrev yox:List OT:= [⟨false,tB,.fz⟩]
def ylc (a0:dM):Option (ResD yox×MutD ygS) :=
  zjw (yof ((((),()),((a0.1.length:Int),()),((),()),()),((a0.1,a0.2.1,a0.2.2.1,a0.2.2.2,()),()),())) (fun y2 =>
    zjw (yog ((((),()),(y2.1.2.1.1,()),((),()),()),((y2.2.1.1.1,y2.2.1.1.2.1,y2.2.1.1.2.2.1,y2.2.1.1.2.2.2.1,()),()),())) (fun y7 =>
      zjw (ymY ((((),()),(y7.1.2.1.1,()),((),()),()),((y7.2.1.1.1,y7.2.1.1.2.1,y7.2.1.1.2.2.1,y7.2.1.1.2.2.2.1,()),()),())) (fun y10 =>
        let r12:=ya y10.1.2.1.1 1 20
        bif r12 then
          some (((leb (y10.2.1.1.2.1.length:Int) 60),()),())
        else
          some ((false,()),())) (fun y10 =>
        some ((y10.1.1.1,()),()))) (fun y7 =>
      some ((y7.1.1.1,()),()))) (fun y2 =>
    some ((y2.1.1.1,()),()))
theorem yLV (x:InD ygS):zjH ⟨ycQ,91,ywc⟩ Try.f101.results.toList yat ygS yox x=ylc x.1:=by kernel_rfl
theorem yJa:ConOk Try.prog 101 ⟨ygS,yox,fun x=>ylc x.1⟩:=zkh (yFS) Try.func101 (by kernel_rfl) (by kernel_rfl) Try.ntmps101.symm (by decide) (fun x r h=>(yLV x).trans h)
def yR (a0:dM):Bool:=ym a0
theorem yK9 (a0:dM) (hk:zi9 ygS (a0,())):ylc a0=(fun n=>some ((n,()),())) (yR a0):=by
  have hb1:a0.1.length * 24≤2 ^ 47:=hk.1.1.1
  have hb2:a0.2.1.length * 32≤2 ^ 47:=hk.1.2.1.1
  have hb3:a0.2.2.2.length * 8≤2 ^ 47:=hk.1.2.2.2.1
  have h1:yof (yDx a0.1.length a0)=some (bif a0.1.all yI then .inl (yDo a0.1.length a0) else .inr (yDJ false)) :=
    zjS (step:=yb6) a0.1 [] (fun i=>ynh a0.1.length i a0) yI _ _ (fun i hi=>by
      simp only [yb6,ynh,yny,zjI (show (i:Int) < a0.1.length by omega),cond_true,wr (show -9223372036854775808≤(i:Int)+1 by omega) (by omega),Int.natCast_add,Int.natCast_one,Int.toNat_natCast,zkO hi,zjW,yvQ]
      cases yI (a0.1.getD i [])<;>rfl) (by simp only [yb6,ynh,yny,zkm (Int.le_refl _),cond_false]) _ (by show _ < 18446744073709551616; omega)
  have h2:yog (yDy a0.1.length a0)=some (bif a0.2.1.all (ynG a0.1.length) then .inl (yDp a0.1.length a0) else .inr (yDK false)) :=
    zjS (step:=yb7) a0.2.1 (0,[]) (fun i=>yni a0.1.length i a0) (ynG a0.1.length) _ _ (fun i hi=>by
      simp only [yb7,yni,ynz,zjI (show (i:Int) < a0.2.1.length by omega),cond_true,wr (show -9223372036854775808≤(i:Int)+1 by omega) (by omega),Int.natCast_add,Int.natCast_one,Int.toNat_natCast,zkO hi,zjW,yvQ,yl3 (show a0.1.length≤1152921504606846976 by omega),ynG]
      cases inb (a0.2.1.getD i (0,[])).1 a0.1.length<;>cases yI (a0.2.1.getD i (0,[])).2<;>rfl) (by simp only [yb7,yni,ynz,zkm (Int.le_refl _),cond_false]) _ (by show _ < 18446744073709551616; omega)
  have h3:ymY (yBm a0.1.length a0)=some (bif (List.range a0.2.2.2.length).any (yuH a0.1.length a0.2.2.2) then .inr (yBt false) else .inl (yBf a0.1.length a0)) :=
    zf4 (step:=ybu) (fun i=>ylC a0.1.length i a0) a0.2.2.2.length (yuH a0.1.length a0.2.2.2) _ _ (fun i hi=>by
      simp only [ybu,ylC,ylP,zjI (show (i:Int) < a0.2.2.2.length by omega),cond_true,wr (show -9223372036854775808≤(i:Int)+1 by omega) (by omega),Int.natCast_add,Int.natCast_one,Int.toNat_natCast,zkO hi,zjW,yl3 (show a0.1.length≤1152921504606846976 by omega),yuH]
      rcases Nat.eq_zero_or_pos i with rfl | h0
      · cases inb (a0.2.2.2.getD 0 0) a0.1.length<;>rfl
      · rw [show IntKind.i64.wrap ((i:Int) - 1)=((i - 1:Nat):Int) by rw [wr (by omega) (by omega)]; omega,zkO (show i - 1 < a0.2.2.2.length by omega),zjW,zjI (show (0:Int) < i by omega),decide_eq_true h0]
        cases inb (a0.2.2.2.getD i 0) a0.1.length<;>cases leb (a0.2.2.2.getD i 0) (a0.2.2.2.getD (i - 1) 0)<;>rfl) (by simp only [ybu,ylC,ylP,zkm (Int.le_refl _),cond_false]) _ (by show _ < 18446744073709551616; omega)
  unfold ylc yR ym
  rw [h1]
  cases a0.1.all yI
  · rfl
  simp only [cond_true,zkJ,h2]
  cases a0.2.1.all (ynG a0.1.length)
  · rfl
  simp only [cond_true,zkJ,h3,yJV,ybB]
  cases ykV a0.1.length a0.2.2.2
  · rfl
  simp only [Bool.not_true,cond_false,zkJ]
  cases leb 1 (a0.1.length:Int)<;>cases leb (a0.1.length:Int) 20<;>rfl
def ydZ:Con:=⟨ygS,yox,fun x=>(fun n=>some ((n,()),())) (yR x.1)⟩
theorem yiT:ConOk Try.prog 101 ydZ:=(yJa).mono (fun x r hk h=>(yK9 x.1 hk).trans h)
end
section
def yx2:Code:=(Try.f118.body).getD .skip
def yys:Env:=zki TT [] []
theorem yC8:FrOk Try.prog ⟨yys,6,fun _=>none⟩ yx2:=zkp yc yd trivial
def yE0:Nat→Option Seg:=fun _=>none
abbrev yiA:List Par:= [.rd tG]
abbrev ymG:List OT:= [⟨false,tI,.fz⟩]
def ypf (a0:dG):Option (ResD ymG×MutD yiA) :=
  some (((IntKind.i64.wrap (6+a0.2)),()),())
theorem yKT (x:InD yiA):zjH ⟨yys,6,yE0⟩ Try.f118.results.toList yx2 yiA ymG x=ypf x.1:=by kernel_rfl
theorem yG9:ConOk Try.prog 118 ⟨yiA,ymG,fun x=>ypf x.1⟩:=zkh (yC8) Try.func118 (by kernel_rfl) (by kernel_rfl) Try.ntmps118.symm (by decide) (fun x r h=>(yKT x).trans h)
def yaZ (a0:dG):Int :=
  (IntKind.i64.wrap (6+a0.2))
def yjs:Con:=⟨yiA,ymG,fun x=>(fun n=>some ((n,()),())) (yaZ x.1)⟩
theorem yIW (a0:dG):ypf a0=(fun n=>some ((n,()),())) (yaZ a0):=zkS (p:=fun (n:Int)=>((n,()),())) rfl
theorem ypM:ConOk Try.prog 118 yjs:=(yG9).mono (fun x r _ h=>(yIW x.1).trans h)
end
section
def yih:Code:=(Try.f99.body).getD .skip
def ymd:Env:=zki TT [(101,ydZ),(118,yjs)] []
theorem yC6:FrOk Try.prog ⟨ymd,51,fun _=>none⟩ yih:=zkp yc yd ⟨yiT,ypM,trivial⟩
def yuq:Nat→Option Seg:=fun _=>none
def ya9:Shape:=⟨[(1,false,[.ptr 0 0]),(3,false,[.int .i64])],[(0,[.int .i64,.int .i64,.int .i64,.br tM,.int .i64,.int .i64,.int .i64,.int .i64,.int .i64,.br tW,.int .i64,.bool,.bool])],[]⟩
def yeA:Shape:=⟨[(1,false,[.ptr 0 0]),(3,false,[.ci .i64 0])],[(0,[.int .i64,.int .i64,.int .i64,.br tM,.int .i64,.int .i64,.int .i64,.int .i64,.int .i64,.br tW,.int .i64,.bool,.bool])],[]⟩
def yep:Shape:=⟨[(1,false,[.ptr 0 0])],[(0,[.int .i64,.int .i64,.int .i64,.br tM,.int .i64,.int .i64,.int .i64,.int .i64,.int .i64,.br tW,.int .i64,.bool,.bool])],[]⟩
def yeE:Shape:=⟨[(2,false,[.bool])],[],[]⟩
abbrev ylG (v0:Int) (v1:dA):(ya9).X:=((((),()),(v0,()),()),((v1.1,v1.2.1.1,v1.2.1.2,v1.2.2.1,v1.2.2.2.1,v1.2.2.2.2.1,v1.2.2.2.2.2.1,v1.2.2.2.2.2.2.1,v1.2.2.2.2.2.2.2.1,v1.2.2.2.2.2.2.2.2.1,v1.2.2.2.2.2.2.2.2.2.1,v1.2.2.2.2.2.2.2.2.2.2.1,v1.2.2.2.2.2.2.2.2.2.2.2,()),()),())
abbrev yBq (v0:dA):(yeA).X:=((((),()),((),()),()),((v0.1,v0.2.1.1,v0.2.1.2,v0.2.2.1,v0.2.2.2.1,v0.2.2.2.2.1,v0.2.2.2.2.2.1,v0.2.2.2.2.2.2.1,v0.2.2.2.2.2.2.2.1,v0.2.2.2.2.2.2.2.2.1,v0.2.2.2.2.2.2.2.2.2.1,v0.2.2.2.2.2.2.2.2.2.2.1,v0.2.2.2.2.2.2.2.2.2.2.2,()),()),())
abbrev yBh (v0:dA):(yep).X:=((((),()),()),((v0.1,v0.2.1.1,v0.2.1.2,v0.2.2.1,v0.2.2.2.1,v0.2.2.2.2.1,v0.2.2.2.2.2.1,v0.2.2.2.2.2.2.1,v0.2.2.2.2.2.2.2.1,v0.2.2.2.2.2.2.2.2.1,v0.2.2.2.2.2.2.2.2.2.1,v0.2.2.2.2.2.2.2.2.2.2.1,v0.2.2.2.2.2.2.2.2.2.2.2,()),()),())
abbrev yBu (v0:Bool):(yeE).X:=(((v0,()),()),(),())
def ylT (v0:Int) (v1:Int) (v2:Int) (v3:Int) (v4:List dM) (v5:Int) (v6:Int) (v7:Int) (v8:Int) (v9:Int) (v10:List dW) (v11:Int) (v12:Bool) (v13:Bool):Option ((ya9).X ⊕ ((yep).X ⊕ (yeE).X)) :=
  bif (ltb v0 (v4.length:Int)) then
    bif (inb v0 v4.length) then
      let r3:=yR ((nth v4 v0 ([],[],false,[])).1,((nth v4 v0 ([],[],false,[])).2).1,(((nth v4 v0 ([],[],false,[])).2).2))
      bif (!(!r3)) then
        let r4:=yaZ (v2,v3)
        bif (!((((nth v4 v0 ([],[],false,[])).1).length:Int) !=r4)) then
          bif (((nth v4 v0 ([],[],false,[])).2).2).1 then
            bif (v0 !=v5) then
              bif (!v13) then
                some (.inr (.inr (((false,()),()),(),())))
              else
                some (.inl ((((),()),((IntKind.i64.wrap (v0+1)),()),()),((v1,v2,v3,v4,v5,v6,v7,v8,v9,v10,v11,v12,v13,()),()),()))
            else
              some (.inl ((((),()),((IntKind.i64.wrap (v0+1)),()),()),((v1,v2,v3,v4,v5,v6,v7,v8,v9,v10,v11,v12,v13,()),()),()))
          else
            some (.inl ((((),()),((IntKind.i64.wrap (v0+1)),()),()),((v1,v2,v3,v4,v5,v6,v7,v8,v9,v10,v11,v12,v13,()),()),()))
        else
          some (.inr (.inr (((false,()),()),(),())))
      else
        some (.inr (.inr (((false,()),()),(),())))
    else none
  else
    some (.inr (.inl ((((),()),()),((v1,v2,v3,v4,v5,v6,v7,v8,v9,v10,v11,v12,v13,()),()),())))
def yby (x:(ya9).X):=ylT x.1.2.1.1 x.2.1.1.1 x.2.1.1.2.1 x.2.1.1.2.2.1 x.2.1.1.2.2.2.1 x.2.1.1.2.2.2.2.1 x.2.1.1.2.2.2.2.2.1 x.2.1.1.2.2.2.2.2.2.1 x.2.1.1.2.2.2.2.2.2.2.1 x.2.1.1.2.2.2.2.2.2.2.2.1 x.2.1.1.2.2.2.2.2.2.2.2.2.1 x.2.1.1.2.2.2.2.2.2.2.2.2.2.1 x.2.1.1.2.2.2.2.2.2.2.2.2.2.2.1 x.2.1.1.2.2.2.2.2.2.2.2.2.2.2.2.1
def yrA (x:(yeA).X):(ya9).X:=((((),()),(0,()),()),((x.2.1.1.1,x.2.1.1.2.1,x.2.1.1.2.2.1,x.2.1.1.2.2.2.1,x.2.1.1.2.2.2.2.1,x.2.1.1.2.2.2.2.2.1,x.2.1.1.2.2.2.2.2.2.1,x.2.1.1.2.2.2.2.2.2.2.1,x.2.1.1.2.2.2.2.2.2.2.2.1,x.2.1.1.2.2.2.2.2.2.2.2.2.1,x.2.1.1.2.2.2.2.2.2.2.2.2.2.1,x.2.1.1.2.2.2.2.2.2.2.2.2.2.2.1,x.2.1.1.2.2.2.2.2.2.2.2.2.2.2.2.1,()),()),())
def ysJ:Code:=(zdI yih 64 52).getD .skip
theorem yCq:zdI yih 64 13=some (.block 0 (.loop ysJ)):=by kernel_rfl
theorem yEA (x:(ya9).X):zg7 ⟨ymd,51,yuq⟩ 0 ysJ 52 ya9 yep yeE x=yby x:=by kernel_rfl
def yrL (x:(yeA).X):Nat:=(fun (u0:Int) (u1:Int) (u2:Int) (u3:List dM) (u4:Int) (u5:Int) (u6:Int) (u7:Int) (u8:Int) (u9:List dW) (u10:Int) (u11:Bool) (u12:Bool)=>18446744073709551616) x.2.1.1.1 x.2.1.1.2.1 x.2.1.1.2.2.1 x.2.1.1.2.2.2.1 x.2.1.1.2.2.2.2.1 x.2.1.1.2.2.2.2.2.1 x.2.1.1.2.2.2.2.2.2.1 x.2.1.1.2.2.2.2.2.2.2.1 x.2.1.1.2.2.2.2.2.2.2.2.1 x.2.1.1.2.2.2.2.2.2.2.2.2.1 x.2.1.1.2.2.2.2.2.2.2.2.2.2.1 x.2.1.1.2.2.2.2.2.2.2.2.2.2.2.1 x.2.1.1.2.2.2.2.2.2.2.2.2.2.2.2.1
def ym2 (x:(yeA).X):Option ((yep).X ⊕ (yeE).X):=zr yby (yrL x) (yrA x)
def yr1:Seg:=⟨yeA,yep,yeE,ym2⟩
def yur:Nat→Option Seg:=fun q=>bif Nat.beq q 13 then some yr1 else yuq q
theorem yC7:FrOk Try.prog ⟨ymd,51,yur⟩ yih:=(yC6).loop (sg:=yr1) ya9 yrA (by decide) yCq yby yrL (by decide) (fun _=>rfl) (fun x r _ h=>h) yEA
abbrev ydj:List Par:= [.rd tA]
abbrev yiE:List OT:= [⟨false,tB,.fz⟩]
def yjM (a0:dA):Option (ResD yiE×MutD ydj) :=
  zjw (ym2 ((((),()),((),()),()),((a0.1,a0.2.1.1,a0.2.1.2,a0.2.2.1,a0.2.2.2.1,a0.2.2.2.2.1,a0.2.2.2.2.2.1,a0.2.2.2.2.2.2.1,a0.2.2.2.2.2.2.2.1,a0.2.2.2.2.2.2.2.2.1,a0.2.2.2.2.2.2.2.2.2.1,a0.2.2.2.2.2.2.2.2.2.2.1,a0.2.2.2.2.2.2.2.2.2.2.2,()),()),())) (fun y4 =>
    some ((((y4.2.1.1.2.2.2.1.length:Int)==y4.2.1.1.2.1),()),())) (fun y4 =>
    some ((y4.1.1.1,()),()))
theorem yKS (x:InD ydj):zjH ⟨ymd,51,yur⟩ Try.f99.results.toList yih ydj yiE x=yjM x.1:=by kernel_rfl
theorem yG8:ConOk Try.prog 99 ⟨ydj,yiE,fun x=>yjM x.1⟩:=zkh (yC7) Try.func99 (by kernel_rfl) (by kernel_rfl) Try.ntmps99.symm (by decide) (fun x r h=>(yKS x).trans h)
def yiP (a0:dA):Bool:=yiH a0
def yqY (a0:dA):Bool:=yb a0.2.1
theorem yIV (a0:dA) (hk:zi9 ydj (a0,())) (hq:yqY a0=true):yjM a0=(fun n=>some ((n,()),())) (yiP a0):=by
  have hb:a0.2.2.1.length * 80≤2 ^ 47:=hk.1.2.2.1.1
  have hg:=yk.1 hq
  have h1:ym2 (yBq a0)=some (bif (List.range a0.2.2.1.length).any (yeG a0) then .inr (yBu false) else .inl (yBh a0)) :=
    zf4 (step:=yby) (fun i=>ylG i a0) a0.2.2.1.length (yeG a0) _ _ (fun i hi=>by
      simp only [yby,ylG,ylT,zjI (show (i:Int) < a0.2.2.1.length by omega),cond_true,wr (show -9223372036854775808≤(i:Int)+1 by omega) (by omega),Int.natCast_add,Int.natCast_one,Int.toNat_natCast,zkO hi,zkV,yR,yeG,yaZ,wr (show -9223372036854775808≤6+a0.2.1.2 by omega) (by omega),noMem]
      cases ym (nth a0.2.2.1 i ([],[],false,[]))<;>cases (((nth a0.2.2.1 i ([],[],false,[])).1.length:Int) !=6+a0.2.1.2)<;>cases (nth a0.2.2.1 i ([],[],false,[])).2.2.1<;>cases ((i:Int) !=a0.2.2.2.1)<;>cases a0.2.2.2.2.2.2.2.2.2.2.2<;>rfl) (by simp only [yby,ylG,ylT,zkm (Int.le_refl _),cond_false]) _ (by show _ < 18446744073709551616; omega)
  unfold yjM yiP yiH
  rw [h1]
  cases (List.range a0.2.2.1.length).any (yeG a0)<;>rfl
def ymQ (a0:dA):Option (ResD yiE×MutD ydj):=bif yqY a0 then (fun n=>some ((n,()),())) (yiP a0) else none
theorem yJL (a0:dA) (h:yqY a0=true):ymQ a0=(fun n=>some ((n,()),())) (yiP a0):=by unfold ymQ; rw [h]; rfl
def yvh:Con:=⟨ydj,yiE,fun x=>ymQ x.1⟩
theorem yJF:ConOk Try.prog 99 yvh:=(yG8).mono (fun x r hk h=>zkW h (fun hq=>yIV x.1 hk hq))
end
end
end Go.Tf
