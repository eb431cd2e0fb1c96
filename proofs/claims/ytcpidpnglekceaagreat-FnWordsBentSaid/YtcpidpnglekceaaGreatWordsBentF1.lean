/- Functions of the program, and what they come to. -/
import Derived.Test.YtcpidpnglekceaaGreatWordsBentF0
namespace Go.Tf
noncomputable section
open Go.Proofs
set_option synthInstance.maxHeartbeats 400000
set_option synthInstance.maxSize 10000
set_option linter.unusedVariables false
set_option linter.unusedSimpArgs false
set_option maxRecDepth 100000
section
def yg8:Code:=(Tryz.f245.body).getD .skip
def ylv:Env:=zki TT [(158,ywY)] []
theorem yCZ:FrOk Tryz.prog ⟨ylv,16,fun _=>none⟩ yg8:=zkp ye yf ⟨yMe,trivial⟩
def ytN:Nat→Option Seg:=fun _=>none
def ycb:Shape:=⟨[(0,false,[.br tI]),(3,false,[.int .i64])],[],[]⟩
def ygK:Shape:=⟨[(0,false,[.br tI]),(3,false,[.ci .i64 0])],[],[]⟩
def ygI:Shape:=⟨[],[],[]⟩
def ygQ:Shape:=⟨[(2,false,[.bool])],[],[]⟩
def yln (v0:List Int) (v1:Int):Option ((ycb).X ⊕ ((ygI).X ⊕ (ygQ).X)) :=
  bif (ltb v1 (v0.length:Int)) then
    bif (inb v1 v0.length) then
      let r2:=yW (nth v0 v1 0)
      bif (!r2) then
        some (.inr (.inr (((false,()),()),(),())))
      else
        some (.inl (((v0,()),((IntKind.i64.wrap (v1+1)),()),()),(),()))
    else none
  else
    some (.inr (.inl ((),(),())))
def ya0 (x:(ycb).X):=yln x.1.1.1 x.1.2.1.1
def yrQ (x:(ygK).X):(ycb).X:=(((x.1.1.1,()),(0,()),()),(),())
def ysF:Code:=(zdI yg8 64 52).getD .skip
theorem yCG:zdI yg8 64 13=some (.block 0 (.loop ysF)):=by kernel_rfl
theorem yDQ (x:(ycb).X):zg7 ⟨ylv,16,ytN⟩ 0 ysF 52 ycb ygI ygQ x=ya0 x:=by kernel_rfl
def yr0 (x:(ygK).X):Nat:=(fun (u0:List Int)=>18446744073709551616) x.1.1.1
def ymg (x:(ygK).X):Option ((ygI).X ⊕ (ygQ).X):=zr ya0 (yr0 x) (yrQ x)
def ysf:Seg:=⟨ygK,ygI,ygQ,ymg⟩
def ytO:Nat→Option Seg:=fun q=>bif Nat.beq q 13 then some ysf else ytN q
theorem yC0:FrOk Tryz.prog ⟨ylv,16,ytO⟩ yg8:=(yCZ).loop (sg:=ysf) ycb yrQ (by decide) yCG ya0 yr0 (by decide) (fun _=>rfl) (fun x r _ h=>h) yDQ
abbrev yd3:List Par:= [.rd tL]
abbrev ylG:List OT:= [⟨false,tB,.fz⟩]
def yiv (a0:List Int):Option (ResD ylG×MutD yd3) :=
  zjw (ymg (((a0,()),((),()),()),(),())) (fun y2 =>
    some ((true,()),())) (fun y2 =>
    some ((y2.1.1.1,()),()))
theorem yKK (x:InD yd3):zjH ⟨ylv,16,ytO⟩ Tryz.f245.results.toList yg8 yd3 ylG x=yiv x.1:=by kernel_rfl
theorem yGl:ConOk Tryz.prog 245 ⟨yd3,ylG,fun x=>yiv x.1⟩:=zkh (yC0) Tryz.func245 (by kernel_rfl) (by kernel_rfl) Tryz.ntmps245.symm (by decide) (fun x r h=>(yKK x).trans h)
def yJ (a0:List Int):Bool:=a0.all yW
theorem yIY (a0:List Int) (hk:zi9 yd3 (a0,())):yiv a0=(fun n=>some ((n,()),())) (yJ a0):=by
  have hb:a0.length * 8≤2 ^ 47:=hk.1.1
  have hl:ymg (((a0,()),((),()),()),(),())=some (bif a0.all yW then .inl ((),(),()) else .inr (((false,()),()),(),())) :=
    zjS (step:=ya0) a0 0 (fun i=>(((a0,()),((i:Int),()),()),(),())) yW _ _ (fun i hi=>by
      simp only [ya0,yln,zkO hi,zjW,zjI (show (i:Int) < a0.length by omega),cond_true,wr (show -9223372036854775808≤(i:Int)+1 by omega) (by omega),Int.natCast_add,Int.natCast_one]
      cases yW (a0.getD i 0)<;>rfl) (by simp only [ya0,yln,zkm (Int.le_refl _),cond_false]) _ (by show _ < 18446744073709551616; omega)
  unfold yiv yJ
  rw [hl]
  cases a0.all yW<;>rfl
def yeS:Con:=⟨yd3,ylG,fun x=>(fun n=>some ((n,()),())) (yJ x.1)⟩
theorem ykc:ConOk Tryz.prog 245 yeS:=(yGl).mono (fun x r hk h=>(yIY x.1 hk).trans h)
end
section
def yAX:Code:=(Tryz.f254.body).getD .skip
def yBe:Env:=zki TT [(245,yeS)] []
theorem yIa:FrOk Tryz.prog ⟨yBe,10,fun _=>none⟩ yAX:=zkp ye yf ⟨ykc,trivial⟩
def yKn:Nat→Option Seg:=fun _=>none
abbrev ykQ:List Par:= [.rd tL]
abbrev ypE:List OT:= [⟨false,tB,.fz⟩]
def yrn (a0:List Int):Option (ResD ypE×MutD ykQ) :=
  bif (leb (a0.length:Int) 12) then
    let r1:=yJ a0
    some ((r1,()),())
  else
    some ((false,()),())
theorem yOx (x:InD ykQ):zjH ⟨yBe,10,yKn⟩ Tryz.f254.results.toList yAX ykQ ypE x=yrn x.1:=by kernel_rfl
theorem yLE:ConOk Tryz.prog 254 ⟨ykQ,ypE,fun x=>yrn x.1⟩:=zkh (yIa) Tryz.func254 (by kernel_rfl) (by kernel_rfl) Tryz.ntmps254.symm (by decide) (fun x r h=>(yOx x).trans h)
def yeY (a0:List Int):Bool :=
  bif (leb (a0.length:Int) 12) then
    let r1:=yJ a0
    r1
  else
    false
def yq1:Con:=⟨ykQ,ypE,fun x=>(fun n=>some ((n,()),())) (yeY x.1)⟩
theorem yNG (a0:List Int):yrn a0=(fun n=>some ((n,()),())) (yeY a0):=zkS (p:=fun (n:Bool)=>((n,()),())) (zkx (p:=fun (n:Bool)=>((n,()),())) rfl rfl)
theorem yAp:ConOk Tryz.prog 254 yq1:=(yLE).mono (fun x r _ h=>(yNG x.1).trans h)
theorem yxs:yeY=yR:=funext fun s=>by
  unfold yeY yR yJ
  rw [show yW=isW from funext fun x=>by unfold yW; rw [yaL]; rfl]
  cases leb (s.length:Int) 12<;>rfl
end
section
def yaD:Code:=(Tryz.f214.body).getD .skip
def yc2:Env:=zki TT [(115,yq),(254,yq1)] []
theorem yH5:FrOk Tryz.prog ⟨yc2,91,fun _=>none⟩ yaD:=zkp ye yf ⟨yu,yAp,trivial⟩
def yxN:Nat→Option Seg:=fun _=>none
def ybT:Shape:=⟨[(1,false,[.ptr 0 0]),(3,false,[.int .i64]),(4,false,[.int .i64])],[(0,[.br tL,.br tW,.bool,.br tI])],[]⟩
def yfY:Shape:=⟨[(1,false,[.ptr 0 0]),(3,false,[.int .i64]),(4,false,[.ci .i64 0])],[(0,[.br tL,.br tW,.bool,.br tI])],[]⟩
def yfH:Shape:=⟨[(1,false,[.ptr 0 0]),(3,false,[.int .i64])],[(0,[.br tL,.br tW,.bool,.br tI])],[]⟩
def ygl:Shape:=⟨[(2,false,[.bool])],[],[]⟩
abbrev yog (v0:Int) (v1:Int) (v2:dM):(ybT).X:=((((),()),(v0,()),(v1,()),()),((v2.1,v2.2.1,v2.2.2.1,v2.2.2.2,()),()),())
abbrev yFD (v0:Int) (v1:dM):(yfY).X:=((((),()),(v0,()),((),()),()),((v1.1,v1.2.1,v1.2.2.1,v1.2.2.2,()),()),())
abbrev yFs (v0:Int) (v1:dM):(yfH).X:=((((),()),(v0,()),()),((v1.1,v1.2.1,v1.2.2.1,v1.2.2.2,()),()),())
abbrev yFS (v0:Bool):(ygl).X:=(((v0,()),()),(),())
def yoA (v0:Int) (v1:Int) (v2:List (List Int)) (v3:List dW) (v4:Bool) (v5:List Int):Option ((ybT).X ⊕ ((yfH).X ⊕ (ygl).X)) :=
  bif (ltb v1 v0) then
    bif (inb v1 v2.length) then
      let r2:=yeY (nth v2 v1 [])
      bif (!r2) then
        some (.inr (.inr (((false,()),()),(),())))
      else
        some (.inl ((((),()),(v0,()),((IntKind.i64.wrap (v1+1)),()),()),((v2,v3,v4,v5,()),()),()))
    else none
  else
    some (.inr (.inl ((((),()),(v0,()),()),((v2,v3,v4,v5,()),()),())))
def ycj (x:(ybT).X):=yoA x.1.2.1.1 x.1.2.2.1.1 x.2.1.1.1 x.2.1.1.2.1 x.2.1.1.2.2.1 x.2.1.1.2.2.2.1
def yuw (x:(yfY).X):(ybT).X:=((((),()),(x.1.2.1.1,()),(0,()),()),((x.2.1.1.1,x.2.1.1.2.1,x.2.1.1.2.2.1,x.2.1.1.2.2.2.1,()),()),())
def yww:Code:=(zdI yaD 64 116).getD .skip
theorem yHm:zdI yaD 64 29=some (.block 0 (.loop yww)):=by kernel_rfl
theorem yJ2 (x:(ybT).X):zg7 ⟨yc2,91,yxN⟩ 0 yww 116 ybT yfH ygl x=ycj x:=by kernel_rfl
def yuO (x:(yfY).X):Nat:=(fun (u0:Int) (u1:List (List Int)) (u2:List dW) (u3:Bool) (u4:List Int)=>18446744073709551616) x.1.2.1.1 x.2.1.1.1 x.2.1.1.2.1 x.2.1.1.2.2.1 x.2.1.1.2.2.2.1
def yph (x:(yfY).X):Option ((yfH).X ⊕ (ygl).X):=zr ycj (yuO x) (yuw x)
def yvp:Seg:=⟨yfY,yfH,ygl,yph⟩
def yqS:Nat→Option Seg:=fun q=>bif Nat.beq q 29 then some yvp else yxN q
theorem yH6:FrOk Tryz.prog ⟨yc2,91,yqS⟩ yaD:=(yH5).loop (sg:=yvp) ybT yuw (by decide) yHm ycj yuO (by decide) (fun _=>rfl) (fun x r _ h=>h) yJ2
def ybU:Shape:=⟨[(1,false,[.ptr 0 0]),(3,false,[.int .i64]),(5,false,[.int .i64])],[(0,[.br tL,.br tW,.bool,.br tI])],[]⟩
def yfZ:Shape:=⟨[(1,false,[.ptr 0 0]),(3,false,[.int .i64]),(5,false,[.ci .i64 0])],[(0,[.br tL,.br tW,.bool,.br tI])],[]⟩
def yfI:Shape:=⟨[(1,false,[.ptr 0 0]),(3,false,[.int .i64])],[(0,[.br tL,.br tW,.bool,.br tI])],[]⟩
def ygm:Shape:=⟨[(2,false,[.bool])],[],[]⟩
abbrev yoh (v0:Int) (v1:Int) (v2:dM):(ybU).X:=((((),()),(v0,()),(v1,()),()),((v2.1,v2.2.1,v2.2.2.1,v2.2.2.2,()),()),())
abbrev yFE (v0:Int) (v1:dM):(yfZ).X:=((((),()),(v0,()),((),()),()),((v1.1,v1.2.1,v1.2.2.1,v1.2.2.2,()),()),())
abbrev yFt (v0:Int) (v1:dM):(yfI).X:=((((),()),(v0,()),()),((v1.1,v1.2.1,v1.2.2.1,v1.2.2.2,()),()),())
abbrev yFT (v0:Bool):(ygm).X:=(((v0,()),()),(),())
def yoB (v0:Int) (v1:Int) (v2:List (List Int)) (v3:List dW) (v4:Bool) (v5:List Int):Option ((ybU).X ⊕ ((yfI).X ⊕ (ygm).X)) :=
  bif (ltb v1 (v3.length:Int)) then
    bif (inb v1 v3.length) then
      let r6:=yb ((nth v3 v1 (0,[])).1) 0 (IntKind.i64.wrap (v0 - 1))
      bif (!(!r6)) then
        bif (inb v1 v3.length) then
          let r7:=yeY ((nth v3 v1 (0,[])).2)
          bif (!r7) then
            some (.inr (.inr (((false,()),()),(),())))
          else
            some (.inl ((((),()),(v0,()),((IntKind.i64.wrap (v1+1)),()),()),((v2,v3,v4,v5,()),()),()))
        else none
      else
        some (.inr (.inr (((false,()),()),(),())))
    else none
  else
    some (.inr (.inl ((((),()),(v0,()),()),((v2,v3,v4,v5,()),()),())))
def yck (x:(ybU).X):=yoB x.1.2.1.1 x.1.2.2.1.1 x.2.1.1.1 x.2.1.1.2.1 x.2.1.1.2.2.1 x.2.1.1.2.2.2.1
def yux (x:(yfZ).X):(ybU).X:=((((),()),(x.1.2.1.1,()),(0,()),()),((x.2.1.1.1,x.2.1.1.2.1,x.2.1.1.2.2.1,x.2.1.1.2.2.2.1,()),()),())
def ywx:Code:=(zdI yaD 64 244).getD .skip
theorem yHn:zdI yaD 64 61=some (.block 2 (.loop ywx)):=by kernel_rfl
theorem yJ3 (x:(ybU).X):zg7 ⟨yc2,91,yqS⟩ 2 ywx 244 ybU yfI ygm x=yck x:=by kernel_rfl
def yuP (x:(yfZ).X):Nat:=(fun (u0:Int) (u1:List (List Int)) (u2:List dW) (u3:Bool) (u4:List Int)=>18446744073709551616) x.1.2.1.1 x.2.1.1.1 x.2.1.1.2.1 x.2.1.1.2.2.1 x.2.1.1.2.2.2.1
def ypi (x:(yfZ).X):Option ((yfI).X ⊕ (ygm).X):=zr yck (yuP x) (yux x)
def yvq:Seg:=⟨yfZ,yfI,ygm,ypi⟩
def yqT:Nat→Option Seg:=fun q=>bif Nat.beq q 61 then some yvq else yqS q
theorem yH7:FrOk Tryz.prog ⟨yc2,91,yqT⟩ yaD:=(yH6).loop (sg:=yvq) ybU yux (by decide) yHn yck yuP (by decide) (fun _=>rfl) (fun x r _ h=>h) yJ3
def ybb:Shape:=⟨[(1,false,[.ptr 0 0]),(3,false,[.int .i64]),(6,false,[.int .i64])],[(0,[.br tL,.br tW,.bool,.br tI])],[]⟩
def yeH:Shape:=⟨[(1,false,[.ptr 0 0]),(3,false,[.int .i64]),(6,false,[.ci .i64 0])],[(0,[.br tL,.br tW,.bool,.br tI])],[]⟩
def yeu:Shape:=⟨[(1,false,[.ptr 0 0]),(3,false,[.int .i64])],[(0,[.br tL,.br tW,.bool,.br tI])],[]⟩
def yeQ:Shape:=⟨[(2,false,[.bool])],[],[]⟩
abbrev ymt (v0:Int) (v1:Int) (v2:dM):(ybb).X:=((((),()),(v0,()),(v1,()),()),((v2.1,v2.2.1,v2.2.2.1,v2.2.2.2,()),()),())
abbrev yDl (v0:Int) (v1:dM):(yeH).X:=((((),()),(v0,()),((),()),()),((v1.1,v1.2.1,v1.2.2.1,v1.2.2.2,()),()),())
abbrev yDc (v0:Int) (v1:dM):(yeu).X:=((((),()),(v0,()),()),((v1.1,v1.2.1,v1.2.2.1,v1.2.2.2,()),()),())
abbrev yDt (v0:Bool):(yeQ).X:=(((v0,()),()),(),())
def ymH (v0:Int) (v1:Int) (v2:List (List Int)) (v3:List dW) (v4:Bool) (v5:List Int):Option ((ybb).X ⊕ ((yeu).X ⊕ (yeQ).X)) :=
  bif (ltb v1 (v5.length:Int)) then
    bif (inb v1 v5.length) then
      let r10:=yb (nth v5 v1 0) 0 (IntKind.i64.wrap (v0 - 1))
      bif (!(!r10)) then
        bif (ltb 0 v1) then
          bif (inb (IntKind.i64.wrap (v1 - 1)) v5.length) then
            bif (inb v1 v5.length) then
              bif (leb (nth v5 v1 0) (nth v5 (IntKind.i64.wrap (v1 - 1)) 0)) then
                some (.inr (.inr (((false,()),()),(),())))
              else
                some (.inl ((((),()),(v0,()),((IntKind.i64.wrap (v1+1)),()),()),((v2,v3,v4,v5,()),()),()))
            else none
          else none
        else
          some (.inl ((((),()),(v0,()),((IntKind.i64.wrap (v1+1)),()),()),((v2,v3,v4,v5,()),()),()))
      else
        some (.inr (.inr (((false,()),()),(),())))
    else none
  else
    some (.inr (.inl ((((),()),(v0,()),()),((v2,v3,v4,v5,()),()),())))
def ybF (x:(ybb).X):=ymH x.1.2.1.1 x.1.2.2.1.1 x.2.1.1.1 x.2.1.1.2.1 x.2.1.1.2.2.1 x.2.1.1.2.2.2.1
def ysT (x:(yeH).X):(ybb).X:=((((),()),(x.1.2.1.1,()),(0,()),()),((x.2.1.1.1,x.2.1.1.2.1,x.2.1.1.2.2.1,x.2.1.1.2.2.2.1,()),()),())
def yt6:Code:=(zdI yaD 64 500).getD .skip
theorem yEh:zdI yaD 64 125=some (.block 4 (.loop yt6)):=by kernel_rfl
theorem yGE (x:(ybb).X):zg7 ⟨yc2,91,yqT⟩ 4 yt6 500 ybb yeu yeQ x=ybF x:=by kernel_rfl
def ys6 (x:(yeH).X):Nat:=(fun (u0:Int) (u1:List (List Int)) (u2:List dW) (u3:Bool) (u4:List Int)=>18446744073709551616) x.1.2.1.1 x.2.1.1.1 x.2.1.1.2.1 x.2.1.1.2.2.1 x.2.1.1.2.2.2.1
def ynY (x:(yeH).X):Option ((yeu).X ⊕ (yeQ).X):=zr ybF (ys6 x) (ysT x)
def yto:Seg:=⟨yeH,yeu,yeQ,ynY⟩
def yxO:Nat→Option Seg:=fun q=>bif Nat.beq q 125 then some yto else yqT q
theorem yH8:FrOk Tryz.prog ⟨yc2,91,yxO⟩ yaD:=(yH7).loop (sg:=yto) ybb ysT (by decide) yEh ybF ys6 (by decide) (fun _=>rfl) (fun x r _ h=>h) yGE
abbrev yhl:List Par:= [.rd tM]
abbrev ypC:List OT:= [⟨false,tB,.fz⟩]
def ylZ (a0:dM):Option (ResD ypC×MutD yhl) :=
  zjw (yph ((((),()),((a0.1.length:Int),()),((),()),()),((a0.1,a0.2.1,a0.2.2.1,a0.2.2.2,()),()),())) (fun y2 =>
    zjw (ypi ((((),()),(y2.1.2.1.1,()),((),()),()),((y2.2.1.1.1,y2.2.1.1.2.1,y2.2.1.1.2.2.1,y2.2.1.1.2.2.2.1,()),()),())) (fun y7 =>
      zjw (ynY ((((),()),(y7.1.2.1.1,()),((),()),()),((y7.2.1.1.1,y7.2.1.1.2.1,y7.2.1.1.2.2.1,y7.2.1.1.2.2.2.1,()),()),())) (fun y10 =>
        let r12:=yb y10.1.2.1.1 1 20
        bif r12 then
          some (((leb (y10.2.1.1.2.1.length:Int) 60),()),())
        else
          some ((false,()),())) (fun y10 =>
        some ((y10.1.1.1,()),()))) (fun y7 =>
      some ((y7.1.1.1,()),()))) (fun y2 =>
    some ((y2.1.1.1,()),()))
theorem yOv (x:InD yhl):zjH ⟨yc2,91,yxO⟩ Tryz.f214.results.toList yaD yhl ypC x=ylZ x.1:=by kernel_rfl
theorem yLC:ConOk Tryz.prog 214 ⟨yhl,ypC,fun x=>ylZ x.1⟩:=zkh (yH8) Tryz.func214 (by kernel_rfl) (by kernel_rfl) Tryz.ntmps214.symm (by decide) (fun x r h=>(yOv x).trans h)
def y5 (a0:dM):Bool:=yz a0
theorem yNE (a0:dM) (hk:zi9 yhl (a0,())):ylZ a0=(fun n=>some ((n,()),())) (y5 a0):=by
  have hb1:a0.1.length * 24≤2 ^ 47:=hk.1.1.1
  have hb2:a0.2.1.length * 32≤2 ^ 47:=hk.1.2.1.1
  have hb3:a0.2.2.2.length * 8≤2 ^ 47:=hk.1.2.2.2.1
  have h1:yph (yFD a0.1.length a0)=some (bif a0.1.all yR then .inl (yFs a0.1.length a0) else .inr (yFS false)) :=
    zjS (step:=ycj) a0.1 [] (fun i=>yog a0.1.length i a0) yR _ _ (fun i hi=>by
      simp only [ycj,yog,yoA,zjI (show (i:Int) < a0.1.length by omega),cond_true,wr (show -9223372036854775808≤(i:Int)+1 by omega) (by omega),Int.natCast_add,Int.natCast_one,Int.toNat_natCast,zkO hi,zjW,yxs]
      cases yR (a0.1.getD i [])<;>rfl) (by simp only [ycj,yog,yoA,zkm (Int.le_refl _),cond_false]) _ (by show _ < 18446744073709551616; omega)
  have h2:ypi (yFE a0.1.length a0)=some (bif a0.2.1.all (yqB a0.1.length) then .inl (yFt a0.1.length a0) else .inr (yFT false)) :=
    zjS (step:=yck) a0.2.1 (0,[]) (fun i=>yoh a0.1.length i a0) (yqB a0.1.length) _ _ (fun i hi=>by
      simp only [yck,yoh,yoB,zjI (show (i:Int) < a0.2.1.length by omega),cond_true,wr (show -9223372036854775808≤(i:Int)+1 by omega) (by omega),Int.natCast_add,Int.natCast_one,Int.toNat_natCast,zkO hi,zjW,yxs,ymW (show a0.1.length≤1152921504606846976 by omega),yqB]
      cases inb (a0.2.1.getD i (0,[])).1 a0.1.length<;>cases yR (a0.2.1.getD i (0,[])).2<;>rfl) (by simp only [yck,yoh,yoB,zkm (Int.le_refl _),cond_false]) _ (by show _ < 18446744073709551616; omega)
  have h3:ynY (yDl a0.1.length a0)=some (bif (List.range a0.2.2.2.length).any (ywn a0.1.length a0.2.2.2) then .inr (yDt false) else .inl (yDc a0.1.length a0)) :=
    zf4 (step:=ybF) (fun i=>ymt a0.1.length i a0) a0.2.2.2.length (ywn a0.1.length a0.2.2.2) _ _ (fun i hi=>by
      simp only [ybF,ymt,ymH,zjI (show (i:Int) < a0.2.2.2.length by omega),cond_true,wr (show -9223372036854775808≤(i:Int)+1 by omega) (by omega),Int.natCast_add,Int.natCast_one,Int.toNat_natCast,zkO hi,zjW,ymW (show a0.1.length≤1152921504606846976 by omega),ywn]
      rcases Nat.eq_zero_or_pos i with rfl | h0
      · cases inb (a0.2.2.2.getD 0 0) a0.1.length<;>rfl
      · rw [show IntKind.i64.wrap ((i:Int) - 1)=((i - 1:Nat):Int) by rw [wr (by omega) (by omega)]; omega,zkO (show i - 1 < a0.2.2.2.length by omega),zjW,zjI (show (0:Int) < i by omega),decide_eq_true h0]
        cases inb (a0.2.2.2.getD i 0) a0.1.length<;>cases leb (a0.2.2.2.getD i 0) (a0.2.2.2.getD (i - 1) 0)<;>rfl) (by simp only [ybF,ymt,ymH,zkm (Int.le_refl _),cond_false]) _ (by show _ < 18446744073709551616; omega)
  unfold ylZ y5 yz
  rw [h1]
  cases a0.1.all yR
  · rfl
  simp only [cond_true,zkJ,h2]
  cases a0.2.1.all (yqB a0.1.length)
  · rfl
  simp only [cond_true,zkJ,h3,yMs,yaL]
  cases ylI a0.1.length a0.2.2.2
  · rfl
  simp only [Bool.not_true,cond_false,zkJ]
  cases leb 1 (a0.1.length:Int)<;>cases leb (a0.1.length:Int) 20<;>rfl
def yd5:Con:=⟨yhl,ypC,fun x=>(fun n=>some ((n,()),())) (y5 x.1)⟩
theorem yjr:ConOk Tryz.prog 214 yd5:=(yLC).mono (fun x r hk h=>(yNE x.1 hk).trans h)
end
section
def yiL:Code:=(Tryz.f188.body).getD .skip
def yna:Env:=zki TT [(191,yj6),(214,yd5)] []
theorem yFb:FrOk Tryz.prog ⟨yna,51,fun _=>none⟩ yiL:=zkp ye yf ⟨yq8,yjr,trivial⟩
def yv6:Nat→Option Seg:=fun _=>none
def ybh:Shape:=⟨[(1,false,[.ptr 0 0]),(3,false,[.int .i64])],[(0,[.int .i64,.int .i64,.int .i64,.br tM,.int .i64,.int .i64,.int .i64,.int .i64,.int .i64,.br tW,.int .i64,.bool,.bool])],[]⟩
def yeN:Shape:=⟨[(1,false,[.ptr 0 0]),(3,false,[.ci .i64 0])],[(0,[.int .i64,.int .i64,.int .i64,.br tM,.int .i64,.int .i64,.int .i64,.int .i64,.int .i64,.br tW,.int .i64,.bool,.bool])],[]⟩
def yeA:Shape:=⟨[(1,false,[.ptr 0 0])],[(0,[.int .i64,.int .i64,.int .i64,.br tM,.int .i64,.int .i64,.int .i64,.int .i64,.int .i64,.br tW,.int .i64,.bool,.bool])],[]⟩
def yeR:Shape:=⟨[(2,false,[.bool])],[],[]⟩
abbrev ymx (v0:Int) (v1:dA):(ybh).X:=((((),()),(v0,()),()),((v1.1,v1.2.1.1,v1.2.1.2,v1.2.2.1,v1.2.2.2.1,v1.2.2.2.2.1,v1.2.2.2.2.2.1,v1.2.2.2.2.2.2.1,v1.2.2.2.2.2.2.2.1,v1.2.2.2.2.2.2.2.2.1,v1.2.2.2.2.2.2.2.2.2.1,v1.2.2.2.2.2.2.2.2.2.2.1,v1.2.2.2.2.2.2.2.2.2.2.2,()),()),())
abbrev yDq (v0:dA):(yeN).X:=((((),()),((),()),()),((v0.1,v0.2.1.1,v0.2.1.2,v0.2.2.1,v0.2.2.2.1,v0.2.2.2.2.1,v0.2.2.2.2.2.1,v0.2.2.2.2.2.2.1,v0.2.2.2.2.2.2.2.1,v0.2.2.2.2.2.2.2.2.1,v0.2.2.2.2.2.2.2.2.2.1,v0.2.2.2.2.2.2.2.2.2.2.1,v0.2.2.2.2.2.2.2.2.2.2.2,()),()),())
abbrev yDf (v0:dA):(yeA).X:=((((),()),()),((v0.1,v0.2.1.1,v0.2.1.2,v0.2.2.1,v0.2.2.2.1,v0.2.2.2.2.1,v0.2.2.2.2.2.1,v0.2.2.2.2.2.2.1,v0.2.2.2.2.2.2.2.1,v0.2.2.2.2.2.2.2.2.1,v0.2.2.2.2.2.2.2.2.2.1,v0.2.2.2.2.2.2.2.2.2.2.1,v0.2.2.2.2.2.2.2.2.2.2.2,()),()),())
abbrev yDu (v0:Bool):(yeR).X:=(((v0,()),()),(),())
def ymM (v0:Int) (v1:Int) (v2:Int) (v3:Int) (v4:List dM) (v5:Int) (v6:Int) (v7:Int) (v8:Int) (v9:Int) (v10:List dW) (v11:Int) (v12:Bool) (v13:Bool):Option ((ybh).X ⊕ ((yeA).X ⊕ (yeR).X)) :=
  bif (ltb v0 (v4.length:Int)) then
    bif (inb v0 v4.length) then
      let r3:=y5 ((nth v4 v0 ([],[],false,[])).1,((nth v4 v0 ([],[],false,[])).2).1,(((nth v4 v0 ([],[],false,[])).2).2))
      bif (!(!r3)) then
        let r4:=ya4 (v2,v3)
        bif (!((((nth v4 v0 ([],[],false,[])).1).length:Int) !=r4)) then
          bif (((nth v4 v0 ([],[],false,[])).2).2).1 then
            bif (v0 !=v5) then
              bif (!v13) then
                some (.inr (.inr (((false,()),()),(),())))
              else
                some (.inl ((((),()),((IntKind.i64.wrap (v0+1)),()),()),((v1,v2,v3,v4,v5,v6,v7,v8,v9,v10,v11,v12,v13,()),()),()))
            else
              some (.inl ((((),()),((IntKind.i64.wrap (v0+1)),()),()),((v1,v2,v3,v4,v5,v6,v7,v8,v9,v10,v11,v12,v13,()),()),()))
          else
            some (.inl ((((),()),((IntKind.i64.wrap (v0+1)),()),()),((v1,v2,v3,v4,v5,v6,v7,v8,v9,v10,v11,v12,v13,()),()),()))
        else
          some (.inr (.inr (((false,()),()),(),())))
      else
        some (.inr (.inr (((false,()),()),(),())))
    else none
  else
    some (.inr (.inl ((((),()),()),((v1,v2,v3,v4,v5,v6,v7,v8,v9,v10,v11,v12,v13,()),()),())))
def ybJ (x:(ybh).X):=ymM x.1.2.1.1 x.2.1.1.1 x.2.1.1.2.1 x.2.1.1.2.2.1 x.2.1.1.2.2.2.1 x.2.1.1.2.2.2.2.1 x.2.1.1.2.2.2.2.2.1 x.2.1.1.2.2.2.2.2.2.1 x.2.1.1.2.2.2.2.2.2.2.1 x.2.1.1.2.2.2.2.2.2.2.2.1 x.2.1.1.2.2.2.2.2.2.2.2.2.1 x.2.1.1.2.2.2.2.2.2.2.2.2.2.1 x.2.1.1.2.2.2.2.2.2.2.2.2.2.2.1 x.2.1.1.2.2.2.2.2.2.2.2.2.2.2.2.1
def ysZ (x:(yeN).X):(ybh).X:=((((),()),(0,()),()),((x.2.1.1.1,x.2.1.1.2.1,x.2.1.1.2.2.1,x.2.1.1.2.2.2.1,x.2.1.1.2.2.2.2.1,x.2.1.1.2.2.2.2.2.1,x.2.1.1.2.2.2.2.2.2.1,x.2.1.1.2.2.2.2.2.2.2.1,x.2.1.1.2.2.2.2.2.2.2.2.1,x.2.1.1.2.2.2.2.2.2.2.2.2.1,x.2.1.1.2.2.2.2.2.2.2.2.2.2.1,x.2.1.1.2.2.2.2.2.2.2.2.2.2.2.1,x.2.1.1.2.2.2.2.2.2.2.2.2.2.2.2.1,()),()),())
def yuc:Code:=(zdI yiL 64 52).getD .skip
theorem yEn:zdI yiL 64 13=some (.block 0 (.loop yuc)):=by kernel_rfl
theorem yGK (x:(ybh).X):zg7 ⟨yna,51,yv6⟩ 0 yuc 52 ybh yeA yeR x=ybJ x:=by kernel_rfl
def ytc (x:(yeN).X):Nat:=(fun (u0:Int) (u1:Int) (u2:Int) (u3:List dM) (u4:Int) (u5:Int) (u6:Int) (u7:Int) (u8:Int) (u9:List dW) (u10:Int) (u11:Bool) (u12:Bool)=>18446744073709551616) x.2.1.1.1 x.2.1.1.2.1 x.2.1.1.2.2.1 x.2.1.1.2.2.2.1 x.2.1.1.2.2.2.2.1 x.2.1.1.2.2.2.2.2.1 x.2.1.1.2.2.2.2.2.2.1 x.2.1.1.2.2.2.2.2.2.2.1 x.2.1.1.2.2.2.2.2.2.2.2.1 x.2.1.1.2.2.2.2.2.2.2.2.2.1 x.2.1.1.2.2.2.2.2.2.2.2.2.2.1 x.2.1.1.2.2.2.2.2.2.2.2.2.2.2.1 x.2.1.1.2.2.2.2.2.2.2.2.2.2.2.2.1
def yn3 (x:(yeN).X):Option ((yeA).X ⊕ (yeR).X):=zr ybJ (ytc x) (ysZ x)
def ytu:Seg:=⟨yeN,yeA,yeR,yn3⟩
def yv7:Nat→Option Seg:=fun q=>bif Nat.beq q 13 then some ytu else yv6 q
theorem yFc:FrOk Tryz.prog ⟨yna,51,yv7⟩ yiL:=(yFb).loop (sg:=ytu) ybh ysZ (by decide) yEn ybJ ytc (by decide) (fun _=>rfl) (fun x r _ h=>h) yGK
abbrev ydv:List Par:= [.rd tA]
abbrev yi9:List OT:= [⟨false,tB,.fz⟩]
def ykr (a0:dA):Option (ResD yi9×MutD ydv) :=
  zjw (yn3 ((((),()),((),()),()),((a0.1,a0.2.1.1,a0.2.1.2,a0.2.2.1,a0.2.2.2.1,a0.2.2.2.2.1,a0.2.2.2.2.2.1,a0.2.2.2.2.2.2.1,a0.2.2.2.2.2.2.2.1,a0.2.2.2.2.2.2.2.2.1,a0.2.2.2.2.2.2.2.2.2.1,a0.2.2.2.2.2.2.2.2.2.2.1,a0.2.2.2.2.2.2.2.2.2.2.2,()),()),())) (fun y4 =>
    some ((((y4.2.1.1.2.2.2.1.length:Int)==y4.2.1.1.2.1),()),())) (fun y4 =>
    some ((y4.1.1.1,()),()))
theorem yNm (x:InD ydv):zjH ⟨yna,51,yv7⟩ Tryz.f188.results.toList yiL ydv yi9 x=ykr x.1:=by kernel_rfl
theorem yJy:ConOk Tryz.prog 188 ⟨ydv,yi9,fun x=>ykr x.1⟩:=zkh (yFc) Tryz.func188 (by kernel_rfl) (by kernel_rfl) Tryz.ntmps188.symm (by decide) (fun x r h=>(yNm x).trans h)
def yjo (a0:dA):Bool:=yjc a0
def yso (a0:dA):Bool:=yd a0.2.1
theorem yLm (a0:dA) (hk:zi9 ydv (a0,())) (hq:yso a0=true):ykr a0=(fun n=>some ((n,()),())) (yjo a0):=by
  have hb:a0.2.2.1.length * 80≤2 ^ 47:=hk.1.2.2.1.1
  have hg:=yn.1 hq
  have h1:yn3 (yDq a0)=some (bif (List.range a0.2.2.1.length).any (yeT a0) then .inr (yDu false) else .inl (yDf a0)) :=
    zf4 (step:=ybJ) (fun i=>ymx i a0) a0.2.2.1.length (yeT a0) _ _ (fun i hi=>by
      simp only [ybJ,ymx,ymM,zjI (show (i:Int) < a0.2.2.1.length by omega),cond_true,wr (show -9223372036854775808≤(i:Int)+1 by omega) (by omega),Int.natCast_add,Int.natCast_one,Int.toNat_natCast,zkO hi,zkV,y5,yeT,ya4,wr (show -9223372036854775808≤6+a0.2.1.2 by omega) (by omega),yg]
      cases yz (nth a0.2.2.1 i ([],[],false,[]))<;>cases (((nth a0.2.2.1 i ([],[],false,[])).1.length:Int) !=6+a0.2.1.2)<;>cases (nth a0.2.2.1 i ([],[],false,[])).2.2.1<;>cases ((i:Int) !=a0.2.2.2.1)<;>cases a0.2.2.2.2.2.2.2.2.2.2.2<;>rfl) (by simp only [ybJ,ymx,ymM,zkm (Int.le_refl _),cond_false]) _ (by show _ < 18446744073709551616; omega)
  unfold ykr yjo yjc
  rw [h1]
  cases (List.range a0.2.2.1.length).any (yeT a0)<;>rfl
def ynP (a0:dA):Option (ResD yi9×MutD ydv):=bif yso a0 then (fun n=>some ((n,()),())) (yjo a0) else none
theorem yMl (a0:dA) (h:yso a0=true):ynP a0=(fun n=>some ((n,()),())) (yjo a0):=by unfold ynP; rw [h]; rfl
def yw1:Con:=⟨ydv,yi9,fun x=>ynP x.1⟩
theorem yMh:ConOk Tryz.prog 188 yw1:=(yJy).mono (fun x r hk h=>zkW h (fun hq=>yLm x.1 hk hq))
end
section
def yg9:Code:=(Tryz.f189.body).getD .skip
def ylw:Env:=zki TT [(115,yq),(245,yeS)] []
theorem yC1:FrOk Tryz.prog ⟨ylw,57,fun _=>none⟩ yg9:=zkp ye yf ⟨yu,ykc,trivial⟩
def ytP:Nat→Option Seg:=fun _=>none
def yaS:Shape:=⟨[(1,false,[.ptr 0 0]),(3,false,[.int .i64])],[(0,[.int .i64,.int .i64,.int .i64,.br tM,.int .i64,.int .i64,.int .i64,.int .i64,.int .i64,.br tW,.int .i64,.bool,.bool])],[]⟩
def ydJ:Shape:=⟨[(1,false,[.ptr 0 0]),(3,false,[.ci .i64 0])],[(0,[.int .i64,.int .i64,.int .i64,.br tM,.int .i64,.int .i64,.int .i64,.int .i64,.int .i64,.br tW,.int .i64,.bool,.bool])],[]⟩
def ydD:Shape:=⟨[],[],[]⟩
def ydM:Shape:=⟨[(2,false,[.bool])],[],[]⟩
abbrev yk9 (v0:Int) (v1:dA):(yaS).X:=((((),()),(v0,()),()),((v1.1,v1.2.1.1,v1.2.1.2,v1.2.2.1,v1.2.2.2.1,v1.2.2.2.2.1,v1.2.2.2.2.2.1,v1.2.2.2.2.2.2.1,v1.2.2.2.2.2.2.2.1,v1.2.2.2.2.2.2.2.2.1,v1.2.2.2.2.2.2.2.2.2.1,v1.2.2.2.2.2.2.2.2.2.2.1,v1.2.2.2.2.2.2.2.2.2.2.2,()),()),())
abbrev yB1 (v0:dA):(ydJ).X:=((((),()),((),()),()),((v0.1,v0.2.1.1,v0.2.1.2,v0.2.2.1,v0.2.2.2.1,v0.2.2.2.2.1,v0.2.2.2.2.2.1,v0.2.2.2.2.2.2.1,v0.2.2.2.2.2.2.2.1,v0.2.2.2.2.2.2.2.2.1,v0.2.2.2.2.2.2.2.2.2.1,v0.2.2.2.2.2.2.2.2.2.2.1,v0.2.2.2.2.2.2.2.2.2.2.2,()),()),())
abbrev yBV  :(ydD).X:=((),(),())
abbrev yB4 (v0:Bool):(ydM).X:=(((v0,()),()),(),())
def ylo (v0:Int) (v1:Int) (v2:Int) (v3:Int) (v4:List dM) (v5:Int) (v6:Int) (v7:Int) (v8:Int) (v9:Int) (v10:List dW) (v11:Int) (v12:Bool) (v13:Bool):Option ((yaS).X ⊕ ((ydD).X ⊕ (ydM).X)) :=
  bif (ltb v0 (v10.length:Int)) then
    bif (inb v0 v10.length) then
      let r3:=yb ((nth v10 v0 (0,[])).1) 0 (IntKind.i64.wrap (v3 - 1))
      bif (!(!r3)) then
        bif (!((((nth v10 v0 (0,[])).2).length:Int) !=(IntKind.i64.wrap (v2 - 1)))) then
          let r4:=yJ ((nth v10 v0 (0,[])).2)
          bif (!(!r4)) then
            bif (ltb 0 v0) then
              bif (inb (IntKind.i64.wrap (v0 - 1)) v10.length) then
                bif (leb ((nth v10 v0 (0,[])).1) ((nth v10 (IntKind.i64.wrap (v0 - 1)) (0,[])).1)) then
                  some (.inr (.inr (((false,()),()),(),())))
                else
                  some (.inl ((((),()),((IntKind.i64.wrap (v0+1)),()),()),((v1,v2,v3,v4,v5,v6,v7,v8,v9,v10,v11,v12,v13,()),()),()))
              else none
            else
              some (.inl ((((),()),((IntKind.i64.wrap (v0+1)),()),()),((v1,v2,v3,v4,v5,v6,v7,v8,v9,v10,v11,v12,v13,()),()),()))
          else
            some (.inr (.inr (((false,()),()),(),())))
        else
          some (.inr (.inr (((false,()),()),(),())))
      else
        some (.inr (.inr (((false,()),()),(),())))
    else none
  else
    some (.inr (.inl ((),(),())))
def ya1 (x:(yaS).X):=ylo x.1.2.1.1 x.2.1.1.1 x.2.1.1.2.1 x.2.1.1.2.2.1 x.2.1.1.2.2.2.1 x.2.1.1.2.2.2.2.1 x.2.1.1.2.2.2.2.2.1 x.2.1.1.2.2.2.2.2.2.1 x.2.1.1.2.2.2.2.2.2.2.1 x.2.1.1.2.2.2.2.2.2.2.2.1 x.2.1.1.2.2.2.2.2.2.2.2.2.1 x.2.1.1.2.2.2.2.2.2.2.2.2.2.1 x.2.1.1.2.2.2.2.2.2.2.2.2.2.2.1 x.2.1.1.2.2.2.2.2.2.2.2.2.2.2.2.1
def yrR (x:(ydJ).X):(yaS).X:=((((),()),(0,()),()),((x.2.1.1.1,x.2.1.1.2.1,x.2.1.1.2.2.1,x.2.1.1.2.2.2.1,x.2.1.1.2.2.2.2.1,x.2.1.1.2.2.2.2.2.1,x.2.1.1.2.2.2.2.2.2.1,x.2.1.1.2.2.2.2.2.2.2.1,x.2.1.1.2.2.2.2.2.2.2.2.1,x.2.1.1.2.2.2.2.2.2.2.2.2.1,x.2.1.1.2.2.2.2.2.2.2.2.2.2.1,x.2.1.1.2.2.2.2.2.2.2.2.2.2.2.1,x.2.1.1.2.2.2.2.2.2.2.2.2.2.2.2.1,()),()),())
def ysG:Code:=(zdI yg9 64 52).getD .skip
theorem yCH:zdI yg9 64 13=some (.block 0 (.loop ysG)):=by kernel_rfl
theorem yDR (x:(yaS).X):zg7 ⟨ylw,57,ytP⟩ 0 ysG 52 yaS ydD ydM x=ya1 x:=by kernel_rfl
def yr1 (x:(ydJ).X):Nat:=(fun (u0:Int) (u1:Int) (u2:Int) (u3:List dM) (u4:Int) (u5:Int) (u6:Int) (u7:Int) (u8:Int) (u9:List dW) (u10:Int) (u11:Bool) (u12:Bool)=>18446744073709551616) x.2.1.1.1 x.2.1.1.2.1 x.2.1.1.2.2.1 x.2.1.1.2.2.2.1 x.2.1.1.2.2.2.2.1 x.2.1.1.2.2.2.2.2.1 x.2.1.1.2.2.2.2.2.2.1 x.2.1.1.2.2.2.2.2.2.2.1 x.2.1.1.2.2.2.2.2.2.2.2.1 x.2.1.1.2.2.2.2.2.2.2.2.2.1 x.2.1.1.2.2.2.2.2.2.2.2.2.2.1 x.2.1.1.2.2.2.2.2.2.2.2.2.2.2.1 x.2.1.1.2.2.2.2.2.2.2.2.2.2.2.2.1
def ymh (x:(ydJ).X):Option ((ydD).X ⊕ (ydM).X):=zr ya1 (yr1 x) (yrR x)
def ysg:Seg:=⟨ydJ,ydD,ydM,ymh⟩
def ytQ:Nat→Option Seg:=fun q=>bif Nat.beq q 13 then some ysg else ytP q
theorem yC2:FrOk Tryz.prog ⟨ylw,57,ytQ⟩ yg9:=(yC1).loop (sg:=ysg) yaS yrR (by decide) yCH ya1 yr1 (by decide) (fun _=>rfl) (fun x r _ h=>h) yDR
abbrev ycO:List Par:= [.rd tA]
abbrev yhC:List OT:= [⟨false,tB,.fz⟩]
def yiw (a0:dA):Option (ResD yhC×MutD ycO) :=
  zjw (ymh ((((),()),((),()),()),((a0.1,a0.2.1.1,a0.2.1.2,a0.2.2.1,a0.2.2.2.1,a0.2.2.2.2.1,a0.2.2.2.2.2.1,a0.2.2.2.2.2.2.1,a0.2.2.2.2.2.2.2.1,a0.2.2.2.2.2.2.2.2.1,a0.2.2.2.2.2.2.2.2.2.1,a0.2.2.2.2.2.2.2.2.2.2.1,a0.2.2.2.2.2.2.2.2.2.2.2,()),()),())) (fun y4 =>
    some ((true,()),())) (fun y4 =>
    some ((y4.1.1.1,()),()))
theorem yKL (x:InD ycO):zjH ⟨ylw,57,ytQ⟩ Tryz.f189.results.toList yg9 ycO yhC x=yiw x.1:=by kernel_rfl
theorem yGm:ConOk Tryz.prog 189 ⟨ycO,yhC,fun x=>yiw x.1⟩:=zkh (yC2) Tryz.func189 (by kernel_rfl) (by kernel_rfl) Tryz.ntmps189.symm (by decide) (fun x r h=>(yKL x).trans h)
def yhU (a0:dA):Bool:=yay a0.2.1 a0.2.2.2.2.2.2.2.2.1
def yrg (a0:dA):Bool:=yd a0.2.1
theorem ysr (l:List Int):yJ l=l.all isW:=by
  unfold yJ
  rw [show yW=isW from funext fun x=>by unfold yW; rw [yaL]; rfl]
theorem yIZ (a0:dA) (hk:zi9 ycO (a0,())) (hq:yrg a0=true):yiw a0=(fun n=>some ((n,()),())) (yhU a0):=by
  have hb:a0.2.2.2.2.2.2.2.2.1.length * 32≤2 ^ 47:=hk.1.2.2.2.2.2.2.2.2.1.1
  have hg:=yn.1 hq
  have h1:ymh (yB1 a0)=some (bif (List.range a0.2.2.2.2.2.2.2.2.1.length).any (yfo a0.2.1 a0.2.2.2.2.2.2.2.2.1) then .inr (yB4 false) else .inl yBV) :=
    zf4 (step:=ya1) (fun i=>yk9 i a0) a0.2.2.2.2.2.2.2.2.1.length (yfo a0.2.1 a0.2.2.2.2.2.2.2.2.1) _ _ (fun i hi=>by
      simp only [ya1,yk9,ylo,zjI (show (i:Int) < a0.2.2.2.2.2.2.2.2.1.length by omega),cond_true,wr (show -9223372036854775808≤(i:Int)+1 by omega) (by omega),Int.natCast_add,Int.natCast_one,Int.toNat_natCast,zkO hi,yaL,ysr,wr (show -9223372036854775808≤a0.2.1.2 - 1 by omega) (by omega),wr (show -9223372036854775808≤a0.2.1.1 - 1 by omega) (by omega),yfo]
      rcases Nat.eq_zero_or_pos i with rfl | h0
      · cases (leb 0 (nth a0.2.2.2.2.2.2.2.2.1 ((0:Nat):Int) (0,[])).1&&leb (nth a0.2.2.2.2.2.2.2.2.1 ((0:Nat):Int) (0,[])).1 (a0.2.1.2 - 1))<;>cases (((nth a0.2.2.2.2.2.2.2.2.1 ((0:Nat):Int) (0,[])).2.length:Int) !=a0.2.1.1 - 1)<;>cases ((nth a0.2.2.2.2.2.2.2.2.1 ((0:Nat):Int) (0,[])).2.all isW)<;>rfl
      · rw [show IntKind.i64.wrap ((i:Int) - 1)=((i - 1:Nat):Int) by rw [wr (by omega) (by omega)]; omega,zkO (show i - 1 < a0.2.2.2.2.2.2.2.2.1.length by omega),zjI (show (0:Int) < i by omega),decide_eq_true h0]
        cases (leb 0 (nth a0.2.2.2.2.2.2.2.2.1 (i:Int) (0,[])).1&&leb (nth a0.2.2.2.2.2.2.2.2.1 (i:Int) (0,[])).1 (a0.2.1.2 - 1))<;>cases (((nth a0.2.2.2.2.2.2.2.2.1 (i:Int) (0,[])).2.length:Int) !=a0.2.1.1 - 1)<;>cases ((nth a0.2.2.2.2.2.2.2.2.1 (i:Int) (0,[])).2.all isW)<;>cases leb (nth a0.2.2.2.2.2.2.2.2.1 (i:Int) (0,[])).1 (nth a0.2.2.2.2.2.2.2.2.1 ((i - 1:Nat):Int) (0,[])).1<;>rfl) (by simp only [ya1,yk9,ylo,zkm (Int.le_refl _),cond_false]) _ (by show _ < 18446744073709551616; omega)
  unfold yiw yhU yay
  rw [h1]
  cases (List.range a0.2.2.2.2.2.2.2.2.1.length).any (yfo a0.2.1 a0.2.2.2.2.2.2.2.2.1)<;>rfl
def ylQ (a0:dA):Option (ResD yhC×MutD ycO):=bif yrg a0 then (fun n=>some ((n,()),())) (yhU a0) else none
theorem yJT (a0:dA) (h:yrg a0=true):ylQ a0=(fun n=>some ((n,()),())) (yhU a0):=by unfold ylQ; rw [h]; rfl
def yun:Con:=⟨ycO,yhC,fun x=>ylQ x.1⟩
theorem yJO:ConOk Tryz.prog 189 yun:=(yGm).mono (fun x r hk h=>zkW h (fun hq=>yIZ x.1 hk hq))
end
section
def yAU:Code:=(Tryz.f83.body).getD .skip
def yBb:Env:=zki TT [(115,yq),(187,yd4),(188,yw1),(189,yun)] []
theorem yH3:FrOk Tryz.prog ⟨yBb,78,fun _=>none⟩ yAU:=zkp ye yf ⟨yu,yjq,yMh,yJO,trivial⟩
def yKk:Nat→Option Seg:=fun _=>none
abbrev yhj:List Par:= [.rd tA]
abbrev ypA:List OT:= [⟨false,tB,.fz⟩]
def ylY (a0:dA):Option (ResD ypA×MutD yhj) :=
  let r1:=yd a0.2.1
  bif (!(!r1)) then
    let r2:=yb a0.1 1 60000
    bif (!(!r2)) then
      bnd (ynP a0) fun r3 =>
      bif (!(!r3.1.1)) then
        bnd (ylQ a0) fun r4 =>
        bif (!r4.1.1) then
          some ((false,()),())
        else
          let r5:=yb a0.2.2.2.1 (-1) (IntKind.i64.wrap (a0.2.1.1 - 1))
          bif (!(!r5)) then
            let r6:=yb a0.2.2.2.2.1 0 a0.2.1.2
            bif (!(!r6)) then
              bif (a0.2.2.2.1==(-1)) then
                bif (a0.2.2.2.2.1 !=0) then
                  some ((false,()),())
                else
                  let r7:=yb a0.2.2.2.2.2.2.1 0 60000
                  bif r7 then
                    let r8:=yb a0.2.2.2.2.2.1 a0.2.2.2.2.2.2.1 60000
                    bif r8 then
                      bif (leb a0.2.2.2.2.2.1 (IntKind.i64.wrap (a0.2.2.2.2.2.2.1+4))) then
                        let r9:=yb a0.2.2.2.2.2.2.2.1 0 60000
                        bif r9 then
                          let r10:=yb a0.2.2.2.2.2.2.2.2.2.1 (-1) 1000
                          some ((r10,()),())
                        else
                          some ((false,()),())
                      else
                        some ((false,()),())
                    else
                      some ((false,()),())
                  else
                    some ((false,()),())
              else
                let r11:=yb a0.2.2.2.2.2.2.1 0 60000
                bif r11 then
                  let r12:=yb a0.2.2.2.2.2.1 a0.2.2.2.2.2.2.1 60000
                  bif r12 then
                    bif (leb a0.2.2.2.2.2.1 (IntKind.i64.wrap (a0.2.2.2.2.2.2.1+4))) then
                      let r13:=yb a0.2.2.2.2.2.2.2.1 0 60000
                      bif r13 then
                        let r14:=yb a0.2.2.2.2.2.2.2.2.2.1 (-1) 1000
                        some ((r14,()),())
                      else
                        some ((false,()),())
                    else
                      some ((false,()),())
                  else
                    some ((false,()),())
                else
                  some ((false,()),())
            else
              some ((false,()),())
          else
            some ((false,()),())
      else
        some ((false,()),())
    else
      some ((false,()),())
  else
    some ((false,()),())
theorem yOt (x:InD yhj):zjH ⟨yBb,78,yKk⟩ Tryz.f83.results.toList yAU yhj ypA x=ylY x.1:=by kernel_rfl
theorem yLA:ConOk Tryz.prog 83 ⟨yhj,ypA,fun x=>ylY x.1⟩:=zkh (yH3) Tryz.func83 (by kernel_rfl) (by kernel_rfl) Tryz.ntmps83.symm (by decide) (fun x r h=>(yOt x).trans h)
def yak (a0:dA):Bool:=yv a0
theorem yNC (a0:dA) (hk:zi9 yhj (a0,())):ylY a0=(fun n=>some ((n,()),())) (yak a0):=by
  unfold ylY yak yv
  simp only [yaL]
  cases hg:yd a0.2.1
  · rfl
  have hg2:=yn.1 hg
  rw [yMl a0 hg,yJT a0 hg,wr (show -9223372036854775808≤a0.2.1.1 - 1 by omega) (by omega)]
  simp only [zky,yjo,yhU,Bool.not_not,cond_true]
  cases (leb 1 a0.1&&leb a0.1 60000)
  · rfl
  cases yjc a0
  · rfl
  cases yay a0.2.1 a0.2.2.2.2.2.2.2.2.1
  · rfl
  cases (leb (-1) a0.2.2.2.1&&leb a0.2.2.2.1 (a0.2.1.1 - 1))
  · rfl
  cases (leb 0 a0.2.2.2.2.1&&leb a0.2.2.2.2.1 a0.2.1.2)
  · rfl
  have ht:(leb 0 a0.2.2.2.2.2.2.1&&leb a0.2.2.2.2.2.2.1 60000)=true→IntKind.i64.wrap (a0.2.2.2.2.2.2.1+4)=a0.2.2.2.2.2.2.1+4:=fun h=>by
    rw [Bool.and_eq_true,zjQ,zjQ]at h
    exact wr (by omega) (by omega)
  cases hT:(leb 0 a0.2.2.2.2.2.2.1&&leb a0.2.2.2.2.2.2.1 60000)
  · cases (a0.2.2.2.1== -1)<;>cases (a0.2.2.2.2.1 !=0)<;>rfl
  rw [ht hT]
  cases (leb a0.2.2.2.2.2.2.1 a0.2.2.2.2.2.1&&leb a0.2.2.2.2.2.1 60000)
  · cases (a0.2.2.2.1== -1)<;>cases (a0.2.2.2.2.1 !=0)<;>rfl
  cases leb a0.2.2.2.2.2.1 (a0.2.2.2.2.2.2.1+4)
  · cases (a0.2.2.2.1== -1)<;>cases (a0.2.2.2.2.1 !=0)<;>rfl
  cases (leb 0 a0.2.2.2.2.2.2.2.1&&leb a0.2.2.2.2.2.2.2.1 60000)<;>cases (a0.2.2.2.1== -1)<;>cases (a0.2.2.2.2.1 !=0)<;>rfl
def yhI:Con:=⟨yhj,ypA,fun x=>(fun n=>some ((n,()),())) (yak x.1)⟩
theorem ynQ:ConOk Tryz.prog 83 yhI:=(yLA).mono (fun x r hk h=>(yNC x.1 hk).trans h)
end
end
end Go.Tf
