/- Functions of the program, and what they come to. -/
import Derived.Test.YtgmadfpnljibhaaGreatScrubsF0
namespace Go.Tf
noncomputable section
open Go.Proofs
set_option synthInstance.maxHeartbeats 400000
set_option synthInstance.maxSize 10000
set_option linter.unusedVariables false
set_option linter.unusedSimpArgs false
set_option maxRecDepth 100000
section
def yGX:Code:=(Tryz.f269.body).getD .skip
def yHe:Env:=zki TT [(225,ygm)] []
theorem yPH:FrOk Tryz.prog ⟨yHe,10,fun _=>none⟩ yGX:=zkp yc yd ⟨ymY,trivial⟩
def ySh:Nat→Option Seg:=fun _=>none
abbrev ynG:List Par:= [.rd tL]
abbrev yte:List OT:= [⟨false,tB,.fz⟩]
def yvl (a0:List Int):Option (ResD yte×MutD ynG) :=
  bif (leb (a0.length:Int) 12) then
    let r1:=yL a0
    some ((r1,()),())
  else
    some ((false,()),())
theorem yW9 (x:InD ynG):zjH ⟨yHe,10,ySh⟩ Tryz.f269.results.toList yGX ynG yte x=yvl x.1:=by kernel_rfl
theorem yTY:ConOk Tryz.prog 269 ⟨ynG,yte,fun x=>yvl x.1⟩:=zkh (yPH) Tryz.func269 (by kernel_rfl) (by kernel_rfl) Tryz.ntmps269.symm (by decide) (fun x r h=>(yW9 x).trans h)
def ygs (a0:List Int):Bool :=
  bif (leb (a0.length:Int) 12) then
    let r1:=yL a0
    r1
  else
    false
def yuW:Con:=⟨ynG,yte,fun x=>(fun n=>some ((n,()),())) (ygs x.1)⟩
theorem yWe (a0:List Int):yvl a0=(fun n=>some ((n,()),())) (ygs a0):=zkS (p:=fun (n:Bool)=>((n,()),())) (zkx (p:=fun (n:Bool)=>((n,()),())) rfl rfl)
theorem yGk:ConOk Tryz.prog 269 yuW:=(yTY).mono (fun x r _ h=>(yWe x.1).trans h)
theorem yCM:ygs=yV:=funext fun s=>by
  unfold ygs yV yL
  rw [show yad=isW from funext fun x=>by unfold yad; rw [ybC]; rfl]
  cases leb (s.length:Int) 12<;>rfl
end
section
def yaU:Code:=(Tryz.f224.body).getD .skip
def ydV:Env:=zki TT [(135,yq),(269,yuW)] []
theorem yPC:FrOk Tryz.prog ⟨ydV,91,fun _=>none⟩ yaU:=zkp yc yd ⟨yu,yGk,trivial⟩
def yDc:Nat→Option Seg:=fun _=>none
def ycr:Shape:=⟨[(1,false,[.ptr 0 0]),(3,false,[.int .i64]),(4,false,[.int .i64])],[(0,[.br tL,.br tW,.bool,.br tI])],[]⟩
def yhB:Shape:=⟨[(1,false,[.ptr 0 0]),(3,false,[.int .i64]),(4,false,[.ci .i64 0])],[(0,[.br tL,.br tW,.bool,.br tI])],[]⟩
def yhk:Shape:=⟨[(1,false,[.ptr 0 0]),(3,false,[.int .i64])],[(0,[.br tL,.br tW,.bool,.br tI])],[]⟩
def yhY:Shape:=⟨[(2,false,[.bool])],[],[]⟩
abbrev yrH (v0:Int) (v1:Int) (v2:dM):(ycr).X:=((((),()),(v0,()),(v1,()),()),((v2.1,v2.2.1,v2.2.2.1,v2.2.2.2,()),()),())
abbrev yME (v0:Int) (v1:dM):(yhB).X:=((((),()),(v0,()),((),()),()),((v1.1,v1.2.1,v1.2.2.1,v1.2.2.2,()),()),())
abbrev yMt (v0:Int) (v1:dM):(yhk).X:=((((),()),(v0,()),()),((v1.1,v1.2.1,v1.2.2.1,v1.2.2.2,()),()),())
abbrev yMT (v0:Bool):(yhY).X:=(((v0,()),()),(),())
def yr3 (v0:Int) (v1:Int) (v2:List (List Int)) (v3:List dW) (v4:Bool) (v5:List Int):Option ((ycr).X ⊕ ((yhk).X ⊕ (yhY).X)) :=
  bif (ltb v1 v0) then
    bif (inb v1 v2.length) then
      let r2:=ygs (nth v2 v1 [])
      bif (!r2) then
        some (.inr (.inr (((false,()),()),(),())))
      else
        some (.inl ((((),()),(v0,()),((IntKind.i64.wrap (v1+1)),()),()),((v2,v3,v4,v5,()),()),()))
    else none
  else
    some (.inr (.inl ((((),()),(v0,()),()),((v2,v3,v4,v5,()),()),())))
def ycX (x:(ycr).X):=yr3 x.1.2.1.1 x.1.2.2.1.1 x.2.1.1.1 x.2.1.1.2.1 x.2.1.1.2.2.1 x.2.1.1.2.2.2.1
def yy9 (x:(yhB).X):(ycr).X:=((((),()),(x.1.2.1.1,()),(0,()),()),((x.2.1.1.1,x.2.1.1.2.1,x.2.1.1.2.2.1,x.2.1.1.2.2.2.1,()),()),())
def yBt:Code:=(zdI yaU 64 116).getD .skip
theorem yOF:zdI yaU 64 29=some (.block 0 (.loop yBt)):=by kernel_rfl
theorem yRU (x:(ycr).X):zg7 ⟨ydV,91,yDc⟩ 0 yBt 116 ycr yhk yhY x=ycX x:=by kernel_rfl
def yzr (x:(yhB).X):Nat:=(fun (u0:Int) (u1:List (List Int)) (u2:List dW) (u3:Bool) (u4:List Int)=>18446744073709551616) x.1.2.1.1 x.2.1.1.1 x.2.1.1.2.1 x.2.1.1.2.2.1 x.2.1.1.2.2.2.1
def ysQ (x:(yhB).X):Option ((yhk).X ⊕ (yhY).X):=zr ycX (yzr x) (yy9 x)
def yAc:Seg:=⟨yhB,yhk,yhY,ysQ⟩
def yuL:Nat→Option Seg:=fun q=>bif Nat.beq q 29 then some yAc else yDc q
theorem yPD:FrOk Tryz.prog ⟨ydV,91,yuL⟩ yaU:=(yPC).loop (sg:=yAc) ycr yy9 (by decide) yOF ycX yzr (by decide) (fun _=>rfl) (fun x r _ h=>h) yRU
def ycs:Shape:=⟨[(1,false,[.ptr 0 0]),(3,false,[.int .i64]),(5,false,[.int .i64])],[(0,[.br tL,.br tW,.bool,.br tI])],[]⟩
def yhC:Shape:=⟨[(1,false,[.ptr 0 0]),(3,false,[.int .i64]),(5,false,[.ci .i64 0])],[(0,[.br tL,.br tW,.bool,.br tI])],[]⟩
def yhl:Shape:=⟨[(1,false,[.ptr 0 0]),(3,false,[.int .i64])],[(0,[.br tL,.br tW,.bool,.br tI])],[]⟩
def yhZ:Shape:=⟨[(2,false,[.bool])],[],[]⟩
abbrev yrI (v0:Int) (v1:Int) (v2:dM):(ycs).X:=((((),()),(v0,()),(v1,()),()),((v2.1,v2.2.1,v2.2.2.1,v2.2.2.2,()),()),())
abbrev yMF (v0:Int) (v1:dM):(yhC).X:=((((),()),(v0,()),((),()),()),((v1.1,v1.2.1,v1.2.2.1,v1.2.2.2,()),()),())
abbrev yMu (v0:Int) (v1:dM):(yhl).X:=((((),()),(v0,()),()),((v1.1,v1.2.1,v1.2.2.1,v1.2.2.2,()),()),())
abbrev yMU (v0:Bool):(yhZ).X:=(((v0,()),()),(),())
def yr4 (v0:Int) (v1:Int) (v2:List (List Int)) (v3:List dW) (v4:Bool) (v5:List Int):Option ((ycs).X ⊕ ((yhl).X ⊕ (yhZ).X)) :=
  bif (ltb v1 (v3.length:Int)) then
    bif (inb v1 v3.length) then
      let r6:=ya ((nth v3 v1 (0,[])).1) 0 (IntKind.i64.wrap (v0 - 1))
      bif (!(!r6)) then
        bif (inb v1 v3.length) then
          let r7:=ygs ((nth v3 v1 (0,[])).2)
          bif (!r7) then
            some (.inr (.inr (((false,()),()),(),())))
          else
            some (.inl ((((),()),(v0,()),((IntKind.i64.wrap (v1+1)),()),()),((v2,v3,v4,v5,()),()),()))
        else none
      else
        some (.inr (.inr (((false,()),()),(),())))
    else none
  else
    some (.inr (.inl ((((),()),(v0,()),()),((v2,v3,v4,v5,()),()),())))
def ycY (x:(ycs).X):=yr4 x.1.2.1.1 x.1.2.2.1.1 x.2.1.1.1 x.2.1.1.2.1 x.2.1.1.2.2.1 x.2.1.1.2.2.2.1
def yza (x:(yhC).X):(ycs).X:=((((),()),(x.1.2.1.1,()),(0,()),()),((x.2.1.1.1,x.2.1.1.2.1,x.2.1.1.2.2.1,x.2.1.1.2.2.2.1,()),()),())
def yBu:Code:=(zdI yaU 64 244).getD .skip
theorem yOG:zdI yaU 64 61=some (.block 2 (.loop yBu)):=by kernel_rfl
theorem yRV (x:(ycs).X):zg7 ⟨ydV,91,yuL⟩ 2 yBu 244 ycs yhl yhZ x=ycY x:=by kernel_rfl
def yzs (x:(yhC).X):Nat:=(fun (u0:Int) (u1:List (List Int)) (u2:List dW) (u3:Bool) (u4:List Int)=>18446744073709551616) x.1.2.1.1 x.2.1.1.1 x.2.1.1.2.1 x.2.1.1.2.2.1 x.2.1.1.2.2.2.1
def ysR (x:(yhC).X):Option ((yhl).X ⊕ (yhZ).X):=zr ycY (yzs x) (yza x)
def yAd:Seg:=⟨yhC,yhl,yhZ,ysR⟩
def yuM:Nat→Option Seg:=fun q=>bif Nat.beq q 61 then some yAd else yuL q
theorem yPE:FrOk Tryz.prog ⟨ydV,91,yuM⟩ yaU:=(yPD).loop (sg:=yAd) ycs yza (by decide) yOG ycY yzs (by decide) (fun _=>rfl) (fun x r _ h=>h) yRV
def ybI:Shape:=⟨[(1,false,[.ptr 0 0]),(3,false,[.int .i64]),(6,false,[.int .i64])],[(0,[.br tL,.br tW,.bool,.br tI])],[]⟩
def ygb:Shape:=⟨[(1,false,[.ptr 0 0]),(3,false,[.int .i64]),(6,false,[.ci .i64 0])],[(0,[.br tL,.br tW,.bool,.br tI])],[]⟩
def yfZ:Shape:=⟨[(1,false,[.ptr 0 0]),(3,false,[.int .i64])],[(0,[.br tL,.br tW,.bool,.br tI])],[]⟩
def ygk:Shape:=⟨[(2,false,[.bool])],[],[]⟩
abbrev ypC (v0:Int) (v1:Int) (v2:dM):(ybI).X:=((((),()),(v0,()),(v1,()),()),((v2.1,v2.2.1,v2.2.2.1,v2.2.2.2,()),()),())
abbrev yJ1 (v0:Int) (v1:dM):(ygb).X:=((((),()),(v0,()),((),()),()),((v1.1,v1.2.1,v1.2.2.1,v1.2.2.2,()),()),())
abbrev yJT (v0:Int) (v1:dM):(yfZ).X:=((((),()),(v0,()),()),((v1.1,v1.2.1,v1.2.2.1,v1.2.2.2,()),()),())
abbrev yJ9 (v0:Bool):(ygk).X:=(((v0,()),()),(),())
def ypQ (v0:Int) (v1:Int) (v2:List (List Int)) (v3:List dW) (v4:Bool) (v5:List Int):Option ((ybI).X ⊕ ((yfZ).X ⊕ (ygk).X)) :=
  bif (ltb v1 (v5.length:Int)) then
    bif (inb v1 v5.length) then
      let r10:=ya (nth v5 v1 0) 0 (IntKind.i64.wrap (v0 - 1))
      bif (!(!r10)) then
        bif (ltb 0 v1) then
          bif (inb (IntKind.i64.wrap (v1 - 1)) v5.length) then
            bif (inb v1 v5.length) then
              bif (leb (nth v5 v1 0) (nth v5 (IntKind.i64.wrap (v1 - 1)) 0)) then
                some (.inr (.inr (((false,()),()),(),())))
              else
                some (.inl ((((),()),(v0,()),((IntKind.i64.wrap (v1+1)),()),()),((v2,v3,v4,v5,()),()),()))
            else none
          else none
        else
          some (.inl ((((),()),(v0,()),((IntKind.i64.wrap (v1+1)),()),()),((v2,v3,v4,v5,()),()),()))
      else
        some (.inr (.inr (((false,()),()),(),())))
    else none
  else
    some (.inr (.inl ((((),()),(v0,()),()),((v2,v3,v4,v5,()),()),())))
def ycc (x:(ybI).X):=ypQ x.1.2.1.1 x.1.2.2.1.1 x.2.1.1.1 x.2.1.1.2.1 x.2.1.1.2.2.1 x.2.1.1.2.2.2.1
def yxl (x:(ygb).X):(ybI).X:=((((),()),(x.1.2.1.1,()),(0,()),()),((x.2.1.1.1,x.2.1.1.2.1,x.2.1.1.2.2.1,x.2.1.1.2.2.2.1,()),()),())
def yyF:Code:=(zdI yaU 64 500).getD .skip
theorem yLh:zdI yaU 64 125=some (.block 4 (.loop yyF)):=by kernel_rfl
theorem yNV (x:(ybI).X):zg7 ⟨ydV,91,yuM⟩ 4 yyF 500 ybI yfZ ygk x=ycc x:=by kernel_rfl
def yxx (x:(ygb).X):Nat:=(fun (u0:Int) (u1:List (List Int)) (u2:List dW) (u3:Bool) (u4:List Int)=>18446744073709551616) x.1.2.1.1 x.2.1.1.1 x.2.1.1.2.1 x.2.1.1.2.2.1 x.2.1.1.2.2.2.1
def yri (x:(ygb).X):Option ((yfZ).X ⊕ (ygk).X):=zr ycc (yxx x) (yxl x)
def yxO:Seg:=⟨ygb,yfZ,ygk,yri⟩
def yDd:Nat→Option Seg:=fun q=>bif Nat.beq q 125 then some yxO else yuM q
theorem yPF:FrOk Tryz.prog ⟨ydV,91,yDd⟩ yaU:=(yPE).loop (sg:=yxO) ybI yxl (by decide) yLh ycc yxx (by decide) (fun _=>rfl) (fun x r _ h=>h) yNV
abbrev yjg:List Par:= [.rd tM]
abbrev ytc:List OT:= [⟨false,tB,.fz⟩]
def yo6 (a0:dM):Option (ResD ytc×MutD yjg) :=
  zjw (ysQ ((((),()),((a0.1.length:Int),()),((),()),()),((a0.1,a0.2.1,a0.2.2.1,a0.2.2.2,()),()),())) (fun y2 =>
    zjw (ysR ((((),()),(y2.1.2.1.1,()),((),()),()),((y2.2.1.1.1,y2.2.1.1.2.1,y2.2.1.1.2.2.1,y2.2.1.1.2.2.2.1,()),()),())) (fun y7 =>
      zjw (yri ((((),()),(y7.1.2.1.1,()),((),()),()),((y7.2.1.1.1,y7.2.1.1.2.1,y7.2.1.1.2.2.1,y7.2.1.1.2.2.2.1,()),()),())) (fun y10 =>
        let r12:=ya y10.1.2.1.1 1 20
        bif r12 then
          some (((leb (y10.2.1.1.2.1.length:Int) 60),()),())
        else
          some ((false,()),())) (fun y10 =>
        some ((y10.1.1.1,()),()))) (fun y7 =>
      some ((y7.1.1.1,()),()))) (fun y2 =>
    some ((y2.1.1.1,()),()))
theorem yW7 (x:InD yjg):zjH ⟨ydV,91,yDd⟩ Tryz.f224.results.toList yaU yjg ytc x=yo6 x.1:=by kernel_rfl
theorem yTW:ConOk Tryz.prog 224 ⟨yjg,ytc,fun x=>yo6 x.1⟩:=zkh (yPF) Tryz.func224 (by kernel_rfl) (by kernel_rfl) Tryz.ntmps224.symm (by decide) (fun x r h=>(yW7 x).trans h)
def yai (a0:dM):Bool:=ym a0
theorem yWc (a0:dM) (hk:zi9 yjg (a0,())):yo6 a0=(fun n=>some ((n,()),())) (yai a0):=by
  have hb1:a0.1.length * 24≤2 ^ 47:=hk.1.1.1
  have hb2:a0.2.1.length * 32≤2 ^ 47:=hk.1.2.1.1
  have hb3:a0.2.2.2.length * 8≤2 ^ 47:=hk.1.2.2.2.1
  have h1:ysQ (yME a0.1.length a0)=some (bif a0.1.all yV then .inl (yMt a0.1.length a0) else .inr (yMT false)) :=
    zjS (step:=ycX) a0.1 [] (fun i=>yrH a0.1.length i a0) yV _ _ (fun i hi=>by
      simp only [ycX,yrH,yr3,zjI (show (i:Int) < a0.1.length by omega),cond_true,wr (show -9223372036854775808≤(i:Int)+1 by omega) (by omega),Int.natCast_add,Int.natCast_one,Int.toNat_natCast,zkO hi,zjW,yCM]
      cases yV (a0.1.getD i [])<;>rfl) (by simp only [ycX,yrH,yr3,zkm (Int.le_refl _),cond_false]) _ (by show _ < 18446744073709551616; omega)
  have h2:ysR (yMF a0.1.length a0)=some (bif a0.2.1.all (ysd a0.1.length) then .inl (yMu a0.1.length a0) else .inr (yMU false)) :=
    zjS (step:=ycY) a0.2.1 (0,[]) (fun i=>yrI a0.1.length i a0) (ysd a0.1.length) _ _ (fun i hi=>by
      simp only [ycY,yrI,yr4,zjI (show (i:Int) < a0.2.1.length by omega),cond_true,wr (show -9223372036854775808≤(i:Int)+1 by omega) (by omega),Int.natCast_add,Int.natCast_one,Int.toNat_natCast,zkO hi,zjW,yCM,yp9 (show a0.1.length≤1152921504606846976 by omega),ysd]
      cases inb (a0.2.1.getD i (0,[])).1 a0.1.length<;>cases yV (a0.2.1.getD i (0,[])).2<;>rfl) (by simp only [ycY,yrI,yr4,zkm (Int.le_refl _),cond_false]) _ (by show _ < 18446744073709551616; omega)
  have h3:yri (yJ1 a0.1.length a0)=some (bif (List.range a0.2.2.2.length).any (yBm a0.1.length a0.2.2.2) then .inr (yJ9 false) else .inl (yJT a0.1.length a0)) :=
    zf4 (step:=ycc) (fun i=>ypC a0.1.length i a0) a0.2.2.2.length (yBm a0.1.length a0.2.2.2) _ _ (fun i hi=>by
      simp only [ycc,ypC,ypQ,zjI (show (i:Int) < a0.2.2.2.length by omega),cond_true,wr (show -9223372036854775808≤(i:Int)+1 by omega) (by omega),Int.natCast_add,Int.natCast_one,Int.toNat_natCast,zkO hi,zjW,yp9 (show a0.1.length≤1152921504606846976 by omega),yBm]
      rcases Nat.eq_zero_or_pos i with rfl | h0
      · cases inb (a0.2.2.2.getD 0 0) a0.1.length<;>rfl
      · rw [show IntKind.i64.wrap ((i:Int) - 1)=((i - 1:Nat):Int) by rw [wr (by omega) (by omega)]; omega,zkO (show i - 1 < a0.2.2.2.length by omega),zjW,zjI (show (0:Int) < i by omega),decide_eq_true h0]
        cases inb (a0.2.2.2.getD i 0) a0.1.length<;>cases leb (a0.2.2.2.getD i 0) (a0.2.2.2.getD (i - 1) 0)<;>rfl) (by simp only [ycc,ypC,ypQ,zkm (Int.le_refl _),cond_false]) _ (by show _ < 18446744073709551616; omega)
  unfold yo6 yai ym
  rw [h1]
  cases a0.1.all yV
  · rfl
  simp only [cond_true,zkJ,h2]
  cases a0.2.1.all (ysd a0.1.length)
  · rfl
  simp only [cond_true,zkJ,h3,yUN,ybC]
  cases yoP a0.1.length a0.2.2.2
  · rfl
  simp only [Bool.not_true,cond_false,zkJ]
  cases leb 1 (a0.1.length:Int)<;>cases leb (a0.1.length:Int) 20<;>rfl
def yfy:Con:=⟨yjg,ytc,fun x=>(fun n=>some ((n,()),())) (yai x.1)⟩
theorem ylN:ConOk Tryz.prog 224 yfy:=(yTW).mono (fun x r hk h=>(yWc x.1 hk).trans h)
end
section
def yk3:Code:=(Tryz.f136.body).getD .skip
def yqn:Env:=zki TT [(139,ymT),(224,yfy)] []
theorem yMa:FrOk Tryz.prog ⟨yqn,51,fun _=>none⟩ yk3:=zkp yc yd ⟨yu7,ylN,trivial⟩
def yAZ:Nat→Option Seg:=fun _=>none
def ybO:Shape:=⟨[(1,false,[.ptr 0 0]),(3,false,[.int .i64])],[(0,[.int .i64,.int .i64,.int .i64,.br tM,.int .i64,.int .i64,.int .i64,.int .i64,.int .i64,.br tW,.int .i64,.bool,.bool])],[]⟩
def ygh:Shape:=⟨[(1,false,[.ptr 0 0]),(3,false,[.ci .i64 0])],[(0,[.int .i64,.int .i64,.int .i64,.br tM,.int .i64,.int .i64,.int .i64,.int .i64,.int .i64,.br tW,.int .i64,.bool,.bool])],[]⟩
def yf5:Shape:=⟨[(1,false,[.ptr 0 0])],[(0,[.int .i64,.int .i64,.int .i64,.br tM,.int .i64,.int .i64,.int .i64,.int .i64,.int .i64,.br tW,.int .i64,.bool,.bool])],[]⟩
def ygl:Shape:=⟨[(2,false,[.bool])],[],[]⟩
abbrev ypG (v0:Int) (v1:dA):(ybO).X:=((((),()),(v0,()),()),((v1.1,v1.2.1.1,v1.2.1.2,v1.2.2.1,v1.2.2.2.1,v1.2.2.2.2.1,v1.2.2.2.2.2.1,v1.2.2.2.2.2.2.1,v1.2.2.2.2.2.2.2.1,v1.2.2.2.2.2.2.2.2.1,v1.2.2.2.2.2.2.2.2.2.1,v1.2.2.2.2.2.2.2.2.2.2.1,v1.2.2.2.2.2.2.2.2.2.2.2,()),()),())
abbrev yJ6 (v0:dA):(ygh).X:=((((),()),((),()),()),((v0.1,v0.2.1.1,v0.2.1.2,v0.2.2.1,v0.2.2.2.1,v0.2.2.2.2.1,v0.2.2.2.2.2.1,v0.2.2.2.2.2.2.1,v0.2.2.2.2.2.2.2.1,v0.2.2.2.2.2.2.2.2.1,v0.2.2.2.2.2.2.2.2.2.1,v0.2.2.2.2.2.2.2.2.2.2.1,v0.2.2.2.2.2.2.2.2.2.2.2,()),()),())
abbrev yJW (v0:dA):(yf5).X:=((((),()),()),((v0.1,v0.2.1.1,v0.2.1.2,v0.2.2.1,v0.2.2.2.1,v0.2.2.2.2.1,v0.2.2.2.2.2.1,v0.2.2.2.2.2.2.1,v0.2.2.2.2.2.2.2.1,v0.2.2.2.2.2.2.2.2.1,v0.2.2.2.2.2.2.2.2.2.1,v0.2.2.2.2.2.2.2.2.2.2.1,v0.2.2.2.2.2.2.2.2.2.2.2,()),()),())
abbrev yKa (v0:Bool):(ygl).X:=(((v0,()),()),(),())
def ypV (v0:Int) (v1:Int) (v2:Int) (v3:Int) (v4:List dM) (v5:Int) (v6:Int) (v7:Int) (v8:Int) (v9:Int) (v10:List dW) (v11:Int) (v12:Bool) (v13:Bool):Option ((ybO).X ⊕ ((yf5).X ⊕ (ygl).X)) :=
  bif (ltb v0 (v4.length:Int)) then
    bif (inb v0 v4.length) then
      let r3:=yai ((nth v4 v0 ([],[],false,[])).1,((nth v4 v0 ([],[],false,[])).2).1,(((nth v4 v0 ([],[],false,[])).2).2))
      bif (!(!r3)) then
        let r4:=ybD (v2,v3)
        bif (!((((nth v4 v0 ([],[],false,[])).1).length:Int) !=r4)) then
          bif (((nth v4 v0 ([],[],false,[])).2).2).1 then
            bif (v0 !=v5) then
              bif (!v13) then
                some (.inr (.inr (((false,()),()),(),())))
              else
                some (.inl ((((),()),((IntKind.i64.wrap (v0+1)),()),()),((v1,v2,v3,v4,v5,v6,v7,v8,v9,v10,v11,v12,v13,()),()),()))
            else
              some (.inl ((((),()),((IntKind.i64.wrap (v0+1)),()),()),((v1,v2,v3,v4,v5,v6,v7,v8,v9,v10,v11,v12,v13,()),()),()))
          else
            some (.inl ((((),()),((IntKind.i64.wrap (v0+1)),()),()),((v1,v2,v3,v4,v5,v6,v7,v8,v9,v10,v11,v12,v13,()),()),()))
        else
          some (.inr (.inr (((false,()),()),(),())))
      else
        some (.inr (.inr (((false,()),()),(),())))
    else none
  else
    some (.inr (.inl ((((),()),()),((v1,v2,v3,v4,v5,v6,v7,v8,v9,v10,v11,v12,v13,()),()),())))
def ycg (x:(ybO).X):=ypV x.1.2.1.1 x.2.1.1.1 x.2.1.1.2.1 x.2.1.1.2.2.1 x.2.1.1.2.2.2.1 x.2.1.1.2.2.2.2.1 x.2.1.1.2.2.2.2.2.1 x.2.1.1.2.2.2.2.2.2.1 x.2.1.1.2.2.2.2.2.2.2.1 x.2.1.1.2.2.2.2.2.2.2.2.1 x.2.1.1.2.2.2.2.2.2.2.2.2.1 x.2.1.1.2.2.2.2.2.2.2.2.2.2.1 x.2.1.1.2.2.2.2.2.2.2.2.2.2.2.1 x.2.1.1.2.2.2.2.2.2.2.2.2.2.2.2.1
def yxr (x:(ygh).X):(ybO).X:=((((),()),(0,()),()),((x.2.1.1.1,x.2.1.1.2.1,x.2.1.1.2.2.1,x.2.1.1.2.2.2.1,x.2.1.1.2.2.2.2.1,x.2.1.1.2.2.2.2.2.1,x.2.1.1.2.2.2.2.2.2.1,x.2.1.1.2.2.2.2.2.2.2.1,x.2.1.1.2.2.2.2.2.2.2.2.1,x.2.1.1.2.2.2.2.2.2.2.2.2.1,x.2.1.1.2.2.2.2.2.2.2.2.2.2.1,x.2.1.1.2.2.2.2.2.2.2.2.2.2.2.1,x.2.1.1.2.2.2.2.2.2.2.2.2.2.2.2.1,()),()),())
def yyL:Code:=(zdI yk3 64 52).getD .skip
theorem yLn:zdI yk3 64 13=some (.block 0 (.loop yyL)):=by kernel_rfl
theorem yN1 (x:(ybO).X):zg7 ⟨yqn,51,yAZ⟩ 0 yyL 52 ybO yf5 ygl x=ycg x:=by kernel_rfl
def yxD (x:(ygh).X):Nat:=(fun (u0:Int) (u1:Int) (u2:Int) (u3:List dM) (u4:Int) (u5:Int) (u6:Int) (u7:Int) (u8:Int) (u9:List dW) (u10:Int) (u11:Bool) (u12:Bool)=>18446744073709551616) x.2.1.1.1 x.2.1.1.2.1 x.2.1.1.2.2.1 x.2.1.1.2.2.2.1 x.2.1.1.2.2.2.2.1 x.2.1.1.2.2.2.2.2.1 x.2.1.1.2.2.2.2.2.2.1 x.2.1.1.2.2.2.2.2.2.2.1 x.2.1.1.2.2.2.2.2.2.2.2.1 x.2.1.1.2.2.2.2.2.2.2.2.2.1 x.2.1.1.2.2.2.2.2.2.2.2.2.2.1 x.2.1.1.2.2.2.2.2.2.2.2.2.2.2.1 x.2.1.1.2.2.2.2.2.2.2.2.2.2.2.2.1
def yrn (x:(ygh).X):Option ((yf5).X ⊕ (ygl).X):=zr ycg (yxD x) (yxr x)
def yxU:Seg:=⟨ygh,yf5,ygl,yrn⟩
def yA0:Nat→Option Seg:=fun q=>bif Nat.beq q 13 then some yxU else yAZ q
theorem yMb:FrOk Tryz.prog ⟨yqn,51,yA0⟩ yk3:=(yMa).loop (sg:=yxU) ybO yxr (by decide) yLn ycg yxD (by decide) (fun _=>rfl) (fun x r _ h=>h) yN1
abbrev yeI:List Par:= [.rd tA]
abbrev ylt:List OT:= [⟨false,tB,.fz⟩]
def ync (a0:dA):Option (ResD ylt×MutD yeI) :=
  zjw (yrn ((((),()),((),()),()),((a0.1,a0.2.1.1,a0.2.1.2,a0.2.2.1,a0.2.2.2.1,a0.2.2.2.2.1,a0.2.2.2.2.2.1,a0.2.2.2.2.2.2.1,a0.2.2.2.2.2.2.2.1,a0.2.2.2.2.2.2.2.2.1,a0.2.2.2.2.2.2.2.2.2.1,a0.2.2.2.2.2.2.2.2.2.2.1,a0.2.2.2.2.2.2.2.2.2.2.2,()),()),())) (fun y4 =>
    some ((((y4.2.1.1.2.2.2.1.length:Int)==y4.2.1.1.2.1),()),())) (fun y4 =>
    some ((y4.1.1.1,()),()))
theorem yVR (x:InD yeI):zjH ⟨yqn,51,yA0⟩ Tryz.f136.results.toList yk3 yeI ylt x=ync x.1:=by kernel_rfl
theorem yRl:ConOk Tryz.prog 136 ⟨yeI,ylt,fun x=>ync x.1⟩:=zkh (yMb) Tryz.func136 (by kernel_rfl) (by kernel_rfl) Tryz.ntmps136.symm (by decide) (fun x r h=>(yVR x).trans h)
def ylI (a0:dA):Bool:=yly a0
def ywF (a0:dA):Bool:=ye a0.2.1
theorem yTE (a0:dA) (hk:zi9 yeI (a0,())) (hq:ywF a0=true):ync a0=(fun n=>some ((n,()),())) (ylI a0):=by
  have hb:a0.2.2.1.length * 80≤2 ^ 47:=hk.1.2.2.1.1
  have hg:=yg.1 hq
  have h1:yrn (yJ6 a0)=some (bif (List.range a0.2.2.1.length).any (ygn a0) then .inr (yKa false) else .inl (yJW a0)) :=
    zf4 (step:=ycg) (fun i=>ypG i a0) a0.2.2.1.length (ygn a0) _ _ (fun i hi=>by
      simp only [ycg,ypG,ypV,zjI (show (i:Int) < a0.2.2.1.length by omega),cond_true,wr (show -9223372036854775808≤(i:Int)+1 by omega) (by omega),Int.natCast_add,Int.natCast_one,Int.toNat_natCast,zkO hi,zkV,yai,ygn,ybD,wr (show -9223372036854775808≤6+a0.2.1.2 by omega) (by omega),noMem]
      cases ym (nth a0.2.2.1 i ([],[],false,[]))<;>cases (((nth a0.2.2.1 i ([],[],false,[])).1.length:Int) !=6+a0.2.1.2)<;>cases (nth a0.2.2.1 i ([],[],false,[])).2.2.1<;>cases ((i:Int) !=a0.2.2.2.1)<;>cases a0.2.2.2.2.2.2.2.2.2.2.2<;>rfl) (by simp only [ycg,ypG,ypV,zkm (Int.le_refl _),cond_false]) _ (by show _ < 18446744073709551616; omega)
  unfold ync ylI yly
  rw [h1]
  cases (List.range a0.2.2.1.length).any (ygn a0)<;>rfl
def yq4 (a0:dA):Option (ResD ylt×MutD yeI):=bif ywF a0 then (fun n=>some ((n,()),())) (ylI a0) else none
theorem yUA (a0:dA) (h:ywF a0=true):yq4 a0=(fun n=>some ((n,()),())) (ylI a0):=by unfold yq4; rw [h]; rfl
def yBU:Con:=⟨yeI,ylt,fun x=>yq4 x.1⟩
theorem yUv:ConOk Tryz.prog 136 yBU:=(yRl).mono (fun x r hk h=>zkW h (fun hq=>yTE x.1 hk hq))
end
section
def yi1:Code:=(Tryz.f137.body).getD .skip
def you:Env:=zki TT [(135,yq),(225,ygm)] []
theorem yJJ:FrOk Tryz.prog ⟨you,57,fun _=>none⟩ yi1:=zkp yc yd ⟨yu,ymY,trivial⟩
def yyp:Nat→Option Seg:=fun _=>none
def ybh:Shape:=⟨[(1,false,[.ptr 0 0]),(3,false,[.int .i64])],[(0,[.int .i64,.int .i64,.int .i64,.br tM,.int .i64,.int .i64,.int .i64,.int .i64,.int .i64,.br tW,.int .i64,.bool,.bool])],[]⟩
def ye4:Shape:=⟨[(1,false,[.ptr 0 0]),(3,false,[.ci .i64 0])],[(0,[.int .i64,.int .i64,.int .i64,.br tM,.int .i64,.int .i64,.int .i64,.int .i64,.int .i64,.br tW,.int .i64,.bool,.bool])],[]⟩
def yeW:Shape:=⟨[],[],[]⟩
def ye9:Shape:=⟨[(2,false,[.bool])],[],[]⟩
abbrev yn2 (v0:Int) (v1:dA):(ybh).X:=((((),()),(v0,()),()),((v1.1,v1.2.1.1,v1.2.1.2,v1.2.2.1,v1.2.2.2.1,v1.2.2.2.2.1,v1.2.2.2.2.2.1,v1.2.2.2.2.2.2.1,v1.2.2.2.2.2.2.2.1,v1.2.2.2.2.2.2.2.2.1,v1.2.2.2.2.2.2.2.2.2.1,v1.2.2.2.2.2.2.2.2.2.2.1,v1.2.2.2.2.2.2.2.2.2.2.2,()),()),())
abbrev yIh (v0:dA):(ye4).X:=((((),()),((),()),()),((v0.1,v0.2.1.1,v0.2.1.2,v0.2.2.1,v0.2.2.2.1,v0.2.2.2.2.1,v0.2.2.2.2.2.1,v0.2.2.2.2.2.2.1,v0.2.2.2.2.2.2.2.1,v0.2.2.2.2.2.2.2.2.1,v0.2.2.2.2.2.2.2.2.2.1,v0.2.2.2.2.2.2.2.2.2.2.1,v0.2.2.2.2.2.2.2.2.2.2.2,()),()),())
abbrev yIa  :(yeW).X:=((),(),())
abbrev yIm (v0:Bool):(ye9).X:=(((v0,()),()),(),())
def yok (v0:Int) (v1:Int) (v2:Int) (v3:Int) (v4:List dM) (v5:Int) (v6:Int) (v7:Int) (v8:Int) (v9:Int) (v10:List dW) (v11:Int) (v12:Bool) (v13:Bool):Option ((ybh).X ⊕ ((yeW).X ⊕ (ye9).X)) :=
  bif (ltb v0 (v10.length:Int)) then
    bif (inb v0 v10.length) then
      let r3:=ya ((nth v10 v0 (0,[])).1) 0 (IntKind.i64.wrap (v3 - 1))
      bif (!(!r3)) then
        bif (!((((nth v10 v0 (0,[])).2).length:Int) !=(IntKind.i64.wrap (v2 - 1)))) then
          let r4:=yL ((nth v10 v0 (0,[])).2)
          bif (!(!r4)) then
            bif (ltb 0 v0) then
              bif (inb (IntKind.i64.wrap (v0 - 1)) v10.length) then
                bif (leb ((nth v10 v0 (0,[])).1) ((nth v10 (IntKind.i64.wrap (v0 - 1)) (0,[])).1)) then
                  some (.inr (.inr (((false,()),()),(),())))
                else
                  some (.inl ((((),()),((IntKind.i64.wrap (v0+1)),()),()),((v1,v2,v3,v4,v5,v6,v7,v8,v9,v10,v11,v12,v13,()),()),()))
              else none
            else
              some (.inl ((((),()),((IntKind.i64.wrap (v0+1)),()),()),((v1,v2,v3,v4,v5,v6,v7,v8,v9,v10,v11,v12,v13,()),()),()))
          else
            some (.inr (.inr (((false,()),()),(),())))
        else
          some (.inr (.inr (((false,()),()),(),())))
      else
        some (.inr (.inr (((false,()),()),(),())))
    else none
  else
    some (.inr (.inl ((),(),())))
def ybu (x:(ybh).X):=yok x.1.2.1.1 x.2.1.1.1 x.2.1.1.2.1 x.2.1.1.2.2.1 x.2.1.1.2.2.2.1 x.2.1.1.2.2.2.2.1 x.2.1.1.2.2.2.2.2.1 x.2.1.1.2.2.2.2.2.2.1 x.2.1.1.2.2.2.2.2.2.2.1 x.2.1.1.2.2.2.2.2.2.2.2.1 x.2.1.1.2.2.2.2.2.2.2.2.2.1 x.2.1.1.2.2.2.2.2.2.2.2.2.2.1 x.2.1.1.2.2.2.2.2.2.2.2.2.2.2.1 x.2.1.1.2.2.2.2.2.2.2.2.2.2.2.2.1
def yv0 (x:(ye4).X):(ybh).X:=((((),()),(0,()),()),((x.2.1.1.1,x.2.1.1.2.1,x.2.1.1.2.2.1,x.2.1.1.2.2.2.1,x.2.1.1.2.2.2.2.1,x.2.1.1.2.2.2.2.2.1,x.2.1.1.2.2.2.2.2.2.1,x.2.1.1.2.2.2.2.2.2.2.1,x.2.1.1.2.2.2.2.2.2.2.2.1,x.2.1.1.2.2.2.2.2.2.2.2.2.1,x.2.1.1.2.2.2.2.2.2.2.2.2.2.1,x.2.1.1.2.2.2.2.2.2.2.2.2.2.2.1,x.2.1.1.2.2.2.2.2.2.2.2.2.2.2.2.1,()),()),())
def yw5:Code:=(zdI yi1 64 52).getD .skip
theorem yJg:zdI yi1 64 13=some (.block 0 (.loop yw5)):=by kernel_rfl
theorem yKJ (x:(ybh).X):zg7 ⟨you,57,yyp⟩ 0 yw5 52 ybh yeW ye9 x=ybu x:=by kernel_rfl
def ywd (x:(ye4).X):Nat:=(fun (u0:Int) (u1:Int) (u2:Int) (u3:List dM) (u4:Int) (u5:Int) (u6:Int) (u7:Int) (u8:Int) (u9:List dW) (u10:Int) (u11:Bool) (u12:Bool)=>18446744073709551616) x.2.1.1.1 x.2.1.1.2.1 x.2.1.1.2.2.1 x.2.1.1.2.2.2.1 x.2.1.1.2.2.2.2.1 x.2.1.1.2.2.2.2.2.1 x.2.1.1.2.2.2.2.2.2.1 x.2.1.1.2.2.2.2.2.2.2.1 x.2.1.1.2.2.2.2.2.2.2.2.1 x.2.1.1.2.2.2.2.2.2.2.2.2.1 x.2.1.1.2.2.2.2.2.2.2.2.2.2.1 x.2.1.1.2.2.2.2.2.2.2.2.2.2.2.1 x.2.1.1.2.2.2.2.2.2.2.2.2.2.2.2.1
def ypo (x:(ye4).X):Option ((yeW).X ⊕ (ye9).X):=zr ybu (ywd x) (yv0 x)
def ywu:Seg:=⟨ye4,yeW,ye9,ypo⟩
def yyq:Nat→Option Seg:=fun q=>bif Nat.beq q 13 then some ywu else yyp q
theorem yJK:FrOk Tryz.prog ⟨you,57,yyq⟩ yi1:=(yJJ).loop (sg:=ywu) ybh yv0 (by decide) yJg ybu ywd (by decide) (fun _=>rfl) (fun x r _ h=>h) yKJ
abbrev ydr:List Par:= [.rd tA]
abbrev yjE:List OT:= [⟨false,tB,.fz⟩]
def ykP (a0:dA):Option (ResD yjE×MutD ydr) :=
  zjw (ypo ((((),()),((),()),()),((a0.1,a0.2.1.1,a0.2.1.2,a0.2.2.1,a0.2.2.2.1,a0.2.2.2.2.1,a0.2.2.2.2.2.1,a0.2.2.2.2.2.2.1,a0.2.2.2.2.2.2.2.1,a0.2.2.2.2.2.2.2.2.1,a0.2.2.2.2.2.2.2.2.2.1,a0.2.2.2.2.2.2.2.2.2.2.1,a0.2.2.2.2.2.2.2.2.2.2.2,()),()),())) (fun y4 =>
    some ((true,()),())) (fun y4 =>
    some ((y4.1.1.1,()),()))
theorem ySV (x:InD ydr):zjH ⟨you,57,yyq⟩ Tryz.f137.results.toList yi1 ydr yjE x=ykP x.1:=by kernel_rfl
theorem yNA:ConOk Tryz.prog 137 ⟨ydr,yjE,fun x=>ykP x.1⟩:=zkh (yJK) Tryz.func137 (by kernel_rfl) (by kernel_rfl) Tryz.ntmps137.symm (by decide) (fun x r h=>(ySV x).trans h)
def yj1 (a0:dA):Bool:=yaz a0.2.1 a0.2.2.2.2.2.2.2.2.1
def yvd (a0:dA):Bool:=ye a0.2.1
theorem ywI (l:List Int):yL l=l.all isW:=by
  unfold yL
  rw [show yad=isW from funext fun x=>by unfold yad; rw [ybC]; rfl]
theorem yQM (a0:dA) (hk:zi9 ydr (a0,())) (hq:yvd a0=true):ykP a0=(fun n=>some ((n,()),())) (yj1 a0):=by
  have hb:a0.2.2.2.2.2.2.2.2.1.length * 32≤2 ^ 47:=hk.1.2.2.2.2.2.2.2.2.1.1
  have hg:=yg.1 hq
  have h1:ypo (yIh a0)=some (bif (List.range a0.2.2.2.2.2.2.2.2.1.length).any (ygV a0.2.1 a0.2.2.2.2.2.2.2.2.1) then .inr (yIm false) else .inl yIa) :=
    zf4 (step:=ybu) (fun i=>yn2 i a0) a0.2.2.2.2.2.2.2.2.1.length (ygV a0.2.1 a0.2.2.2.2.2.2.2.2.1) _ _ (fun i hi=>by
      simp only [ybu,yn2,yok,zjI (show (i:Int) < a0.2.2.2.2.2.2.2.2.1.length by omega),cond_true,wr (show -9223372036854775808≤(i:Int)+1 by omega) (by omega),Int.natCast_add,Int.natCast_one,Int.toNat_natCast,zkO hi,ybC,ywI,wr (show -9223372036854775808≤a0.2.1.2 - 1 by omega) (by omega),wr (show -9223372036854775808≤a0.2.1.1 - 1 by omega) (by omega),ygV]
      rcases Nat.eq_zero_or_pos i with rfl | h0
      · cases (leb 0 (nth a0.2.2.2.2.2.2.2.2.1 ((0:Nat):Int) (0,[])).1&&leb (nth a0.2.2.2.2.2.2.2.2.1 ((0:Nat):Int) (0,[])).1 (a0.2.1.2 - 1))<;>cases (((nth a0.2.2.2.2.2.2.2.2.1 ((0:Nat):Int) (0,[])).2.length:Int) !=a0.2.1.1 - 1)<;>cases ((nth a0.2.2.2.2.2.2.2.2.1 ((0:Nat):Int) (0,[])).2.all isW)<;>rfl
      · rw [show IntKind.i64.wrap ((i:Int) - 1)=((i - 1:Nat):Int) by rw [wr (by omega) (by omega)]; omega,zkO (show i - 1 < a0.2.2.2.2.2.2.2.2.1.length by omega),zjI (show (0:Int) < i by omega),decide_eq_true h0]
        cases (leb 0 (nth a0.2.2.2.2.2.2.2.2.1 (i:Int) (0,[])).1&&leb (nth a0.2.2.2.2.2.2.2.2.1 (i:Int) (0,[])).1 (a0.2.1.2 - 1))<;>cases (((nth a0.2.2.2.2.2.2.2.2.1 (i:Int) (0,[])).2.length:Int) !=a0.2.1.1 - 1)<;>cases ((nth a0.2.2.2.2.2.2.2.2.1 (i:Int) (0,[])).2.all isW)<;>cases leb (nth a0.2.2.2.2.2.2.2.2.1 (i:Int) (0,[])).1 (nth a0.2.2.2.2.2.2.2.2.1 ((i - 1:Nat):Int) (0,[])).1<;>rfl) (by simp only [ybu,yn2,yok,zkm (Int.le_refl _),cond_false]) _ (by show _ < 18446744073709551616; omega)
  unfold ykP yj1 yaz
  rw [h1]
  cases (List.range a0.2.2.2.2.2.2.2.2.1.length).any (ygV a0.2.1 a0.2.2.2.2.2.2.2.2.1)<;>rfl
def yoX (a0:dA):Option (ResD yjE×MutD ydr):=bif yvd a0 then (fun n=>some ((n,()),())) (yj1 a0) else none
theorem yRM (a0:dA) (h:yvd a0=true):yoX a0=(fun n=>some ((n,()),())) (yj1 a0):=by unfold yoX; rw [h]; rfl
def yy0:Con:=⟨ydr,yjE,fun x=>yoX x.1⟩
theorem yRH:ConOk Tryz.prog 137 yy0:=(yNA).mono (fun x r hk h=>zkW h (fun hq=>yQM x.1 hk hq))
end
section
def yGU:Code:=(Tryz.f46.body).getD .skip
def yHb:Env:=zki TT [(134,yfx),(135,yq),(136,yBU),(137,yy0)] []
theorem yPA:FrOk Tryz.prog ⟨yHb,78,fun _=>none⟩ yGU:=zkp yc yd ⟨ylM,yu,yUv,yRH,trivial⟩
def ySe:Nat→Option Seg:=fun _=>none
abbrev yjd:List Par:= [.rd tA]
abbrev yta:List OT:= [⟨false,tB,.fz⟩]
def yo5 (a0:dA):Option (ResD yta×MutD yjd) :=
  let r1:=ye a0.2.1
  bif (!(!r1)) then
    let r2:=ya a0.1 1 60000
    bif (!(!r2)) then
      bnd (yq4 a0) fun r3 =>
      bif (!(!r3.1.1)) then
        bnd (yoX a0) fun r4 =>
        bif (!r4.1.1) then
          some ((false,()),())
        else
          let r5:=ya a0.2.2.2.1 (-1) (IntKind.i64.wrap (a0.2.1.1 - 1))
          bif (!(!r5)) then
            let r6:=ya a0.2.2.2.2.1 0 a0.2.1.2
            bif (!(!r6)) then
              bif (a0.2.2.2.1==(-1)) then
                bif (a0.2.2.2.2.1 !=0) then
                  some ((false,()),())
                else
                  let r7:=ya a0.2.2.2.2.2.2.1 0 60000
                  bif r7 then
                    let r8:=ya a0.2.2.2.2.2.1 a0.2.2.2.2.2.2.1 60000
                    bif r8 then
                      bif (leb a0.2.2.2.2.2.1 (IntKind.i64.wrap (a0.2.2.2.2.2.2.1+4))) then
                        let r9:=ya a0.2.2.2.2.2.2.2.1 0 60000
                        bif r9 then
                          let r10:=ya a0.2.2.2.2.2.2.2.2.2.1 (-1) 1000
                          some ((r10,()),())
                        else
                          some ((false,()),())
                      else
                        some ((false,()),())
                    else
                      some ((false,()),())
                  else
                    some ((false,()),())
              else
                let r11:=ya a0.2.2.2.2.2.2.1 0 60000
                bif r11 then
                  let r12:=ya a0.2.2.2.2.2.1 a0.2.2.2.2.2.2.1 60000
                  bif r12 then
                    bif (leb a0.2.2.2.2.2.1 (IntKind.i64.wrap (a0.2.2.2.2.2.2.1+4))) then
                      let r13:=ya a0.2.2.2.2.2.2.2.1 0 60000
                      bif r13 then
                        let r14:=ya a0.2.2.2.2.2.2.2.2.2.1 (-1) 1000
                        some ((r14,()),())
                      else
                        some ((false,()),())
                    else
                      some ((false,()),())
                  else
                    some ((false,()),())
                else
                  some ((false,()),())
            else
              some ((false,()),())
          else
            some ((false,()),())
      else
        some ((false,()),())
    else
      some ((false,()),())
  else
    some ((false,()),())
theorem yW5 (x:InD yjd):zjH ⟨yHb,78,ySe⟩ Tryz.f46.results.toList yGU yjd yta x=yo5 x.1:=by kernel_rfl
theorem yTU:ConOk Tryz.prog 46 ⟨yjd,yta,fun x=>yo5 x.1⟩:=zkh (yPA) Tryz.func46 (by kernel_rfl) (by kernel_rfl) Tryz.ntmps46.symm (by decide) (fun x r h=>(yW5 x).trans h)
def yD (a0:dA):Bool:=yo a0
theorem yWa (a0:dA) (hk:zi9 yjd (a0,())):yo5 a0=(fun n=>some ((n,()),())) (yD a0):=by
  unfold yo5 yD yo
  simp only [ybC]
  cases hg:ye a0.2.1
  · rfl
  have hg2:=yg.1 hg
  rw [yUA a0 hg,yRM a0 hg,wr (show -9223372036854775808≤a0.2.1.1 - 1 by omega) (by omega)]
  simp only [zky,ylI,yj1,Bool.not_not,cond_true]
  cases (leb 1 a0.1&&leb a0.1 60000)
  · rfl
  cases yly a0
  · rfl
  cases yaz a0.2.1 a0.2.2.2.2.2.2.2.2.1
  · rfl
  cases (leb (-1) a0.2.2.2.1&&leb a0.2.2.2.1 (a0.2.1.1 - 1))
  · rfl
  cases (leb 0 a0.2.2.2.2.1&&leb a0.2.2.2.2.1 a0.2.1.2)
  · rfl
  have ht:(leb 0 a0.2.2.2.2.2.2.1&&leb a0.2.2.2.2.2.2.1 60000)=true→IntKind.i64.wrap (a0.2.2.2.2.2.2.1+4)=a0.2.2.2.2.2.2.1+4:=fun h=>by
    rw [Bool.and_eq_true,zjQ,zjQ]at h
    exact wr (by omega) (by omega)
  cases hT:(leb 0 a0.2.2.2.2.2.2.1&&leb a0.2.2.2.2.2.2.1 60000)
  · cases (a0.2.2.2.1== -1)<;>cases (a0.2.2.2.2.1 !=0)<;>rfl
  rw [ht hT]
  cases (leb a0.2.2.2.2.2.2.1 a0.2.2.2.2.2.1&&leb a0.2.2.2.2.2.1 60000)
  · cases (a0.2.2.2.1== -1)<;>cases (a0.2.2.2.2.1 !=0)<;>rfl
  cases leb a0.2.2.2.2.2.1 (a0.2.2.2.2.2.2.1+4)
  · cases (a0.2.2.2.1== -1)<;>cases (a0.2.2.2.2.1 !=0)<;>rfl
  cases (leb 0 a0.2.2.2.2.2.2.2.1&&leb a0.2.2.2.2.2.2.2.1 60000)<;>cases (a0.2.2.2.1== -1)<;>cases (a0.2.2.2.2.1 !=0)<;>rfl
def yfw:Con:=⟨yjd,yta,fun x=>(fun n=>some ((n,()),())) (yD x.1)⟩
theorem ylL:ConOk Tryz.prog 46 yfw:=(yTU).mono (fun x r hk h=>(yWa x.1 hk).trans h)
end
section
def yno:Code:=(Tryz.f94.body).getD .skip
def ysD:Env:=zki TT [] []
theorem yPO:FrOk Tryz.prog ⟨ysD,32,fun _=>none⟩ yno:=zkp yc yd trivial
def yDi:Nat→Option Seg:=fun _=>none
def yev:Shape:=⟨[(0,false,[.fz tY]),(3,false,[.int .i64]),(4,false,[.int .i64])],[],[]⟩
def ymn:Shape:=⟨[(0,false,[.fz tY]),(3,false,[.int .i64]),(4,false,[.ci .i64 0])],[],[]⟩
def ymm:Shape:=⟨[(0,false,[.fz tY]),(3,false,[.int .i64])],[],[]⟩
def ymJ:Shape:=⟨[],[],[]⟩
def yAn (v0:List Int) (v1:Int) (v2:Int):Option ((yev).X ⊕ ((ymm).X ⊕ (ymJ).X)) :=
  bif (ltb v2 (v0.length:Int)) then
    bif (ltb v2 4000) then
      bif (inb v2 v0.length) then
        some (.inl (((v0,()),((IntKind.i64.wrap ((BitVec.ofInt IntKind.i64.bits (IntKind.i64.wrap ((IntKind.i64.wrap ((IntKind.i64.wrap (v1 * 137))+(IntKind.i64.wrap (nth v0 v2 0))))+11)) &&& BitVec.ofInt IntKind.i64.bits 1073741823).toNat:Int)),()),((IntKind.i64.wrap (v2+1)),()),()),(),()))
      else none
    else
      some (.inr (.inl (((v0,()),(v1,()),()),(),())))
  else
    some (.inr (.inl (((v0,()),(v1,()),()),(),())))
def yfe (x:(yev).X):=yAn x.1.1.1 x.1.2.1.1 x.1.2.2.1.1
def yzd (x:(ymn).X):(yev).X:=(((x.1.1.1,()),(x.1.2.1.1,()),(0,()),()),(),())
def yBx:Code:=(zdI yno 64 116).getD .skip
theorem yOJ:zdI yno 64 29=some (.block 0 (.loop yBx)):=by kernel_rfl
theorem yRY (x:(yev).X):zg7 ⟨ysD,32,yDi⟩ 0 yBx 116 yev ymm ymJ x=yfe x:=by kernel_rfl
def yzv (x:(ymn).X):Nat:=(fun (u0:List Int) (u1:Int)=>18446744073709551616) x.1.1.1 x.1.2.1.1
def ysU (x:(ymn).X):Option ((ymm).X ⊕ (ymJ).X):=zr yfe (yzv x) (yzd x)
def yAg:Seg:=⟨ymn,ymm,ymJ,ysU⟩
def yDj:Nat→Option Seg:=fun q=>bif Nat.beq q 29 then some yAg else yDi q
theorem yPP:FrOk Tryz.prog ⟨ysD,32,yDj⟩ yno:=(yPO).loop (sg:=yAg) yev yzd (by decide) yOJ yfe yzv (by decide) (fun _=>rfl) (fun x r _ h=>h) yRY
abbrev yjl:List Par:= [.kp tYs .fz]
abbrev ytj:List OT:= [⟨true,tU,.fz⟩]
def yfI (a0:List Int):Option (ResD ytj×MutD yjl) :=
  zjw (ysU (((a0,()),((IntKind.i64.wrap (770770+(a0.length:Int))),()),((),()),()),(),())) (fun y0 =>
    some (((y0.1.1.1,0,y0.1.2.1.1),()),())) (fun y0 =>
    none)
theorem yXe (x:InD yjl):zjH ⟨ysD,32,yDj⟩ Tryz.f94.results.toList yno yjl ytj x=yfI x.1:=by kernel_rfl
theorem yT3:ConOk Tryz.prog 94 ⟨yjl,ytj,fun x=>yfI x.1⟩:=zkh (yPP) Tryz.func94 (by kernel_rfl) (by kernel_rfl) Tryz.ntmps94.symm (by decide) (fun x r h=>(yXe x).trans h)
def ybz (a0:List Int):List Int×Int×Int:=(((yfI a0).getD (((([]:List Int),(0:Int),(0:Int)),()),())).1).1
def yI (u:List Int×Int×Int):Prop:=0≤u.2.1∧(u.1.length:Int)≤140737488355328
theorem yXB (a0:List Int) (hb:a0.length≤140737488355328): ∃ s:Int,yfI a0=some (((a0,0,s),()),()):=by
  have hl: ∃ b,ysU (((a0,()),((IntKind.i64.wrap (770770+(a0.length:Int))),()),((),()),()),(),())=some b∧(∃ s:Int,b= .inl (((a0,()),(s,()),()),(),())):=by
    refine ziU (step:=yfe) (fun x=>(a0.length - (x.1.2.2.1.1:Int).toNat)) (fun x=>(x.1.1.1:List Int)=a0∧(0:Int)≤(x.1.2.2.1.1:Int)) _ ?_ _ _ ⟨rfl,Int.le_refl _⟩ (by show a0.length - _ < 18446744073709551616; omega)
    rintro ⟨⟨⟨(l:List Int),_⟩,⟨(s:Int),_⟩,⟨(i:Int),_⟩,_⟩,_,_⟩ ⟨h0,hi⟩
    simp only at h0 hi
    subst h0
    simp only [yfe,yAn]
    by_cases h1:i < (l.length:Int)
    · rw [zjI h1]
      by_cases h2:i < 4000
      · rw [zjI h2,zjP.2 ⟨hi,h1⟩]
        refine .inl ⟨_,rfl,⟨rfl,?_⟩,?_⟩
        · show 0≤IntKind.i64.wrap (i+1); rw [wr (by omega) (by omega)]; omega
        · show l.length - (IntKind.i64.wrap (i+1)).toNat < l.length - i.toNat; rw [wr (by omega) (by omega)]; omega
      · rw [zkm (Int.not_lt.1 h2)]
        exact .inr ⟨_,rfl,_,rfl⟩
    · rw [zkm (Int.not_lt.1 h1)]
      exact .inr ⟨_,rfl,_,rfl⟩
  obtain ⟨b,e,s,rfl⟩:=hl
  refine ⟨s,?_⟩
  unfold yfI
  rw [e]; rfl
theorem yWh (a0:List Int) (hk:zi9 yjl (a0,())):yfI a0=(fun n=>some ((n,()),())) (ybz a0):=by
  obtain ⟨s,e⟩:=yXB a0 (by have:a0.length * 1≤2 ^ 47:=hk.1.1; omega)
  unfold ybz
  rw [e]; rfl
theorem yHw (a0:List Int) (hb:a0.length≤140737488355328):yI (ybz a0):=by
  obtain ⟨s,e⟩:=yXB a0 hb
  unfold ybz
  rw [e]
  exact ⟨Int.le_refl _,by show (a0.length:Int)≤_; omega⟩
def yfA:Con:=⟨yjl,ytj,fun x=>(fun n=>some ((n,()),())) (ybz x.1)⟩
theorem ylP:ConOk Tryz.prog 94 yfA:=(yT3).mono (fun x r hk h=>(yWh x.1 hk).trans h)
end
end
end Go.Tf
