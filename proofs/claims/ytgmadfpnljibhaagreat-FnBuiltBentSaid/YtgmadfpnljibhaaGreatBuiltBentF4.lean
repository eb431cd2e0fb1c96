/- Functions of the program, and what they come to. -/
import Derived.Test.YtgmadfpnljibhaaGreatBuiltBentF3
namespace Go.Tf
noncomputable section
open Go.Proofs
set_option synthInstance.maxHeartbeats 400000
set_option synthInstance.maxSize 10000
set_option linter.unusedVariables false
set_option linter.unusedSimpArgs false
set_option maxRecDepth 100000
section
def yHo:Code:=(Tryz.f141.body).getD .skip
def yHR:Env:=zki TT [(135,yq)] []
theorem yOL:FrOk Tryz.prog ⟨yHR,9,fun _=>none⟩ yHo:=zkp yc yd ⟨yz,trivial⟩
def yRf:Nat→Option Seg:=fun _=>none
abbrev ymB:List Par:= [.rd tI]
abbrev ysl:List OT:= [⟨false,tI,.fz⟩]
def yvL (a0:Int):Option (ResD ysl×MutD ymB) :=
  let r1:=ya a0 0 1099511627776
  bif (!r1) then
    some (((-1),()),())
  else
    some (((IntKind.i64.wrap ((IntKind.i64.wrap (a0+2))+4)),()),())
theorem yXJ (x:InD ymB):zjH ⟨yHR,9,yRf⟩ Tryz.f141.results.toList yHo ymB ysl x=yvL x.1:=by kernel_rfl
theorem yTI:ConOk Tryz.prog 141 ⟨ymB,ysl,fun x=>yvL x.1⟩:=zkh (yOL) Tryz.func141 (by kernel_rfl) (by kernel_rfl) Tryz.ntmps141.symm (by decide) (fun x r h=>(yXJ x).trans h)
def yaC (a0:Int):Int :=
  let r1:=ya a0 0 1099511627776
  bif (!r1) then
    (-1)
  else
    (IntKind.i64.wrap ((IntKind.i64.wrap (a0+2))+4))
def ydi:Con:=⟨ymB,ysl,fun x=>(fun n=>some ((n,()),())) (yaC x.1)⟩
theorem yVL (a0:Int):yvL a0=(fun n=>some ((n,()),())) (yaC a0):=zkS (p:=fun (n:Int)=>((n,()),())) (zkx (p:=fun (n:Int)=>((n,()),())) rfl rfl)
theorem ygG:ConOk Tryz.prog 141 ydi:=(yTI).mono (fun x r _ h=>(yVL x.1).trans h)
theorem yet (s:Int):yaC s=ycA s:=by
  unfold yaC ycA
  rw [ydj]
  by_cases h:0≤s∧s≤1099511627776
  · rw [zk0 h.1,zk0 h.2,wr (show -9223372036854775808≤s+2 by omega) (by omega),wr (by omega) (by omega)]
    show s+2+4=s+6
    omega
  · cases h1:(leb 0 s&&leb s 1099511627776)
    · rfl
    · rw [Bool.and_eq_true,zjQ,zjQ]at h1; exact absurd h1 h
end
section
def yHq:Code:=(Tryz.f48.body).getD .skip
def yHT:Env:=zki TT [(135,yq)] []
theorem yON:FrOk Tryz.prog ⟨yHT,34,fun _=>none⟩ yHq:=zkp yc yd ⟨yz,trivial⟩
def yRh:Nat→Option Seg:=fun _=>none
abbrev yhZ:List Par:= [.rd tA,.rd tI,.rd tI]
abbrev ysn:List OT:= [⟨false,tB,.fz⟩]
def yoz (a0:dA) (a1:Int) (a2:Int):Option (ResD ysn×MutD yhZ) :=
  let r1:=ya a1 0 (IntKind.i64.wrap ((a0.2.2.1.length:Int) - 1))
  bif r1 then
    bif (inb a1 a0.2.2.1.length) then
      bif (!((((nth a0.2.2.1 a1 ([],[],false,[])).2).2).1)) then
        bif (!(a1 !=a0.2.2.2.1)) then
          some (((ltb a2 a0.2.2.2.2.1),()),())
        else
          some ((true,()),())
      else
        some ((false,()),())
    else none
  else
    some ((false,()),())
theorem yXL (x:InD yhZ):zjH ⟨yHT,34,yRh⟩ Tryz.f48.results.toList yHq yhZ ysn x=yoz x.1 x.2.1 x.2.2.1:=by kernel_rfl
theorem yTK:ConOk Tryz.prog 48 ⟨yhZ,ysn,fun x=>yoz x.1 x.2.1 x.2.2.1⟩:=zkh (yON) Tryz.func48 (by kernel_rfl) (by kernel_rfl) Tryz.ntmps48.symm (by decide) (fun x r h=>(yXL x).trans h)
def ydQ (a0:dA) (a1 a2:Int):Bool:=ydk a0 a1 a2
theorem yVN (a0:dA) (a1 a2:Int) (hk:zi9 yhZ (a0,a1,a2,())):yoz a0 a1 a2=(fun n=>some ((n,()),())) (ydQ a0 a1 a2):=by
  have hb:a0.2.2.1.length * 80≤2 ^ 47:=hk.1.2.2.1.1
  unfold yoz ydQ ydk ye
  rw [ypz (show a0.2.2.1.length≤1152921504606846976 by omega)]
  cases inb a1 a0.2.2.1.length
  · rfl
  · cases (nth a0.2.2.1 a1 ([],[],false,[])).2.2.1<;>cases (a1 !=a0.2.2.2.1)<;>rfl
def yva:Con:=⟨yhZ,ysn,fun x=>(fun n=>some ((n,()),())) (ydQ x.1 x.2.1 x.2.2.1)⟩
theorem yGs:ConOk Tryz.prog 48 yva:=(yTK).mono (fun x r hk h=>(yVN x.1 x.2.1 x.2.2.1 hk).trans h)
end
section
def yoS:Code:=(Tryz.f238.body).getD .skip
def yuh:Env:=zki TT [] []
theorem ySL:FrOk Tryz.prog ⟨yuh,18,fun _=>none⟩ yoS:=zkp yc yd trivial
def yFx:Nat→Option Seg:=fun _=>none
def ydb:Shape:=⟨[(0,false,[.br tI]),(1,false,[.int .i64]),(5,false,[.int .i64])],[],[]⟩
def yiR:Shape:=⟨[(0,false,[.br tI]),(1,false,[.int .i64]),(5,false,[.ci .i64 0])],[],[]⟩
def yiC:Shape:=⟨[],[],[]⟩
def yjh:Shape:=⟨[(4,false,[.bool])],[],[]⟩
abbrev ytn (v0:List Int) (v1:Int) (v2:Int):(ydb).X:=(((v0,()),(v1,()),(v2,()),()),(),())
abbrev yPF (v0:List Int) (v1:Int):(yiR).X:=(((v0,()),(v1,()),((),()),()),(),())
abbrev yPu  :(yiC).X:=((),(),())
abbrev yPQ (v0:Bool):(yjh).X:=(((v0,()),()),(),())
def ytM (v0:List Int) (v1:Int) (v2:Int):Option ((ydb).X ⊕ ((yiC).X ⊕ (yjh).X)) :=
  bif (ltb v2 (v0.length:Int)) then
    bif (inb v2 v0.length) then
      bif ((nth v0 v2 0)==v1) then
        some (.inr (.inr (((true,()),()),(),())))
      else
        some (.inl (((v0,()),(v1,()),((IntKind.i64.wrap (v2+1)),()),()),(),()))
    else none
  else
    some (.inr (.inl ((),(),())))
def ydI (x:(ydb).X):=ytM x.1.1.1 x.1.2.1.1 x.1.2.2.1.1
def yB3 (x:(yiR).X):(ydb).X:=(((x.1.1.1,()),(x.1.2.1.1,()),(0,()),()),(),())
def yD4:Code:=(zdI yoS 64 52).getD .skip
theorem yRF:zdI yoS 64 13=some (.block 0 (.loop yD4)):=by kernel_rfl
theorem yUw (x:(ydb).X):zg7 ⟨yuh,18,yFx⟩ 0 yD4 52 ydb yiC yjh x=ydI x:=by kernel_rfl
def yCj (x:(yiR).X):Nat:=(fun (u0:List Int) (u1:Int)=>18446744073709551616) x.1.1.1 x.1.2.1.1
def yuv (x:(yiR).X):Option ((yiC).X ⊕ (yjh).X):=zr ydI (yCj x) (yB3 x)
def yCV:Seg:=⟨yiR,yiC,yjh,yuv⟩
def yFy:Nat→Option Seg:=fun q=>bif Nat.beq q 13 then some yCV else yFx q
theorem ySM:FrOk Tryz.prog ⟨yuh,18,yFy⟩ yoS:=(ySL).loop (sg:=yCV) ydb yB3 (by decide) yRF ydI yCj (by decide) (fun _=>rfl) (fun x r _ h=>h) yUw
abbrev ykO:List Par:= [.rd tL,.rd tI]
abbrev yuW:List OT:= [⟨false,tB,.fz⟩]
def yqU (a0:List Int) (a1:Int):Option (ResD yuW×MutD ykO) :=
  zjw (yuv (((a0,()),(a1,()),((),()),()),(),())) (fun y0 =>
    some ((false,()),())) (fun y0 =>
    some ((y0.1.1.1,()),()))
theorem yZo (x:InD ykO):zjH ⟨yuh,18,yFy⟩ Tryz.f238.results.toList yoS ykO yuW x=yqU x.1 x.2.1:=by kernel_rfl
theorem yWp:ConOk Tryz.prog 238 ⟨ykO,yuW,fun x=>yqU x.1 x.2.1⟩:=zkh (ySM) Tryz.func238 (by kernel_rfl) (by kernel_rfl) Tryz.ntmps238.symm (by decide) (fun x r h=>(yZo x).trans h)
def yhC (a0:List Int) (a1:Int):Bool:=a0.any (· ==a1)
theorem yYt (a0:List Int) (a1:Int) (hk:zi9 ykO (a0,a1,())):yqU a0 a1=(fun n=>some ((n,()),())) (yhC a0 a1):=by
  have hb:a0.length * 8≤2 ^ 47:=hk.1.1
  have h1:yuv (yPF a0 a1)=some (bif a0.all (· !=a1) then .inl yPu else .inr (yPQ true)) :=
    zjS (step:=ydI) a0 0 (fun i=>ytn a0 a1 i) (· !=a1) _ _ (fun i hi=>by
      simp only [ydI,ytn,ytM,zjI (show (i:Int) < a0.length by omega),cond_true,wr (show -9223372036854775808≤(i:Int)+1 by omega) (by omega),Int.natCast_add,Int.natCast_one,Int.toNat_natCast,zkO hi,zjW,bne]
      cases (a0.getD i 0==a1)<;>rfl) (by simp only [ydI,ytn,ytM,zkm (Int.le_refl _),cond_false]) _ (by show _ < 18446744073709551616; omega)
  unfold yqU yhC
  rw [h1,show a0.any (· ==a1)= !(a0.all (· !=a1)) by simp [List.all_eq_not_any_not,bne]]
  cases a0.all (· !=a1)<;>rfl
def ywW:Con:=⟨ykO,yuW,fun x=>(fun n=>some ((n,()),())) (yhC x.1 x.2.1)⟩
theorem yIf:ConOk Tryz.prog 238 ywW:=(yWp).mono (fun x r hk h=>(yYt x.1 x.2.1 hk).trans h)
end
section
def ykn:Code:=(Tryz.f159.body).getD .skip
def yqb:Env:=zki TT [(135,yq),(224,ygz),(238,ywW)] []
theorem yMk:FrOk Tryz.prog ⟨yqb,60,fun _=>none⟩ ykn:=zkp yc yd ⟨yz,ym8,yIf,trivial⟩
def yBa:Nat→Option Seg:=fun _=>none
def ybE:Shape:=⟨[(1,false,[.int .i64]),(2,false,[.ptr 0 0]),(6,false,[.br tI]),(7,false,[.int .i64])],[(0,[.br tL,.br tW,.bool,.br tI])],[]⟩
def yf2:Shape:=⟨[(1,false,[.int .i64]),(2,false,[.ptr 0 0]),(6,false,[.br tI]),(7,false,[.ci .i64 0])],[(0,[.br tL,.br tW,.bool,.br tI])],[]⟩
def yfR:Shape:=⟨[(6,false,[.br tI])],[],[]⟩
def yjV:Shape:=⟨[],[],[]⟩
abbrev ypI (v0:Int) (v1:List Int) (v2:Int) (v3:dM):(ybE).X:=(((v0,()),((),()),(v1,()),(v2,()),()),((v3.1,v3.2.1,v3.2.2.1,v3.2.2.2,()),()),())
abbrev yKQ (v0:Int) (v1:List Int) (v2:dM):(yf2).X:=(((v0,()),((),()),(v1,()),((),()),()),((v2.1,v2.2.1,v2.2.2.1,v2.2.2.2,()),()),())
abbrev yyv (v0:List Int):(yfR).X:=(((v0,()),()),(),())
def yp1 (v0:Int) (v1:List Int) (v2:Int) (v3:List (List Int)) (v4:List dW) (v5:Bool) (v6:List Int):Option ((ybE).X ⊕ ((yfR).X ⊕ (yjV).X)) :=
  bif (ltb v2 (v4.length:Int)) then
    bif (inb v2 v4.length) then
      bif ((nth v4 v2 (0,[])).1==v0) then
        bif (inb v2 v4.length) then
          some (.inl (((v0,()),((),()),((nth v4 v2 (0,[])).2,()),((IntKind.i64.wrap (v2+1)),()),()),((v3,v4,v5,v6,()),()),()))
        else none
      else
        some (.inl (((v0,()),((),()),(v1,()),((IntKind.i64.wrap (v2+1)),()),()),((v3,v4,v5,v6,()),()),()))
    else none
  else
    some (.inr (.inl (((v1,()),()),(),())))
def ybT (x:(ybE).X):=yp1 x.1.1.1 x.1.2.2.1.1 x.1.2.2.2.1.1 x.2.1.1.1 x.2.1.1.2.1 x.2.1.1.2.2.1 x.2.1.1.2.2.2.1
def yx4 (x:(yf2).X):(ybE).X:=(((x.1.1.1,()),((),()),(x.1.2.2.1.1,()),(0,()),()),((x.2.1.1.1,x.2.1.1.2.1,x.2.1.1.2.2.1,x.2.1.1.2.2.2.1,()),()),())
def yzC:Code:=(zdI ykn 64 244).getD .skip
theorem yLT:zdI ykn 64 61=some (.block 0 (.loop yzC)):=by kernel_rfl
theorem yNA (x:(ybE).X):zg7 ⟨yqb,60,yBa⟩ 0 yzC 244 ybE yfR yjV x=ybT x:=by kernel_rfl
def yyj (x:(yf2).X):Nat:=(fun (u0:Int) (u1:List Int) (u2:List (List Int)) (u3:List dW) (u4:Bool) (u5:List Int)=>18446744073709551616) x.1.1.1 x.1.2.2.1.1 x.2.1.1.1 x.2.1.1.2.1 x.2.1.1.2.2.1 x.2.1.1.2.2.2.1
def yq9 (x:(yf2).X):Option ((yfR).X ⊕ (yjV).X):=zr ybT (yyj x) (yx4 x)
def yyJ:Seg:=⟨yf2,yfR,yjV,yq9⟩
def yBb:Nat→Option Seg:=fun q=>bif Nat.beq q 61 then some yyJ else yBa q
theorem yMl:FrOk Tryz.prog ⟨yqb,60,yBb⟩ ykn:=(yMk).loop (sg:=yyJ) ybE yx4 (by decide) yLT ybT yyj (by decide) (fun _=>rfl) (fun x r _ h=>h) yNA
abbrev ygv:List Par:= [.rd tM,.rd tI]
abbrev yqr:List OT:= [⟨false,tL,(.ow .fz)⟩,⟨false,tB,.fz⟩]
def yl8 (a0:dM) (a1:Int):Option (ResD yqr×MutD ygv) :=
  let r1:=yam a0
  bif (!(!r1)) then
    bif (!a0.2.2.1) then
      let r2:=ya a1 0 (IntKind.i64.wrap ((a0.1.length:Int) - 1))
      bif (!(!r2)) then
        let r3:=yhC a0.2.2.2 a1
        bif r3 then
          some ((([]:List Int),false,()),())
        else
          bif (inb a1 a0.1.length) then
            zjw (yq9 (((a1,()),((),()),((nth a0.1 a1 []),()),((),()),()),((a0.1,a0.2.1,a0.2.2.1,a0.2.2.2,()),()),())) (fun y3 =>
              bif (zj4 ([]:List Int).length y3.1.1.1.length 8) then
                some (((([]:List Int)++y3.1.1.1),true,()),())
              else none) (fun y3 =>
              none)
          else none
      else
        some ((([]:List Int),false,()),())
    else
      some ((([]:List Int),false,()),())
  else
    some ((([]:List Int),false,()),())
theorem yVf (x:InD ygv):zjH ⟨yqb,60,yBb⟩ Tryz.f159.results.toList ykn ygv yqr x=yl8 x.1 x.2.1:=by kernel_rfl
theorem yQp:ConOk Tryz.prog 159 ⟨ygv,yqr,fun x=>yl8 x.1 x.2.1⟩:=zkh (yMl) Tryz.func159 (by kernel_rfl) (by kernel_rfl) Tryz.ntmps159.symm (by decide) (fun x r h=>(yVf x).trans h)
def ylg (a0:dM) (a1:Int):List Int×Bool:=ydy a0 a1
theorem yTl (a0:dM) (a1:Int) (hk:zi9 ygv (a0,a1,())):yl8 a0 a1=(fun n=>some ((n.1,n.2,()),())) (ylg a0 a1):=by
  have hb1:a0.1.length * 24≤2 ^ 47:=hk.1.1.1
  have hb2:a0.2.1.length * 32≤2 ^ 47:=hk.1.2.1.1
  have h1: ∀ s,yq9 (yKQ a1 s a0)=some (.inl (yyv (yGl a1 a0.2.1 s))):=fun s =>
    zkk (step:=ybT) a0.2.1 (0,[]) (fun i s=>ypI a1 s i a0) (fun s w=>bif w.1==a1 then w.2 else s) (fun _ _=>True) (fun s=> .inl (yyv s)) (fun i s hi _=>⟨by
      simp only [ybT,ypI,yp1,zjI (show (i:Int) < a0.2.1.length by omega),cond_true,wr (show -9223372036854775808≤(i:Int)+1 by omega) (by omega),Int.natCast_add,Int.natCast_one,Int.toNat_natCast,zkO hi,zjW]
      cases ((a0.2.1.getD i (0,[])).1==a1)<;>rfl,trivial⟩) (fun s _=>by simp only [ybT,ypI,yp1,zkm (Int.le_refl _),cond_false]) s trivial _ (by show _ < 18446744073709551616; omega)
  unfold yl8 ylg ydy yAO
  rw [ypz (show a0.1.length≤1152921504606846976 by omega)]
  unfold yam yhC
  simp only [h1,zkJ,List.nil_append]
  cases yp a0
  · rfl
  cases a0.2.2.1
  · cases hi:inb a1 a0.1.length
    · rfl
    · cases a0.2.2.2.any (· ==a1)
      · have hs:(yGl a1 a0.2.1 (nth a0.1 a1 [])).length * 8≤2 ^ 47 :=
          yG0 (P:=fun s=>s.length * 8≤2 ^ 47) (yw2 (P:=fun s:List Int=>s.length * 8≤2 ^ 47) hi fun x hx=>(hk.1.1.2 x hx).1) fun w hw=>(hk.1.2.1.2 w hw).2.1
        simp only [Bool.not_true,Bool.not_false,cond_true,cond_false,Bool.true_and,show zj4 ([]:List Int).length (yGl a1 a0.2.1 (nth a0.1 a1 [])).length 8=true from zkw.2 (by rw [List.length_nil]; omega)]
      · rfl
  · rfl
def yBN:Con:=⟨ygv,yqr,fun x=>(fun n=>some ((n.1,n.2,()),())) (ylg x.1 x.2.1)⟩
theorem yUe:ConOk Tryz.prog 159 yBN:=(yQp).mono (fun x r hk h=>(yTl x.1 x.2.1 hk).trans h)
end
section
def yHA:Code:=(Tryz.f215.body).getD .skip
def yH3:Env:=zki TT [(48,yva),(141,ydi),(159,yBN)] []
theorem yPd:FrOk Tryz.prog ⟨yH3,36,fun _=>none⟩ yHA:=zkp yc yd ⟨yGs,ygG,yUe,trivial⟩
def yRr:Nat→Option Seg:=fun _=>none
abbrev yh4:List Par:= [.rd tA,.rd tI,.rd tI]
abbrev ysB:List OT:= [⟨false,tI,.fz⟩,⟨false,tB,.fz⟩]
def yoG (a0:dA) (a1:Int) (a2:Int):Option (ResD ysB×MutD yh4) :=
  let r1:=ydQ a0 a1 a2
  bif (!r1) then
    some ((0,false,()),())
  else
    bif (inb a1 a0.2.2.1.length) then
      let r2:=yaC a2
      let r3:=ylg ((nth a0.2.2.1 a1 ([],[],false,[])).1,((nth a0.2.2.1 a1 ([],[],false,[])).2).1,(((nth a0.2.2.1 a1 ([],[],false,[])).2).2)) r2
      bif (!(!r3.2)) then
        bif ((r3.1.length:Int) !=1) then
          some ((0,false,()),())
        else
          bif (inb 0 r3.1.length) then
            some (((nth r3.1 0 0),true,()),())
          else none
      else
        some ((0,false,()),())
    else none
theorem yX2 (x:InD yh4):zjH ⟨yH3,36,yRr⟩ Tryz.f215.results.toList yHA yh4 ysB x=yoG x.1 x.2.1 x.2.2.1:=by kernel_rfl
theorem yT1:ConOk Tryz.prog 215 ⟨yh4,ysB,fun x=>yoG x.1 x.2.1 x.2.2.1⟩:=zkh (yPd) Tryz.func215 (by kernel_rfl) (by kernel_rfl) Tryz.ntmps215.symm (by decide) (fun x r h=>(yX2 x).trans h)
def ym6 (a0:dA) (a1 a2:Int):Int×Bool:=(yxl a0 a1 a2,yn a0 a1 a2)
theorem yVY (a0:dA) (a1 a2:Int) (hk:zi9 yh4 (a0,a1,a2,())):yoG a0 a1 a2=(fun n=>some ((n.1,n.2,()),())) (ym6 a0 a1 a2):=by
  unfold yoG ym6 yxl ydQ
  simp only [zkV,yet,ylg]
  rw [show yn a0 a1 a2=(ydk a0 a1 a2&&((yew a0 a1 a2).2&&((yew a0 a1 a2).1.length:Int)==1)) from rfl]
  rw [show ydy (nth a0.2.2.1 a1 ([],[],false,[])) (ycA a2)=yew a0 a1 a2 from rfl]
  cases hl:ydk a0 a1 a2
  · rfl
  · rw [show inb a1 a0.2.2.1.length=true by unfold ydk at hl; exact (Bool.and_eq_true_iff.1 hl).1]
    cases (yew a0 a1 a2).2
    · rfl
    · rw [bne]
      cases h1:(((yew a0 a1 a2).1.length:Int)==1)
      · rfl
      · rw [show inb 0 (yew a0 a1 a2).1.length=true from zjP.2 (by have:=beq_iff_eq.1 h1; omega)]; rfl
def yEp:Con:=⟨yh4,ysB,fun x=>(fun n=>some ((n.1,n.2,()),())) (ym6 x.1 x.2.1 x.2.2.1)⟩
theorem yWQ:ConOk Tryz.prog 215 yEp:=(yT1).mono (fun x r hk h=>(yVY x.1 x.2.1 x.2.2.1 hk).trans h)
end
section
def yeB:Code:=(Tryz.f262.body).getD .skip
def yil:Env:=zki TT [] []
theorem yGf:FrOk Tryz.prog ⟨yil,23,fun _=>none⟩ yeB:=zkp yc yd trivial
def yt5:Nat→Option Seg:=fun _=>none
def yal:Shape:=⟨[(0,false,[.br tI]),(1,false,[.int .i64]),(5,false,[.int .i64]),(6,false,[.int .i64])],[],[]⟩
def ycy:Shape:=⟨[(0,false,[.br tI]),(1,false,[.int .i64]),(5,false,[.ci .i64 0]),(6,false,[.ci .i64 0])],[],[]⟩
def ycw:Shape:=⟨[(5,false,[.int .i64])],[],[]⟩
def yfo:Shape:=⟨[],[],[]⟩
abbrev yjD (v0:List Int) (v1:Int) (v2:Int) (v3:Int):(yal).X:=(((v0,()),(v1,()),(v2,()),(v3,()),()),(),())
abbrev yEW (v0:List Int) (v1:Int):(ycy).X:=(((v0,()),(v1,()),((),()),((),()),()),(),())
abbrev yEU (v0:Int):(ycw).X:=(((v0,()),()),(),())
def yjH (v0:List Int) (v1:Int) (v2:Int) (v3:Int):Option ((yal).X ⊕ ((ycw).X ⊕ (yfo).X)) :=
  bif (ltb v3 (v0.length:Int)) then
    bif (v3 !=v1) then
      bif (inb v3 v0.length) then
        some (.inl (((v0,()),(v1,()),((IntKind.i64.wrap ((BitVec.ofInt IntKind.i64.bits v2 ^^^ BitVec.ofInt IntKind.i64.bits (nth v0 v3 0)).toNat:Int)),()),((IntKind.i64.wrap (v3+1)),()),()),(),()))
      else none
    else
      some (.inl (((v0,()),(v1,()),(v2,()),((IntKind.i64.wrap (v3+1)),()),()),(),()))
  else
    some (.inr (.inl (((v2,()),()),(),())))
def yat (x:(yal).X):=yjH x.1.1.1 x.1.2.1.1 x.1.2.2.1.1 x.1.2.2.2.1.1
def yrS (x:(ycy).X):(yal).X:=(((x.1.1.1,()),(x.1.2.1.1,()),(0,()),(0,()),()),(),())
def ytU:Code:=(zdI yeB 64 116).getD .skip
theorem yFT:zdI yeB 64 29=some (.block 0 (.loop ytU)):=by kernel_rfl
theorem yGy (x:(yal).X):zg7 ⟨yil,23,yt5⟩ 0 ytU 116 yal ycw yfo x=yat x:=by kernel_rfl
def yrU (x:(ycy).X):Nat:=(fun (u0:List Int) (u1:Int)=>18446744073709551616) x.1.1.1 x.1.2.1.1
def ykt (x:(ycy).X):Option ((ycw).X ⊕ (yfo).X):=zr yat (yrU x) (yrS x)
def yr0:Seg:=⟨ycy,ycw,yfo,ykt⟩
def yt6:Nat→Option Seg:=fun q=>bif Nat.beq q 29 then some yr0 else yt5 q
theorem yGg:FrOk Tryz.prog ⟨yil,23,yt6⟩ yeB:=(yGf).loop (sg:=yr0) yal yrS (by decide) yFT yat yrU (by decide) (fun _=>rfl) (fun x r _ h=>h) yGy
abbrev yct:List Par:= [.rd tL,.rd tI]
abbrev yi1:List OT:= [⟨false,tI,.fz⟩]
def ygm (a0:List Int) (a1:Int):Option (ResD yi1×MutD yct) :=
  zjw (ykt (((a0,()),(a1,()),((),()),((),()),()),(),())) (fun y0 =>
    some ((y0.1.1.1,()),())) (fun y0 =>
    none)
theorem yJ4 (x:InD yct):zjH ⟨yil,23,yt6⟩ Tryz.f262.results.toList yeB yct yi1 x=ygm x.1 x.2.1:=by kernel_rfl
theorem yG4:ConOk Tryz.prog 262 ⟨yct,yi1,fun x=>ygm x.1 x.2.1⟩:=zkh (yGg) Tryz.func262 (by kernel_rfl) (by kernel_rfl) Tryz.ntmps262.symm (by decide) (fun x r h=>(yJ4 x).trans h)
def ye2 (a0:List Int) (a1:Int):Int:=ypA a0 a1
theorem yIR (a0:List Int) (a1:Int) (hk:zi9 yct (a0,a1,())):ygm a0 a1=(fun n=>some ((n,()),())) (ye2 a0 a1):=by
  have hb:a0.length * 8≤2 ^ 47:=hk.1.1
  have h1:=zks (step:=yat) a0.length (fun i s=>yjD a0 a1 s i) (fun n (i:Nat)=>bif (i:Int) !=a1 then xw n (nth a0 i 0) else n) (fun _ _=>True) (fun s=> .inl (yEU s)) (fun i s hi _=>⟨by
    simp only [yat,yjD,yjH,zjI (show (i:Int) < a0.length by omega),cond_true,wr (show -9223372036854775808≤(i:Int)+1 by omega) (by omega),Int.natCast_add,Int.natCast_one,Int.toNat_natCast,zkO hi]
    cases ((i:Int) !=a1)<;>rfl,trivial⟩) (fun s _=>by simp only [yat,yjD,yjH,zkm (Int.le_refl _),cond_false]) 0 trivial 18446744073709551616 (by omega)
  rw [y06]at h1
  unfold ygm ye2
  rw [show ykt (yEW a0 a1)=_ from h1]; rfl
def yvb:Con:=⟨yct,yi1,fun x=>(fun n=>some ((n,()),())) (ye2 x.1 x.2.1)⟩
theorem yIX:ConOk Tryz.prog 262 yvb:=(yG4).mono (fun x r hk h=>(yIR x.1 x.2.1 hk).trans h)
end
end
end Go.Tf
