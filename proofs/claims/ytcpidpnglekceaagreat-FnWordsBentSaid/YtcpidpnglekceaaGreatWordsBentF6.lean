/- Functions of the program, and what they come to. -/
import Derived.Test.YtcpidpnglekceaaGreatWordsBentF5
namespace Go.Tf
noncomputable section
open Go.Proofs
set_option synthInstance.maxHeartbeats 400000
set_option synthInstance.maxSize 10000
set_option linter.unusedVariables false
set_option linter.unusedSimpArgs false
set_option maxRecDepth 100000
section
def yzH:Code:=(Tryz.f85.body).getD .skip
def yz8:Env:=zki TT [(115,yq)] []
theorem yEQ:FrOk Tryz.prog ⟨yz8,34,fun _=>none⟩ yzH:=zkp ye yf ⟨yu,trivial⟩
def yG3:Nat→Option Seg:=fun _=>none
abbrev yfg:List Par:= [.rd tA,.rd tI,.rd tI]
abbrev ynt:List OT:= [⟨false,tB,.fz⟩]
def ykl (a0:dA) (a1:Int) (a2:Int):Option (ResD ynt×MutD yfg) :=
  let r1:=yb a1 0 (IntKind.i64.wrap ((a0.2.2.1.length:Int) - 1))
  bif r1 then
    bif (inb a1 a0.2.2.1.length) then
      bif (!((((nth a0.2.2.1 a1 ([],[],false,[])).2).2).1)) then
        bif (!(a1 !=a0.2.2.2.1)) then
          some (((ltb a2 a0.2.2.2.2.1),()),())
        else
          some ((true,()),())
      else
        some ((false,()),())
    else none
  else
    some ((false,()),())
theorem yM8 (x:InD yfg):zjH ⟨yz8,34,yG3⟩ Tryz.f85.results.toList yzH yfg ynt x=ykl x.1 x.2.1 x.2.2.1:=by kernel_rfl
theorem yJk:ConOk Tryz.prog 85 ⟨yfg,ynt,fun x=>ykl x.1 x.2.1 x.2.2.1⟩:=zkh (yEQ) Tryz.func85 (by kernel_rfl) (by kernel_rfl) Tryz.ntmps85.symm (by decide) (fun x r h=>(yM8 x).trans h)
def ycw (a0:dA) (a1 a2:Int):Bool:=yb4 a0 a1 a2
theorem yLd (a0:dA) (a1 a2:Int) (hk:zi9 yfg (a0,a1,a2,())):ykl a0 a1 a2=(fun n=>some ((n,()),())) (ycw a0 a1 a2):=by
  have hb:a0.2.2.1.length * 80≤2 ^ 47:=hk.1.2.2.1.1
  unfold ykl ycw yb4 yg
  rw [ymW (show a0.2.2.1.length≤1152921504606846976 by omega)]
  cases inb a1 a0.2.2.1.length
  · rfl
  · cases (nth a0.2.2.1 a1 ([],[],false,[])).2.2.1<;>cases (a1 !=a0.2.2.2.1)<;>rfl
def ypW:Con:=⟨yfg,ynt,fun x=>(fun n=>some ((n,()),())) (ycw x.1 x.2.1 x.2.2.1)⟩
theorem yyR:ConOk Tryz.prog 85 ypW:=(yJk).mono (fun x r hk h=>(yLd x.1 x.2.1 x.2.2.1 hk).trans h)
end
section
def yg7:Code:=(Tryz.f137.body).getD .skip
def ylu:Env:=zki TT [(115,yq),(214,yd5),(215,yq3)] []
theorem yCT:FrOk Tryz.prog ⟨ylu,60,fun _=>none⟩ yg7:=zkp ye yf ⟨yu,yjr,yAr,trivial⟩
def ytL:Nat→Option Seg:=fun _=>none
def yaR:Shape:=⟨[(1,false,[.int .i64]),(2,false,[.ptr 0 0]),(6,false,[.br tI]),(7,false,[.int .i64])],[(0,[.br tL,.br tW,.bool,.br tI])],[]⟩
def ydI:Shape:=⟨[(1,false,[.int .i64]),(2,false,[.ptr 0 0]),(6,false,[.br tI]),(7,false,[.ci .i64 0])],[(0,[.br tL,.br tW,.bool,.br tI])],[]⟩
def ydC:Shape:=⟨[(6,false,[.br tI])],[],[]⟩
def ygP:Shape:=⟨[],[],[]⟩
abbrev yk8 (v0:Int) (v1:List Int) (v2:Int) (v3:dM):(yaR).X:=(((v0,()),((),()),(v1,()),(v2,()),()),((v3.1,v3.2.1,v3.2.2.1,v3.2.2.2,()),()),())
abbrev yB0 (v0:Int) (v1:List Int) (v2:dM):(ydI).X:=(((v0,()),((),()),(v1,()),((),()),()),((v2.1,v2.2.1,v2.2.2.1,v2.2.2.2,()),()),())
abbrev yr6 (v0:List Int):(ydC).X:=(((v0,()),()),(),())
def ylm (v0:Int) (v1:List Int) (v2:Int) (v3:List (List Int)) (v4:List dW) (v5:Bool) (v6:List Int):Option ((yaR).X ⊕ ((ydC).X ⊕ (ygP).X)) :=
  bif (ltb v2 (v4.length:Int)) then
    bif (inb v2 v4.length) then
      bif ((nth v4 v2 (0,[])).1==v0) then
        bif (inb v2 v4.length) then
          some (.inl (((v0,()),((),()),((nth v4 v2 (0,[])).2,()),((IntKind.i64.wrap (v2+1)),()),()),((v3,v4,v5,v6,()),()),()))
        else none
      else
        some (.inl (((v0,()),((),()),(v1,()),((IntKind.i64.wrap (v2+1)),()),()),((v3,v4,v5,v6,()),()),()))
    else none
  else
    some (.inr (.inl (((v1,()),()),(),())))
def yaZ (x:(yaR).X):=ylm x.1.1.1 x.1.2.2.1.1 x.1.2.2.2.1.1 x.2.1.1.1 x.2.1.1.2.1 x.2.1.1.2.2.1 x.2.1.1.2.2.2.1
def yrP (x:(ydI).X):(yaR).X:=(((x.1.1.1,()),((),()),(x.1.2.2.1.1,()),(0,()),()),((x.2.1.1.1,x.2.1.1.2.1,x.2.1.1.2.2.1,x.2.1.1.2.2.2.1,()),()),())
def ysE:Code:=(zdI yg7 64 244).getD .skip
theorem yCF:zdI yg7 64 61=some (.block 0 (.loop ysE)):=by kernel_rfl
theorem yDP (x:(yaR).X):zg7 ⟨ylu,60,ytL⟩ 0 ysE 244 yaR ydC ygP x=yaZ x:=by kernel_rfl
def yrZ (x:(ydI).X):Nat:=(fun (u0:Int) (u1:List Int) (u2:List (List Int)) (u3:List dW) (u4:Bool) (u5:List Int)=>18446744073709551616) x.1.1.1 x.1.2.2.1.1 x.2.1.1.1 x.2.1.1.2.1 x.2.1.1.2.2.1 x.2.1.1.2.2.2.1
def ymf (x:(ydI).X):Option ((ydC).X ⊕ (ygP).X):=zr yaZ (yrZ x) (yrP x)
def yse:Seg:=⟨ydI,ydC,ygP,ymf⟩
def ytM:Nat→Option Seg:=fun q=>bif Nat.beq q 61 then some yse else ytL q
theorem yCU:FrOk Tryz.prog ⟨ylu,60,ytM⟩ yg7:=(yCT).loop (sg:=yse) yaR yrP (by decide) yCF yaZ yrZ (by decide) (fun _=>rfl) (fun x r _ h=>h) yDP
abbrev yd2:List Par:= [.rd tM,.rd tI]
abbrev ylD:List OT:= [⟨false,tL,(.ow .fz)⟩,⟨false,tB,.fz⟩]
def yis (a0:dM) (a1:Int):Option (ResD ylD×MutD yd2) :=
  let r1:=y5 a0
  bif (!(!r1)) then
    bif (!a0.2.2.1) then
      let r2:=yb a1 0 (IntKind.i64.wrap ((a0.1.length:Int) - 1))
      bif (!(!r2)) then
        let r3:=yeZ a0.2.2.2 a1
        bif r3 then
          some ((([]:List Int),false,()),())
        else
          bif (inb a1 a0.1.length) then
            zjw (ymf (((a1,()),((),()),((nth a0.1 a1 []),()),((),()),()),((a0.1,a0.2.1,a0.2.2.1,a0.2.2.2,()),()),())) (fun y3 =>
              bif (zj4 ([]:List Int).length y3.1.1.1.length 8) then
                some (((([]:List Int)++y3.1.1.1),true,()),())
              else none) (fun y3 =>
              none)
          else none
      else
        some ((([]:List Int),false,()),())
    else
      some ((([]:List Int),false,()),())
  else
    some ((([]:List Int),false,()),())
theorem yKF (x:InD yd2):zjH ⟨ylu,60,ytM⟩ Tryz.f137.results.toList yg7 yd2 ylD x=yis x.1 x.2.1:=by kernel_rfl
theorem yGg:ConOk Tryz.prog 137 ⟨yd2,ylD,fun x=>yis x.1 x.2.1⟩:=zkh (yCU) Tryz.func137 (by kernel_rfl) (by kernel_rfl) Tryz.ntmps137.symm (by decide) (fun x r h=>(yKF x).trans h)
def yhR (a0:dM) (a1:Int):List Int×Bool:=yjx a0 a1
theorem yIU (a0:dM) (a1:Int) (hk:zi9 yd2 (a0,a1,())):yis a0 a1=(fun n=>some ((n.1,n.2,()),())) (yhR a0 a1):=by
  have hb1:a0.1.length * 24≤2 ^ 47:=hk.1.1.1
  have hb2:a0.2.1.length * 32≤2 ^ 47:=hk.1.2.1.1
  have h1: ∀ s,ymf (yB0 a1 s a0)=some (.inl (yr6 (yyO a1 a0.2.1 s))):=fun s =>
    zkk (step:=yaZ) a0.2.1 (0,[]) (fun i s=>yk8 a1 s i a0) (fun s w=>bif w.1==a1 then w.2 else s) (fun _ _=>True) (fun s=> .inl (yr6 s)) (fun i s hi _=>⟨by
      simp only [yaZ,yk8,ylm,zjI (show (i:Int) < a0.2.1.length by omega),cond_true,wr (show -9223372036854775808≤(i:Int)+1 by omega) (by omega),Int.natCast_add,Int.natCast_one,Int.toNat_natCast,zkO hi,zjW]
      cases ((a0.2.1.getD i (0,[])).1==a1)<;>rfl,trivial⟩) (fun s _=>by simp only [yaZ,yk8,ylm,zkm (Int.le_refl _),cond_false]) s trivial _ (by show _ < 18446744073709551616; omega)
  unfold yis yhR yjx yym
  rw [ymW (show a0.1.length≤1152921504606846976 by omega)]
  unfold y5 yeZ
  simp only [h1,zkJ,List.nil_append]
  cases yz a0
  · rfl
  cases a0.2.2.1
  · cases hi:inb a1 a0.1.length
    · rfl
    · cases a0.2.2.2.any (· ==a1)
      · have hs:(yyO a1 a0.2.1 (nth a0.1 a1 [])).length * 8≤2 ^ 47 :=
          yzj (P:=fun s=>s.length * 8≤2 ^ 47) (yyP (P:=fun s:List Int=>s.length * 8≤2 ^ 47) hi fun x hx=>(hk.1.1.2 x hx).1) fun w hw=>(hk.1.2.1.2 w hw).2.1
        simp only [Bool.not_true,Bool.not_false,cond_true,cond_false,Bool.true_and,show zj4 ([]:List Int).length (yyO a1 a0.2.1 (nth a0.1 a1 [])).length 8=true from zkw.2 (by rw [List.length_nil]; omega)]
      · rfl
  · rfl
def yuj:Con:=⟨yd2,ylD,fun x=>(fun n=>some ((n.1,n.2,()),())) (yhR x.1 x.2.1)⟩
theorem yJK:ConOk Tryz.prog 137 yuj:=(yGg).mono (fun x r hk h=>(yIU x.1 x.2.1 hk).trans h)
end
section
def yzR:Code:=(Tryz.f171.body).getD .skip
def yAi:Env:=zki TT [(85,ypW),(121,yb3),(137,yuj)] []
theorem yFf:FrOk Tryz.prog ⟨yAi,36,fun _=>none⟩ yzR:=zkp ye yf ⟨yyR,yea,yJK,trivial⟩
def yHd:Nat→Option Seg:=fun _=>none
abbrev yfl:List Par:= [.rd tA,.rd tI,.rd tI]
abbrev ynH:List OT:= [⟨false,tI,.fz⟩,⟨false,tB,.fz⟩]
def yks (a0:dA) (a1:Int) (a2:Int):Option (ResD ynH×MutD yfl) :=
  let r1:=ycw a0 a1 a2
  bif (!r1) then
    some ((0,false,()),())
  else
    bif (inb a1 a0.2.2.1.length) then
      let r2:=yh a2
      let r3:=yhR ((nth a0.2.2.1 a1 ([],[],false,[])).1,((nth a0.2.2.1 a1 ([],[],false,[])).2).1,(((nth a0.2.2.1 a1 ([],[],false,[])).2).2)) r2
      bif (!(!r3.2)) then
        bif ((r3.1.length:Int) !=1) then
          some ((0,false,()),())
        else
          bif (inb 0 r3.1.length) then
            some (((nth r3.1 0 0),true,()),())
          else none
      else
        some ((0,false,()),())
    else none
theorem yNp (x:InD yfl):zjH ⟨yAi,36,yHd⟩ Tryz.f171.results.toList yzR yfl ynH x=yks x.1 x.2.1 x.2.2.1:=by kernel_rfl
theorem yJB:ConOk Tryz.prog 171 ⟨yfl,ynH,fun x=>yks x.1 x.2.1 x.2.2.1⟩:=zkh (yFf) Tryz.func171 (by kernel_rfl) (by kernel_rfl) Tryz.ntmps171.symm (by decide) (fun x r h=>(yNp x).trans h)
def ya5 (a0:dA) (a1 a2:Int):Int×Bool:=(yjF a0 a1 a2,ym a0 a1 a2)
theorem yLo (a0:dA) (a1 a2:Int) (hk:zi9 yfl (a0,a1,a2,())):yks a0 a1 a2=(fun n=>some ((n.1,n.2,()),())) (ya5 a0 a1 a2):=by
  unfold yks ya5 yjF ycw
  simp only [zkV,ycV,yhR]
  rw [show ym a0 a1 a2=(yb4 a0 a1 a2&&((ycY a0 a1 a2).2&&((ycY a0 a1 a2).1.length:Int)==1)) from rfl]
  rw [show yjx (nth a0.2.2.1 a1 ([],[],false,[])) (ycH a2)=ycY a0 a1 a2 from rfl]
  cases hl:yb4 a0 a1 a2
  · rfl
  · rw [show inb a1 a0.2.2.1.length=true by unfold yb4 at hl; exact (Bool.and_eq_true_iff.1 hl).1]
    cases (ycY a0 a1 a2).2
    · rfl
    · rw [bne]
      cases h1:(((ycY a0 a1 a2).1.length:Int)==1)
      · rfl
      · rw [show inb 0 (ycY a0 a1 a2).1.length=true from zjP.2 (by have:=beq_iff_eq.1 h1; omega)]; rfl
def yj7:Con:=⟨yfl,ynH,fun x=>(fun n=>some ((n.1,n.2,()),())) (ya5 x.1 x.2.1 x.2.2.1)⟩
theorem yq9:ConOk Tryz.prog 171 yj7:=(yJB).mono (fun x r hk h=>(yLo x.1 x.2.1 x.2.2.1 hk).trans h)
end
section
def yc0:Code:=(Tryz.f238.body).getD .skip
def yfx:Env:=zki TT [] []
theorem yyK:FrOk Tryz.prog ⟨yfx,23,fun _=>none⟩ yc0:=zkp ye yf trivial
def yoV:Nat→Option Seg:=fun _=>none
def yZ:Shape:=⟨[(0,false,[.br tI]),(1,false,[.int .i64]),(5,false,[.int .i64]),(6,false,[.int .i64])],[],[]⟩
def ybr:Shape:=⟨[(0,false,[.br tI]),(1,false,[.int .i64]),(5,false,[.ci .i64 0]),(6,false,[.ci .i64 0])],[],[]⟩
def ybp:Shape:=⟨[(5,false,[.int .i64])],[],[]⟩
def ydn:Shape:=⟨[],[],[]⟩
abbrev ygB (v0:List Int) (v1:Int) (v2:Int) (v3:Int):(yZ).X:=(((v0,()),(v1,()),(v2,()),(v3,()),()),(),())
abbrev yxp (v0:List Int) (v1:Int):(ybr).X:=(((v0,()),(v1,()),((),()),((),()),()),(),())
abbrev yxn (v0:Int):(ybp).X:=(((v0,()),()),(),())
def ygF (v0:List Int) (v1:Int) (v2:Int) (v3:Int):Option ((yZ).X ⊕ ((ybp).X ⊕ (ydn).X)) :=
  bif (ltb v3 (v0.length:Int)) then
    bif (v3 !=v1) then
      bif (inb v3 v0.length) then
        some (.inl (((v0,()),(v1,()),((IntKind.i64.wrap ((BitVec.ofInt IntKind.i64.bits v2 ^^^ BitVec.ofInt IntKind.i64.bits (nth v0 v3 0)).toNat:Int)),()),((IntKind.i64.wrap (v3+1)),()),()),(),()))
      else none
    else
      some (.inl (((v0,()),(v1,()),(v2,()),((IntKind.i64.wrap (v3+1)),()),()),(),()))
  else
    some (.inr (.inl (((v2,()),()),(),())))
def yag (x:(yZ).X):=ygF x.1.1.1 x.1.2.1.1 x.1.2.2.1.1 x.1.2.2.2.1.1
def ymT (x:(ybr).X):(yZ).X:=(((x.1.1.1,()),(x.1.2.1.1,()),(0,()),(0,()),()),(),())
def yoN:Code:=(zdI yc0 64 116).getD .skip
theorem yyi:zdI yc0 64 29=some (.block 0 (.loop yoN)):=by kernel_rfl
theorem yyX (x:(yZ).X):zg7 ⟨yfx,23,yoV⟩ 0 yoN 116 yZ ybp ydn x=yag x:=by kernel_rfl
def ymV (x:(ybr).X):Nat:=(fun (u0:List Int) (u1:Int)=>18446744073709551616) x.1.1.1 x.1.2.1.1
def yhc (x:(ybr).X):Option ((ybp).X ⊕ (ydn).X):=zr yag (ymV x) (ymT x)
def ym1:Seg:=⟨ybr,ybp,ydn,yhc⟩
def yoW:Nat→Option Seg:=fun q=>bif Nat.beq q 29 then some ym1 else yoV q
theorem yyL:FrOk Tryz.prog ⟨yfx,23,yoW⟩ yc0:=(yyK).loop (sg:=ym1) yZ ymT (by decide) yyi yag ymV (by decide) (fun _=>rfl) (fun x r _ h=>h) yyX
abbrev ybm:List Par:= [.rd tL,.rd tI]
abbrev ygb:List OT:= [⟨false,tI,.fz⟩]
def ydX (a0:List Int) (a1:Int):Option (ResD ygb×MutD ybm) :=
  zjw (yhc (((a0,()),(a1,()),((),()),((),()),()),(),())) (fun y0 =>
    some ((y0.1.1.1,()),())) (fun y0 =>
    none)
theorem yBy (x:InD ybm):zjH ⟨yfx,23,yoW⟩ Tryz.f238.results.toList yc0 ybm ygb x=ydX x.1 x.2.1:=by kernel_rfl
theorem yzn:ConOk Tryz.prog 238 ⟨ybm,ygb,fun x=>ydX x.1 x.2.1⟩:=zkh (yyL) Tryz.func238 (by kernel_rfl) (by kernel_rfl) Tryz.ntmps238.symm (by decide) (fun x r h=>(yBy x).trans h)
def yc9 (a0:List Int) (a1:Int):Int:=yk4 a0 a1
theorem yAJ (a0:List Int) (a1:Int) (hk:zi9 ybm (a0,a1,())):ydX a0 a1=(fun n=>some ((n,()),())) (yc9 a0 a1):=by
  have hb:a0.length * 8≤2 ^ 47:=hk.1.1
  have h1:=zks (step:=yag) a0.length (fun i s=>ygB a0 a1 s i) (fun n (i:Nat)=>bif (i:Int) !=a1 then xw n (nth a0 i 0) else n) (fun _ _=>True) (fun s=> .inl (yxn s)) (fun i s hi _=>⟨by
    simp only [yag,ygB,ygF,zjI (show (i:Int) < a0.length by omega),cond_true,wr (show -9223372036854775808≤(i:Int)+1 by omega) (by omega),Int.natCast_add,Int.natCast_one,Int.toNat_natCast,zkO hi]
    cases ((i:Int) !=a1)<;>rfl,trivial⟩) (fun s _=>by simp only [yag,ygB,ygF,zkm (Int.le_refl _),cond_false]) 0 trivial 18446744073709551616 (by omega)
  rw [yP9]at h1
  unfold ydX yc9
  rw [show yhc (yxp a0 a1)=_ from h1]; rfl
def ypX:Con:=⟨ybm,ygb,fun x=>(fun n=>some ((n,()),())) (yc9 x.1 x.2.1)⟩
theorem yAO:ConOk Tryz.prog 238 ypX:=(yzn).mono (fun x r hk h=>(yAJ x.1 x.2.1 hk).trans h)
end
section
def yha:Code:=(Tryz.f167.body).getD .skip
def ylx:Env:=zki TT [(171,yj7),(238,ypX)] []
theorem yC3:FrOk Tryz.prog ⟨ylx,45,fun _=>none⟩ yha:=zkp ye yf ⟨yq9,yAO,trivial⟩
def ytR:Nat→Option Seg:=fun _=>none
def yaT:Shape:=⟨[(1,false,[.int .i64]),(2,false,[.ptr 0 0]),(6,false,[.at 800000000]),(7,false,[.int .i64]),(8,false,[.int .i64])],[(0,[.int .i64,.int .i64,.int .i64,.br tM,.int .i64,.int .i64,.int .i64,.int .i64,.int .i64,.br tW,.int .i64,.bool,.bool])],[(800000000,tI,.fz)]⟩
def ydK:Shape:=⟨[(1,false,[.int .i64]),(2,false,[.ptr 0 0]),(6,false,[.at 800000000]),(7,false,[.ci .i64 (-1)]),(8,false,[.ci .i64 0])],[(0,[.int .i64,.int .i64,.int .i64,.br tM,.int .i64,.int .i64,.int .i64,.int .i64,.int .i64,.br tW,.int .i64,.bool,.bool])],[(800000000,tI,.fz)]⟩
def ydE:Shape:=⟨[(6,false,[.at 800000000]),(7,false,[.int .i64])],[],[(800000000,tI,.fz)]⟩
def ydN:Shape:=⟨[(4,false,[.at 800000000]),(5,false,[.bool])],[],[(800000000,tI,.fz)]⟩
abbrev yla (v0:Int) (v1:Int) (v2:Int) (v3:dA) (v4:List Int):(yaT).X:=(((v0,()),((),()),((),()),(v1,()),(v2,()),()),((v3.1,v3.2.1.1,v3.2.1.2,v3.2.2.1,v3.2.2.2.1,v3.2.2.2.2.1,v3.2.2.2.2.2.1,v3.2.2.2.2.2.2.1,v3.2.2.2.2.2.2.2.1,v3.2.2.2.2.2.2.2.2.1,v3.2.2.2.2.2.2.2.2.2.1,v3.2.2.2.2.2.2.2.2.2.2.1,v3.2.2.2.2.2.2.2.2.2.2.2,()),()),(v4,()))
abbrev yB2 (v0:Int) (v1:dA) (v2:List Int):(ydK).X:=(((v0,()),((),()),((),()),((),()),((),()),()),((v1.1,v1.2.1.1,v1.2.1.2,v1.2.2.1,v1.2.2.2.1,v1.2.2.2.2.1,v1.2.2.2.2.2.1,v1.2.2.2.2.2.2.1,v1.2.2.2.2.2.2.2.1,v1.2.2.2.2.2.2.2.2.1,v1.2.2.2.2.2.2.2.2.2.1,v1.2.2.2.2.2.2.2.2.2.2.1,v1.2.2.2.2.2.2.2.2.2.2.2,()),()),(v2,()))
abbrev yBW (v0:Int) (v1:List Int):(ydE).X:=((((),()),(v0,()),()),(),(v1,()))
abbrev yB5 (v0:Bool) (v1:List Int):(ydN).X:=((((),()),(v0,()),()),(),(v1,()))
def ylp (v0:Int) (v1:Int) (v2:Int) (v3:Int) (v4:Int) (v5:Int) (v6:List dM) (v7:Int) (v8:Int) (v9:Int) (v10:Int) (v11:Int) (v12:List dW) (v13:Int) (v14:Bool) (v15:Bool) (v16:List Int):Option ((yaT).X ⊕ ((ydE).X ⊕ (ydN).X)) :=
  bif (ltb v2 v4) then
    let r2:=ya5 (v3,(v4,v5),v6,v7,v8,v9,v10,v11,v12,v13,v14,v15) v2 v0
    bif (!r2.2) then
      bif (leb 0 v1) then
        some (.inr (.inr ((((),()),(false,()),()),(),(([]:List Int),()))))
      else
        bif (zj4 v16.length ([r2.1]:List Int).length 8) then
          some (.inl (((v0,()),((),()),((),()),(v2,()),((IntKind.i64.wrap (v2+1)),()),()),((v3,v4,v5,v6,v7,v8,v9,v10,v11,v12,v13,v14,v15,()),()),((v16++([r2.1]:List Int)),())))
        else none
    else
      bif (zj4 v16.length ([r2.1]:List Int).length 8) then
        some (.inl (((v0,()),((),()),((),()),(v1,()),((IntKind.i64.wrap (v2+1)),()),()),((v3,v4,v5,v6,v7,v8,v9,v10,v11,v12,v13,v14,v15,()),()),((v16++([r2.1]:List Int)),())))
      else none
  else
    some (.inr (.inl ((((),()),(v1,()),()),(),(v16,()))))
def ya2 (x:(yaT).X):=ylp x.1.1.1 x.1.2.2.2.1.1 x.1.2.2.2.2.1.1 x.2.1.1.1 x.2.1.1.2.1 x.2.1.1.2.2.1 x.2.1.1.2.2.2.1 x.2.1.1.2.2.2.2.1 x.2.1.1.2.2.2.2.2.1 x.2.1.1.2.2.2.2.2.2.1 x.2.1.1.2.2.2.2.2.2.2.1 x.2.1.1.2.2.2.2.2.2.2.2.1 x.2.1.1.2.2.2.2.2.2.2.2.2.1 x.2.1.1.2.2.2.2.2.2.2.2.2.2.1 x.2.1.1.2.2.2.2.2.2.2.2.2.2.2.1 x.2.1.1.2.2.2.2.2.2.2.2.2.2.2.2.1 x.2.2.1
def yrS (x:(ydK).X):(yaT).X:=(((x.1.1.1,()),((),()),((),()),((-1),()),(0,()),()),((x.2.1.1.1,x.2.1.1.2.1,x.2.1.1.2.2.1,x.2.1.1.2.2.2.1,x.2.1.1.2.2.2.2.1,x.2.1.1.2.2.2.2.2.1,x.2.1.1.2.2.2.2.2.2.1,x.2.1.1.2.2.2.2.2.2.2.1,x.2.1.1.2.2.2.2.2.2.2.2.1,x.2.1.1.2.2.2.2.2.2.2.2.2.1,x.2.1.1.2.2.2.2.2.2.2.2.2.2.1,x.2.1.1.2.2.2.2.2.2.2.2.2.2.2.1,x.2.1.1.2.2.2.2.2.2.2.2.2.2.2.2.1,()),()),(x.2.2.1,()))
def ysH:Code:=(zdI yha 64 244).getD .skip
theorem yCI:zdI yha 64 61=some (.block 0 (.loop ysH)):=by kernel_rfl
theorem yDS (x:(yaT).X):zg7 ⟨ylx,45,ytR⟩ 0 ysH 244 yaT ydE ydN x=ya2 x:=by kernel_rfl
def yr2 (x:(ydK).X):Nat:=(fun (u0:Int) (u1:Int) (u2:Int) (u3:Int) (u4:List dM) (u5:Int) (u6:Int) (u7:Int) (u8:Int) (u9:Int) (u10:List dW) (u11:Int) (u12:Bool) (u13:Bool) (u14:List Int)=>18446744073709551616) x.1.1.1 x.2.1.1.1 x.2.1.1.2.1 x.2.1.1.2.2.1 x.2.1.1.2.2.2.1 x.2.1.1.2.2.2.2.1 x.2.1.1.2.2.2.2.2.1 x.2.1.1.2.2.2.2.2.2.1 x.2.1.1.2.2.2.2.2.2.2.1 x.2.1.1.2.2.2.2.2.2.2.2.1 x.2.1.1.2.2.2.2.2.2.2.2.2.1 x.2.1.1.2.2.2.2.2.2.2.2.2.2.1 x.2.1.1.2.2.2.2.2.2.2.2.2.2.2.1 x.2.1.1.2.2.2.2.2.2.2.2.2.2.2.2.1 x.2.2.1
def ymi (x:(ydK).X):Option ((ydE).X ⊕ (ydN).X):=zr ya2 (yr2 x) (yrS x)
def ysh:Seg:=⟨ydK,ydE,ydN,ymi⟩
def ytS:Nat→Option Seg:=fun q=>bif Nat.beq q 61 then some ysh else ytR q
theorem yC4:FrOk Tryz.prog ⟨ylx,45,ytS⟩ yha:=(yC3).loop (sg:=ysh) yaT yrS (by decide) yCI ya2 yr2 (by decide) (fun _=>rfl) (fun x r _ h=>h) yDS
abbrev ycP:List Par:= [.rd tA,.rd tI]
abbrev yhD:List OT:= [⟨false,tL,(.ow .fz)⟩,⟨false,tB,.fz⟩]
def yix (a0:dA) (a1:Int):Option (ResD yhD×MutD ycP) :=
  zjw (ymi (((a1,()),((),()),((),()),((),()),((),()),()),((a0.1,a0.2.1.1,a0.2.1.2,a0.2.2.1,a0.2.2.2.1,a0.2.2.2.2.1,a0.2.2.2.2.2.1,a0.2.2.2.2.2.2.1,a0.2.2.2.2.2.2.2.1,a0.2.2.2.2.2.2.2.2.1,a0.2.2.2.2.2.2.2.2.2.1,a0.2.2.2.2.2.2.2.2.2.2.1,a0.2.2.2.2.2.2.2.2.2.2.2,()),()),(([]:List Int),()))) (fun y2 =>
    bif (leb 0 y2.1.2.1.1) then
      let r4:=yc9 y2.2.2.1 y2.1.2.1.1
      bif (inb y2.1.2.1.1 y2.2.2.1.length) then
        some (((y2.2.2.1.set (y2.1.2.1.1).toNat r4),true,()),())
      else none
    else
      some ((y2.2.2.1,true,()),())) (fun y2 =>
    some ((y2.2.2.1,y2.1.2.1.1,()),()))
theorem yKM (x:InD ycP):zjH ⟨ylx,45,ytS⟩ Tryz.f167.results.toList yha ycP yhD x=yix x.1 x.2.1:=by kernel_rfl
theorem yGn:ConOk Tryz.prog 167 ⟨ycP,yhD,fun x=>yix x.1 x.2.1⟩:=zkh (yC4) Tryz.func167 (by kernel_rfl) (by kernel_rfl) Tryz.ntmps167.symm (by decide) (fun x r h=>(yKM x).trans h)
def yd8 (a0:dA) (a1:Int):List Int×Bool:=yH a0 a1
def yrh (a0:dA) (a1:Int):Bool:=yd a0.2.1
theorem yI0 (a0:dA) (a1:Int) (hk:zi9 ycP (a0,a1,())) (hq:yrh a0 a1=true):yix a0 a1=(fun n=>some ((n.1,n.2,()),())) (yd8 a0 a1):=by
  have hg:=yn.1 hq
  have h1:ymi (yB2 a1 a0 [])=some (bif yzc (fun (i:Nat)=>ym a0 i a1) a0.2.1.1.toNat then .inr (yB5 false []) else .inl (yBW (yF (fun (i:Nat)=>ym a0 i a1) a0.2.1.1.toNat) (yO a0 a1 a0.2.1.1.toNat))) :=
    zf4 (step:=ya2) (fun i=>yla a1 (yF (fun (i:Nat)=>ym a0 i a1) i) i a0 (yO a0 a1 i)) a0.2.1.1.toNat (fun i=> !ym a0 i a1&&leb 0 (yF (fun (i:Nat)=>ym a0 i a1) i)) _ _ (fun i hi=>by
      simp only [ya2,yla,ylp,zjI (show (i:Int) < a0.2.1.1 by omega),cond_true,wr (show -9223372036854775808≤(i:Int)+1 by omega) (by omega),Int.natCast_add,Int.natCast_one,Int.toNat_natCast,zkV,ya5,yF]
      rw [zkw.2 (show ((yO a0 a1 i).length+ [yjF a0 i a1].length) * 8≤140737488355328 by simp only [List.length_cons,List.length_nil,ylq]; omega),yAu]
      cases ym a0 i a1<;>cases leb 0 (yF (fun (i:Nat)=>ym a0 i a1) i)<;>rfl) (by simp only [ya2,yla,ylp,zkm (show a0.2.1.1≤(a0.2.1.1.toNat:Int) by omega),cond_false]) _ (by show _ < 18446744073709551616; omega)
  unfold yix yd8 yH
  rw [h1]
  cases yzc (fun (i:Nat)=>ym a0 i a1) a0.2.1.1.toNat
  · simp only [cond_false,zkJ,yc9]
    cases hm:leb 0 (yF (fun (i:Nat)=>ym a0 i a1) a0.2.1.1.toNat)
    · rfl
    · obtain ⟨h2,h3⟩:=yMH a0 a1 a0.2.1.1.toNat hm
      rw [h2,h3]; rfl
  · rfl
def yd9 (a0:dA) (a1:Int):Option (ResD yhD×MutD ycP):=bif yrh a0 a1 then (fun n=>some ((n.1,n.2,()),())) (yd8 a0 a1) else none
theorem yqf (a0:dA) (a1:Int) (h:yrh a0 a1=true):yd9 a0 a1=(fun n=>some ((n.1,n.2,()),())) (yd8 a0 a1):=by unfold yd9; rw [h]; rfl
def yii:Con:=⟨ycP,yhD,fun x=>yd9 x.1 x.2.1⟩
theorem yqe:ConOk Tryz.prog 167 yii:=(yGn).mono (fun x r hk h=>zkW h (fun hq=>yI0 x.1 x.2.1 hk hq))
end
section
def yvM:Code:=(Tryz.f262.body).getD .skip
def ywl:Env:=zki TT [(115,yq),(187,yd4)] []
theorem yBP:FrOk Tryz.prog ⟨ywl,14,fun _=>none⟩ yvM:=zkp ye yf ⟨yu,yjq,trivial⟩
def yCz:Nat→Option Seg:=fun _=>none
abbrev yfz:List Par:= [.rd tG,.rd tI]
abbrev yjU:List OT:= [⟨false,tB,.fz⟩]
def ymB (a0:dG) (a1:Int):Option (ResD yjU×MutD yfz) :=
  let r1:=yd a0
  bif r1 then
    let r2:=yb a1 0 (IntKind.i64.wrap (a0.2 - 1))
    some ((r2,()),())
  else
    some ((false,()),())
theorem yHL (x:InD yfz):zjH ⟨ywl,14,yCz⟩ Tryz.f262.results.toList yvM yfz yjU x=ymB x.1 x.2.1:=by kernel_rfl
theorem yDH:ConOk Tryz.prog 262 ⟨yfz,yjU,fun x=>ymB x.1 x.2.1⟩:=zkh (yBP) Tryz.func262 (by kernel_rfl) (by kernel_rfl) Tryz.ntmps262.symm (by decide) (fun x r h=>(yHL x).trans h)
def ydp (a0:dG) (a1:Int):Bool :=
  let r1:=yd a0
  bif r1 then
    let r2:=yb a1 0 (IntKind.i64.wrap (a0.2 - 1))
    r2
  else
    false
def ymo:Con:=⟨yfz,yjU,fun x=>(fun n=>some ((n,()),())) (ydp x.1 x.2.1)⟩
theorem yF8 (a0:dG) (a1:Int):ymB a0 a1=(fun n=>some ((n,()),())) (ydp a0 a1):=zkS (p:=fun (n:Bool)=>((n,()),())) (zkx (p:=fun (n:Bool)=>((n,()),())) rfl rfl)
theorem yve:ConOk Tryz.prog 262 ymo:=(yDH).mono (fun x r _ h=>(yF8 x.1 x.2.1).trans h)
theorem yDZ (g:dG) (s:Int):ydp g s=yS g s:=by
  unfold ydp yS
  cases hg:yd g
  · rfl
  have:=yn.1 hg
  rw [yaL,wr (by omega) (by omega)]; rfl
end
end
end Go.Tf
