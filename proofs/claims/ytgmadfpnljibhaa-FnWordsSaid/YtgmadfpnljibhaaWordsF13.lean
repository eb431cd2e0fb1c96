/- Functions of the program, and what they come to. -/
import Derived.Test.YtgmadfpnljibhaaWordsF12
namespace Go.Tf
noncomputable section
open Go.Proofs
set_option synthInstance.maxHeartbeats 400000
set_option synthInstance.maxSize 10000
set_option linter.unusedVariables false
set_option linter.unusedSimpArgs false
set_option maxRecDepth 100000
section
def yxM:Code:=(Try.f84.body).getD .skip
def yyc:Env:=zki TT [(39,yD)] []
theorem yCE:FrOk Try.prog ⟨yyc,11,fun _=>none⟩ yxM:=zkp yc yd ⟨yS,trivial⟩
def yEK:Nat→Option Seg:=fun _=>none
abbrev yin:List Par:= [.rd tM,.rd tI]
abbrev ymn:List OT:= [⟨false,tB,.fz⟩]
def yo6 (a0:dM) (a1:Int):Option (ResD ymn×MutD yin) :=
  let r1:=yi a1 0 (IntKind.i64.wrap ((a0.1.length:Int) - 1))
  some ((r1,()),())
theorem yKx (x:InD yin):zjH ⟨yyc,11,yEK⟩ Try.f84.results.toList yxM yin ymn x=yo6 x.1 x.2.1:=by kernel_rfl
theorem yGN:ConOk Try.prog 84 ⟨yin,ymn,fun x=>yo6 x.1 x.2.1⟩:=zkh (yCE) Try.func84 (by kernel_rfl) (by kernel_rfl) Try.ntmps84.symm (by decide) (fun x r h=>(yKx x).trans h)
def ycg (a0:dM) (a1:Int):Bool :=
  let r1:=yi a1 0 (IntKind.i64.wrap ((a0.1.length:Int) - 1))
  r1
def yoJ:Con:=⟨yin,ymn,fun x=>(fun n=>some ((n,()),())) (ycg x.1 x.2.1)⟩
theorem yIE (a0:dM) (a1:Int):yo6 a0 a1=(fun n=>some ((n,()),())) (ycg a0 a1):=zkS (p:=fun (n:Bool)=>((n,()),())) rfl
theorem yw2:ConOk Try.prog 84 yoJ:=(yGN).mono (fun x r _ h=>(yIE x.1 x.2.1).trans h)
end
section
def yas:Code:=(Try.f43.body).getD .skip
def ycP:Env:=zki TT [(39,yD),(83,ywF),(84,yoJ)] []
theorem yFE:FrOk Try.prog ⟨ycP,76,fun _=>none⟩ yas:=zkp yc yd ⟨yS,yLn,yw2,trivial⟩
def yv5:Nat→Option Seg:=fun _=>none
def ybF:Shape:=⟨[(1,false,[.ptr 0 0]),(10,false,[.br tL]),(11,false,[.int .i64]),(12,false,[.int .i64])],[(0,[.br tL,.br tW,.bool,.br tI])],[]⟩
def yft:Shape:=⟨[(1,false,[.ptr 0 0]),(10,false,[.br tL]),(11,false,[.int .i64]),(12,false,[.ci .i64 0])],[(0,[.br tL,.br tW,.bool,.br tI])],[]⟩
def yfg:Shape:=⟨[(1,false,[.ptr 0 0])],[(0,[.br tL,.br tW,.bool,.br tI])],[]⟩
def yfL:Shape:=⟨[(2,false,[.bool])],[],[]⟩
abbrev ynd (v0:List (List Int)) (v1:Int) (v2:Int) (v3:dM):(ybF).X:=((((),()),(v0,()),(v1,()),(v2,()),()),((v3.1,v3.2.1,v3.2.2.1,v3.2.2.2,()),()),())
abbrev yDt (v0:List (List Int)) (v1:Int) (v2:dM):(yft).X:=((((),()),(v0,()),(v1,()),((),()),()),((v2.1,v2.2.1,v2.2.2.1,v2.2.2.2,()),()),())
abbrev yDl (v0:dM):(yfg).X:=((((),()),()),((v0.1,v0.2.1,v0.2.2.1,v0.2.2.2,()),()),())
abbrev yDG (v0:Bool):(yfL).X:=(((v0,()),()),(),())
def ynu (v0:List (List Int)) (v1:Int) (v2:Int) (v3:List (List Int)) (v4:List dW) (v5:Bool) (v6:List Int):Option ((ybF).X ⊕ ((yfg).X ⊕ (yfL).X)) :=
  bif (ltb v2 v1) then
    bif (inb v2 v0.length) then
      let r2:=yhi (nth v0 v2 [])
      bif (!r2) then
        some (.inr (.inr (((false,()),()),(),())))
      else
        some (.inl ((((),()),(v0,()),(v1,()),((IntKind.i64.wrap (v2+1)),()),()),((v3,v4,v5,v6,()),()),()))
    else none
  else
    some (.inr (.inl ((((),()),()),((v3,v4,v5,v6,()),()),())))
def yb2 (x:(ybF).X):=ynu x.1.2.1.1 x.1.2.2.1.1 x.1.2.2.2.1.1 x.2.1.1.1 x.2.1.1.2.1 x.2.1.1.2.2.1 x.2.1.1.2.2.2.1
def ysZ (x:(yft).X):(ybF).X:=((((),()),(x.1.2.1.1,()),(x.1.2.2.1.1,()),(0,()),()),((x.2.1.1.1,x.2.1.1.2.1,x.2.1.1.2.2.1,x.2.1.1.2.2.2.1,()),()),())
def yuL:Code:=(zdI yas 64 52).getD .skip
theorem yE6:zdI yas 64 13=some (.block 0 (.loop yuL)):=by kernel_rfl
theorem yHz (x:(ybF).X):zg7 ⟨ycP,76,yv5⟩ 0 yuL 52 ybF yfg yfL x=yb2 x:=by kernel_rfl
def yte (x:(yft).X):Nat:=(fun (u0:List (List Int)) (u1:Int) (u2:List (List Int)) (u3:List dW) (u4:Bool) (u5:List Int)=>18446744073709551616) x.1.2.1.1 x.1.2.2.1.1 x.2.1.1.1 x.2.1.1.2.1 x.2.1.1.2.2.1 x.2.1.1.2.2.2.1
def yob (x:(yft).X):Option ((yfg).X ⊕ (yfL).X):=zr yb2 (yte x) (ysZ x)
def ytL:Seg:=⟨yft,yfg,yfL,yob⟩
def ypv:Nat→Option Seg:=fun q=>bif Nat.beq q 13 then some ytL else yv5 q
theorem yFF:FrOk Try.prog ⟨ycP,76,ypv⟩ yas:=(yFE).loop (sg:=ytL) ybF ysZ (by decide) yE6 yb2 yte (by decide) (fun _=>rfl) (fun x r _ h=>h) yHz
def ybG:Shape:=⟨[(1,false,[.ptr 0 0]),(21,false,[.br tW]),(22,false,[.int .i64]),(23,false,[.int .i64])],[(0,[.br tL,.br tW,.bool,.br tI])],[]⟩
def yfu:Shape:=⟨[(1,false,[.ptr 0 0]),(21,false,[.br tW]),(22,false,[.int .i64]),(23,false,[.ci .i64 0])],[(0,[.br tL,.br tW,.bool,.br tI])],[]⟩
def yfh:Shape:=⟨[(1,false,[.ptr 0 0])],[(0,[.br tL,.br tW,.bool,.br tI])],[]⟩
def yfM:Shape:=⟨[(2,false,[.bool])],[],[]⟩
abbrev yne (v0:List dW) (v1:Int) (v2:Int) (v3:dM):(ybG).X:=((((),()),(v0,()),(v1,()),(v2,()),()),((v3.1,v3.2.1,v3.2.2.1,v3.2.2.2,()),()),())
abbrev yDu (v0:List dW) (v1:Int) (v2:dM):(yfu).X:=((((),()),(v0,()),(v1,()),((),()),()),((v2.1,v2.2.1,v2.2.2.1,v2.2.2.2,()),()),())
abbrev yDm (v0:dM):(yfh).X:=((((),()),()),((v0.1,v0.2.1,v0.2.2.1,v0.2.2.2,()),()),())
abbrev yDH (v0:Bool):(yfM).X:=(((v0,()),()),(),())
def ynv (v0:List dW) (v1:Int) (v2:Int) (v3:List (List Int)) (v4:List dW) (v5:Bool) (v6:List Int):Option ((ybG).X ⊕ ((yfh).X ⊕ (yfM).X)) :=
  bif (ltb v2 v1) then
    bif (inb v2 v0.length) then
      let r6:=ycg (v3,v4,v5,v6) ((nth v0 v2 (0,[])).1)
      bif (!(!r6)) then
        let r7:=yhi ((nth v0 v2 (0,[])).2)
        bif (!r7) then
          some (.inr (.inr (((false,()),()),(),())))
        else
          some (.inl ((((),()),(v0,()),(v1,()),((IntKind.i64.wrap (v2+1)),()),()),((v3,v4,v5,v6,()),()),()))
      else
        some (.inr (.inr (((false,()),()),(),())))
    else none
  else
    some (.inr (.inl ((((),()),()),((v3,v4,v5,v6,()),()),())))
def yb3 (x:(ybG).X):=ynv x.1.2.1.1 x.1.2.2.1.1 x.1.2.2.2.1.1 x.2.1.1.1 x.2.1.1.2.1 x.2.1.1.2.2.1 x.2.1.1.2.2.2.1
def ys0 (x:(yfu).X):(ybG).X:=((((),()),(x.1.2.1.1,()),(x.1.2.2.1.1,()),(0,()),()),((x.2.1.1.1,x.2.1.1.2.1,x.2.1.1.2.2.1,x.2.1.1.2.2.2.1,()),()),())
def yuM:Code:=(zdI yas 64 116).getD .skip
theorem yE7:zdI yas 64 29=some (.block 2 (.loop yuM)):=by kernel_rfl
theorem yHA (x:(ybG).X):zg7 ⟨ycP,76,ypv⟩ 2 yuM 116 ybG yfh yfM x=yb3 x:=by kernel_rfl
def ytf (x:(yfu).X):Nat:=(fun (u0:List dW) (u1:Int) (u2:List (List Int)) (u3:List dW) (u4:Bool) (u5:List Int)=>18446744073709551616) x.1.2.1.1 x.1.2.2.1.1 x.2.1.1.1 x.2.1.1.2.1 x.2.1.1.2.2.1 x.2.1.1.2.2.2.1
def yoc (x:(yfu).X):Option ((yfh).X ⊕ (yfM).X):=zr yb3 (ytf x) (ys0 x)
def ytM:Seg:=⟨yfu,yfh,yfM,yoc⟩
def ypw:Nat→Option Seg:=fun q=>bif Nat.beq q 29 then some ytM else ypv q
theorem yFG:FrOk Try.prog ⟨ycP,76,ypw⟩ yas:=(yFF).loop (sg:=ytM) ybG ys0 (by decide) yE7 yb3 ytf (by decide) (fun _=>rfl) (fun x r _ h=>h) yHA
def ybH:Shape:=⟨[(1,false,[.ptr 0 0]),(40,false,[.br tI]),(41,false,[.int .i64]),(42,false,[.int .i64])],[(0,[.br tL,.br tW,.bool,.br tI])],[]⟩
def yfv:Shape:=⟨[(1,false,[.ptr 0 0]),(40,false,[.br tI]),(41,false,[.int .i64]),(42,false,[.ci .i64 0])],[(0,[.br tL,.br tW,.bool,.br tI])],[]⟩
def yfi:Shape:=⟨[(1,false,[.ptr 0 0])],[(0,[.br tL,.br tW,.bool,.br tI])],[]⟩
def yfN:Shape:=⟨[(2,false,[.bool])],[],[]⟩
abbrev ynf (v0:List Int) (v1:Int) (v2:Int) (v3:dM):(ybH).X:=((((),()),(v0,()),(v1,()),(v2,()),()),((v3.1,v3.2.1,v3.2.2.1,v3.2.2.2,()),()),())
abbrev yDv (v0:List Int) (v1:Int) (v2:dM):(yfv).X:=((((),()),(v0,()),(v1,()),((),()),()),((v2.1,v2.2.1,v2.2.2.1,v2.2.2.2,()),()),())
abbrev yDn (v0:dM):(yfi).X:=((((),()),()),((v0.1,v0.2.1,v0.2.2.1,v0.2.2.2,()),()),())
abbrev yDI (v0:Bool):(yfN).X:=(((v0,()),()),(),())
def ynw (v0:List Int) (v1:Int) (v2:Int) (v3:List (List Int)) (v4:List dW) (v5:Bool) (v6:List Int):Option ((ybH).X ⊕ ((yfi).X ⊕ (yfN).X)) :=
  bif (ltb v2 v1) then
    bif (inb v2 v0.length) then
      let r10:=ycg (v3,v4,v5,v6) (nth v0 v2 0)
      bif (!(!r10)) then
        bif (ltb 0 v2) then
          bif (inb (IntKind.i64.wrap (v2 - 1)) v6.length) then
            bif (leb (nth v0 v2 0) (nth v6 (IntKind.i64.wrap (v2 - 1)) 0)) then
              some (.inr (.inr (((false,()),()),(),())))
            else
              some (.inl ((((),()),(v0,()),(v1,()),((IntKind.i64.wrap (v2+1)),()),()),((v3,v4,v5,v6,()),()),()))
          else none
        else
          some (.inl ((((),()),(v0,()),(v1,()),((IntKind.i64.wrap (v2+1)),()),()),((v3,v4,v5,v6,()),()),()))
      else
        some (.inr (.inr (((false,()),()),(),())))
    else none
  else
    some (.inr (.inl ((((),()),()),((v3,v4,v5,v6,()),()),())))
def yb4 (x:(ybH).X):=ynw x.1.2.1.1 x.1.2.2.1.1 x.1.2.2.2.1.1 x.2.1.1.1 x.2.1.1.2.1 x.2.1.1.2.2.1 x.2.1.1.2.2.2.1
def ys1 (x:(yfv).X):(ybH).X:=((((),()),(x.1.2.1.1,()),(x.1.2.2.1.1,()),(0,()),()),((x.2.1.1.1,x.2.1.1.2.1,x.2.1.1.2.2.1,x.2.1.1.2.2.2.1,()),()),())
def yuN:Code:=(zdI yas 64 244).getD .skip
theorem yE8:zdI yas 64 61=some (.block 4 (.loop yuN)):=by kernel_rfl
theorem yHB (x:(ybH).X):zg7 ⟨ycP,76,ypw⟩ 4 yuN 244 ybH yfi yfN x=yb4 x:=by kernel_rfl
def ytg (x:(yfv).X):Nat:=(fun (u0:List Int) (u1:Int) (u2:List (List Int)) (u3:List dW) (u4:Bool) (u5:List Int)=>18446744073709551616) x.1.2.1.1 x.1.2.2.1.1 x.2.1.1.1 x.2.1.1.2.1 x.2.1.1.2.2.1 x.2.1.1.2.2.2.1
def yod (x:(yfv).X):Option ((yfi).X ⊕ (yfN).X):=zr yb4 (ytg x) (ys1 x)
def ytN:Seg:=⟨yfv,yfi,yfN,yod⟩
def yv6:Nat→Option Seg:=fun q=>bif Nat.beq q 61 then some ytN else ypw q
theorem yFH:FrOk Try.prog ⟨ycP,76,yv6⟩ yas:=(yFG).loop (sg:=ytN) ybH ys1 (by decide) yE8 yb4 ytg (by decide) (fun _=>rfl) (fun x r _ h=>h) yHB
abbrev ygL:List Par:= [.rd tM]
abbrev yor:List OT:= [⟨false,tB,.fz⟩]
def yk8 (a0:dM):Option (ResD yor×MutD ygL) :=
  zjw (yob ((((),()),(a0.1,()),((a0.1.length:Int),()),((),()),()),((a0.1,a0.2.1,a0.2.2.1,a0.2.2.2,()),()),())) (fun y2 =>
    zjw (yoc ((((),()),(y2.2.1.1.2.1,()),((y2.2.1.1.2.1.length:Int),()),((),()),()),((y2.2.1.1.1,y2.2.1.1.2.1,y2.2.1.1.2.2.1,y2.2.1.1.2.2.2.1,()),()),())) (fun y7 =>
      zjw (yod ((((),()),(y7.2.1.1.2.2.2.1,()),((y7.2.1.1.2.2.2.1.length:Int),()),((),()),()),((y7.2.1.1.1,y7.2.1.1.2.1,y7.2.1.1.2.2.1,y7.2.1.1.2.2.2.1,()),()),())) (fun y10 =>
        let r12:=yi (y10.2.1.1.1.length:Int) 1 20
        bif r12 then
          some (((leb (y10.2.1.1.2.1.length:Int) 60),()),())
        else
          some ((false,()),())) (fun y10 =>
        some ((y10.1.1.1,()),()))) (fun y7 =>
      some ((y7.1.1.1,()),()))) (fun y2 =>
    some ((y2.1.1.1,()),()))
theorem yLP (x:InD ygL):zjH ⟨ycP,76,yv6⟩ Try.f43.results.toList yas ygL yor x=yk8 x.1:=by kernel_rfl
theorem yI4:ConOk Try.prog 43 ⟨ygL,yor,fun x=>yk8 x.1⟩:=zkh (yFH) Try.func43 (by kernel_rfl) (by kernel_rfl) Try.ntmps43.symm (by decide) (fun x r h=>(yLP x).trans h)
def yeH (a0:dM):Bool:=ym a0
theorem yK3 (a0:dM) (hk:zi9 ygL (a0,())):yk8 a0=(fun n=>some ((n,()),())) (yeH a0):=by
  have hb1:a0.1.length * 24≤2 ^ 47:=hk.1.1.1
  have hb2:a0.2.1.length * 32≤2 ^ 47:=hk.1.2.1.1
  have hb3:a0.2.2.2.length * 8≤2 ^ 47:=hk.1.2.2.2.1
  have h1:yob (yDt a0.1 a0.1.length a0)=some (bif a0.1.all yI then .inl (yDl a0) else .inr (yDG false)) :=
    zjS (step:=yb2) a0.1 [] (fun i=>ynd a0.1 a0.1.length i a0) yI _ _ (fun i hi=>by
      simp only [yb2,ynd,ynu,zjI (show (i:Int) < a0.1.length by omega),cond_true,wr (show -9223372036854775808≤(i:Int)+1 by omega) (by omega),Int.natCast_add,Int.natCast_one,Int.toNat_natCast,zkO hi,zjW,yBY]
      cases yI (a0.1.getD i [])<;>rfl) (by simp only [yb2,ynd,ynu,zkm (Int.le_refl _),cond_false]) _ (by show _ < 18446744073709551616; omega)
  have h2:yoc (yDu a0.2.1 a0.2.1.length a0)=some (bif a0.2.1.all (ynG a0.1.length) then .inl (yDm a0) else .inr (yDH false)) :=
    zjS (step:=yb3) a0.2.1 (0,[]) (fun i=>yne a0.2.1 a0.2.1.length i a0) (ynG a0.1.length) _ _ (fun i hi=>by
      simp only [yb3,yne,ynv,zjI (show (i:Int) < a0.2.1.length by omega),cond_true,wr (show -9223372036854775808≤(i:Int)+1 by omega) (by omega),Int.natCast_add,Int.natCast_one,Int.toNat_natCast,zkO hi,zjW,yBY,ycg,yaj,yl3 (show a0.1.length≤1152921504606846976 by omega),ynG]
      cases inb (a0.2.1.getD i (0,[])).1 a0.1.length<;>cases yI (a0.2.1.getD i (0,[])).2<;>rfl) (by simp only [yb3,yne,ynv,zkm (Int.le_refl _),cond_false]) _ (by show _ < 18446744073709551616; omega)
  have h3:yod (yDv a0.2.2.2 a0.2.2.2.length a0)=some (bif (List.range a0.2.2.2.length).any (yuH a0.1.length a0.2.2.2) then .inr (yDI false) else .inl (yDn a0)) :=
    zf4 (step:=yb4) (fun i=>ynf a0.2.2.2 a0.2.2.2.length i a0) a0.2.2.2.length (yuH a0.1.length a0.2.2.2) _ _ (fun i hi=>by
      simp only [yb4,ynf,ynw,zjI (show (i:Int) < a0.2.2.2.length by omega),cond_true,wr (show -9223372036854775808≤(i:Int)+1 by omega) (by omega),Int.natCast_add,Int.natCast_one,Int.toNat_natCast,zkO hi,zjW,ycg,yaj,yl3 (show a0.1.length≤1152921504606846976 by omega),yuH]
      rcases Nat.eq_zero_or_pos i with rfl | h0
      · cases inb (a0.2.2.2.getD 0 0) a0.1.length<;>rfl
      · rw [show IntKind.i64.wrap ((i:Int) - 1)=((i - 1:Nat):Int) by rw [wr (by omega) (by omega)]; omega,zkO (show i - 1 < a0.2.2.2.length by omega),zjW,zjI (show (0:Int) < i by omega),decide_eq_true h0]
        cases inb (a0.2.2.2.getD i 0) a0.1.length<;>cases leb (a0.2.2.2.getD i 0) (a0.2.2.2.getD (i - 1) 0)<;>rfl) (by simp only [yb4,ynf,ynw,zkm (Int.le_refl _),cond_false]) _ (by show _ < 18446744073709551616; omega)
  unfold yk8 yeH ym
  rw [h1]
  cases a0.1.all yI
  · rfl
  simp only [cond_true,zkJ,h2]
  cases a0.2.1.all (ynG a0.1.length)
  · rfl
  simp only [cond_true,zkJ,h3,yJV,yaj,ybB]
  cases ykV a0.1.length a0.2.2.2
  · rfl
  simp only [Bool.not_true,cond_false,zkJ]
  cases leb 1 (a0.1.length:Int)<;>cases leb (a0.1.length:Int) 20<;>rfl
def ypD:Con:=⟨ygL,yor,fun x=>(fun n=>some ((n,()),())) (yeH x.1)⟩
theorem yyx:ConOk Try.prog 43 ypD:=(yI4).mono (fun x r hk h=>(yK3 x.1 hk).trans h)
end
section
def yvS:Code:=(Try.f44.body).getD .skip
def ywp:Env:=zki TT [] []
theorem yAO:FrOk Try.prog ⟨ywp,6,fun _=>none⟩ yvS:=zkp yc yd trivial
def yB5:Nat→Option Seg:=fun _=>none
abbrev ygO:List Par:= [.rd tG]
abbrev ykK:List OT:= [⟨false,tI,.fz⟩]
def ynp (a0:dG):Option (ResD ykK×MutD ygO) :=
  some (((IntKind.i64.wrap (6+a0.2)),()),())
theorem yIa (x:InD ygO):zjH ⟨ywp,6,yB5⟩ Try.f44.results.toList yvS ygO ykK x=ynp x.1:=by kernel_rfl
theorem yD1:ConOk Try.prog 44 ⟨ygO,ykK,fun x=>ynp x.1⟩:=zkh (yAO) Try.func44 (by kernel_rfl) (by kernel_rfl) Try.ntmps44.symm (by decide) (fun x r h=>(yIa x).trans h)
def ykY (a0:dG):Int :=
  (IntKind.i64.wrap (6+a0.2))
def ysN:Con:=⟨ygO,ykK,fun x=>(fun n=>some ((n,()),())) (ykY x.1)⟩
theorem yGs (a0:dG):ynp a0=(fun n=>some ((n,()),())) (ykY a0):=zkS (p:=fun (n:Int)=>((n,()),())) rfl
theorem yHi:ConOk Try.prog 44 ysN:=(yD1).mono (fun x r _ h=>(yGs x.1).trans h)
end
section
def yjR:Code:=(Try.f15.body).getD .skip
def yn1:Env:=zki TT [(39,yD),(40,ypC),(41,yu5),(42,ysM),(43,ypD),(44,ysN)] []
theorem yFB:FrOk Try.prog ⟨yn1,103,fun _=>none⟩ yjR:=zkp yc yd ⟨yS,yyw,yJt,yHh,yyx,yHi,trivial⟩
def yv3:Nat→Option Seg:=fun _=>none
def ybE:Shape:=⟨[(1,false,[.ptr 0 0]),(41,false,[.br tM]),(42,false,[.int .i64]),(43,false,[.int .i64])],[(0,[.int .i64,.int .i64,.int .i64,.br tM,.int .i64,.int .i64,.int .i64,.int .i64,.int .i64,.br tW,.int .i64,.bool,.bool])],[]⟩
def yfs:Shape:=⟨[(1,false,[.ptr 0 0]),(41,false,[.br tM]),(42,false,[.int .i64]),(43,false,[.ci .i64 0])],[(0,[.int .i64,.int .i64,.int .i64,.br tM,.int .i64,.int .i64,.int .i64,.int .i64,.int .i64,.br tW,.int .i64,.bool,.bool])],[]⟩
def yff:Shape:=⟨[(1,false,[.ptr 0 0])],[(0,[.int .i64,.int .i64,.int .i64,.br tM,.int .i64,.int .i64,.int .i64,.int .i64,.int .i64,.br tW,.int .i64,.bool,.bool])],[]⟩
def yfK:Shape:=⟨[(2,false,[.bool])],[],[]⟩
abbrev ync (v0:List dM) (v1:Int) (v2:Int) (v3:dA):(ybE).X:=((((),()),(v0,()),(v1,()),(v2,()),()),((v3.1,v3.2.1.1,v3.2.1.2,v3.2.2.1,v3.2.2.2.1,v3.2.2.2.2.1,v3.2.2.2.2.2.1,v3.2.2.2.2.2.2.1,v3.2.2.2.2.2.2.2.1,v3.2.2.2.2.2.2.2.2.1,v3.2.2.2.2.2.2.2.2.2.1,v3.2.2.2.2.2.2.2.2.2.2.1,v3.2.2.2.2.2.2.2.2.2.2.2,()),()),())
abbrev yDs (v0:List dM) (v1:Int) (v2:dA):(yfs).X:=((((),()),(v0,()),(v1,()),((),()),()),((v2.1,v2.2.1.1,v2.2.1.2,v2.2.2.1,v2.2.2.2.1,v2.2.2.2.2.1,v2.2.2.2.2.2.1,v2.2.2.2.2.2.2.1,v2.2.2.2.2.2.2.2.1,v2.2.2.2.2.2.2.2.2.1,v2.2.2.2.2.2.2.2.2.2.1,v2.2.2.2.2.2.2.2.2.2.2.1,v2.2.2.2.2.2.2.2.2.2.2.2,()),()),())
abbrev yDk (v0:dA):(yff).X:=((((),()),()),((v0.1,v0.2.1.1,v0.2.1.2,v0.2.2.1,v0.2.2.2.1,v0.2.2.2.2.1,v0.2.2.2.2.2.1,v0.2.2.2.2.2.2.1,v0.2.2.2.2.2.2.2.1,v0.2.2.2.2.2.2.2.2.1,v0.2.2.2.2.2.2.2.2.2.1,v0.2.2.2.2.2.2.2.2.2.2.1,v0.2.2.2.2.2.2.2.2.2.2.2,()),()),())
abbrev yDF (v0:Bool):(yfK).X:=(((v0,()),()),(),())
def ynt (v0:List dM) (v1:Int) (v2:Int) (v3:Int) (v4:Int) (v5:Int) (v6:List dM) (v7:Int) (v8:Int) (v9:Int) (v10:Int) (v11:Int) (v12:List dW) (v13:Int) (v14:Bool) (v15:Bool):Option ((ybE).X ⊕ ((yff).X ⊕ (yfK).X)) :=
  bif (ltb v2 v1) then
    bif (inb v2 v0.length) then
      let r7:=yeH ((nth v0 v2 ([],[],false,[])).1,((nth v0 v2 ([],[],false,[])).2).1,(((nth v0 v2 ([],[],false,[])).2).2))
      bif (!(!r7)) then
        let r8:=ykY (v4,v5)
        bif (!((((nth v0 v2 ([],[],false,[])).1).length:Int) !=r8)) then
          bif (((nth v0 v2 ([],[],false,[])).2).2).1 then
            bif (v7 !=v2) then
              bif (!v15) then
                some (.inr (.inr (((false,()),()),(),())))
              else
                some (.inl ((((),()),(v0,()),(v1,()),((IntKind.i64.wrap (v2+1)),()),()),((v3,v4,v5,v6,v7,v8,v9,v10,v11,v12,v13,v14,v15,()),()),()))
            else
              some (.inl ((((),()),(v0,()),(v1,()),((IntKind.i64.wrap (v2+1)),()),()),((v3,v4,v5,v6,v7,v8,v9,v10,v11,v12,v13,v14,v15,()),()),()))
          else
            some (.inl ((((),()),(v0,()),(v1,()),((IntKind.i64.wrap (v2+1)),()),()),((v3,v4,v5,v6,v7,v8,v9,v10,v11,v12,v13,v14,v15,()),()),()))
        else
          some (.inr (.inr (((false,()),()),(),())))
      else
        some (.inr (.inr (((false,()),()),(),())))
    else none
  else
    some (.inr (.inl ((((),()),()),((v3,v4,v5,v6,v7,v8,v9,v10,v11,v12,v13,v14,v15,()),()),())))
def yb1 (x:(ybE).X):=ynt x.1.2.1.1 x.1.2.2.1.1 x.1.2.2.2.1.1 x.2.1.1.1 x.2.1.1.2.1 x.2.1.1.2.2.1 x.2.1.1.2.2.2.1 x.2.1.1.2.2.2.2.1 x.2.1.1.2.2.2.2.2.1 x.2.1.1.2.2.2.2.2.2.1 x.2.1.1.2.2.2.2.2.2.2.1 x.2.1.1.2.2.2.2.2.2.2.2.1 x.2.1.1.2.2.2.2.2.2.2.2.2.1 x.2.1.1.2.2.2.2.2.2.2.2.2.2.1 x.2.1.1.2.2.2.2.2.2.2.2.2.2.2.1 x.2.1.1.2.2.2.2.2.2.2.2.2.2.2.2.1
def ysY (x:(yfs).X):(ybE).X:=((((),()),(x.1.2.1.1,()),(x.1.2.2.1.1,()),(0,()),()),((x.2.1.1.1,x.2.1.1.2.1,x.2.1.1.2.2.1,x.2.1.1.2.2.2.1,x.2.1.1.2.2.2.2.1,x.2.1.1.2.2.2.2.2.1,x.2.1.1.2.2.2.2.2.2.1,x.2.1.1.2.2.2.2.2.2.2.1,x.2.1.1.2.2.2.2.2.2.2.2.1,x.2.1.1.2.2.2.2.2.2.2.2.2.1,x.2.1.1.2.2.2.2.2.2.2.2.2.2.1,x.2.1.1.2.2.2.2.2.2.2.2.2.2.2.1,x.2.1.1.2.2.2.2.2.2.2.2.2.2.2.2.1,()),()),())
def yuK:Code:=(zdI yjR 64 116).getD .skip
theorem yE5:zdI yjR 64 29=some (.block 0 (.loop yuK)):=by kernel_rfl
theorem yHy (x:(ybE).X):zg7 ⟨yn1,103,yv3⟩ 0 yuK 116 ybE yff yfK x=yb1 x:=by kernel_rfl
def ytd (x:(yfs).X):Nat:=(fun (u0:List dM) (u1:Int) (u2:Int) (u3:Int) (u4:Int) (u5:List dM) (u6:Int) (u7:Int) (u8:Int) (u9:Int) (u10:Int) (u11:List dW) (u12:Int) (u13:Bool) (u14:Bool)=>18446744073709551616) x.1.2.1.1 x.1.2.2.1.1 x.2.1.1.1 x.2.1.1.2.1 x.2.1.1.2.2.1 x.2.1.1.2.2.2.1 x.2.1.1.2.2.2.2.1 x.2.1.1.2.2.2.2.2.1 x.2.1.1.2.2.2.2.2.2.1 x.2.1.1.2.2.2.2.2.2.2.1 x.2.1.1.2.2.2.2.2.2.2.2.1 x.2.1.1.2.2.2.2.2.2.2.2.2.1 x.2.1.1.2.2.2.2.2.2.2.2.2.2.1 x.2.1.1.2.2.2.2.2.2.2.2.2.2.2.1 x.2.1.1.2.2.2.2.2.2.2.2.2.2.2.2.1
def yoa (x:(yfs).X):Option ((yff).X ⊕ (yfK).X):=zr yb1 (ytd x) (ysY x)
def ytK:Seg:=⟨yfs,yff,yfK,yoa⟩
def yv4:Nat→Option Seg:=fun q=>bif Nat.beq q 29 then some ytK else yv3 q
theorem yFC:FrOk Try.prog ⟨yn1,103,yv4⟩ yjR:=(yFB).loop (sg:=ytK) ybE ysY (by decide) yE5 yb1 ytd (by decide) (fun _=>rfl) (fun x r _ h=>h) yHy
abbrev ygK:List Par:= [.rd tA]
abbrev yop:List OT:= [⟨false,tB,.fz⟩]
def yk7 (a0:dA):Option (ResD yop×MutD ygK) :=
  let r1:=yhg a0.2.1
  bif (!(!r1)) then
    bif (!((a0.2.2.1.length:Int) !=a0.2.1.1)) then
      let r2:=yi a0.1 1 60000
      bif (!(!r2)) then
        let r3:=ymM a0.2.1 a0.2.2.2.1 a0.2.2.2.2.1
        bif (!(!r3)) then
          bnd (yk3 a0) fun r4 =>
          bif (!r4.1.1) then
            some ((false,()),())
          else
            zjw (yoa ((((),()),(a0.2.2.1,()),((a0.2.2.1.length:Int),()),((),()),()),((a0.1,a0.2.1.1,a0.2.1.2,a0.2.2.1,a0.2.2.2.1,a0.2.2.2.2.1,a0.2.2.2.2.2.1,a0.2.2.2.2.2.2.1,a0.2.2.2.2.2.2.2.1,a0.2.2.2.2.2.2.2.2.1,a0.2.2.2.2.2.2.2.2.2.1,a0.2.2.2.2.2.2.2.2.2.2.1,a0.2.2.2.2.2.2.2.2.2.2.2,()),()),())) (fun y8 =>
              let r10:=yi y8.2.1.1.2.2.2.2.2.2.1 0 60000
              bif r10 then
                let r11:=yi y8.2.1.1.2.2.2.2.2.2.2.1 0 60000
                bif r11 then
                  let r12:=yi y8.2.1.1.2.2.2.2.2.2.2.2.1 0 60000
                  bif r12 then
                    let r13:=yi (IntKind.i64.wrap (y8.2.1.1.2.2.2.2.2.2.1 - y8.2.1.1.2.2.2.2.2.2.2.1)) 0 4
                    bif r13 then
                      let r14:=yi y8.2.1.1.2.2.2.2.2.2.2.2.2.2.1 (-1) 1000
                      some ((r14,()),())
                    else
                      some ((false,()),())
                  else
                    some ((false,()),())
                else
                  some ((false,()),())
              else
                some ((false,()),())) (fun y8 =>
              some ((y8.1.1.1,()),()))
        else
          some ((false,()),())
      else
        some ((false,()),())
    else
      some ((false,()),())
  else
    some ((false,()),())
theorem yLN (x:InD ygK):zjH ⟨yn1,103,yv4⟩ Try.f15.results.toList yjR ygK yop x=yk7 x.1:=by kernel_rfl
theorem yI2:ConOk Try.prog 15 ⟨ygK,yop,fun x=>yk7 x.1⟩:=zkh (yFC) Try.func15 (by kernel_rfl) (by kernel_rfl) Try.ntmps15.symm (by decide) (fun x r h=>(yLN x).trans h)
theorem yOU {S T G F z TS le:Bool} (h1:T=true→TS=true→S=true) (h2:S=true→T=true→z=(TS&&le)) :
    (bif S then bif T then bif G then bif z then some ((F,()),()) else some ((false,()),()) else some ((false,()),()) else some ((false,()),()) else some ((false,()),()))=some (((T&&(TS&&(le&&(G&&F)))),()),()):=by
  cases S
  · cases T
    · rfl
    · cases TS
      · rfl
      · exact absurd (h1 rfl rfl) Bool.false_ne_true
  · cases T
    · cases G<;>rfl
    · rw [h2 rfl rfl]
      cases TS<;>cases le<;>cases G<;>rfl
def ybT (a0:dA):Bool:=yu a0
theorem yK1 (a0:dA) (hk:zi9 ygK (a0,())):yk7 a0=(fun n=>some ((n,()),())) (ybT a0):=by
  have hb:a0.2.2.1.length * 80≤2 ^ 47:=hk.1.2.2.1.1
  unfold yk7 ybT yu
  simp only [yGc,yaj,ybB]
  cases hg:yb a0.2.1
  · rfl
  have hg2:=yk.1 hg
  have h1:yoa (yDs a0.2.2.1 a0.2.2.1.length a0)=some (bif (List.range a0.2.2.1.length).any (yeG a0) then .inr (yDF false) else .inl (yDk a0)) :=
    zf4 (step:=yb1) (fun i=>ync a0.2.2.1 a0.2.2.1.length i a0) a0.2.2.1.length (yeG a0) _ _ (fun i hi=>by
      simp only [yb1,ync,ynt,zjI (show (i:Int) < a0.2.2.1.length by omega),cond_true,wr (show -9223372036854775808≤(i:Int)+1 by omega) (by omega),Int.natCast_add,Int.natCast_one,Int.toNat_natCast,zkO hi,zkV,yeH,yeG,ykY,wr (show -9223372036854775808≤6+a0.2.1.2 by omega) (by omega),noMem]
      rw [show (a0.2.2.2.1 !=(i:Int))=((i:Int) !=a0.2.2.2.1) from bne_comm]
      cases ym (nth a0.2.2.1 i ([],[],false,[]))<;>cases (((nth a0.2.2.1 i ([],[],false,[])).1.length:Int) !=6+a0.2.1.2)<;>cases (nth a0.2.2.1 i ([],[],false,[])).2.2.1<;>cases ((i:Int) !=a0.2.2.2.1)<;>cases a0.2.2.2.2.2.2.2.2.2.2.2<;>rfl) (by simp only [yb1,ync,ynt,zkm (Int.le_refl _),cond_false]) _ (by show _ < 18446744073709551616; omega)
  rw [yHt a0 hg,h1]
  simp only [zky,yhj,ymM,yaj,ybB,wr (show -9223372036854775808≤a0.2.1.1 - 1 by omega) (by omega),yiH]
  have hw:(leb 0 a0.2.2.2.2.2.1&&leb a0.2.2.2.2.2.1 60000)=true→(leb 0 a0.2.2.2.2.2.2.1&&leb a0.2.2.2.2.2.2.1 60000)=true→IntKind.i64.wrap (a0.2.2.2.2.2.1 - a0.2.2.2.2.2.2.1)=a0.2.2.2.2.2.1 - a0.2.2.2.2.2.2.1:=fun h h'=>by
    rw [Bool.and_eq_true,zjQ,zjQ]at h h'
    exact wr (by omega) (by omega)
  simp only [bne,Bool.not_not,cond_true,Bool.true_and]
  have h2:(leb 0 a0.2.2.2.2.2.1&&leb a0.2.2.2.2.2.1 60000)=true→(leb 0 a0.2.2.2.2.2.2.1&&leb a0.2.2.2.2.2.2.1 60000)=true→(leb 0 (IntKind.i64.wrap (a0.2.2.2.2.2.1 - a0.2.2.2.2.2.2.1))&&leb (IntKind.i64.wrap (a0.2.2.2.2.2.1 - a0.2.2.2.2.2.2.1)) 4)=((leb a0.2.2.2.2.2.2.1 a0.2.2.2.2.2.1&&leb a0.2.2.2.2.2.1 60000)&&leb a0.2.2.2.2.2.1 (a0.2.2.2.2.2.2.1+4)):=fun h h'=>by
    rw [hw h h',Bool.eq_iff_iff]
    simp only [Bool.and_eq_true,zjQ]at h h' ⊢
    omega
  have h3:(leb 0 a0.2.2.2.2.2.2.1&&leb a0.2.2.2.2.2.2.1 60000)=true→(leb a0.2.2.2.2.2.2.1 a0.2.2.2.2.2.1&&leb a0.2.2.2.2.2.1 60000)=true→(leb 0 a0.2.2.2.2.2.1&&leb a0.2.2.2.2.2.1 60000)=true:=fun h h'=>by
    simp only [Bool.and_eq_true,zjQ]at h h' ⊢
    omega
  cases ((a0.2.2.1.length:Int)==a0.2.1.1)
  · cases (leb 1 a0.1&&leb a0.1 60000)<;>cases (List.range a0.2.2.1.length).any (yeG a0)<;>rfl
  cases (leb 1 a0.1&&leb a0.1 60000)
  · rfl
  cases (leb (-1) a0.2.2.2.1&&leb a0.2.2.2.1 (a0.2.1.1 - 1))
  · cases (List.range a0.2.2.1.length).any (yeG a0)<;>cases yab a0.2.1 a0.2.2.2.2.2.2.2.2.1<;>rfl
  cases (leb 0 a0.2.2.2.2.1&&leb a0.2.2.2.2.1 a0.2.1.2)
  · cases (List.range a0.2.2.1.length).any (yeG a0)<;>cases yab a0.2.1 a0.2.2.2.2.2.2.2.2.1<;>rfl
  cases yab a0.2.1 a0.2.2.2.2.2.2.2.2.1
  · cases (List.range a0.2.2.1.length).any (yeG a0)<;>cases (a0.2.2.2.1== -1)<;>cases (a0.2.2.2.2.1==0)<;>rfl
  cases (List.range a0.2.2.1.length).any (yeG a0)
  · cases (a0.2.2.2.1== -1)<;>cases (a0.2.2.2.2.1==0)
    case true.false=>rfl
    all_goals exact yOU h3 h2
  · cases (a0.2.2.2.1== -1)<;>cases (a0.2.2.2.2.1==0)<;>rfl
def ykW:Con:=⟨ygK,yop,fun x=>(fun n=>some ((n,()),())) (ybT x.1)⟩
theorem yqU:ConOk Try.prog 15 ykW:=(yI2).mono (fun x r hk h=>(yK1 x.1 hk).trans h)
end
section
def yxI:Code:=(Try.f69.body).getD .skip
def yx8:Env:=zki TT [(39,yD)] []
theorem yCw:FrOk Try.prog ⟨yx8,9,fun _=>none⟩ yxI:=zkp yc yd ⟨yS,trivial⟩
def yEG:Nat→Option Seg:=fun _=>none
abbrev yil:List Par:= [.rd tI]
abbrev ymh:List OT:= [⟨false,tI,.fz⟩]
def yo4 (a0:Int):Option (ResD ymh×MutD yil) :=
  let r1:=yi a0 0 1099511627776
  bif (!r1) then
    some (((-1),()),())
  else
    some (((IntKind.i64.wrap ((IntKind.i64.wrap (a0+2))+4)),()),())
theorem yKr (x:InD yil):zjH ⟨yx8,9,yEG⟩ Try.f69.results.toList yxI yil ymh x=yo4 x.1:=by kernel_rfl
theorem yGH:ConOk Try.prog 69 ⟨yil,ymh,fun x=>yo4 x.1⟩:=zkh (yCw) Try.func69 (by kernel_rfl) (by kernel_rfl) Try.ntmps69.symm (by decide) (fun x r h=>(yKr x).trans h)
def ymL (a0:Int):Int :=
  let r1:=yi a0 0 1099511627776
  bif (!r1) then
    (-1)
  else
    (IntKind.i64.wrap ((IntKind.i64.wrap (a0+2))+4))
def yuZ:Con:=⟨yil,ymh,fun x=>(fun n=>some ((n,()),())) (ymL x.1)⟩
theorem yIy (a0:Int):yo4 a0=(fun n=>some ((n,()),())) (ymL a0):=zkS (p:=fun (n:Int)=>((n,()),())) (zkx (p:=fun (n:Int)=>((n,()),())) rfl rfl)
theorem yJn:ConOk Try.prog 69 yuZ:=(yGH).mono (fun x r _ h=>(yIy x.1).trans h)
theorem yIv (s:Int):ymL s=dataAt s:=yd8 s
end
section
def yt4:Code:=(Try.f49.body).getD .skip
def yuz:Env:=zki TT [] []
theorem yzu:FrOk Try.prog ⟨yuz,6,fun _=>none⟩ yt4:=zkp yc yd trivial
def yAr:Nat→Option Seg:=fun _=>none
abbrev yc4:List Par:= [.rd tL]
abbrev yjc:List OT:= [⟨false,tL,(.ow .fz)⟩]
def ygs (a0:List Int):Option (ResD yjc×MutD yc4) :=
  bif (zj4 ([]:List Int).length a0.length 8) then
    some (((([]:List Int)++a0),()),())
  else none
theorem yFp (x:InD yc4):zjH ⟨yuz,6,yAr⟩ Try.f49.results.toList yt4 yc4 yjc x=ygs x.1:=by kernel_rfl
theorem yBy:ConOk Try.prog 49 ⟨yc4,yjc,fun x=>ygs x.1⟩:=zkh (yzu) Try.func49 (by kernel_rfl) (by kernel_rfl) Try.ntmps49.symm (by decide) (fun x r h=>(yFp x).trans h)
def yfT (a0:List Int):List Int:=a0
theorem yDP (a0:List Int) (hk:zi9 yc4 (a0,())):ygs a0=(fun n=>some ((n,()),())) (yfT a0):=by
  have hb:a0.length * 8≤2 ^ 47:=hk.1.1
  unfold ygs yfT
  rw [show zj4 ([]:List Int).length a0.length 8=true by rw [zkw,List.length_nil]; omega]
  rfl
def yrk:Con:=⟨yc4,yjc,fun x=>(fun n=>some ((n,()),())) (yfT x.1)⟩
theorem yEi:ConOk Try.prog 49 yrk:=(yBy).mono (fun x r hk h=>(yDP x.1 hk).trans h)
end
end
end Go.Tf
