/- Functions of the program, and what they come to. -/
import Derived.Test.YtfpjmijaiekbgaaGreatExactBuildAllF15
namespace Go.Tf
noncomputable section
open Go.Proofs
set_option synthInstance.maxHeartbeats 400000
set_option synthInstance.maxSize 10000
set_option linter.unusedVariables false
set_option linter.unusedSimpArgs false
set_option maxRecDepth 100000
section
def yDW:Code:=(Tryz.f79.body).getD .skip
def yEd:Env:=zki TT [(114,yo)] []
theorem yKu:FrOk Tryz.prog ⟨yEd,9,fun _=>none⟩ yDW:=zkp yb yc ⟨yF,trivial⟩
def yMT:Nat→Option Seg:=fun _=>none
abbrev yk9:List Par:= [.rd tI]
abbrev yqE:List OT:= [⟨false,tI,.fz⟩]
def ytp (a0:Int):Option (ResD yqE×MutD yk9) :=
  let r1:=ye a0 0 1099511627776
  bif (!r1) then
    some (((-1),()),())
  else
    some (((IntKind.i64.wrap ((IntKind.i64.wrap (a0+2))+4)),()),())
theorem ySC (x:InD yk9):zjH ⟨yEd,9,yMT⟩ Tryz.f79.results.toList yDW yk9 yqE x=ytp x.1:=by kernel_rfl
theorem yOX:ConOk Tryz.prog 79 ⟨yk9,yqE,fun x=>ytp x.1⟩:=zkh (yKu) Tryz.func79 (by kernel_rfl) (by kernel_rfl) Tryz.ntmps79.symm (by decide) (fun x r h=>(ySC x).trans h)
def ylq (a0:Int):Int :=
  let r1:=ye a0 0 1099511627776
  bif (!r1) then
    (-1)
  else
    (IntKind.i64.wrap ((IntKind.i64.wrap (a0+2))+4))
def ys2:Con:=⟨yk9,yqE,fun x=>(fun n=>some ((n,()),())) (ylq x.1)⟩
theorem yQX (a0:Int):ytp a0=(fun n=>some ((n,()),())) (ylq a0):=zkS (p:=fun (n:Int)=>((n,()),())) (zkx (p:=fun (n:Int)=>((n,()),())) rfl rfl)
theorem yDt:ConOk Tryz.prog 79 ys2:=(yOX).mono (fun x r _ h=>(yQX x.1).trans h)
theorem yDp (s:Int):ylq s=yqf s:=yuX s
end
section
def ydx:Code:=(Tryz.f257.body).getD .skip
def ygP:Env:=zki TT [] []
theorem yDl:FrOk Tryz.prog ⟨ygP,19,fun _=>none⟩ ydx:=zkp yb yc trivial
def yr6:Nat→Option Seg:=fun _=>none
def yP:Shape:=⟨[(0,false,[.br tI]),(1,false,[.int .i64]),(7,false,[.int .i64]),(8,false,[.int .i64])],[],[]⟩
def ybY:Shape:=⟨[(0,false,[.br tI]),(1,false,[.int .i64]),(7,false,[.int .i64]),(8,false,[.ci .i64 0])],[],[]⟩
def ybW:Shape:=⟨[],[],[]⟩
def yb0:Shape:=⟨[(4,false,[.int .i64])],[],[]⟩
abbrev yh9 (v0:List Int) (v1:Int) (v2:Int) (v3:Int):(yP).X:=(((v0,()),(v1,()),(v2,()),(v3,()),()),(),())
abbrev yCe (v0:List Int) (v1:Int) (v2:Int):(ybY).X:=(((v0,()),(v1,()),(v2,()),((),()),()),(),())
abbrev yCc  :(ybW).X:=((),(),())
abbrev yqm (v0:Int):(yb0).X:=(((v0,()),()),(),())
def yid (v0:List Int) (v1:Int) (v2:Int) (v3:Int):Option ((yP).X ⊕ ((ybW).X ⊕ (yb0).X)) :=
  bif (ltb v3 v2) then
    bif (inb v3 v0.length) then
      bif (v1==(nth v0 v3 0)) then
        some (.inr (.inr (((v3,()),()),(),())))
      else
        some (.inl (((v0,()),(v1,()),(v2,()),((IntKind.i64.wrap (v3+1)),()),()),(),()))
    else none
  else
    some (.inr (.inl ((),(),())))
def yW (x:(yP).X):=yid x.1.1.1 x.1.2.1.1 x.1.2.2.1.1 x.1.2.2.2.1.1
def yqg (x:(ybY).X):(yP).X:=(((x.1.1.1,()),(x.1.2.1.1,()),(x.1.2.2.1.1,()),(0,()),()),(),())
def yr2:Code:=(zdI ydx 64 52).getD .skip
theorem yCR:zdI ydx 64 13=some (.block 0 (.loop yr2)):=by kernel_rfl
theorem yDz (x:(yP).X):zg7 ⟨ygP,19,yr6⟩ 0 yr2 52 yP ybW yb0 x=yW x:=by kernel_rfl
def yqi (x:(ybY).X):Nat:=(fun (u0:List Int) (u1:Int) (u2:Int)=>18446744073709551616) x.1.1.1 x.1.2.1.1 x.1.2.2.1.1
def yje (x:(ybY).X):Option ((ybW).X ⊕ (yb0).X):=zr yW (yqi x) (yqg x)
def yqo:Seg:=⟨ybY,ybW,yb0,yje⟩
def yr7:Nat→Option Seg:=fun q=>bif Nat.beq q 13 then some yqo else yr6 q
theorem yDm:FrOk Tryz.prog ⟨ygP,19,yr7⟩ ydx:=(yDl).loop (sg:=yqo) yP yqg (by decide) yCR yW yqi (by decide) (fun _=>rfl) (fun x r _ h=>h) yDz
abbrev ybO:List Par:= [.rd tL,.rd tI]
abbrev yhs:List OT:= [⟨false,tI,.fz⟩]
def ye3 (a0:List Int) (a1:Int):Option (ResD yhs×MutD ybO) :=
  zjw (yje (((a0,()),(a1,()),((a0.length:Int),()),((),()),()),(),())) (fun y0 =>
    some (((-1),()),())) (fun y0 =>
    some ((y0.1.1.1,()),()))
theorem yGg (x:InD ybO):zjH ⟨ygP,19,yr7⟩ Tryz.f257.results.toList ydx ybO yhs x=ye3 x.1 x.2.1:=by kernel_rfl
theorem yDP:ConOk Tryz.prog 257 ⟨ybO,yhs,fun x=>ye3 x.1 x.2.1⟩:=zkh (yDm) Tryz.func257 (by kernel_rfl) (by kernel_rfl) Tryz.ntmps257.symm (by decide) (fun x r h=>(yGg x).trans h)
def yQU (l:List Int) (x:Int):Int:=bif l.any (· ==x) then ((l.takeWhile (· !=x)).length:Int) else -1
def ydY (a0:List Int) (a1:Int):Int:=yQU a0 a1
theorem yVx {A B α:Type} {step:A→Option (A ⊕ B)} (l:List α) (d:α) (f:Nat→A) (p:α→Bool) (b:Nat→B) (c:B)
    (h: ∀ i,i < l.length→step (f i)=some (bif p (l.getD i d) then .inr (b i) else .inl (f (i+1)))) (e:step (f l.length)=some (.inr c)) (fuel:Nat) (hf:l.length < fuel) :
    zr step fuel (f 0)=some (bif l.any p then b (l.takeWhile (fun x=> !p x)).length else c):=by
  have: ∀ (t q:List α) (fuel:Nat),q++t=l→t.length < fuel→zr step fuel (f q.length)=some (bif t.any p then b (q.length+(t.takeWhile (fun x=> !p x)).length) else c):=by
    intro t
    induction t with
    | nil =>
      intro q fuel hq hf
      obtain ⟨fuel,rfl⟩: ∃ m,fuel=m+1:=⟨fuel - 1,by omega⟩
      rw [List.append_nil]at hq
      subst hq
      simp only [zr,e,List.any_nil,cond_false]
    | cons x t ih =>
      intro q fuel hq hf
      obtain ⟨fuel,rfl⟩: ∃ m,fuel=m+1:=⟨fuel - 1,by omega⟩
      have hx:l.getD q.length d=x:=by
        subst hq
        rw [zcq (by simp)]; simp
      have hs:=h q.length (by rw [← hq]; simp)
      rw [hx]at hs
      cases hp:p x
      · rw [hp]at hs
        have:=ih (q++ [x]) fuel (by rw [← hq]; simp) (by simp at hf; omega)
        simp only [List.length_append,List.length_cons,List.length_nil]at this
        simp only [zr,hs,cond_false]
        simp only [List.any_cons,hp,Bool.false_or,List.takeWhile_cons,Bool.not_false,if_true,List.length_cons]
        rw [show q.length+((t.takeWhile (fun x=> !p x)).length+1)=q.length+(0+1)+(t.takeWhile (fun x=> !p x)).length by omega]
        exact this
      · rw [hp]at hs
        simp only [zr,hs,cond_true,List.any_cons,hp,Bool.true_or,List.takeWhile_cons,Bool.not_true,Bool.false_eq_true,if_false,List.length_nil,Nat.add_zero]
  have:=this l [] fuel rfl hf
  simpa using this
theorem yE3 (a0:List Int) (a1:Int) (hk:zi9 ybO (a0,a1,())):ye3 a0 a1=(fun n=>some ((n,()),())) (ydY a0 a1):=by
  have hb:a0.length * 8≤2 ^ 47:=hk.1.1
  have h1:yje (yCe a0 a1 a0.length)=some (bif a0.any (· ==a1) then .inr (yqm ((a0.takeWhile (fun x=> !(x==a1))).length:Int)) else .inl yCc) :=
    yVx (step:=yW) a0 0 (fun i=>yh9 a0 a1 a0.length i) (· ==a1) (fun i=> .inr (yqm (i:Int))) _ (fun i hi=>by
      simp only [yW,yh9,yid,zjI (show (i:Int) < a0.length by omega),cond_true,wr (show -9223372036854775808≤(i:Int)+1 by omega) (by omega),Int.natCast_add,Int.natCast_one,Int.toNat_natCast,zkO hi,zjW]
      rw [show (a1==a0.getD i 0)=(a0.getD i 0==a1) by rw [Bool.eq_iff_iff,beq_iff_eq,beq_iff_eq]; exact eq_comm]
      cases (a0.getD i 0==a1)<;>rfl) (by simp only [yW,yh9,yid,zkm (Int.le_refl _),cond_false]) _ (by show _ < 18446744073709551616; omega)
  unfold ye3 ydY yQU
  rw [h1]
  cases a0.any (· ==a1)<;>rfl
def ys6:Con:=⟨ybO,yhs,fun x=>(fun n=>some ((n,()),())) (ydY x.1 x.2.1)⟩
theorem yE7:ConOk Tryz.prog 257 ys6:=(yDP).mono (fun x r hk h=>(yE3 x.1 x.2.1 hk).trans h)
end
section
def yr0:Code:=(Tryz.f229.body).getD .skip
def yr1:Env:=zki TT [(257,ys6)] []
theorem yz7:FrOk Tryz.prog ⟨yr1,9,fun _=>none⟩ yr0:=zkp yb yc ⟨yE7,trivial⟩
def yAK:Nat→Option Seg:=fun _=>none
abbrev yal:List Par:= [.rd tL,.rd tI]
abbrev yek:List OT:= [⟨false,tB,.fz⟩]
def yc2 (a0:List Int) (a1:Int):Option (ResD yek×MutD yal) :=
  let r1:=ydY a0 a1
  some (((leb 0 r1),()),())
theorem yDf (x:InD yal):zjH ⟨yr1,9,yAK⟩ Tryz.f229.results.toList yr0 yal yek x=yc2 x.1 x.2.1:=by kernel_rfl
theorem yAO:ConOk Tryz.prog 229 ⟨yal,yek,fun x=>yc2 x.1 x.2.1⟩:=zkh (yz7) Tryz.func229 (by kernel_rfl) (by kernel_rfl) Tryz.ntmps229.symm (by decide) (fun x r h=>(yDf x).trans h)
def yb2 (a0:List Int) (a1:Int):Bool:=a0.any (· ==a1)
theorem yCg (a0:List Int) (a1:Int) (hk:zi9 yal (a0,a1,())):yc2 a0 a1=(fun n=>some ((n,()),())) (yb2 a0 a1):=by
  unfold yc2 yb2 ydY yQU
  cases a0.any (· ==a1)
  · rfl
  · simp only [cond_true]
    rw [zk0 (show (0:Int)≤((a0.takeWhile (· !=a1)).length:Int) by omega)]
def ypo:Con:=⟨yal,yek,fun x=>(fun n=>some ((n,()),())) (yb2 x.1 x.2.1)⟩
theorem yCh:ConOk Tryz.prog 229 ypo:=(yAO).mono (fun x r hk h=>(yCg x.1 x.2.1 hk).trans h)
end
section
def yi1:Code:=(Tryz.f164.body).getD .skip
def yoq:Env:=zki TT [(132,yjG),(151,ycK),(204,ymG),(229,ypo)] []
theorem yH5:FrOk Tryz.prog ⟨yoq,49,fun _=>none⟩ yi1:=zkp yb yc ⟨yq9,yf1,yuz,yCh,trivial⟩
def yyN:Nat→Option Seg:=fun _=>none
def ya0:Shape:=⟨[(1,false,[.int .i64]),(6,false,[.br tI]),(34,false,[.br tW]),(35,false,[.int .i64]),(36,false,[.int .i64])],[],[]⟩
def yeK:Shape:=⟨[(1,false,[.int .i64]),(6,false,[.br tI]),(34,false,[.br tW]),(35,false,[.int .i64]),(36,false,[.ci .i64 0])],[],[]⟩
def yeB:Shape:=⟨[(6,false,[.br tI])],[],[]⟩
def yiv:Shape:=⟨[],[],[]⟩
abbrev ynQ (v0:Int) (v1:List Int) (v2:List dW) (v3:Int) (v4:Int):(ya0).X:=(((v0,()),(v1,()),(v2,()),(v3,()),(v4,()),()),(),())
abbrev yGZ (v0:Int) (v1:List Int) (v2:List dW) (v3:Int):(yeK).X:=(((v0,()),(v1,()),(v2,()),(v3,()),((),()),()),(),())
abbrev yv6 (v0:List Int):(yeB).X:=(((v0,()),()),(),())
def yn9 (v0:Int) (v1:List Int) (v2:List dW) (v3:Int) (v4:Int):Option ((ya0).X ⊕ ((yeB).X ⊕ (yiv).X)) :=
  bif (ltb v4 v3) then
    bif (inb v4 v2.length) then
      bif ((nth v2 v4 (0,[])).1==v0) then
        some (.inl (((v0,()),((nth v2 v4 (0,[])).2,()),(v2,()),(v3,()),((IntKind.i64.wrap (v4+1)),()),()),(),()))
      else
        some (.inl (((v0,()),(v1,()),(v2,()),(v3,()),((IntKind.i64.wrap (v4+1)),()),()),(),()))
    else none
  else
    some (.inr (.inl (((v1,()),()),(),())))
def ybe (x:(ya0).X):=yn9 x.1.1.1 x.1.2.1.1 x.1.2.2.1.1 x.1.2.2.2.1.1 x.1.2.2.2.2.1.1
def yvy (x:(yeK).X):(ya0).X:=(((x.1.1.1,()),(x.1.2.1.1,()),(x.1.2.2.1.1,()),(x.1.2.2.2.1.1,()),(0,()),()),(),())
def yxb:Code:=(zdI yi1 64 244).getD .skip
theorem yHO:zdI yi1 64 61=some (.block 0 (.loop yxb)):=by kernel_rfl
theorem yJv (x:(ya0).X):zg7 ⟨yoq,49,yyN⟩ 0 yxb 244 ya0 yeB yiv x=ybe x:=by kernel_rfl
def yvO (x:(yeK).X):Nat:=(fun (u0:Int) (u1:List Int) (u2:List dW) (u3:Int)=>18446744073709551616) x.1.1.1 x.1.2.1.1 x.1.2.2.1.1 x.1.2.2.2.1.1
def ypp (x:(yeK).X):Option ((yeB).X ⊕ (yiv).X):=zr ybe (yvO x) (yvy x)
def ywd:Seg:=⟨yeK,yeB,yiv,ypp⟩
def yyO:Nat→Option Seg:=fun q=>bif Nat.beq q 61 then some ywd else yyN q
theorem yH6:FrOk Tryz.prog ⟨yoq,49,yyO⟩ yi1:=(yH5).loop (sg:=ywd) ya0 yvy (by decide) yHO ybe yvO (by decide) (fun _=>rfl) (fun x r _ h=>h) yJv
abbrev yfa:List Par:= [.rd tM,.rd tI]
abbrev yoD:List OT:= [⟨false,tL,(.ow .fz)⟩,⟨false,tB,.fz⟩]
def ykE (a0:dM) (a1:Int):Option (ResD yoD×MutD yfa) :=
  let r1:=yaB a0
  bif (!(!r1)) then
    bif (!a0.2.2.1) then
      let r2:=yaF a0 a1
      bif (!(!r2)) then
        let r3:=yb2 a0.2.2.2 a1
        bif r3 then
          some (([],false,()),())
        else
          bif (inb a1 a0.1.length) then
            zjw (ypp (((a1,()),((nth a0.1 a1 []),()),(a0.2.1,()),((a0.2.1.length:Int),()),((),()),()),(),())) (fun y3 =>
              let r5:=yi y3.1.1.1
              some ((r5,true,()),())) (fun y3 =>
              none)
          else none
      else
        some (([],false,()),())
    else
      some (([],false,()),())
  else
    some (([],false,()),())
theorem yQq (x:InD yfa):zjH ⟨yoq,49,yyO⟩ Tryz.f164.results.toList yi1 yfa yoD x=ykE x.1 x.2.1:=by kernel_rfl
theorem yLY:ConOk Tryz.prog 164 ⟨yfa,yoD,fun x=>ykE x.1 x.2.1⟩:=zkh (yH6) Tryz.func164 (by kernel_rfl) (by kernel_rfl) Tryz.ntmps164.symm (by decide) (fun x r h=>(yQq x).trans h)
def yjI (a0:dM) (a1:Int):List Int×Bool:=yfp a0 a1
theorem yOA (a0:dM) (a1:Int) (hk:zi9 yfa (a0,a1,())):ykE a0 a1=(fun n=>some ((n.1,n.2,()),())) (yjI a0 a1):=by
  have hb1:a0.1.length * 24≤2 ^ 47:=hk.1.1.1
  have hb2:a0.2.1.length * 32≤2 ^ 47:=hk.1.2.1.1
  have h1: ∀ s,ypp (yGZ a1 s a0.2.1 a0.2.1.length)=some (.inl (yv6 (yDr a1 a0.2.1 s))):=fun s =>
    zkk (step:=ybe) a0.2.1 (0,[]) (fun i s=>ynQ a1 s a0.2.1 a0.2.1.length i) (fun s w=>bif w.1==a1 then w.2 else s) (fun _ _=>True) (fun s=> .inl (yv6 s)) (fun i s hi _=>⟨by
      simp only [ybe,ynQ,yn9,zjI (show (i:Int) < a0.2.1.length by omega),cond_true,wr (show -9223372036854775808≤(i:Int)+1 by omega) (by omega),Int.natCast_add,Int.natCast_one,Int.toNat_natCast,zkO hi,zjW]
      cases ((a0.2.1.getD i (0,[])).1==a1)<;>rfl,trivial⟩) (fun s _=>by simp only [ybe,ynQ,yn9,zkm (Int.le_refl _),cond_false]) s trivial _ (by show _ < 18446744073709551616; omega)
  unfold ykE yjI yfp yHB yaF
  rw [yY,ynO (show a0.1.length≤1152921504606846976 by omega)]
  unfold yaB yb2 yi
  simp only [h1,zkJ]
  cases yn a0
  · rfl
  cases a0.2.2.1
  · cases inb a1 a0.1.length
    · rfl
    · cases a0.2.2.2.any (· ==a1)<;>rfl
  · rfl
def yzC:Con:=⟨yfa,yoD,fun x=>(fun n=>some ((n.1,n.2,()),())) (yjI x.1 x.2.1)⟩
theorem yPr:ConOk Tryz.prog 164 yzC:=(yLY).mono (fun x r hk h=>(yOA x.1 x.2.1 hk).trans h)
end
section
def yDX:Code:=(Tryz.f171.body).getD .skip
def yEe:Env:=zki TT [(114,yo)] []
theorem yKv:FrOk Tryz.prog ⟨yEe,34,fun _=>none⟩ yDX:=zkp yb yc ⟨yF,trivial⟩
def yMU:Nat→Option Seg:=fun _=>none
abbrev ygg:List Par:= [.rd tA,.rd tI,.rd tI]
abbrev yqF:List OT:= [⟨false,tB,.fz⟩]
def ymQ (a0:dA) (a1:Int) (a2:Int):Option (ResD yqF×MutD ygg) :=
  let r1:=ye a1 0 (IntKind.i64.wrap ((a0.2.2.1.length:Int) - 1))
  bif r1 then
    bif (inb a1 a0.2.2.1.length) then
      bif (!((((nth a0.2.2.1 a1 ([],[],false,[])).2).2).1)) then
        bif (!(a0.2.2.2.1 !=a1)) then
          some (((ltb a2 a0.2.2.2.2.1),()),())
        else
          some ((true,()),())
      else
        some ((false,()),())
    else none
  else
    some ((false,()),())
theorem ySD (x:InD ygg):zjH ⟨yEe,34,yMU⟩ Tryz.f171.results.toList yDX ygg yqF x=ymQ x.1 x.2.1 x.2.2.1:=by kernel_rfl
theorem yOY:ConOk Tryz.prog 171 ⟨ygg,yqF,fun x=>ymQ x.1 x.2.1 x.2.2.1⟩:=zkh (yKv) Tryz.func171 (by kernel_rfl) (by kernel_rfl) Tryz.ntmps171.symm (by decide) (fun x r h=>(ySD x).trans h)
def ylr (a0:dA) (a1 a2:Int):Bool:=yql a0 a1 a2
theorem yQY (a0:dA) (a1 a2:Int) (hk:zi9 ygg (a0,a1,a2,())):ymQ a0 a1 a2=(fun n=>some ((n,()),())) (ylr a0 a1 a2):=by
  have hb:a0.2.2.1.length * 80≤2 ^ 47:=hk.1.2.2.1.1
  unfold ymQ ylr yql yf
  rw [yY,ynO (show a0.2.2.1.length≤1152921504606846976 by omega),bne_comm]
  cases inb a1 a0.2.2.1.length
  · rfl
  · cases (nth a0.2.2.1 a1 ([],[],false,[])).2.2.1<;>cases (a1 !=a0.2.2.2.1)<;>rfl
def yBK:Con:=⟨ygg,yqF,fun x=>(fun n=>some ((n,()),())) (ylr x.1 x.2.1 x.2.2.1)⟩
theorem yRX:ConOk Tryz.prog 171 yBK:=(yOY).mono (fun x r hk h=>(yQY x.1 x.2.1 x.2.2.1 hk).trans h)
end
section
def yD5:Code:=(Tryz.f137.body).getD .skip
def yEm:Env:=zki TT [(79,ys2),(164,yzC),(171,yBK)] []
theorem yKD:FrOk Tryz.prog ⟨yEm,38,fun _=>none⟩ yD5:=zkp yb yc ⟨yDt,yPr,yRX,trivial⟩
def yM2:Nat→Option Seg:=fun _=>none
abbrev yer:List Par:= [.rd tA,.rd tI,.rd tI]
abbrev ylk:List OT:= [⟨false,tI,.fz⟩,⟨false,tB,.fz⟩]
def ymS (a0:dA) (a1:Int) (a2:Int):Option (ResD ylk×MutD yer) :=
  bif (inb a1 a0.2.2.1.length) then
    let r1:=ylq a2
    let r2:=yjI ((nth a0.2.2.1 a1 ([],[],false,[])).1,((nth a0.2.2.1 a1 ([],[],false,[])).2).1,(((nth a0.2.2.1 a1 ([],[],false,[])).2).2)) r1
    let r3:=ylr a0 a1 a2
    bif (!(!r3)) then
      bif (!(!r2.2)) then
        bif ((r2.1.length:Int) !=1) then
          some ((0,false,()),())
        else
          bif (inb 0 r2.1.length) then
            some (((nth r2.1 0 0),true,()),())
          else none
      else
        some ((0,false,()),())
    else
      some ((0,false,()),())
  else none
theorem ySL (x:InD yer):zjH ⟨yEm,38,yM2⟩ Tryz.f137.results.toList yD5 yer ylk x=ymS x.1 x.2.1 x.2.2.1:=by kernel_rfl
theorem yO6:ConOk Tryz.prog 137 ⟨yer,ylk,fun x=>ymS x.1 x.2.1 x.2.2.1⟩:=zkh (yKD) Tryz.func137 (by kernel_rfl) (by kernel_rfl) Tryz.ntmps137.symm (by decide) (fun x r h=>(ySL x).trans h)
def ylu (a0:dA) (a1 a2:Int):Int×Bool:=(yAJ a0 a1 a2,yk a0 a1 a2)
def ywB (a0:dA) (a1 a2:Int):Bool:=inb a1 a0.2.2.1.length
theorem yQ6 (a0:dA) (a1 a2:Int) (hk:zi9 yer (a0,a1,a2,())) (hq:ywB a0 a1 a2=true):ymS a0 a1 a2=(fun n=>some ((n.1,n.2,()),())) (ylu a0 a1 a2):=by
  unfold ymS ylu yAJ ylr
  simp only [zkV,yDp,yjI]
  rw [show yk a0 a1 a2=(yql a0 a1 a2&&((yds a0 a1 a2).2&&((yds a0 a1 a2).1.length:Int)==1)) from rfl]
  rw [show yfp (nth a0.2.2.1 a1 ([],[],false,[])) (yqf a2)=yds a0 a1 a2 from rfl]
  rw [show inb a1 a0.2.2.1.length=true from hq]
  cases hl:yql a0 a1 a2
  · rfl
  · cases (yds a0 a1 a2).2
    · rfl
    · rw [bne]
      cases h1:(((yds a0 a1 a2).1.length:Int)==1)
      · rfl
      · rw [show inb 0 (yds a0 a1 a2).1.length=true from zjP.2 (by have:=beq_iff_eq.1 h1; omega)]; rfl
def yq6 (a0:dA) (a1:Int) (a2:Int):Option (ResD ylk×MutD yer):=bif ywB a0 a1 a2 then (fun n=>some ((n.1,n.2,()),())) (ylu a0 a1 a2) else none
theorem ySe (a0:dA) (a1:Int) (a2:Int) (h:ywB a0 a1 a2=true):yq6 a0 a1 a2=(fun n=>some ((n.1,n.2,()),())) (ylu a0 a1 a2):=by unfold yq6; rw [h]; rfl
def yBO:Con:=⟨yer,ylk,fun x=>yq6 x.1 x.2.1 x.2.2.1⟩
theorem yR1:ConOk Tryz.prog 137 yBO:=(yO6).mono (fun x r hk h=>zkW h (fun hq=>yQ6 x.1 x.2.1 x.2.2.1 hk hq))
end
end
end Go.Tf
