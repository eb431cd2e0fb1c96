/- Functions of the program, and what they come to. -/
import Derived.Test.YtfpjmijaiekbgaaGreatExactBuildAllF13
namespace Go.Tf
noncomputable section
open Go.Proofs
set_option synthInstance.maxHeartbeats 400000
set_option synthInstance.maxSize 10000
set_option linter.unusedVariables false
set_option linter.unusedSimpArgs false
set_option maxRecDepth 100000
section
def yi4:Code:=(Tryz.f199.body).getD .skip
def yot:Env:=zki TT [(93,yBN)] []
theorem yIh:FrOk Tryz.prog ⟨yot,15,fun _=>none⟩ yi4:=zkp yb yc ⟨yR0,trivial⟩
def yyV:Nat→Option Seg:=fun _=>none
def ycD:Shape:=⟨[(5,false,[.br tI]),(6,false,[.int .i64]),(7,false,[.int .i64])],[],[]⟩
def yin:Shape:=⟨[(5,false,[.br tI]),(6,false,[.int .i64]),(7,false,[.ci .i64 0])],[],[]⟩
def yig:Shape:=⟨[],[],[]⟩
def yiz:Shape:=⟨[(2,false,[.bool])],[],[]⟩
def yoe (v0:List Int) (v1:Int) (v2:Int):Option ((ycD).X ⊕ ((yig).X ⊕ (yiz).X)) :=
  bif (ltb v2 v1) then
    bif (inb v2 v0.length) then
      let r2:=yN (nth v0 v2 0)
      bif (!r2) then
        some (.inr (.inr (((false,()),()),(),())))
      else
        some (.inl (((v0,()),(v1,()),((IntKind.i64.wrap (v2+1)),()),()),(),()))
    else none
  else
    some (.inr (.inl ((),(),())))
def ybj (x:(ycD).X):=yoe x.1.1.1 x.1.2.1.1 x.1.2.2.1.1
def yvD (x:(yin).X):(ycD).X:=(((x.1.1.1,()),(x.1.2.1.1,()),(0,()),()),(),())
def yxg:Code:=(zdI yi4 64 52).getD .skip
theorem yHT:zdI yi4 64 13=some (.block 0 (.loop yxg)):=by kernel_rfl
theorem yJA (x:(ycD).X):zg7 ⟨yot,15,yyV⟩ 0 yxg 52 ycD yig yiz x=ybj x:=by kernel_rfl
def yvT (x:(yin).X):Nat:=(fun (u0:List Int) (u1:Int)=>18446744073709551616) x.1.1.1 x.1.2.1.1
def ypu (x:(yin).X):Option ((yig).X ⊕ (yiz).X):=zr ybj (yvT x) (yvD x)
def ywi:Seg:=⟨yin,yig,yiz,ypu⟩
def yyW:Nat→Option Seg:=fun q=>bif Nat.beq q 13 then some ywi else yyV q
theorem yIi:FrOk Tryz.prog ⟨yot,15,yyW⟩ yi4:=(yIh).loop (sg:=ywi) ycD yvD (by decide) yHT ybj yvT (by decide) (fun _=>rfl) (fun x r _ h=>h) yJA
abbrev yfd:List Par:= [.rd tL]
abbrev yoJ:List OT:= [⟨false,tB,.fz⟩]
def ykI (a0:List Int):Option (ResD yoJ×MutD yfd) :=
  zjw (ypu (((a0,()),((a0.length:Int),()),((),()),()),(),())) (fun y2 =>
    some ((true,()),())) (fun y2 =>
    some ((y2.1.1.1,()),()))
theorem yQx (x:InD yfd):zjH ⟨yot,15,yyW⟩ Tryz.f199.results.toList yi4 yfd yoJ x=ykI x.1:=by kernel_rfl
theorem yL5:ConOk Tryz.prog 199 ⟨yfd,yoJ,fun x=>ykI x.1⟩:=zkh (yIi) Tryz.func199 (by kernel_rfl) (by kernel_rfl) Tryz.ntmps199.symm (by decide) (fun x r h=>(yQx x).trans h)
def yae (a0:List Int):Bool:=a0.all yN
theorem yOH (a0:List Int) (hk:zi9 yfd (a0,())):ykI a0=(fun n=>some ((n,()),())) (yae a0):=by
  have hb:a0.length * 8≤2 ^ 47:=hk.1.1
  have hl:ypu (((a0,()),((a0.length:Int),()),((),()),()),(),())=some (bif a0.all yN then .inl ((),(),()) else .inr (((false,()),()),(),())) :=
    zjS (step:=ybj) a0 0 (fun i=>(((a0,()),((a0.length:Int),()),((i:Int),()),()),(),())) yN _ _ (fun i hi=>by
      simp only [ybj,yoe,zkO hi,zjW,zjI (show (i:Int) < a0.length by omega),cond_true,wr (show -9223372036854775808≤(i:Int)+1 by omega) (by omega),Int.natCast_add,Int.natCast_one]
      cases yN (a0.getD i 0)<;>rfl) (by simp only [ybj,yoe,zkm (Int.le_refl _),cond_false]) _ (by show _ < 18446744073709551616; omega)
  unfold ykI yae
  rw [hl]
  cases a0.all yN<;>rfl
def yrt:Con:=⟨yfd,yoJ,fun x=>(fun n=>some ((n,()),())) (yae x.1)⟩
theorem yB3:ConOk Tryz.prog 199 yrt:=(yL5).mono (fun x r hk h=>(yOH x.1 hk).trans h)
end
section
def yDZ:Code:=(Tryz.f121.body).getD .skip
def yEg:Env:=zki TT [(199,yrt)] []
theorem yKx:FrOk Tryz.prog ⟨yEg,15,fun _=>none⟩ yDZ:=zkp yb yc ⟨yB3,trivial⟩
def yMW:Nat→Option Seg:=fun _=>none
abbrev yla:List Par:= [.rd tG,.rd tL]
abbrev yqH:List OT:= [⟨false,tB,.fz⟩]
def ytq (a0:dG) (a1:List Int):Option (ResD yqH×MutD yla) :=
  bif ((a1.length:Int)==(IntKind.i64.wrap (a0.1 - 1))) then
    let r1:=yae a1
    some ((r1,()),())
  else
    some ((false,()),())
theorem ySF (x:InD yla):zjH ⟨yEg,15,yMW⟩ Tryz.f121.results.toList yDZ yla yqH x=ytq x.1 x.2.1:=by kernel_rfl
theorem yO0:ConOk Tryz.prog 121 ⟨yla,yqH,fun x=>ytq x.1 x.2.1⟩:=zkh (yKx) Tryz.func121 (by kernel_rfl) (by kernel_rfl) Tryz.ntmps121.symm (by decide) (fun x r h=>(ySF x).trans h)
def ylt (a0:dG) (a1:List Int):Bool :=
  bif ((a1.length:Int)==(IntKind.i64.wrap (a0.1 - 1))) then
    let r1:=yae a1
    r1
  else
    false
def yBM:Con:=⟨yla,yqH,fun x=>(fun n=>some ((n,()),())) (ylt x.1 x.2.1)⟩
theorem yQ0 (a0:dG) (a1:List Int):ytq a0 a1=(fun n=>some ((n,()),())) (ylt a0 a1):=zkS (p:=fun (n:Bool)=>((n,()),())) (zkx (p:=fun (n:Bool)=>((n,()),())) rfl rfl)
theorem yRZ:ConOk Tryz.prog 121 yBM:=(yO0).mono (fun x r _ h=>(yQ0 x.1 x.2.1).trans h)
end
section
def yi3:Code:=(Tryz.f131.body).getD .skip
def yos:Env:=zki TT [(100,ynM),(121,yBM)] []
theorem yId:FrOk Tryz.prog ⟨yos,44,fun _=>none⟩ yi3:=zkp yb yc ⟨yyg,yRZ,trivial⟩
def yyT:Nat→Option Seg:=fun _=>none
def ya4:Shape:=⟨[(1,false,[.ptr 0 0]),(6,false,[.br tW]),(7,false,[.int .i64]),(8,false,[.int .i64])],[(0,[.int .i64,.int .i64,.int .i64,.br tM,.int .i64,.int .i64,.int .i64,.int .i64,.int .i64,.br tW,.int .i64,.bool,.bool])],[]⟩
def yeO:Shape:=⟨[(1,false,[.ptr 0 0]),(6,false,[.br tW]),(7,false,[.int .i64]),(8,false,[.ci .i64 0])],[(0,[.int .i64,.int .i64,.int .i64,.br tM,.int .i64,.int .i64,.int .i64,.int .i64,.int .i64,.br tW,.int .i64,.bool,.bool])],[]⟩
def yeF:Shape:=⟨[],[],[]⟩
def yeT:Shape:=⟨[(2,false,[.bool])],[],[]⟩
abbrev ynU (v0:List dW) (v1:Int) (v2:Int) (v3:dA):(ya4).X:=((((),()),(v0,()),(v1,()),(v2,()),()),((v3.1,v3.2.1.1,v3.2.1.2,v3.2.2.1,v3.2.2.2.1,v3.2.2.2.2.1,v3.2.2.2.2.2.1,v3.2.2.2.2.2.2.1,v3.2.2.2.2.2.2.2.1,v3.2.2.2.2.2.2.2.2.1,v3.2.2.2.2.2.2.2.2.2.1,v3.2.2.2.2.2.2.2.2.2.2.1,v3.2.2.2.2.2.2.2.2.2.2.2,()),()),())
abbrev yG3 (v0:List dW) (v1:Int) (v2:dA):(yeO).X:=((((),()),(v0,()),(v1,()),((),()),()),((v2.1,v2.2.1.1,v2.2.1.2,v2.2.2.1,v2.2.2.2.1,v2.2.2.2.2.1,v2.2.2.2.2.2.1,v2.2.2.2.2.2.2.1,v2.2.2.2.2.2.2.2.1,v2.2.2.2.2.2.2.2.2.1,v2.2.2.2.2.2.2.2.2.2.1,v2.2.2.2.2.2.2.2.2.2.2.1,v2.2.2.2.2.2.2.2.2.2.2.2,()),()),())
abbrev yGV  :(yeF).X:=((),(),())
abbrev yG8 (v0:Bool):(yeT).X:=(((v0,()),()),(),())
def yod (v0:List dW) (v1:Int) (v2:Int) (v3:Int) (v4:Int) (v5:Int) (v6:List dM) (v7:Int) (v8:Int) (v9:Int) (v10:Int) (v11:Int) (v12:List dW) (v13:Int) (v14:Bool) (v15:Bool):Option ((ya4).X ⊕ ((yeF).X ⊕ (yeT).X)) :=
  bif (ltb v2 v1) then
    bif (inb v2 v0.length) then
      let r4:=ybL (v4,v5) ((nth v0 v2 (0,[])).1)
      bif (!(!r4)) then
        bif (ltb 0 v2) then
          bif (inb (IntKind.i64.wrap (v2 - 1)) v12.length) then
            bif (!(leb ((nth v0 v2 (0,[])).1) ((nth v12 (IntKind.i64.wrap (v2 - 1)) (0,[])).1))) then
              let r5:=ylt (v4,v5) ((nth v0 v2 (0,[])).2)
              bif (!r5) then
                some (.inr (.inr (((false,()),()),(),())))
              else
                some (.inl ((((),()),(v0,()),(v1,()),((IntKind.i64.wrap (v2+1)),()),()),((v3,v4,v5,v6,v7,v8,v9,v10,v11,v12,v13,v14,v15,()),()),()))
            else
              some (.inr (.inr (((false,()),()),(),())))
          else none
        else
          let r6:=ylt (v4,v5) ((nth v0 v2 (0,[])).2)
          bif (!r6) then
            some (.inr (.inr (((false,()),()),(),())))
          else
            some (.inl ((((),()),(v0,()),(v1,()),((IntKind.i64.wrap (v2+1)),()),()),((v3,v4,v5,v6,v7,v8,v9,v10,v11,v12,v13,v14,v15,()),()),()))
      else
        some (.inr (.inr (((false,()),()),(),())))
    else none
  else
    some (.inr (.inl ((),(),())))
def ybi (x:(ya4).X):=yod x.1.2.1.1 x.1.2.2.1.1 x.1.2.2.2.1.1 x.2.1.1.1 x.2.1.1.2.1 x.2.1.1.2.2.1 x.2.1.1.2.2.2.1 x.2.1.1.2.2.2.2.1 x.2.1.1.2.2.2.2.2.1 x.2.1.1.2.2.2.2.2.2.1 x.2.1.1.2.2.2.2.2.2.2.1 x.2.1.1.2.2.2.2.2.2.2.2.1 x.2.1.1.2.2.2.2.2.2.2.2.2.1 x.2.1.1.2.2.2.2.2.2.2.2.2.2.1 x.2.1.1.2.2.2.2.2.2.2.2.2.2.2.1 x.2.1.1.2.2.2.2.2.2.2.2.2.2.2.2.1
def yvC (x:(yeO).X):(ya4).X:=((((),()),(x.1.2.1.1,()),(x.1.2.2.1.1,()),(0,()),()),((x.2.1.1.1,x.2.1.1.2.1,x.2.1.1.2.2.1,x.2.1.1.2.2.2.1,x.2.1.1.2.2.2.2.1,x.2.1.1.2.2.2.2.2.1,x.2.1.1.2.2.2.2.2.2.1,x.2.1.1.2.2.2.2.2.2.2.1,x.2.1.1.2.2.2.2.2.2.2.2.1,x.2.1.1.2.2.2.2.2.2.2.2.2.1,x.2.1.1.2.2.2.2.2.2.2.2.2.2.1,x.2.1.1.2.2.2.2.2.2.2.2.2.2.2.1,x.2.1.1.2.2.2.2.2.2.2.2.2.2.2.2.1,()),()),())
def yxf:Code:=(zdI yi3 64 52).getD .skip
theorem yHS:zdI yi3 64 13=some (.block 0 (.loop yxf)):=by kernel_rfl
theorem yJz (x:(ya4).X):zg7 ⟨yos,44,yyT⟩ 0 yxf 52 ya4 yeF yeT x=ybi x:=by kernel_rfl
def yvS (x:(yeO).X):Nat:=(fun (u0:List dW) (u1:Int) (u2:Int) (u3:Int) (u4:Int) (u5:List dM) (u6:Int) (u7:Int) (u8:Int) (u9:Int) (u10:Int) (u11:List dW) (u12:Int) (u13:Bool) (u14:Bool)=>18446744073709551616) x.1.2.1.1 x.1.2.2.1.1 x.2.1.1.1 x.2.1.1.2.1 x.2.1.1.2.2.1 x.2.1.1.2.2.2.1 x.2.1.1.2.2.2.2.1 x.2.1.1.2.2.2.2.2.1 x.2.1.1.2.2.2.2.2.2.1 x.2.1.1.2.2.2.2.2.2.2.1 x.2.1.1.2.2.2.2.2.2.2.2.1 x.2.1.1.2.2.2.2.2.2.2.2.2.1 x.2.1.1.2.2.2.2.2.2.2.2.2.2.1 x.2.1.1.2.2.2.2.2.2.2.2.2.2.2.1 x.2.1.1.2.2.2.2.2.2.2.2.2.2.2.2.1
def ypt (x:(yeO).X):Option ((yeF).X ⊕ (yeT).X):=zr ybi (yvS x) (yvC x)
def ywh:Seg:=⟨yeO,yeF,yeT,ypt⟩
def yyU:Nat→Option Seg:=fun q=>bif Nat.beq q 13 then some ywh else yyT q
theorem yIe:FrOk Tryz.prog ⟨yos,44,yyU⟩ yi3:=(yId).loop (sg:=ywh) ya4 yvC (by decide) yHS ybi yvS (by decide) (fun _=>rfl) (fun x r _ h=>h) yJz
abbrev yc7:List Par:= [.rd tA]
abbrev yjB:List OT:= [⟨false,tB,.fz⟩]
def ykH (a0:dA):Option (ResD yjB×MutD yc7) :=
  zjw (ypt ((((),()),(a0.2.2.2.2.2.2.2.2.1,()),((a0.2.2.2.2.2.2.2.2.1.length:Int),()),((),()),()),((a0.1,a0.2.1.1,a0.2.1.2,a0.2.2.1,a0.2.2.2.1,a0.2.2.2.2.1,a0.2.2.2.2.2.1,a0.2.2.2.2.2.2.1,a0.2.2.2.2.2.2.2.1,a0.2.2.2.2.2.2.2.2.1,a0.2.2.2.2.2.2.2.2.2.1,a0.2.2.2.2.2.2.2.2.2.2.1,a0.2.2.2.2.2.2.2.2.2.2.2,()),()),())) (fun y6 =>
    some ((true,()),())) (fun y6 =>
    some ((y6.1.1.1,()),()))
theorem yQu (x:InD yc7):zjH ⟨yos,44,yyU⟩ Tryz.f131.results.toList yi3 yc7 yjB x=ykH x.1:=by kernel_rfl
theorem yL2:ConOk Tryz.prog 131 ⟨yc7,yjB,fun x=>ykH x.1⟩:=zkh (yIe) Tryz.func131 (by kernel_rfl) (by kernel_rfl) Tryz.ntmps131.symm (by decide) (fun x r h=>(yQu x).trans h)
def yjJ (a0:dA):Bool:=yoY a0.2.1 a0.2.2.2.2.2.2.2.2.1
def yuE (a0:dA):Bool:=yg a0.2.1
theorem yOw (l:List Int):yae l=l.all isW:=by
  unfold yae
  rw [show yN=isW from funext fun x=>by unfold yN; rw [yY,ykx]; rfl]
theorem yOE (a0:dA) (hk:zi9 yc7 (a0,())) (hq:yuE a0=true):ykH a0=(fun n=>some ((n,()),())) (yjJ a0):=by
  have hb:a0.2.2.2.2.2.2.2.2.1.length * 32≤2 ^ 47:=hk.1.2.2.2.2.2.2.2.2.1.1
  have hg:=yam.1 hq
  have hq':yg a0.2.1=true:=hq
  have h1:ypt (yG3 a0.2.2.2.2.2.2.2.2.1 a0.2.2.2.2.2.2.2.2.1.length a0)=some (bif (List.range a0.2.2.2.2.2.2.2.2.1.length).any (yoX a0.2.1 a0.2.2.2.2.2.2.2.2.1) then .inr (yG8 false) else .inl yGV) :=
    zf4 (step:=ybi) (fun i=>ynU a0.2.2.2.2.2.2.2.2.1 a0.2.2.2.2.2.2.2.2.1.length i a0) a0.2.2.2.2.2.2.2.2.1.length (yoX a0.2.1 a0.2.2.2.2.2.2.2.2.1) _ _ (fun i hi=>by
      simp only [ybi,ynU,yod,zjI (show (i:Int) < a0.2.2.2.2.2.2.2.2.1.length by omega),cond_true,wr (show -9223372036854775808≤(i:Int)+1 by omega) (by omega),Int.natCast_add,Int.natCast_one,Int.toNat_natCast,zkO hi,zkV,ybL,ylt,yOu,hq',yY,ykx,yOw,wr (show -9223372036854775808≤a0.2.1.2 - 1 by omega) (by omega),wr (show -9223372036854775808≤a0.2.1.1 - 1 by omega) (by omega),yoX,bne]
      rcases Nat.eq_zero_or_pos i with rfl | h0
      · cases (leb 0 (nth a0.2.2.2.2.2.2.2.2.1 ((0:Nat):Int) (0,[])).1&&leb (nth a0.2.2.2.2.2.2.2.2.1 ((0:Nat):Int) (0,[])).1 (a0.2.1.2 - 1))<;>cases (((nth a0.2.2.2.2.2.2.2.2.1 ((0:Nat):Int) (0,[])).2.length:Int)==a0.2.1.1 - 1)<;>cases ((nth a0.2.2.2.2.2.2.2.2.1 ((0:Nat):Int) (0,[])).2.all isW)<;>rfl
      · rw [show IntKind.i64.wrap ((i:Int) - 1)=((i - 1:Nat):Int) by rw [wr (by omega) (by omega)]; omega,zkO (show i - 1 < a0.2.2.2.2.2.2.2.2.1.length by omega),zjI (show (0:Int) < i by omega),decide_eq_true h0]
        cases (leb 0 (nth a0.2.2.2.2.2.2.2.2.1 (i:Int) (0,[])).1&&leb (nth a0.2.2.2.2.2.2.2.2.1 (i:Int) (0,[])).1 (a0.2.1.2 - 1))<;>cases (((nth a0.2.2.2.2.2.2.2.2.1 (i:Int) (0,[])).2.length:Int)==a0.2.1.1 - 1)<;>cases ((nth a0.2.2.2.2.2.2.2.2.1 (i:Int) (0,[])).2.all isW)<;>cases leb (nth a0.2.2.2.2.2.2.2.2.1 (i:Int) (0,[])).1 (nth a0.2.2.2.2.2.2.2.2.1 ((i - 1:Nat):Int) (0,[])).1<;>rfl) (by simp only [ybi,ynU,yod,zkm (Int.le_refl _),cond_false]) _ (by show _ < 18446744073709551616; omega)
  unfold ykH yjJ yoY
  rw [h1]
  cases (List.range a0.2.2.2.2.2.2.2.2.1.length).any (yoX a0.2.1 a0.2.2.2.2.2.2.2.2.1)<;>rfl
def yo2 (a0:dA):Option (ResD yjB×MutD yc7):=bif yuE a0 then (fun n=>some ((n,()),())) (yjJ a0) else none
theorem yPI (a0:dA) (h:yuE a0=true):yo2 a0=(fun n=>some ((n,()),())) (yjJ a0):=by unfold yo2; rw [h]; rfl
def yzE:Con:=⟨yc7,yjB,fun x=>yo2 x.1⟩
theorem yPt:ConOk Tryz.prog 131 yzE:=(yL2).mono (fun x r hk h=>zkW h (fun hq=>yOE x.1 hk hq))
end
section
def yFe:Code:=(Tryz.f203.body).getD .skip
def yFF:Env:=zki TT [(199,yrt)] []
theorem yNU:FrOk Tryz.prog ⟨yFF,10,fun _=>none⟩ yFe:=zkp yb yc ⟨yB3,trivial⟩
def yP5:Nat→Option Seg:=fun _=>none
abbrev ynv:List Par:= [.rd tL]
abbrev ysz:List OT:= [⟨false,tB,.fz⟩]
def yuI (a0:List Int):Option (ResD ysz×MutD ynv) :=
  bif (leb (a0.length:Int) 12) then
    let r1:=yae a0
    some ((r1,()),())
  else
    some ((false,()),())
theorem yUm (x:InD ynv):zjH ⟨yFF,10,yP5⟩ Tryz.f203.results.toList yFe ynv ysz x=yuI x.1:=by kernel_rfl
theorem yRw:ConOk Tryz.prog 203 ⟨ynv,ysz,fun x=>yuI x.1⟩:=zkh (yNU) Tryz.func203 (by kernel_rfl) (by kernel_rfl) Tryz.ntmps203.symm (by decide) (fun x r h=>(yUm x).trans h)
def yfT (a0:List Int):Bool :=
  bif (leb (a0.length:Int) 12) then
    let r1:=yae a0
    r1
  else
    false
def yut:Con:=⟨ynv,ysz,fun x=>(fun n=>some ((n,()),())) (yfT x.1)⟩
theorem yTg (a0:List Int):yuI a0=(fun n=>some ((n,()),())) (yfT a0):=zkS (p:=fun (n:Bool)=>((n,()),())) (zkx (p:=fun (n:Bool)=>((n,()),())) rfl rfl)
theorem yEy:ConOk Tryz.prog 203 yut:=(yRw).mono (fun x r _ h=>(yTg x.1).trans h)
theorem yCb:yfT=yaM:=funext fun s=>by
  unfold yfT yaM yae
  rw [show yN=isW from funext fun x=>by unfold yN; rw [yY,ykx]; rfl]
  cases leb (s.length:Int) 12<;>rfl
end
section
def yD1:Code:=(Tryz.f204.body).getD .skip
def yEi:Env:=zki TT [(114,yo)] []
theorem yKz:FrOk Tryz.prog ⟨yEi,11,fun _=>none⟩ yD1:=zkp yb yc ⟨yF,trivial⟩
def yMY:Nat→Option Seg:=fun _=>none
abbrev ylc:List Par:= [.rd tM,.rd tI]
abbrev yqJ:List OT:= [⟨false,tB,.fz⟩]
def yts (a0:dM) (a1:Int):Option (ResD yqJ×MutD ylc) :=
  let r1:=ye a1 0 (IntKind.i64.wrap ((a0.1.length:Int) - 1))
  some ((r1,()),())
theorem ySH (x:InD ylc):zjH ⟨yEi,11,yMY⟩ Tryz.f204.results.toList yD1 ylc yqJ x=yts x.1 x.2.1:=by kernel_rfl
theorem yO2:ConOk Tryz.prog 204 ⟨ylc,yqJ,fun x=>yts x.1 x.2.1⟩:=zkh (yKz) Tryz.func204 (by kernel_rfl) (by kernel_rfl) Tryz.ntmps204.symm (by decide) (fun x r h=>(ySH x).trans h)
def yaF (a0:dM) (a1:Int):Bool :=
  let r1:=ye a1 0 (IntKind.i64.wrap ((a0.1.length:Int) - 1))
  r1
def ymG:Con:=⟨ylc,yqJ,fun x=>(fun n=>some ((n,()),())) (yaF x.1 x.2.1)⟩
theorem yQ2 (a0:dM) (a1:Int):yts a0 a1=(fun n=>some ((n,()),())) (yaF a0 a1):=zkS (p:=fun (n:Bool)=>((n,()),())) rfl
theorem yuz:ConOk Tryz.prog 204 ymG:=(yO2).mono (fun x r _ h=>(yQ2 x.1 x.2.1).trans h)
end
section
def yaq:Code:=(Tryz.f132.body).getD .skip
def ydz:Env:=zki TT [(114,yo),(203,yut),(204,ymG)] []
theorem yNQ:FrOk Tryz.prog ⟨ydz,76,fun _=>none⟩ yaq:=zkp yb yc ⟨yF,yEy,yuz,trivial⟩
def yCt:Nat→Option Seg:=fun _=>none
def ycq:Shape:=⟨[(1,false,[.ptr 0 0]),(10,false,[.br tL]),(11,false,[.int .i64]),(12,false,[.int .i64])],[(0,[.br tL,.br tW,.bool,.br tI])],[]⟩
def yhb:Shape:=⟨[(1,false,[.ptr 0 0]),(10,false,[.br tL]),(11,false,[.int .i64]),(12,false,[.ci .i64 0])],[(0,[.br tL,.br tW,.bool,.br tI])],[]⟩
def ygW:Shape:=⟨[(1,false,[.ptr 0 0])],[(0,[.br tL,.br tW,.bool,.br tI])],[]⟩
def yhy:Shape:=⟨[(2,false,[.bool])],[],[]⟩
abbrev yrx (v0:List (List Int)) (v1:Int) (v2:Int) (v3:dM):(ycq).X:=((((),()),(v0,()),(v1,()),(v2,()),()),((v3.1,v3.2.1,v3.2.2.1,v3.2.2.2,()),()),())
abbrev yLo (v0:List (List Int)) (v1:Int) (v2:dM):(yhb).X:=((((),()),(v0,()),(v1,()),((),()),()),((v2.1,v2.2.1,v2.2.2.1,v2.2.2.2,()),()),())
abbrev yLh (v0:dM):(ygW).X:=((((),()),()),((v0.1,v0.2.1,v0.2.2.1,v0.2.2.2,()),()),())
abbrev yLx (v0:Bool):(yhy).X:=(((v0,()),()),(),())
def yrP (v0:List (List Int)) (v1:Int) (v2:Int) (v3:List (List Int)) (v4:List dW) (v5:Bool) (v6:List Int):Option ((ycq).X ⊕ ((ygW).X ⊕ (yhy).X)) :=
  bif (ltb v2 v1) then
    bif (inb v2 v0.length) then
      let r2:=yfT (nth v0 v2 [])
      bif (!r2) then
        some (.inr (.inr (((false,()),()),(),())))
      else
        some (.inl ((((),()),(v0,()),(v1,()),((IntKind.i64.wrap (v2+1)),()),()),((v3,v4,v5,v6,()),()),()))
    else none
  else
    some (.inr (.inl ((((),()),()),((v3,v4,v5,v6,()),()),())))
def ycN (x:(ycq).X):=yrP x.1.2.1.1 x.1.2.2.1.1 x.1.2.2.2.1.1 x.2.1.1.1 x.2.1.1.2.1 x.2.1.1.2.2.1 x.2.1.1.2.2.2.1
def yzV (x:(yhb).X):(ycq).X:=((((),()),(x.1.2.1.1,()),(x.1.2.2.1.1,()),(0,()),()),((x.2.1.1.1,x.2.1.1.2.1,x.2.1.1.2.2.1,x.2.1.1.2.2.2.1,()),()),())
def yBz:Code:=(zdI yaq 64 52).getD .skip
theorem yNa:zdI yaq 64 13=some (.block 0 (.loop yBz)):=by kernel_rfl
theorem yPN (x:(ycq).X):zg7 ⟨ydz,76,yCt⟩ 0 yBz 52 ycq ygW yhy x=ycN x:=by kernel_rfl
def yz9 (x:(yhb).X):Nat:=(fun (u0:List (List Int)) (u1:Int) (u2:List (List Int)) (u3:List dW) (u4:Bool) (u5:List Int)=>18446744073709551616) x.1.2.1.1 x.1.2.2.1.1 x.2.1.1.1 x.2.1.1.2.1 x.2.1.1.2.2.1 x.2.1.1.2.2.2.1
def ysk (x:(yhb).X):Option ((ygW).X ⊕ (yhy).X):=zr ycN (yz9 x) (yzV x)
def yAx:Seg:=⟨yhb,ygW,yhy,ysk⟩
def yuo:Nat→Option Seg:=fun q=>bif Nat.beq q 13 then some yAx else yCt q
theorem yNR:FrOk Tryz.prog ⟨ydz,76,yuo⟩ yaq:=(yNQ).loop (sg:=yAx) ycq yzV (by decide) yNa ycN yz9 (by decide) (fun _=>rfl) (fun x r _ h=>h) yPN
def ycr:Shape:=⟨[(1,false,[.ptr 0 0]),(21,false,[.br tW]),(22,false,[.int .i64]),(23,false,[.int .i64])],[(0,[.br tL,.br tW,.bool,.br tI])],[]⟩
def yhc:Shape:=⟨[(1,false,[.ptr 0 0]),(21,false,[.br tW]),(22,false,[.int .i64]),(23,false,[.ci .i64 0])],[(0,[.br tL,.br tW,.bool,.br tI])],[]⟩
def ygX:Shape:=⟨[(1,false,[.ptr 0 0])],[(0,[.br tL,.br tW,.bool,.br tI])],[]⟩
def yhz:Shape:=⟨[(2,false,[.bool])],[],[]⟩
abbrev yry (v0:List dW) (v1:Int) (v2:Int) (v3:dM):(ycr).X:=((((),()),(v0,()),(v1,()),(v2,()),()),((v3.1,v3.2.1,v3.2.2.1,v3.2.2.2,()),()),())
abbrev yLp (v0:List dW) (v1:Int) (v2:dM):(yhc).X:=((((),()),(v0,()),(v1,()),((),()),()),((v2.1,v2.2.1,v2.2.2.1,v2.2.2.2,()),()),())
abbrev yLi (v0:dM):(ygX).X:=((((),()),()),((v0.1,v0.2.1,v0.2.2.1,v0.2.2.2,()),()),())
abbrev yLy (v0:Bool):(yhz).X:=(((v0,()),()),(),())
def yrQ (v0:List dW) (v1:Int) (v2:Int) (v3:List (List Int)) (v4:List dW) (v5:Bool) (v6:List Int):Option ((ycr).X ⊕ ((ygX).X ⊕ (yhz).X)) :=
  bif (ltb v2 v1) then
    bif (inb v2 v0.length) then
      let r6:=yaF (v3,v4,v5,v6) ((nth v0 v2 (0,[])).1)
      bif (!(!r6)) then
        let r7:=yfT ((nth v0 v2 (0,[])).2)
        bif (!r7) then
          some (.inr (.inr (((false,()),()),(),())))
        else
          some (.inl ((((),()),(v0,()),(v1,()),((IntKind.i64.wrap (v2+1)),()),()),((v3,v4,v5,v6,()),()),()))
      else
        some (.inr (.inr (((false,()),()),(),())))
    else none
  else
    some (.inr (.inl ((((),()),()),((v3,v4,v5,v6,()),()),())))
def ycO (x:(ycr).X):=yrQ x.1.2.1.1 x.1.2.2.1.1 x.1.2.2.2.1.1 x.2.1.1.1 x.2.1.1.2.1 x.2.1.1.2.2.1 x.2.1.1.2.2.2.1
def yzW (x:(yhc).X):(ycr).X:=((((),()),(x.1.2.1.1,()),(x.1.2.2.1.1,()),(0,()),()),((x.2.1.1.1,x.2.1.1.2.1,x.2.1.1.2.2.1,x.2.1.1.2.2.2.1,()),()),())
def yBA:Code:=(zdI yaq 64 116).getD .skip
theorem yNb:zdI yaq 64 29=some (.block 2 (.loop yBA)):=by kernel_rfl
theorem yPO (x:(ycr).X):zg7 ⟨ydz,76,yuo⟩ 2 yBA 116 ycr ygX yhz x=ycO x:=by kernel_rfl
def yAa (x:(yhc).X):Nat:=(fun (u0:List dW) (u1:Int) (u2:List (List Int)) (u3:List dW) (u4:Bool) (u5:List Int)=>18446744073709551616) x.1.2.1.1 x.1.2.2.1.1 x.2.1.1.1 x.2.1.1.2.1 x.2.1.1.2.2.1 x.2.1.1.2.2.2.1
def ysl (x:(yhc).X):Option ((ygX).X ⊕ (yhz).X):=zr ycO (yAa x) (yzW x)
def yAy:Seg:=⟨yhc,ygX,yhz,ysl⟩
def yup:Nat→Option Seg:=fun q=>bif Nat.beq q 29 then some yAy else yuo q
theorem yNS:FrOk Tryz.prog ⟨ydz,76,yup⟩ yaq:=(yNR).loop (sg:=yAy) ycr yzW (by decide) yNb ycO yAa (by decide) (fun _=>rfl) (fun x r _ h=>h) yPO
def ycs:Shape:=⟨[(1,false,[.ptr 0 0]),(40,false,[.br tI]),(41,false,[.int .i64]),(42,false,[.int .i64])],[(0,[.br tL,.br tW,.bool,.br tI])],[]⟩
def yhd:Shape:=⟨[(1,false,[.ptr 0 0]),(40,false,[.br tI]),(41,false,[.int .i64]),(42,false,[.ci .i64 0])],[(0,[.br tL,.br tW,.bool,.br tI])],[]⟩
def ygY:Shape:=⟨[(1,false,[.ptr 0 0])],[(0,[.br tL,.br tW,.bool,.br tI])],[]⟩
def yhA:Shape:=⟨[(2,false,[.bool])],[],[]⟩
abbrev yrz (v0:List Int) (v1:Int) (v2:Int) (v3:dM):(ycs).X:=((((),()),(v0,()),(v1,()),(v2,()),()),((v3.1,v3.2.1,v3.2.2.1,v3.2.2.2,()),()),())
abbrev yLq (v0:List Int) (v1:Int) (v2:dM):(yhd).X:=((((),()),(v0,()),(v1,()),((),()),()),((v2.1,v2.2.1,v2.2.2.1,v2.2.2.2,()),()),())
abbrev yLj (v0:dM):(ygY).X:=((((),()),()),((v0.1,v0.2.1,v0.2.2.1,v0.2.2.2,()),()),())
abbrev yLz (v0:Bool):(yhA).X:=(((v0,()),()),(),())
def yrR (v0:List Int) (v1:Int) (v2:Int) (v3:List (List Int)) (v4:List dW) (v5:Bool) (v6:List Int):Option ((ycs).X ⊕ ((ygY).X ⊕ (yhA).X)) :=
  bif (ltb v2 v1) then
    bif (inb v2 v0.length) then
      let r10:=yaF (v3,v4,v5,v6) (nth v0 v2 0)
      bif (!(!r10)) then
        bif (ltb 0 v2) then
          bif (inb (IntKind.i64.wrap (v2 - 1)) v6.length) then
            bif (leb (nth v0 v2 0) (nth v6 (IntKind.i64.wrap (v2 - 1)) 0)) then
              some (.inr (.inr (((false,()),()),(),())))
            else
              some (.inl ((((),()),(v0,()),(v1,()),((IntKind.i64.wrap (v2+1)),()),()),((v3,v4,v5,v6,()),()),()))
          else none
        else
          some (.inl ((((),()),(v0,()),(v1,()),((IntKind.i64.wrap (v2+1)),()),()),((v3,v4,v5,v6,()),()),()))
      else
        some (.inr (.inr (((false,()),()),(),())))
    else none
  else
    some (.inr (.inl ((((),()),()),((v3,v4,v5,v6,()),()),())))
def ycP (x:(ycs).X):=yrR x.1.2.1.1 x.1.2.2.1.1 x.1.2.2.2.1.1 x.2.1.1.1 x.2.1.1.2.1 x.2.1.1.2.2.1 x.2.1.1.2.2.2.1
def yzX (x:(yhd).X):(ycs).X:=((((),()),(x.1.2.1.1,()),(x.1.2.2.1.1,()),(0,()),()),((x.2.1.1.1,x.2.1.1.2.1,x.2.1.1.2.2.1,x.2.1.1.2.2.2.1,()),()),())
def yBB:Code:=(zdI yaq 64 244).getD .skip
theorem yNc:zdI yaq 64 61=some (.block 4 (.loop yBB)):=by kernel_rfl
theorem yPP (x:(ycs).X):zg7 ⟨ydz,76,yup⟩ 4 yBB 244 ycs ygY yhA x=ycP x:=by kernel_rfl
def yAb (x:(yhd).X):Nat:=(fun (u0:List Int) (u1:Int) (u2:List (List Int)) (u3:List dW) (u4:Bool) (u5:List Int)=>18446744073709551616) x.1.2.1.1 x.1.2.2.1.1 x.2.1.1.1 x.2.1.1.2.1 x.2.1.1.2.2.1 x.2.1.1.2.2.2.1
def ysm (x:(yhd).X):Option ((ygY).X ⊕ (yhA).X):=zr ycP (yAb x) (yzX x)
def yAz:Seg:=⟨yhd,ygY,yhA,ysm⟩
def yCu:Nat→Option Seg:=fun q=>bif Nat.beq q 61 then some yAz else yup q
theorem yNT:FrOk Tryz.prog ⟨ydz,76,yCu⟩ yaq:=(yNS).loop (sg:=yAz) ycs yzX (by decide) yNc ycP yAb (by decide) (fun _=>rfl) (fun x r _ h=>h) yPP
abbrev yji:List Par:= [.rd tM]
abbrev ysy:List OT:= [⟨false,tB,.fz⟩]
def ypb (a0:dM):Option (ResD ysy×MutD yji) :=
  zjw (ysk ((((),()),(a0.1,()),((a0.1.length:Int),()),((),()),()),((a0.1,a0.2.1,a0.2.2.1,a0.2.2.2,()),()),())) (fun y2 =>
    zjw (ysl ((((),()),(y2.2.1.1.2.1,()),((y2.2.1.1.2.1.length:Int),()),((),()),()),((y2.2.1.1.1,y2.2.1.1.2.1,y2.2.1.1.2.2.1,y2.2.1.1.2.2.2.1,()),()),())) (fun y7 =>
      zjw (ysm ((((),()),(y7.2.1.1.2.2.2.1,()),((y7.2.1.1.2.2.2.1.length:Int),()),((),()),()),((y7.2.1.1.1,y7.2.1.1.2.1,y7.2.1.1.2.2.1,y7.2.1.1.2.2.2.1,()),()),())) (fun y10 =>
        let r12:=ye (y10.2.1.1.1.length:Int) 1 20
        bif r12 then
          some (((leb (y10.2.1.1.2.1.length:Int) 60),()),())
        else
          some ((false,()),())) (fun y10 =>
        some ((y10.1.1.1,()),()))) (fun y7 =>
      some ((y7.1.1.1,()),()))) (fun y2 =>
    some ((y2.1.1.1,()),()))
theorem yUl (x:InD yji):zjH ⟨ydz,76,yCu⟩ Tryz.f132.results.toList yaq yji ysy x=ypb x.1:=by kernel_rfl
theorem yRv:ConOk Tryz.prog 132 ⟨yji,ysy,fun x=>ypb x.1⟩:=zkh (yNT) Tryz.func132 (by kernel_rfl) (by kernel_rfl) Tryz.ntmps132.symm (by decide) (fun x r h=>(yUl x).trans h)
def yaB (a0:dM):Bool:=yn a0
theorem yTf (a0:dM) (hk:zi9 yji (a0,())):ypb a0=(fun n=>some ((n,()),())) (yaB a0):=by
  have hb1:a0.1.length * 24≤2 ^ 47:=hk.1.1.1
  have hb2:a0.2.1.length * 32≤2 ^ 47:=hk.1.2.1.1
  have hb3:a0.2.2.2.length * 8≤2 ^ 47:=hk.1.2.2.2.1
  have h1:ysk (yLo a0.1 a0.1.length a0)=some (bif a0.1.all yaM then .inl (yLh a0) else .inr (yLx false)) :=
    zjS (step:=ycN) a0.1 [] (fun i=>yrx a0.1 a0.1.length i a0) yaM _ _ (fun i hi=>by
      simp only [ycN,yrx,yrP,zjI (show (i:Int) < a0.1.length by omega),cond_true,wr (show -9223372036854775808≤(i:Int)+1 by omega) (by omega),Int.natCast_add,Int.natCast_one,Int.toNat_natCast,zkO hi,zjW,yCb]
      cases yaM (a0.1.getD i [])<;>rfl) (by simp only [ycN,yrx,yrP,zkm (Int.le_refl _),cond_false]) _ (by show _ < 18446744073709551616; omega)
  have h2:ysl (yLp a0.2.1 a0.2.1.length a0)=some (bif a0.2.1.all (yuY a0.1.length) then .inl (yLi a0) else .inr (yLy false)) :=
    zjS (step:=ycO) a0.2.1 (0,[]) (fun i=>yry a0.2.1 a0.2.1.length i a0) (yuY a0.1.length) _ _ (fun i hi=>by
      simp only [ycO,yry,yrQ,zjI (show (i:Int) < a0.2.1.length by omega),cond_true,wr (show -9223372036854775808≤(i:Int)+1 by omega) (by omega),Int.natCast_add,Int.natCast_one,Int.toNat_natCast,zkO hi,zjW,yCb,yaF,yY,ynO (show a0.1.length≤1152921504606846976 by omega),yuY]
      cases inb (a0.2.1.getD i (0,[])).1 a0.1.length<;>cases yaM (a0.2.1.getD i (0,[])).2<;>rfl) (by simp only [ycO,yry,yrQ,zkm (Int.le_refl _),cond_false]) _ (by show _ < 18446744073709551616; omega)
  have h3:ysm (yLq a0.2.2.2 a0.2.2.2.length a0)=some (bif (List.range a0.2.2.2.length).any (yBx a0.1.length a0.2.2.2) then .inr (yLz false) else .inl (yLj a0)) :=
    zf4 (step:=ycP) (fun i=>yrz a0.2.2.2 a0.2.2.2.length i a0) a0.2.2.2.length (yBx a0.1.length a0.2.2.2) _ _ (fun i hi=>by
      simp only [ycP,yrz,yrR,zjI (show (i:Int) < a0.2.2.2.length by omega),cond_true,wr (show -9223372036854775808≤(i:Int)+1 by omega) (by omega),Int.natCast_add,Int.natCast_one,Int.toNat_natCast,zkO hi,zjW,yaF,yY,ynO (show a0.1.length≤1152921504606846976 by omega),yBx]
      rcases Nat.eq_zero_or_pos i with rfl | h0
      · cases inb (a0.2.2.2.getD 0 0) a0.1.length<;>rfl
      · rw [show IntKind.i64.wrap ((i:Int) - 1)=((i - 1:Nat):Int) by rw [wr (by omega) (by omega)]; omega,zkO (show i - 1 < a0.2.2.2.length by omega),zjW,zjI (show (0:Int) < i by omega),decide_eq_true h0]
        cases inb (a0.2.2.2.getD i 0) a0.1.length<;>cases leb (a0.2.2.2.getD i 0) (a0.2.2.2.getD (i - 1) 0)<;>rfl) (by simp only [ycP,yrz,yrR,zkm (Int.le_refl _),cond_false]) _ (by show _ < 18446744073709551616; omega)
  unfold ypb yaB yn
  rw [h1]
  cases a0.1.all yaM
  · rfl
  simp only [cond_true,zkJ,h2]
  cases a0.2.1.all (yuY a0.1.length)
  · rfl
  simp only [cond_true,zkJ,h3,ySk,yY,ykx]
  cases ys0 a0.1.length a0.2.2.2
  · rfl
  simp only [Bool.not_true,cond_false,zkJ]
  cases leb 1 (a0.1.length:Int)<;>cases leb (a0.1.length:Int) 20<;>rfl
def yjG:Con:=⟨yji,ysy,fun x=>(fun n=>some ((n,()),())) (yaB x.1)⟩
theorem yq9:ConOk Tryz.prog 132 yjG:=(yRv).mono (fun x r hk h=>(yTf x.1 hk).trans h)
end
end
end Go.Tf
