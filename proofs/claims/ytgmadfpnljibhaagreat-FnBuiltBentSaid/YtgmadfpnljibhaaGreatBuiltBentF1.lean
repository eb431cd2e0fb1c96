/- Functions of the program, and what they come to. -/
import Derived.Test.YtgmadfpnljibhaaGreatBuiltBentF0
namespace Go.Tf
noncomputable section
open Go.Proofs
set_option synthInstance.maxHeartbeats 400000
set_option synthInstance.maxSize 10000
set_option linter.unusedVariables false
set_option linter.unusedSimpArgs false
set_option maxRecDepth 100000
section
def ykp:Code:=(Tryz.f225.body).getD .skip
def yqd:Env:=zki TT [(181,yEj)] []
theorem yMs:FrOk Tryz.prog ⟨yqd,16,fun _=>none⟩ ykp:=zkp yc yd ⟨yWK,trivial⟩
def yBe:Nat→Option Seg:=fun _=>none
def ydt:Shape:=⟨[(0,false,[.br tI]),(3,false,[.int .i64])],[],[]⟩
def yjL:Shape:=⟨[(0,false,[.br tI]),(3,false,[.ci .i64 0])],[],[]⟩
def yjJ:Shape:=⟨[],[],[]⟩
def yjW:Shape:=⟨[(2,false,[.bool])],[],[]⟩
def yp2 (v0:List Int) (v1:Int):Option ((ydt).X ⊕ ((yjJ).X ⊕ (yjW).X)) :=
  bif (ltb v1 (v0.length:Int)) then
    bif (inb v1 v0.length) then
      let r2:=yaj (nth v0 v1 0)
      bif (!r2) then
        some (.inr (.inr (((false,()),()),(),())))
      else
        some (.inl (((v0,()),((IntKind.i64.wrap (v1+1)),()),()),(),()))
    else none
  else
    some (.inr (.inl ((),(),())))
def ybU (x:(ydt).X):=yp2 x.1.1.1 x.1.2.1.1
def yx5 (x:(yjL).X):(ydt).X:=(((x.1.1.1,()),(0,()),()),(),())
def yzD:Code:=(zdI ykp 64 52).getD .skip
theorem yLU:zdI ykp 64 13=some (.block 0 (.loop yzD)):=by kernel_rfl
theorem yNB (x:(ydt).X):zg7 ⟨yqd,16,yBe⟩ 0 yzD 52 ydt yjJ yjW x=ybU x:=by kernel_rfl
def yyk (x:(yjL).X):Nat:=(fun (u0:List Int)=>18446744073709551616) x.1.1.1
def yra (x:(yjL).X):Option ((yjJ).X ⊕ (yjW).X):=zr ybU (yyk x) (yx5 x)
def yyK:Seg:=⟨yjL,yjJ,yjW,yra⟩
def yBf:Nat→Option Seg:=fun q=>bif Nat.beq q 13 then some yyK else yBe q
theorem yMt:FrOk Tryz.prog ⟨yqd,16,yBf⟩ ykp:=(yMs).loop (sg:=yyK) ydt yx5 (by decide) yLU ybU yyk (by decide) (fun _=>rfl) (fun x r _ h=>h) yNB
abbrev ygx:List Par:= [.rd tL]
abbrev yqu:List OT:= [⟨false,tB,.fz⟩]
def ymb (a0:List Int):Option (ResD yqu×MutD ygx) :=
  zjw (yra (((a0,()),((),()),()),(),())) (fun y2 =>
    some ((true,()),())) (fun y2 =>
    some ((y2.1.1.1,()),()))
theorem yVl (x:InD ygx):zjH ⟨yqd,16,yBf⟩ Tryz.f225.results.toList ykp ygx yqu x=ymb x.1:=by kernel_rfl
theorem yQv:ConOk Tryz.prog 225 ⟨ygx,yqu,fun x=>ymb x.1⟩:=zkh (yMt) Tryz.func225 (by kernel_rfl) (by kernel_rfl) Tryz.ntmps225.symm (by decide) (fun x r h=>(yVl x).trans h)
def yQ (a0:List Int):Bool:=a0.all yaj
theorem yTp (a0:List Int) (hk:zi9 ygx (a0,())):ymb a0=(fun n=>some ((n,()),())) (yQ a0):=by
  have hb:a0.length * 8≤2 ^ 47:=hk.1.1
  have hl:yra (((a0,()),((),()),()),(),())=some (bif a0.all yaj then .inl ((),(),()) else .inr (((false,()),()),(),())) :=
    zjS (step:=ybU) a0 0 (fun i=>(((a0,()),((i:Int),()),()),(),())) yaj _ _ (fun i hi=>by
      simp only [ybU,yp2,zkO hi,zjW,zjI (show (i:Int) < a0.length by omega),cond_true,wr (show -9223372036854775808≤(i:Int)+1 by omega) (by omega),Int.natCast_add,Int.natCast_one]
      cases yaj (a0.getD i 0)<;>rfl) (by simp only [ybU,yp2,zkm (Int.le_refl _),cond_false]) _ (by show _ < 18446744073709551616; omega)
  unfold ymb yQ
  rw [hl]
  cases a0.all yaj<;>rfl
def yhu:Con:=⟨ygx,yqu,fun x=>(fun n=>some ((n,()),())) (yQ x.1)⟩
theorem yos:ConOk Tryz.prog 225 yhu:=(yQv).mono (fun x r hk h=>(yTp x.1 hk).trans h)
end
section
def yJb:Code:=(Tryz.f269.body).getD .skip
def yJA:Env:=zki TT [(225,yhu)] []
theorem ySz:FrOk Tryz.prog ⟨yJA,10,fun _=>none⟩ yJb:=zkp yc yd ⟨yos,trivial⟩
def yUQ:Nat→Option Seg:=fun _=>none
abbrev ypb:List Par:= [.rd tL]
abbrev yuO:List OT:= [⟨false,tB,.fz⟩]
def yxi (a0:List Int):Option (ResD yuO×MutD ypb) :=
  bif (leb (a0.length:Int) 12) then
    let r1:=yQ a0
    some ((r1,()),())
  else
    some ((false,()),())
theorem yZg (x:InD ypb):zjH ⟨yJA,10,yUQ⟩ Tryz.f269.results.toList yJb ypb yuO x=yxi x.1:=by kernel_rfl
theorem yWh:ConOk Tryz.prog 269 ⟨ypb,yuO,fun x=>yxi x.1⟩:=zkh (ySz) Tryz.func269 (by kernel_rfl) (by kernel_rfl) Tryz.ntmps269.symm (by decide) (fun x r h=>(yZg x).trans h)
def yhz (a0:List Int):Bool :=
  bif (leb (a0.length:Int) 12) then
    let r1:=yQ a0
    r1
  else
    false
def ywS:Con:=⟨ypb,yuO,fun x=>(fun n=>some ((n,()),())) (yhz x.1)⟩
theorem yYp (a0:List Int):yxi a0=(fun n=>some ((n,()),())) (yhz a0):=zkS (p:=fun (n:Bool)=>((n,()),())) (zkx (p:=fun (n:Bool)=>((n,()),())) rfl rfl)
theorem yIb:ConOk Tryz.prog 269 ywS:=(yWh).mono (fun x r _ h=>(yYp x.1).trans h)
theorem yE0:yhz=yaf:=funext fun s=>by
  unfold yhz yaf yQ
  rw [show yaj=isW from funext fun x=>by unfold yaj; rw [ydj]; rfl]
  cases leb (s.length:Int) 12<;>rfl
end
section
def ya5:Code:=(Tryz.f224.body).getD .skip
def yeD:Env:=zki TT [(135,yq),(269,ywS)] []
theorem ySu:FrOk Tryz.prog ⟨yeD,91,fun _=>none⟩ ya5:=zkp yc yd ⟨yz,yIb,trivial⟩
def yFn:Nat→Option Seg:=fun _=>none
def yc7:Shape:=⟨[(1,false,[.ptr 0 0]),(3,false,[.int .i64]),(4,false,[.int .i64])],[(0,[.br tL,.br tW,.bool,.br tI])],[]⟩
def yiN:Shape:=⟨[(1,false,[.ptr 0 0]),(3,false,[.int .i64]),(4,false,[.ci .i64 0])],[(0,[.br tL,.br tW,.bool,.br tI])],[]⟩
def yiy:Shape:=⟨[(1,false,[.ptr 0 0]),(3,false,[.int .i64])],[(0,[.br tL,.br tW,.bool,.br tI])],[]⟩
def yje:Shape:=⟨[(2,false,[.bool])],[],[]⟩
abbrev ytj (v0:Int) (v1:Int) (v2:dM):(yc7).X:=((((),()),(v0,()),(v1,()),()),((v2.1,v2.2.1,v2.2.2.1,v2.2.2.2,()),()),())
abbrev yPB (v0:Int) (v1:dM):(yiN).X:=((((),()),(v0,()),((),()),()),((v1.1,v1.2.1,v1.2.2.1,v1.2.2.2,()),()),())
abbrev yPr (v0:Int) (v1:dM):(yiy).X:=((((),()),(v0,()),()),((v1.1,v1.2.1,v1.2.2.1,v1.2.2.2,()),()),())
abbrev yPO (v0:Bool):(yje).X:=(((v0,()),()),(),())
def ytI (v0:Int) (v1:Int) (v2:List (List Int)) (v3:List dW) (v4:Bool) (v5:List Int):Option ((yc7).X ⊕ ((yiy).X ⊕ (yje).X)) :=
  bif (ltb v1 v0) then
    bif (inb v1 v2.length) then
      let r2:=yhz (nth v2 v1 [])
      bif (!r2) then
        some (.inr (.inr (((false,()),()),(),())))
      else
        some (.inl ((((),()),(v0,()),((IntKind.i64.wrap (v1+1)),()),()),((v2,v3,v4,v5,()),()),()))
    else none
  else
    some (.inr (.inl ((((),()),(v0,()),()),((v2,v3,v4,v5,()),()),())))
def ydE (x:(yc7).X):=ytI x.1.2.1.1 x.1.2.2.1.1 x.2.1.1.1 x.2.1.1.2.1 x.2.1.1.2.2.1 x.2.1.1.2.2.2.1
def yBY (x:(yiN).X):(yc7).X:=((((),()),(x.1.2.1.1,()),(0,()),()),((x.2.1.1.1,x.2.1.1.2.1,x.2.1.1.2.2.1,x.2.1.1.2.2.2.1,()),()),())
def yDZ:Code:=(zdI ya5 64 116).getD .skip
theorem yRA:zdI ya5 64 29=some (.block 0 (.loop yDZ)):=by kernel_rfl
theorem yUr (x:(yc7).X):zg7 ⟨yeD,91,yFn⟩ 0 yDZ 116 yc7 yiy yje x=ydE x:=by kernel_rfl
def yCe (x:(yiN).X):Nat:=(fun (u0:Int) (u1:List (List Int)) (u2:List dW) (u3:Bool) (u4:List Int)=>18446744073709551616) x.1.2.1.1 x.2.1.1.1 x.2.1.1.2.1 x.2.1.1.2.2.1 x.2.1.1.2.2.2.1
def yuq (x:(yiN).X):Option ((yiy).X ⊕ (yje).X):=zr ydE (yCe x) (yBY x)
def yCQ:Seg:=⟨yiN,yiy,yje,yuq⟩
def ywJ:Nat→Option Seg:=fun q=>bif Nat.beq q 29 then some yCQ else yFn q
theorem ySv:FrOk Tryz.prog ⟨yeD,91,ywJ⟩ ya5:=(ySu).loop (sg:=yCQ) yc7 yBY (by decide) yRA ydE yCe (by decide) (fun _=>rfl) (fun x r _ h=>h) yUr
def yc8:Shape:=⟨[(1,false,[.ptr 0 0]),(3,false,[.int .i64]),(5,false,[.int .i64])],[(0,[.br tL,.br tW,.bool,.br tI])],[]⟩
def yiO:Shape:=⟨[(1,false,[.ptr 0 0]),(3,false,[.int .i64]),(5,false,[.ci .i64 0])],[(0,[.br tL,.br tW,.bool,.br tI])],[]⟩
def yiz:Shape:=⟨[(1,false,[.ptr 0 0]),(3,false,[.int .i64])],[(0,[.br tL,.br tW,.bool,.br tI])],[]⟩
def yjf:Shape:=⟨[(2,false,[.bool])],[],[]⟩
abbrev ytk (v0:Int) (v1:Int) (v2:dM):(yc8).X:=((((),()),(v0,()),(v1,()),()),((v2.1,v2.2.1,v2.2.2.1,v2.2.2.2,()),()),())
abbrev yPC (v0:Int) (v1:dM):(yiO).X:=((((),()),(v0,()),((),()),()),((v1.1,v1.2.1,v1.2.2.1,v1.2.2.2,()),()),())
abbrev yPs (v0:Int) (v1:dM):(yiz).X:=((((),()),(v0,()),()),((v1.1,v1.2.1,v1.2.2.1,v1.2.2.2,()),()),())
abbrev yPP (v0:Bool):(yjf).X:=(((v0,()),()),(),())
def ytJ (v0:Int) (v1:Int) (v2:List (List Int)) (v3:List dW) (v4:Bool) (v5:List Int):Option ((yc8).X ⊕ ((yiz).X ⊕ (yjf).X)) :=
  bif (ltb v1 (v3.length:Int)) then
    bif (inb v1 v3.length) then
      let r6:=ya ((nth v3 v1 (0,[])).1) 0 (IntKind.i64.wrap (v0 - 1))
      bif (!(!r6)) then
        bif (inb v1 v3.length) then
          let r7:=yhz ((nth v3 v1 (0,[])).2)
          bif (!r7) then
            some (.inr (.inr (((false,()),()),(),())))
          else
            some (.inl ((((),()),(v0,()),((IntKind.i64.wrap (v1+1)),()),()),((v2,v3,v4,v5,()),()),()))
        else none
      else
        some (.inr (.inr (((false,()),()),(),())))
    else none
  else
    some (.inr (.inl ((((),()),(v0,()),()),((v2,v3,v4,v5,()),()),())))
def ydF (x:(yc8).X):=ytJ x.1.2.1.1 x.1.2.2.1.1 x.2.1.1.1 x.2.1.1.2.1 x.2.1.1.2.2.1 x.2.1.1.2.2.2.1
def yBZ (x:(yiO).X):(yc8).X:=((((),()),(x.1.2.1.1,()),(0,()),()),((x.2.1.1.1,x.2.1.1.2.1,x.2.1.1.2.2.1,x.2.1.1.2.2.2.1,()),()),())
def yD0:Code:=(zdI ya5 64 244).getD .skip
theorem yRB:zdI ya5 64 61=some (.block 2 (.loop yD0)):=by kernel_rfl
theorem yUs (x:(yc8).X):zg7 ⟨yeD,91,ywJ⟩ 2 yD0 244 yc8 yiz yjf x=ydF x:=by kernel_rfl
def yCf (x:(yiO).X):Nat:=(fun (u0:Int) (u1:List (List Int)) (u2:List dW) (u3:Bool) (u4:List Int)=>18446744073709551616) x.1.2.1.1 x.2.1.1.1 x.2.1.1.2.1 x.2.1.1.2.2.1 x.2.1.1.2.2.2.1
def yur (x:(yiO).X):Option ((yiz).X ⊕ (yjf).X):=zr ydF (yCf x) (yBZ x)
def yCR:Seg:=⟨yiO,yiz,yjf,yur⟩
def ywK:Nat→Option Seg:=fun q=>bif Nat.beq q 61 then some yCR else ywJ q
theorem ySw:FrOk Tryz.prog ⟨yeD,91,ywK⟩ ya5:=(ySv).loop (sg:=yCR) yc8 yBZ (by decide) yRB ydF yCf (by decide) (fun _=>rfl) (fun x r _ h=>h) yUs
def ycb:Shape:=⟨[(1,false,[.ptr 0 0]),(3,false,[.int .i64]),(6,false,[.int .i64])],[(0,[.br tL,.br tW,.bool,.br tI])],[]⟩
def yhd:Shape:=⟨[(1,false,[.ptr 0 0]),(3,false,[.int .i64]),(6,false,[.ci .i64 0])],[(0,[.br tL,.br tW,.bool,.br tI])],[]⟩
def yg1:Shape:=⟨[(1,false,[.ptr 0 0]),(3,false,[.int .i64])],[(0,[.br tL,.br tW,.bool,.br tI])],[]⟩
def yhq:Shape:=⟨[(2,false,[.bool])],[],[]⟩
abbrev yro (v0:Int) (v1:Int) (v2:dM):(ycb).X:=((((),()),(v0,()),(v1,()),()),((v2.1,v2.2.1,v2.2.2.1,v2.2.2.2,()),()),())
abbrev yML (v0:Int) (v1:dM):(yhd).X:=((((),()),(v0,()),((),()),()),((v1.1,v1.2.1,v1.2.2.1,v1.2.2.2,()),()),())
abbrev yMD (v0:Int) (v1:dM):(yg1).X:=((((),()),(v0,()),()),((v1.1,v1.2.1,v1.2.2.1,v1.2.2.2,()),()),())
abbrev yMU (v0:Bool):(yhq).X:=(((v0,()),()),(),())
def yrE (v0:Int) (v1:Int) (v2:List (List Int)) (v3:List dW) (v4:Bool) (v5:List Int):Option ((ycb).X ⊕ ((yg1).X ⊕ (yhq).X)) :=
  bif (ltb v1 (v5.length:Int)) then
    bif (inb v1 v5.length) then
      let r10:=ya (nth v5 v1 0) 0 (IntKind.i64.wrap (v0 - 1))
      bif (!(!r10)) then
        bif (ltb 0 v1) then
          bif (inb (IntKind.i64.wrap (v1 - 1)) v5.length) then
            bif (inb v1 v5.length) then
              bif (leb (nth v5 v1 0) (nth v5 (IntKind.i64.wrap (v1 - 1)) 0)) then
                some (.inr (.inr (((false,()),()),(),())))
              else
                some (.inl ((((),()),(v0,()),((IntKind.i64.wrap (v1+1)),()),()),((v2,v3,v4,v5,()),()),()))
            else none
          else none
        else
          some (.inl ((((),()),(v0,()),((IntKind.i64.wrap (v1+1)),()),()),((v2,v3,v4,v5,()),()),()))
      else
        some (.inr (.inr (((false,()),()),(),())))
    else none
  else
    some (.inr (.inl ((((),()),(v0,()),()),((v2,v3,v4,v5,()),()),())))
def ycO (x:(ycb).X):=yrE x.1.2.1.1 x.1.2.2.1.1 x.2.1.1.1 x.2.1.1.2.1 x.2.1.1.2.2.1 x.2.1.1.2.2.2.1
def yzU (x:(yhd).X):(ycb).X:=((((),()),(x.1.2.1.1,()),(0,()),()),((x.2.1.1.1,x.2.1.1.2.1,x.2.1.1.2.2.1,x.2.1.1.2.2.2.1,()),()),())
def yBx:Code:=(zdI ya5 64 500).getD .skip
theorem yN7:zdI ya5 64 125=some (.block 4 (.loop yBx)):=by kernel_rfl
theorem yQQ (x:(ycb).X):zg7 ⟨yeD,91,ywK⟩ 4 yBx 500 ycb yg1 yhq x=ycO x:=by kernel_rfl
def yz6 (x:(yhd).X):Nat:=(fun (u0:Int) (u1:List (List Int)) (u2:List dW) (u3:Bool) (u4:List Int)=>18446744073709551616) x.1.2.1.1 x.2.1.1.1 x.2.1.1.2.1 x.2.1.1.2.2.1 x.2.1.1.2.2.2.1
def ysW (x:(yhd).X):Option ((yg1).X ⊕ (yhq).X):=zr ycO (yz6 x) (yzU x)
def yAs:Seg:=⟨yhd,yg1,yhq,ysW⟩
def yFo:Nat→Option Seg:=fun q=>bif Nat.beq q 125 then some yAs else ywK q
theorem ySx:FrOk Tryz.prog ⟨yeD,91,yFo⟩ ya5:=(ySw).loop (sg:=yAs) ycb yzU (by decide) yN7 ycO yz6 (by decide) (fun _=>rfl) (fun x r _ h=>h) yQQ
abbrev ykI:List Par:= [.rd tM]
abbrev yuM:List OT:= [⟨false,tB,.fz⟩]
def yqR (a0:dM):Option (ResD yuM×MutD ykI) :=
  zjw (yuq ((((),()),((a0.1.length:Int),()),((),()),()),((a0.1,a0.2.1,a0.2.2.1,a0.2.2.2,()),()),())) (fun y2 =>
    zjw (yur ((((),()),(y2.1.2.1.1,()),((),()),()),((y2.2.1.1.1,y2.2.1.1.2.1,y2.2.1.1.2.2.1,y2.2.1.1.2.2.2.1,()),()),())) (fun y7 =>
      zjw (ysW ((((),()),(y7.1.2.1.1,()),((),()),()),((y7.2.1.1.1,y7.2.1.1.2.1,y7.2.1.1.2.2.1,y7.2.1.1.2.2.2.1,()),()),())) (fun y10 =>
        let r12:=ya y10.1.2.1.1 1 20
        bif r12 then
          some (((leb (y10.2.1.1.2.1.length:Int) 60),()),())
        else
          some ((false,()),())) (fun y10 =>
        some ((y10.1.1.1,()),()))) (fun y7 =>
      some ((y7.1.1.1,()),()))) (fun y2 =>
    some ((y2.1.1.1,()),()))
theorem yZe (x:InD ykI):zjH ⟨yeD,91,yFo⟩ Tryz.f224.results.toList ya5 ykI yuM x=yqR x.1:=by kernel_rfl
theorem yWf:ConOk Tryz.prog 224 ⟨ykI,yuM,fun x=>yqR x.1⟩:=zkh (ySx) Tryz.func224 (by kernel_rfl) (by kernel_rfl) Tryz.ntmps224.symm (by decide) (fun x r h=>(yZe x).trans h)
def yam (a0:dM):Bool:=yp a0
theorem yYn (a0:dM) (hk:zi9 ykI (a0,())):yqR a0=(fun n=>some ((n,()),())) (yam a0):=by
  have hb1:a0.1.length * 24≤2 ^ 47:=hk.1.1.1
  have hb2:a0.2.1.length * 32≤2 ^ 47:=hk.1.2.1.1
  have hb3:a0.2.2.2.length * 8≤2 ^ 47:=hk.1.2.2.2.1
  have h1:yuq (yPB a0.1.length a0)=some (bif a0.1.all yaf then .inl (yPr a0.1.length a0) else .inr (yPO false)) :=
    zjS (step:=ydE) a0.1 [] (fun i=>ytj a0.1.length i a0) yaf _ _ (fun i hi=>by
      simp only [ydE,ytj,ytI,zjI (show (i:Int) < a0.1.length by omega),cond_true,wr (show -9223372036854775808≤(i:Int)+1 by omega) (by omega),Int.natCast_add,Int.natCast_one,Int.toNat_natCast,zkO hi,zjW,yE0]
      cases yaf (a0.1.getD i [])<;>rfl) (by simp only [ydE,ytj,ytI,zkm (Int.le_refl _),cond_false]) _ (by show _ < 18446744073709551616; omega)
  have h2:yur (yPC a0.1.length a0)=some (bif a0.2.1.all (yvZ a0.1.length) then .inl (yPs a0.1.length a0) else .inr (yPP false)) :=
    zjS (step:=ydF) a0.2.1 (0,[]) (fun i=>ytk a0.1.length i a0) (yvZ a0.1.length) _ _ (fun i hi=>by
      simp only [ydF,ytk,ytJ,zjI (show (i:Int) < a0.2.1.length by omega),cond_true,wr (show -9223372036854775808≤(i:Int)+1 by omega) (by omega),Int.natCast_add,Int.natCast_one,Int.toNat_natCast,zkO hi,zjW,yE0,ypz (show a0.1.length≤1152921504606846976 by omega),yvZ]
      cases inb (a0.2.1.getD i (0,[])).1 a0.1.length<;>cases yaf (a0.2.1.getD i (0,[])).2<;>rfl) (by simp only [ydF,ytk,ytJ,zkm (Int.le_refl _),cond_false]) _ (by show _ < 18446744073709551616; omega)
  have h3:ysW (yML a0.1.length a0)=some (bif (List.range a0.2.2.2.length).any (yDR a0.1.length a0.2.2.2) then .inr (yMU false) else .inl (yMD a0.1.length a0)) :=
    zf4 (step:=ycO) (fun i=>yro a0.1.length i a0) a0.2.2.2.length (yDR a0.1.length a0.2.2.2) _ _ (fun i hi=>by
      simp only [ycO,yro,yrE,zjI (show (i:Int) < a0.2.2.2.length by omega),cond_true,wr (show -9223372036854775808≤(i:Int)+1 by omega) (by omega),Int.natCast_add,Int.natCast_one,Int.toNat_natCast,zkO hi,zjW,ypz (show a0.1.length≤1152921504606846976 by omega),yDR]
      rcases Nat.eq_zero_or_pos i with rfl | h0
      · cases inb (a0.2.2.2.getD 0 0) a0.1.length<;>rfl
      · rw [show IntKind.i64.wrap ((i:Int) - 1)=((i - 1:Nat):Int) by rw [wr (by omega) (by omega)]; omega,zkO (show i - 1 < a0.2.2.2.length by omega),zjW,zjI (show (0:Int) < i by omega),decide_eq_true h0]
        cases inb (a0.2.2.2.getD i 0) a0.1.length<;>cases leb (a0.2.2.2.getD i 0) (a0.2.2.2.getD (i - 1) 0)<;>rfl) (by simp only [ycO,yro,yrE,zkm (Int.le_refl _),cond_false]) _ (by show _ < 18446744073709551616; omega)
  unfold yqR yam yp
  rw [h1]
  cases a0.1.all yaf
  · rfl
  simp only [cond_true,zkJ,h2]
  cases a0.2.1.all (yvZ a0.1.length)
  · rfl
  simp only [cond_true,zkJ,h3,yW4,ydj]
  cases yqw a0.1.length a0.2.2.2
  · rfl
  simp only [Bool.not_true,cond_false,zkJ]
  cases leb 1 (a0.1.length:Int)<;>cases leb (a0.1.length:Int) 20<;>rfl
def ygz:Con:=⟨ykI,yuM,fun x=>(fun n=>some ((n,()),())) (yam x.1)⟩
theorem ym8:ConOk Tryz.prog 224 ygz:=(yWf).mono (fun x r hk h=>(yYn x.1 hk).trans h)
end
section
def ymo:Code:=(Tryz.f136.body).getD .skip
def yr5:Env:=zki TT [(139,yom),(224,ygz)] []
theorem yO9:FrOk Tryz.prog ⟨yr5,51,fun _=>none⟩ ymo:=zkp yc yd ⟨yw7,ym8,trivial⟩
def yDy:Nat→Option Seg:=fun _=>none
def yci:Shape:=⟨[(1,false,[.ptr 0 0]),(3,false,[.int .i64])],[(0,[.int .i64,.int .i64,.int .i64,.br tM,.int .i64,.int .i64,.int .i64,.int .i64,.int .i64,.br tW,.int .i64,.bool,.bool])],[]⟩
def yhk:Shape:=⟨[(1,false,[.ptr 0 0]),(3,false,[.ci .i64 0])],[(0,[.int .i64,.int .i64,.int .i64,.br tM,.int .i64,.int .i64,.int .i64,.int .i64,.int .i64,.br tW,.int .i64,.bool,.bool])],[]⟩
def yg8:Shape:=⟨[(1,false,[.ptr 0 0])],[(0,[.int .i64,.int .i64,.int .i64,.br tM,.int .i64,.int .i64,.int .i64,.int .i64,.int .i64,.br tW,.int .i64,.bool,.bool])],[]⟩
def yhr:Shape:=⟨[(2,false,[.bool])],[],[]⟩
abbrev yrt (v0:Int) (v1:dA):(yci).X:=((((),()),(v0,()),()),((v1.1,v1.2.1.1,v1.2.1.2,v1.2.2.1,v1.2.2.2.1,v1.2.2.2.2.1,v1.2.2.2.2.2.1,v1.2.2.2.2.2.2.1,v1.2.2.2.2.2.2.2.1,v1.2.2.2.2.2.2.2.2.1,v1.2.2.2.2.2.2.2.2.2.1,v1.2.2.2.2.2.2.2.2.2.2.1,v1.2.2.2.2.2.2.2.2.2.2.2,()),()),())
abbrev yMR (v0:dA):(yhk).X:=((((),()),((),()),()),((v0.1,v0.2.1.1,v0.2.1.2,v0.2.2.1,v0.2.2.2.1,v0.2.2.2.2.1,v0.2.2.2.2.2.1,v0.2.2.2.2.2.2.1,v0.2.2.2.2.2.2.2.1,v0.2.2.2.2.2.2.2.2.1,v0.2.2.2.2.2.2.2.2.2.1,v0.2.2.2.2.2.2.2.2.2.2.1,v0.2.2.2.2.2.2.2.2.2.2.2,()),()),())
abbrev yMH (v0:dA):(yg8).X:=((((),()),()),((v0.1,v0.2.1.1,v0.2.1.2,v0.2.2.1,v0.2.2.2.1,v0.2.2.2.2.1,v0.2.2.2.2.2.1,v0.2.2.2.2.2.2.1,v0.2.2.2.2.2.2.2.1,v0.2.2.2.2.2.2.2.2.1,v0.2.2.2.2.2.2.2.2.2.1,v0.2.2.2.2.2.2.2.2.2.2.1,v0.2.2.2.2.2.2.2.2.2.2.2,()),()),())
abbrev yMV (v0:Bool):(yhr).X:=(((v0,()),()),(),())
def yrK (v0:Int) (v1:Int) (v2:Int) (v3:Int) (v4:List dM) (v5:Int) (v6:Int) (v7:Int) (v8:Int) (v9:Int) (v10:List dW) (v11:Int) (v12:Bool) (v13:Bool):Option ((yci).X ⊕ ((yg8).X ⊕ (yhr).X)) :=
  bif (ltb v0 (v4.length:Int)) then
    bif (inb v0 v4.length) then
      let r3:=yam ((nth v4 v0 ([],[],false,[])).1,((nth v4 v0 ([],[],false,[])).2).1,(((nth v4 v0 ([],[],false,[])).2).2))
      bif (!(!r3)) then
        let r4:=yb5 (v2,v3)
        bif (!((((nth v4 v0 ([],[],false,[])).1).length:Int) !=r4)) then
          bif (((nth v4 v0 ([],[],false,[])).2).2).1 then
            bif (v0 !=v5) then
              bif (!v13) then
                some (.inr (.inr (((false,()),()),(),())))
              else
                some (.inl ((((),()),((IntKind.i64.wrap (v0+1)),()),()),((v1,v2,v3,v4,v5,v6,v7,v8,v9,v10,v11,v12,v13,()),()),()))
            else
              some (.inl ((((),()),((IntKind.i64.wrap (v0+1)),()),()),((v1,v2,v3,v4,v5,v6,v7,v8,v9,v10,v11,v12,v13,()),()),()))
          else
            some (.inl ((((),()),((IntKind.i64.wrap (v0+1)),()),()),((v1,v2,v3,v4,v5,v6,v7,v8,v9,v10,v11,v12,v13,()),()),()))
        else
          some (.inr (.inr (((false,()),()),(),())))
      else
        some (.inr (.inr (((false,()),()),(),())))
    else none
  else
    some (.inr (.inl ((((),()),()),((v1,v2,v3,v4,v5,v6,v7,v8,v9,v10,v11,v12,v13,()),()),())))
def ycT (x:(yci).X):=yrK x.1.2.1.1 x.2.1.1.1 x.2.1.1.2.1 x.2.1.1.2.2.1 x.2.1.1.2.2.2.1 x.2.1.1.2.2.2.2.1 x.2.1.1.2.2.2.2.2.1 x.2.1.1.2.2.2.2.2.2.1 x.2.1.1.2.2.2.2.2.2.2.1 x.2.1.1.2.2.2.2.2.2.2.2.1 x.2.1.1.2.2.2.2.2.2.2.2.2.1 x.2.1.1.2.2.2.2.2.2.2.2.2.2.1 x.2.1.1.2.2.2.2.2.2.2.2.2.2.2.1 x.2.1.1.2.2.2.2.2.2.2.2.2.2.2.2.1
def yz1 (x:(yhk).X):(yci).X:=((((),()),(0,()),()),((x.2.1.1.1,x.2.1.1.2.1,x.2.1.1.2.2.1,x.2.1.1.2.2.2.1,x.2.1.1.2.2.2.2.1,x.2.1.1.2.2.2.2.2.1,x.2.1.1.2.2.2.2.2.2.1,x.2.1.1.2.2.2.2.2.2.2.1,x.2.1.1.2.2.2.2.2.2.2.2.1,x.2.1.1.2.2.2.2.2.2.2.2.2.1,x.2.1.1.2.2.2.2.2.2.2.2.2.2.1,x.2.1.1.2.2.2.2.2.2.2.2.2.2.2.1,x.2.1.1.2.2.2.2.2.2.2.2.2.2.2.2.1,()),()),())
def yBE:Code:=(zdI ymo 64 52).getD .skip
theorem yOe:zdI ymo 64 13=some (.block 0 (.loop yBE)):=by kernel_rfl
theorem yQX (x:(yci).X):zg7 ⟨yr5,51,yDy⟩ 0 yBE 52 yci yg8 yhr x=ycT x:=by kernel_rfl
def yAd (x:(yhk).X):Nat:=(fun (u0:Int) (u1:Int) (u2:Int) (u3:List dM) (u4:Int) (u5:Int) (u6:Int) (u7:Int) (u8:Int) (u9:List dW) (u10:Int) (u11:Bool) (u12:Bool)=>18446744073709551616) x.2.1.1.1 x.2.1.1.2.1 x.2.1.1.2.2.1 x.2.1.1.2.2.2.1 x.2.1.1.2.2.2.2.1 x.2.1.1.2.2.2.2.2.1 x.2.1.1.2.2.2.2.2.2.1 x.2.1.1.2.2.2.2.2.2.2.1 x.2.1.1.2.2.2.2.2.2.2.2.1 x.2.1.1.2.2.2.2.2.2.2.2.2.1 x.2.1.1.2.2.2.2.2.2.2.2.2.2.1 x.2.1.1.2.2.2.2.2.2.2.2.2.2.2.1 x.2.1.1.2.2.2.2.2.2.2.2.2.2.2.2.1
def ys2 (x:(yhk).X):Option ((yg8).X ⊕ (yhr).X):=zr ycT (yAd x) (yz1 x)
def yAz:Seg:=⟨yhk,yg8,yhr,ys2⟩
def yDz:Nat→Option Seg:=fun q=>bif Nat.beq q 13 then some yAz else yDy q
theorem yPa:FrOk Tryz.prog ⟨yr5,51,yDz⟩ ymo:=(yO9).loop (sg:=yAz) yci yz1 (by decide) yOe ycT yAd (by decide) (fun _=>rfl) (fun x r _ h=>h) yQX
abbrev yfz:List Par:= [.rd tA]
abbrev ymP:List OT:= [⟨false,tB,.fz⟩]
def yoF (a0:dA):Option (ResD ymP×MutD yfz) :=
  zjw (ys2 ((((),()),((),()),()),((a0.1,a0.2.1.1,a0.2.1.2,a0.2.2.1,a0.2.2.2.1,a0.2.2.2.2.1,a0.2.2.2.2.2.1,a0.2.2.2.2.2.2.1,a0.2.2.2.2.2.2.2.1,a0.2.2.2.2.2.2.2.2.1,a0.2.2.2.2.2.2.2.2.2.1,a0.2.2.2.2.2.2.2.2.2.2.1,a0.2.2.2.2.2.2.2.2.2.2.2,()),()),())) (fun y4 =>
    some ((((y4.2.1.1.2.2.2.1.length:Int)==y4.2.1.1.2.1),()),())) (fun y4 =>
    some ((y4.1.1.1,()),()))
theorem yXZ (x:InD yfz):zjH ⟨yr5,51,yDz⟩ Tryz.f136.results.toList ymo yfz ymP x=yoF x.1:=by kernel_rfl
theorem yTY:ConOk Tryz.prog 136 ⟨yfz,ymP,fun x=>yoF x.1⟩:=zkh (yPa) Tryz.func136 (by kernel_rfl) (by kernel_rfl) Tryz.ntmps136.symm (by decide) (fun x r h=>(yXZ x).trans h)
def ym5 (a0:dA):Bool:=ymU a0
def yy0 (a0:dA):Bool:=yf a0.2.1
theorem yVW (a0:dA) (hk:zi9 yfz (a0,())) (hq:yy0 a0=true):yoF a0=(fun n=>some ((n,()),())) (ym5 a0):=by
  have hb:a0.2.2.1.length * 80≤2 ^ 47:=hk.1.2.2.1.1
  have hg:=yk.1 hq
  have h1:ys2 (yMR a0)=some (bif (List.range a0.2.2.1.length).any (yhv a0) then .inr (yMV false) else .inl (yMH a0)) :=
    zf4 (step:=ycT) (fun i=>yrt i a0) a0.2.2.1.length (yhv a0) _ _ (fun i hi=>by
      simp only [ycT,yrt,yrK,zjI (show (i:Int) < a0.2.2.1.length by omega),cond_true,wr (show -9223372036854775808≤(i:Int)+1 by omega) (by omega),Int.natCast_add,Int.natCast_one,Int.toNat_natCast,zkO hi,zkV,yam,yhv,yb5,wr (show -9223372036854775808≤6+a0.2.1.2 by omega) (by omega),ye]
      cases yp (nth a0.2.2.1 i ([],[],false,[]))<;>cases (((nth a0.2.2.1 i ([],[],false,[])).1.length:Int) !=6+a0.2.1.2)<;>cases (nth a0.2.2.1 i ([],[],false,[])).2.2.1<;>cases ((i:Int) !=a0.2.2.2.1)<;>cases a0.2.2.2.2.2.2.2.2.2.2.2<;>rfl) (by simp only [ycT,yrt,yrK,zkm (Int.le_refl _),cond_false]) _ (by show _ < 18446744073709551616; omega)
  unfold yoF ym5 ymU
  rw [h1]
  cases (List.range a0.2.2.1.length).any (yhv a0)<;>rfl
def ysK (a0:dA):Option (ResD ymP×MutD yfz):=bif yy0 a0 then (fun n=>some ((n,()),())) (ym5 a0) else none
theorem yWW (a0:dA) (h:yy0 a0=true):ysK a0=(fun n=>some ((n,()),())) (ym5 a0):=by unfold ysK; rw [h]; rfl
def yEn:Con:=⟨yfz,ymP,fun x=>ysK x.1⟩
theorem yWO:ConOk Tryz.prog 136 yEn:=(yTY).mono (fun x r hk h=>zkW h (fun hq=>yVW x.1 hk hq))
end
section
def ykq:Code:=(Tryz.f137.body).getD .skip
def yqe:Env:=zki TT [(135,yq),(225,yhu)] []
theorem yMu:FrOk Tryz.prog ⟨yqe,57,fun _=>none⟩ ykq:=zkp yc yd ⟨yz,yos,trivial⟩
def yBg:Nat→Option Seg:=fun _=>none
def ybG:Shape:=⟨[(1,false,[.ptr 0 0]),(3,false,[.int .i64])],[(0,[.int .i64,.int .i64,.int .i64,.br tM,.int .i64,.int .i64,.int .i64,.int .i64,.int .i64,.br tW,.int .i64,.bool,.bool])],[]⟩
def yf4:Shape:=⟨[(1,false,[.ptr 0 0]),(3,false,[.ci .i64 0])],[(0,[.int .i64,.int .i64,.int .i64,.br tM,.int .i64,.int .i64,.int .i64,.int .i64,.int .i64,.br tW,.int .i64,.bool,.bool])],[]⟩
def yfT:Shape:=⟨[],[],[]⟩
def yf7:Shape:=⟨[(2,false,[.bool])],[],[]⟩
abbrev ypK (v0:Int) (v1:dA):(ybG).X:=((((),()),(v0,()),()),((v1.1,v1.2.1.1,v1.2.1.2,v1.2.2.1,v1.2.2.2.1,v1.2.2.2.2.1,v1.2.2.2.2.2.1,v1.2.2.2.2.2.2.1,v1.2.2.2.2.2.2.2.1,v1.2.2.2.2.2.2.2.2.1,v1.2.2.2.2.2.2.2.2.2.1,v1.2.2.2.2.2.2.2.2.2.2.1,v1.2.2.2.2.2.2.2.2.2.2.2,()),()),())
abbrev yKS (v0:dA):(yf4).X:=((((),()),((),()),()),((v0.1,v0.2.1.1,v0.2.1.2,v0.2.2.1,v0.2.2.2.1,v0.2.2.2.2.1,v0.2.2.2.2.2.1,v0.2.2.2.2.2.2.1,v0.2.2.2.2.2.2.2.1,v0.2.2.2.2.2.2.2.2.1,v0.2.2.2.2.2.2.2.2.2.1,v0.2.2.2.2.2.2.2.2.2.2.1,v0.2.2.2.2.2.2.2.2.2.2.2,()),()),())
abbrev yKH  :(yfT).X:=((),(),())
abbrev yKV (v0:Bool):(yf7).X:=(((v0,()),()),(),())
def yp4 (v0:Int) (v1:Int) (v2:Int) (v3:Int) (v4:List dM) (v5:Int) (v6:Int) (v7:Int) (v8:Int) (v9:Int) (v10:List dW) (v11:Int) (v12:Bool) (v13:Bool):Option ((ybG).X ⊕ ((yfT).X ⊕ (yf7).X)) :=
  bif (ltb v0 (v10.length:Int)) then
    bif (inb v0 v10.length) then
      let r3:=ya ((nth v10 v0 (0,[])).1) 0 (IntKind.i64.wrap (v3 - 1))
      bif (!(!r3)) then
        bif (!((((nth v10 v0 (0,[])).2).length:Int) !=(IntKind.i64.wrap (v2 - 1)))) then
          let r4:=yQ ((nth v10 v0 (0,[])).2)
          bif (!(!r4)) then
            bif (ltb 0 v0) then
              bif (inb (IntKind.i64.wrap (v0 - 1)) v10.length) then
                bif (leb ((nth v10 v0 (0,[])).1) ((nth v10 (IntKind.i64.wrap (v0 - 1)) (0,[])).1)) then
                  some (.inr (.inr (((false,()),()),(),())))
                else
                  some (.inl ((((),()),((IntKind.i64.wrap (v0+1)),()),()),((v1,v2,v3,v4,v5,v6,v7,v8,v9,v10,v11,v12,v13,()),()),()))
              else none
            else
              some (.inl ((((),()),((IntKind.i64.wrap (v0+1)),()),()),((v1,v2,v3,v4,v5,v6,v7,v8,v9,v10,v11,v12,v13,()),()),()))
          else
            some (.inr (.inr (((false,()),()),(),())))
        else
          some (.inr (.inr (((false,()),()),(),())))
      else
        some (.inr (.inr (((false,()),()),(),())))
    else none
  else
    some (.inr (.inl ((),(),())))
def ybW (x:(ybG).X):=yp4 x.1.2.1.1 x.2.1.1.1 x.2.1.1.2.1 x.2.1.1.2.2.1 x.2.1.1.2.2.2.1 x.2.1.1.2.2.2.2.1 x.2.1.1.2.2.2.2.2.1 x.2.1.1.2.2.2.2.2.2.1 x.2.1.1.2.2.2.2.2.2.2.1 x.2.1.1.2.2.2.2.2.2.2.2.1 x.2.1.1.2.2.2.2.2.2.2.2.2.1 x.2.1.1.2.2.2.2.2.2.2.2.2.2.1 x.2.1.1.2.2.2.2.2.2.2.2.2.2.2.1 x.2.1.1.2.2.2.2.2.2.2.2.2.2.2.2.1
def yx7 (x:(yf4).X):(ybG).X:=((((),()),(0,()),()),((x.2.1.1.1,x.2.1.1.2.1,x.2.1.1.2.2.1,x.2.1.1.2.2.2.1,x.2.1.1.2.2.2.2.1,x.2.1.1.2.2.2.2.2.1,x.2.1.1.2.2.2.2.2.2.1,x.2.1.1.2.2.2.2.2.2.2.1,x.2.1.1.2.2.2.2.2.2.2.2.1,x.2.1.1.2.2.2.2.2.2.2.2.2.1,x.2.1.1.2.2.2.2.2.2.2.2.2.2.1,x.2.1.1.2.2.2.2.2.2.2.2.2.2.2.1,x.2.1.1.2.2.2.2.2.2.2.2.2.2.2.2.1,()),()),())
def yzF:Code:=(zdI ykq 64 52).getD .skip
theorem yLW:zdI ykq 64 13=some (.block 0 (.loop yzF)):=by kernel_rfl
theorem yND (x:(ybG).X):zg7 ⟨yqe,57,yBg⟩ 0 yzF 52 ybG yfT yf7 x=ybW x:=by kernel_rfl
def yym (x:(yf4).X):Nat:=(fun (u0:Int) (u1:Int) (u2:Int) (u3:List dM) (u4:Int) (u5:Int) (u6:Int) (u7:Int) (u8:Int) (u9:List dW) (u10:Int) (u11:Bool) (u12:Bool)=>18446744073709551616) x.2.1.1.1 x.2.1.1.2.1 x.2.1.1.2.2.1 x.2.1.1.2.2.2.1 x.2.1.1.2.2.2.2.1 x.2.1.1.2.2.2.2.2.1 x.2.1.1.2.2.2.2.2.2.1 x.2.1.1.2.2.2.2.2.2.2.1 x.2.1.1.2.2.2.2.2.2.2.2.1 x.2.1.1.2.2.2.2.2.2.2.2.2.1 x.2.1.1.2.2.2.2.2.2.2.2.2.2.1 x.2.1.1.2.2.2.2.2.2.2.2.2.2.2.1 x.2.1.1.2.2.2.2.2.2.2.2.2.2.2.2.1
def yrc (x:(yf4).X):Option ((yfT).X ⊕ (yf7).X):=zr ybW (yym x) (yx7 x)
def yyM:Seg:=⟨yf4,yfT,yf7,yrc⟩
def yBh:Nat→Option Seg:=fun q=>bif Nat.beq q 13 then some yyM else yBg q
theorem yMv:FrOk Tryz.prog ⟨yqe,57,yBh⟩ ykq:=(yMu).loop (sg:=yyM) ybG yx7 (by decide) yLW ybW yym (by decide) (fun _=>rfl) (fun x r _ h=>h) yND
abbrev yeh:List Par:= [.rd tA]
abbrev ykZ:List OT:= [⟨false,tB,.fz⟩]
def ymc (a0:dA):Option (ResD ykZ×MutD yeh) :=
  zjw (yrc ((((),()),((),()),()),((a0.1,a0.2.1.1,a0.2.1.2,a0.2.2.1,a0.2.2.2.1,a0.2.2.2.2.1,a0.2.2.2.2.2.1,a0.2.2.2.2.2.2.1,a0.2.2.2.2.2.2.2.1,a0.2.2.2.2.2.2.2.2.1,a0.2.2.2.2.2.2.2.2.2.1,a0.2.2.2.2.2.2.2.2.2.2.1,a0.2.2.2.2.2.2.2.2.2.2.2,()),()),())) (fun y4 =>
    some ((true,()),())) (fun y4 =>
    some ((y4.1.1.1,()),()))
theorem yVm (x:InD yeh):zjH ⟨yqe,57,yBh⟩ Tryz.f137.results.toList ykq yeh ykZ x=ymc x.1:=by kernel_rfl
theorem yQw:ConOk Tryz.prog 137 ⟨yeh,ykZ,fun x=>ymc x.1⟩:=zkh (yMv) Tryz.func137 (by kernel_rfl) (by kernel_rfl) Tryz.ntmps137.symm (by decide) (fun x r h=>(yVm x).trans h)
def yli (a0:dA):Bool:=yaY a0.2.1 a0.2.2.2.2.2.2.2.2.1
def yxb (a0:dA):Bool:=yf a0.2.1
theorem yy5 (l:List Int):yQ l=l.all isW:=by
  unfold yQ
  rw [show yaj=isW from funext fun x=>by unfold yaj; rw [ydj]; rfl]
theorem yTq (a0:dA) (hk:zi9 yeh (a0,())) (hq:yxb a0=true):ymc a0=(fun n=>some ((n,()),())) (yli a0):=by
  have hb:a0.2.2.2.2.2.2.2.2.1.length * 32≤2 ^ 47:=hk.1.2.2.2.2.2.2.2.2.1.1
  have hg:=yk.1 hq
  have h1:yrc (yKS a0)=some (bif (List.range a0.2.2.2.2.2.2.2.2.1.length).any (yh7 a0.2.1 a0.2.2.2.2.2.2.2.2.1) then .inr (yKV false) else .inl yKH) :=
    zf4 (step:=ybW) (fun i=>ypK i a0) a0.2.2.2.2.2.2.2.2.1.length (yh7 a0.2.1 a0.2.2.2.2.2.2.2.2.1) _ _ (fun i hi=>by
      simp only [ybW,ypK,yp4,zjI (show (i:Int) < a0.2.2.2.2.2.2.2.2.1.length by omega),cond_true,wr (show -9223372036854775808≤(i:Int)+1 by omega) (by omega),Int.natCast_add,Int.natCast_one,Int.toNat_natCast,zkO hi,ydj,yy5,wr (show -9223372036854775808≤a0.2.1.2 - 1 by omega) (by omega),wr (show -9223372036854775808≤a0.2.1.1 - 1 by omega) (by omega),yh7]
      rcases Nat.eq_zero_or_pos i with rfl | h0
      · cases (leb 0 (nth a0.2.2.2.2.2.2.2.2.1 ((0:Nat):Int) (0,[])).1&&leb (nth a0.2.2.2.2.2.2.2.2.1 ((0:Nat):Int) (0,[])).1 (a0.2.1.2 - 1))<;>cases (((nth a0.2.2.2.2.2.2.2.2.1 ((0:Nat):Int) (0,[])).2.length:Int) !=a0.2.1.1 - 1)<;>cases ((nth a0.2.2.2.2.2.2.2.2.1 ((0:Nat):Int) (0,[])).2.all isW)<;>rfl
      · rw [show IntKind.i64.wrap ((i:Int) - 1)=((i - 1:Nat):Int) by rw [wr (by omega) (by omega)]; omega,zkO (show i - 1 < a0.2.2.2.2.2.2.2.2.1.length by omega),zjI (show (0:Int) < i by omega),decide_eq_true h0]
        cases (leb 0 (nth a0.2.2.2.2.2.2.2.2.1 (i:Int) (0,[])).1&&leb (nth a0.2.2.2.2.2.2.2.2.1 (i:Int) (0,[])).1 (a0.2.1.2 - 1))<;>cases (((nth a0.2.2.2.2.2.2.2.2.1 (i:Int) (0,[])).2.length:Int) !=a0.2.1.1 - 1)<;>cases ((nth a0.2.2.2.2.2.2.2.2.1 (i:Int) (0,[])).2.all isW)<;>cases leb (nth a0.2.2.2.2.2.2.2.2.1 (i:Int) (0,[])).1 (nth a0.2.2.2.2.2.2.2.2.1 ((i - 1:Nat):Int) (0,[])).1<;>rfl) (by simp only [ybW,ypK,yp4,zkm (Int.le_refl _),cond_false]) _ (by show _ < 18446744073709551616; omega)
  unfold ymc yli yaY
  rw [h1]
  cases (List.range a0.2.2.2.2.2.2.2.2.1.length).any (yh7 a0.2.1 a0.2.2.2.2.2.2.2.2.1)<;>rfl
def yqE (a0:dA):Option (ResD ykZ×MutD yeh):=bif yxb a0 then (fun n=>some ((n,()),())) (yli a0) else none
theorem yUj (a0:dA) (h:yxb a0=true):yqE a0=(fun n=>some ((n,()),())) (yli a0):=by unfold yqE; rw [h]; rfl
def yBP:Con:=⟨yeh,ykZ,fun x=>yqE x.1⟩
theorem yUg:ConOk Tryz.prog 137 yBP:=(yQw).mono (fun x r hk h=>zkW h (fun hq=>yTq x.1 hk hq))
end
section
def yI8:Code:=(Tryz.f46.body).getD .skip
def yJx:Env:=zki TT [(134,ygy),(135,yq),(136,yEn),(137,yBP)] []
theorem ySs:FrOk Tryz.prog ⟨yJx,78,fun _=>none⟩ yI8:=zkp yc yd ⟨ym7,yz,yWO,yUg,trivial⟩
def yUN:Nat→Option Seg:=fun _=>none
abbrev ykG:List Par:= [.rd tA]
abbrev yuK:List OT:= [⟨false,tB,.fz⟩]
def yqQ (a0:dA):Option (ResD yuK×MutD ykG) :=
  let r1:=yf a0.2.1
  bif (!(!r1)) then
    let r2:=ya a0.1 1 60000
    bif (!(!r2)) then
      bnd (ysK a0) fun r3 =>
      bif (!(!r3.1.1)) then
        bnd (yqE a0) fun r4 =>
        bif (!r4.1.1) then
          some ((false,()),())
        else
          let r5:=ya a0.2.2.2.1 (-1) (IntKind.i64.wrap (a0.2.1.1 - 1))
          bif (!(!r5)) then
            let r6:=ya a0.2.2.2.2.1 0 a0.2.1.2
            bif (!(!r6)) then
              bif (a0.2.2.2.1==(-1)) then
                bif (a0.2.2.2.2.1 !=0) then
                  some ((false,()),())
                else
                  let r7:=ya a0.2.2.2.2.2.2.1 0 60000
                  bif r7 then
                    let r8:=ya a0.2.2.2.2.2.1 a0.2.2.2.2.2.2.1 60000
                    bif r8 then
                      bif (leb a0.2.2.2.2.2.1 (IntKind.i64.wrap (a0.2.2.2.2.2.2.1+4))) then
                        let r9:=ya a0.2.2.2.2.2.2.2.1 0 60000
                        bif r9 then
                          let r10:=ya a0.2.2.2.2.2.2.2.2.2.1 (-1) 1000
                          some ((r10,()),())
                        else
                          some ((false,()),())
                      else
                        some ((false,()),())
                    else
                      some ((false,()),())
                  else
                    some ((false,()),())
              else
                let r11:=ya a0.2.2.2.2.2.2.1 0 60000
                bif r11 then
                  let r12:=ya a0.2.2.2.2.2.1 a0.2.2.2.2.2.2.1 60000
                  bif r12 then
                    bif (leb a0.2.2.2.2.2.1 (IntKind.i64.wrap (a0.2.2.2.2.2.2.1+4))) then
                      let r13:=ya a0.2.2.2.2.2.2.2.1 0 60000
                      bif r13 then
                        let r14:=ya a0.2.2.2.2.2.2.2.2.2.1 (-1) 1000
                        some ((r14,()),())
                      else
                        some ((false,()),())
                    else
                      some ((false,()),())
                  else
                    some ((false,()),())
                else
                  some ((false,()),())
            else
              some ((false,()),())
          else
            some ((false,()),())
      else
        some ((false,()),())
    else
      some ((false,()),())
  else
    some ((false,()),())
theorem yZc (x:InD ykG):zjH ⟨yJx,78,yUN⟩ Tryz.f46.results.toList yI8 ykG yuK x=yqQ x.1:=by kernel_rfl
theorem yWd:ConOk Tryz.prog 46 ⟨ykG,yuK,fun x=>yqQ x.1⟩:=zkh (ySs) Tryz.func46 (by kernel_rfl) (by kernel_rfl) Tryz.ntmps46.symm (by decide) (fun x r h=>(yZc x).trans h)
def yW (a0:dA):Bool:=ym a0
theorem yYl (a0:dA) (hk:zi9 ykG (a0,())):yqQ a0=(fun n=>some ((n,()),())) (yW a0):=by
  unfold yqQ yW ym
  simp only [ydj]
  cases hg:yf a0.2.1
  · rfl
  have hg2:=yk.1 hg
  rw [yWW a0 hg,yUj a0 hg,wr (show -9223372036854775808≤a0.2.1.1 - 1 by omega) (by omega)]
  simp only [zky,ym5,yli,Bool.not_not,cond_true]
  cases (leb 1 a0.1&&leb a0.1 60000)
  · rfl
  cases ymU a0
  · rfl
  cases yaY a0.2.1 a0.2.2.2.2.2.2.2.2.1
  · rfl
  cases (leb (-1) a0.2.2.2.1&&leb a0.2.2.2.1 (a0.2.1.1 - 1))
  · rfl
  cases (leb 0 a0.2.2.2.2.1&&leb a0.2.2.2.2.1 a0.2.1.2)
  · rfl
  have ht:(leb 0 a0.2.2.2.2.2.2.1&&leb a0.2.2.2.2.2.2.1 60000)=true→IntKind.i64.wrap (a0.2.2.2.2.2.2.1+4)=a0.2.2.2.2.2.2.1+4:=fun h=>by
    rw [Bool.and_eq_true,zjQ,zjQ]at h
    exact wr (by omega) (by omega)
  cases hT:(leb 0 a0.2.2.2.2.2.2.1&&leb a0.2.2.2.2.2.2.1 60000)
  · cases (a0.2.2.2.1== -1)<;>cases (a0.2.2.2.2.1 !=0)<;>rfl
  rw [ht hT]
  cases (leb a0.2.2.2.2.2.2.1 a0.2.2.2.2.2.1&&leb a0.2.2.2.2.2.1 60000)
  · cases (a0.2.2.2.1== -1)<;>cases (a0.2.2.2.2.1 !=0)<;>rfl
  cases leb a0.2.2.2.2.2.1 (a0.2.2.2.2.2.2.1+4)
  · cases (a0.2.2.2.1== -1)<;>cases (a0.2.2.2.2.1 !=0)<;>rfl
  cases (leb 0 a0.2.2.2.2.2.2.2.1&&leb a0.2.2.2.2.2.2.2.1 60000)<;>cases (a0.2.2.2.1== -1)<;>cases (a0.2.2.2.2.1 !=0)<;>rfl
def yk7:Con:=⟨ykG,yuK,fun x=>(fun n=>some ((n,()),())) (yW x.1)⟩
theorem ysN:ConOk Tryz.prog 46 yk7:=(yWd).mono (fun x r hk h=>(yYl x.1 hk).trans h)
end
end
end Go.Tf
