/- Functions of the program, and what they come to. -/
import Derived.Test.YtgmadfpnljibhaaGreatStripesF1
namespace Go.Tf
noncomputable section
open Go.Proofs
set_option synthInstance.maxHeartbeats 400000
set_option synthInstance.maxSize 10000
set_option linter.unusedVariables false
set_option linter.unusedSimpArgs false
set_option maxRecDepth 100000
section
def ykv:Code:=(Tryz.f225.body).getD .skip
def yqk:Env:=zki TT [(181,yEm)] []
theorem yMG:FrOk Tryz.prog ⟨yqk,16,fun _=>none⟩ ykv:=zkp yb yd ⟨yWU,trivial⟩
def yA8:Nat→Option Seg:=fun _=>none
def ydz:Shape:=⟨[(0,false,[.br tI]),(3,false,[.int .i64])],[],[]⟩
def yjO:Shape:=⟨[(0,false,[.br tI]),(3,false,[.ci .i64 0])],[],[]⟩
def yjM:Shape:=⟨[],[],[]⟩
def yj1:Shape:=⟨[(2,false,[.bool])],[],[]⟩
def yqa (v0:List Int) (v1:Int):Option ((ydz).X ⊕ ((yjM).X ⊕ (yj1).X)) :=
 bif (ltb v1 (v0.length:Int)) then
 bif (inb v1 v0.length) then
 let r2:=yak (nth v0 v1 0)
 bif (!r2) then
 some (.inr (.inr (((false,()),()),(),())))
 else
 some (.inl (((v0,()),((IntKind.i64.wrap (v1+1)),()),()),(),()))
 else none
 else
 some (.inr (.inl ((),(),())))
def yb1 (x:(ydz).X):=yqa x.1.1.1 x.1.2.1.1
def yx5 (x:(yjO).X):(ydz).X:=(((x.1.1.1,()),(0,()),()),(),())
def yzJ:Code:=(zdI ykv 64 52).getD .skip
theorem yL6:zdI ykv 64 13=some (.block 0 (.loop yzJ)):=by kernel_rfl
theorem yNN (x:(ydz).X):zg7 ⟨yqk,16,yA8⟩ 0 yzJ 52 ydz yjM yj1 x=yb1 x:=by kernel_rfl
def yym (x:(yjO).X):Nat:=18446744073709551616
def yrh (x:(yjO).X):Option ((yjM).X ⊕ (yj1).X):=zr yb1 (yym x) (yx5 x)
def yyM:Seg:=⟨yjO,yjM,yj1,yrh⟩
def yA9:Nat→Option Seg:=fun q=>bif Nat.beq q 13 then some yyM else yA8 q
theorem yMH:FrOk Tryz.prog ⟨yqk,16,yA9⟩ ykv:=(yMG).loop (sg:=yyM) ydz yx5 (by decide) yL6 yb1 yym (by decide) (fun _=>rfl) (fun x r _ h=>h) yNN
abbrev ygI:List Par:= [.rd tL]
abbrev yqC:List OT:= [⟨false,tB,.fz⟩]
def ymq (a0:List Int):Option (ResD yqC×MutD ygI) :=
 zjw (yrh (((a0,()),((),()),()),(),())) (fun y2 =>
 some ((true,()),())) (fun y2 =>
 some ((y2.1.1.1,()),()))
theorem yVw (x:InD ygI):zjH ⟨yqk,16,yA9⟩ Tryz.f225.results.toList ykv ygI yqC x=ymq x.1:=by kernel_rfl
theorem yQI:ConOk Tryz.prog 225 ⟨ygI,yqC,fun x=>ymq x.1⟩:=zkh (yMH) Tryz.func225 (by kernel_rfl) (by kernel_rfl) Tryz.ntmps225.symm (by decide) (fun x r h=>(yVw x).trans h)
def yS (a0:List Int):Bool:=a0.all yak
theorem yTz (a0:List Int) (hk:zi9 ygI (a0,())):ymq a0=(fun n=>some ((n,()),())) (yS a0):=by
 have hb:a0.length * 8≤2 ^ 47:=hk.1.1
 have hl:yrh (((a0,()),((),()),()),(),())=some (bif a0.all yak then .inl ((),(),()) else .inr (((false,()),()),(),())) :=
  zjS (step:=yb1) a0 0 (fun i=>(((a0,()),((i:Int),()),()),(),())) yak _ _ (fun i hi=>by
   simp only [yb1,yqa,zkO hi,zjW,zjI (show (i:Int) < a0.length by omega),cond_true,wr (show -9223372036854775808≤(i:Int)+1 by omega) (by omega),Int.natCast_add,Int.natCast_one]
   cases yak (a0.getD i 0)<;>rfl) (by simp only [yb1,yqa,zkm (Int.le_refl _),cond_false]) _ (by show _ < 18446744073709551616; omega)
 unfold ymq yS
 rw [hl]
 cases a0.all yak<;>rfl
def yhv:Con:=⟨ygI,yqC,fun x=>(fun n=>some ((n,()),())) (yS x.1)⟩
theorem yoG:ConOk Tryz.prog 225 yhv:=(yQI).mono (fun x r hk h=>(yTz x.1 hk).trans h)
end
section
def yJu:Code:=(Tryz.f269.body).getD .skip
def yJI:Env:=zki TT [(225,yhv)] []
theorem ySM:FrOk Tryz.prog ⟨yJI,10,fun _=>none⟩ yJu:=zkp yb yd ⟨yoG,trivial⟩
def yU4:Nat→Option Seg:=fun _=>none
abbrev ypq:List Par:= [.rd tL]
abbrev yu0:List OT:= [⟨false,tB,.fz⟩]
def yxf (a0:List Int):Option (ResD yu0×MutD ypq) :=
 bif (leb (a0.length:Int) 12) then
 let r1:=yS a0
 some ((r1,()),())
 else
 some ((false,()),())
theorem yZA (x:InD ypq):zjH ⟨yJI,10,yU4⟩ Tryz.f269.results.toList yJu ypq yu0 x=yxf x.1:=by kernel_rfl
theorem yWw:ConOk Tryz.prog 269 ⟨ypq,yu0,fun x=>yxf x.1⟩:=zkh (ySM) Tryz.func269 (by kernel_rfl) (by kernel_rfl) Tryz.ntmps269.symm (by decide) (fun x r h=>(yZA x).trans h)
def yhz (a0:List Int):Bool :=
 bif (leb (a0.length:Int) 12) then
 let r1:=yS a0
 r1
 else
 false
def ywW:Con:=⟨ypq,yu0,fun x=>(fun n=>some ((n,()),())) (yhz x.1)⟩
theorem yYH (a0:List Int):yxf a0=(fun n=>some ((n,()),())) (yhz a0):=zkS (p:=fun (n:Bool)=>((n,()),())) (zkx (p:=fun (n:Bool)=>((n,()),())) rfl rfl)
theorem yIx:ConOk Tryz.prog 269 ywW:=(yWw).mono (fun x r _ h=>(yYH x.1).trans h)
theorem yE6:yhz=yab:=funext fun s=>by
 unfold yhz yab yS
 rw [show yak=isW from funext fun x=>by unfold yak; rw [ycd]; rfl]
 cases leb (s.length:Int) 12<;>rfl
end
section
def ya7:Code:=(Tryz.f224.body).getD .skip
def yeO:Env:=zki TT [(135,yx),(269,ywW)] []
theorem ySH:FrOk Tryz.prog ⟨yeO,91,fun _=>none⟩ ya7:=zkp yb yd ⟨yD,yIx,trivial⟩
def yFw:Nat→Option Seg:=fun _=>none
def ydc:Shape:=⟨[(1,false,[.ptr 0 0]),(3,false,[.int .i64]),(4,false,[.int .i64])],[(0,[.br tL,.br tW,.bool,.br tI])],[]⟩
def yiK:Shape:=⟨[(1,false,[.ptr 0 0]),(3,false,[.int .i64]),(4,false,[.ci .i64 0])],[(0,[.br tL,.br tW,.bool,.br tI])],[]⟩
def yiv:Shape:=⟨[(1,false,[.ptr 0 0]),(3,false,[.int .i64])],[(0,[.br tL,.br tW,.bool,.br tI])],[]⟩
def yjb:Shape:=⟨[(2,false,[.bool])],[],[]⟩
abbrev ytm (v0 v1:Int) (v2:dM):(ydc).X:=((((),()),(v0,()),(v1,()),()),((v2.1,v2.2.1,v2.2.2.1,v2.2.2.2,()),()),())
abbrev yPQ (v0:Int) (v1:dM):(yiK).X:=((((),()),(v0,()),((),()),()),((v1.1,v1.2.1,v1.2.2.1,v1.2.2.2,()),()),())
abbrev yPG (v0:Int) (v1:dM):(yiv).X:=((((),()),(v0,()),()),((v1.1,v1.2.1,v1.2.2.1,v1.2.2.2,()),()),())
abbrev yP3 (v0:Bool):(yjb).X:=(((v0,()),()),(),())
def ytK (v0 v1:Int) (v2:List (List Int)) (v3:List dW) (v4:Bool) (v5:List Int):Option ((ydc).X ⊕ ((yiv).X ⊕ (yjb).X)) :=
 bif (ltb v1 v0) then
 bif (inb v1 v2.length) then
 let r2:=yhz (nth v2 v1 [])
 bif (!r2) then
 some (.inr (.inr (((false,()),()),(),())))
 else
 some (.inl ((((),()),(v0,()),((IntKind.i64.wrap (v1+1)),()),()),((v2,v3,v4,v5,()),()),()))
 else none
 else
 some (.inr (.inl ((((),()),(v0,()),()),((v2,v3,v4,v5,()),()),())))
def ydK (x:(ydc).X):=ytK x.1.2.1.1 x.1.2.2.1.1 x.2.1.1.1 x.2.1.1.2.1 x.2.1.1.2.2.1 x.2.1.1.2.2.2.1
def yBX (x:(yiK).X):(ydc).X:=((((),()),(x.1.2.1.1,()),(0,()),()),((x.2.1.1.1,x.2.1.1.2.1,x.2.1.1.2.2.1,x.2.1.1.2.2.2.1,()),()),())
def yD0:Code:=(zdI ya7 64 116).getD .skip
theorem yRQ:zdI ya7 64 29=some (.block 0 (.loop yD0)):=by kernel_rfl
theorem yUI (x:(ydc).X):zg7 ⟨yeO,91,yFw⟩ 0 yD0 116 ydc yiv yjb x=ydK x:=by kernel_rfl
def yCd (x:(yiK).X):Nat:=18446744073709551616
def yuD (x:(yiK).X):Option ((yiv).X ⊕ (yjb).X):=zr ydK (yCd x) (yBX x)
def yCQ:Seg:=⟨yiK,yiv,yjb,yuD⟩
def ywO:Nat→Option Seg:=fun q=>bif Nat.beq q 29 then some yCQ else yFw q
theorem ySI:FrOk Tryz.prog ⟨yeO,91,ywO⟩ ya7:=(ySH).loop (sg:=yCQ) ydc yBX (by decide) yRQ ydK yCd (by decide) (fun _=>rfl) (fun x r _ h=>h) yUI
def ydd:Shape:=⟨[(1,false,[.ptr 0 0]),(3,false,[.int .i64]),(5,false,[.int .i64])],[(0,[.br tL,.br tW,.bool,.br tI])],[]⟩
def yiL:Shape:=⟨[(1,false,[.ptr 0 0]),(3,false,[.int .i64]),(5,false,[.ci .i64 0])],[(0,[.br tL,.br tW,.bool,.br tI])],[]⟩
def yiw:Shape:=⟨[(1,false,[.ptr 0 0]),(3,false,[.int .i64])],[(0,[.br tL,.br tW,.bool,.br tI])],[]⟩
def yjc:Shape:=⟨[(2,false,[.bool])],[],[]⟩
abbrev ytn (v0 v1:Int) (v2:dM):(ydd).X:=((((),()),(v0,()),(v1,()),()),((v2.1,v2.2.1,v2.2.2.1,v2.2.2.2,()),()),())
abbrev yPR (v0:Int) (v1:dM):(yiL).X:=((((),()),(v0,()),((),()),()),((v1.1,v1.2.1,v1.2.2.1,v1.2.2.2,()),()),())
abbrev yPH (v0:Int) (v1:dM):(yiw).X:=((((),()),(v0,()),()),((v1.1,v1.2.1,v1.2.2.1,v1.2.2.2,()),()),())
abbrev yP4 (v0:Bool):(yjc).X:=(((v0,()),()),(),())
def ytL (v0 v1:Int) (v2:List (List Int)) (v3:List dW) (v4:Bool) (v5:List Int):Option ((ydd).X ⊕ ((yiw).X ⊕ (yjc).X)) :=
 bif (ltb v1 (v3.length:Int)) then
 bif (inb v1 v3.length) then
 let r6:=ya ((nth v3 v1 (0,[])).1) 0 (IntKind.i64.wrap (v0 - 1))
 bif (!(!r6)) then
 bif (inb v1 v3.length) then
 let r7:=yhz ((nth v3 v1 (0,[])).2)
 bif (!r7) then
 some (.inr (.inr (((false,()),()),(),())))
 else
 some (.inl ((((),()),(v0,()),((IntKind.i64.wrap (v1+1)),()),()),((v2,v3,v4,v5,()),()),()))
 else none
 else
 some (.inr (.inr (((false,()),()),(),())))
 else none
 else
 some (.inr (.inl ((((),()),(v0,()),()),((v2,v3,v4,v5,()),()),())))
def ydL (x:(ydd).X):=ytL x.1.2.1.1 x.1.2.2.1.1 x.2.1.1.1 x.2.1.1.2.1 x.2.1.1.2.2.1 x.2.1.1.2.2.2.1
def yBY (x:(yiL).X):(ydd).X:=((((),()),(x.1.2.1.1,()),(0,()),()),((x.2.1.1.1,x.2.1.1.2.1,x.2.1.1.2.2.1,x.2.1.1.2.2.2.1,()),()),())
def yD1:Code:=(zdI ya7 64 244).getD .skip
theorem yRR:zdI ya7 64 61=some (.block 2 (.loop yD1)):=by kernel_rfl
theorem yUJ (x:(ydd).X):zg7 ⟨yeO,91,ywO⟩ 2 yD1 244 ydd yiw yjc x=ydL x:=by kernel_rfl
def yCe (x:(yiL).X):Nat:=18446744073709551616
def yuE (x:(yiL).X):Option ((yiw).X ⊕ (yjc).X):=zr ydL (yCe x) (yBY x)
def yCR:Seg:=⟨yiL,yiw,yjc,yuE⟩
def ywP:Nat→Option Seg:=fun q=>bif Nat.beq q 61 then some yCR else ywO q
theorem ySJ:FrOk Tryz.prog ⟨yeO,91,ywP⟩ ya7:=(ySI).loop (sg:=yCR) ydd yBY (by decide) yRR ydL yCe (by decide) (fun _=>rfl) (fun x r _ h=>h) yUJ
def ycl:Shape:=⟨[(1,false,[.ptr 0 0]),(3,false,[.int .i64]),(6,false,[.int .i64])],[(0,[.br tL,.br tW,.bool,.br tI])],[]⟩
def yhh:Shape:=⟨[(1,false,[.ptr 0 0]),(3,false,[.int .i64]),(6,false,[.ci .i64 0])],[(0,[.br tL,.br tW,.bool,.br tI])],[]⟩
def yg6:Shape:=⟨[(1,false,[.ptr 0 0]),(3,false,[.int .i64])],[(0,[.br tL,.br tW,.bool,.br tI])],[]⟩
def yht:Shape:=⟨[(2,false,[.bool])],[],[]⟩
abbrev yrr (v0 v1:Int) (v2:dM):(ycl).X:=((((),()),(v0,()),(v1,()),()),((v2.1,v2.2.1,v2.2.2.1,v2.2.2.2,()),()),())
abbrev yMY (v0:Int) (v1:dM):(yhh).X:=((((),()),(v0,()),((),()),()),((v1.1,v1.2.1,v1.2.2.1,v1.2.2.2,()),()),())
abbrev yMR (v0:Int) (v1:dM):(yg6).X:=((((),()),(v0,()),()),((v1.1,v1.2.1,v1.2.2.1,v1.2.2.2,()),()),())
abbrev yM6 (v0:Bool):(yht).X:=(((v0,()),()),(),())
def yrH (v0 v1:Int) (v2:List (List Int)) (v3:List dW) (v4:Bool) (v5:List Int):Option ((ycl).X ⊕ ((yg6).X ⊕ (yht).X)) :=
 bif (ltb v1 (v5.length:Int)) then
 bif (inb v1 v5.length) then
 let r10:=ya (nth v5 v1 0) 0 (IntKind.i64.wrap (v0 - 1))
 bif (!(!r10)) then
 bif (ltb 0 v1) then
 bif (inb (IntKind.i64.wrap (v1 - 1)) v5.length) then
 bif (inb v1 v5.length) then
 bif (leb (nth v5 v1 0) (nth v5 (IntKind.i64.wrap (v1 - 1)) 0)) then
 some (.inr (.inr (((false,()),()),(),())))
 else
 some (.inl ((((),()),(v0,()),((IntKind.i64.wrap (v1+1)),()),()),((v2,v3,v4,v5,()),()),()))
 else none
 else none
 else
 some (.inl ((((),()),(v0,()),((IntKind.i64.wrap (v1+1)),()),()),((v2,v3,v4,v5,()),()),()))
 else
 some (.inr (.inr (((false,()),()),(),())))
 else none
 else
 some (.inr (.inl ((((),()),(v0,()),()),((v2,v3,v4,v5,()),()),())))
def ycS (x:(ycl).X):=yrH x.1.2.1.1 x.1.2.2.1.1 x.2.1.1.1 x.2.1.1.2.1 x.2.1.1.2.2.1 x.2.1.1.2.2.2.1
def yz2 (x:(yhh).X):(ycl).X:=((((),()),(x.1.2.1.1,()),(0,()),()),((x.2.1.1.1,x.2.1.1.2.1,x.2.1.1.2.2.1,x.2.1.1.2.2.2.1,()),()),())
def yBs:Code:=(zdI ya7 64 500).getD .skip
theorem yOq:zdI ya7 64 125=some (.block 4 (.loop yBs)):=by kernel_rfl
theorem yQ6 (x:(ycl).X):zg7 ⟨yeO,91,ywP⟩ 4 yBs 500 ycl yg6 yht x=ycS x:=by kernel_rfl
def yAd (x:(yhh).X):Nat:=18446744073709551616
def ys0 (x:(yhh).X):Option ((yg6).X ⊕ (yht).X):=zr ycS (yAd x) (yz2 x)
def yAu:Seg:=⟨yhh,yg6,yht,ys0⟩
def yFx:Nat→Option Seg:=fun q=>bif Nat.beq q 125 then some yAu else ywP q
theorem ySK:FrOk Tryz.prog ⟨yeO,91,yFx⟩ ya7:=(ySJ).loop (sg:=yAu) ycl yz2 (by decide) yOq ycS yAd (by decide) (fun _=>rfl) (fun x r _ h=>h) yQ6
abbrev ykO:List Par:= [.rd tM]
abbrev yuY:List OT:= [⟨false,tB,.fz⟩]
def yqY (a0:dM):Option (ResD yuY×MutD ykO) :=
 zjw (yuD ((((),()),((a0.1.length:Int),()),((),()),()),((a0.1,a0.2.1,a0.2.2.1,a0.2.2.2,()),()),())) (fun y2 =>
 zjw (yuE ((((),()),(y2.1.2.1.1,()),((),()),()),((y2.2.1.1.1,y2.2.1.1.2.1,y2.2.1.1.2.2.1,y2.2.1.1.2.2.2.1,()),()),())) (fun y7 =>
 zjw (ys0 ((((),()),(y7.1.2.1.1,()),((),()),()),((y7.2.1.1.1,y7.2.1.1.2.1,y7.2.1.1.2.2.1,y7.2.1.1.2.2.2.1,()),()),())) (fun y10 =>
 let r12:=ya y10.1.2.1.1 1 20
 bif r12 then
 some (((leb (y10.2.1.1.2.1.length:Int) 60),()),())
 else
 some ((false,()),())) (fun y10 =>
 some ((y10.1.1.1,()),()))) (fun y7 =>
 some ((y7.1.1.1,()),()))) (fun y2 =>
 some ((y2.1.1.1,()),()))
theorem yZy (x:InD ykO):zjH ⟨yeO,91,yFx⟩ Tryz.f224.results.toList ya7 ykO yuY x=yqY x.1:=by kernel_rfl
theorem yWu:ConOk Tryz.prog 224 ⟨ykO,yuY,fun x=>yqY x.1⟩:=zkh (ySK) Tryz.func224 (by kernel_rfl) (by kernel_rfl) Tryz.ntmps224.symm (by decide) (fun x r h=>(yZy x).trans h)
def yap (a0:dM):Bool:=yl a0
theorem yYF (a0:dM) (hk:zi9 ykO (a0,())):yqY a0=(fun n=>some ((n,()),())) (yap a0):=by
 have hb1:a0.1.length * 24≤2 ^ 47:=hk.1.1.1
 have hb2:a0.2.1.length * 32≤2 ^ 47:=hk.1.2.1.1
 have hb3:a0.2.2.2.length * 8≤2 ^ 47:=hk.1.2.2.2.1
 have h1:yuD (yPQ a0.1.length a0)=some (bif a0.1.all yab then .inl (yPG a0.1.length a0) else .inr (yP3 false)) :=
  zjS (step:=ydK) a0.1 [] (fun i=>ytm a0.1.length i a0) yab _ _ (fun i hi=>by
   simp only [ydK,ytm,ytK,zjI (show (i:Int) < a0.1.length by omega),cond_true,wr (show -9223372036854775808≤(i:Int)+1 by omega) (by omega),Int.natCast_add,Int.natCast_one,Int.toNat_natCast,zkO hi,zjW,yE6]
   cases yab (a0.1.getD i [])<;>rfl) (by simp only [ydK,ytm,ytK,zkm (Int.le_refl _),cond_false]) _ (by show _ < 18446744073709551616; omega)
 have h2:yuE (yPR a0.1.length a0)=some (bif a0.2.1.all (ytS a0.1.length) then .inl (yPH a0.1.length a0) else .inr (yP4 false)) :=
  zjS (step:=ydL) a0.2.1 (0,[]) (fun i=>ytn a0.1.length i a0) (ytS a0.1.length) _ _ (fun i hi=>by
   simp only [ydL,ytn,ytL,zjI (show (i:Int) < a0.2.1.length by omega),cond_true,wr (show -9223372036854775808≤(i:Int)+1 by omega) (by omega),Int.natCast_add,Int.natCast_one,Int.toNat_natCast,zkO hi,zjW,yE6,ypD (show a0.1.length≤1152921504606846976 by omega),ytS]
   cases inb (a0.2.1.getD i (0,[])).1 a0.1.length<;>cases yab (a0.2.1.getD i (0,[])).2<;>rfl) (by simp only [ydL,ytn,ytL,zkm (Int.le_refl _),cond_false]) _ (by show _ < 18446744073709551616; omega)
 have h3:ys0 (yMY a0.1.length a0)=some (bif (List.range a0.2.2.2.length).any (yDR a0.1.length a0.2.2.2) then .inr (yM6 false) else .inl (yMR a0.1.length a0)) :=
  zf4 (step:=ycS) (fun i=>yrr a0.1.length i a0) a0.2.2.2.length (yDR a0.1.length a0.2.2.2) _ _ (fun i hi=>by
   simp only [ycS,yrr,yrH,zjI (show (i:Int) < a0.2.2.2.length by omega),cond_true,wr (show -9223372036854775808≤(i:Int)+1 by omega) (by omega),Int.natCast_add,Int.natCast_one,Int.toNat_natCast,zkO hi,zjW,ypD (show a0.1.length≤1152921504606846976 by omega),yDR]
   rcases Nat.eq_zero_or_pos i with rfl | h0
   ·cases inb (a0.2.2.2.getD 0 0) a0.1.length<;>rfl
   ·rw [show IntKind.i64.wrap ((i:Int) - 1)=((i - 1:Nat):Int) by rw [wr (by omega) (by omega)]; omega,zkO (show i - 1 < a0.2.2.2.length by omega),zjW,zjI (show (0:Int) < i by omega),decide_eq_true h0]
    cases inb (a0.2.2.2.getD i 0) a0.1.length<;>cases leb (a0.2.2.2.getD i 0) (a0.2.2.2.getD (i - 1) 0)<;>rfl) (by simp only [ycS,yrr,yrH,zkm (Int.le_refl _),cond_false]) _ (by show _ < 18446744073709551616; omega)
 unfold yqY yap yl
 rw [h1]
 cases a0.1.all yab
 ·rfl
 simp only [cond_true,zkJ,h2]
 cases a0.2.1.all (ytS a0.1.length)
 ·rfl
 simp only [cond_true,zkJ,h3,yXg,ycd]
 cases yqE a0.1.length a0.2.2.2
 ·rfl
 simp only [Bool.not_true,cond_false,zkJ]
 cases leb 1 (a0.1.length:Int)<;>cases leb (a0.1.length:Int) 20<;>rfl
def ygK:Con:=⟨ykO,yuY,fun x=>(fun n=>some ((n,()),())) (yap x.1)⟩
theorem yno:ConOk Tryz.prog 224 ygK:=(yWu).mono (fun x r hk h=>(yYF x.1 hk).trans h)
end
section
def ymG:Code:=(Tryz.f136.body).getD .skip
def yr9:Env:=zki TT [(139,yoy),(224,ygK)] []
theorem yPl:FrOk Tryz.prog ⟨yr9,51,fun _=>none⟩ ymG:=zkp yb yd ⟨yw1,yno,trivial⟩
def yDx:Nat→Option Seg:=fun _=>none
def ycr:Shape:=⟨[(1,false,[.ptr 0 0]),(3,false,[.int .i64])],[(0,[.int .i64,.int .i64,.int .i64,.br tM,.int .i64,.int .i64,.int .i64,.int .i64,.int .i64,.br tW,.int .i64,.bool,.bool])],[]⟩
def yhn:Shape:=⟨[(1,false,[.ptr 0 0]),(3,false,[.ci .i64 0])],[(0,[.int .i64,.int .i64,.int .i64,.br tM,.int .i64,.int .i64,.int .i64,.int .i64,.int .i64,.br tW,.int .i64,.bool,.bool])],[]⟩
def yhc:Shape:=⟨[(1,false,[.ptr 0 0])],[(0,[.int .i64,.int .i64,.int .i64,.br tM,.int .i64,.int .i64,.int .i64,.int .i64,.int .i64,.br tW,.int .i64,.bool,.bool])],[]⟩
def yhu:Shape:=⟨[(2,false,[.bool])],[],[]⟩
abbrev yrw (v0:Int) (v1:dA):(ycr).X:=((((),()),(v0,()),()),((v1.1,v1.2.1.1,v1.2.1.2,v1.2.2.1,v1.2.2.2.1,v1.2.2.2.2.1,v1.2.2.2.2.2.1,v1.2.2.2.2.2.2.1,v1.2.2.2.2.2.2.2.1,v1.2.2.2.2.2.2.2.2.1,v1.2.2.2.2.2.2.2.2.2.1,v1.2.2.2.2.2.2.2.2.2.2.1,v1.2.2.2.2.2.2.2.2.2.2.2,()),()),())
abbrev yM3 (v0:dA):(yhn).X:=((((),()),((),()),()),((v0.1,v0.2.1.1,v0.2.1.2,v0.2.2.1,v0.2.2.2.1,v0.2.2.2.2.1,v0.2.2.2.2.2.1,v0.2.2.2.2.2.2.1,v0.2.2.2.2.2.2.2.1,v0.2.2.2.2.2.2.2.2.1,v0.2.2.2.2.2.2.2.2.2.1,v0.2.2.2.2.2.2.2.2.2.2.1,v0.2.2.2.2.2.2.2.2.2.2.2,()),()),())
abbrev yMU (v0:dA):(yhc).X:=((((),()),()),((v0.1,v0.2.1.1,v0.2.1.2,v0.2.2.1,v0.2.2.2.1,v0.2.2.2.2.1,v0.2.2.2.2.2.1,v0.2.2.2.2.2.2.1,v0.2.2.2.2.2.2.2.1,v0.2.2.2.2.2.2.2.2.1,v0.2.2.2.2.2.2.2.2.2.1,v0.2.2.2.2.2.2.2.2.2.2.1,v0.2.2.2.2.2.2.2.2.2.2.2,()),()),())
abbrev yM7 (v0:Bool):(yhu).X:=(((v0,()),()),(),())
def yrM (v0 v1 v2 v3:Int) (v4:List dM) (v5 v6 v7 v8 v9:Int) (v10:List dW) (v11:Int) (v12 v13:Bool):Option ((ycr).X ⊕ ((yhc).X ⊕ (yhu).X)) :=
 bif (ltb v0 (v4.length:Int)) then
 bif (inb v0 v4.length) then
 let r3:=yap ((nth v4 v0 ([],[],false,[])).1,((nth v4 v0 ([],[],false,[])).2).1,(((nth v4 v0 ([],[],false,[])).2).2))
 bif (!(!r3)) then
 let r4:=yce (v2,v3)
 bif (!((((nth v4 v0 ([],[],false,[])).1).length:Int) !=r4)) then
 bif (((nth v4 v0 ([],[],false,[])).2).2).1 then
 bif (v0 !=v5) then
 bif (!v13) then
 some (.inr (.inr (((false,()),()),(),())))
 else
 some (.inl ((((),()),((IntKind.i64.wrap (v0+1)),()),()),((v1,v2,v3,v4,v5,v6,v7,v8,v9,v10,v11,v12,v13,()),()),()))
 else
 some (.inl ((((),()),((IntKind.i64.wrap (v0+1)),()),()),((v1,v2,v3,v4,v5,v6,v7,v8,v9,v10,v11,v12,v13,()),()),()))
 else
 some (.inl ((((),()),((IntKind.i64.wrap (v0+1)),()),()),((v1,v2,v3,v4,v5,v6,v7,v8,v9,v10,v11,v12,v13,()),()),()))
 else
 some (.inr (.inr (((false,()),()),(),())))
 else
 some (.inr (.inr (((false,()),()),(),())))
 else none
 else
 some (.inr (.inl ((((),()),()),((v1,v2,v3,v4,v5,v6,v7,v8,v9,v10,v11,v12,v13,()),()),())))
def ycX (x:(ycr).X):=yrM x.1.2.1.1 x.2.1.1.1 x.2.1.1.2.1 x.2.1.1.2.2.1 x.2.1.1.2.2.2.1 x.2.1.1.2.2.2.2.1 x.2.1.1.2.2.2.2.2.1 x.2.1.1.2.2.2.2.2.2.1 x.2.1.1.2.2.2.2.2.2.2.1 x.2.1.1.2.2.2.2.2.2.2.2.1 x.2.1.1.2.2.2.2.2.2.2.2.2.1 x.2.1.1.2.2.2.2.2.2.2.2.2.2.1 x.2.1.1.2.2.2.2.2.2.2.2.2.2.2.1 x.2.1.1.2.2.2.2.2.2.2.2.2.2.2.2.1
def yz8 (x:(yhn).X):(ycr).X:=((((),()),(0,()),()),((x.2.1.1.1,x.2.1.1.2.1,x.2.1.1.2.2.1,x.2.1.1.2.2.2.1,x.2.1.1.2.2.2.2.1,x.2.1.1.2.2.2.2.2.1,x.2.1.1.2.2.2.2.2.2.1,x.2.1.1.2.2.2.2.2.2.2.1,x.2.1.1.2.2.2.2.2.2.2.2.1,x.2.1.1.2.2.2.2.2.2.2.2.2.1,x.2.1.1.2.2.2.2.2.2.2.2.2.2.1,x.2.1.1.2.2.2.2.2.2.2.2.2.2.2.1,x.2.1.1.2.2.2.2.2.2.2.2.2.2.2.2.1,()),()),())
def yBy:Code:=(zdI ymG 64 52).getD .skip
theorem yOw:zdI ymG 64 13=some (.block 0 (.loop yBy)):=by kernel_rfl
theorem yRc (x:(ycr).X):zg7 ⟨yr9,51,yDx⟩ 0 yBy 52 ycr yhc yhu x=ycX x:=by kernel_rfl
def yAj (x:(yhn).X):Nat:=18446744073709551616
def ys5 (x:(yhn).X):Option ((yhc).X ⊕ (yhu).X):=zr ycX (yAj x) (yz8 x)
def yAA:Seg:=⟨yhn,yhc,yhu,ys5⟩
def yDy:Nat→Option Seg:=fun q=>bif Nat.beq q 13 then some yAA else yDx q
theorem yPm:FrOk Tryz.prog ⟨yr9,51,yDy⟩ ymG:=(yPl).loop (sg:=yAA) ycr yz8 (by decide) yOw ycX yAj (by decide) (fun _=>rfl) (fun x r _ h=>h) yRc
abbrev yfD:List Par:= [.rd tA]
abbrev ym6:List OT:= [⟨false,tB,.fz⟩]
def yoU (a0:dA):Option (ResD ym6×MutD yfD) :=
 zjw (ys5 ((((),()),((),()),()),((a0.1,a0.2.1.1,a0.2.1.2,a0.2.2.1,a0.2.2.2.1,a0.2.2.2.2.1,a0.2.2.2.2.2.1,a0.2.2.2.2.2.2.1,a0.2.2.2.2.2.2.2.1,a0.2.2.2.2.2.2.2.2.1,a0.2.2.2.2.2.2.2.2.2.1,a0.2.2.2.2.2.2.2.2.2.2.1,a0.2.2.2.2.2.2.2.2.2.2.2,()),()),())) (fun y4 =>
 some ((((y4.2.1.1.2.2.2.1.length:Int)==y4.2.1.1.2.1),()),())) (fun y4 =>
 some ((y4.1.1.1,()),()))
theorem yYk (x:InD yfD):zjH ⟨yr9,51,yDy⟩ Tryz.f136.results.toList ymG yfD ym6 x=yoU x.1:=by kernel_rfl
theorem yUa:ConOk Tryz.prog 136 ⟨yfD,ym6,fun x=>yoU x.1⟩:=zkh (yPm) Tryz.func136 (by kernel_rfl) (by kernel_rfl) Tryz.ntmps136.symm (by decide) (fun x r h=>(yYk x).trans h)
def ynk (a0:dA):Bool:=ync a0
def yy5 (a0:dA):Bool:=yc a0.2.1
theorem yWc (a0:dA) (hk:zi9 yfD (a0,())) (hq:yy5 a0=true):yoU a0=(fun n=>some ((n,()),())) (ynk a0):=by
 have hb:a0.2.2.1.length * 80≤2 ^ 47:=hk.1.2.2.1.1
 have hg:=yi.1 hq
 have h1:ys5 (yM3 a0)=some (bif (List.range a0.2.2.1.length).any (yhw a0) then .inr (yM7 false) else .inl (yMU a0)) :=
  zf4 (step:=ycX) (fun i=>yrw i a0) a0.2.2.1.length (yhw a0) _ _ (fun i hi=>by
   simp only [ycX,yrw,yrM,zjI (show (i:Int) < a0.2.2.1.length by omega),cond_true,wr (show -9223372036854775808≤(i:Int)+1 by omega) (by omega),Int.natCast_add,Int.natCast_one,Int.toNat_natCast,zkO hi,zkV,yap,yhw,yce,wr (show -9223372036854775808≤6+a0.2.1.2 by omega) (by omega),noMem]
   cases yl (nth a0.2.2.1 i ([],[],false,[]))<;>cases (((nth a0.2.2.1 i ([],[],false,[])).1.length:Int) !=6+a0.2.1.2)<;>cases (nth a0.2.2.1 i ([],[],false,[])).2.2.1<;>cases ((i:Int) !=a0.2.2.2.1)<;>cases a0.2.2.2.2.2.2.2.2.2.2.2<;>rfl) (by simp only [ycX,yrw,yrM,zkm (Int.le_refl _),cond_false]) _ (by show _ < 18446744073709551616; omega)
 unfold yoU ynk ync
 rw [h1]
 cases (List.range a0.2.2.1.length).any (yhw a0)<;>rfl
def ysQ (a0:dA):Option (ResD ym6×MutD yfD):=bif yy5 a0 then (fun n=>some ((n,()),())) (ynk a0) else none
theorem yW4 (a0:dA) (h:yy5 a0=true):ysQ a0=(fun n=>some ((n,()),())) (ynk a0):=by unfold ysQ; rw [h]; rfl
def yEq:Con:=⟨yfD,ym6,fun x=>ysQ x.1⟩
theorem yWY:ConOk Tryz.prog 136 yEq:=(yUa).mono (fun x r hk h=>zkW h (fun hq=>yWc x.1 hk hq))
end
section
def ykw:Code:=(Tryz.f137.body).getD .skip
def yql:Env:=zki TT [(135,yx),(225,yhv)] []
theorem yMI:FrOk Tryz.prog ⟨yql,57,fun _=>none⟩ ykw:=zkp yb yd ⟨yD,yoG,trivial⟩
def yBa:Nat→Option Seg:=fun _=>none
def ybL:Shape:=⟨[(1,false,[.ptr 0 0]),(3,false,[.int .i64])],[(0,[.int .i64,.int .i64,.int .i64,.br tM,.int .i64,.int .i64,.int .i64,.int .i64,.int .i64,.br tW,.int .i64,.bool,.bool])],[]⟩
def ygb:Shape:=⟨[(1,false,[.ptr 0 0]),(3,false,[.ci .i64 0])],[(0,[.int .i64,.int .i64,.int .i64,.br tM,.int .i64,.int .i64,.int .i64,.int .i64,.int .i64,.br tW,.int .i64,.bool,.bool])],[]⟩
def yfZ:Shape:=⟨[],[],[]⟩
def ygf:Shape:=⟨[(2,false,[.bool])],[],[]⟩
abbrev ypP (v0:Int) (v1:dA):(ybL).X:=((((),()),(v0,()),()),((v1.1,v1.2.1.1,v1.2.1.2,v1.2.2.1,v1.2.2.2.1,v1.2.2.2.2.1,v1.2.2.2.2.2.1,v1.2.2.2.2.2.2.1,v1.2.2.2.2.2.2.2.1,v1.2.2.2.2.2.2.2.2.1,v1.2.2.2.2.2.2.2.2.2.1,v1.2.2.2.2.2.2.2.2.2.2.1,v1.2.2.2.2.2.2.2.2.2.2.2,()),()),())
abbrev yKS (v0:dA):(ygb).X:=((((),()),((),()),()),((v0.1,v0.2.1.1,v0.2.1.2,v0.2.2.1,v0.2.2.2.1,v0.2.2.2.2.1,v0.2.2.2.2.2.1,v0.2.2.2.2.2.2.1,v0.2.2.2.2.2.2.2.1,v0.2.2.2.2.2.2.2.2.1,v0.2.2.2.2.2.2.2.2.2.1,v0.2.2.2.2.2.2.2.2.2.2.1,v0.2.2.2.2.2.2.2.2.2.2.2,()),()),())
abbrev yKG  :(yfZ).X:=((),(),())
abbrev yKV (v0:Bool):(ygf).X:=(((v0,()),()),(),())
def yqc (v0 v1 v2 v3:Int) (v4:List dM) (v5 v6 v7 v8 v9:Int) (v10:List dW) (v11:Int) (v12 v13:Bool):Option ((ybL).X ⊕ ((yfZ).X ⊕ (ygf).X)) :=
 bif (ltb v0 (v10.length:Int)) then
 bif (inb v0 v10.length) then
 let r3:=ya ((nth v10 v0 (0,[])).1) 0 (IntKind.i64.wrap (v3 - 1))
 bif (!(!r3)) then
 bif (!((((nth v10 v0 (0,[])).2).length:Int) !=(IntKind.i64.wrap (v2 - 1)))) then
 let r4:=yS ((nth v10 v0 (0,[])).2)
 bif (!(!r4)) then
 bif (ltb 0 v0) then
 bif (inb (IntKind.i64.wrap (v0 - 1)) v10.length) then
 bif (leb ((nth v10 v0 (0,[])).1) ((nth v10 (IntKind.i64.wrap (v0 - 1)) (0,[])).1)) then
 some (.inr (.inr (((false,()),()),(),())))
 else
 some (.inl ((((),()),((IntKind.i64.wrap (v0+1)),()),()),((v1,v2,v3,v4,v5,v6,v7,v8,v9,v10,v11,v12,v13,()),()),()))
 else none
 else
 some (.inl ((((),()),((IntKind.i64.wrap (v0+1)),()),()),((v1,v2,v3,v4,v5,v6,v7,v8,v9,v10,v11,v12,v13,()),()),()))
 else
 some (.inr (.inr (((false,()),()),(),())))
 else
 some (.inr (.inr (((false,()),()),(),())))
 else
 some (.inr (.inr (((false,()),()),(),())))
 else none
 else
 some (.inr (.inl ((),(),())))
def yb3 (x:(ybL).X):=yqc x.1.2.1.1 x.2.1.1.1 x.2.1.1.2.1 x.2.1.1.2.2.1 x.2.1.1.2.2.2.1 x.2.1.1.2.2.2.2.1 x.2.1.1.2.2.2.2.2.1 x.2.1.1.2.2.2.2.2.2.1 x.2.1.1.2.2.2.2.2.2.2.1 x.2.1.1.2.2.2.2.2.2.2.2.1 x.2.1.1.2.2.2.2.2.2.2.2.2.1 x.2.1.1.2.2.2.2.2.2.2.2.2.2.1 x.2.1.1.2.2.2.2.2.2.2.2.2.2.2.1 x.2.1.1.2.2.2.2.2.2.2.2.2.2.2.2.1
def yx7 (x:(ygb).X):(ybL).X:=((((),()),(0,()),()),((x.2.1.1.1,x.2.1.1.2.1,x.2.1.1.2.2.1,x.2.1.1.2.2.2.1,x.2.1.1.2.2.2.2.1,x.2.1.1.2.2.2.2.2.1,x.2.1.1.2.2.2.2.2.2.1,x.2.1.1.2.2.2.2.2.2.2.1,x.2.1.1.2.2.2.2.2.2.2.2.1,x.2.1.1.2.2.2.2.2.2.2.2.2.1,x.2.1.1.2.2.2.2.2.2.2.2.2.2.1,x.2.1.1.2.2.2.2.2.2.2.2.2.2.2.1,x.2.1.1.2.2.2.2.2.2.2.2.2.2.2.2.1,()),()),())
def yzL:Code:=(zdI ykw 64 52).getD .skip
theorem yL8:zdI ykw 64 13=some (.block 0 (.loop yzL)):=by kernel_rfl
theorem yNP (x:(ybL).X):zg7 ⟨yql,57,yBa⟩ 0 yzL 52 ybL yfZ ygf x=yb3 x:=by kernel_rfl
def yyo (x:(ygb).X):Nat:=18446744073709551616
def yrj (x:(ygb).X):Option ((yfZ).X ⊕ (ygf).X):=zr yb3 (yyo x) (yx7 x)
def yyO:Seg:=⟨ygb,yfZ,ygf,yrj⟩
def yBb:Nat→Option Seg:=fun q=>bif Nat.beq q 13 then some yyO else yBa q
theorem yMJ:FrOk Tryz.prog ⟨yql,57,yBb⟩ ykw:=(yMI).loop (sg:=yyO) ybL yx7 (by decide) yL8 yb3 yyo (by decide) (fun _=>rfl) (fun x r _ h=>h) yNP
abbrev yep:List Par:= [.rd tA]
abbrev yk5:List OT:= [⟨false,tB,.fz⟩]
def ymr (a0:dA):Option (ResD yk5×MutD yep) :=
 zjw (yrj ((((),()),((),()),()),((a0.1,a0.2.1.1,a0.2.1.2,a0.2.2.1,a0.2.2.2.1,a0.2.2.2.2.1,a0.2.2.2.2.2.1,a0.2.2.2.2.2.2.1,a0.2.2.2.2.2.2.2.1,a0.2.2.2.2.2.2.2.2.1,a0.2.2.2.2.2.2.2.2.2.1,a0.2.2.2.2.2.2.2.2.2.2.1,a0.2.2.2.2.2.2.2.2.2.2.2,()),()),())) (fun y4 =>
 some ((true,()),())) (fun y4 =>
 some ((y4.1.1.1,()),()))
theorem yVx (x:InD yep):zjH ⟨yql,57,yBb⟩ Tryz.f137.results.toList ykw yep yk5 x=ymr x.1:=by kernel_rfl
theorem yQJ:ConOk Tryz.prog 137 ⟨yep,yk5,fun x=>ymr x.1⟩:=zkh (yMJ) Tryz.func137 (by kernel_rfl) (by kernel_rfl) Tryz.ntmps137.symm (by decide) (fun x r h=>(yVx x).trans h)
def ylt (a0:dA):Bool:=yaI a0.2.1 a0.2.2.2.2.2.2.2.2.1
def yw7 (a0:dA):Bool:=yc a0.2.1
theorem yh9 (l:List Int):yS l=l.all isW:=by
 unfold yS
 rw [show yak=isW from funext fun x=>by unfold yak; rw [ycd]; rfl]
theorem yTA (a0:dA) (hk:zi9 yep (a0,())) (hq:yw7 a0=true):ymr a0=(fun n=>some ((n,()),())) (ylt a0):=by
 have hb:a0.2.2.2.2.2.2.2.2.1.length * 32≤2 ^ 47:=hk.1.2.2.2.2.2.2.2.2.1.1
 have hg:=yi.1 hq
 have h1:yrj (yKS a0)=some (bif (List.range a0.2.2.2.2.2.2.2.2.1.length).any (yh4 a0.2.1 a0.2.2.2.2.2.2.2.2.1) then .inr (yKV false) else .inl yKG) :=
  zf4 (step:=yb3) (fun i=>ypP i a0) a0.2.2.2.2.2.2.2.2.1.length (yh4 a0.2.1 a0.2.2.2.2.2.2.2.2.1) _ _ (fun i hi=>by
   simp only [yb3,ypP,yqc,zjI (show (i:Int) < a0.2.2.2.2.2.2.2.2.1.length by omega),cond_true,wr (show -9223372036854775808≤(i:Int)+1 by omega) (by omega),Int.natCast_add,Int.natCast_one,Int.toNat_natCast,zkO hi,ycd,yh9,wr (show -9223372036854775808≤a0.2.1.2 - 1 by omega) (by omega),wr (show -9223372036854775808≤a0.2.1.1 - 1 by omega) (by omega),yh4]
   rcases Nat.eq_zero_or_pos i with rfl | h0
   ·cases (leb 0 (nth a0.2.2.2.2.2.2.2.2.1 ((0:Nat):Int) (0,[])).1&&leb (nth a0.2.2.2.2.2.2.2.2.1 ((0:Nat):Int) (0,[])).1 (a0.2.1.2 - 1))<;>cases (((nth a0.2.2.2.2.2.2.2.2.1 ((0:Nat):Int) (0,[])).2.length:Int) !=a0.2.1.1 - 1)<;>cases ((nth a0.2.2.2.2.2.2.2.2.1 ((0:Nat):Int) (0,[])).2.all isW)<;>rfl
   ·rw [show IntKind.i64.wrap ((i:Int) - 1)=((i - 1:Nat):Int) by rw [wr (by omega) (by omega)]; omega,zkO (show i - 1 < a0.2.2.2.2.2.2.2.2.1.length by omega),zjI (show (0:Int) < i by omega),decide_eq_true h0]
    cases (leb 0 (nth a0.2.2.2.2.2.2.2.2.1 (i:Int) (0,[])).1&&leb (nth a0.2.2.2.2.2.2.2.2.1 (i:Int) (0,[])).1 (a0.2.1.2 - 1))<;>cases (((nth a0.2.2.2.2.2.2.2.2.1 (i:Int) (0,[])).2.length:Int) !=a0.2.1.1 - 1)<;>cases ((nth a0.2.2.2.2.2.2.2.2.1 (i:Int) (0,[])).2.all isW)<;>cases leb (nth a0.2.2.2.2.2.2.2.2.1 (i:Int) (0,[])).1 (nth a0.2.2.2.2.2.2.2.2.1 ((i - 1:Nat):Int) (0,[])).1<;>rfl) (by simp only [yb3,ypP,yqc,zkm (Int.le_refl _),cond_false]) _ (by show _ < 18446744073709551616; omega)
 unfold ymr ylt yaI
 rw [h1]
 cases (List.range a0.2.2.2.2.2.2.2.2.1.length).any (yh4 a0.2.1 a0.2.2.2.2.2.2.2.2.1)<;>rfl
def yqR (a0:dA):Option (ResD yk5×MutD yep):=bif yw7 a0 then (fun n=>some ((n,()),())) (ylt a0) else none
theorem yUB (a0:dA) (h:yw7 a0=true):yqR a0=(fun n=>some ((n,()),())) (ylt a0):=by unfold yqR; rw [h]; rfl
def yBP:Con:=⟨yep,yk5,fun x=>yqR x.1⟩
theorem yUx:ConOk Tryz.prog 137 yBP:=(yQJ).mono (fun x r hk h=>zkW h (fun hq=>yTA x.1 hk hq))
end
section
def yJr:Code:=(Tryz.f46.body).getD .skip
def yJF:Env:=zki TT [(134,ygJ),(135,yx),(136,yEq),(137,yBP)] []
theorem ySF:FrOk Tryz.prog ⟨yJF,78,fun _=>none⟩ yJr:=zkp yb yd ⟨ynn,yD,yWY,yUx,trivial⟩
def yU1:Nat→Option Seg:=fun _=>none
abbrev ykL:List Par:= [.rd tA]
abbrev yuW:List OT:= [⟨false,tB,.fz⟩]
def yqX (a0:dA):Option (ResD yuW×MutD ykL) :=
 let r1:=yc a0.2.1
 bif (!(!r1)) then
 let r2:=ya a0.1 1 60000
 bif (!(!r2)) then
 bnd (ysQ a0) fun r3 =>
 bif (!(!r3.1.1)) then
 bnd (yqR a0) fun r4 =>
 bif (!r4.1.1) then
 some ((false,()),())
 else
 let r5:=ya a0.2.2.2.1 (-1) (IntKind.i64.wrap (a0.2.1.1 - 1))
 bif (!(!r5)) then
 let r6:=ya a0.2.2.2.2.1 0 a0.2.1.2
 bif (!(!r6)) then
 bif (a0.2.2.2.1==(-1)) then
 bif (a0.2.2.2.2.1 !=0) then
 some ((false,()),())
 else
 let r7:=ya a0.2.2.2.2.2.2.1 0 60000
 bif r7 then
 let r8:=ya a0.2.2.2.2.2.1 a0.2.2.2.2.2.2.1 60000
 bif r8 then
 bif (leb a0.2.2.2.2.2.1 (IntKind.i64.wrap (a0.2.2.2.2.2.2.1+4))) then
 let r9:=ya a0.2.2.2.2.2.2.2.1 0 60000
 bif r9 then
 let r10:=ya a0.2.2.2.2.2.2.2.2.2.1 (-1) 1000
 some ((r10,()),())
 else
 some ((false,()),())
 else
 some ((false,()),())
 else
 some ((false,()),())
 else
 some ((false,()),())
 else
 let r11:=ya a0.2.2.2.2.2.2.1 0 60000
 bif r11 then
 let r12:=ya a0.2.2.2.2.2.1 a0.2.2.2.2.2.2.1 60000
 bif r12 then
 bif (leb a0.2.2.2.2.2.1 (IntKind.i64.wrap (a0.2.2.2.2.2.2.1+4))) then
 let r13:=ya a0.2.2.2.2.2.2.2.1 0 60000
 bif r13 then
 let r14:=ya a0.2.2.2.2.2.2.2.2.2.1 (-1) 1000
 some ((r14,()),())
 else
 some ((false,()),())
 else
 some ((false,()),())
 else
 some ((false,()),())
 else
 some ((false,()),())
 else
 some ((false,()),())
 else
 some ((false,()),())
 else
 some ((false,()),())
 else
 some ((false,()),())
 else
 some ((false,()),())
theorem yZw (x:InD ykL):zjH ⟨yJF,78,yU1⟩ Tryz.f46.results.toList yJr ykL yuW x=yqX x.1:=by kernel_rfl
theorem yWs:ConOk Tryz.prog 46 ⟨ykL,yuW,fun x=>yqX x.1⟩:=zkh (ySF) Tryz.func46 (by kernel_rfl) (by kernel_rfl) Tryz.ntmps46.symm (by decide) (fun x r h=>(yZw x).trans h)
def ye7 (a0:dA):Bool:=yw a0
theorem yYD (a0:dA) (hk:zi9 ykL (a0,())):yqX a0=(fun n=>some ((n,()),())) (ye7 a0):=by
 unfold yqX ye7 yw
 simp only [ycd]
 cases hg:yc a0.2.1
 ·rfl
 have hg2:=yi.1 hg
 rw [yW4 a0 hg,yUB a0 hg,wr (show -9223372036854775808≤a0.2.1.1 - 1 by omega) (by omega)]
 simp only [zky,ynk,ylt,Bool.not_not,cond_true]
 cases (leb 1 a0.1&&leb a0.1 60000)
 ·rfl
 cases ync a0
 ·rfl
 cases yaI a0.2.1 a0.2.2.2.2.2.2.2.2.1
 ·rfl
 cases (leb (-1) a0.2.2.2.1&&leb a0.2.2.2.1 (a0.2.1.1 - 1))
 ·rfl
 cases (leb 0 a0.2.2.2.2.1&&leb a0.2.2.2.2.1 a0.2.1.2)
 ·rfl
 have ht:(leb 0 a0.2.2.2.2.2.2.1&&leb a0.2.2.2.2.2.2.1 60000)=true→IntKind.i64.wrap (a0.2.2.2.2.2.2.1+4)=a0.2.2.2.2.2.2.1+4:=fun h=>by
  rw [Bool.and_eq_true,zjQ,zjQ]at h
  exact wr (by omega) (by omega)
 cases hT:(leb 0 a0.2.2.2.2.2.2.1&&leb a0.2.2.2.2.2.2.1 60000)
 ·cases (a0.2.2.2.1== -1)<;>cases (a0.2.2.2.2.1 !=0)<;>rfl
 rw [ht hT]
 cases (leb a0.2.2.2.2.2.2.1 a0.2.2.2.2.2.1&&leb a0.2.2.2.2.2.1 60000)
 ·cases (a0.2.2.2.1== -1)<;>cases (a0.2.2.2.2.1 !=0)<;>rfl
 cases leb a0.2.2.2.2.2.1 (a0.2.2.2.2.2.2.1+4)
 ·cases (a0.2.2.2.1== -1)<;>cases (a0.2.2.2.2.1 !=0)<;>rfl
 cases (leb 0 a0.2.2.2.2.2.2.2.1&&leb a0.2.2.2.2.2.2.2.1 60000)<;>cases (a0.2.2.2.1== -1)<;>cases (a0.2.2.2.2.1 !=0)<;>rfl
def yF7:Con:=⟨ykL,yuW,fun x=>(fun n=>some ((n,()),())) (ye7 x.1)⟩
theorem yYX:ConOk Tryz.prog 46 yF7:=(yWs).mono (fun x r hk h=>(yYD x.1 hk).trans h)
end
end
end Go.Tf
