/- Functions of the program, and what they come to. -/
import Derived.Test.YtgmadfpnljibhaaGreatArrsF2
namespace Go.Tf
noncomputable section
open Go.Proofs
set_option synthInstance.maxHeartbeats 400000
set_option synthInstance.maxSize 10000
set_option linter.unusedVariables false
set_option linter.unusedSimpArgs false
set_option maxRecDepth 100000
section
def yaW:Code:=(Tryz.f133.body).getD .skip
def yem:Env:=zj2 TT [(126,yv),(220,yok),(221,ywU)] []
theorem ySv:FrOk Tryz.prog ⟨yem,76,fun _=>none⟩ yaW:=zj6 yc yd ⟨yB,yw5,yIp,trivial⟩
def yFz:Nat→Option Seg:=fun _=>none
def ycM:Shape:=⟨[(1,false,[.ptr 0 0]),(10,false,[.br tL]),(11,false,[.int .i64]),(12,false,[.int .i64])],[(0,[.br tL,.br tW,.bool,.br tI])],[]⟩
def yis:Shape:=⟨[(1,false,[.ptr 0 0]),(10,false,[.br tL]),(11,false,[.int .i64]),(12,false,[.ci .i64 0])],[(0,[.br tL,.br tW,.bool,.br tI])],[]⟩
def yic:Shape:=⟨[(1,false,[.ptr 0 0])],[(0,[.br tL,.br tW,.bool,.br tI])],[]⟩
def yiP:Shape:=⟨[(2,false,[.bool])],[],[]⟩
abbrev ytf (v0:List (List Int)) (v1 v2:Int) (v3:dM):(ycM).X:=((((),()),(v0,()),(v1,()),(v2,()),()),((v3.1,v3.2.1,v3.2.2.1,v3.2.2.2,()),()),())
abbrev yPC (v0:List (List Int)) (v1:Int) (v2:dM):(yis).X:=((((),()),(v0,()),(v1,()),((),()),()),((v2.1,v2.2.1,v2.2.2.1,v2.2.2.2,()),()),())
abbrev yPt (v0:dM):(yic).X:=((((),()),()),((v0.1,v0.2.1,v0.2.2.1,v0.2.2.2,()),()),())
abbrev yPR (v0:Bool):(yiP).X:=(((v0,()),()),(),())
def ytD (v0:List (List Int)) (v1 v2:Int) (v3:List (List Int)) (v4:List dW) (v5:Bool) (v6:List Int):Option ((ycM).X ⊕ ((yic).X ⊕ (yiP).X)) :=
 bif (ltb v2 v1) then
 bif (inb v2 v0.length) then
 let r2:=yhg (nth v0 v2 [])
 bif (!r2) then
 some (.inr (.inr (((false,()),()),(),())))
 else
 some (.inl ((((),()),(v0,()),(v1,()),((IntKind.i64.wrap (v2+1)),()),()),((v3,v4,v5,v6,()),()),()))
 else none
 else
 some (.inr (.inl ((((),()),()),((v3,v4,v5,v6,()),()),())))
def ydi (x:(ycM).X):=ytD x.1.2.1.1 x.1.2.2.1.1 x.1.2.2.2.1.1 x.2.1.1.1 x.2.1.1.2.1 x.2.1.1.2.2.1 x.2.1.1.2.2.2.1
def yBM (x:(yis).X):(ycM).X:=((((),()),(x.1.2.1.1,()),(x.1.2.2.1.1,()),(0,()),()),((x.2.1.1.1,x.2.1.1.2.1,x.2.1.1.2.2.1,x.2.1.1.2.2.2.1,()),()),())
def yD5:Code:=(zdD yaW 64 52).getD .skip
theorem yRI:zdD yaW 64 13=some (.block 0 (.loop yD5)):=by kernel_rfl
theorem yUM (x:(ycM).X):zg0 ⟨yem,76,yFz⟩ 0 yD5 52 ycM yic yiP x=ydi x:=by kernel_rfl
def yB5 (x:(yis).X):Nat:=18446744073709551616
def yuj (x:(yis).X):Option ((yic).X ⊕ (yiP).X):=zz ydi (yB5 x) (yBM x)
def yCK:Seg:=⟨yis,yic,yiP,yuj⟩
def ywM:Nat→Option Seg:=fun q=>bif Nat.beq q 13 then some yCK else yFz q
theorem ySw:FrOk Tryz.prog ⟨yem,76,ywM⟩ yaW:=(ySv).loop (sg:=yCK) ycM yBM (by decide) yRI ydi yB5 (by decide) (fun _=>rfl) (fun x r _ h=>h) yUM
def ycN:Shape:=⟨[(1,false,[.ptr 0 0]),(21,false,[.br tW]),(22,false,[.int .i64]),(23,false,[.int .i64])],[(0,[.br tL,.br tW,.bool,.br tI])],[]⟩
def yit:Shape:=⟨[(1,false,[.ptr 0 0]),(21,false,[.br tW]),(22,false,[.int .i64]),(23,false,[.ci .i64 0])],[(0,[.br tL,.br tW,.bool,.br tI])],[]⟩
def yid:Shape:=⟨[(1,false,[.ptr 0 0])],[(0,[.br tL,.br tW,.bool,.br tI])],[]⟩
def yiQ:Shape:=⟨[(2,false,[.bool])],[],[]⟩
abbrev ytg (v0:List dW) (v1 v2:Int) (v3:dM):(ycN).X:=((((),()),(v0,()),(v1,()),(v2,()),()),((v3.1,v3.2.1,v3.2.2.1,v3.2.2.2,()),()),())
abbrev yPD (v0:List dW) (v1:Int) (v2:dM):(yit).X:=((((),()),(v0,()),(v1,()),((),()),()),((v2.1,v2.2.1,v2.2.2.1,v2.2.2.2,()),()),())
abbrev yPu (v0:dM):(yid).X:=((((),()),()),((v0.1,v0.2.1,v0.2.2.1,v0.2.2.2,()),()),())
abbrev yPS (v0:Bool):(yiQ).X:=(((v0,()),()),(),())
def ytE (v0:List dW) (v1 v2:Int) (v3:List (List Int)) (v4:List dW) (v5:Bool) (v6:List Int):Option ((ycN).X ⊕ ((yid).X ⊕ (yiQ).X)) :=
 bif (ltb v2 v1) then
 bif (inb v2 v0.length) then
 let r6:=yba (v3,v4,v5,v6) ((nth v0 v2 (0,[])).1)
 bif (!(!r6)) then
 let r7:=yhg ((nth v0 v2 (0,[])).2)
 bif (!r7) then
 some (.inr (.inr (((false,()),()),(),())))
 else
 some (.inl ((((),()),(v0,()),(v1,()),((IntKind.i64.wrap (v2+1)),()),()),((v3,v4,v5,v6,()),()),()))
 else
 some (.inr (.inr (((false,()),()),(),())))
 else none
 else
 some (.inr (.inl ((((),()),()),((v3,v4,v5,v6,()),()),())))
def ydj (x:(ycN).X):=ytE x.1.2.1.1 x.1.2.2.1.1 x.1.2.2.2.1.1 x.2.1.1.1 x.2.1.1.2.1 x.2.1.1.2.2.1 x.2.1.1.2.2.2.1
def yBN (x:(yit).X):(ycN).X:=((((),()),(x.1.2.1.1,()),(x.1.2.2.1.1,()),(0,()),()),((x.2.1.1.1,x.2.1.1.2.1,x.2.1.1.2.2.1,x.2.1.1.2.2.2.1,()),()),())
def yD6:Code:=(zdD yaW 64 116).getD .skip
theorem yRJ:zdD yaW 64 29=some (.block 2 (.loop yD6)):=by kernel_rfl
theorem yUN (x:(ycN).X):zg0 ⟨yem,76,ywM⟩ 2 yD6 116 ycN yid yiQ x=ydj x:=by kernel_rfl
def yB6 (x:(yit).X):Nat:=18446744073709551616
def yuk (x:(yit).X):Option ((yid).X ⊕ (yiQ).X):=zz ydj (yB6 x) (yBN x)
def yCL:Seg:=⟨yit,yid,yiQ,yuk⟩
def ywN:Nat→Option Seg:=fun q=>bif Nat.beq q 29 then some yCL else ywM q
theorem ySx:FrOk Tryz.prog ⟨yem,76,ywN⟩ yaW:=(ySw).loop (sg:=yCL) ycN yBN (by decide) yRJ ydj yB6 (by decide) (fun _=>rfl) (fun x r _ h=>h) yUN
def ycO:Shape:=⟨[(1,false,[.ptr 0 0]),(40,false,[.br tI]),(41,false,[.int .i64]),(42,false,[.int .i64])],[(0,[.br tL,.br tW,.bool,.br tI])],[]⟩
def yiu:Shape:=⟨[(1,false,[.ptr 0 0]),(40,false,[.br tI]),(41,false,[.int .i64]),(42,false,[.ci .i64 0])],[(0,[.br tL,.br tW,.bool,.br tI])],[]⟩
def yie:Shape:=⟨[(1,false,[.ptr 0 0])],[(0,[.br tL,.br tW,.bool,.br tI])],[]⟩
def yiR:Shape:=⟨[(2,false,[.bool])],[],[]⟩
abbrev yth (v0:List Int) (v1 v2:Int) (v3:dM):(ycO).X:=((((),()),(v0,()),(v1,()),(v2,()),()),((v3.1,v3.2.1,v3.2.2.1,v3.2.2.2,()),()),())
abbrev yPE (v0:List Int) (v1:Int) (v2:dM):(yiu).X:=((((),()),(v0,()),(v1,()),((),()),()),((v2.1,v2.2.1,v2.2.2.1,v2.2.2.2,()),()),())
abbrev yPv (v0:dM):(yie).X:=((((),()),()),((v0.1,v0.2.1,v0.2.2.1,v0.2.2.2,()),()),())
abbrev yPT (v0:Bool):(yiR).X:=(((v0,()),()),(),())
def ytF (v0:List Int) (v1 v2:Int) (v3:List (List Int)) (v4:List dW) (v5:Bool) (v6:List Int):Option ((ycO).X ⊕ ((yie).X ⊕ (yiR).X)) :=
 bif (ltb v2 v1) then
 bif (inb v2 v0.length) then
 let r10:=yba (v3,v4,v5,v6) (nth v0 v2 0)
 bif (!(!r10)) then
 bif (ltb 0 v2) then
 bif (inb (IntKind.i64.wrap (v2 - 1)) v6.length) then
 bif (leb (nth v0 v2 0) (nth v6 (IntKind.i64.wrap (v2 - 1)) 0)) then
 some (.inr (.inr (((false,()),()),(),())))
 else
 some (.inl ((((),()),(v0,()),(v1,()),((IntKind.i64.wrap (v2+1)),()),()),((v3,v4,v5,v6,()),()),()))
 else none
 else
 some (.inl ((((),()),(v0,()),(v1,()),((IntKind.i64.wrap (v2+1)),()),()),((v3,v4,v5,v6,()),()),()))
 else
 some (.inr (.inr (((false,()),()),(),())))
 else none
 else
 some (.inr (.inl ((((),()),()),((v3,v4,v5,v6,()),()),())))
def ydk (x:(ycO).X):=ytF x.1.2.1.1 x.1.2.2.1.1 x.1.2.2.2.1.1 x.2.1.1.1 x.2.1.1.2.1 x.2.1.1.2.2.1 x.2.1.1.2.2.2.1
def yBO (x:(yiu).X):(ycO).X:=((((),()),(x.1.2.1.1,()),(x.1.2.2.1.1,()),(0,()),()),((x.2.1.1.1,x.2.1.1.2.1,x.2.1.1.2.2.1,x.2.1.1.2.2.2.1,()),()),())
def yD7:Code:=(zdD yaW 64 244).getD .skip
theorem yRK:zdD yaW 64 61=some (.block 4 (.loop yD7)):=by kernel_rfl
theorem yUO (x:(ycO).X):zg0 ⟨yem,76,ywN⟩ 4 yD7 244 ycO yie yiR x=ydk x:=by kernel_rfl
def yB7 (x:(yiu).X):Nat:=18446744073709551616
def yul (x:(yiu).X):Option ((yie).X ⊕ (yiR).X):=zz ydk (yB7 x) (yBO x)
def yCM:Seg:=⟨yiu,yie,yiR,yul⟩
def yFA:Nat→Option Seg:=fun q=>bif Nat.beq q 61 then some yCM else ywN q
theorem ySy:FrOk Tryz.prog ⟨yem,76,yFA⟩ yaW:=(ySx).loop (sg:=yCM) ycO yBO (by decide) yRK ydk yB7 (by decide) (fun _=>rfl) (fun x r _ h=>h) yUO
abbrev ykk:List Par:= [.rd tM]
abbrev yuB:List OT:= [⟨false,tB,.fz⟩]
def yqM (a0:dM):Option (ResD yuB×MutD ykk) :=
 zkh (yuj ((((),()),(a0.1,()),((a0.1.length:Int),()),((),()),()),((a0.1,a0.2.1,a0.2.2.1,a0.2.2.2,()),()),())) (fun y2 =>
 zkh (yuk ((((),()),(y2.2.1.1.2.1,()),((y2.2.1.1.2.1.length:Int),()),((),()),()),((y2.2.1.1.1,y2.2.1.1.2.1,y2.2.1.1.2.2.1,y2.2.1.1.2.2.2.1,()),()),())) (fun y7 =>
 zkh (yul ((((),()),(y7.2.1.1.2.2.2.1,()),((y7.2.1.1.2.2.2.1.length:Int),()),((),()),()),((y7.2.1.1.1,y7.2.1.1.2.1,y7.2.1.1.2.2.1,y7.2.1.1.2.2.2.1,()),()),())) (fun y10 =>
 let r12:=yf (y10.2.1.1.1.length:Int) 1 20
 bif r12 then
 some (((leb (y10.2.1.1.2.1.length:Int) 60),()),())
 else
 some ((false,()),())) (fun y10 =>
 some ((y10.1.1.1,()),()))) (fun y7 =>
 some ((y7.1.1.1,()),()))) (fun y2 =>
 some ((y2.1.1.1,()),()))
theorem yZw (x:InD ykk):zjx ⟨yem,76,yFA⟩ Tryz.f133.results.toList yaW ykk yuB x=yqM x.1:=by kernel_rfl
theorem yWz:ConOk Tryz.prog 133 ⟨ykk,yuB,fun x=>yqM x.1⟩:=zj1 (ySy) Tryz.func133 (by kernel_rfl) (by kernel_rfl) Tryz.ntmps133.symm (by decide) (fun x r h=>(yZw x).trans h)
def yae (a0:dM):Bool:=yq a0
theorem yYE (a0:dM) (hk:zi2 ykk (a0,())):yqM a0=(fun n=>some ((n,()),())) (yae a0):=by
 have hb1:a0.1.length * 24≤2 ^ 47:=hk.1.1.1
 have hb2:a0.2.1.length * 32≤2 ^ 47:=hk.1.2.1.1
 have hb3:a0.2.2.2.length * 8≤2 ^ 47:=hk.1.2.2.2.1
 have h1:yuj (yPC a0.1 a0.1.length a0)=some (bif a0.1.all yS then .inl (yPt a0) else .inr (yPR false)) :=
  zjG (step:=ydi) a0.1 [] (fun i=>ytf a0.1 a0.1.length i a0) yS _ _ (fun i hi=>by
   simp only [ydi,ytf,ytD,zj4 (show (i:Int) < a0.1.length by omega),cond_true,wr (show -9223372036854775808≤(i:Int)+1 by omega) (by omega),Int.natCast_add,Int.natCast_one,Int.toNat_natCast,zkl hi,zkm,yE6]
   cases yS (a0.1.getD i [])<;>rfl) (by simp only [ydi,ytf,ytD,zkx (Int.le_refl _),cond_false]) _ (by show _ < 18446744073709551616; omega)
 have h2:yuk (yPD a0.2.1 a0.2.1.length a0)=some (bif a0.2.1.all (yrL a0.1.length) then .inl (yPu a0) else .inr (yPS false)) :=
  zjG (step:=ydj) a0.2.1 (0,[]) (fun i=>ytg a0.2.1 a0.2.1.length i a0) (yrL a0.1.length) _ _ (fun i hi=>by
   simp only [ydj,ytg,ytE,zj4 (show (i:Int) < a0.2.1.length by omega),cond_true,wr (show -9223372036854775808≤(i:Int)+1 by omega) (by omega),Int.natCast_add,Int.natCast_one,Int.toNat_natCast,zkl hi,zkm,yE6,yba,yP,ypA (show a0.1.length≤1152921504606846976 by omega),yrL]
   cases inb (a0.2.1.getD i (0,[])).1 a0.1.length<;>cases yS (a0.2.1.getD i (0,[])).2<;>rfl) (by simp only [ydj,ytg,ytE,zkx (Int.le_refl _),cond_false]) _ (by show _ < 18446744073709551616; omega)
 have h3:yul (yPE a0.2.2.2 a0.2.2.2.length a0)=some (bif (List.range a0.2.2.2.length).any (yD3 a0.1.length a0.2.2.2) then .inr (yPT false) else .inl (yPv a0)) :=
  ziO (step:=ydk) (fun i=>yth a0.2.2.2 a0.2.2.2.length i a0) a0.2.2.2.length (yD3 a0.1.length a0.2.2.2) _ _ (fun i hi=>by
   simp only [ydk,yth,ytF,zj4 (show (i:Int) < a0.2.2.2.length by omega),cond_true,wr (show -9223372036854775808≤(i:Int)+1 by omega) (by omega),Int.natCast_add,Int.natCast_one,Int.toNat_natCast,zkl hi,zkm,yba,yP,ypA (show a0.1.length≤1152921504606846976 by omega),yD3]
   rcases Nat.eq_zero_or_pos i with rfl | h0
   ·cases inb (a0.2.2.2.getD 0 0) a0.1.length<;>rfl
   ·rw [show IntKind.i64.wrap ((i:Int) - 1)=((i - 1:Nat):Int) by rw [wr (by omega) (by omega)]; omega,zkl (show i - 1 < a0.2.2.2.length by omega),zkm,zj4 (show (0:Int) < i by omega),decide_eq_true h0]
    cases inb (a0.2.2.2.getD i 0) a0.1.length<;>cases leb (a0.2.2.2.getD i 0) (a0.2.2.2.getD (i - 1) 0)<;>rfl) (by simp only [ydk,yth,ytF,zkx (Int.le_refl _),cond_false]) _ (by show _ < 18446744073709551616; omega)
 unfold yqM yae yq
 rw [h1]
 cases a0.1.all yS
 ·rfl
 simp only [cond_true,zki,h2]
 cases a0.2.1.all (yrL a0.1.length)
 ·rfl
 simp only [cond_true,zki,h3,yXv,yP,ybX]
 cases yqw a0.1.length a0.2.2.2
 ·rfl
 simp only [Bool.not_true,cond_false,zki]
 cases leb 1 (a0.1.length:Int)<;>cases leb (a0.1.length:Int) 20<;>rfl
def ygo:Con:=⟨ykk,yuB,fun x=>(fun n=>some ((n,()),())) (yae x.1)⟩
theorem ym3:ConOk Tryz.prog 133 ygo:=(yWz).mono (fun x r hk h=>(yYE x.1 hk).trans h)
end
section
def yDe:Code:=(Tryz.f200.body).getD .skip
def yDS:Env:=zj2 TT [] []
theorem yKp:FrOk Tryz.prog ⟨yDS,6,fun _=>none⟩ yDe:=zj6 yc yd trivial
def yLM:Nat→Option Seg:=fun _=>none
abbrev yeW:List Par:= [.rd tL]
abbrev ynW:List OT:= [⟨false,tL,(.ow .fz)⟩]
def yjY (a0:List Int):Option (ResD ynW×MutD yeW) :=
 bif (zjR ([]:List Int).length a0.length 8) then
 some (((([]:List Int)++a0),()),())
 else none
theorem ySb (x:InD yeW):zjx ⟨yDS,6,yLM⟩ Tryz.f200.results.toList yDe yeW ynW x=yjY x.1:=by kernel_rfl
theorem yNk:ConOk Tryz.prog 200 ⟨yeW,ynW,fun x=>yjY x.1⟩:=zj1 (yKp) Tryz.func200 (by kernel_rfl) (by kernel_rfl) Tryz.ntmps200.symm (by decide) (fun x r h=>(ySb x).trans h)
def yu (a0:List Int):List Int:=a0
theorem yP9 (a0:List Int) (hk:zi2 yeW (a0,())):yjY a0=(fun n=>some ((n,()),())) (yu a0):=by
 have hb:a0.length * 8≤2 ^ 47:=hk.1.1
 unfold yjY yu
 rw [show zjR ([]:List Int).length a0.length 8=true by rw [zka,List.length_nil]; omega]
 rfl
def ydd:Con:=⟨yeW,ynW,fun x=>(fun n=>some ((n,()),())) (yu x.1)⟩
theorem yho:ConOk Tryz.prog 200 ydd:=(yNk).mono (fun x r hk h=>(yP9 x.1 hk).trans h)
end
section
def yek:Code:=(Tryz.f275.body).getD .skip
def yh4:Env:=zj2 TT [] []
theorem yGz:FrOk Tryz.prog ⟨yh4,19,fun _=>none⟩ yek:=zj6 yc yd trivial
def yt0:Nat→Option Seg:=fun _=>none
def yac:Shape:=⟨[(0,false,[.br tI]),(1,false,[.int .i64]),(7,false,[.int .i64]),(8,false,[.int .i64])],[],[]⟩
def yck:Shape:=⟨[(0,false,[.br tI]),(1,false,[.int .i64]),(7,false,[.int .i64]),(8,false,[.ci .i64 0])],[],[]⟩
def yci:Shape:=⟨[],[],[]⟩
def ycm:Shape:=⟨[(4,false,[.int .i64])],[],[]⟩
abbrev yjm (v0:List Int) (v1 v2 v3:Int):(yac).X:=(((v0,()),(v1,()),(v2,()),(v3,()),()),(),())
abbrev yFb (v0:List Int) (v1 v2:Int):(yck).X:=(((v0,()),(v1,()),(v2,()),((),()),()),(),())
abbrev yE9  :(yci).X:=((),(),())
abbrev yrV (v0:Int):(ycm).X:=(((v0,()),()),(),())
def yjp (v0:List Int) (v1 v2 v3:Int):Option ((yac).X ⊕ ((yci).X ⊕ (ycm).X)) :=
 bif (ltb v3 v2) then
 bif (inb v3 v0.length) then
 bif (v1==(nth v0 v3 0)) then
 some (.inr (.inr (((v3,()),()),(),())))
 else
 some (.inl (((v0,()),(v1,()),(v2,()),((IntKind.i64.wrap (v3+1)),()),()),(),()))
 else none
 else
 some (.inr (.inl ((),(),())))
def yak (x:(yac).X):=yjp x.1.1.1 x.1.2.1.1 x.1.2.2.1.1 x.1.2.2.2.1.1
def yrR (x:(yck).X):(yac).X:=(((x.1.1.1,()),(x.1.2.1.1,()),(x.1.2.2.1.1,()),(0,()),()),(),())
def ytT:Code:=(zdD yek 64 52).getD .skip
theorem yGf:zdD yek 64 13=some (.block 0 (.loop ytT)):=by kernel_rfl
theorem yGN (x:(yac).X):zg0 ⟨yh4,19,yt0⟩ 0 ytT 52 yac yci ycm x=yak x:=by kernel_rfl
def yrT (x:(yck).X):Nat:=18446744073709551616
def ykh (x:(yck).X):Option ((yci).X ⊕ (ycm).X):=zz yak (yrT x) (yrR x)
def yrZ:Seg:=⟨yck,yci,ycm,ykh⟩
def yt1:Nat→Option Seg:=fun q=>bif Nat.beq q 13 then some yrZ else yt0 q
theorem yGA:FrOk Tryz.prog ⟨yh4,19,yt1⟩ yek:=(yGz).loop (sg:=yrZ) yac yrR (by decide) yGf yak yrT (by decide) (fun _=>rfl) (fun x r _ h=>h) yGN
abbrev ycf:List Par:= [.rd tL,.rd tI]
abbrev yiI:List OT:= [⟨false,tI,.fz⟩]
def yf8 (a0:List Int) (a1:Int):Option (ResD yiI×MutD ycf) :=
 zkh (ykh (((a0,()),(a1,()),((a0.length:Int),()),((),()),()),(),())) (fun y0 =>
 some (((-1),()),())) (fun y0 =>
 some ((y0.1.1.1,()),()))
theorem yJ9 (x:InD ycf):zjx ⟨yh4,19,yt1⟩ Tryz.f275.results.toList yek ycf yiI x=yf8 x.1 x.2.1:=by kernel_rfl
theorem yHh:ConOk Tryz.prog 275 ⟨ycf,yiI,fun x=>yf8 x.1 x.2.1⟩:=zj1 (yGA) Tryz.func275 (by kernel_rfl) (by kernel_rfl) Tryz.ntmps275.symm (by decide) (fun x r h=>(yJ9 x).trans h)
def yVX (l:List Int) (x:Int):Int:=bif l.any (· ==x) then ((l.takeWhile (· !=x)).length:Int) else -1
def yeF (a0:List Int) (a1:Int):Int:=yVX a0 a1
theorem y07 {A B α:Type} {step:A→Option (A ⊕ B)} (l:List α) (d:α) (f:Nat→A) (p:α→Bool) (b:Nat→B) (c:B)
  (h: ∀ i,i < l.length→step (f i)=some (bif p (l.getD i d) then .inr (b i) else .inl (f (i+1)))) (e:step (f l.length)=some (.inr c)) (fuel:Nat) (hf:l.length < fuel) :
  zz step fuel (f 0)=some (bif l.any p then b (l.takeWhile (fun x=> !p x)).length else c):=by
 have: ∀ (t q:List α) (fuel:Nat),q++t=l→t.length < fuel→zz step fuel (f q.length)=some (bif t.any p then b (q.length+(t.takeWhile (fun x=> !p x)).length) else c):=by
  intro t
  induction t with
  | nil =>
   intro q fuel hq hf
   obtain ⟨fuel,rfl⟩: ∃ m,fuel=m+1:=⟨fuel - 1,by omega⟩
   rw [List.append_nil]at hq
   subst hq
   simp only [zz,e,List.any_nil,cond_false]
  | cons x t ih =>
   intro q fuel hq hf
   obtain ⟨fuel,rfl⟩: ∃ m,fuel=m+1:=⟨fuel - 1,by omega⟩
   have hx:l.getD q.length d=x:=by
    subst hq
    rw [zkd (by simp)]; simp
   have hs:=h q.length (by rw [← hq]; simp)
   rw [hx]at hs
   cases hp:p x
   ·rw [hp]at hs
    have:=ih (q++ [x]) fuel (by rw [← hq]; simp) (by simp at hf; omega)
    simp only [List.length_append,List.length_cons,List.length_nil]at this
    simp only [zz,hs,cond_false]
    simp only [List.any_cons,hp,Bool.false_or,List.takeWhile_cons,Bool.not_false,if_true,List.length_cons]
    rw [show q.length+((t.takeWhile (fun x=> !p x)).length+1)=q.length+(0+1)+(t.takeWhile (fun x=> !p x)).length by omega]
    exact this
   ·rw [hp]at hs
    simp only [zz,hs,cond_true,List.any_cons,hp,Bool.true_or,List.takeWhile_cons,Bool.not_true,Bool.false_eq_true,if_false,List.length_nil,Nat.add_zero]
 have:=this l [] fuel rfl hf
 simpa using this
theorem yI6 (a0:List Int) (a1:Int) (hk:zi2 ycf (a0,a1,())):yf8 a0 a1=(fun n=>some ((n,()),())) (yeF a0 a1):=by
 have hb:a0.length * 8≤2 ^ 47:=hk.1.1
 have h1:ykh (yFb a0 a1 a0.length)=some (bif a0.any (· ==a1) then .inr (yrV ((a0.takeWhile (fun x=> !(x==a1))).length:Int)) else .inl yE9) :=
  y07 (step:=yak) a0 0 (fun i=>yjm a0 a1 a0.length i) (· ==a1) (fun i=> .inr (yrV (i:Int))) _ (fun i hi=>by
   simp only [yak,yjm,yjp,zj4 (show (i:Int) < a0.length by omega),cond_true,wr (show -9223372036854775808≤(i:Int)+1 by omega) (by omega),Int.natCast_add,Int.natCast_one,Int.toNat_natCast,zkl hi,zkm]
   rw [show (a1==a0.getD i 0)=(a0.getD i 0==a1) by rw [Bool.eq_iff_iff,beq_iff_eq,beq_iff_eq]; exact eq_comm]
   cases (a0.getD i 0==a1)<;>rfl) (by simp only [yak,yjm,yjp,zkx (Int.le_refl _),cond_false]) _ (by show _ < 18446744073709551616; omega)
 unfold yf8 yeF yVX
 rw [h1]
 cases a0.any (· ==a1)<;>rfl
def yu5:Con:=⟨ycf,yiI,fun x=>(fun n=>some ((n,()),())) (yeF x.1 x.2.1)⟩
theorem yJe:ConOk Tryz.prog 275 yu5:=(yHh).mono (fun x r hk h=>(yI6 x.1 x.2.1 hk).trans h)
end
section
def ytR:Code:=(Tryz.f236.body).getD .skip
def ytS:Env:=zj2 TT [(275,yu5)] []
theorem yB3:FrOk Tryz.prog ⟨ytS,9,fun _=>none⟩ ytR:=zj6 yc yd ⟨yJe,trivial⟩
def yC1:Nat→Option Seg:=fun _=>none
abbrev yaN:List Par:= [.rd tL,.rd tI]
abbrev ye6:List OT:= [⟨false,tB,.fz⟩]
def ydD (a0:List Int) (a1:Int):Option (ResD ye6×MutD yaN) :=
 let r1:=yeF a0 a1
 some (((leb 0 r1),()),())
theorem yGx (x:InD yaN):zjx ⟨ytS,9,yC1⟩ Tryz.f236.results.toList ytR yaN ye6 x=ydD x.1 x.2.1:=by kernel_rfl
theorem yC5:ConOk Tryz.prog 236 ⟨yaN,ye6,fun x=>ydD x.1 x.2.1⟩:=zj1 (yB3) Tryz.func236 (by kernel_rfl) (by kernel_rfl) Tryz.ntmps236.symm (by decide) (fun x r h=>(yGx x).trans h)
def yco (a0:List Int) (a1:Int):Bool:=a0.any (· ==a1)
theorem yFd (a0:List Int) (a1:Int) (hk:zi2 yaN (a0,a1,())):ydD a0 a1=(fun n=>some ((n,()),())) (yco a0 a1):=by
 unfold ydD yco yeF yVX
 cases a0.any (· ==a1)
 ·rfl
 ·simp only [cond_true]
  rw [zkw (show (0:Int)≤((a0.takeWhile (· !=a1)).length:Int) by omega)]
def yq1:Con:=⟨yaN,ye6,fun x=>(fun n=>some ((n,()),())) (yco x.1 x.2.1)⟩
theorem yFe:ConOk Tryz.prog 236 yq1:=(yC5).mono (fun x r hk h=>(yFd x.1 x.2.1 hk).trans h)
end
section
def yka:Code:=(Tryz.f156.body).getD .skip
def yp6:Env:=zj2 TT [(133,ygo),(200,ydd),(220,yok),(236,yq1)] []
theorem yMe:FrOk Tryz.prog ⟨yp6,49,fun _=>none⟩ yka:=zj6 yc yd ⟨ym3,yho,yw5,yFe,trivial⟩
def yAV:Nat→Option Seg:=fun _=>none
def ybo:Shape:=⟨[(1,false,[.int .i64]),(6,false,[.br tI]),(34,false,[.br tW]),(35,false,[.int .i64]),(36,false,[.int .i64])],[],[]⟩
def yfN:Shape:=⟨[(1,false,[.int .i64]),(6,false,[.br tI]),(34,false,[.br tW]),(35,false,[.int .i64]),(36,false,[.ci .i64 0])],[],[]⟩
def yfD:Shape:=⟨[(6,false,[.br tI])],[],[]⟩
def yjC:Shape:=⟨[],[],[]⟩
abbrev ypD (v0:Int) (v1:List Int) (v2:List dW) (v3 v4:Int):(ybo).X:=(((v0,()),(v1,()),(v2,()),(v3,()),(v4,()),()),(),())
abbrev yKU (v0:Int) (v1:List Int) (v2:List dW) (v3:Int):(yfN).X:=(((v0,()),(v1,()),(v2,()),(v3,()),((),()),()),(),())
abbrev yyo (v0:List Int):(yfD).X:=(((v0,()),()),(),())
def ypV (v0:Int) (v1:List Int) (v2:List dW) (v3 v4:Int):Option ((ybo).X ⊕ ((yfD).X ⊕ (yjC).X)) :=
 bif (ltb v4 v3) then
 bif (inb v4 v2.length) then
 bif ((nth v2 v4 (0,[])).1==v0) then
 some (.inl (((v0,()),((nth v2 v4 (0,[])).2,()),(v2,()),(v3,()),((IntKind.i64.wrap (v4+1)),()),()),(),()))
 else
 some (.inl (((v0,()),(v1,()),(v2,()),(v3,()),((IntKind.i64.wrap (v4+1)),()),()),(),()))
 else none
 else
 some (.inr (.inl (((v1,()),()),(),())))
def ybG (x:(ybo).X):=ypV x.1.1.1 x.1.2.1.1 x.1.2.2.1.1 x.1.2.2.2.1.1 x.1.2.2.2.2.1.1
def yxZ (x:(yfN).X):(ybo).X:=(((x.1.1.1,()),(x.1.2.1.1,()),(x.1.2.2.1.1,()),(x.1.2.2.2.1.1,()),(0,()),()),(),())
def yzw:Code:=(zdD yka 64 244).getD .skip
theorem yLX:zdD yka 64 61=some (.block 0 (.loop yzw)):=by kernel_rfl
theorem yNF (x:(ybo).X):zg0 ⟨yp6,49,yAV⟩ 0 yzw 244 ybo yfD yjC x=ybG x:=by kernel_rfl
def yyc (x:(yfN).X):Nat:=18446744073709551616
def yq4 (x:(yfN).X):Option ((yfD).X ⊕ (yjC).X):=zz ybG (yyc x) (yxZ x)
def yyy:Seg:=⟨yfN,yfD,yjC,yq4⟩
def yAW:Nat→Option Seg:=fun q=>bif Nat.beq q 61 then some yyy else yAV q
theorem yMf:FrOk Tryz.prog ⟨yp6,49,yAW⟩ yka:=(yMe).loop (sg:=yyy) ybo yxZ (by decide) yLX ybG yyc (by decide) (fun _=>rfl) (fun x r _ h=>h) yNF
abbrev ygf:List Par:= [.rd tM,.rd tI]
abbrev yqe:List OT:= [⟨false,tL,(.ow .fz)⟩,⟨false,tB,.fz⟩]
def ylP (a0:dM) (a1:Int):Option (ResD yqe×MutD ygf) :=
 let r1:=yae a0
 bif (!(!r1)) then
 bif (!a0.2.2.1) then
 let r2:=yba a0 a1
 bif (!(!r2)) then
 let r3:=yco a0.2.2.2 a1
 bif r3 then
 some (([],false,()),())
 else
 bif (inb a1 a0.1.length) then
 zkh (yq4 (((a1,()),((nth a0.1 a1 []),()),(a0.2.1,()),((a0.2.1.length:Int),()),((),()),()),(),())) (fun y3 =>
 let r5:=yu y3.1.1.1
 some ((r5,true,()),())) (fun y3 =>
 none)
 else none
 else
 some (([],false,()),())
 else
 some (([],false,()),())
 else
 some (([],false,()),())
theorem yVr (x:InD ygf):zjx ⟨yp6,49,yAW⟩ Tryz.f156.results.toList yka ygf yqe x=ylP x.1 x.2.1:=by kernel_rfl
theorem yQo:ConOk Tryz.prog 156 ⟨ygf,yqe,fun x=>ylP x.1 x.2.1⟩:=zj1 (yMf) Tryz.func156 (by kernel_rfl) (by kernel_rfl) Tryz.ntmps156.symm (by decide) (fun x r h=>(yVr x).trans h)
def yd6 (a0:dM) (a1:Int):List Int×Bool:=yU a0 a1
theorem yTt (a0:dM) (a1:Int) (hk:zi2 ygf (a0,a1,())):ylP a0 a1=(fun n=>some ((n.1,n.2,()),())) (yd6 a0 a1):=by
 have hb1:a0.1.length * 24≤2 ^ 47:=hk.1.1.1
 have hb2:a0.2.1.length * 32≤2 ^ 47:=hk.1.2.1.1
 have h1: ∀ s,yq4 (yKU a1 s a0.2.1 a0.2.1.length)=some (.inl (yyo (yCq a1 a0.2.1 s))):=fun s =>
  zj3 (step:=ybG) a0.2.1 (0,[]) (fun i s=>ypD a1 s a0.2.1 a0.2.1.length i) (fun s w=>bif w.1==a1 then w.2 else s) (fun _ _=>True) (fun s=> .inl (yyo s)) (fun i s hi _=>⟨by
   simp only [ybG,ypD,ypV,zj4 (show (i:Int) < a0.2.1.length by omega),cond_true,wr (show -9223372036854775808≤(i:Int)+1 by omega) (by omega),Int.natCast_add,Int.natCast_one,Int.toNat_natCast,zkl hi,zkm]
   cases ((a0.2.1.getD i (0,[])).1==a1)<;>rfl,trivial⟩) (fun s _=>by simp only [ybG,ypD,ypV,zkx (Int.le_refl _),cond_false]) s trivial _ (by show _ < 18446744073709551616; omega)
 unfold ylP yd6 yU yqx yba
 rw [yP,ypA (show a0.1.length≤1152921504606846976 by omega)]
 unfold yae yco yu
 simp only [h1,zki]
 cases yq a0
 ·rfl
 cases a0.2.2.1
 ·cases inb a1 a0.1.length
  ·rfl
  ·cases a0.2.2.2.any (· ==a1)<;>rfl
 ·rfl
def ys5:Con:=⟨ygf,yqe,fun x=>(fun n=>some ((n.1,n.2,()),())) (yd6 x.1 x.2.1)⟩
theorem yEP:ConOk Tryz.prog 156 ys5:=(yQo).mono (fun x r hk h=>(yTt x.1 x.2.1 hk).trans h)
end
section
def yHz:Code:=(Tryz.f117.body).getD .skip
def yH6:Env:=zj2 TT [(47,yu1),(108,yu0),(156,ys5)] []
theorem yOP:FrOk Tryz.prog ⟨yH6,38,fun _=>none⟩ yHz:=zj6 yc yd ⟨yGF,yGE,yEP,trivial⟩
def yRp:Nat→Option Seg:=fun _=>none
abbrev yfi:List Par:= [.rd tA,.rd tI,.rd tI]
abbrev ymC:List OT:= [⟨false,tI,.fz⟩,⟨false,tB,.fz⟩]
def yoB (a0:dA) (a1 a2:Int):Option (ResD ymC×MutD yfi) :=
 bif (inb a1 a0.2.2.1.length) then
 let r1:=ymQ a2
 let r2:=yd6 ((nth a0.2.2.1 a1 ([],[],false,[])).1,((nth a0.2.2.1 a1 ([],[],false,[])).2).1,(((nth a0.2.2.1 a1 ([],[],false,[])).2).2)) r1
 let r3:=yfq a0 a1 a2
 bif (!(!r3)) then
 bif (!(!r2.2)) then
 bif ((r2.1.length:Int) !=1) then
 some ((0,false,()),())
 else
 bif (inb 0 r2.1.length) then
 some (((nth r2.1 0 0),true,()),())
 else none
 else
 some ((0,false,()),())
 else
 some ((0,false,()),())
 else none
theorem yX9 (x:InD yfi):zjx ⟨yH6,38,yRp⟩ Tryz.f117.results.toList yHz yfi ymC x=yoB x.1 x.2.1 x.2.2.1:=by kernel_rfl
theorem yT0:ConOk Tryz.prog 117 ⟨yfi,ymC,fun x=>yoB x.1 x.2.1 x.2.2.1⟩:=zj1 (yOP) Tryz.func117 (by kernel_rfl) (by kernel_rfl) Tryz.ntmps117.symm (by decide) (fun x r h=>(yX9 x).trans h)
def yhU (a0:dA) (a1 a2:Int):Int×Bool:=(yjr a0 a1 a2,ym a0 a1 a2)
def yyX (a0:dA) (a1 a2:Int):Bool:=inb a1 a0.2.2.1.length
theorem yWc (a0:dA) (a1 a2:Int) (hk:zi2 yfi (a0,a1,a2,())) (hq:yyX a0 a1 a2=true):yoB a0 a1 a2=(fun n=>some ((n.1,n.2,()),())) (yhU a0 a1 a2):=by
 unfold yoB yhU yjr yfq
 simp only [zkr,yGD,yd6]
 rw [show ym a0 a1 a2=(yc3 a0 a1 a2&&((ycG a0 a1 a2).2&&((ycG a0 a1 a2).1.length:Int)==1)) from rfl]
 rw [show yU (nth a0.2.2.1 a1 ([],[],false,[])) (dataAt a2)=ycG a0 a1 a2 from rfl]
 rw [show inb a1 a0.2.2.1.length=true from hq]
 cases hl:yc3 a0 a1 a2
 ·rfl
 ·cases (ycG a0 a1 a2).2
  ·rfl
  ·rw [bne]
   cases h1:(((ycG a0 a1 a2).1.length:Int)==1)
   ·rfl
   ·rw [show inb 0 (ycG a0 a1 a2).1.length=true from zjD.2 (by have:=beq_iff_eq.1 h1; omega)]; rfl
def ym0 (a0:dA) (a1 a2:Int):Option (ResD ymC×MutD yfi):=bif yyX a0 a1 a2 then (fun n=>some ((n.1,n.2,()),())) (yhU a0 a1 a2) else none
theorem yGM (a0:dA) (a1 a2:Int) (h:yyX a0 a1 a2=true):ym0 a0 a1 a2=(fun n=>some ((n.1,n.2,()),())) (yhU a0 a1 a2):=by unfold ym0; rw [h]; rfl
def yu4:Con:=⟨yfi,ymC,fun x=>ym0 x.1 x.2.1 x.2.2.1⟩
theorem yGH:ConOk Tryz.prog 117 yu4:=(yT0).mono (fun x r hk h=>zks h (fun hq=>yWc x.1 x.2.1 x.2.2.1 hk hq))
end
end
end Go.Tf
