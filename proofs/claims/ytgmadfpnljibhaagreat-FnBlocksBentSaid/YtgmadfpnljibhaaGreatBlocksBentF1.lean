/- Functions of the program, and what they come to. -/
import Derived.Test.YtgmadfpnljibhaaGreatBlocksBentF0
namespace Go.Tf
noncomputable section
open Go.Proofs
set_option synthInstance.maxHeartbeats 400000
set_option synthInstance.maxSize 10000
set_option linter.unusedVariables false
set_option linter.unusedSimpArgs false
set_option maxRecDepth 100000
section
def ybk:Code:=(Tryz.f224.body).getD .skip
def yfn:Env:=zj3 TT [(135,yn),(269,yzy)] []
theorem yXC:FrOk Tryz.prog ⟨yfn,91,fun _=>none⟩ ybk:=zj7 yb yc ⟨yu,yL1,trivial⟩
def yIE:Nat→Option Seg:=fun _=>none
def ydC:Shape:=⟨[(1,false,[.ptr 0 0]),(3,false,[.int .i64]),(4,false,[.int .i64])],[(0,[.br tL,.br tW,.bool,.br tI])],[]⟩
def yjQ:Shape:=⟨[(1,false,[.ptr 0 0]),(3,false,[.int .i64]),(4,false,[.ci .i64 0])],[(0,[.br tL,.br tW,.bool,.br tI])],[]⟩
def yjB:Shape:=⟨[(1,false,[.ptr 0 0]),(3,false,[.int .i64])],[(0,[.br tL,.br tW,.bool,.br tI])],[]⟩
def ykj:Shape:=⟨[(2,false,[.bool])],[],[]⟩
abbrev yvu (v0 v1:Int) (v2:dM):(ydC).X:=((((),()),(v0,()),(v1,()),()),((v2.1,v2.2.1,v2.2.2.1,v2.2.2.2,()),()),())
abbrev yUc (v0:Int) (v1:dM):(yjQ).X:=((((),()),(v0,()),((),()),()),((v1.1,v1.2.1,v1.2.2.1,v1.2.2.2,()),()),())
abbrev yT2 (v0:Int) (v1:dM):(yjB).X:=((((),()),(v0,()),()),((v1.1,v1.2.1,v1.2.2.1,v1.2.2.2,()),()),())
abbrev yUp (v0:Bool):(ykj).X:=(((v0,()),()),(),())
def yvT (v0 v1:Int) (v2:List (List Int)) (v3:List dW) (v4:Bool) (v5:List Int):Option ((ydC).X ⊕ ((yjB).X ⊕ (ykj).X)) :=
 bif (ltb v1 v0) then
 bif (inb v1 v2.length) then
 let r2:=yiq (nth v2 v1 [])
 bif (!r2) then
 some (.inr (.inr (((false,()),()),(),())))
 else
 some (.inl ((((),()),(v0,()),((IntKind.i64.wrap (v1+1)),()),()),((v2,v3,v4,v5,()),()),()))
 else none
 else
 some (.inr (.inl ((((),()),(v0,()),()),((v2,v3,v4,v5,()),()),())))
def yeg (x:(ydC).X):=yvT x.1.2.1.1 x.1.2.2.1.1 x.2.1.1.1 x.2.1.1.2.1 x.2.1.1.2.2.1 x.2.1.1.2.2.2.1
def yEG (x:(yjQ).X):(ydC).X:=((((),()),(x.1.2.1.1,()),(0,()),()),((x.2.1.1.1,x.2.1.1.2.1,x.2.1.1.2.2.1,x.2.1.1.2.2.2.1,()),()),())
def yG7:Code:=(zdD ybk 64 116).getD .skip
theorem yWt:zdD ybk 64 29=some (.block 0 (.loop yG7)):=by kernel_rfl
theorem yZI (x:(ydC).X):zg0 ⟨yfn,91,yIE⟩ 0 yG7 116 ydC yjB ykj x=yeg x:=by kernel_rfl
def yEW (x:(yjQ).X):Nat:=18446744073709551616
def ywJ (x:(yjQ).X):Option ((yjB).X ⊕ (ykj).X):=zz yeg (yEW x) (yEG x)
def yFH:Seg:=⟨yjQ,yjB,ykj,ywJ⟩
def yzq:Nat→Option Seg:=fun q=>bif Nat.beq q 29 then some yFH else yIE q
theorem yXD:FrOk Tryz.prog ⟨yfn,91,yzq⟩ ybk:=(yXC).loop (sg:=yFH) ydC yEG (by decide) yWt yeg yEW (by decide) (fun _=>rfl) (fun x r _ h=>h) yZI
def ydD:Shape:=⟨[(1,false,[.ptr 0 0]),(3,false,[.int .i64]),(5,false,[.int .i64])],[(0,[.br tL,.br tW,.bool,.br tI])],[]⟩
def yjR:Shape:=⟨[(1,false,[.ptr 0 0]),(3,false,[.int .i64]),(5,false,[.ci .i64 0])],[(0,[.br tL,.br tW,.bool,.br tI])],[]⟩
def yjC:Shape:=⟨[(1,false,[.ptr 0 0]),(3,false,[.int .i64])],[(0,[.br tL,.br tW,.bool,.br tI])],[]⟩
def ykk:Shape:=⟨[(2,false,[.bool])],[],[]⟩
abbrev yvv (v0 v1:Int) (v2:dM):(ydD).X:=((((),()),(v0,()),(v1,()),()),((v2.1,v2.2.1,v2.2.2.1,v2.2.2.2,()),()),())
abbrev yUd (v0:Int) (v1:dM):(yjR).X:=((((),()),(v0,()),((),()),()),((v1.1,v1.2.1,v1.2.2.1,v1.2.2.2,()),()),())
abbrev yT3 (v0:Int) (v1:dM):(yjC).X:=((((),()),(v0,()),()),((v1.1,v1.2.1,v1.2.2.1,v1.2.2.2,()),()),())
abbrev yUq (v0:Bool):(ykk).X:=(((v0,()),()),(),())
def yvU (v0 v1:Int) (v2:List (List Int)) (v3:List dW) (v4:Bool) (v5:List Int):Option ((ydD).X ⊕ ((yjC).X ⊕ (ykk).X)) :=
 bif (ltb v1 (v3.length:Int)) then
 bif (inb v1 v3.length) then
 let r6:=ya ((nth v3 v1 (0,[])).1) 0 (IntKind.i64.wrap (v0 - 1))
 bif (!(!r6)) then
 bif (inb v1 v3.length) then
 let r7:=yiq ((nth v3 v1 (0,[])).2)
 bif (!r7) then
 some (.inr (.inr (((false,()),()),(),())))
 else
 some (.inl ((((),()),(v0,()),((IntKind.i64.wrap (v1+1)),()),()),((v2,v3,v4,v5,()),()),()))
 else none
 else
 some (.inr (.inr (((false,()),()),(),())))
 else none
 else
 some (.inr (.inl ((((),()),(v0,()),()),((v2,v3,v4,v5,()),()),())))
def yeh (x:(ydD).X):=yvU x.1.2.1.1 x.1.2.2.1.1 x.2.1.1.1 x.2.1.1.2.1 x.2.1.1.2.2.1 x.2.1.1.2.2.2.1
def yEH (x:(yjR).X):(ydD).X:=((((),()),(x.1.2.1.1,()),(0,()),()),((x.2.1.1.1,x.2.1.1.2.1,x.2.1.1.2.2.1,x.2.1.1.2.2.2.1,()),()),())
def yG8:Code:=(zdD ybk 64 244).getD .skip
theorem yWu:zdD ybk 64 61=some (.block 2 (.loop yG8)):=by kernel_rfl
theorem yZJ (x:(ydD).X):zg0 ⟨yfn,91,yzq⟩ 2 yG8 244 ydD yjC ykk x=yeh x:=by kernel_rfl
def yEX (x:(yjR).X):Nat:=18446744073709551616
def ywK (x:(yjR).X):Option ((yjC).X ⊕ (ykk).X):=zz yeh (yEX x) (yEH x)
def yFI:Seg:=⟨yjR,yjC,ykk,ywK⟩
def yzr:Nat→Option Seg:=fun q=>bif Nat.beq q 61 then some yFI else yzq q
theorem yXE:FrOk Tryz.prog ⟨yfn,91,yzr⟩ ybk:=(yXD).loop (sg:=yFI) ydD yEH (by decide) yWu yeh yEX (by decide) (fun _=>rfl) (fun x r _ h=>h) yZJ
def ycI:Shape:=⟨[(1,false,[.ptr 0 0]),(3,false,[.int .i64]),(6,false,[.int .i64])],[(0,[.br tL,.br tW,.bool,.br tI])],[]⟩
def yh6:Shape:=⟨[(1,false,[.ptr 0 0]),(3,false,[.int .i64]),(6,false,[.ci .i64 0])],[(0,[.br tL,.br tW,.bool,.br tI])],[]⟩
def yhU:Shape:=⟨[(1,false,[.ptr 0 0]),(3,false,[.int .i64])],[(0,[.br tL,.br tW,.bool,.br tI])],[]⟩
def yij:Shape:=⟨[(2,false,[.bool])],[],[]⟩
abbrev yto (v0 v1:Int) (v2:dM):(ycI).X:=((((),()),(v0,()),(v1,()),()),((v2.1,v2.2.1,v2.2.2.1,v2.2.2.2,()),()),())
abbrev yRc (v0:Int) (v1:dM):(yh6).X:=((((),()),(v0,()),((),()),()),((v1.1,v1.2.1,v1.2.2.1,v1.2.2.2,()),()),())
abbrev yQ4 (v0:Int) (v1:dM):(yhU).X:=((((),()),(v0,()),()),((v1.1,v1.2.1,v1.2.2.1,v1.2.2.2,()),()),())
abbrev yRl (v0:Bool):(yij).X:=(((v0,()),()),(),())
def ytG (v0 v1:Int) (v2:List (List Int)) (v3:List dW) (v4:Bool) (v5:List Int):Option ((ycI).X ⊕ ((yhU).X ⊕ (yij).X)) :=
 bif (ltb v1 (v5.length:Int)) then
 bif (inb v1 v5.length) then
 let r10:=ya (nth v5 v1 0) 0 (IntKind.i64.wrap (v0 - 1))
 bif (!(!r10)) then
 bif (ltb 0 v1) then
 bif (inb (IntKind.i64.wrap (v1 - 1)) v5.length) then
 bif (inb v1 v5.length) then
 bif (leb (nth v5 v1 0) (nth v5 (IntKind.i64.wrap (v1 - 1)) 0)) then
 some (.inr (.inr (((false,()),()),(),())))
 else
 some (.inl ((((),()),(v0,()),((IntKind.i64.wrap (v1+1)),()),()),((v2,v3,v4,v5,()),()),()))
 else none
 else none
 else
 some (.inl ((((),()),(v0,()),((IntKind.i64.wrap (v1+1)),()),()),((v2,v3,v4,v5,()),()),()))
 else
 some (.inr (.inr (((false,()),()),(),())))
 else none
 else
 some (.inr (.inl ((((),()),(v0,()),()),((v2,v3,v4,v5,()),()),())))
def ydk (x:(ycI).X):=ytG x.1.2.1.1 x.1.2.2.1.1 x.2.1.1.1 x.2.1.1.2.1 x.2.1.1.2.2.1 x.2.1.1.2.2.2.1
def yCK (x:(yh6).X):(ycI).X:=((((),()),(x.1.2.1.1,()),(0,()),()),((x.2.1.1.1,x.2.1.1.2.1,x.2.1.1.2.2.1,x.2.1.1.2.2.2.1,()),()),())
def yEe:Code:=(zdD ybk 64 500).getD .skip
theorem ySJ:zdD ybk 64 125=some (.block 4 (.loop yEe)):=by kernel_rfl
theorem yVD (x:(ycI).X):zg0 ⟨yfn,91,yzr⟩ 4 yEe 500 ycI yhU yij x=ydk x:=by kernel_rfl
def yCW (x:(yh6).X):Nat:=18446744073709551616
def yu8 (x:(yh6).X):Option ((yhU).X ⊕ (yij).X):=zz ydk (yCW x) (yCK x)
def yDe:Seg:=⟨yh6,yhU,yij,yu8⟩
def yIF:Nat→Option Seg:=fun q=>bif Nat.beq q 125 then some yDe else yzr q
theorem yXF:FrOk Tryz.prog ⟨yfn,91,yIF⟩ ybk:=(yXE).loop (sg:=yDe) ycI yCK (by decide) ySJ ydk yCW (by decide) (fun _=>rfl) (fun x r _ h=>h) yVD
abbrev yl0:List Par:= [.rd tM]
abbrev yw5:List OT:= [⟨false,tB,.fz⟩]
def ysN (a0:dM):Option (ResD yw5×MutD yl0) :=
 zjZ (ywJ ((((),()),((a0.1.length:Int),()),((),()),()),((a0.1,a0.2.1,a0.2.2.1,a0.2.2.2,()),()),())) (fun y2 =>
 zjZ (ywK ((((),()),(y2.1.2.1.1,()),((),()),()),((y2.2.1.1.1,y2.2.1.1.2.1,y2.2.1.1.2.2.1,y2.2.1.1.2.2.2.1,()),()),())) (fun y7 =>
 zjZ (yu8 ((((),()),(y7.1.2.1.1,()),((),()),()),((y7.2.1.1.1,y7.2.1.1.2.1,y7.2.1.1.2.2.1,y7.2.1.1.2.2.2.1,()),()),())) (fun y10 =>
 let r12:=ya y10.1.2.1.1 1 20
 bif r12 then
 some (((leb (y10.2.1.1.2.1.length:Int) 60),()),())
 else
 some ((false,()),())) (fun y10 =>
 some ((y10.1.1.1,()),()))) (fun y7 =>
 some ((y7.1.1.1,()),()))) (fun y2 =>
 some ((y2.1.1.1,()),()))
theorem y4B (x:InD yl0):zjx ⟨yfn,91,yIF⟩ Tryz.f224.results.toList ybk yl0 yw5 x=ysN x.1:=by kernel_rfl
theorem y1B:ConOk Tryz.prog 224 ⟨yl0,yw5,fun x=>ysN x.1⟩:=zj2 (yXF) Tryz.func224 (by kernel_rfl) (by kernel_rfl) Tryz.ntmps224.symm (by decide) (fun x r h=>(y4B x).trans h)
def yar (a0:dM):Bool:=yw a0
theorem y3Q (a0:dM) (hk:zi2 yl0 (a0,())):ysN a0=(fun n=>some ((n,()),())) (yar a0):=by
 have hb1:a0.1.length * 24≤2 ^ 47:=hk.1.1.1
 have hb2:a0.2.1.length * 32≤2 ^ 47:=hk.1.2.1.1
 have hb3:a0.2.2.2.length * 8≤2 ^ 47:=hk.1.2.2.2.1
 have h1:ywJ (yUc a0.1.length a0)=some (bif a0.1.all yaj then .inl (yT2 a0.1.length a0) else .inr (yUp false)) :=
  zjG (step:=yeg) a0.1 [] (fun i=>yvu a0.1.length i a0) yaj _ _ (fun i hi=>by
   simp only [yeg,yvu,yvT,zj5 (show (i:Int) < a0.1.length by omega),cond_true,wr (show -9223372036854775808≤(i:Int)+1 by omega) (by omega),Int.natCast_add,Int.natCast_one,Int.toNat_natCast,zkm hi,zkn,yIa]
   cases yaj (a0.1.getD i [])<;>rfl) (by simp only [yeg,yvu,yvT,zky (Int.le_refl _),cond_false]) _ (by show _ < 18446744073709551616; omega)
 have h2:ywK (yUd a0.1.length a0)=some (bif a0.2.1.all (yyy a0.1.length) then .inl (yT3 a0.1.length a0) else .inr (yUq false)) :=
  zjG (step:=yeh) a0.2.1 (0,[]) (fun i=>yvv a0.1.length i a0) (yyy a0.1.length) _ _ (fun i hi=>by
   simp only [yeh,yvv,yvU,zj5 (show (i:Int) < a0.2.1.length by omega),cond_true,wr (show -9223372036854775808≤(i:Int)+1 by omega) (by omega),Int.natCast_add,Int.natCast_one,Int.toNat_natCast,zkm hi,zkn,yIa,yru (show a0.1.length≤1152921504606846976 by omega),yyy]
   cases inb (a0.2.1.getD i (0,[])).1 a0.1.length<;>cases yaj (a0.2.1.getD i (0,[])).2<;>rfl) (by simp only [yeh,yvv,yvU,zky (Int.le_refl _),cond_false]) _ (by show _ < 18446744073709551616; omega)
 have h3:yu8 (yRc a0.1.length a0)=some (bif (List.range a0.2.2.2.length).any (yG1 a0.1.length a0.2.2.2) then .inr (yRl false) else .inl (yQ4 a0.1.length a0)) :=
  ziO (step:=ydk) (fun i=>yto a0.1.length i a0) a0.2.2.2.length (yG1 a0.1.length a0.2.2.2) _ _ (fun i hi=>by
   simp only [ydk,yto,ytG,zj5 (show (i:Int) < a0.2.2.2.length by omega),cond_true,wr (show -9223372036854775808≤(i:Int)+1 by omega) (by omega),Int.natCast_add,Int.natCast_one,Int.toNat_natCast,zkm hi,zkn,yru (show a0.1.length≤1152921504606846976 by omega),yG1]
   rcases Nat.eq_zero_or_pos i with rfl | h0
   ·cases inb (a0.2.2.2.getD 0 0) a0.1.length<;>rfl
   ·rw [show IntKind.i64.wrap ((i:Int) - 1)=((i - 1:Nat):Int) by rw [wr (by omega) (by omega)]; omega,zkm (show i - 1 < a0.2.2.2.length by omega),zkn,zj5 (show (0:Int) < i by omega),decide_eq_true h0]
    cases inb (a0.2.2.2.getD i 0) a0.1.length<;>cases leb (a0.2.2.2.getD i 0) (a0.2.2.2.getD (i - 1) 0)<;>rfl) (by simp only [ydk,yto,ytG,zky (Int.le_refl _),cond_false]) _ (by show _ < 18446744073709551616; omega)
 unfold ysN yar yw
 rw [h1]
 cases a0.1.all yaj
 ·rfl
 simp only [cond_true,zki,h2]
 cases a0.2.1.all (yyy a0.1.length)
 ·rfl
 simp only [cond_true,zki,h3,y2v,ybE]
 cases ysv a0.1.length a0.2.2.2
 ·rfl
 simp only [Bool.not_true,cond_false,zki]
 cases leb 1 (a0.1.length:Int)<;>cases leb (a0.1.length:Int) 20<;>rfl
def yhy:Con:=⟨yl0,yw5,fun x=>(fun n=>some ((n,()),())) (yar x.1)⟩
theorem yoO:ConOk Tryz.prog 224 yhy:=(y1B).mono (fun x r hk h=>(y3Q x.1 hk).trans h)
end
section
def ynX:Code:=(Tryz.f136.body).getD .skip
def yt9:Env:=zj3 TT [(139,yqf),(224,yhy)] []
theorem yTK:FrOk Tryz.prog ⟨yt9,51,fun _=>none⟩ ynX:=zj7 yb yc ⟨yzK,yoO,trivial⟩
def yGA:Nat→Option Seg:=fun _=>none
def ycP:Shape:=⟨[(1,false,[.ptr 0 0]),(3,false,[.int .i64])],[(0,[.int .i64,.int .i64,.int .i64,.br tM,.int .i64,.int .i64,.int .i64,.int .i64,.int .i64,.br tW,.int .i64,.bool,.bool])],[]⟩
def yid:Shape:=⟨[(1,false,[.ptr 0 0]),(3,false,[.ci .i64 0])],[(0,[.int .i64,.int .i64,.int .i64,.br tM,.int .i64,.int .i64,.int .i64,.int .i64,.int .i64,.br tW,.int .i64,.bool,.bool])],[]⟩
def yh1:Shape:=⟨[(1,false,[.ptr 0 0])],[(0,[.int .i64,.int .i64,.int .i64,.br tM,.int .i64,.int .i64,.int .i64,.int .i64,.int .i64,.br tW,.int .i64,.bool,.bool])],[]⟩
def yik:Shape:=⟨[(2,false,[.bool])],[],[]⟩
abbrev ytt (v0:Int) (v1:dA):(ycP).X:=((((),()),(v0,()),()),((v1.1,v1.2.1.1,v1.2.1.2,v1.2.2.1,v1.2.2.2.1,v1.2.2.2.2.1,v1.2.2.2.2.2.1,v1.2.2.2.2.2.2.1,v1.2.2.2.2.2.2.2.1,v1.2.2.2.2.2.2.2.2.1,v1.2.2.2.2.2.2.2.2.2.1,v1.2.2.2.2.2.2.2.2.2.2.1,v1.2.2.2.2.2.2.2.2.2.2.2,()),()),())
abbrev yRi (v0:dA):(yid).X:=((((),()),((),()),()),((v0.1,v0.2.1.1,v0.2.1.2,v0.2.2.1,v0.2.2.2.1,v0.2.2.2.2.1,v0.2.2.2.2.2.1,v0.2.2.2.2.2.2.1,v0.2.2.2.2.2.2.2.1,v0.2.2.2.2.2.2.2.2.1,v0.2.2.2.2.2.2.2.2.2.1,v0.2.2.2.2.2.2.2.2.2.2.1,v0.2.2.2.2.2.2.2.2.2.2.2,()),()),())
abbrev yQ8 (v0:dA):(yh1).X:=((((),()),()),((v0.1,v0.2.1.1,v0.2.1.2,v0.2.2.1,v0.2.2.2.1,v0.2.2.2.2.1,v0.2.2.2.2.2.1,v0.2.2.2.2.2.2.1,v0.2.2.2.2.2.2.2.1,v0.2.2.2.2.2.2.2.2.1,v0.2.2.2.2.2.2.2.2.2.1,v0.2.2.2.2.2.2.2.2.2.2.1,v0.2.2.2.2.2.2.2.2.2.2.2,()),()),())
abbrev yRm (v0:Bool):(yik).X:=(((v0,()),()),(),())
def ytM (v0 v1 v2 v3:Int) (v4:List dM) (v5 v6 v7 v8 v9:Int) (v10:List dW) (v11:Int) (v12 v13:Bool):Option ((ycP).X ⊕ ((yh1).X ⊕ (yik).X)) :=
 bif (ltb v0 (v4.length:Int)) then
 bif (inb v0 v4.length) then
 let r3:=yar ((nth v4 v0 ([],[],false,[])).1,((nth v4 v0 ([],[],false,[])).2).1,(((nth v4 v0 ([],[],false,[])).2).2))
 bif (!(!r3)) then
 let r4:=ycB (v2,v3)
 bif (!((((nth v4 v0 ([],[],false,[])).1).length:Int) !=r4)) then
 bif (((nth v4 v0 ([],[],false,[])).2).2).1 then
 bif (v0 !=v5) then
 bif (!v13) then
 some (.inr (.inr (((false,()),()),(),())))
 else
 some (.inl ((((),()),((IntKind.i64.wrap (v0+1)),()),()),((v1,v2,v3,v4,v5,v6,v7,v8,v9,v10,v11,v12,v13,()),()),()))
 else
 some (.inl ((((),()),((IntKind.i64.wrap (v0+1)),()),()),((v1,v2,v3,v4,v5,v6,v7,v8,v9,v10,v11,v12,v13,()),()),()))
 else
 some (.inl ((((),()),((IntKind.i64.wrap (v0+1)),()),()),((v1,v2,v3,v4,v5,v6,v7,v8,v9,v10,v11,v12,v13,()),()),()))
 else
 some (.inr (.inr (((false,()),()),(),())))
 else
 some (.inr (.inr (((false,()),()),(),())))
 else none
 else
 some (.inr (.inl ((((),()),()),((v1,v2,v3,v4,v5,v6,v7,v8,v9,v10,v11,v12,v13,()),()),())))
def ydp (x:(ycP).X):=ytM x.1.2.1.1 x.2.1.1.1 x.2.1.1.2.1 x.2.1.1.2.2.1 x.2.1.1.2.2.2.1 x.2.1.1.2.2.2.2.1 x.2.1.1.2.2.2.2.2.1 x.2.1.1.2.2.2.2.2.2.1 x.2.1.1.2.2.2.2.2.2.2.1 x.2.1.1.2.2.2.2.2.2.2.2.1 x.2.1.1.2.2.2.2.2.2.2.2.2.1 x.2.1.1.2.2.2.2.2.2.2.2.2.2.1 x.2.1.1.2.2.2.2.2.2.2.2.2.2.2.1 x.2.1.1.2.2.2.2.2.2.2.2.2.2.2.2.1
def yCR (x:(yid).X):(ycP).X:=((((),()),(0,()),()),((x.2.1.1.1,x.2.1.1.2.1,x.2.1.1.2.2.1,x.2.1.1.2.2.2.1,x.2.1.1.2.2.2.2.1,x.2.1.1.2.2.2.2.2.1,x.2.1.1.2.2.2.2.2.2.1,x.2.1.1.2.2.2.2.2.2.2.1,x.2.1.1.2.2.2.2.2.2.2.2.1,x.2.1.1.2.2.2.2.2.2.2.2.2.1,x.2.1.1.2.2.2.2.2.2.2.2.2.2.1,x.2.1.1.2.2.2.2.2.2.2.2.2.2.2.1,x.2.1.1.2.2.2.2.2.2.2.2.2.2.2.2.1,()),()),())
def yEl:Code:=(zdD ynX 64 52).getD .skip
theorem ySQ:zdD ynX 64 13=some (.block 0 (.loop yEl)):=by kernel_rfl
theorem yVK (x:(ycP).X):zg0 ⟨yt9,51,yGA⟩ 0 yEl 52 ycP yh1 yik x=ydp x:=by kernel_rfl
def yC3 (x:(yid).X):Nat:=18446744073709551616
def yve (x:(yid).X):Option ((yh1).X ⊕ (yik).X):=zz ydp (yC3 x) (yCR x)
def yDl:Seg:=⟨yid,yh1,yik,yve⟩
def yGB:Nat→Option Seg:=fun q=>bif Nat.beq q 13 then some yDl else yGA q
theorem yTL:FrOk Tryz.prog ⟨yt9,51,yGB⟩ ynX:=(yTK).loop (sg:=yDl) ycP yCR (by decide) ySQ ydp yC3 (by decide) (fun _=>rfl) (fun x r _ h=>h) yVK
abbrev ygm:List Par:= [.rd tA]
abbrev yor:List OT:= [⟨false,tB,.fz⟩]
def yqA (a0:dA):Option (ResD yor×MutD ygm) :=
 zjZ (yve ((((),()),((),()),()),((a0.1,a0.2.1.1,a0.2.1.2,a0.2.2.1,a0.2.2.2.1,a0.2.2.2.2.1,a0.2.2.2.2.2.1,a0.2.2.2.2.2.2.1,a0.2.2.2.2.2.2.2.1,a0.2.2.2.2.2.2.2.2.1,a0.2.2.2.2.2.2.2.2.2.1,a0.2.2.2.2.2.2.2.2.2.2.1,a0.2.2.2.2.2.2.2.2.2.2.2,()),()),())) (fun y4 =>
 some ((((y4.2.1.1.2.2.2.1.length:Int)==y4.2.1.1.2.1),()),())) (fun y4 =>
 some ((y4.1.1.1,()),()))
theorem y3t (x:InD ygm):zjx ⟨yt9,51,yGB⟩ Tryz.f136.results.toList ynX ygm yor x=yqA x.1:=by kernel_rfl
theorem yY9:ConOk Tryz.prog 136 ⟨ygm,yor,fun x=>yqA x.1⟩:=zj2 (yTL) Tryz.func136 (by kernel_rfl) (by kernel_rfl) Tryz.ntmps136.symm (by decide) (fun x r h=>(y3t x).trans h)
def yoK (a0:dA):Bool:=yoz a0
def yBI (a0:dA):Bool:=yg a0.2.1
theorem y1i (a0:dA) (hk:zi2 ygm (a0,())) (hq:yBI a0=true):yqA a0=(fun n=>some ((n,()),())) (yoK a0):=by
 have hb:a0.2.2.1.length * 80≤2 ^ 47:=hk.1.2.2.1.1
 have hg:=yk.1 hq
 have h1:yve (yRi a0)=some (bif (List.range a0.2.2.1.length).any (yin a0) then .inr (yRm false) else .inl (yQ8 a0)) :=
  ziO (step:=ydp) (fun i=>ytt i a0) a0.2.2.1.length (yin a0) _ _ (fun i hi=>by
   simp only [ydp,ytt,ytM,zj5 (show (i:Int) < a0.2.2.1.length by omega),cond_true,wr (show -9223372036854775808≤(i:Int)+1 by omega) (by omega),Int.natCast_add,Int.natCast_one,Int.toNat_natCast,zkm hi,zks,yar,yin,ycB,wr (show -9223372036854775808≤6+a0.2.1.2 by omega) (by omega),noMem]
   cases yw (nth a0.2.2.1 i ([],[],false,[]))<;>cases (((nth a0.2.2.1 i ([],[],false,[])).1.length:Int) !=6+a0.2.1.2)<;>cases (nth a0.2.2.1 i ([],[],false,[])).2.2.1<;>cases ((i:Int) !=a0.2.2.2.1)<;>cases a0.2.2.2.2.2.2.2.2.2.2.2<;>rfl) (by simp only [ydp,ytt,ytM,zky (Int.le_refl _),cond_false]) _ (by show _ < 18446744073709551616; omega)
 unfold yqA yoK yoz
 rw [h1]
 cases (List.range a0.2.2.1.length).any (yin a0)<;>rfl
def yuV (a0:dA):Option (ResD yor×MutD ygm):=bif yBI a0 then (fun n=>some ((n,()),())) (yoK a0) else none
theorem y2n (a0:dA) (h:yBI a0=true):yuV a0=(fun n=>some ((n,()),())) (yoK a0):=by unfold yuV; rw [h]; rfl
def yHv:Con:=⟨ygm,yor,fun x=>yuV x.1⟩
theorem y2f:ConOk Tryz.prog 136 yHv:=(yY9).mono (fun x r hk h=>zkt h (fun hq=>y1i x.1 hk hq))
end
section
def ylJ:Code:=(Tryz.f137.body).getD .skip
def yr9:Env:=zj3 TT [(135,yn),(225,yim)] []
theorem yQU:FrOk Tryz.prog ⟨yr9,57,fun _=>none⟩ ylJ:=zj7 yb yc ⟨yu,yqm,trivial⟩
def yD0:Nat→Option Seg:=fun _=>none
def yb4:Shape:=⟨[(1,false,[.ptr 0 0]),(3,false,[.int .i64])],[(0,[.int .i64,.int .i64,.int .i64,.br tM,.int .i64,.int .i64,.int .i64,.int .i64,.int .i64,.br tW,.int .i64,.bool,.bool])],[]⟩
def ygW:Shape:=⟨[(1,false,[.ptr 0 0]),(3,false,[.ci .i64 0])],[(0,[.int .i64,.int .i64,.int .i64,.br tM,.int .i64,.int .i64,.int .i64,.int .i64,.int .i64,.br tW,.int .i64,.bool,.bool])],[]⟩
def ygK:Shape:=⟨[],[],[]⟩
def yg0:Shape:=⟨[(2,false,[.bool])],[],[]⟩
abbrev yrG (v0:Int) (v1:dA):(yb4).X:=((((),()),(v0,()),()),((v1.1,v1.2.1.1,v1.2.1.2,v1.2.2.1,v1.2.2.2.1,v1.2.2.2.2.1,v1.2.2.2.2.2.1,v1.2.2.2.2.2.2.1,v1.2.2.2.2.2.2.2.1,v1.2.2.2.2.2.2.2.2.1,v1.2.2.2.2.2.2.2.2.2.1,v1.2.2.2.2.2.2.2.2.2.2.1,v1.2.2.2.2.2.2.2.2.2.2.2,()),()),())
abbrev yO3 (v0:dA):(ygW).X:=((((),()),((),()),()),((v0.1,v0.2.1.1,v0.2.1.2,v0.2.2.1,v0.2.2.2.1,v0.2.2.2.2.1,v0.2.2.2.2.2.1,v0.2.2.2.2.2.2.1,v0.2.2.2.2.2.2.2.1,v0.2.2.2.2.2.2.2.2.1,v0.2.2.2.2.2.2.2.2.2.1,v0.2.2.2.2.2.2.2.2.2.2.1,v0.2.2.2.2.2.2.2.2.2.2.2,()),()),())
abbrev yOR  :(ygK).X:=((),(),())
abbrev yO6 (v0:Bool):(yg0).X:=(((v0,()),()),(),())
def yr0 (v0 v1 v2 v3:Int) (v4:List dM) (v5 v6 v7 v8 v9:Int) (v10:List dW) (v11:Int) (v12 v13:Bool):Option ((yb4).X ⊕ ((ygK).X ⊕ (yg0).X)) :=
 bif (ltb v0 (v10.length:Int)) then
 bif (inb v0 v10.length) then
 let r3:=ya ((nth v10 v0 (0,[])).1) 0 (IntKind.i64.wrap (v3 - 1))
 bif (!(!r3)) then
 bif (!((((nth v10 v0 (0,[])).2).length:Int) !=(IntKind.i64.wrap (v2 - 1)))) then
 let r4:=yU ((nth v10 v0 (0,[])).2)
 bif (!(!r4)) then
 bif (ltb 0 v0) then
 bif (inb (IntKind.i64.wrap (v0 - 1)) v10.length) then
 bif (leb ((nth v10 v0 (0,[])).1) ((nth v10 (IntKind.i64.wrap (v0 - 1)) (0,[])).1)) then
 some (.inr (.inr (((false,()),()),(),())))
 else
 some (.inl ((((),()),((IntKind.i64.wrap (v0+1)),()),()),((v1,v2,v3,v4,v5,v6,v7,v8,v9,v10,v11,v12,v13,()),()),()))
 else none
 else
 some (.inl ((((),()),((IntKind.i64.wrap (v0+1)),()),()),((v1,v2,v3,v4,v5,v6,v7,v8,v9,v10,v11,v12,v13,()),()),()))
 else
 some (.inr (.inr (((false,()),()),(),())))
 else
 some (.inr (.inr (((false,()),()),(),())))
 else
 some (.inr (.inr (((false,()),()),(),())))
 else none
 else
 some (.inr (.inl ((),(),())))
def yco (x:(yb4).X):=yr0 x.1.2.1.1 x.2.1.1.1 x.2.1.1.2.1 x.2.1.1.2.2.1 x.2.1.1.2.2.2.1 x.2.1.1.2.2.2.2.1 x.2.1.1.2.2.2.2.2.1 x.2.1.1.2.2.2.2.2.2.1 x.2.1.1.2.2.2.2.2.2.2.1 x.2.1.1.2.2.2.2.2.2.2.2.1 x.2.1.1.2.2.2.2.2.2.2.2.2.1 x.2.1.1.2.2.2.2.2.2.2.2.2.2.1 x.2.1.1.2.2.2.2.2.2.2.2.2.2.2.1 x.2.1.1.2.2.2.2.2.2.2.2.2.2.2.2.1
def yAO (x:(ygW).X):(yb4).X:=((((),()),(0,()),()),((x.2.1.1.1,x.2.1.1.2.1,x.2.1.1.2.2.1,x.2.1.1.2.2.2.1,x.2.1.1.2.2.2.2.1,x.2.1.1.2.2.2.2.2.1,x.2.1.1.2.2.2.2.2.2.1,x.2.1.1.2.2.2.2.2.2.2.1,x.2.1.1.2.2.2.2.2.2.2.2.1,x.2.1.1.2.2.2.2.2.2.2.2.2.1,x.2.1.1.2.2.2.2.2.2.2.2.2.2.1,x.2.1.1.2.2.2.2.2.2.2.2.2.2.2.1,x.2.1.1.2.2.2.2.2.2.2.2.2.2.2.2.1,()),()),())
def yCr:Code:=(zdD ylJ 64 52).getD .skip
theorem yQi:zdD ylJ 64 13=some (.block 0 (.loop yCr)):=by kernel_rfl
theorem ySd (x:(yb4).X):zg0 ⟨yr9,57,yD0⟩ 0 yCr 52 yb4 ygK yg0 x=yco x:=by kernel_rfl
def yA3 (x:(ygW).X):Nat:=18446744073709551616
def ys9 (x:(ygW).X):Option ((ygK).X ⊕ (yg0).X):=zz yco (yA3 x) (yAO x)
def yBt:Seg:=⟨ygW,ygK,yg0,ys9⟩
def yD1:Nat→Option Seg:=fun q=>bif Nat.beq q 13 then some yBt else yD0 q
theorem yQV:FrOk Tryz.prog ⟨yr9,57,yD1⟩ ylJ:=(yQU).loop (sg:=yBt) yb4 yAO (by decide) yQi yco yA3 (by decide) (fun _=>rfl) (fun x r _ h=>h) ySd
abbrev yeY:List Par:= [.rd tA]
abbrev ymh:List OT:= [⟨false,tB,.fz⟩]
def ynJ (a0:dA):Option (ResD ymh×MutD yeY) :=
 zjZ (ys9 ((((),()),((),()),()),((a0.1,a0.2.1.1,a0.2.1.2,a0.2.2.1,a0.2.2.2.1,a0.2.2.2.2.1,a0.2.2.2.2.2.1,a0.2.2.2.2.2.2.1,a0.2.2.2.2.2.2.2.1,a0.2.2.2.2.2.2.2.2.1,a0.2.2.2.2.2.2.2.2.2.1,a0.2.2.2.2.2.2.2.2.2.2.1,a0.2.2.2.2.2.2.2.2.2.2.2,()),()),())) (fun y4 =>
 some ((true,()),())) (fun y4 =>
 some ((y4.1.1.1,()),()))
theorem y0D (x:InD yeY):zjx ⟨yr9,57,yD1⟩ Tryz.f137.results.toList ylJ yeY ymh x=ynJ x.1:=by kernel_rfl
theorem yVd:ConOk Tryz.prog 137 ⟨yeY,ymh,fun x=>ynJ x.1⟩:=zj2 (yQV) Tryz.func137 (by kernel_rfl) (by kernel_rfl) Tryz.ntmps137.symm (by decide) (fun x r h=>(y0D x).trans h)
def ymH (a0:dA):Bool:=yaK a0.2.1 a0.2.2.2.2.2.2.2.2.1
def yzP (a0:dA):Bool:=yg a0.2.1
theorem yjb (l:List Int):yU l=l.all isW:=by
 unfold yU
 rw [show yv=isW from funext fun x=>by unfold yv; rw [ybE]; rfl]
theorem yYx (a0:dA) (hk:zi2 yeY (a0,())) (hq:yzP a0=true):ynJ a0=(fun n=>some ((n,()),())) (ymH a0):=by
 have hb:a0.2.2.2.2.2.2.2.2.1.length * 32≤2 ^ 47:=hk.1.2.2.2.2.2.2.2.2.1.1
 have hg:=yk.1 hq
 have h1:ys9 (yO3 a0)=some (bif (List.range a0.2.2.2.2.2.2.2.2.1.length).any (yi7 a0.2.1 a0.2.2.2.2.2.2.2.2.1) then .inr (yO6 false) else .inl yOR) :=
  ziO (step:=yco) (fun i=>yrG i a0) a0.2.2.2.2.2.2.2.2.1.length (yi7 a0.2.1 a0.2.2.2.2.2.2.2.2.1) _ _ (fun i hi=>by
   simp only [yco,yrG,yr0,zj5 (show (i:Int) < a0.2.2.2.2.2.2.2.2.1.length by omega),cond_true,wr (show -9223372036854775808≤(i:Int)+1 by omega) (by omega),Int.natCast_add,Int.natCast_one,Int.toNat_natCast,zkm hi,ybE,yjb,wr (show -9223372036854775808≤a0.2.1.2 - 1 by omega) (by omega),wr (show -9223372036854775808≤a0.2.1.1 - 1 by omega) (by omega),yi7]
   rcases Nat.eq_zero_or_pos i with rfl | h0
   ·cases (leb 0 (nth a0.2.2.2.2.2.2.2.2.1 ((0:Nat):Int) (0,[])).1&&leb (nth a0.2.2.2.2.2.2.2.2.1 ((0:Nat):Int) (0,[])).1 (a0.2.1.2 - 1))<;>cases (((nth a0.2.2.2.2.2.2.2.2.1 ((0:Nat):Int) (0,[])).2.length:Int) !=a0.2.1.1 - 1)<;>cases ((nth a0.2.2.2.2.2.2.2.2.1 ((0:Nat):Int) (0,[])).2.all isW)<;>rfl
   ·rw [show IntKind.i64.wrap ((i:Int) - 1)=((i - 1:Nat):Int) by rw [wr (by omega) (by omega)]; omega,zkm (show i - 1 < a0.2.2.2.2.2.2.2.2.1.length by omega),zj5 (show (0:Int) < i by omega),decide_eq_true h0]
    cases (leb 0 (nth a0.2.2.2.2.2.2.2.2.1 (i:Int) (0,[])).1&&leb (nth a0.2.2.2.2.2.2.2.2.1 (i:Int) (0,[])).1 (a0.2.1.2 - 1))<;>cases (((nth a0.2.2.2.2.2.2.2.2.1 (i:Int) (0,[])).2.length:Int) !=a0.2.1.1 - 1)<;>cases ((nth a0.2.2.2.2.2.2.2.2.1 (i:Int) (0,[])).2.all isW)<;>cases leb (nth a0.2.2.2.2.2.2.2.2.1 (i:Int) (0,[])).1 (nth a0.2.2.2.2.2.2.2.2.1 ((i - 1:Nat):Int) (0,[])).1<;>rfl) (by simp only [yco,yrG,yr0,zky (Int.le_refl _),cond_false]) _ (by show _ < 18446744073709551616; omega)
 unfold ynJ ymH yaK
 rw [h1]
 cases (List.range a0.2.2.2.2.2.2.2.2.1.length).any (yi7 a0.2.1 a0.2.2.2.2.2.2.2.2.1)<;>rfl
def ysE (a0:dA):Option (ResD ymh×MutD yeY):=bif yzP a0 then (fun n=>some ((n,()),())) (ymH a0) else none
theorem yZB (a0:dA) (h:yzP a0=true):ysE a0=(fun n=>some ((n,()),())) (ymH a0):=by unfold ysE; rw [h]; rfl
def yEz:Con:=⟨yeY,ymh,fun x=>ysE x.1⟩
theorem yZw:ConOk Tryz.prog 137 yEz:=(yVd).mono (fun x r hk h=>zkt h (fun hq=>yYx x.1 hk hq))
end
section
def yM9:Code:=(Tryz.f46.body).getD .skip
def yNv:Env:=zj3 TT [(134,yhx),(135,yn),(136,yHv),(137,yEz)] []
theorem yXA:FrOk Tryz.prog ⟨yNv,78,fun _=>none⟩ yM9:=zj7 yb yc ⟨yoN,yu,y2f,yZw,trivial⟩
def yZZ:Nat→Option Seg:=fun _=>none
abbrev ylY:List Par:= [.rd tA]
abbrev yw3:List OT:= [⟨false,tB,.fz⟩]
def ysM (a0:dA):Option (ResD yw3×MutD ylY) :=
 let r1:=yg a0.2.1
 bif (!(!r1)) then
 let r2:=ya a0.1 1 60000
 bif (!(!r2)) then
 bnd (yuV a0) fun r3 =>
 bif (!(!r3.1.1)) then
 bnd (ysE a0) fun r4 =>
 bif (!r4.1.1) then
 some ((false,()),())
 else
 let r5:=ya a0.2.2.2.1 (-1) (IntKind.i64.wrap (a0.2.1.1 - 1))
 bif (!(!r5)) then
 let r6:=ya a0.2.2.2.2.1 0 a0.2.1.2
 bif (!(!r6)) then
 bif (a0.2.2.2.1==(-1)) then
 bif (a0.2.2.2.2.1 !=0) then
 some ((false,()),())
 else
 let r7:=ya a0.2.2.2.2.2.2.1 0 60000
 bif r7 then
 let r8:=ya a0.2.2.2.2.2.1 a0.2.2.2.2.2.2.1 60000
 bif r8 then
 bif (leb a0.2.2.2.2.2.1 (IntKind.i64.wrap (a0.2.2.2.2.2.2.1+4))) then
 let r9:=ya a0.2.2.2.2.2.2.2.1 0 60000
 bif r9 then
 let r10:=ya a0.2.2.2.2.2.2.2.2.2.1 (-1) 1000
 some ((r10,()),())
 else
 some ((false,()),())
 else
 some ((false,()),())
 else
 some ((false,()),())
 else
 some ((false,()),())
 else
 let r11:=ya a0.2.2.2.2.2.2.1 0 60000
 bif r11 then
 let r12:=ya a0.2.2.2.2.2.1 a0.2.2.2.2.2.2.1 60000
 bif r12 then
 bif (leb a0.2.2.2.2.2.1 (IntKind.i64.wrap (a0.2.2.2.2.2.2.1+4))) then
 let r13:=ya a0.2.2.2.2.2.2.2.1 0 60000
 bif r13 then
 let r14:=ya a0.2.2.2.2.2.2.2.2.2.1 (-1) 1000
 some ((r14,()),())
 else
 some ((false,()),())
 else
 some ((false,()),())
 else
 some ((false,()),())
 else
 some ((false,()),())
 else
 some ((false,()),())
 else
 some ((false,()),())
 else
 some ((false,()),())
 else
 some ((false,()),())
 else
 some ((false,()),())
theorem y4z (x:InD ylY):zjx ⟨yNv,78,yZZ⟩ Tryz.f46.results.toList yM9 ylY yw3 x=ysM x.1:=by kernel_rfl
theorem y1z:ConOk Tryz.prog 46 ⟨ylY,yw3,fun x=>ysM x.1⟩:=zj2 (yXA) Tryz.func46 (by kernel_rfl) (by kernel_rfl) Tryz.ntmps46.symm (by decide) (fun x r h=>(y4z x).trans h)
def yZ (a0:dA):Bool:=yx a0
theorem y3O (a0:dA) (hk:zi2 ylY (a0,())):ysM a0=(fun n=>some ((n,()),())) (yZ a0):=by
 unfold ysM yZ yx
 simp only [ybE]
 cases hg:yg a0.2.1
 ·rfl
 have hg2:=yk.1 hg
 rw [y2n a0 hg,yZB a0 hg,wr (show -9223372036854775808≤a0.2.1.1 - 1 by omega) (by omega)]
 simp only [zkd,yoK,ymH,Bool.not_not,cond_true]
 cases (leb 1 a0.1&&leb a0.1 60000)
 ·rfl
 cases yoz a0
 ·rfl
 cases yaK a0.2.1 a0.2.2.2.2.2.2.2.2.1
 ·rfl
 cases (leb (-1) a0.2.2.2.1&&leb a0.2.2.2.1 (a0.2.1.1 - 1))
 ·rfl
 cases (leb 0 a0.2.2.2.2.1&&leb a0.2.2.2.2.1 a0.2.1.2)
 ·rfl
 have ht:(leb 0 a0.2.2.2.2.2.2.1&&leb a0.2.2.2.2.2.2.1 60000)=true→IntKind.i64.wrap (a0.2.2.2.2.2.2.1+4)=a0.2.2.2.2.2.2.1+4:=fun h=>by
  rw [Bool.and_eq_true,zjE,zjE]at h
  exact wr (by omega) (by omega)
 cases hT:(leb 0 a0.2.2.2.2.2.2.1&&leb a0.2.2.2.2.2.2.1 60000)
 ·cases (a0.2.2.2.1== -1)<;>cases (a0.2.2.2.2.1 !=0)<;>rfl
 rw [ht hT]
 cases (leb a0.2.2.2.2.2.2.1 a0.2.2.2.2.2.1&&leb a0.2.2.2.2.2.1 60000)
 ·cases (a0.2.2.2.1== -1)<;>cases (a0.2.2.2.2.1 !=0)<;>rfl
 cases leb a0.2.2.2.2.2.1 (a0.2.2.2.2.2.2.1+4)
 ·cases (a0.2.2.2.1== -1)<;>cases (a0.2.2.2.2.1 !=0)<;>rfl
 cases (leb 0 a0.2.2.2.2.2.2.2.1&&leb a0.2.2.2.2.2.2.2.1 60000)<;>cases (a0.2.2.2.1== -1)<;>cases (a0.2.2.2.2.1 !=0)<;>rfl
def ysw:Con:=⟨ylY,yw3,fun x=>(fun n=>some ((n,()),())) (yZ x.1)⟩
theorem yBE:ConOk Tryz.prog 46 ysw:=(y1z).mono (fun x r hk h=>(y3O x.1 hk).trans h)
end
section
def yIf:Code:=(Tryz.f100.body).getD .skip
def yI0:Env:=zj3 TT [] []
theorem yQC:FrOk Tryz.prog ⟨yI0,6,fun _=>none⟩ yIf:=zj7 yb yc trivial
def ySt:Nat→Option Seg:=fun _=>none
abbrev ylU:List Par:= [.rd tG]
abbrev ysi:List OT:= [⟨false,tI,.fz⟩]
def yvI (a0:dG):Option (ResD ysi×MutD ylU) :=
 some (((IntKind.i64.wrap (6+a0.2)),()),())
theorem y0q (x:InD ylU):zjx ⟨yI0,6,ySt⟩ Tryz.f100.results.toList yIf ylU ysi x=yvI x.1:=by kernel_rfl
theorem yU0:ConOk Tryz.prog 100 ⟨ylU,ysi,fun x=>yvI x.1⟩:=zj2 (yQC) Tryz.func100 (by kernel_rfl) (by kernel_rfl) Tryz.ntmps100.symm (by decide) (fun x r h=>(y0q x).trans h)
def ysz (a0:dG):Int :=
 (IntKind.i64.wrap (6+a0.2))
def yEr:Con:=⟨ylU,ysi,fun x=>(fun n=>some ((n,()),())) (ysz x.1)⟩
theorem yYn (a0:dG):yvI a0=(fun n=>some ((n,()),())) (ysz a0):=zkq (p:=fun (n:Int)=>((n,()),())) rfl
theorem yZo:ConOk Tryz.prog 100 yEr:=(yU0).mono (fun x r _ h=>(yYn x.1).trans h)
end
section
def yK8:Code:=(Tryz.f126.body).getD .skip
def yLF:Env:=zj3 TT [] []
theorem yTg:FrOk Tryz.prog ⟨yLF,15,fun _=>none⟩ yK8:=zj7 yb yc trivial
def yV4:Nat→Option Seg:=fun _=>none
abbrev yoa:List Par:= [.rd tI,.rd tI,.rd tI]
abbrev yuq:List OT:= [⟨false,tB,.fz⟩]
def yyi (a0 a1 a2:Int):Option (ResD yuq×MutD yoa) :=
 bif (leb a1 a0) then
 some (((leb a0 a2),()),())
 else
 some ((false,()),())
theorem y29 (x:InD yoa):zjx ⟨yLF,15,yV4⟩ Tryz.f126.results.toList yK8 yoa yuq x=yyi x.1 x.2.1 x.2.2.1:=by kernel_rfl
theorem yYP:ConOk Tryz.prog 126 ⟨yoa,yuq,fun x=>yyi x.1 x.2.1 x.2.2.1⟩:=zj2 (yTg) Tryz.func126 (by kernel_rfl) (by kernel_rfl) Tryz.ntmps126.symm (by decide) (fun x r h=>(y29 x).trans h)
def yf (a0 a1 a2:Int):Bool :=
 bif (leb a1 a0) then
 (leb a0 a2)
 else
 false
def yy:Con:=⟨yoa,yuq,fun x=>(fun n=>some ((n,()),())) (yf x.1 x.2.1 x.2.2.1)⟩
theorem y03 (a0 a1 a2:Int):yyi a0 a1 a2=(fun n=>some ((n,()),())) (yf a0 a1 a2):=zkq (p:=fun (n:Bool)=>((n,()),())) (zkc (p:=fun (n:Bool)=>((n,()),())) rfl rfl)
theorem yN:ConOk Tryz.prog 126 yy:=(yYP).mono (fun x r _ h=>(y03 x.1 x.2.1 x.2.2.1).trans h)
theorem yag (a b c:Int):yf a b c=ya a b c:=by kernel_rfl
end
end
end Go.Tf
