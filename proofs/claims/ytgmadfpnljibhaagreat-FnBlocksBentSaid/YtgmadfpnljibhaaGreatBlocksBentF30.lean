/- Functions of the program, and what they come to. -/
import Derived.Test.YtgmadfpnljibhaaGreatBlocksBentF29
namespace Go.Tf
noncomputable section
open Go.Proofs
set_option synthInstance.maxHeartbeats 400000
set_option synthInstance.maxSize 10000
set_option linter.unusedVariables false
set_option linter.unusedSimpArgs false
set_option maxRecDepth 100000
section
def yfk:Code:=(Tryz.f275.body).getD .skip
def yjn:Env:=zj3 TT [] []
theorem yJy:FrOk Tryz.prog ⟨yjn,19,fun _=>none⟩ yfk:=zj7 yb yc trivial
def ywm:Nat→Option Seg:=fun _=>none
def yao:Shape:=⟨[(0,false,[.br tI]),(1,false,[.int .i64]),(7,false,[.int .i64]),(8,false,[.int .i64])],[],[]⟩
def yc7:Shape:=⟨[(0,false,[.br tI]),(1,false,[.int .i64]),(7,false,[.int .i64]),(8,false,[.ci .i64 0])],[],[]⟩
def yc5:Shape:=⟨[],[],[]⟩
def yc9:Shape:=⟨[(4,false,[.int .i64])],[],[]⟩
abbrev ykM (v0:List Int) (v1 v2 v3:Int):(yao).X:=(((v0,()),(v1,()),(v2,()),(v3,()),()),(),())
abbrev yH6 (v0:List Int) (v1 v2:Int):(yc7).X:=(((v0,()),(v1,()),(v2,()),((),()),()),(),())
abbrev yH4  :(yc5).X:=((),(),())
abbrev ytZ (v0:Int):(yc9).X:=(((v0,()),()),(),())
def ykP (v0:List Int) (v1 v2 v3:Int):Option ((yao).X ⊕ ((yc5).X ⊕ (yc9).X)) :=
 bif (ltb v3 v2) then
 bif (inb v3 v0.length) then
 bif (v1==(nth v0 v3 0)) then
 some (.inr (.inr (((v3,()),()),(),())))
 else
 some (.inl (((v0,()),(v1,()),(v2,()),((IntKind.i64.wrap (v3+1)),()),()),(),()))
 else none
 else
 some (.inr (.inl ((),(),())))
def yax (x:(yao).X):=ykP x.1.1.1 x.1.2.1.1 x.1.2.2.1.1 x.1.2.2.2.1.1
def ytU (x:(yc7).X):(yao).X:=(((x.1.1.1,()),(x.1.2.1.1,()),(x.1.2.2.1.1,()),(0,()),()),(),())
def yv4:Code:=(zdD yfk 64 52).getD .skip
theorem yJd:zdD yfk 64 13=some (.block 0 (.loop yv4)):=by kernel_rfl
theorem yJ3 (x:(yao).X):zg0 ⟨yjn,19,ywm⟩ 0 yv4 52 yao yc5 yc9 x=yax x:=by kernel_rfl
def ytW (x:(yc7).X):Nat:=18446744073709551616
def ylL (x:(yc7).X):Option ((yc5).X ⊕ (yc9).X):=zz yax (ytW x) (ytU x)
def yt1:Seg:=⟨yc7,yc5,yc9,ylL⟩
def ywn:Nat→Option Seg:=fun q=>bif Nat.beq q 13 then some yt1 else ywm q
theorem yJz:FrOk Tryz.prog ⟨yjn,19,ywn⟩ yfk:=(yJy).loop (sg:=yt1) yao ytU (by decide) yJd yax ytW (by decide) (fun _=>rfl) (fun x r _ h=>h) yJ3
abbrev yc1:List Par:= [.rd tL,.rd tI]
abbrev yj4:List OT:= [⟨false,tI,.fz⟩]
def yhi (a0:List Int) (a1:Int):Option (ResD yj4×MutD yc1) :=
 zjZ (ylL (((a0,()),(a1,()),((a0.length:Int),()),((),()),()),(),())) (fun y0 =>
 some (((-1),()),())) (fun y0 =>
 some ((y0.1.1.1,()),()))
theorem yN1 (x:InD yc1):zjx ⟨yjn,19,ywn⟩ Tryz.f275.results.toList yfk yc1 yj4 x=yhi x.1 x.2.1:=by kernel_rfl
theorem yKF:ConOk Tryz.prog 275 ⟨yc1,yj4,fun x=>yhi x.1 x.2.1⟩:=zj2 (yJz) Tryz.func275 (by kernel_rfl) (by kernel_rfl) Tryz.ntmps275.symm (by decide) (fun x r h=>(yN1 x).trans h)
def y0O (l:List Int) (x:Int):Int:=bif l.any (· ==x) then ((l.takeWhile (· !=x)).length:Int) else -1
def yfJ (a0:List Int) (a1:Int):Int:=y0O a0 a1
theorem y52 {A B α:Type} {step:A→Option (A ⊕ B)} (l:List α) (d:α) (f:Nat→A) (p:α→Bool) (b:Nat→B) (c:B)
  (h: ∀ i,i < l.length→step (f i)=some (bif p (l.getD i d) then .inr (b i) else .inl (f (i+1)))) (e:step (f l.length)=some (.inr c)) (fuel:Nat) (hf:l.length < fuel) :
  zz step fuel (f 0)=some (bif l.any p then b (l.takeWhile (fun x=> !p x)).length else c):=by
 have: ∀ (t q:List α) (fuel:Nat),q++t=l→t.length < fuel→zz step fuel (f q.length)=some (bif t.any p then b (q.length+(t.takeWhile (fun x=> !p x)).length) else c):=by
  intro t
  induction t with
  | nil =>
   intro q fuel hq hf
   obtain ⟨fuel,rfl⟩: ∃ m,fuel=m+1:=⟨fuel - 1,by omega⟩
   rw [List.append_nil]at hq
   subst hq
   simp only [zz,e,List.any_nil,cond_false]
  | cons x t ih =>
   intro q fuel hq hf
   obtain ⟨fuel,rfl⟩: ∃ m,fuel=m+1:=⟨fuel - 1,by omega⟩
   have hx:l.getD q.length d=x:=by
    subst hq
    rw [zke (by simp)]; simp
   have hs:=h q.length (by rw [← hq]; simp)
   rw [hx]at hs
   cases hp:p x
   ·rw [hp]at hs
    have:=ih (q++ [x]) fuel (by rw [← hq]; simp) (by simp at hf; omega)
    simp only [List.length_append,List.length_cons,List.length_nil]at this
    simp only [zz,hs,cond_false]
    simp only [List.any_cons,hp,Bool.false_or,List.takeWhile_cons,Bool.not_false,if_true,List.length_cons]
    rw [show q.length+((t.takeWhile (fun x=> !p x)).length+1)=q.length+(0+1)+(t.takeWhile (fun x=> !p x)).length by omega]
    exact this
   ·rw [hp]at hs
    simp only [zz,hs,cond_true,List.any_cons,hp,Bool.true_or,List.takeWhile_cons,Bool.not_true,Bool.false_eq_true,if_false,List.length_nil,Nat.add_zero]
 have:=this l [] fuel rfl hf
 simpa using this
theorem yMM (a0:List Int) (a1:Int) (hk:zi2 yc1 (a0,a1,())):yhi a0 a1=(fun n=>some ((n,()),())) (yfJ a0 a1):=by
 have hb:a0.length * 8≤2 ^ 47:=hk.1.1
 have h1:ylL (yH6 a0 a1 a0.length)=some (bif a0.any (· ==a1) then .inr (ytZ ((a0.takeWhile (fun x=> !(x==a1))).length:Int)) else .inl yH4) :=
  y52 (step:=yax) a0 0 (fun i=>ykM a0 a1 a0.length i) (· ==a1) (fun i=> .inr (ytZ (i:Int))) _ (fun i hi=>by
   simp only [yax,ykM,ykP,zj5 (show (i:Int) < a0.length by omega),cond_true,wr (show -9223372036854775808≤(i:Int)+1 by omega) (by omega),Int.natCast_add,Int.natCast_one,Int.toNat_natCast,zkm hi,zkn]
   rw [show (a1==a0.getD i 0)=(a0.getD i 0==a1) by rw [Bool.eq_iff_iff,beq_iff_eq,beq_iff_eq]; exact eq_comm]
   cases (a0.getD i 0==a1)<;>rfl) (by simp only [yax,ykM,ykP,zky (Int.le_refl _),cond_false]) _ (by show _ < 18446744073709551616; omega)
 unfold yhi yfJ y0O
 rw [h1]
 cases a0.any (· ==a1)<;>rfl
def yxx:Con:=⟨yc1,yj4,fun x=>(fun n=>some ((n,()),())) (yfJ x.1 x.2.1)⟩
theorem yMW:ConOk Tryz.prog 275 yxx:=(yKF).mono (fun x r hk h=>(yMM x.1 x.2.1 hk).trans h)
end
section
def yv2:Code:=(Tryz.f236.body).getD .skip
def yv3:Env:=zj3 TT [(275,yxx)] []
theorem yEQ:FrOk Tryz.prog ⟨yv3,9,fun _=>none⟩ yv2:=zj7 yb yc ⟨yMW,trivial⟩
def yFU:Nat→Option Seg:=fun _=>none
abbrev ya9:List Par:= [.rd tL,.rd tI]
abbrev yf7:List OT:= [⟨false,tB,.fz⟩]
def yeB (a0:List Int) (a1:Int):Option (ResD yf7×MutD ya9) :=
 let r1:=yfJ a0 a1
 some (((leb 0 r1),()),())
theorem yJu (x:InD ya9):zjx ⟨yv3,9,yFU⟩ Tryz.f236.results.toList yv2 ya9 yf7 x=yeB x.1 x.2.1:=by kernel_rfl
theorem yFY:ConOk Tryz.prog 236 ⟨ya9,yf7,fun x=>yeB x.1 x.2.1⟩:=zj2 (yEQ) Tryz.func236 (by kernel_rfl) (by kernel_rfl) Tryz.ntmps236.symm (by decide) (fun x r h=>(yJu x).trans h)
def ydd (a0:List Int) (a1:Int):Bool:=a0.any (· ==a1)
theorem yH8 (a0:List Int) (a1:Int) (hk:zi2 ya9 (a0,a1,())):yeB a0 a1=(fun n=>some ((n,()),())) (ydd a0 a1):=by
 unfold yeB ydd yfJ y0O
 cases a0.any (· ==a1)
 ·rfl
 ·simp only [cond_true]
  rw [zkx (show (0:Int)≤((a0.takeWhile (· !=a1)).length:Int) by omega)]
def ysW:Con:=⟨ya9,yf7,fun x=>(fun n=>some ((n,()),())) (ydd x.1 x.2.1)⟩
theorem yH9:ConOk Tryz.prog 236 ysW:=(yFY).mono (fun x r hk h=>(yH8 x.1 x.2.1 hk).trans h)
end
section
def ylD:Code:=(Tryz.f156.body).getD .skip
def yr3:Env:=zj3 TT [(133,ymo),(200,yaS),(220,yqb),(236,ysW)] []
theorem yQq:FrOk Tryz.prog ⟨yr3,49,fun _=>none⟩ ylD:=zj7 yb yc ⟨yuX,ycT,yzH,yH9,trivial⟩
def yDJ:Nat→Option Seg:=fun _=>none
def ybV:Shape:=⟨[(1,false,[.int .i64]),(6,false,[.br tI]),(34,false,[.br tW]),(35,false,[.int .i64]),(36,false,[.int .i64])],[],[]⟩
def ygN:Shape:=⟨[(1,false,[.int .i64]),(6,false,[.br tI]),(34,false,[.br tW]),(35,false,[.int .i64]),(36,false,[.ci .i64 0])],[],[]⟩
def ygB:Shape:=⟨[(6,false,[.br tI])],[],[]⟩
def yk0:Shape:=⟨[],[],[]⟩
abbrev yrx (v0:Int) (v1:List Int) (v2:List dW) (v3 v4:Int):(ybV).X:=(((v0,()),(v1,()),(v2,()),(v3,()),(v4,()),()),(),())
abbrev yOU (v0:Int) (v1:List Int) (v2:List dW) (v3:Int):(ygN).X:=(((v0,()),(v1,()),(v2,()),(v3,()),((),()),()),(),())
abbrev yA6 (v0:List Int):(ygB).X:=(((v0,()),()),(),())
def yrP (v0:Int) (v1:List Int) (v2:List dW) (v3 v4:Int):Option ((ybV).X ⊕ ((ygB).X ⊕ (yk0).X)) :=
 bif (ltb v4 v3) then
 bif (inb v4 v2.length) then
 bif ((nth v2 v4 (0,[])).1==v0) then
 some (.inl (((v0,()),((nth v2 v4 (0,[])).2,()),(v2,()),(v3,()),((IntKind.i64.wrap (v4+1)),()),()),(),()))
 else
 some (.inl (((v0,()),(v1,()),(v2,()),(v3,()),((IntKind.i64.wrap (v4+1)),()),()),(),()))
 else none
 else
 some (.inr (.inl (((v1,()),()),(),())))
def ycd (x:(ybV).X):=yrP x.1.1.1 x.1.2.1.1 x.1.2.2.1.1 x.1.2.2.2.1.1 x.1.2.2.2.2.1.1
def yAD (x:(ygN).X):(ybV).X:=(((x.1.1.1,()),(x.1.2.1.1,()),(x.1.2.2.1.1,()),(x.1.2.2.2.1.1,()),(0,()),()),(),())
def yCg:Code:=(zdD ylD 64 244).getD .skip
theorem yP7:zdD ylD 64 61=some (.block 0 (.loop yCg)):=by kernel_rfl
theorem yR2 (x:(ybV).X):zg0 ⟨yr3,49,yDJ⟩ 0 yCg 244 ybV ygB yk0 x=ycd x:=by kernel_rfl
def yAS (x:(ygN).X):Nat:=18446744073709551616
def ysY (x:(ygN).X):Option ((ygB).X ⊕ (yk0).X):=zz ycd (yAS x) (yAD x)
def yBi:Seg:=⟨ygN,ygB,yk0,ysY⟩
def yDK:Nat→Option Seg:=fun q=>bif Nat.beq q 61 then some yBi else yDJ q
theorem yQr:FrOk Tryz.prog ⟨yr3,49,yDK⟩ ylD:=(yQq).loop (sg:=yBi) ybV yAD (by decide) yP7 ycd yAS (by decide) (fun _=>rfl) (fun x r _ h=>h) yR2
abbrev yho:List Par:= [.rd tM,.rd tI]
abbrev ysc:List OT:= [⟨false,tL,(.ow .fz)⟩,⟨false,tB,.fz⟩]
def yny (a0:dM) (a1:Int):Option (ResD ysc×MutD yho) :=
 let r1:=ybv a0
 bif (!(!r1)) then
 bif (!a0.2.2.1) then
 let r2:=ybz a0 a1
 bif (!(!r2)) then
 let r3:=ydd a0.2.2.2 a1
 bif r3 then
 some (([],false,()),())
 else
 bif (inb a1 a0.1.length) then
 zjZ (ysY (((a1,()),((nth a0.1 a1 []),()),(a0.2.1,()),((a0.2.1.length:Int),()),((),()),()),(),())) (fun y3 =>
 let r5:=yl y3.1.1.1
 some ((r5,true,()),())) (fun y3 =>
 none)
 else none
 else
 some (([],false,()),())
 else
 some (([],false,()),())
 else
 some (([],false,()),())
theorem y0j (x:InD yho):zjx ⟨yr3,49,yDK⟩ Tryz.f156.results.toList ylD yho ysc x=yny x.1 x.2.1:=by kernel_rfl
theorem yUT:ConOk Tryz.prog 156 ⟨yho,ysc,fun x=>yny x.1 x.2.1⟩:=zj2 (yQr) Tryz.func156 (by kernel_rfl) (by kernel_rfl) Tryz.ntmps156.symm (by decide) (fun x r h=>(y0j x).trans h)
def ymB (a0:dM) (a1:Int):List Int×Bool:=yoV a0 a1
theorem yYg (a0:dM) (a1:Int) (hk:zi2 yho (a0,a1,())):yny a0 a1=(fun n=>some ((n.1,n.2,()),())) (ymB a0 a1):=by
 have hb1:a0.1.length * 24≤2 ^ 47:=hk.1.1.1
 have hb2:a0.2.1.length * 32≤2 ^ 47:=hk.1.2.1.1
 have h1: ∀ s,ysY (yOU a1 s a0.2.1 a0.2.1.length)=some (.inl (yA6 (yJK a1 a0.2.1 s))):=fun s =>
  zj4 (step:=ycd) a0.2.1 (0,[]) (fun i s=>yrx a1 s a0.2.1 a0.2.1.length i) (fun s w=>bif w.1==a1 then w.2 else s) (fun _ _=>True) (fun s=> .inl (yA6 s)) (fun i s hi _=>⟨by
   simp only [ycd,yrx,yrP,zj5 (show (i:Int) < a0.2.1.length by omega),cond_true,wr (show -9223372036854775808≤(i:Int)+1 by omega) (by omega),Int.natCast_add,Int.natCast_one,Int.toNat_natCast,zkm hi,zkn]
   cases ((a0.2.1.getD i (0,[])).1==a1)<;>rfl,trivial⟩) (fun s _=>by simp only [ycd,yrx,yrP,zky (Int.le_refl _),cond_false]) s trivial _ (by show _ < 18446744073709551616; omega)
 unfold yny ymB yoV yJh ybz
 rw [yag,yru (show a0.1.length≤1152921504606846976 by omega)]
 unfold ybv ydd yl
 simp only [h1,zki]
 cases yw a0
 ·rfl
 cases a0.2.2.1
 ·cases inb a1 a0.1.length
  ·rfl
  ·cases a0.2.2.2.any (· ==a1)<;>rfl
 ·rfl
def yEn:Con:=⟨yho,ysc,fun x=>(fun n=>some ((n.1,n.2,()),())) (ymB x.1 x.2.1)⟩
theorem yZk:ConOk Tryz.prog 156 yEn:=(yUT).mono (fun x r hk h=>(yYg x.1 x.2.1 hk).trans h)
end
section
def yK9:Code:=(Tryz.f117.body).getD .skip
def yLG:Env:=zj3 TT [(47,yxr),(108,yxp),(156,yEn)] []
theorem yTh:FrOk Tryz.prog ⟨yLG,38,fun _=>none⟩ yK9:=zj7 yb yc ⟨yJS,yJQ,yZk,trivial⟩
def yV5:Nat→Option Seg:=fun _=>none
abbrev ygk:List Par:= [.rd tA,.rd tI,.rd tI]
abbrev yop:List OT:= [⟨false,tI,.fz⟩,⟨false,tB,.fz⟩]
def yqr (a0:dA) (a1 a2:Int):Option (ResD yop×MutD ygk) :=
 bif (inb a1 a0.2.2.1.length) then
 let r1:=yoD a2
 let r2:=ymB ((nth a0.2.2.1 a1 ([],[],false,[])).1,((nth a0.2.2.1 a1 ([],[],false,[])).2).1,(((nth a0.2.2.1 a1 ([],[],false,[])).2).2)) r1
 let r3:=ygr a0 a1 a2
 bif (!(!r3)) then
 bif (!(!r2.2)) then
 bif ((r2.1.length:Int) !=1) then
 some ((0,false,()),())
 else
 bif (inb 0 r2.1.length) then
 some (((nth r2.1 0 0),true,()),())
 else none
 else
 some ((0,false,()),())
 else
 some ((0,false,()),())
 else none
theorem y3a (x:InD ygk):zjx ⟨yLG,38,yV5⟩ Tryz.f117.results.toList yK9 ygk yop x=yqr x.1 x.2.1 x.2.2.1:=by kernel_rfl
theorem yYQ:ConOk Tryz.prog 117 ⟨ygk,yop,fun x=>yqr x.1 x.2.1 x.2.2.1⟩:=zj2 (yTh) Tryz.func117 (by kernel_rfl) (by kernel_rfl) Tryz.ntmps117.symm (by decide) (fun x r h=>(y3a x).trans h)
def yoG (a0:dA) (a1 a2:Int):Int×Bool:=(yBM a0 a1 a2,yq a0 a1 a2)
def yBG (a0:dA) (a1 a2:Int):Bool:=inb a1 a0.2.2.1.length
theorem y04 (a0:dA) (a1 a2:Int) (hk:zi2 ygk (a0,a1,a2,())) (hq:yBG a0 a1 a2=true):yqr a0 a1 a2=(fun n=>some ((n.1,n.2,()),())) (yoG a0 a1 a2):=by
 unfold yqr yoG yBM ygr
 simp only [zks,yJD,ymB]
 rw [show yq a0 a1 a2=(yda a0 a1 a2&&((yfc a0 a1 a2).2&&((yfc a0 a1 a2).1.length:Int)==1)) from rfl]
 rw [show yoV (nth a0.2.2.1 a1 ([],[],false,[])) (dataAt a2)=yfc a0 a1 a2 from rfl]
 rw [show inb a1 a0.2.2.1.length=true from hq]
 cases hl:yda a0 a1 a2
 ·rfl
 ·cases (yfc a0 a1 a2).2
  ·rfl
  ·rw [bne]
   cases h1:(((yfc a0 a1 a2).1.length:Int)==1)
   ·rfl
   ·rw [show inb 0 (yfc a0 a1 a2).1.length=true from zjD.2 (by have:=beq_iff_eq.1 h1; omega)]; rfl
def yuT (a0:dA) (a1 a2:Int):Option (ResD yop×MutD ygk):=bif yBG a0 a1 a2 then (fun n=>some ((n.1,n.2,()),())) (yoG a0 a1 a2) else none
theorem y2l (a0:dA) (a1 a2:Int) (h:yBG a0 a1 a2=true):yuT a0 a1 a2=(fun n=>some ((n.1,n.2,()),())) (yoG a0 a1 a2):=by unfold yuT; rw [h]; rfl
def yHm:Con:=⟨ygk,yop,fun x=>yuT x.1 x.2.1 x.2.2.1⟩
theorem y11:ConOk Tryz.prog 117 yHm:=(yYQ).mono (fun x r hk h=>zkt h (fun hq=>y04 x.1 x.2.1 x.2.2.1 hk hq))
end
section
def yz8:Code:=(Tryz.f204.body).getD .skip
def yAi:Env:=zj3 TT [(126,yy),(214,yzw)] []
theorem yJw:FrOk Tryz.prog ⟨yAi,20,fun _=>none⟩ yz8:=zj7 yb yc ⟨yN,yLZ,trivial⟩
def yJ8:Nat→Option Seg:=fun _=>none
abbrev ycZ:List Par:= [.rd tL,.rd tI]
abbrev yj2:List OT:= [⟨false,tI,.fz⟩]
def yhg (a0:List Int) (a1:Int):Option (ResD yj2×MutD ycZ) :=
 let r1:=yfI a0
 let r2:=yf a1 0 (IntKind.i64.wrap ((a0.length:Int) - 1))
 bif r2 then
 bif (inb a1 a0.length) then
 some (((IntKind.i64.wrap ((BitVec.ofInt IntKind.i64.bits r1 ^^^ BitVec.ofInt IntKind.i64.bits (nth a0 a1 0)).toNat:Int)),()),())
 else none
 else
 some ((r1,()),())
theorem yNZ (x:InD ycZ):zjx ⟨yAi,20,yJ8⟩ Tryz.f204.results.toList yz8 ycZ yj2 x=yhg x.1 x.2.1:=by kernel_rfl
theorem yKD:ConOk Tryz.prog 204 ⟨ycZ,yj2,fun x=>yhg x.1 x.2.1⟩:=zj2 (yJw) Tryz.func204 (by kernel_rfl) (by kernel_rfl) Tryz.ntmps204.symm (by decide) (fun x r h=>(yNZ x).trans h)
def yfG (a0:List Int) (a1:Int):Int:=yrv a0 a1
theorem yMK (a0:List Int) (a1:Int) (hk:zi2 ycZ (a0,a1,())):yhg a0 a1=(fun n=>some ((n,()),())) (yfG a0 a1):=by
 have hb:a0.length * 8≤2 ^ 47:=hk.1.1
 unfold yhg yfG yrv yfI
 rw [yag,yru (show a0.length≤1152921504606846976 by omega)]
 cases inb a1 a0.length<;>rfl
def yxs:Con:=⟨ycZ,yj2,fun x=>(fun n=>some ((n,()),())) (yfG x.1 x.2.1)⟩
theorem yMU:ConOk Tryz.prog 204 yxs:=(yKD).mono (fun x r hk h=>(yMK x.1 x.2.1 hk).trans h)
end
section
def yqG:Code:=(Tryz.f106.body).getD .skip
def ywu:Env:=zj3 TT [(45,yhw),(116,ybt),(117,yHm),(204,yxs)] []
theorem yXv:FrOk Tryz.prog ⟨ywu,62,fun _=>none⟩ yqG:=zj7 yb yc ⟨yoM,yd9,y11,yMU,trivial⟩
def yIw:Nat→Option Seg:=fun _=>none
def ycF:Shape:=⟨[(1,false,[.int .i64]),(2,false,[.ptr 0 0]),(6,false,[.at 800000000]),(7,false,[.int .i64]),(28,false,[.int .i64]),(29,false,[.int .i64])],[(0,[.int .i64,.int .i64,.int .i64,.br tM,.int .i64,.int .i64,.int .i64,.int .i64,.int .i64,.br tW,.int .i64,.bool,.bool])],[(800000000,tI,.fz)]⟩
def yh3:Shape:=⟨[(1,false,[.int .i64]),(2,false,[.ptr 0 0]),(6,false,[.at 800000000]),(7,false,[.ci .i64 (-1)]),(28,false,[.int .i64]),(29,false,[.ci .i64 0])],[(0,[.int .i64,.int .i64,.int .i64,.br tM,.int .i64,.int .i64,.int .i64,.int .i64,.int .i64,.br tW,.int .i64,.bool,.bool])],[(800000000,tI,.fz)]⟩
def yhR:Shape:=⟨[(6,false,[.at 800000000]),(7,false,[.int .i64])],[],[(800000000,tI,.fz)]⟩
def yii:Shape:=⟨[(4,false,[.nil]),(5,false,[.bool])],[],[]⟩
abbrev ytm (v0 v1 v2 v3:Int) (v4:dA) (v5:List Int):(ycF).X:=(((v0,()),((),()),((),()),(v1,()),(v2,()),(v3,()),()),((v4.1,v4.2.1.1,v4.2.1.2,v4.2.2.1,v4.2.2.2.1,v4.2.2.2.2.1,v4.2.2.2.2.2.1,v4.2.2.2.2.2.2.1,v4.2.2.2.2.2.2.2.1,v4.2.2.2.2.2.2.2.2.1,v4.2.2.2.2.2.2.2.2.2.1,v4.2.2.2.2.2.2.2.2.2.2.1,v4.2.2.2.2.2.2.2.2.2.2.2,()),()),(v5,()))
abbrev yQ9 (v0 v1:Int) (v2:dA) (v3:List Int):(yh3).X:=(((v0,()),((),()),((),()),((),()),(v1,()),((),()),()),((v2.1,v2.2.1.1,v2.2.1.2,v2.2.2.1,v2.2.2.2.1,v2.2.2.2.2.1,v2.2.2.2.2.2.1,v2.2.2.2.2.2.2.1,v2.2.2.2.2.2.2.2.1,v2.2.2.2.2.2.2.2.2.1,v2.2.2.2.2.2.2.2.2.2.1,v2.2.2.2.2.2.2.2.2.2.2.1,v2.2.2.2.2.2.2.2.2.2.2.2,()),()),(v3,()))
abbrev yQ2 (v0:Int) (v1:List Int):(yhR).X:=((((),()),(v0,()),()),(),(v1,()))
abbrev yRk (v0:Bool):(yii).X:=((((),()),(v0,()),()),(),())
def ytD (v0 v1 v2 v3 v4 v5 v6:Int) (v7:List dM) (v8 v9 v10 v11 v12:Int) (v13:List dW) (v14:Int) (v15 v16:Bool) (v17:List Int):Option ((ycF).X ⊕ ((yhR).X ⊕ (yii).X)) :=
 bif (ltb v3 v2) then
 bnd (yuT (v4,(v5,v6),v7,v8,v9,v10,v11,v12,v13,v14,v15,v16) v3 v0) fun r4 =>
 bif (!r4.1.2.1) then
 bif (leb 0 v1) then
 some (.inr (.inr ((((),()),(false,()),()),(),())))
 else
 bif (!r4.1.2.1) then
 bif (zjR v17.length ([r4.1.1]:List Int).length 8) then
 some (.inl (((v0,()),((),()),((),()),(v3,()),(v2,()),((IntKind.i64.wrap (v3+1)),()),()),((v4,v5,v6,v7,v8,v9,v10,v11,v12,v13,v14,v15,v16,()),()),((v17++([r4.1.1]:List Int)),())))
 else none
 else
 bif (zjR v17.length ([r4.1.1]:List Int).length 8) then
 some (.inl (((v0,()),((),()),((),()),(v1,()),(v2,()),((IntKind.i64.wrap (v3+1)),()),()),((v4,v5,v6,v7,v8,v9,v10,v11,v12,v13,v14,v15,v16,()),()),((v17++([r4.1.1]:List Int)),())))
 else none
 else
 bif (!r4.1.2.1) then
 bif (zjR v17.length ([r4.1.1]:List Int).length 8) then
 some (.inl (((v0,()),((),()),((),()),(v3,()),(v2,()),((IntKind.i64.wrap (v3+1)),()),()),((v4,v5,v6,v7,v8,v9,v10,v11,v12,v13,v14,v15,v16,()),()),((v17++([r4.1.1]:List Int)),())))
 else none
 else
 bif (zjR v17.length ([r4.1.1]:List Int).length 8) then
 some (.inl (((v0,()),((),()),((),()),(v1,()),(v2,()),((IntKind.i64.wrap (v3+1)),()),()),((v4,v5,v6,v7,v8,v9,v10,v11,v12,v13,v14,v15,v16,()),()),((v17++([r4.1.1]:List Int)),())))
 else none
 else
 some (.inr (.inl ((((),()),(v1,()),()),(),(v17,()))))
def ydh (x:(ycF).X):=ytD x.1.1.1 x.1.2.2.2.1.1 x.1.2.2.2.2.1.1 x.1.2.2.2.2.2.1.1 x.2.1.1.1 x.2.1.1.2.1 x.2.1.1.2.2.1 x.2.1.1.2.2.2.1 x.2.1.1.2.2.2.2.1 x.2.1.1.2.2.2.2.2.1 x.2.1.1.2.2.2.2.2.2.1 x.2.1.1.2.2.2.2.2.2.2.1 x.2.1.1.2.2.2.2.2.2.2.2.1 x.2.1.1.2.2.2.2.2.2.2.2.2.1 x.2.1.1.2.2.2.2.2.2.2.2.2.2.1 x.2.1.1.2.2.2.2.2.2.2.2.2.2.2.1 x.2.1.1.2.2.2.2.2.2.2.2.2.2.2.2.1 x.2.2.1
def yCH (x:(yh3).X):(ycF).X:=(((x.1.1.1,()),((),()),((),()),((-1),()),(x.1.2.2.2.2.1.1,()),(0,()),()),((x.2.1.1.1,x.2.1.1.2.1,x.2.1.1.2.2.1,x.2.1.1.2.2.2.1,x.2.1.1.2.2.2.2.1,x.2.1.1.2.2.2.2.2.1,x.2.1.1.2.2.2.2.2.2.1,x.2.1.1.2.2.2.2.2.2.2.1,x.2.1.1.2.2.2.2.2.2.2.2.1,x.2.1.1.2.2.2.2.2.2.2.2.2.1,x.2.1.1.2.2.2.2.2.2.2.2.2.2.1,x.2.1.1.2.2.2.2.2.2.2.2.2.2.2.1,x.2.1.1.2.2.2.2.2.2.2.2.2.2.2.2.1,()),()),(x.2.2.1,()))
def yEb:Code:=(zdD yqG 64 500).getD .skip
theorem ySG:zdD yqG 64 125=some (.block 0 (.loop yEb)):=by kernel_rfl
theorem yVA (x:(ycF).X):zg0 ⟨ywu,62,yIw⟩ 0 yEb 500 ycF yhR yii x=ydh x:=by kernel_rfl
def yCT (x:(yh3).X):Nat:=18446744073709551616
def yu5 (x:(yh3).X):Option ((yhR).X ⊕ (yii).X):=zz ydh (yCT x) (yCH x)
def yDb:Seg:=⟨yh3,yhR,yii,yu5⟩
def yIx:Nat→Option Seg:=fun q=>bif Nat.beq q 125 then some yDb else yIw q
theorem yXw:FrOk Tryz.prog ⟨ywu,62,yIx⟩ yqG:=(yXv).loop (sg:=yDb) ycF yCH (by decide) ySG ydh yCT (by decide) (fun _=>rfl) (fun x r _ h=>h) yVA
abbrev ylQ:List Par:= [.rd tA,.rd tI]
abbrev yw0:List OT:= [⟨false,tL,(.ow .fz)⟩,⟨false,tB,.fz⟩]
def ysK (a0:dA) (a1:Int):Option (ResD yw0×MutD ylQ) :=
 let r1:=yah a0
 bif (!(!r1)) then
 bif (!a0.2.2.2.2.2.2.2.2.2.2.2) then
 let r2:=yY a0.2.1 a1
 bif (!r2) then
 some (([],false,()),())
 else
 zjZ (yu5 (((a1,()),((),()),((),()),((),()),((a0.2.2.1.length:Int),()),((),()),()),((a0.1,a0.2.1.1,a0.2.1.2,a0.2.2.1,a0.2.2.2.1,a0.2.2.2.2.1,a0.2.2.2.2.2.1,a0.2.2.2.2.2.2.1,a0.2.2.2.2.2.2.2.1,a0.2.2.2.2.2.2.2.2.1,a0.2.2.2.2.2.2.2.2.2.1,a0.2.2.2.2.2.2.2.2.2.2.1,a0.2.2.2.2.2.2.2.2.2.2.2,()),()),(([]:List Int),()))) (fun y4 =>
 bif (leb 0 y4.1.2.1.1) then
 let r6:=yfG y4.2.2.1 y4.1.2.1.1
 bif (inb y4.1.2.1.1 y4.2.2.1.length) then
 some (((y4.2.2.1.set (y4.1.2.1.1).toNat r6),true,()),())
 else none
 else
 some ((y4.2.2.1,true,()),())) (fun y4 =>
 some (([],y4.1.2.1.1,()),()))
 else
 some (([],false,()),())
 else
 some (([],false,()),())
theorem y4w (x:InD ylQ):zjx ⟨ywu,62,yIx⟩ Tryz.f106.results.toList yqG ylQ yw0 x=ysK x.1 x.2.1:=by kernel_rfl
theorem y1w:ConOk Tryz.prog 106 ⟨ylQ,yw0,fun x=>ysK x.1 x.2.1⟩:=zj2 (yXw) Tryz.func106 (by kernel_rfl) (by kernel_rfl) Tryz.ntmps106.symm (by decide) (fun x r h=>(y4w x).trans h)
def yrJ (a0:dA) (a1:Int):List Int×Bool:=bif yx a0&&(!a0.2.2.2.2.2.2.2.2.2.2.2&&yP a0.2.1 a1) then yal a0 a1 else ([],false)
theorem y3L (a0:dA) (a1:Int) (hk:zi2 ylQ (a0,a1,())):ysK a0 a1=(fun n=>some ((n.1,n.2,()),())) (yrJ a0 a1):=by
 unfold ysK yrJ yah
 rw [ytY]
 cases ha:yx a0
 ·rfl
 have hg:=yk.1 (yR ha)
 have hl:=yG0 ha
 have h1:yu5 (yQ9 a1 a0.2.2.1.length a0 [])=some (bif yKs (fun (i:Nat)=>yq a0 i a1) a0.2.1.1.toNat then .inr (yRk false) else .inl (yQ2 (yH (fun (i:Nat)=>yq a0 i a1) a0.2.1.1.toNat) (yae a0 a1 a0.2.1.1.toNat))) :=
  ziO (step:=ydh) (fun i=>ytm a1 (yH (fun (i:Nat)=>yq a0 i a1) i) a0.2.2.1.length i a0 (yae a0 a1 i)) a0.2.1.1.toNat (fun i=> !yq a0 i a1&&leb 0 (yH (fun (i:Nat)=>yq a0 i a1) i)) _ _ (fun i hi=>by
   simp only [ydh,ytm,ytD,zj5 (show (i:Int) < a0.2.2.1.length by omega),cond_true,wr (show -9223372036854775808≤(i:Int)+1 by omega) (by omega),Int.natCast_add,Int.natCast_one,Int.toNat_natCast,zks,y2l a0 i a1 (zkm (show i < a0.2.2.1.length by omega)),yoG,zkd,yH]
   rw [zkb.2 (show ((yae a0 a1 i).length+ [yBM a0 i a1].length) * 8≤140737488355328 by simp only [List.length_cons,List.length_nil,yr2]; omega),yMa]
   cases yq a0 i a1<;>cases leb 0 (yH (fun (i:Nat)=>yq a0 i a1) i)<;>rfl) (by simp only [ydh,ytm,ytD,zky (show (a0.2.2.1.length:Int)≤(a0.2.1.1.toNat:Int) by omega),cond_false]) _ (by show _ < 18446744073709551616; omega)
 rw [h1]
 cases a0.2.2.2.2.2.2.2.2.2.2.2
 ·cases yP a0.2.1 a1
  ·rfl
  ·unfold yal
   cases yKs (fun (i:Nat)=>yq a0 i a1) a0.2.1.1.toNat
   ·simp only [cond_false,zki,yfG]
    cases hm:leb 0 (yH (fun (i:Nat)=>yq a0 i a1) a0.2.1.1.toNat)
    ·rfl
    ·obtain ⟨h2,h3⟩:=y2I a0 a1 a0.2.1.1.toNat hm
     rw [h2,h3]; rfl
   ·rfl
 ·rfl
def yJk:Con:=⟨ylQ,yw0,fun x=>(fun n=>some ((n.1,n.2,()),())) (yrJ x.1 x.2.1)⟩
theorem y37:ConOk Tryz.prog 106 yJk:=(y1w).mono (fun x r hk h=>(y3L x.1 x.2.1 hk).trans h)
end
end
end Go.Tf
