/- Functions of the program, and what they come to. -/
import Derived.Test.YtgmadfpnljibhaaGreatExactFlushStripeF22
namespace Go.Tf
noncomputable section
open Go.Proofs
set_option synthInstance.maxHeartbeats 400000
set_option synthInstance.maxSize 10000
set_option linter.unusedVariables false
set_option linter.unusedSimpArgs false
set_option maxRecDepth 100000
section
def ygj:Code:=(Tryz.f258.body).getD .skip
def yli:Env:=zki TT [(260,yfK)] []
theorem yI0:FrOk Tryz.prog ⟨yli,21,fun _=>none⟩ ygj:=zkp yb yc ⟨yl2,trivial⟩
def yx0:Nat→Option Seg:=fun _=>none
def ybq:Shape:=⟨[(0,false,[.br tL]),(1,false,[.int .i64]),(5,false,[.int .i64])],[],[]⟩
def yg2:Shape:=⟨[(0,false,[.br tL]),(1,false,[.int .i64]),(5,false,[.ci .i64 0])],[],[]⟩
def yg0:Shape:=⟨[(1,false,[.int .i64])],[],[]⟩
def yg7:Shape:=⟨[(4,false,[.int .i64])],[],[]⟩
def ymm (v0:List (List Int)) (v1 v2:Int):Option ((ybq).X ⊕ ((yg0).X ⊕ (yg7).X)) :=
 bif (ltb v2 (v0.length:Int)) then
 bif (inb v2 v0.length) then
 let r2:=yk (nth v0 v2 []) v1
 bif (ltb r2 0) then
 some (.inr (.inr ((((-1),()),()),(),())))
 else
 some (.inl (((v0,()),(r2,()),((IntKind.i64.wrap (v2+1)),()),()),(),()))
 else none
 else
 some (.inr (.inl (((v1,()),()),(),())))
def yaH (x:(ybq).X):=ymm x.1.1.1 x.1.2.1.1 x.1.2.2.1.1
def yvw (x:(yg2).X):(ybq).X:=(((x.1.1.1,()),(x.1.2.1.1,()),(0,()),()),(),())
def ywj:Code:=(zdI ygj 64 52).getD .skip
theorem yIR:zdI ygj 64 13=some (.block 0 (.loop ywj)):=by kernel_rfl
theorem yJq (x:(ybq).X):zg7 ⟨yli,21,yx0⟩ 0 ywj 52 ybq yg0 yg7 x=yaH x:=by kernel_rfl
def yvA (x:(yg2).X):Nat:=18446744073709551616
def ynj (x:(yg2).X):Option ((yg0).X ⊕ (yg7).X):=zr yaH (yvA x) (yvw x)
def ywb:Seg:=⟨yg2,yg0,yg7,ynj⟩
def yx1:Nat→Option Seg:=fun q=>bif Nat.beq q 13 then some ywb else yx0 q
theorem yI1:FrOk Tryz.prog ⟨yli,21,yx1⟩ ygj:=(yI0).loop (sg:=ywb) ybq yvw (by decide) yIR yaH yvA (by decide) (fun _=>rfl) (fun x r _ h=>h) yJq
abbrev ydQ:List Par:= [.rd tLL,.rd tI]
abbrev ylF:List OT:= [⟨false,tI,.fz⟩]
def yjf (a0:List (List Int)) (a1:Int):Option (ResD ylF×MutD ydQ) :=
 zjw (ynj (((a0,()),(a1,()),((),()),()),(),())) (fun y2 =>
 some ((y2.1.1.1,()),())) (fun y2 =>
 some ((y2.1.1.1,()),()))
theorem yOW (x:InD ydQ):zjH ⟨yli,21,yx1⟩ Tryz.f258.results.toList ygj ydQ ylF x=yjf x.1 x.2.1:=by kernel_rfl
theorem yLD:ConOk Tryz.prog 258 ⟨ydQ,ylF,fun x=>yjf x.1 x.2.1⟩:=zkh (yI1) Tryz.func258 (by kernel_rfl) (by kernel_rfl) Tryz.ntmps258.symm (by decide) (fun x r h=>(yOW x).trans h)
def yxb (x:List Int) (k:Int):Int:=yk x k
def yn (a0:List (List Int)) (a1:Int):Int:=(szG yxb a0 a1).getD (-1)
theorem yNr (a0:List (List Int)) (a1:Int) (hk:zi9 ydQ (a0,a1,())):yjf a0 a1=(fun n=>some ((n,()),())) (yn a0 a1):=by
 have hb:a0.length * 24≤2 ^ 47:=hk.1.1
 have hl:ynj (((a0,()),(a1,()),((),()),()),(),())=some (match szG yxb a0 a1 with | some r=> .inl (((r,()),()),(),()) | none=> .inr ((((-1),()),()),(),())) :=
  zkG (step:=yaH) a0 ([]:List Int) (fun i k=>(((a0,()),(k,()),((i:Int),()),()),(),())) yxb (fun r=> .inl (((r,()),()),(),())) (.inr ((((-1),()),()),(),())) (fun i s hi=>by
   simp only [yaH,ymm,zjI (show (i:Int) < a0.length by omega),zkO hi,zjW,cond_true,wr (show -9223372036854775808≤(i:Int)+1 by omega) (by omega),Int.natCast_add,Int.natCast_one,yxb]
   cases ltb (yk (a0.getD i ([]:List Int)) s) 0<;>rfl) (fun s=>by simp only [yaH,ymm,zkm (Int.le_refl _),cond_false]) a1 _ (by show _ < 18446744073709551616; omega)
 unfold yjf yn
 rw [hl]
 cases szG yxb a0 a1<;>rfl
def yyo:Con:=⟨ydQ,ylF,fun x=>(fun n=>some ((n,()),())) (yn x.1 x.2.1)⟩
theorem yNR:ConOk Tryz.prog 258 yyo:=(yLD).mono (fun x r hk h=>(yNr x.1 x.2.1 hk).trans h)
end
section
def ykg:Code:=(Tryz.f259.body).getD .skip
def yqm:Env:=zki TT [(260,yfK)] []
theorem yMQ:FrOk Tryz.prog ⟨yqm,31,fun _=>none⟩ ykg:=zkp yb yc ⟨yl2,trivial⟩
def yBU:Nat→Option Seg:=fun _=>none
def yc8:Shape:=⟨[(0,false,[.br tW]),(1,false,[.int .i64]),(5,false,[.int .i64])],[],[]⟩
def yjv:Shape:=⟨[(0,false,[.br tW]),(1,false,[.int .i64]),(5,false,[.ci .i64 0])],[],[]⟩
def yjo:Shape:=⟨[(1,false,[.int .i64])],[],[]⟩
def yjI:Shape:=⟨[(4,false,[.int .i64])],[],[]⟩
def yp9 (v0:List dW) (v1 v2:Int):Option ((yc8).X ⊕ ((yjo).X ⊕ (yjI).X)) :=
 bif (ltb v2 (v0.length:Int)) then
 bif (inb v2 v0.length) then
 bif ((nth v0 v2 (0,[])).1 !=v1) then
 some (.inr (.inr ((((-1),()),()),(),())))
 else
 bif (inb v2 v0.length) then
 let r2:=yk ((nth v0 v2 (0,[])).2) (IntKind.i64.wrap (v1+1))
 bif (ltb r2 0) then
 some (.inr (.inr ((((-1),()),()),(),())))
 else
 some (.inl (((v0,()),(r2,()),((IntKind.i64.wrap (v2+1)),()),()),(),()))
 else none
 else none
 else
 some (.inr (.inl (((v1,()),()),(),())))
def ybz (x:(yc8).X):=yp9 x.1.1.1 x.1.2.1.1 x.1.2.2.1.1
def yyy (x:(yjv).X):(yc8).X:=(((x.1.1.1,()),(x.1.2.1.1,()),(0,()),()),(),())
def yAi:Code:=(zdI ykg 64 52).getD .skip
theorem yMm:zdI ykg 64 13=some (.block 0 (.loop yAi)):=by kernel_rfl
theorem yN2 (x:(yc8).X):zg7 ⟨yqm,31,yBU⟩ 0 yAi 52 yc8 yjo yjI x=ybz x:=by kernel_rfl
def yyO (x:(yjv).X):Nat:=18446744073709551616
def yrn (x:(yjv).X):Option ((yjo).X ⊕ (yjI).X):=zr ybz (yyO x) (yyy x)
def yzd:Seg:=⟨yjv,yjo,yjI,yrn⟩
def yBV:Nat→Option Seg:=fun q=>bif Nat.beq q 13 then some yzd else yBU q
theorem yMR:FrOk Tryz.prog ⟨yqm,31,yBV⟩ ykg:=(yMQ).loop (sg:=yzd) yc8 yyy (by decide) yMm ybz yyO (by decide) (fun _=>rfl) (fun x r _ h=>h) yN2
abbrev yga:List Par:= [.rd tWs,.rd tI]
abbrev yqD:List OT:= [⟨false,tI,.fz⟩]
def yma (a0:List dW) (a1:Int):Option (ResD yqD×MutD yga) :=
 zjw (yrn (((a0,()),(a1,()),((),()),()),(),())) (fun y2 =>
 some ((y2.1.1.1,()),())) (fun y2 =>
 some ((y2.1.1.1,()),()))
theorem yV1 (x:InD yga):zjH ⟨yqm,31,yBV⟩ Tryz.f259.results.toList ykg yga yqD x=yma x.1 x.2.1:=by kernel_rfl
theorem yQS:ConOk Tryz.prog 259 ⟨yga,yqD,fun x=>yma x.1 x.2.1⟩:=zkh (yMR) Tryz.func259 (by kernel_rfl) (by kernel_rfl) Tryz.ntmps259.symm (by decide) (fun x r h=>(yV1 x).trans h)
def yHA (x:dW) (k:Int):Int:=bif x.1 !=k then -1 else yk x.2 (IntKind.i64.wrap (k+1))
def yY (a0:List (dW)) (a1:Int):Int:=(szG yHA a0 a1).getD (-1)
theorem yTP (a0:List (dW)) (a1:Int) (hk:zi9 yga (a0,a1,())):yma a0 a1=(fun n=>some ((n,()),())) (yY a0 a1):=by
 have hb:a0.length * 32≤2 ^ 47:=hk.1.1
 have hl:yrn (((a0,()),(a1,()),((),()),()),(),())=some (match szG yHA a0 a1 with | some r=> .inl (((r,()),()),(),()) | none=> .inr ((((-1),()),()),(),())) :=
  zkG (step:=ybz) a0 ((0,[]):dW) (fun i k=>(((a0,()),(k,()),((i:Int),()),()),(),())) yHA (fun r=> .inl (((r,()),()),(),())) (.inr ((((-1),()),()),(),())) (fun i s hi=>by
   simp only [ybz,yp9,zjI (show (i:Int) < a0.length by omega),zkO hi,zjW,cond_true,wr (show -9223372036854775808≤(i:Int)+1 by omega) (by omega),Int.natCast_add,Int.natCast_one,yHA]
   cases ((a0.getD i ((0,[]):dW)).1 !=s)
   ·simp only [cond_false]
    cases ltb (yk (a0.getD i ((0,[]):dW)).2 (IntKind.i64.wrap (s+1))) 0<;>rfl
   ·rfl) (fun s=>by simp only [ybz,yp9,zkm (Int.le_refl _),cond_false]) a1 _ (by show _ < 18446744073709551616; omega)
 unfold yma yY
 rw [hl]
 cases szG yHA a0 a1<;>rfl
def yCB:Con:=⟨yga,yqD,fun x=>(fun n=>some ((n,()),())) (yY x.1 x.2.1)⟩
theorem yUN:ConOk Tryz.prog 259 yCB:=(yQS).mono (fun x r hk h=>(yTP x.1 x.2.1 hk).trans h)
end
section
def yhO:Code:=(Tryz.f197.body).getD .skip
def ynU:Env:=zki TT [(258,yyo),(259,yCB),(260,yfK)] []
theorem yKR:FrOk Tryz.prog ⟨ynU,51,fun _=>none⟩ yhO:=zkp yb yc ⟨yNR,yUN,yl2,trivial⟩
def yzY:Nat→Option Seg:=fun _=>none
def ycc:Shape:=⟨[(0,false,[.br tM]),(1,false,[.int .i64]),(5,false,[.int .i64])],[],[]⟩
def yin:Shape:=⟨[(0,false,[.br tM]),(1,false,[.int .i64]),(5,false,[.ci .i64 0])],[],[]⟩
def yh4:Shape:=⟨[(1,false,[.int .i64])],[],[]⟩
def yiO:Shape:=⟨[(4,false,[.int .i64])],[],[]⟩
def ynF (v0:List dM) (v1 v2:Int):Option ((ycc).X ⊕ ((yh4).X ⊕ (yiO).X)) :=
 bif (ltb v2 (v0.length:Int)) then
 bif (inb v2 v0.length) then
 let r4:=yn ((nth v0 v2 ([],[],false,[])).1) v1
 bif (ltb r4 0) then
 some (.inr (.inr ((((-1),()),()),(),())))
 else
 bif (inb v2 v0.length) then
 let r5:=yY (((nth v0 v2 ([],[],false,[])).2).1) r4
 bif (ltb r5 0) then
 some (.inr (.inr ((((-1),()),()),(),())))
 else
 bif (inb v2 v0.length) then
 bif (!((((nth v0 v2 ([],[],false,[])).2).2).1==((r5.tmod 3)==0))) then
 some (.inr (.inr ((((-1),()),()),(),())))
 else
 bif (inb v2 v0.length) then
 let r6:=yk ((((nth v0 v2 ([],[],false,[])).2).2).2) (IntKind.i64.wrap (r5+1))
 bif (ltb r6 0) then
 some (.inr (.inr ((((-1),()),()),(),())))
 else
 some (.inl (((v0,()),(r6,()),((IntKind.i64.wrap (v2+1)),()),()),(),()))
 else none
 else none
 else none
 else none
 else
 some (.inr (.inl (((v1,()),()),(),())))
def ya6 (x:(ycc).X):=ynF x.1.1.1 x.1.2.1.1 x.1.2.2.1.1
def yww (x:(yin).X):(ycc).X:=(((x.1.1.1,()),(x.1.2.1.1,()),(0,()),()),(),())
def yyg:Code:=(zdI yhO 64 52).getD .skip
theorem yKk:zdI yhO 64 13=some (.block 0 (.loop yyg)):=by kernel_rfl
theorem yLV (x:(ycc).X):zg7 ⟨ynU,51,yzY⟩ 0 yyg 52 ycc yh4 yiO x=ya6 x:=by kernel_rfl
def ywH (x:(yin).X):Nat:=18446744073709551616
def ypm (x:(yin).X):Option ((yh4).X ⊕ (yiO).X):=zr ya6 (ywH x) (yww x)
def ywU:Seg:=⟨yin,yh4,yiO,ypm⟩
def yzZ:Nat→Option Seg:=fun q=>bif Nat.beq q 13 then some ywU else yzY q
theorem yKS:FrOk Tryz.prog ⟨ynU,51,yzZ⟩ yhO:=(yKR).loop (sg:=ywU) ycc yww (by decide) yKk ya6 ywH (by decide) (fun _=>rfl) (fun x r _ h=>h) yLV
abbrev yeP:List Par:= [.rd tMs,.rd tI]
abbrev yod:List OT:= [⟨false,tI,.fz⟩]
def yj2 (a0:List dM) (a1:Int):Option (ResD yod×MutD yeP) :=
 zjw (ypm (((a0,()),(a1,()),((),()),()),(),())) (fun y6 =>
 some ((y6.1.1.1,()),())) (fun y6 =>
 some ((y6.1.1.1,()),()))
theorem ySz (x:InD yeP):zjH ⟨ynU,51,yzZ⟩ Tryz.f197.results.toList yhO yeP yod x=yj2 x.1 x.2.1:=by kernel_rfl
theorem yNE:ConOk Tryz.prog 197 ⟨yeP,yod,fun x=>yj2 x.1 x.2.1⟩:=zkh (yKS) Tryz.func197 (by kernel_rfl) (by kernel_rfl) Tryz.ntmps197.symm (by decide) (fun x r h=>(ySz x).trans h)
def yyX (x:dM) (k:Int):Int:=bif ltb (yn x.1 k) 0 then -1 else bif ltb (yY x.2.1 (yn x.1 k)) 0 then -1 else bif !(x.2.2.1==((yY x.2.1 (yn x.1 k)).tmod 3==0)) then -1 else yk x.2.2.2 (IntKind.i64.wrap (yY x.2.1 (yn x.1 k)+1))
def ybn (a0:List (dM)) (a1:Int):Int:=(szG yyX a0 a1).getD (-1)
theorem yQx (a0:List (dM)) (a1:Int) (hk:zi9 yeP (a0,a1,())):yj2 a0 a1=(fun n=>some ((n,()),())) (ybn a0 a1):=by
 have hb:a0.length * 80≤2 ^ 47:=hk.1.1
 have hl:ypm (((a0,()),(a1,()),((),()),()),(),())=some (match szG yyX a0 a1 with | some r=> .inl (((r,()),()),(),()) | none=> .inr ((((-1),()),()),(),())) :=
  zkG (step:=ya6) a0 (([],[],false,[]):dM) (fun i k=>(((a0,()),(k,()),((i:Int),()),()),(),())) yyX (fun r=> .inl (((r,()),()),(),())) (.inr ((((-1),()),()),(),())) (fun i s hi=>by
   simp only [ya6,ynF,zjI (show (i:Int) < a0.length by omega),zkO hi,zjW,cond_true,wr (show -9223372036854775808≤(i:Int)+1 by omega) (by omega),Int.natCast_add,Int.natCast_one,yyX]
   cases ltb (yn (a0.getD i (([],[],false,[]):dM)).1 s) 0
   ·simp only [cond_false]
    cases ltb (yY (a0.getD i (([],[],false,[]):dM)).2.1 (yn (a0.getD i (([],[],false,[]):dM)).1 s)) 0
    ·simp only [cond_false]
     cases ((a0.getD i (([],[],false,[]):dM)).2.2.1==((yY (a0.getD i (([],[],false,[]):dM)).2.1 (yn (a0.getD i (([],[],false,[]):dM)).1 s)).tmod 3==0))
     ·rfl
     ·simp only [Bool.not_true,cond_false]
      cases ltb (yk (a0.getD i (([],[],false,[]):dM)).2.2.2 (IntKind.i64.wrap (yY (a0.getD i (([],[],false,[]):dM)).2.1 (yn (a0.getD i (([],[],false,[]):dM)).1 s)+1))) 0<;>rfl
    ·rfl
   ·rfl) (fun s=>by simp only [ya6,ynF,zkm (Int.le_refl _),cond_false]) a1 _ (by show _ < 18446744073709551616; omega)
 unfold yj2 ybn
 rw [hl]
 cases szG yyX a0 a1<;>rfl
def yAx:Con:=⟨yeP,yod,fun x=>(fun n=>some ((n,()),())) (ybn x.1 x.2.1)⟩
theorem yRc:ConOk Tryz.prog 197 yAx:=(yNE).mono (fun x r hk h=>(yQx x.1 x.2.1 hk).trans h)
theorem y2G (l:List dW) (k:Int) (h0:0≤k) (h:k+((l.map (fun x:dW=>1+x.2.length)).sum:Nat)≤9223372036854775807):(zaX yRF l k).1=k+((l.map (fun x:dW=>1+x.2.length)).sum:Nat)∧szG yHA (zaX yRF l k).2 k=some (k+((l.map (fun x:dW=>1+x.2.length)).sum:Nat)) :=
 ziN (m:=fun x:dW=>1+x.2.length) (fun x k h0 h=>by
  have hw:IntKind.i64.wrap (k+1)=k+1:=wr (by omega) (by omega)
  unfold yRF yHA
  simp only [hw,bne_self_eq_false,cond_false,yBz,yqQ x.2.length (k+1) (by omega) (by omega)]
  omega) l k h0 h
theorem y1Q (l:List (List Int)) (k:Int) (h0:0≤k) (h:k+((l.map (fun x:List Int=>x.length)).sum:Nat)≤9223372036854775807):(zaX yDW l k).1=k+((l.map (fun x:List Int=>x.length)).sum:Nat)∧szG yxb (zaX yDW l k).2 k=some (k+((l.map (fun x:List Int=>x.length)).sum:Nat)) :=
 ziN (m:=fun x:List Int=>x.length) (fun x k h0 h=>by
  unfold yDW yxb yQ
  simp only [yBz,yqQ x.length k (by omega) (by omega),and_self]) l k h0 h
theorem y2F (x:dM) (k:Int) (h0:0≤k) (h:k+(yrz x:Nat)≤9223372036854775807):(yBG x k).1=k+(yrz x:Nat)∧yyX (yBG x k).2 k=k+(yrz x:Nat):=by
 unfold yrz at h ⊢
 obtain ⟨a1,a2⟩:=y1Q x.1 k h0 (by omega)
 obtain ⟨b1,b2⟩:=y2G x.2.1 (k+((x.1.map (fun x:List Int=>x.length)).sum:Nat)) (by omega) (by omega)
 have hw: ∀ n:Int,0≤n→n+1≤9223372036854775807→IntKind.i64.wrap (n+1)=n+1:=fun n h1 h2=>wr (by omega) (by omega)
 unfold yBG yyX
 simp only [yS,yaZ,yQ,yn,yY,a1,a2,b1,b2,Option.getD_some]
 rw [hw _ (by omega) (by omega),zkm (show 0≤k+((x.1.map (fun x:List Int=>x.length)).sum:Nat) by omega),cond_false,zkm (by omega),cond_false,beq_self_eq_true,Bool.not_true,cond_false,yBz,yqQ _ _ (by omega) (by omega)]
 omega
theorem yYg (l:List dM) (k:Int) (h0:0≤k) (h:k+(yoB l:Nat)≤9223372036854775807):(zaX yBG l k).1=k+(yoB l:Nat)∧szG yyX (zaX yBG l k).2 k=some (k+(yoB l:Nat)) :=
 ziN (m:=yrz) (fun x k h0 h=>y2F x k h0 h) l k h0 h
theorem y4m (l:List dM) (h:yoB l≤4611686018427387904):(yaC l 1).1=1+(yoB l:Nat)∧ybn (yaC l 1).2 1=1+(yoB l:Nat):=by
 obtain ⟨h1,h2⟩:=yYg l 1 (by omega) (by omega)
 unfold ybn yaC
 exact ⟨h1,by rw [h2]; rfl⟩
end
section
def yhM:Code:=(Tryz.f198.body).getD .skip
def ynS:Env:=zki TT [(260,yfK)] []
theorem yKN:FrOk Tryz.prog ⟨ynS,31,fun _=>none⟩ yhM:=zkp yb yc ⟨yl2,trivial⟩
def yzU:Nat→Option Seg:=fun _=>none
def yca:Shape:=⟨[(0,false,[.br tW]),(1,false,[.int .i64]),(5,false,[.int .i64])],[],[]⟩
def yil:Shape:=⟨[(0,false,[.br tW]),(1,false,[.int .i64]),(5,false,[.ci .i64 0])],[],[]⟩
def yh2:Shape:=⟨[(1,false,[.int .i64])],[],[]⟩
def yiM:Shape:=⟨[(4,false,[.int .i64])],[],[]⟩
def ynD (v0:List dW) (v1 v2:Int):Option ((yca).X ⊕ ((yh2).X ⊕ (yiM).X)) :=
 bif (ltb v2 (v0.length:Int)) then
 bif (inb v2 v0.length) then
 bif ((nth v0 v2 (0,[])).1 !=v1) then
 some (.inr (.inr ((((-1),()),()),(),())))
 else
 bif (inb v2 v0.length) then
 let r2:=yk ((nth v0 v2 (0,[])).2) (IntKind.i64.wrap (v1+1))
 bif (ltb r2 0) then
 some (.inr (.inr ((((-1),()),()),(),())))
 else
 some (.inl (((v0,()),(r2,()),((IntKind.i64.wrap (v2+1)),()),()),(),()))
 else none
 else none
 else
 some (.inr (.inl (((v1,()),()),(),())))
def ya4 (x:(yca).X):=ynD x.1.1.1 x.1.2.1.1 x.1.2.2.1.1
def ywu (x:(yil).X):(yca).X:=(((x.1.1.1,()),(x.1.2.1.1,()),(0,()),()),(),())
def yye:Code:=(zdI yhM 64 52).getD .skip
theorem yKi:zdI yhM 64 13=some (.block 0 (.loop yye)):=by kernel_rfl
theorem yLT (x:(yca).X):zg7 ⟨ynS,31,yzU⟩ 0 yye 52 yca yh2 yiM x=ya4 x:=by kernel_rfl
def ywF (x:(yil).X):Nat:=18446744073709551616
def ypk (x:(yil).X):Option ((yh2).X ⊕ (yiM).X):=zr ya4 (ywF x) (ywu x)
def ywS:Seg:=⟨yil,yh2,yiM,ypk⟩
def yzV:Nat→Option Seg:=fun q=>bif Nat.beq q 13 then some ywS else yzU q
theorem yKO:FrOk Tryz.prog ⟨ynS,31,yzV⟩ yhM:=(yKN).loop (sg:=ywS) yca ywu (by decide) yKi ya4 ywF (by decide) (fun _=>rfl) (fun x r _ h=>h) yLT
abbrev yeN:List Par:= [.rd tWs,.rd tI]
abbrev yob:List OT:= [⟨false,tI,.fz⟩]
def yj0 (a0:List dW) (a1:Int):Option (ResD yob×MutD yeN) :=
 zjw (ypk (((a0,()),(a1,()),((),()),()),(),())) (fun y2 =>
 some ((y2.1.1.1,()),())) (fun y2 =>
 some ((y2.1.1.1,()),()))
theorem ySx (x:InD yeN):zjH ⟨ynS,31,yzV⟩ Tryz.f198.results.toList yhM yeN yob x=yj0 x.1 x.2.1:=by kernel_rfl
theorem yNC:ConOk Tryz.prog 198 ⟨yeN,yob,fun x=>yj0 x.1 x.2.1⟩:=zkh (yKO) Tryz.func198 (by kernel_rfl) (by kernel_rfl) Tryz.ntmps198.symm (by decide) (fun x r h=>(ySx x).trans h)
def yDn (x:dW) (k:Int):Int:=bif x.1 !=k then -1 else yk x.2 (IntKind.i64.wrap (k+1))
def ye2 (a0:List (dW)) (a1:Int):Int:=(szG yDn a0 a1).getD (-1)
theorem yQv (a0:List (dW)) (a1:Int) (hk:zi9 yeN (a0,a1,())):yj0 a0 a1=(fun n=>some ((n,()),())) (ye2 a0 a1):=by
 have hb:a0.length * 32≤2 ^ 47:=hk.1.1
 have hl:ypk (((a0,()),(a1,()),((),()),()),(),())=some (match szG yDn a0 a1 with | some r=> .inl (((r,()),()),(),()) | none=> .inr ((((-1),()),()),(),())) :=
  zkG (step:=ya4) a0 ((0,[]):dW) (fun i k=>(((a0,()),(k,()),((i:Int),()),()),(),())) yDn (fun r=> .inl (((r,()),()),(),())) (.inr ((((-1),()),()),(),())) (fun i s hi=>by
   simp only [ya4,ynD,zjI (show (i:Int) < a0.length by omega),zkO hi,zjW,cond_true,wr (show -9223372036854775808≤(i:Int)+1 by omega) (by omega),Int.natCast_add,Int.natCast_one,yDn]
   cases ((a0.getD i ((0,[]):dW)).1 !=s)
   ·simp only [cond_false]
    cases ltb (yk (a0.getD i ((0,[]):dW)).2 (IntKind.i64.wrap (s+1))) 0<;>rfl
   ·rfl) (fun s=>by simp only [ya4,ynD,zkm (Int.le_refl _),cond_false]) a1 _ (by show _ < 18446744073709551616; omega)
 unfold yj0 ye2
 rw [hl]
 cases szG yDn a0 a1<;>rfl
def yAw:Con:=⟨yeN,yob,fun x=>(fun n=>some ((n,()),())) (ye2 x.1 x.2.1)⟩
theorem yRb:ConOk Tryz.prog 198 yAw:=(yNC).mono (fun x r hk h=>(yQv x.1 x.2.1 hk).trans h)
theorem y2d (l:List dW) (k:Int) (h0:0≤k) (h:k+(ybP l:Nat)≤9223372036854775807):(zaX yHR l k).1=k+(ybP l:Nat)∧szG yDn (zaX yHR l k).2 k=some (k+(ybP l:Nat)) :=
 ziN (m:=fun x:dW=>1+x.2.length) (fun x k h0 h=>by
  have hw:IntKind.i64.wrap (k+1)=k+1:=wr (by omega) (by omega)
  unfold yHR yDn
  simp only [hw,bne_self_eq_false,cond_false,yBz,yqQ x.2.length (k+1) (by omega) (by omega)]
  omega) l k h0 h
end
section
def yFT:Code:=(Tryz.f93.body).getD .skip
def yGq:Env:=zki TT [(197,yAx),(198,yAw)] []
theorem yMP:FrOk Tryz.prog ⟨yGq,18,fun _=>none⟩ yFT:=zkp yb yc ⟨yRc,yRb,trivial⟩
def yOv:Nat→Option Seg:=fun _=>none
abbrev yky:List Par:= [.rd tA,.rd tI]
abbrev yqC:List OT:= [⟨false,tI,.fz⟩]
def ytO (a0:dA) (a1:Int):Option (ResD yqC×MutD yky) :=
 let r1:=ybn a0.2.2.1 a1
 bif (ltb r1 0) then
 some (((-1),()),())
 else
 let r2:=ye2 a0.2.2.2.2.2.2.2.2.1 r1
 bif (ltb r2 0) then
 some (((-1),()),())
 else
 some ((r2,()),())
theorem yV0 (x:InD yky):zjH ⟨yGq,18,yOv⟩ Tryz.f93.results.toList yFT yky yqC x=ytO x.1 x.2.1:=by kernel_rfl
theorem yQR:ConOk Tryz.prog 93 ⟨yky,yqC,fun x=>ytO x.1 x.2.1⟩:=zkh (yMP) Tryz.func93 (by kernel_rfl) (by kernel_rfl) Tryz.ntmps93.symm (by decide) (fun x r h=>(yV0 x).trans h)
def yck (a0:dA) (a1:Int):Int :=
 let r1:=ybn a0.2.2.1 a1
 bif (ltb r1 0) then
 (-1)
 else
 let r2:=ye2 a0.2.2.2.2.2.2.2.2.1 r1
 bif (ltb r2 0) then
 (-1)
 else
 r2
def yCA:Con:=⟨yky,yqC,fun x=>(fun n=>some ((n,()),())) (yck x.1 x.2.1)⟩
theorem yTO (a0:dA) (a1:Int):ytO a0 a1=(fun n=>some ((n,()),())) (yck a0 a1):=zkS (p:=fun (n:Int)=>((n,()),())) (zkx (p:=fun (n:Int)=>((n,()),())) rfl (zkx (p:=fun (n:Int)=>((n,()),())) rfl rfl))
theorem yUM:ConOk Tryz.prog 93 yCA:=(yQR).mono (fun x r _ h=>(yTO x.1 x.2.1).trans h)
theorem y3u {x:dA} (h:ydG x≤4611686018427387904):(yN x 1).1=1+(ydG x:Nat)∧yck (yN x 1).2 1=1+(ydG x:Nat):=by
 unfold ydG at h ⊢
 obtain ⟨a1,a2⟩:=yYg x.2.2.1 1 (by omega) (by omega)
 obtain ⟨b1,b2⟩:=y2d x.2.2.2.2.2.2.2.2.1 (1+(yoB x.2.2.1:Nat)) (by omega) (by omega)
 unfold yN yck
 simp only [yaC,ye3,ybn,ye2,a1,a2,b1,b2,Option.getD_some]
 rw [zkm (show (0:Int)≤1+(yoB x.2.2.1:Nat) by omega),cond_false,zkm (by omega),cond_false]
 omega
abbrev yWq (x:dA):dA:=(x.1,x.2.1,(yN x 1).2.2.2.1,x.2.2.2.1,x.2.2.2.2.1,x.2.2.2.2.2.1,x.2.2.2.2.2.2.1,x.2.2.2.2.2.2.2.1,(yN x 1).2.2.2.2.2.2.2.2.2.1,x.2.2.2.2.2.2.2.2.2)
theorem y1J {x:dA} (h:ydG x≤4611686018427387904):ltb (yN x 1).1 0=false∧ltb (yck (yWq x) 1) 0=false∧(yck (yWq x) 1 !=(yN x 1).1)=false:=by
 obtain ⟨h1,h2⟩:=y3u h
 rw [show yWq x=(yN x 1).2 from rfl,h1,h2]
 exact ⟨zkm (by omega),zkm (by omega),by simp⟩
end
section
def ynK:Code:=(Tryz.f10.body).getD .skip
def ynR:Env:=zki TT [(83,yvl),(84,yvs),(89,yGH),(90,yGL),(91,yGC),(92,yCC),(93,yCA)] []
theorem yxa:FrOk Tryz.prog ⟨ynR,101,fun _=>none⟩ ynK:=zkp yb yc ⟨yJl,yJn,yZY,yZ2,yZT,yUO,yUM,trivial⟩
def yxZ:Nat→Option Seg:=fun _=>none
abbrev yT:List Par:= [.rd tA,.rd tI]
abbrev ycA:List OT:= [⟨false,tB,.fz⟩]
def ybo (a0:dA) (a1:Int):Option (ResD ycA×MutD yT) :=
 let r1:=yeC a0 1048576
 bif (ltb r1 0) then
 some ((true,()),())
 else
 let r2:=ygQ a0
 let r3:=yeD r2 a1
 let r4:=ygQ a0
 let r5:=ycj r4 a1
 let r6:=yc1 r5.1 r3.1
 bif (!(!r6)) then
 bif (r5.2 !=r3.2) then
 some ((false,()),())
 else
 let r7:=ygQ a0
 let r8:=yc1 r4 r7
 bif (!r8) then
 some ((false,()),())
 else
 let r9:=yN r4 1
 bif (!(ltb r9.1 0)) then
 let r10:=yc1 r5.1 r3.1
 bif (!(!r10)) then
 bif (r5.2 !=r3.2) then
 some ((false,()),())
 else
 let r11:=yN r5.1 1
 let r12:=yck (r5.1.1,r5.1.2.1,r11.2.2.2.1,r5.1.2.2.2.1,r5.1.2.2.2.2.1,r5.1.2.2.2.2.2.1,r5.1.2.2.2.2.2.2.1,r5.1.2.2.2.2.2.2.2.1,r11.2.2.2.2.2.2.2.2.2.1,r5.1.2.2.2.2.2.2.2.2.2) 1
 bif (ltb r12 0) then
 some ((false,()),())
 else
 bif (r12 !=r11.1) then
 some ((false,()),())
 else
 let r13:=ygQ a0
 let r14:=ycj r13 a1
 let r15:=yc1 r14.1 r3.1
 bif (!(!r15)) then
 bif (r14.2 !=r3.2) then
 some ((false,()),())
 else
 let r16:=yck (r5.1.1,r5.1.2.1,r11.2.2.2.1,r5.1.2.2.2.1,r5.1.2.2.2.2.1,r5.1.2.2.2.2.2.1,r5.1.2.2.2.2.2.2.1,r5.1.2.2.2.2.2.2.2.1,r11.2.2.2.2.2.2.2.2.2.1,r5.1.2.2.2.2.2.2.2.2.2) 1
 bif (ltb r16 0) then
 some ((false,()),())
 else
 bif (r16 !=r11.1) then
 some ((false,()),())
 else
 some ((true,()),())
 else
 some ((false,()),())
 else
 some ((false,()),())
 else
 some ((false,()),())
 else
 some ((false,()),())
theorem yBu (x:InD yT):zjH ⟨ynR,101,yxZ⟩ Tryz.f10.results.toList ynK yT ycA x=ybo x.1 x.2.1:=by kernel_rfl
theorem yy3:ConOk Tryz.prog 10 ⟨yT,ycA,fun x=>ybo x.1 x.2.1⟩:=zkh (yxa) Tryz.func10 (by kernel_rfl) (by kernel_rfl) Tryz.ntmps10.symm (by decide) (fun x r h=>(yBu x).trans h)
def yfY (a0:dA) (a1:Int):Bool:=true
def y0l (M:Nat) (x:dA):Prop:=x.2.2.1.length≤5∧yaa x.2.2.1∧ybP x.2.2.2.2.2.2.2.2.1≤M
theorem y2q {M:Nat} {d:List dW} {x:dA} (h:ydF d x) (hd:ybP d≤M):y0l M x:=⟨h.1,h.2.1,by rw [h.2.2]; exact hd⟩
theorem y1Y {M:Nat} {x:dA} (h:y0l M x):ydG x≤M+5205:=by
 have:=yTD (d:=x.2.2.2.2.2.2.2.2.1) (x:=x) ⟨h.1,h.2.1,rfl⟩
 have:=h.2.2
 omega
theorem y1W {d:List dW} {a:dA} (s:Int) (data:List Int) (h:ydF d a):ydF d (yaW a s data).2:=by
 have hc:ydF d (ycC a):=by
  unfold ycC
  cases leb 4 (IntKind.i64.wrap (a.2.2.2.2.2.1 - a.2.2.2.2.2.2.1))
  ·exact h
  ·exact yHG h
 unfold yaW
 have hr:=y2L ((ycC a).2.2.2.2.2.1,s,data) hc
 generalize yaj (ycC a) ((ycC a).2.2.2.2.2.1,s,data)=R at hr ⊢
 have hq:ydF d (yI (yak R) s data):=y2n (a:=yak R) _ _ hr
 generalize yI (yak R) s data=Q at hq ⊢
 cases yd (ycC a)
 ·cases yd R
  ·exact hq
  ·exact hr
 ·exact hc
theorem y2D (l:List dW) (k:Nat):ybP (yxQ l k)≤ybP l:=by
 have h:ybP l=ybP (l.take k)+ybP (l.drop k):=by
  have:ybP (l.take k++l.drop k)=ybP (l.take k)+ybP (l.drop k):=by unfold ybP; rw [List.map_append,List.sum_append]
  rw [List.take_append_drop]at this; exact this
 have h2:ybP (l.drop (k+1))≤ybP (l.drop k):=by
  cases hd:l.drop k with
  | nil =>
   have:l.drop (k+1)= []:=List.drop_eq_nil_of_le (by have:=List.drop_eq_nil_iff.1 hd; omega)
   rw [this]; exact Nat.le_refl _
  | cons x t =>
   have:l.drop (k+1)=t:=by rw [← List.drop_drop,hd]; rfl
   rw [this]
   show ybP t≤(1+x.2.length)+ybP t
   omega
 have h3:ybP (yxQ l k)=ybP (l.take k)+ybP (l.drop (k+1)):=by unfold yxQ ybP; rw [List.map_append,List.sum_append]
 omega
theorem y1X {M:Nat} {a:dA} (s:Int) (h:y0l M a):y0l M (yi1 a s).2:=by
 unfold yi1
 cases ltb (yq a.2.2.2.2.2.2.2.2.1 s) 0
 ·generalize (nth a.2.2.2.2.2.2.2.2.1 (yq a.2.2.2.2.2.2.2.2.1 s) (0,[])).2=D
  cases (yo a s D !=0)
  ·have hw:=y1W (d:=a.2.2.2.2.2.2.2.2.1) s D ⟨h.1,h.2.1,rfl⟩
   cases ((yaW a s D).1==0)
   ·exact y2q hw h.2.2
   ·exact ⟨hw.1,hw.2.1,Nat.le_trans (y2D _ _) h.2.2⟩
  ·exact h
 ·exact h
theorem y2M {a:dA} (h:yB a=true) (ha:ydG a≤2097152):y0l 2097152 a:=⟨yOR h,yHq h,by unfold ydG at ha; omega⟩
theorem y0W {a:dA} {s:Int} (ha:ydG a≤2097152):ydG (yC5 a s).1≤2105000:=by
 unfold yC5
 cases h:yB a
 ·show ydG a≤_; omega
 cases yd a
 ·cases yL a.2.1 s
  ·show ydG a≤_; omega
  ·have:=y1Y (y1X s (y2M h ha))
   show ydG (yi1 a s).2≤_; omega
 ·show ydG a≤_; omega
theorem yzv (a0:dA) (a1:Int) (hk:zi9 yT (a0,a1,())):ybo a0 a1=(fun n=>some ((n,()),())) (yfY a0 a1):=by
 unfold ybo yfY ycj yeD
 cases h:ltb (yeC a0 1048576) 0
 ·have hs:=y2P (a:=a0) hk.1 h
  have hf:=y0W (s:=a1) hs
  obtain ⟨f1,f2,f3⟩:=y1J (x:=a0) (by omega)
  obtain ⟨g1,g2,g3⟩:=y1J (x:=(yC5 a0 a1).1) (by omega)
  simp only [h,yY9,yWg,bne_self_eq_false,Bool.not_true,Bool.not_false,cond_true,cond_false,f1,g2,g3]
 ·simp only [h,cond_true]
def yyn:Con:=⟨yT,ycA,fun x=>(fun n=>some ((n,()),())) (yfY x.1 x.2.1)⟩
theorem yzy:ConOk Tryz.prog 10 yyn:=(yy3).mono (fun x r hk h=>(yzv x.1 x.2.1 hk).trans h)
end
end
end Go.Tf
