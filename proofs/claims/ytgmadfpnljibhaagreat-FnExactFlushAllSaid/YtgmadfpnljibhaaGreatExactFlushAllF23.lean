/- Functions of the program, and what they come to. -/
import Derived.Test.YtgmadfpnljibhaaGreatExactFlushAllF22
namespace Go.Tf
noncomputable section
open Go.Proofs
set_option synthInstance.maxHeartbeats 400000
set_option synthInstance.maxSize 10000
set_option linter.unusedVariables false
set_option linter.unusedSimpArgs false
set_option maxRecDepth 100000
section
def ygA:Code:=(Tryz.f258.body).getD .skip
def ylJ:Env:=zki TT [(260,yf0)] []
theorem yKj:FrOk Tryz.prog ⟨ylJ,21,fun _=>none⟩ ygA:=zkp yb yc ⟨ymv,trivial⟩
def yyU:Nat→Option Seg:=fun _=>none
def ybB:Shape:=⟨[(0,false,[.br tL]),(1,false,[.int .i64]),(5,false,[.int .i64])],[],[]⟩
def yhi:Shape:=⟨[(0,false,[.br tL]),(1,false,[.int .i64]),(5,false,[.ci .i64 0])],[],[]⟩
def yhg:Shape:=⟨[(1,false,[.int .i64])],[],[]⟩
def yhn:Shape:=⟨[(4,false,[.int .i64])],[],[]⟩
def ymP (v0:List (List Int)) (v1 v2:Int):Option ((ybB).X ⊕ ((yhg).X ⊕ (yhn).X)) :=
 bif (ltb v2 (v0.length:Int)) then
 bif (inb v2 v0.length) then
 let r2:=yl (nth v0 v2 []) v1
 bif (ltb r2 0) then
 some (.inr (.inr ((((-1),()),()),(),())))
 else
 some (.inl (((v0,()),(r2,()),((IntKind.i64.wrap (v2+1)),()),()),(),()))
 else none
 else
 some (.inr (.inl (((v1,()),()),(),())))
def yaN (x:(ybB).X):=ymP x.1.1.1 x.1.2.1.1 x.1.2.2.1.1
def ywe (x:(yhi).X):(ybB).X:=(((x.1.1.1,()),(x.1.2.1.1,()),(0,()),()),(),())
def yw6:Code:=(zdI ygA 64 52).getD .skip
theorem yKa:zdI ygA 64 13=some (.block 0 (.loop yw6)):=by kernel_rfl
theorem yKJ (x:(ybB).X):zg7 ⟨ylJ,21,yyU⟩ 0 yw6 52 ybB yhg yhn x=yaN x:=by kernel_rfl
def ywi (x:(yhi).X):Nat:=18446744073709551616
def ynK (x:(yhi).X):Option ((yhg).X ⊕ (yhn).X):=zr yaN (ywi x) (ywe x)
def ywX:Seg:=⟨yhi,yhg,yhn,ynK⟩
def yyV:Nat→Option Seg:=fun q=>bif Nat.beq q 13 then some ywX else yyU q
theorem yKk:FrOk Tryz.prog ⟨ylJ,21,yyV⟩ ygA:=(yKj).loop (sg:=ywX) ybB ywe (by decide) yKa yaN ywi (by decide) (fun _=>rfl) (fun x r _ h=>h) yKJ
abbrev ydZ:List Par:= [.rd tLL,.rd tI]
abbrev yl6:List OT:= [⟨false,tI,.fz⟩]
def yjy (a0:List (List Int)) (a1:Int):Option (ResD yl6×MutD ydZ) :=
 zjw (ynK (((a0,()),(a1,()),((),()),()),(),())) (fun y2 =>
 some ((y2.1.1.1,()),())) (fun y2 =>
 some ((y2.1.1.1,()),()))
theorem yQo (x:InD ydZ):zjH ⟨ylJ,21,yyV⟩ Tryz.f258.results.toList ygA ydZ yl6 x=yjy x.1 x.2.1:=by kernel_rfl
theorem yMZ:ConOk Tryz.prog 258 ⟨ydZ,yl6,fun x=>yjy x.1 x.2.1⟩:=zkh (yKk) Tryz.func258 (by kernel_rfl) (by kernel_rfl) Tryz.ntmps258.symm (by decide) (fun x r h=>(yQo x).trans h)
def yx7 (x:List Int) (k:Int):Int:=yl x k
def yq (a0:List (List Int)) (a1:Int):Int:=(szG yx7 a0 a1).getD (-1)
theorem yOQ (a0:List (List Int)) (a1:Int) (hk:zi9 ydZ (a0,a1,())):yjy a0 a1=(fun n=>some ((n,()),())) (yq a0 a1):=by
 have hb:a0.length * 24≤2 ^ 47:=hk.1.1
 have hl:ynK (((a0,()),(a1,()),((),()),()),(),())=some (match szG yx7 a0 a1 with | some r=> .inl (((r,()),()),(),()) | none=> .inr ((((-1),()),()),(),())) :=
  zkG (step:=yaN) a0 ([]:List Int) (fun i k=>(((a0,()),(k,()),((i:Int),()),()),(),())) yx7 (fun r=> .inl (((r,()),()),(),())) (.inr ((((-1),()),()),(),())) (fun i s hi=>by
   simp only [yaN,ymP,zjI (show (i:Int) < a0.length by omega),zkO hi,zjW,cond_true,wr (show -9223372036854775808≤(i:Int)+1 by omega) (by omega),Int.natCast_add,Int.natCast_one,yx7]
   cases ltb (yl (a0.getD i ([]:List Int)) s) 0<;>rfl) (fun s=>by simp only [yaN,ymP,zkm (Int.le_refl _),cond_false]) a1 _ (by show _ < 18446744073709551616; omega)
 unfold yjy yq
 rw [hl]
 cases szG yx7 a0 a1<;>rfl
def yzj:Con:=⟨ydZ,yl6,fun x=>(fun n=>some ((n,()),())) (yq x.1 x.2.1)⟩
theorem yPi:ConOk Tryz.prog 258 yzj:=(yMZ).mono (fun x r hk h=>(yOQ x.1 x.2.1 hk).trans h)
end
section
def ykC:Code:=(Tryz.f259.body).getD .skip
def yqV:Env:=zki TT [(260,yf0)] []
theorem yOf:FrOk Tryz.prog ⟨yqV,31,fun _=>none⟩ ykC:=zkp yb yc ⟨ymv,trivial⟩
def yCW:Nat→Option Seg:=fun _=>none
def ydj:Shape:=⟨[(0,false,[.br tW]),(1,false,[.int .i64]),(5,false,[.int .i64])],[],[]⟩
def yjP:Shape:=⟨[(0,false,[.br tW]),(1,false,[.int .i64]),(5,false,[.ci .i64 0])],[],[]⟩
def yjI:Shape:=⟨[(1,false,[.int .i64])],[],[]⟩
def yj2:Shape:=⟨[(4,false,[.int .i64])],[],[]⟩
def yqI (v0:List dW) (v1 v2:Int):Option ((ydj).X ⊕ ((yjI).X ⊕ (yj2).X)) :=
 bif (ltb v2 (v0.length:Int)) then
 bif (inb v2 v0.length) then
 bif ((nth v0 v2 (0,[])).1 !=v1) then
 some (.inr (.inr ((((-1),()),()),(),())))
 else
 bif (inb v2 v0.length) then
 let r2:=yl ((nth v0 v2 (0,[])).2) (IntKind.i64.wrap (v1+1))
 bif (ltb r2 0) then
 some (.inr (.inr ((((-1),()),()),(),())))
 else
 some (.inl (((v0,()),(r2,()),((IntKind.i64.wrap (v2+1)),()),()),(),()))
 else none
 else none
 else
 some (.inr (.inl (((v1,()),()),(),())))
def ybK (x:(ydj).X):=yqI x.1.1.1 x.1.2.1.1 x.1.2.2.1.1
def yzu (x:(yjP).X):(ydj).X:=(((x.1.1.1,()),(x.1.2.1.1,()),(0,()),()),(),())
def yBg:Code:=(zdI ykC 64 52).getD .skip
theorem yNL:zdI ykC 64 13=some (.block 0 (.loop yBg)):=by kernel_rfl
theorem yPt (x:(ydj).X):zg7 ⟨yqV,31,yCW⟩ 0 yBg 52 ydj yjI yj2 x=ybK x:=by kernel_rfl
def yzK (x:(yjP).X):Nat:=18446744073709551616
def yrX (x:(yjP).X):Option ((yjI).X ⊕ (yj2).X):=zr ybK (yzK x) (yzu x)
def yz9:Seg:=⟨yjP,yjI,yj2,yrX⟩
def yCX:Nat→Option Seg:=fun q=>bif Nat.beq q 13 then some yz9 else yCW q
theorem yOg:FrOk Tryz.prog ⟨yqV,31,yCX⟩ ykC:=(yOf).loop (sg:=yz9) ydj yzu (by decide) yNL ybK yzK (by decide) (fun _=>rfl) (fun x r _ h=>h) yPt
abbrev ygq:List Par:= [.rd tWs,.rd tI]
abbrev yrc:List OT:= [⟨false,tI,.fz⟩]
def ymD (a0:List dW) (a1:Int):Option (ResD yrc×MutD ygq) :=
 zjw (yrX (((a0,()),(a1,()),((),()),()),(),())) (fun y2 =>
 some ((y2.1.1.1,()),())) (fun y2 =>
 some ((y2.1.1.1,()),()))
theorem yXG (x:InD ygq):zjH ⟨yqV,31,yCX⟩ Tryz.f259.results.toList ykC ygq yrc x=ymD x.1 x.2.1:=by kernel_rfl
theorem ySm:ConOk Tryz.prog 259 ⟨ygq,yrc,fun x=>ymD x.1 x.2.1⟩:=zkh (yOg) Tryz.func259 (by kernel_rfl) (by kernel_rfl) Tryz.ntmps259.symm (by decide) (fun x r h=>(yXG x).trans h)
def yIP (x:dW) (k:Int):Int:=bif x.1 !=k then -1 else yl x.2 (IntKind.i64.wrap (k+1))
def y9 (a0:List (dW)) (a1:Int):Int:=(szG yIP a0 a1).getD (-1)
theorem yVw (a0:List (dW)) (a1:Int) (hk:zi9 ygq (a0,a1,())):ymD a0 a1=(fun n=>some ((n,()),())) (y9 a0 a1):=by
 have hb:a0.length * 32≤2 ^ 47:=hk.1.1
 have hl:yrX (((a0,()),(a1,()),((),()),()),(),())=some (match szG yIP a0 a1 with | some r=> .inl (((r,()),()),(),()) | none=> .inr ((((-1),()),()),(),())) :=
  zkG (step:=ybK) a0 ((0,[]):dW) (fun i k=>(((a0,()),(k,()),((i:Int),()),()),(),())) yIP (fun r=> .inl (((r,()),()),(),())) (.inr ((((-1),()),()),(),())) (fun i s hi=>by
   simp only [ybK,yqI,zjI (show (i:Int) < a0.length by omega),zkO hi,zjW,cond_true,wr (show -9223372036854775808≤(i:Int)+1 by omega) (by omega),Int.natCast_add,Int.natCast_one,yIP]
   cases ((a0.getD i ((0,[]):dW)).1 !=s)
   ·simp only [cond_false]
    cases ltb (yl (a0.getD i ((0,[]):dW)).2 (IntKind.i64.wrap (s+1))) 0<;>rfl
   ·rfl) (fun s=>by simp only [ybK,yqI,zkm (Int.le_refl _),cond_false]) a1 _ (by show _ < 18446744073709551616; omega)
 unfold ymD y9
 rw [hl]
 cases szG yIP a0 a1<;>rfl
def yDD:Con:=⟨ygq,yrc,fun x=>(fun n=>some ((n,()),())) (y9 x.1 x.2.1)⟩
theorem yWt:ConOk Tryz.prog 259 yDD:=(ySm).mono (fun x r hk h=>(yVw x.1 x.2.1 hk).trans h)
end
section
def yh6:Code:=(Tryz.f197.body).getD .skip
def yoo:Env:=zki TT [(258,yzj),(259,yDD),(260,yf0)] []
theorem yMc:FrOk Tryz.prog ⟨yoo,51,fun _=>none⟩ yh6:=zkp yb yc ⟨yPi,yWt,ymv,trivial⟩
def yAW:Nat→Option Seg:=fun _=>none
def ycn:Shape:=⟨[(0,false,[.br tM]),(1,false,[.int .i64]),(5,false,[.int .i64])],[],[]⟩
def yiF:Shape:=⟨[(0,false,[.br tM]),(1,false,[.int .i64]),(5,false,[.ci .i64 0])],[],[]⟩
def yim:Shape:=⟨[(1,false,[.int .i64])],[],[]⟩
def yi7:Shape:=⟨[(4,false,[.int .i64])],[],[]⟩
def yn8 (v0:List dM) (v1 v2:Int):Option ((ycn).X ⊕ ((yim).X ⊕ (yi7).X)) :=
 bif (ltb v2 (v0.length:Int)) then
 bif (inb v2 v0.length) then
 let r4:=yq ((nth v0 v2 ([],[],false,[])).1) v1
 bif (ltb r4 0) then
 some (.inr (.inr ((((-1),()),()),(),())))
 else
 bif (inb v2 v0.length) then
 let r5:=y9 (((nth v0 v2 ([],[],false,[])).2).1) r4
 bif (ltb r5 0) then
 some (.inr (.inr ((((-1),()),()),(),())))
 else
 bif (inb v2 v0.length) then
 bif (!((((nth v0 v2 ([],[],false,[])).2).2).1==((r5.tmod 3)==0))) then
 some (.inr (.inr ((((-1),()),()),(),())))
 else
 bif (inb v2 v0.length) then
 let r6:=yl ((((nth v0 v2 ([],[],false,[])).2).2).2) (IntKind.i64.wrap (r5+1))
 bif (ltb r6 0) then
 some (.inr (.inr ((((-1),()),()),(),())))
 else
 some (.inl (((v0,()),(r6,()),((IntKind.i64.wrap (v2+1)),()),()),(),()))
 else none
 else none
 else none
 else none
 else
 some (.inr (.inl (((v1,()),()),(),())))
def ybg (x:(ycn).X):=yn8 x.1.1.1 x.1.2.1.1 x.1.2.2.1.1
def yxk (x:(yiF).X):(ycn).X:=(((x.1.1.1,()),(x.1.2.1.1,()),(0,()),()),(),())
def yzb:Code:=(zdI yh6 64 52).getD .skip
theorem yLE:zdI yh6 64 13=some (.block 0 (.loop yzb)):=by kernel_rfl
theorem yNi (x:(ycn).X):zg7 ⟨yoo,51,yAW⟩ 0 yzb 52 ycn yim yi7 x=ybg x:=by kernel_rfl
def yxw (x:(yiF).X):Nat:=18446744073709551616
def ypV (x:(yiF).X):Option ((yim).X ⊕ (yi7).X):=zr ybg (yxw x) (yxk x)
def yxM:Seg:=⟨yiF,yim,yi7,ypV⟩
def yAX:Nat→Option Seg:=fun q=>bif Nat.beq q 13 then some yxM else yAW q
theorem yMd:FrOk Tryz.prog ⟨yoo,51,yAX⟩ yh6:=(yMc).loop (sg:=yxM) ycn yxk (by decide) yLE ybg yxw (by decide) (fun _=>rfl) (fun x r _ h=>h) yNi
abbrev ye2:List Par:= [.rd tMs,.rd tI]
abbrev yoI:List OT:= [⟨false,tI,.fz⟩]
def ykn (a0:List dM) (a1:Int):Option (ResD yoI×MutD ye2) :=
 zjw (ypV (((a0,()),(a1,()),((),()),()),(),())) (fun y6 =>
 some ((y6.1.1.1,()),())) (fun y6 =>
 some ((y6.1.1.1,()),()))
theorem yT6 (x:InD ye2):zjH ⟨yoo,51,yAX⟩ Tryz.f197.results.toList yh6 ye2 yoI x=ykn x.1 x.2.1:=by kernel_rfl
theorem yO4:ConOk Tryz.prog 197 ⟨ye2,yoI,fun x=>ykn x.1 x.2.1⟩:=zkh (yMd) Tryz.func197 (by kernel_rfl) (by kernel_rfl) Tryz.ntmps197.symm (by decide) (fun x r h=>(yT6 x).trans h)
def yzT (x:dM) (k:Int):Int:=bif ltb (yq x.1 k) 0 then -1 else bif ltb (y9 x.2.1 (yq x.1 k)) 0 then -1 else bif !(x.2.2.1==((y9 x.2.1 (yq x.1 k)).tmod 3==0)) then -1 else yl x.2.2.2 (IntKind.i64.wrap (y9 x.2.1 (yq x.1 k)+1))
def yby (a0:List (dM)) (a1:Int):Int:=(szG yzT a0 a1).getD (-1)
theorem yR0 (a0:List (dM)) (a1:Int) (hk:zi9 ye2 (a0,a1,())):ykn a0 a1=(fun n=>some ((n,()),())) (yby a0 a1):=by
 have hb:a0.length * 80≤2 ^ 47:=hk.1.1
 have hl:ypV (((a0,()),(a1,()),((),()),()),(),())=some (match szG yzT a0 a1 with | some r=> .inl (((r,()),()),(),()) | none=> .inr ((((-1),()),()),(),())) :=
  zkG (step:=ybg) a0 (([],[],false,[]):dM) (fun i k=>(((a0,()),(k,()),((i:Int),()),()),(),())) yzT (fun r=> .inl (((r,()),()),(),())) (.inr ((((-1),()),()),(),())) (fun i s hi=>by
   simp only [ybg,yn8,zjI (show (i:Int) < a0.length by omega),zkO hi,zjW,cond_true,wr (show -9223372036854775808≤(i:Int)+1 by omega) (by omega),Int.natCast_add,Int.natCast_one,yzT]
   cases ltb (yq (a0.getD i (([],[],false,[]):dM)).1 s) 0
   ·simp only [cond_false]
    cases ltb (y9 (a0.getD i (([],[],false,[]):dM)).2.1 (yq (a0.getD i (([],[],false,[]):dM)).1 s)) 0
    ·simp only [cond_false]
     cases ((a0.getD i (([],[],false,[]):dM)).2.2.1==((y9 (a0.getD i (([],[],false,[]):dM)).2.1 (yq (a0.getD i (([],[],false,[]):dM)).1 s)).tmod 3==0))
     ·rfl
     ·simp only [Bool.not_true,cond_false]
      cases ltb (yl (a0.getD i (([],[],false,[]):dM)).2.2.2 (IntKind.i64.wrap (y9 (a0.getD i (([],[],false,[]):dM)).2.1 (yq (a0.getD i (([],[],false,[]):dM)).1 s)+1))) 0<;>rfl
    ·rfl
   ·rfl) (fun s=>by simp only [ybg,yn8,zkm (Int.le_refl _),cond_false]) a1 _ (by show _ < 18446744073709551616; omega)
 unfold ykn yby
 rw [hl]
 cases szG yzT a0 a1<;>rfl
def yBw:Con:=⟨ye2,yoI,fun x=>(fun n=>some ((n,()),())) (yby x.1 x.2.1)⟩
theorem ySH:ConOk Tryz.prog 197 yBw:=(yO4).mono (fun x r hk h=>(yR0 x.1 x.2.1 hk).trans h)
theorem y4n (l:List dW) (k:Int) (h0:0≤k) (h:k+((l.map (fun x:dW=>1+x.2.length)).sum:Nat)≤9223372036854775807):(zaX yTb l k).1=k+((l.map (fun x:dW=>1+x.2.length)).sum:Nat)∧szG yIP (zaX yTb l k).2 k=some (k+((l.map (fun x:dW=>1+x.2.length)).sum:Nat)) :=
 ziN (m:=fun x:dW=>1+x.2.length) (fun x k h0 h=>by
  have hw:IntKind.i64.wrap (k+1)=k+1:=wr (by omega) (by omega)
  unfold yTb yIP
  simp only [hw,bne_self_eq_false,cond_false,yCA,yrq x.2.length (k+1) (by omega) (by omega)]
  omega) l k h0 h
theorem y3z (l:List (List Int)) (k:Int) (h0:0≤k) (h:k+((l.map (fun x:List Int=>x.length)).sum:Nat)≤9223372036854775807):(zaX yEX l k).1=k+((l.map (fun x:List Int=>x.length)).sum:Nat)∧szG yx7 (zaX yEX l k).2 k=some (k+((l.map (fun x:List Int=>x.length)).sum:Nat)) :=
 ziN (m:=fun x:List Int=>x.length) (fun x k h0 h=>by
  unfold yEX yx7 yR
  simp only [yCA,yrq x.length k (by omega) (by omega),and_self]) l k h0 h
theorem y4m (x:dM) (k:Int) (h0:0≤k) (h:k+(yr9 x:Nat)≤9223372036854775807):(yCH x k).1=k+(yr9 x:Nat)∧yzT (yCH x k).2 k=k+(yr9 x:Nat):=by
 unfold yr9 at h ⊢
 obtain ⟨a1,a2⟩:=y3z x.1 k h0 (by omega)
 obtain ⟨b1,b2⟩:=y4n x.2.1 (k+((x.1.map (fun x:List Int=>x.length)).sum:Nat)) (by omega) (by omega)
 have hw: ∀ n:Int,0≤n→n+1≤9223372036854775807→IntKind.i64.wrap (n+1)=n+1:=fun n h1 h2=>wr (by omega) (by omega)
 unfold yCH yzT
 simp only [yT,ya8,yR,yq,y9,a1,a2,b1,b2,Option.getD_some]
 rw [hw _ (by omega) (by omega),zkm (show 0≤k+((x.1.map (fun x:List Int=>x.length)).sum:Nat) by omega),cond_false,zkm (by omega),cond_false,beq_self_eq_true,Bool.not_true,cond_false,yCA,yrq _ _ (by omega) (by omega)]
 omega
theorem yZV (l:List dM) (k:Int) (h0:0≤k) (h:k+(yo7 l:Nat)≤9223372036854775807):(zaX yCH l k).1=k+(yo7 l:Nat)∧szG yzT (zaX yCH l k).2 k=some (k+(yo7 l:Nat)) :=
 ziN (m:=yr9) (fun x k h0 h=>y4m x k h0 h) l k h0 h
theorem y5W (l:List dM) (h:yo7 l≤4611686018427387904):(yaI l 1).1=1+(yo7 l:Nat)∧yby (yaI l 1).2 1=1+(yo7 l:Nat):=by
 obtain ⟨h1,h2⟩:=yZV l 1 (by omega) (by omega)
 unfold yby yaI
 exact ⟨h1,by rw [h2]; rfl⟩
end
section
def yh4:Code:=(Tryz.f198.body).getD .skip
def yom:Env:=zki TT [(260,yf0)] []
theorem yL8:FrOk Tryz.prog ⟨yom,31,fun _=>none⟩ yh4:=zkp yb yc ⟨ymv,trivial⟩
def yAS:Nat→Option Seg:=fun _=>none
def ycl:Shape:=⟨[(0,false,[.br tW]),(1,false,[.int .i64]),(5,false,[.int .i64])],[],[]⟩
def yiD:Shape:=⟨[(0,false,[.br tW]),(1,false,[.int .i64]),(5,false,[.ci .i64 0])],[],[]⟩
def yik:Shape:=⟨[(1,false,[.int .i64])],[],[]⟩
def yi5:Shape:=⟨[(4,false,[.int .i64])],[],[]⟩
def yn6 (v0:List dW) (v1 v2:Int):Option ((ycl).X ⊕ ((yik).X ⊕ (yi5).X)) :=
 bif (ltb v2 (v0.length:Int)) then
 bif (inb v2 v0.length) then
 bif ((nth v0 v2 (0,[])).1 !=v1) then
 some (.inr (.inr ((((-1),()),()),(),())))
 else
 bif (inb v2 v0.length) then
 let r2:=yl ((nth v0 v2 (0,[])).2) (IntKind.i64.wrap (v1+1))
 bif (ltb r2 0) then
 some (.inr (.inr ((((-1),()),()),(),())))
 else
 some (.inl (((v0,()),(r2,()),((IntKind.i64.wrap (v2+1)),()),()),(),()))
 else none
 else none
 else
 some (.inr (.inl (((v1,()),()),(),())))
def ybe (x:(ycl).X):=yn6 x.1.1.1 x.1.2.1.1 x.1.2.2.1.1
def yxi (x:(yiD).X):(ycl).X:=(((x.1.1.1,()),(x.1.2.1.1,()),(0,()),()),(),())
def yy9:Code:=(zdI yh4 64 52).getD .skip
theorem yLC:zdI yh4 64 13=some (.block 0 (.loop yy9)):=by kernel_rfl
theorem yNg (x:(ycl).X):zg7 ⟨yom,31,yAS⟩ 0 yy9 52 ycl yik yi5 x=ybe x:=by kernel_rfl
def yxu (x:(yiD).X):Nat:=18446744073709551616
def ypT (x:(yiD).X):Option ((yik).X ⊕ (yi5).X):=zr ybe (yxu x) (yxi x)
def yxK:Seg:=⟨yiD,yik,yi5,ypT⟩
def yAT:Nat→Option Seg:=fun q=>bif Nat.beq q 13 then some yxK else yAS q
theorem yL9:FrOk Tryz.prog ⟨yom,31,yAT⟩ yh4:=(yL8).loop (sg:=yxK) ycl yxi (by decide) yLC ybe yxu (by decide) (fun _=>rfl) (fun x r _ h=>h) yNg
abbrev ye0:List Par:= [.rd tWs,.rd tI]
abbrev yoG:List OT:= [⟨false,tI,.fz⟩]
def ykl (a0:List dW) (a1:Int):Option (ResD yoG×MutD ye0) :=
 zjw (ypT (((a0,()),(a1,()),((),()),()),(),())) (fun y2 =>
 some ((y2.1.1.1,()),())) (fun y2 =>
 some ((y2.1.1.1,()),()))
theorem yT4 (x:InD ye0):zjH ⟨yom,31,yAT⟩ Tryz.f198.results.toList yh4 ye0 yoG x=ykl x.1 x.2.1:=by kernel_rfl
theorem yO2:ConOk Tryz.prog 198 ⟨ye0,yoG,fun x=>ykl x.1 x.2.1⟩:=zkh (yL9) Tryz.func198 (by kernel_rfl) (by kernel_rfl) Tryz.ntmps198.symm (by decide) (fun x r h=>(yT4 x).trans h)
def yEm (x:dW) (k:Int):Int:=bif x.1 !=k then -1 else yl x.2 (IntKind.i64.wrap (k+1))
def yfh (a0:List (dW)) (a1:Int):Int:=(szG yEm a0 a1).getD (-1)
theorem yRY (a0:List (dW)) (a1:Int) (hk:zi9 ye0 (a0,a1,())):ykl a0 a1=(fun n=>some ((n,()),())) (yfh a0 a1):=by
 have hb:a0.length * 32≤2 ^ 47:=hk.1.1
 have hl:ypT (((a0,()),(a1,()),((),()),()),(),())=some (match szG yEm a0 a1 with | some r=> .inl (((r,()),()),(),()) | none=> .inr ((((-1),()),()),(),())) :=
  zkG (step:=ybe) a0 ((0,[]):dW) (fun i k=>(((a0,()),(k,()),((i:Int),()),()),(),())) yEm (fun r=> .inl (((r,()),()),(),())) (.inr ((((-1),()),()),(),())) (fun i s hi=>by
   simp only [ybe,yn6,zjI (show (i:Int) < a0.length by omega),zkO hi,zjW,cond_true,wr (show -9223372036854775808≤(i:Int)+1 by omega) (by omega),Int.natCast_add,Int.natCast_one,yEm]
   cases ((a0.getD i ((0,[]):dW)).1 !=s)
   ·simp only [cond_false]
    cases ltb (yl (a0.getD i ((0,[]):dW)).2 (IntKind.i64.wrap (s+1))) 0<;>rfl
   ·rfl) (fun s=>by simp only [ybe,yn6,zkm (Int.le_refl _),cond_false]) a1 _ (by show _ < 18446744073709551616; omega)
 unfold ykl yfh
 rw [hl]
 cases szG yEm a0 a1<;>rfl
def yBv:Con:=⟨ye0,yoG,fun x=>(fun n=>some ((n,()),())) (yfh x.1 x.2.1)⟩
theorem ySG:ConOk Tryz.prog 198 yBv:=(yO2).mono (fun x r hk h=>(yRY x.1 x.2.1 hk).trans h)
theorem y3T (l:List dW) (k:Int) (h0:0≤k) (h:k+(yb0 l:Nat)≤9223372036854775807):(zaX yI6 l k).1=k+(yb0 l:Nat)∧szG yEm (zaX yI6 l k).2 k=some (k+(yb0 l:Nat)) :=
 ziN (m:=fun x:dW=>1+x.2.length) (fun x k h0 h=>by
  have hw:IntKind.i64.wrap (k+1)=k+1:=wr (by omega) (by omega)
  unfold yI6 yEm
  simp only [hw,bne_self_eq_false,cond_false,yCA,yrq x.2.length (k+1) (by omega) (by omega)]
  omega) l k h0 h
end
section
def yG5:Code:=(Tryz.f93.body).getD .skip
def yHE:Env:=zki TT [(197,yBw),(198,yBv)] []
theorem yOe:FrOk Tryz.prog ⟨yHE,18,fun _=>none⟩ yG5:=zkp yb yc ⟨ySH,ySG,trivial⟩
def yPW:Nat→Option Seg:=fun _=>none
abbrev ykU:List Par:= [.rd tA,.rd tI]
abbrev yrb:List OT:= [⟨false,tI,.fz⟩]
def yuu (a0:dA) (a1:Int):Option (ResD yrb×MutD ykU) :=
 let r1:=yby a0.2.2.1 a1
 bif (ltb r1 0) then
 some (((-1),()),())
 else
 let r2:=yfh a0.2.2.2.2.2.2.2.2.1 r1
 bif (ltb r2 0) then
 some (((-1),()),())
 else
 some ((r2,()),())
theorem yXF (x:InD ykU):zjH ⟨yHE,18,yPW⟩ Tryz.f93.results.toList yG5 ykU yrb x=yuu x.1 x.2.1:=by kernel_rfl
theorem ySl:ConOk Tryz.prog 93 ⟨ykU,yrb,fun x=>yuu x.1 x.2.1⟩:=zkh (yOe) Tryz.func93 (by kernel_rfl) (by kernel_rfl) Tryz.ntmps93.symm (by decide) (fun x r h=>(yXF x).trans h)
def yat (a0:dA) (a1:Int):Int :=
 let r1:=yby a0.2.2.1 a1
 bif (ltb r1 0) then
 (-1)
 else
 let r2:=yfh a0.2.2.2.2.2.2.2.2.1 r1
 bif (ltb r2 0) then
 (-1)
 else
 r2
def yt5:Con:=⟨ykU,yrb,fun x=>(fun n=>some ((n,()),())) (yat x.1 x.2.1)⟩
theorem yVv (a0:dA) (a1:Int):yuu a0 a1=(fun n=>some ((n,()),())) (yat a0 a1):=zkS (p:=fun (n:Int)=>((n,()),())) (zkx (p:=fun (n:Int)=>((n,()),())) rfl (zkx (p:=fun (n:Int)=>((n,()),())) rfl rfl))
theorem yGJ:ConOk Tryz.prog 93 yt5:=(ySl).mono (fun x r _ h=>(yVv x.1 x.2.1).trans h)
theorem y47 {x:dA} (h:ybw x≤4611686018427387904):(yy x 1).1=1+(ybw x:Nat)∧yat (yy x 1).2 1=1+(ybw x:Nat):=by
 unfold ybw at h ⊢
 obtain ⟨a1,a2⟩:=yZV x.2.2.1 1 (by omega) (by omega)
 obtain ⟨b1,b2⟩:=y3T x.2.2.2.2.2.2.2.2.1 (1+(yo7 x.2.2.1:Nat)) (by omega) (by omega)
 unfold yy yat
 simp only [yaI,yfi,yby,yfh,a1,a2,b1,b2,Option.getD_some]
 rw [zkm (show (0:Int)≤1+(yo7 x.2.2.1:Nat) by omega),cond_false,zkm (by omega),cond_false]
 omega
abbrev yX5 (x:dA):dA:=(x.1,x.2.1,(yy x 1).2.2.2.1,x.2.2.2.1,x.2.2.2.2.1,x.2.2.2.2.2.1,x.2.2.2.2.2.2.1,x.2.2.2.2.2.2.2.1,(yy x 1).2.2.2.2.2.2.2.2.2.1,x.2.2.2.2.2.2.2.2.2)
theorem yNt {x:dA} (h:ybw x≤4611686018427387904):ltb (yy x 1).1 0=false∧ltb (yat (yX5 x) 1) 0=false∧(yat (yX5 x) 1 !=(yy x 1).1)=false:=by
 obtain ⟨h1,h2⟩:=y47 h
 rw [show yX5 x=(yy x 1).2 from rfl,h1,h2]
 exact ⟨zkm (by omega),zkm (by omega),by simp⟩
end
section
def yod:Code:=(Tryz.f10.body).getD .skip
def yol:Env:=zki TT [(83,ymm),(84,yv9),(89,yx0),(90,yx1),(91,yxZ),(92,yt6),(93,yt5)] []
theorem yx6:FrOk Tryz.prog ⟨yol,101,fun _=>none⟩ yod:=zkp yb yc ⟨yxE,yKG,yJ0,yJ1,yJZ,yGK,yGJ,trivial⟩
def yyT:Nat→Option Seg:=fun _=>none
abbrev yU:List Par:= [.rd tA,.rd tI]
abbrev ycK:List OT:= [⟨false,tB,.fz⟩]
def ybz (a0:dA) (a1:Int):Option (ResD ycK×MutD yU) :=
 let r1:=ybV a0 1048576
 bif (ltb r1 0) then
 some ((true,()),())
 else
 let r2:=ya1 a0
 let r3:=yeP r2 a1
 let r4:=ya1 a0
 let r5:=yad r4 a1
 let r6:=yZ r5.1 r3.1
 bif (!(!r6)) then
 bif (r5.2 !=r3.2) then
 some ((false,()),())
 else
 let r7:=ya1 a0
 let r8:=yZ r4 r7
 bif (!r8) then
 some ((false,()),())
 else
 let r9:=yy r4 1
 bif (!(ltb r9.1 0)) then
 let r10:=yZ r5.1 r3.1
 bif (!(!r10)) then
 bif (r5.2 !=r3.2) then
 some ((false,()),())
 else
 let r11:=yy r5.1 1
 let r12:=yat (r5.1.1,r5.1.2.1,r11.2.2.2.1,r5.1.2.2.2.1,r5.1.2.2.2.2.1,r5.1.2.2.2.2.2.1,r5.1.2.2.2.2.2.2.1,r5.1.2.2.2.2.2.2.2.1,r11.2.2.2.2.2.2.2.2.2.1,r5.1.2.2.2.2.2.2.2.2.2) 1
 bif (ltb r12 0) then
 some ((false,()),())
 else
 bif (r12 !=r11.1) then
 some ((false,()),())
 else
 let r13:=ya1 a0
 let r14:=yad r13 a1
 let r15:=yZ r14.1 r3.1
 bif (!(!r15)) then
 bif (r14.2 !=r3.2) then
 some ((false,()),())
 else
 let r16:=yat (r5.1.1,r5.1.2.1,r11.2.2.2.1,r5.1.2.2.2.1,r5.1.2.2.2.2.1,r5.1.2.2.2.2.2.1,r5.1.2.2.2.2.2.2.1,r5.1.2.2.2.2.2.2.2.1,r11.2.2.2.2.2.2.2.2.2.1,r5.1.2.2.2.2.2.2.2.2.2) 1
 bif (ltb r16 0) then
 some ((false,()),())
 else
 bif (r16 !=r11.1) then
 some ((false,()),())
 else
 some ((true,()),())
 else
 some ((false,()),())
 else
 some ((false,()),())
 else
 some ((false,()),())
 else
 some ((false,()),())
theorem yCu (x:InD yU):zjH ⟨yol,101,yyT⟩ Tryz.f10.results.toList yod yU ycK x=ybz x.1 x.2.1:=by kernel_rfl
theorem yzZ:ConOk Tryz.prog 10 ⟨yU,ycK,fun x=>ybz x.1 x.2.1⟩:=zkh (yx6) Tryz.func10 (by kernel_rfl) (by kernel_rfl) Tryz.ntmps10.symm (by decide) (fun x r h=>(yCu x).trans h)
def yge (a0:dA) (a1:Int):Bool:=true
def yP3 (M:Nat) (x:dA):Prop:=x.2.2.1.length≤5∧yae x.2.2.1∧yb0 x.2.2.2.2.2.2.2.2.1≤M
theorem y37 {M:Nat} {d:List dW} {x:dA} (h:ydP d x) (hd:yb0 d≤M):yP3 M x:=⟨h.1,h.2.1,by rw [h.2.2]; exact hd⟩
theorem yVl {M:Nat} {x:dA} (h:yP3 M x):ybw x≤M+5205:=by
 have:=yVi (d:=x.2.2.2.2.2.2.2.2.1) (x:=x) ⟨h.1,h.2.1,rfl⟩
 have:=h.2.2
 omega
theorem y3F {d:List dW} {a:dA} (s:Int) (data:List Int) (h:ydP d a):ydP d (ya5 a s data).2:=by
 have hc:ydP d (ycM a):=by
  unfold ycM
  cases leb 4 (IntKind.i64.wrap (a.2.2.2.2.2.1 - a.2.2.2.2.2.2.1))
  ·exact h
  ·exact yIV h
 unfold ya5
 have hr:=y4s ((ycM a).2.2.2.2.2.1,s,data) hc
 generalize yao (ycM a) ((ycM a).2.2.2.2.2.1,s,data)=R at hr ⊢
 have hq:ydP d (yL (yap R) s data):=y34 (a:=yap R) _ _ hr
 generalize yL (yap R) s data=Q at hq ⊢
 cases yd (ycM a)
 ·cases yd R
  ·exact hq
  ·exact hr
 ·exact hc
theorem y4k (l:List dW) (k:Nat):yb0 (yyL l k)≤yb0 l:=by
 have h:yb0 l=yb0 (l.take k)+yb0 (l.drop k):=by
  have:yb0 (l.take k++l.drop k)=yb0 (l.take k)+yb0 (l.drop k):=by unfold yb0; rw [List.map_append,List.sum_append]
  rw [List.take_append_drop]at this; exact this
 have h2:yb0 (l.drop (k+1))≤yb0 (l.drop k):=by
  cases hd:l.drop k with
  | nil =>
   have:l.drop (k+1)= []:=List.drop_eq_nil_of_le (by have:=List.drop_eq_nil_iff.1 hd; omega)
   rw [this]; exact Nat.le_refl _
  | cons x t =>
   have:l.drop (k+1)=t:=by rw [← List.drop_drop,hd]; rfl
   rw [this]
   show yb0 t≤(1+x.2.length)+yb0 t
   omega
 have h3:yb0 (yyL l k)=yb0 (l.take k)+yb0 (l.drop (k+1)):=by unfold yyL yb0; rw [List.map_append,List.sum_append]
 omega
theorem yVk {M:Nat} {a:dA} (s:Int) (h:yP3 M a):yP3 M (yac a s).2:=by
 unfold yac
 cases ltb (ym a.2.2.2.2.2.2.2.2.1 s) 0
 ·generalize (nth a.2.2.2.2.2.2.2.2.1 (ym a.2.2.2.2.2.2.2.2.1 s) (0,[])).2=D
  cases (yk a s D !=0)
  ·have hw:=y3F (d:=a.2.2.2.2.2.2.2.2.1) s D ⟨h.1,h.2.1,rfl⟩
   cases ((ya5 a s D).1==0)
   ·exact y37 hw h.2.2
   ·exact ⟨hw.1,hw.2.1,Nat.le_trans (y4k _ _) h.2.2⟩
  ·exact h
 ·exact h
theorem y2P {a:dA} (h:yp a=true) (ha:ybw a≤2097152):yP3 2097152 a:=⟨yQj h,yIF h,by unfold ybw at ha; omega⟩
theorem y2E {a:dA} {s:Int} (ha:ybw a≤2097152):ybw (ylj a s).1≤2105000:=by
 unfold ylj
 cases h:yp a
 ·show ybw a≤_; omega
 cases yd a
 ·cases yK a.2.1 s
  ·show ybw a≤_; omega
  ·have:=yVl (yVk s (y2P h ha))
   show ybw (yac a s).2≤_; omega
 ·show ybw a≤_; omega
theorem yAr (a0:dA) (a1:Int) (hk:zi9 yU (a0,a1,())):ybz a0 a1=(fun n=>some ((n,()),())) (yge a0 a1):=by
 unfold ybz yge yad yeP
 cases h:ltb (ybV a0 1048576) 0
 ·have hs:=y26 (a:=a0) hk.1 h
  have hf:=y2E (s:=a1) hs
  obtain ⟨f1,f2,f3⟩:=yNt (x:=a0) (by omega)
  obtain ⟨g1,g2,g3⟩:=yNt (x:=(ylj a0 a1).1) (by omega)
  simp only [h,yJX,yIe,bne_self_eq_false,Bool.not_true,Bool.not_false,cond_true,cond_false,f1,g2,g3]
 ·simp only [h,cond_true]
def yzi:Con:=⟨yU,ycK,fun x=>(fun n=>some ((n,()),())) (yge x.1 x.2.1)⟩
theorem y1y:ConOk Tryz.prog 10 yzi:=(yzZ).mono (fun x r hk h=>(yAr x.1 x.2.1 hk).trans h)
end
end
end Go.Tf
