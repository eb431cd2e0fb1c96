/- Functions of the program, and what they come to. -/
import Derived.Test.YtgmadfpnljibhaaGreatExactSetBlockF18
namespace Go.Tf
noncomputable section
open Go.Proofs
set_option synthInstance.maxHeartbeats 400000
set_option synthInstance.maxSize 10000
set_option linter.unusedVariables false
set_option linter.unusedSimpArgs false
set_option maxRecDepth 100000
section
def yhJ:Code:=(Tryz.f259.body).getD .skip
def ymG:Env:=zki TT [(260,yd3)] []
theorem yFk:FrOk Tryz.prog ⟨ymG,31,fun _=>none⟩ yhJ:=zkp yb yc ⟨yi6,trivial⟩
def ywc:Nat→Option Seg:=fun _=>none
def yb8:Shape:=⟨[(0,false,[.br tW]),(1,false,[.int .i64]),(5,false,[.int .i64])],[],[]⟩
def yg1:Shape:=⟨[(0,false,[.br tW]),(1,false,[.int .i64]),(5,false,[.ci .i64 0])],[],[]⟩
def ygU:Shape:=⟨[(1,false,[.int .i64])],[],[]⟩
def yhd:Shape:=⟨[(4,false,[.int .i64])],[],[]⟩
def ymr (v0:List dW) (v1 v2:Int):Option ((yb8).X ⊕ ((ygU).X ⊕ (yhd).X)) :=
 bif (ltb v2 (v0.length:Int)) then
 bif (inb v2 v0.length) then
 bif ((nth v0 v2 (0,[])).1 !=v1) then
 some (.inr (.inr ((((-1),()),()),(),())))
 else
 bif (inb v2 v0.length) then
 let r2:=yi ((nth v0 v2 (0,[])).2) (IntKind.i64.wrap (v1+1))
 bif (ltb r2 0) then
 some (.inr (.inr ((((-1),()),()),(),())))
 else
 some (.inl (((v0,()),(r2,()),((IntKind.i64.wrap (v2+1)),()),()),(),()))
 else none
 else none
 else
 some (.inr (.inl (((v1,()),()),(),())))
def yaZ (x:(yb8).X):=ymr x.1.1.1 x.1.2.1.1 x.1.2.2.1.1
def yte (x:(yg1).X):(yb8).X:=(((x.1.1.1,()),(x.1.2.1.1,()),(0,()),()),(),())
def yuE:Code:=(zdI yhJ 64 52).getD .skip
theorem yES:zdI yhJ 64 13=some (.block 0 (.loop yuE)):=by kernel_rfl
theorem yGn (x:(yb8).X):zg7 ⟨ymG,31,ywc⟩ 0 yuE 52 yb8 ygU yhd x=yaZ x:=by kernel_rfl
def ytw (x:(yg1).X):Nat:=18446744073709551616
def ynD (x:(yg1).X):Option ((ygU).X ⊕ (yhd).X):=zr yaZ (ytw x) (yte x)
def ytU:Seg:=⟨yg1,ygU,yhd,ynD⟩
def ywd:Nat→Option Seg:=fun q=>bif Nat.beq q 13 then some ytU else ywc q
theorem yFl:FrOk Tryz.prog ⟨ymG,31,ywd⟩ yhJ:=(yFk).loop (sg:=ytU) yb8 yte (by decide) yES yaZ ytw (by decide) (fun _=>rfl) (fun x r _ h=>h) yGn
abbrev yem:List Par:= [.rd tWs,.rd tI]
abbrev ymY:List OT:= [⟨false,tI,.fz⟩]
def yjg (a0:List dW) (a1:Int):Option (ResD ymY×MutD yem) :=
 zjw (ynD (((a0,()),(a1,()),((),()),()),(),())) (fun y2 =>
 some ((y2.1.1.1,()),())) (fun y2 =>
 some ((y2.1.1.1,()),()))
theorem yNx (x:InD yem):zjH ⟨ymG,31,ywd⟩ Tryz.f259.results.toList yhJ yem ymY x=yjg x.1 x.2.1:=by kernel_rfl
theorem yIV:ConOk Tryz.prog 259 ⟨yem,ymY,fun x=>yjg x.1 x.2.1⟩:=zkh (yFl) Tryz.func259 (by kernel_rfl) (by kernel_rfl) Tryz.ntmps259.symm (by decide) (fun x r h=>(yNx x).trans h)
def yBh (x:dW) (k:Int):Int:=bif x.1 !=k then -1 else yi x.2 (IntKind.i64.wrap (k+1))
def yQ (a0:List (dW)) (a1:Int):Int:=(szG yBh a0 a1).getD (-1)
theorem yLA (a0:List (dW)) (a1:Int) (hk:zi9 yem (a0,a1,())):yjg a0 a1=(fun n=>some ((n,()),())) (yQ a0 a1):=by
 have hb:a0.length * 32≤2 ^ 47:=hk.1.1
 have hl:ynD (((a0,()),(a1,()),((),()),()),(),())=some (match szG yBh a0 a1 with | some r=> .inl (((r,()),()),(),()) | none=> .inr ((((-1),()),()),(),())) :=
  zkG (step:=yaZ) a0 ((0,[]):dW) (fun i k=>(((a0,()),(k,()),((i:Int),()),()),(),())) yBh (fun r=> .inl (((r,()),()),(),())) (.inr ((((-1),()),()),(),())) (fun i s hi=>by
   simp only [yaZ,ymr,zjI (show (i:Int) < a0.length by omega),zkO hi,zjW,cond_true,wr (show -9223372036854775808≤(i:Int)+1 by omega) (by omega),Int.natCast_add,Int.natCast_one,yBh]
   cases ((a0.getD i ((0,[]):dW)).1 !=s)
   ·simp only [cond_false]
    cases ltb (yi (a0.getD i ((0,[]):dW)).2 (IntKind.i64.wrap (s+1))) 0<;>rfl
   ·rfl) (fun s=>by simp only [yaZ,ymr,zkm (Int.le_refl _),cond_false]) a1 _ (by show _ < 18446744073709551616; omega)
 unfold yjg yQ
 rw [hl]
 cases szG yBh a0 a1<;>rfl
def ywW:Con:=⟨yem,ymY,fun x=>(fun n=>some ((n,()),())) (yQ x.1 x.2.1)⟩
theorem yMu:ConOk Tryz.prog 259 ywW:=(yIV).mono (fun x r hk h=>(yLA x.1 x.2.1 hk).trans h)
end
section
def yfC:Code:=(Tryz.f197.body).getD .skip
def yks:Env:=zki TT [(258,ys4),(259,ywW),(260,yd3)] []
theorem yDH:FrOk Tryz.prog ⟨yks,51,fun _=>none⟩ yfC:=zkp yb yc ⟨yGd,yMu,yi6,trivial⟩
def yuo:Nat→Option Seg:=fun _=>none
def ybp:Shape:=⟨[(0,false,[.br tM]),(1,false,[.int .i64]),(5,false,[.int .i64])],[],[]⟩
def yf7:Shape:=⟨[(0,false,[.br tM]),(1,false,[.int .i64]),(5,false,[.ci .i64 0])],[],[]⟩
def yfS:Shape:=⟨[(1,false,[.int .i64])],[],[]⟩
def ygq:Shape:=⟨[(4,false,[.int .i64])],[],[]⟩
def ykk (v0:List dM) (v1 v2:Int):Option ((ybp).X ⊕ ((yfS).X ⊕ (ygq).X)) :=
 bif (ltb v2 (v0.length:Int)) then
 bif (inb v2 v0.length) then
 let r4:=ym ((nth v0 v2 ([],[],false,[])).1) v1
 bif (ltb r4 0) then
 some (.inr (.inr ((((-1),()),()),(),())))
 else
 bif (inb v2 v0.length) then
 let r5:=yQ (((nth v0 v2 ([],[],false,[])).2).1) r4
 bif (ltb r5 0) then
 some (.inr (.inr ((((-1),()),()),(),())))
 else
 bif (inb v2 v0.length) then
 bif (!((((nth v0 v2 ([],[],false,[])).2).2).1==((r5.tmod 3)==0))) then
 some (.inr (.inr ((((-1),()),()),(),())))
 else
 bif (inb v2 v0.length) then
 let r6:=yi ((((nth v0 v2 ([],[],false,[])).2).2).2) (IntKind.i64.wrap (r5+1))
 bif (ltb r6 0) then
 some (.inr (.inr ((((-1),()),()),(),())))
 else
 some (.inl (((v0,()),(r6,()),((IntKind.i64.wrap (v2+1)),()),()),(),()))
 else none
 else none
 else none
 else none
 else
 some (.inr (.inl (((v1,()),()),(),())))
def yaw (x:(ybp).X):=ykk x.1.1.1 x.1.2.1.1 x.1.2.2.1.1
def yrP (x:(yf7).X):(ybp).X:=(((x.1.1.1,()),(x.1.2.1.1,()),(0,()),()),(),())
def ysZ:Code:=(zdI yfC 64 52).getD .skip
theorem yDj:zdI yfC 64 13=some (.block 0 (.loop ysZ)):=by kernel_rfl
theorem yEo (x:(ybp).X):zg7 ⟨yks,51,yuo⟩ 0 ysZ 52 ybp yfS ygq x=yaw x:=by kernel_rfl
def yrW (x:(yf7).X):Nat:=18446744073709551616
def ylA (x:(yf7).X):Option ((yfS).X ⊕ (ygq).X):=zr yaw (yrW x) (yrP x)
def yr3:Seg:=⟨yf7,yfS,ygq,ylA⟩
def yup:Nat→Option Seg:=fun q=>bif Nat.beq q 13 then some yr3 else yuo q
theorem yDI:FrOk Tryz.prog ⟨yks,51,yup⟩ yfC:=(yDH).loop (sg:=yr3) ybp yrP (by decide) yDj yaw yrW (by decide) (fun _=>rfl) (fun x r _ h=>h) yEo
abbrev ydf:List Par:= [.rd tMs,.rd tI]
abbrev ykK:List OT:= [⟨false,tI,.fz⟩]
def yhv (a0:List dM) (a1:Int):Option (ResD ykK×MutD ydf) :=
 zjw (ylA (((a0,()),(a1,()),((),()),()),(),())) (fun y6 =>
 some ((y6.1.1.1,()),())) (fun y6 =>
 some ((y6.1.1.1,()),()))
theorem yKp (x:InD ydf):zjH ⟨yks,51,yup⟩ Tryz.f197.results.toList yfC ydf ykK x=yhv x.1 x.2.1:=by kernel_rfl
theorem yF2:ConOk Tryz.prog 197 ⟨ydf,ykK,fun x=>yhv x.1 x.2.1⟩:=zkh (yDI) Tryz.func197 (by kernel_rfl) (by kernel_rfl) Tryz.ntmps197.symm (by decide) (fun x r h=>(yKp x).trans h)
def ytF (x:dM) (k:Int):Int:=bif ltb (ym x.1 k) 0 then -1 else bif ltb (yQ x.2.1 (ym x.1 k)) 0 then -1 else bif !(x.2.2.1==((yQ x.2.1 (ym x.1 k)).tmod 3==0)) then -1 else yi x.2.2.2 (IntKind.i64.wrap (yQ x.2.1 (ym x.1 k)+1))
def yaN (a0:List (dM)) (a1:Int):Int:=(szG ytF a0 a1).getD (-1)
theorem yIA (a0:List (dM)) (a1:Int) (hk:zi9 ydf (a0,a1,())):yhv a0 a1=(fun n=>some ((n,()),())) (yaN a0 a1):=by
 have hb:a0.length * 80≤2 ^ 47:=hk.1.1
 have hl:ylA (((a0,()),(a1,()),((),()),()),(),())=some (match szG ytF a0 a1 with | some r=> .inl (((r,()),()),(),()) | none=> .inr ((((-1),()),()),(),())) :=
  zkG (step:=yaw) a0 (([],[],false,[]):dM) (fun i k=>(((a0,()),(k,()),((i:Int),()),()),(),())) ytF (fun r=> .inl (((r,()),()),(),())) (.inr ((((-1),()),()),(),())) (fun i s hi=>by
   simp only [yaw,ykk,zjI (show (i:Int) < a0.length by omega),zkO hi,zjW,cond_true,wr (show -9223372036854775808≤(i:Int)+1 by omega) (by omega),Int.natCast_add,Int.natCast_one,ytF]
   cases ltb (ym (a0.getD i (([],[],false,[]):dM)).1 s) 0
   ·simp only [cond_false]
    cases ltb (yQ (a0.getD i (([],[],false,[]):dM)).2.1 (ym (a0.getD i (([],[],false,[]):dM)).1 s)) 0
    ·simp only [cond_false]
     cases ((a0.getD i (([],[],false,[]):dM)).2.2.1==((yQ (a0.getD i (([],[],false,[]):dM)).2.1 (ym (a0.getD i (([],[],false,[]):dM)).1 s)).tmod 3==0))
     ·rfl
     ·simp only [Bool.not_true,cond_false]
      cases ltb (yi (a0.getD i (([],[],false,[]):dM)).2.2.2 (IntKind.i64.wrap (yQ (a0.getD i (([],[],false,[]):dM)).2.1 (ym (a0.getD i (([],[],false,[]):dM)).1 s)+1))) 0<;>rfl
    ·rfl
   ·rfl) (fun s=>by simp only [yaw,ykk,zkm (Int.le_refl _),cond_false]) a1 _ (by show _ < 18446744073709551616; omega)
 unfold yhv yaN
 rw [hl]
 cases szG ytF a0 a1<;>rfl
def yuS:Con:=⟨ydf,ykK,fun x=>(fun n=>some ((n,()),())) (yaN x.1 x.2.1)⟩
theorem yJb:ConOk Tryz.prog 197 yuS:=(yF2).mono (fun x r hk h=>(yIA x.1 x.2.1 hk).trans h)
theorem yS3 (l:List dW) (k:Int) (h0:0≤k) (h:k+((l.map (fun x:dW=>1+x.2.length)).sum:Nat)≤9223372036854775807):(zaX yJB l k).1=k+((l.map (fun x:dW=>1+x.2.length)).sum:Nat)∧szG yBh (zaX yJB l k).2 k=some (k+((l.map (fun x:dW=>1+x.2.length)).sum:Nat)) :=
 ziN (m:=fun x:dW=>1+x.2.length) (fun x k h0 h=>by
  have hw:IntKind.i64.wrap (k+1)=k+1:=wr (by omega) (by omega)
  unfold yJB yBh
  simp only [hw,bne_self_eq_false,cond_false,yvQ,ym8 x.2.length (k+1) (by omega) (by omega)]
  omega) l k h0 h
theorem ySw (l:List (List Int)) (k:Int) (h0:0≤k) (h:k+((l.map (fun x:List Int=>x.length)).sum:Nat)≤9223372036854775807):(zaX yxW l k).1=k+((l.map (fun x:List Int=>x.length)).sum:Nat)∧szG ysh (zaX yxW l k).2 k=some (k+((l.map (fun x:List Int=>x.length)).sum:Nat)) :=
 ziN (m:=fun x:List Int=>x.length) (fun x k h0 h=>by
  unfold yxW ysh yG
  simp only [yvQ,ym8 x.length k (by omega) (by omega),and_self]) l k h0 h
theorem yS2 (x:dM) (k:Int) (h0:0≤k) (h:k+(ynN x:Nat)≤9223372036854775807):(yvV x k).1=k+(ynN x:Nat)∧ytF (yvV x k).2 k=k+(ynN x:Nat):=by
 unfold ynN at h ⊢
 obtain ⟨a1,a2⟩:=ySw x.1 k h0 (by omega)
 obtain ⟨b1,b2⟩:=yS3 x.2.1 (k+((x.1.map (fun x:List Int=>x.length)).sum:Nat)) (by omega) (by omega)
 have hw: ∀ n:Int,0≤n→n+1≤9223372036854775807→IntKind.i64.wrap (n+1)=n+1:=fun n h1 h2=>wr (by omega) (by omega)
 unfold yvV ytF
 simp only [yH,yas,yG,ym,yQ,a1,a2,b1,b2,Option.getD_some]
 rw [hw _ (by omega) (by omega),zkm (show 0≤k+((x.1.map (fun x:List Int=>x.length)).sum:Nat) by omega),cond_false,zkm (by omega),cond_false,beq_self_eq_true,Bool.not_true,cond_false,yvQ,ym8 _ _ (by omega) (by omega)]
 omega
theorem yPx (l:List dM) (k:Int) (h0:0≤k) (h:k+(yhm l:Nat)≤9223372036854775807):(zaX yvV l k).1=k+(yhm l:Nat)∧szG ytF (zaX yvV l k).2 k=some (k+(yhm l:Nat)) :=
 ziN (m:=ynN) (fun x k h0 h=>yS2 x k h0 h) l k h0 h
theorem yUI (l:List dM) (h:yhm l≤4611686018427387904):(yag l 1).1=1+(yhm l:Nat)∧yaN (yag l 1).2 1=1+(yhm l:Nat):=by
 obtain ⟨h1,h2⟩:=yPx l 1 (by omega) (by omega)
 unfold yaN yag
 exact ⟨h1,by rw [h2]; rfl⟩
end
section
def yfA:Code:=(Tryz.f198.body).getD .skip
def ykq:Env:=zki TT [(260,yd3)] []
theorem yDD:FrOk Tryz.prog ⟨ykq,31,fun _=>none⟩ yfA:=zkp yb yc ⟨yi6,trivial⟩
def yuk:Nat→Option Seg:=fun _=>none
def ybn:Shape:=⟨[(0,false,[.br tW]),(1,false,[.int .i64]),(5,false,[.int .i64])],[],[]⟩
def yf5:Shape:=⟨[(0,false,[.br tW]),(1,false,[.int .i64]),(5,false,[.ci .i64 0])],[],[]⟩
def yfQ:Shape:=⟨[(1,false,[.int .i64])],[],[]⟩
def ygo:Shape:=⟨[(4,false,[.int .i64])],[],[]⟩
def yki (v0:List dW) (v1 v2:Int):Option ((ybn).X ⊕ ((yfQ).X ⊕ (ygo).X)) :=
 bif (ltb v2 (v0.length:Int)) then
 bif (inb v2 v0.length) then
 bif ((nth v0 v2 (0,[])).1 !=v1) then
 some (.inr (.inr ((((-1),()),()),(),())))
 else
 bif (inb v2 v0.length) then
 let r2:=yi ((nth v0 v2 (0,[])).2) (IntKind.i64.wrap (v1+1))
 bif (ltb r2 0) then
 some (.inr (.inr ((((-1),()),()),(),())))
 else
 some (.inl (((v0,()),(r2,()),((IntKind.i64.wrap (v2+1)),()),()),(),()))
 else none
 else none
 else
 some (.inr (.inl (((v1,()),()),(),())))
def yau (x:(ybn).X):=yki x.1.1.1 x.1.2.1.1 x.1.2.2.1.1
def yrN (x:(yf5).X):(ybn).X:=(((x.1.1.1,()),(x.1.2.1.1,()),(0,()),()),(),())
def ysX:Code:=(zdI yfA 64 52).getD .skip
theorem yDh:zdI yfA 64 13=some (.block 0 (.loop ysX)):=by kernel_rfl
theorem yEm (x:(ybn).X):zg7 ⟨ykq,31,yuk⟩ 0 ysX 52 ybn yfQ ygo x=yau x:=by kernel_rfl
def yrU (x:(yf5).X):Nat:=18446744073709551616
def yly (x:(yf5).X):Option ((yfQ).X ⊕ (ygo).X):=zr yau (yrU x) (yrN x)
def yr1:Seg:=⟨yf5,yfQ,ygo,yly⟩
def yul:Nat→Option Seg:=fun q=>bif Nat.beq q 13 then some yr1 else yuk q
theorem yDE:FrOk Tryz.prog ⟨ykq,31,yul⟩ yfA:=(yDD).loop (sg:=yr1) ybn yrN (by decide) yDh yau yrU (by decide) (fun _=>rfl) (fun x r _ h=>h) yEm
abbrev ydd:List Par:= [.rd tWs,.rd tI]
abbrev ykI:List OT:= [⟨false,tI,.fz⟩]
def yht (a0:List dW) (a1:Int):Option (ResD ykI×MutD ydd) :=
 zjw (yly (((a0,()),(a1,()),((),()),()),(),())) (fun y2 =>
 some ((y2.1.1.1,()),())) (fun y2 =>
 some ((y2.1.1.1,()),()))
theorem yKn (x:InD ydd):zjH ⟨ykq,31,yul⟩ Tryz.f198.results.toList yfA ydd ykI x=yht x.1 x.2.1:=by kernel_rfl
theorem yF0:ConOk Tryz.prog 198 ⟨ydd,ykI,fun x=>yht x.1 x.2.1⟩:=zkh (yDE) Tryz.func198 (by kernel_rfl) (by kernel_rfl) Tryz.ntmps198.symm (by decide) (fun x r h=>(yKn x).trans h)
def yxx (x:dW) (k:Int):Int:=bif x.1 !=k then -1 else yi x.2 (IntKind.i64.wrap (k+1))
def ydu (a0:List (dW)) (a1:Int):Int:=(szG yxx a0 a1).getD (-1)
theorem yIy (a0:List (dW)) (a1:Int) (hk:zi9 ydd (a0,a1,())):yht a0 a1=(fun n=>some ((n,()),())) (ydu a0 a1):=by
 have hb:a0.length * 32≤2 ^ 47:=hk.1.1
 have hl:yly (((a0,()),(a1,()),((),()),()),(),())=some (match szG yxx a0 a1 with | some r=> .inl (((r,()),()),(),()) | none=> .inr ((((-1),()),()),(),())) :=
  zkG (step:=yau) a0 ((0,[]):dW) (fun i k=>(((a0,()),(k,()),((i:Int),()),()),(),())) yxx (fun r=> .inl (((r,()),()),(),())) (.inr ((((-1),()),()),(),())) (fun i s hi=>by
   simp only [yau,yki,zjI (show (i:Int) < a0.length by omega),zkO hi,zjW,cond_true,wr (show -9223372036854775808≤(i:Int)+1 by omega) (by omega),Int.natCast_add,Int.natCast_one,yxx]
   cases ((a0.getD i ((0,[]):dW)).1 !=s)
   ·simp only [cond_false]
    cases ltb (yi (a0.getD i ((0,[]):dW)).2 (IntKind.i64.wrap (s+1))) 0<;>rfl
   ·rfl) (fun s=>by simp only [yau,yki,zkm (Int.le_refl _),cond_false]) a1 _ (by show _ < 18446744073709551616; omega)
 unfold yht ydu
 rw [hl]
 cases szG yxx a0 a1<;>rfl
def yuR:Con:=⟨ydd,ykI,fun x=>(fun n=>some ((n,()),())) (ydu x.1 x.2.1)⟩
theorem yJa:ConOk Tryz.prog 198 yuR:=(yF0).mono (fun x r hk h=>(yIy x.1 x.2.1 hk).trans h)
theorem ySF (l:List dW) (k:Int) (h0:0≤k) (h:k+(yhl l:Nat)≤9223372036854775807):(zaX yBr l k).1=k+(yhl l:Nat)∧szG yxx (zaX yBr l k).2 k=some (k+(yhl l:Nat)) :=
 ziN (m:=fun x:dW=>1+x.2.length) (fun x k h0 h=>by
  have hw:IntKind.i64.wrap (k+1)=k+1:=wr (by omega) (by omega)
  unfold yBr yxx
  simp only [hw,bne_self_eq_false,cond_false,yvQ,ym8 x.2.length (k+1) (by omega) (by omega)]
  omega) l k h0 h
end
section
def yzT:Code:=(Tryz.f93.body).getD .skip
def yAl:Env:=zki TT [(197,yuS),(198,yuR)] []
theorem yFj:FrOk Tryz.prog ⟨yAl,18,fun _=>none⟩ yzT:=zkp yb yc ⟨yJb,yJa,trivial⟩
def yGP:Nat→Option Seg:=fun _=>none
abbrev yh1:List Par:= [.rd tA,.rd tI]
abbrev ymX:List OT:= [⟨false,tI,.fz⟩]
def ypN (a0:dA) (a1:Int):Option (ResD ymX×MutD yh1) :=
 let r1:=yaN a0.2.2.1 a1
 bif (ltb r1 0) then
 some (((-1),()),())
 else
 let r2:=ydu a0.2.2.2.2.2.2.2.2.1 r1
 bif (ltb r2 0) then
 some (((-1),()),())
 else
 some ((r2,()),())
theorem yNw (x:InD yh1):zjH ⟨yAl,18,yGP⟩ Tryz.f93.results.toList yzT yh1 ymX x=ypN x.1 x.2.1:=by kernel_rfl
theorem yIU:ConOk Tryz.prog 93 ⟨yh1,ymX,fun x=>ypN x.1 x.2.1⟩:=zkh (yFj) Tryz.func93 (by kernel_rfl) (by kernel_rfl) Tryz.ntmps93.symm (by decide) (fun x r h=>(yNw x).trans h)
def yby (a0:dA) (a1:Int):Int :=
 let r1:=yaN a0.2.2.1 a1
 bif (ltb r1 0) then
 (-1)
 else
 let r2:=ydu a0.2.2.2.2.2.2.2.2.1 r1
 bif (ltb r2 0) then
 (-1)
 else
 r2
def ywV:Con:=⟨yh1,ymX,fun x=>(fun n=>some ((n,()),())) (yby x.1 x.2.1)⟩
theorem yLz (a0:dA) (a1:Int):ypN a0 a1=(fun n=>some ((n,()),())) (yby a0 a1):=zkS (p:=fun (n:Int)=>((n,()),())) (zkx (p:=fun (n:Int)=>((n,()),())) rfl (zkx (p:=fun (n:Int)=>((n,()),())) rfl rfl))
theorem yMt:ConOk Tryz.prog 93 ywV:=(yIU).mono (fun x r _ h=>(yLz x.1 x.2.1).trans h)
theorem yTK {x:dA} (h:yd9 x≤4611686018427387904):(yE x 1).1=1+(yd9 x:Nat)∧yby (yE x 1).2 1=1+(yd9 x:Nat):=by
 unfold yd9 at h ⊢
 obtain ⟨a1,a2⟩:=yPx x.2.2.1 1 (by omega) (by omega)
 obtain ⟨b1,b2⟩:=ySF x.2.2.2.2.2.2.2.2.1 (1+(yhm x.2.2.1:Nat)) (by omega) (by omega)
 unfold yE yby
 simp only [yag,ydv,yaN,ydu,a1,a2,b1,b2,Option.getD_some]
 rw [zkm (show (0:Int)≤1+(yhm x.2.2.1:Nat) by omega),cond_false,zkm (by omega),cond_false]
 omega
abbrev yNU (x:dA):dA:=(x.1,x.2.1,(yE x 1).2.2.2.1,x.2.2.2.1,x.2.2.2.2.1,x.2.2.2.2.2.1,x.2.2.2.2.2.2.1,x.2.2.2.2.2.2.2.1,(yE x 1).2.2.2.2.2.2.2.2.2.1,x.2.2.2.2.2.2.2.2.2)
theorem ySr {x:dA} (h:yd9 x≤4611686018427387904):ltb (yE x 1).1 0=false∧ltb (yby (yNU x) 1) 0=false∧(yby (yNU x) 1 !=(yE x 1).1)=false:=by
 obtain ⟨h1,h2⟩:=yTK h
 rw [show yNU x=(yE x 1).2 from rfl,h1,h2]
 exact ⟨zkm (by omega),zkm (by omega),by simp⟩
end
section
def yod:Code:=(Tryz.f9.body).getD .skip
def yof:Env:=zki TT [(80,yuO),(81,yuW),(89,yAB),(90,yAF),(91,yAw),(92,ywX),(93,ywV)] []
theorem yvN:FrOk Tryz.prog ⟨yof,106,fun _=>none⟩ yod:=zkp yb yc ⟨yI7,yJf,yQ2,yQ6,yQX,yMv,yMt,trivial⟩
def yv9:Nat→Option Seg:=fun _=>none
abbrev y5:List Par:= [.rd tA,.rd tI,.rd tI]
abbrev ycO:List OT:= [⟨false,tB,.fz⟩]
def yb4 (a0:dA) (a1 a2:Int):Option (ResD ycO×MutD y5) :=
 let r1:=yc5 a0 1048576
 bif (ltb r1 0) then
 some ((true,()),())
 else
 let r2:=ye0 a0
 let r3:=ygF r2 a1 a2
 let r4:=ye0 a0
 let r5:=yds r4 a1 a2
 let r6:=yb1 r5.1 r3.1
 bif (!(!r6)) then
 bif (r5.2 !=r3.2) then
 some ((false,()),())
 else
 let r7:=ye0 a0
 let r8:=yb1 r4 r7
 bif (!r8) then
 some ((false,()),())
 else
 let r9:=yE r4 1
 bif (!(ltb r9.1 0)) then
 let r10:=yb1 r5.1 r3.1
 bif (!(!r10)) then
 bif (r5.2 !=r3.2) then
 some ((false,()),())
 else
 let r11:=yE r5.1 1
 let r12:=yby (r5.1.1,r5.1.2.1,r11.2.2.2.1,r5.1.2.2.2.1,r5.1.2.2.2.2.1,r5.1.2.2.2.2.2.1,r5.1.2.2.2.2.2.2.1,r5.1.2.2.2.2.2.2.2.1,r11.2.2.2.2.2.2.2.2.2.1,r5.1.2.2.2.2.2.2.2.2.2) 1
 bif (ltb r12 0) then
 some ((false,()),())
 else
 bif (r12 !=r11.1) then
 some ((false,()),())
 else
 let r13:=ye0 a0
 let r14:=yds r13 a1 a2
 let r15:=yb1 r14.1 r3.1
 bif (!(!r15)) then
 bif (r14.2 !=r3.2) then
 some ((false,()),())
 else
 let r16:=yby (r5.1.1,r5.1.2.1,r11.2.2.2.1,r5.1.2.2.2.1,r5.1.2.2.2.2.1,r5.1.2.2.2.2.2.1,r5.1.2.2.2.2.2.2.1,r5.1.2.2.2.2.2.2.2.1,r11.2.2.2.2.2.2.2.2.2.1,r5.1.2.2.2.2.2.2.2.2.2) 1
 bif (ltb r16 0) then
 some ((false,()),())
 else
 bif (r16 !=r11.1) then
 some ((false,()),())
 else
 some ((true,()),())
 else
 some ((false,()),())
 else
 some ((false,()),())
 else
 some ((false,()),())
 else
 some ((false,()),())
theorem yzE (x:InD y5):zjH ⟨yof,106,yv9⟩ Tryz.f9.results.toList yod y5 ycO x=yb4 x.1 x.2.1 x.2.2.1:=by kernel_rfl
theorem yxC:ConOk Tryz.prog 9 ⟨y5,ycO,fun x=>yb4 x.1 x.2.1 x.2.2.1⟩:=zkh (yvN) Tryz.func9 (by kernel_rfl) (by kernel_rfl) Tryz.ntmps9.symm (by decide) (fun x r h=>(yzE x).trans h)
def ygP (a0:dA) (a1 a2:Int):Bool:=true
theorem ySo {g:dG}: ∀ {l:List dW},yd g=true→(∀ e∈l,yKz g e)→yhl l≤5 * l.length
 | [],_,_=>Nat.le_refl _
 | e::l,hg,h=>by
  have h1:=ySo (l:=l) hg (fun x hx=>h x (List.mem_cons_of_mem _ hx))
  have h2:=(h e List.mem_cons_self).2.1
  have h3:=yo.1 hg
  have h4:yhl (e::l)=(1+e.2.length)+yhl l:=rfl
  rw [h4,List.length_cons]
  omega
theorem yR6 {a:dA} {b n:Int} (ha:yd9 a≤2097152):yd9 (yxI a b n).1≤2105000:=by
 unfold yxI
 cases hc:(yan a b !=0)
 ·obtain ⟨h1,h2,_⟩:=yDo (bne_eq_false_iff_eq.1 hc)
  cases hn:isW n
  ·show yd9 a≤_; omega
  ·unfold yBa
   cases hk:(yM a (yB a.2.1 b)).2
   ·show yd9 a≤_; omega
   ·have hd:=yyO h1
    have hm:yhm a.2.2.1≤5205:=by
     have:=yxE (yBe h1)
     have:=Nat.mul_le_mul_right 1041 (yG8 h1)
     omega
    have h3:yhl (yR1 a.2.2.2.2.2.2.2.2.1 (yB a.2.1 b,(yM a (yB a.2.1 b)).1.set (ycd a.2.1 b).toNat n))≤100:=by
     have hl:=yDp hd (ycY h1)
     have hg:=yo.1 (ycY h1)
     have hsl:=yuf h1 (yzO h2) hk
     rw [yPo (yp8.1 hd).2]
     have e1: ∀ (p:dW→Bool),yhl (a.2.2.2.2.2.2.2.2.1.filter p)≤40:=fun p=>by
      have h5:=ySo (l:=a.2.2.2.2.2.2.2.2.1.filter p) (ycY h1) (fun x hx=>(yp8.1 hd).1 x (List.mem_filter.1 hx).1)
      have h6:=List.length_filter_le p a.2.2.2.2.2.2.2.2.1
      omega
     have e2: ∀ (l m:List dW) (e:dW),yhl (l++e::m)=yhl l+((1+e.2.length)+yhl m):=fun l m e=>by
      unfold yhl; rw [List.map_append,List.sum_append,List.map_cons,List.sum_cons]
     rw [e2]
     have h7:=e1 (fun x=>ltb x.1 (yB a.2.1 b))
     have h8:=e1 (fun x=>ltb (yB a.2.1 b) x.1)
     simp only [List.length_set]at h7 h8 ⊢
     omega
    show yhm a.2.2.1+yhl (yxG _ _)≤_
    rw [yR2 h1]
    omega
 ·show yd9 a≤_; omega
theorem yxZ (a0:dA) (a1 a2:Int) (hk:zi9 y5 (a0,a1,a2,())):yb4 a0 a1 a2=(fun n=>some ((n,()),())) (ygP a0 a1 a2):=by
 unfold yb4 ygP yds ygF
 cases h:ltb (yc5 a0 1048576) 0
 ·have hs:=yS8 (a:=a0) hk.1 h
  have hf:=yR6 (b:=a1) (n:=a2) hs
  obtain ⟨f1,f2,f3⟩:=ySr (x:=a0) (by omega)
  obtain ⟨g1,g2,g3⟩:=ySr (x:=(yxI a0 a1 a2).1) (by omega)
  simp only [h,yQi,yNJ,bne_self_eq_false,Bool.not_true,Bool.not_false,cond_true,cond_false,f1,g2,g3]
 ·simp only [h,cond_true]
def ywT:Con:=⟨y5,ycO,fun x=>(fun n=>some ((n,()),())) (ygP x.1 x.2.1 x.2.2.1)⟩
theorem yx2:ConOk Tryz.prog 9 ywT:=(yxC).mono (fun x r hk h=>(yxZ x.1 x.2.1 x.2.2.1 hk).trans h)
end
end
end Go.Tf
