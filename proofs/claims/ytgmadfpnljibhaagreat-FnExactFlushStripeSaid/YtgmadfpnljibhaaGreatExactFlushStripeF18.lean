/- Functions of the program, and what they come to. -/
import Derived.Test.YtgmadfpnljibhaaGreatExactFlushStripeF17
namespace Go.Tf
noncomputable section
open Go.Proofs
set_option synthInstance.maxHeartbeats 400000
set_option synthInstance.maxSize 10000
set_option linter.unusedVariables false
set_option linter.unusedSimpArgs false
set_option maxRecDepth 100000
section
def yJC:Code:=(Tryz.f250.body).getD .skip
def yJ1:Env:=zki TT [(279,yiY)] []
theorem yS4:FrOk Tryz.prog ⟨yJ1,12,fun _=>none⟩ yJC:=zkp yb yc ⟨yq0,trivial⟩
def yVz:Nat→Option Seg:=fun _=>none
abbrev ypz:List Par:= [.rd tW,.rd tI]
abbrev yu0:List OT:= [⟨false,tI,.fz⟩]
def yxu (a0:dW) (a1:Int):Option (ResD yu0×MutD ypz) :=
 let r1:=yj a0.2 a1
 bif (ltb r1 0) then
 some (((-1),()),())
 else
 some ((r1,()),())
theorem y0C (x:InD ypz):zjH ⟨yJ1,12,yVz⟩ Tryz.f250.results.toList yJC ypz yu0 x=yxu x.1 x.2.1:=by kernel_rfl
theorem yXi:ConOk Tryz.prog 250 ⟨ypz,yu0,fun x=>yxu x.1 x.2.1⟩:=zkh (yS4) Tryz.func250 (by kernel_rfl) (by kernel_rfl) Tryz.ntmps250.symm (by decide) (fun x r h=>(y0C x).trans h)
def yc2 (a0:dW) (a1:Int):Int :=
 let r1:=yj a0.2 a1
 bif (ltb r1 0) then
 (-1)
 else
 r1
def yGI:Con:=⟨ypz,yu0,fun x=>(fun n=>some ((n,()),())) (yc2 x.1 x.2.1)⟩
theorem yZq (a0:dW) (a1:Int):yxu a0 a1=(fun n=>some ((n,()),())) (yc2 a0 a1):=zkS (p:=fun (n:Int)=>((n,()),())) (zkx (p:=fun (n:Int)=>((n,()),())) rfl rfl)
theorem yZZ:ConOk Tryz.prog 250 yGI:=(yXi).mono (fun x r _ h=>(yZq x.1 x.2.1).trans h)
end
section
def yms:Code:=(Tryz.f188.body).getD .skip
def ysh:Env:=zki TT [(250,yGI)] []
theorem yPi:FrOk Tryz.prog ⟨ysh,27,fun _=>none⟩ yms:=zkp yb yc ⟨yZZ,trivial⟩
def yEi:Nat→Option Seg:=fun _=>none
def yd0:Shape:=⟨[(0,false,[.br tW]),(1,false,[.int .i64]),(5,false,[.int .i64])],[],[]⟩
def ylz:Shape:=⟨[(0,false,[.br tW]),(1,false,[.int .i64]),(5,false,[.ci .i64 0])],[],[]⟩
def ylr:Shape:=⟨[(1,false,[.int .i64])],[],[]⟩
def ylL:Shape:=⟨[(4,false,[.int .i64])],[],[]⟩
def yrP (v0:List dW) (v1 v2:Int):Option ((yd0).X ⊕ ((ylr).X ⊕ (ylL).X)) :=
 bif (ltb v2 (v0.length:Int)) then
 bif (inb v2 v0.length) then
 let r2:=yc2 (nth v0 v2 (0,[])) v1
 bif (ltb r2 0) then
 some (.inr (.inr ((((-1),()),()),(),())))
 else
 some (.inl (((v0,()),(r2,()),((IntKind.i64.wrap (v2+1)),()),()),(),()))
 else none
 else
 some (.inr (.inl (((v1,()),()),(),())))
def ycp (x:(yd0).X):=yrP x.1.1.1 x.1.2.1.1 x.1.2.2.1.1
def yAI (x:(ylz).X):(yd0).X:=(((x.1.1.1,()),(x.1.2.1.1,()),(0,()),()),(),())
def yCi:Code:=(zdI yms 64 244).getD .skip
theorem yOF:zdI yms 64 61=some (.block 0 (.loop yCi)):=by kernel_rfl
theorem yRr (x:(yd0).X):zg7 ⟨ysh,27,yEi⟩ 0 yCi 244 yd0 ylr ylL x=ycp x:=by kernel_rfl
def yAX (x:(ylz).X):Nat:=18446744073709551616
def yth (x:(ylz).X):Option ((ylr).X ⊕ (ylL).X):=zr ycp (yAX x) (yAI x)
def yBg:Seg:=⟨ylz,ylr,ylL,yth⟩
def yEj:Nat→Option Seg:=fun q=>bif Nat.beq q 61 then some yBg else yEi q
theorem yPj:FrOk Tryz.prog ⟨ysh,27,yEj⟩ yms:=(yPi).loop (sg:=yBg) yd0 yAI (by decide) yOF ycp yAX (by decide) (fun _=>rfl) (fun x r _ h=>h) yRr
abbrev yhp:List Par:= [.rd tWs,.rd tI]
abbrev ysG:List OT:= [⟨false,tI,.fz⟩]
def yoM (a0:List dW) (a1:Int):Option (ResD ysG×MutD yhp) :=
 bif (ltb (IntKind.i64.wrap (a1 - (a0.length:Int))) 0) then
 some (((-1),()),())
 else
 zjw (yth (((a0,()),((IntKind.i64.wrap (a1 - (a0.length:Int))),()),((),()),()),(),())) (fun y2 =>
 some ((y2.1.1.1,()),())) (fun y2 =>
 some ((y2.1.1.1,()),()))
theorem yYM (x:InD yhp):zjH ⟨ysh,27,yEj⟩ Tryz.f188.results.toList yms yhp ysG x=yoM x.1 x.2.1:=by kernel_rfl
theorem yUi:ConOk Tryz.prog 188 ⟨yhp,ysG,fun x=>yoM x.1 x.2.1⟩:=zkh (yPj) Tryz.func188 (by kernel_rfl) (by kernel_rfl) Tryz.ntmps188.symm (by decide) (fun x r h=>(yYM x).trans h)
def ybQ (a0:List (dW)) (a1:Int):Int:=bif ltb (IntKind.i64.wrap (a1 - (a0.length:Int))) 0 then (-1) else (szG yc2 a0 (IntKind.i64.wrap (a1 - (a0.length:Int)))).getD (-1)
theorem yWG (a0:List (dW)) (a1:Int) (hk:zi9 yhp (a0,a1,())):yoM a0 a1=(fun n=>some ((n,()),())) (ybQ a0 a1):=by
 have hb:a0.length * 32≤2 ^ 47:=hk.1.1
 have hl: ∀ k:Int,yth (((a0,()),(k,()),((),()),()),(),())=some (match szG yc2 a0 k with | some r=> .inl (((r,()),()),(),()) | none=> .inr ((((-1),()),()),(),())):=fun k =>
  zkG (step:=ycp) a0 ((0,[]):dW) (fun i k=>(((a0,()),(k,()),((i:Int),()),()),(),())) yc2 (fun r=> .inl (((r,()),()),(),())) (.inr ((((-1),()),()),(),())) (fun i s hi=>by
   simp only [ycp,yrP,zkO hi,zjW,Int.toNat_natCast,zjI (show (i:Int) < a0.length by omega),cond_true,wr (show -9223372036854775808≤(i:Int)+1 by omega) (by omega),Int.natCast_add,Int.natCast_one,zkV]
   cases ltb (yc2 (a0.getD i (0,[])) s) 0<;>rfl) (fun s=>by simp only [ycp,yrP,zkm (Int.le_refl _),cond_false]) k _ (by show _ < 18446744073709551616; omega)
 unfold yoM ybQ
 rw [hl]
 cases ltb (IntKind.i64.wrap (a1 - (a0.length:Int))) 0
 ·cases szG yc2 a0 (IntKind.i64.wrap (a1 - (a0.length:Int)))<;>rfl
 ·rfl
def yFh:Con:=⟨yhp,ysG,fun x=>(fun n=>some ((n,()),())) (ybQ x.1 x.2.1)⟩
theorem yXL:ConOk Tryz.prog 188 yFh:=(yUi).mono (fun x r hk h=>(yWG x.1 x.2.1 hk).trans h)
end
section
def yJB:Code:=(Tryz.f89.body).getD .skip
def yJ0:Env:=zki TT [(187,yFi),(188,yFh)] []
theorem yS3:FrOk Tryz.prog ⟨yJ0,18,fun _=>none⟩ yJB:=zkp yb yc ⟨yXM,yXL,trivial⟩
def yVy:Nat→Option Seg:=fun _=>none
abbrev ypy:List Par:= [.rd tA,.rd tI]
abbrev yuZ:List OT:= [⟨false,tI,.fz⟩]
def yxt (a0:dA) (a1:Int):Option (ResD yuZ×MutD ypy) :=
 let r1:=yaX a0.2.2.1 a1
 bif (ltb r1 0) then
 some (((-1),()),())
 else
 let r2:=ybQ a0.2.2.2.2.2.2.2.2.1 r1
 bif (ltb r2 0) then
 some (((-1),()),())
 else
 some ((r2,()),())
theorem y0B (x:InD ypy):zjH ⟨yJ0,18,yVy⟩ Tryz.f89.results.toList yJB ypy yuZ x=yxt x.1 x.2.1:=by kernel_rfl
theorem yXh:ConOk Tryz.prog 89 ⟨ypy,yuZ,fun x=>yxt x.1 x.2.1⟩:=zkh (yS3) Tryz.func89 (by kernel_rfl) (by kernel_rfl) Tryz.ntmps89.symm (by decide) (fun x r h=>(y0B x).trans h)
def yeC (a0:dA) (a1:Int):Int :=
 let r1:=yaX a0.2.2.1 a1
 bif (ltb r1 0) then
 (-1)
 else
 let r2:=ybQ a0.2.2.2.2.2.2.2.2.1 r1
 bif (ltb r2 0) then
 (-1)
 else
 r2
def yGH:Con:=⟨ypy,yuZ,fun x=>(fun n=>some ((n,()),())) (yeC x.1 x.2.1)⟩
theorem yZp (a0:dA) (a1:Int):yxt a0 a1=(fun n=>some ((n,()),())) (yeC a0 a1):=zkS (p:=fun (n:Int)=>((n,()),())) (zkx (p:=fun (n:Int)=>((n,()),())) rfl (zkx (p:=fun (n:Int)=>((n,()),())) rfl rfl))
theorem yZY:ConOk Tryz.prog 89 yGH:=(yXh).mono (fun x r _ h=>(yZp x.1 x.2.1).trans h)
theorem y2r {l:List dW} {k:Int} (h0:0≤k) (h1:k≤1048576) (hl:l.length * 32≤2 ^ 47) (hx: ∀ x∈l,x.2.length * 8≤2 ^ 47) (h:0≤ybQ l k):((l.length+(l.map (fun x:dW=>x.2.length)).sum:Nat):Int)≤k - ybQ l k∧ybQ l k≤k :=
 yVo (fun x hm k h0 h1 h=>by
  have:=hx x hm
  unfold yc2 at h ⊢
  by_cases h2:yj x.2 k < 0
  ·simp only [zjI h2,cond_true]at h; omega
  ·simp only [zkm (Int.not_lt.1 h2),cond_false]at h ⊢
   have:=yFI h0 h1 (by omega) h2
   omega) h0 h1 (by omega) h
theorem y2P {a:dA} (hm:tA.Ok a) (h:ltb (yeC a 1048576) 0=false):ydG a≤2097152:=by
 have h:0≤yeC a 1048576:=by
  rcases Int.lt_or_le (yeC a 1048576) 0 with h3 | h3
  ·rw [zjI h3]at h; cases h
  ·exact h3
 unfold yeC at h
 by_cases c1:yaX a.2.2.1 1048576 < 0
 ·simp only [zjI c1,cond_true]at h; omega
 simp only [zkm (Int.not_lt.1 c1),cond_false]at h
 have e1:=y2s (by omega) (by omega) hm.2.2.1 (Int.not_lt.1 c1)
 by_cases c2:ybQ a.2.2.2.2.2.2.2.2.1 (yaX a.2.2.1 1048576) < 0
 ·simp only [zjI c2,cond_true]at h; omega
 have e2:=y2r (Int.not_lt.1 c1) (by omega) hm.2.2.2.2.2.2.2.2.1.1 (fun x hx=>(hm.2.2.2.2.2.2.2.2.1.2 x hx).2.1) (Int.not_lt.1 c2)
 have e3:=y2K (l:=a.2.2.1)
 unfold ydG ybP
 rw [yRE (fun x:dW=>x.2.length) 1]
 omega
end
section
def yJG:Code:=(Tryz.f189.body).getD .skip
def yJ5:Env:=zki TT [] []
theorem yTa:FrOk Tryz.prog ⟨yJ5,11,fun _=>none⟩ yJG:=zkp yb yc trivial
def yVD:Nat→Option Seg:=fun _=>none
abbrev ypD:List Par:= [.rd tG]
abbrev yu5:List OT:= [⟨false,tG,(.pr .fz .fz)⟩]
def yxy (a0:dG):Option (ResD yu5×MutD ypD) :=
 some ((a0,()),())
theorem y0H (x:InD ypD):zjH ⟨yJ5,11,yVD⟩ Tryz.f189.results.toList yJG ypD yu5 x=yxy x.1:=by kernel_rfl
theorem yXn:ConOk Tryz.prog 189 ⟨ypD,yu5,fun x=>yxy x.1⟩:=zkh (yTa) Tryz.func189 (by kernel_rfl) (by kernel_rfl) Tryz.ntmps189.symm (by decide) (fun x r h=>(y0H x).trans h)
def ypY (a0:dG):dG :=
 a0
def yGN:Con:=⟨ypD,yu5,fun x=>(fun n=>some ((n,()),())) (ypY x.1)⟩
theorem yZv (a0:dG):yxy a0=(fun n=>some ((n,()),())) (ypY a0):=zkS (p:=fun (n:dG)=>((n,()),())) rfl
theorem yZ4:ConOk Tryz.prog 189 yGN:=(yXn).mono (fun x r _ h=>(yZv x.1).trans h)
theorem y3k (a:dG):ypY a=a:=by kernel_rfl
end
section
def ymv:Code:=(Tryz.f282.body).getD .skip
def ysk:Env:=zki TT [] []
theorem yPp:FrOk Tryz.prog ⟨ysk,22,fun _=>none⟩ ymv:=zkp yb yc trivial
def yEo:Nat→Option Seg:=fun _=>none
def yd3:Shape:=⟨[(0,false,[.br tI]),(3,false,[.at 800000000]),(4,false,[.int .i64])],[],[(800000000,tI,.fz)]⟩
def ylC:Shape:=⟨[(0,false,[.br tI]),(3,false,[.at 800000000]),(4,false,[.ci .i64 0])],[],[(800000000,tI,.fz)]⟩
def ylu:Shape:=⟨[(3,false,[.at 800000000])],[],[(800000000,tI,.fz)]⟩
def ylO:Shape:=⟨[],[],[]⟩
def yrS (v0:List Int) (v1:Int) (v2:List Int):Option ((yd3).X ⊕ ((ylu).X ⊕ (ylO).X)) :=
 bif (ltb v1 (v0.length:Int)) then
 bif (inb v1 v0.length) then
 bif (inb v1 v2.length) then
 some (.inl (((v0,()),((),()),((IntKind.i64.wrap (v1+1)),()),()),(),((v2.set (v1).toNat (nth v0 v1 0)),())))
 else none
 else none
 else
 some (.inr (.inl ((((),()),()),(),(v2,()))))
def ycs (x:(yd3).X):=yrS x.1.1.1 x.1.2.2.1.1 x.2.2.1
def yAL (x:(ylC).X):(yd3).X:=(((x.1.1.1,()),((),()),(0,()),()),(),(x.2.2.1,()))
def yCl:Code:=(zdI ymv 64 116).getD .skip
theorem yOI:zdI ymv 64 29=some (.block 0 (.loop yCl)):=by kernel_rfl
theorem yRu (x:(yd3).X):zg7 ⟨ysk,22,yEo⟩ 0 yCl 116 yd3 ylu ylO x=ycs x:=by kernel_rfl
def yA0 (x:(ylC).X):Nat:=18446744073709551616
def ytk (x:(ylC).X):Option ((ylu).X ⊕ (ylO).X):=zr ycs (yA0 x) (yAL x)
def yBj:Seg:=⟨ylC,ylu,ylO,ytk⟩
def yEp:Nat→Option Seg:=fun q=>bif Nat.beq q 29 then some yBj else yEo q
theorem yPq:FrOk Tryz.prog ⟨ysk,22,yEp⟩ ymv:=(yPp).loop (sg:=yBj) yd3 yAL (by decide) yOI ycs yA0 (by decide) (fun _=>rfl) (fun x r _ h=>h) yRu
abbrev yhs:List Par:= [.rd tL]
abbrev ysK:List OT:= [⟨false,tL,(.ow .fz)⟩]
def yoP (a0:List Int):Option (ResD ysK×MutD yhs) :=
 bif (zkc (a0.length:Int) 8) then
 zjw (ytk (((a0,()),((),()),((),()),()),(),((List.replicate ((a0.length:Int)).toNat (0:Int)),()))) (fun y0 =>
 some ((y0.2.2.1,()),())) (fun y0 =>
 none)
 else none
theorem yYQ (x:InD yhs):zjH ⟨ysk,22,yEp⟩ Tryz.f282.results.toList ymv yhs ysK x=yoP x.1:=by kernel_rfl
theorem yUm:ConOk Tryz.prog 282 ⟨yhs,ysK,fun x=>yoP x.1⟩:=zkh (yPq) Tryz.func282 (by kernel_rfl) (by kernel_rfl) Tryz.ntmps282.symm (by decide) (fun x r h=>(yYQ x).trans h)
def yai (a0:List Int):List Int:=a0
theorem yWK (a0:List Int) (hk:zi9 yhs (a0,())):yoP a0=(fun n=>some ((n,()),())) (yai a0):=by
 have hb:a0.length * 8≤2 ^ 47:=hk.1.1
 have hs: ∀ i,i < a0.length→(a0.take i++List.replicate (a0.length - i) (0:Int)).set i (a0.getD i 0)=a0.take (i+1)++List.replicate (a0.length - (i+1)) 0:=fun i hi=>by
  have hl:(a0.take i).length=i:=by rw [List.length_take]; omega
  rw [List.set_append_right _ _ (by rw [hl]; exact Nat.le_refl _),hl,Nat.sub_self,List.take_add_one,List.append_assoc,show a0.length - i=(a0.length - (i+1))+1 by omega,List.replicate_succ]
  simp [hi]
 have hl:ytk (((a0,()),((),()),((),()),()),(),((a0.take 0++List.replicate (a0.length - 0) 0),()))=some (.inl ((((),()),()),(),(a0.take a0.length++List.replicate (a0.length - a0.length) 0,()))) :=
  zjs (step:=ycs) (fun i=>(((a0,()),((),()),((i:Int),()),()),(),(a0.take i++List.replicate (a0.length - i) 0,()))) a0.length _ (fun i hi=>by
   have hL:(a0.take i++List.replicate (a0.length - i) (0:Int)).length=a0.length:=by rw [List.length_append,List.length_take,List.length_replicate]; omega
   simp only [ycs,yrS,hL,zkO hi,zjW,Int.toNat_natCast,zjI (show (i:Int) < a0.length by omega),cond_true,wr (show -9223372036854775808≤(i:Int)+1 by omega) (by omega),Int.natCast_add,Int.natCast_one,hs i hi]) (by
   simp only [ycs,yrS,zkm (Int.le_refl _),cond_false]) _ (by show _ < 18446744073709551616; omega)
 unfold yoP yai
 rw [List.take_zero,List.nil_append,Nat.sub_zero]at hl
 rw [show zkc (a0.length:Int) 8=true by rw [zkH]; omega,zkY,Int.toNat_natCast,hl]
 simp [zjw]
def yiZ:Con:=⟨yhs,ysK,fun x=>(fun n=>some ((n,()),())) (yai x.1)⟩
theorem yq1:ConOk Tryz.prog 282 yiZ:=(yUm).mono (fun x r hk h=>(yWK x.1 hk).trans h)
theorem yWo (a:List Int):yai a=a:=by kernel_rfl
end
section
def ykj:Code:=(Tryz.f280.body).getD .skip
def yqp:Env:=zki TT [(282,yiZ)] []
theorem yMX:FrOk Tryz.prog ⟨yqp,23,fun _=>none⟩ ykj:=zkp yb yc ⟨yq1,trivial⟩
def yB0:Nat→Option Seg:=fun _=>none
def ydb:Shape:=⟨[(0,false,[.br tL]),(3,false,[.at 800000000]),(4,false,[.int .i64])],[],[(800000000,tL,(.ow .fz))]⟩
def yjy:Shape:=⟨[(0,false,[.br tL]),(3,false,[.at 800000000]),(4,false,[.ci .i64 0])],[],[(800000000,tL,(.ow .fz))]⟩
def yjr:Shape:=⟨[(3,false,[.at 800000000])],[],[(800000000,tL,(.ow .fz))]⟩
def yjL:Shape:=⟨[],[],[]⟩
def yqc (v0:List (List Int)) (v1:Int) (v2:List (List Int)):Option ((ydb).X ⊕ ((yjr).X ⊕ (yjL).X)) :=
 bif (ltb v1 (v0.length:Int)) then
 bif (inb v1 v0.length) then
 let r2:=yai (nth v0 v1 [])
 bif (inb v1 v2.length) then
 some (.inl (((v0,()),((),()),((IntKind.i64.wrap (v1+1)),()),()),(),((v2.set (v1).toNat r2),())))
 else none
 else none
 else
 some (.inr (.inl ((((),()),()),(),(v2,()))))
def ybC (x:(ydb).X):=yqc x.1.1.1 x.1.2.2.1.1 x.2.2.1
def yyB (x:(yjy).X):(ydb).X:=(((x.1.1.1,()),((),()),(0,()),()),(),(x.2.2.1,()))
def yAl:Code:=(zdI ykj 64 116).getD .skip
theorem yMp:zdI ykj 64 29=some (.block 0 (.loop yAl)):=by kernel_rfl
theorem yN5 (x:(ydb).X):zg7 ⟨yqp,23,yB0⟩ 0 yAl 116 ydb yjr yjL x=ybC x:=by kernel_rfl
def yyR (x:(yjy).X):Nat:=18446744073709551616
def yrq (x:(yjy).X):Option ((yjr).X ⊕ (yjL).X):=zr ybC (yyR x) (yyB x)
def yzg:Seg:=⟨yjy,yjr,yjL,yrq⟩
def yB1:Nat→Option Seg:=fun q=>bif Nat.beq q 29 then some yzg else yB0 q
theorem yMY:FrOk Tryz.prog ⟨yqp,23,yB1⟩ ykj:=(yMX).loop (sg:=yzg) ydb yyB (by decide) yMp ybC yyR (by decide) (fun _=>rfl) (fun x r _ h=>h) yN5
abbrev ygd:List Par:= [.rd tLL]
abbrev yqH:List OT:= [⟨false,tLL,(.ow (.ow .fz))⟩]
def ymd (a0:List (List Int)):Option (ResD yqH×MutD ygd) :=
 bif (zkc (a0.length:Int) 24) then
 zjw (yrq (((a0,()),((),()),((),()),()),(),((List.replicate ((a0.length:Int)).toNat ([]:List Int)),()))) (fun y2 =>
 some ((y2.2.2.1,()),())) (fun y2 =>
 none)
 else none
theorem yV5 (x:InD ygd):zjH ⟨yqp,23,yB1⟩ Tryz.f280.results.toList ykj ygd yqH x=ymd x.1:=by kernel_rfl
theorem yQW:ConOk Tryz.prog 280 ⟨ygd,yqH,fun x=>ymd x.1⟩:=zkh (yMY) Tryz.func280 (by kernel_rfl) (by kernel_rfl) Tryz.ntmps280.symm (by decide) (fun x r h=>(yV5 x).trans h)
def ygi (a0:List (List Int)):List (List Int):=a0
theorem yTT (a0:List (List Int)) (hk:zi9 ygd (a0,())):ymd a0=(fun n=>some ((n,()),())) (ygi a0):=by
 have hb:a0.length * 24≤2 ^ 47:=hk.1.1
 have hl:yrq (((a0,()),((),()),((),()),()),(),((List.replicate a0.length ([]:List Int)),()))=some (.inl ((((),()),()),(),(a0,()))) :=
  zkj (step:=ybC) a0 ([]:List Int) (fun i m=>(((a0,()),((),()),((i:Int),()),()),(),(m,()))) (fun m=> .inl ((((),()),()),(),(m,()))) (fun i m hi hm=>by
   simp only [ybC,yqc,zkO (show i < m.length by omega),zkO hi,zjW,Int.toNat_natCast,zjI (show (i:Int) < a0.length by omega),cond_true,wr (show -9223372036854775808≤(i:Int)+1 by omega) (by omega),Int.natCast_add,Int.natCast_one,zkV,yWo]) (fun m hm=>by
   simp only [ybC,yqc,zkm (Int.le_refl _),cond_false]) _ (by show _ < 18446744073709551616; omega)
 unfold ymd ygi
 rw [show zkc (a0.length:Int) 24=true by rw [zkH]; omega,zkY,Int.toNat_natCast,hl]
 rfl
def yCF:Con:=⟨ygd,yqH,fun x=>(fun n=>some ((n,()),())) (ygi x.1)⟩
theorem yUR:ConOk Tryz.prog 280 yCF:=(yQW).mono (fun x r hk h=>(yTT x.1 hk).trans h)
theorem y2W (a:List (List Int)):ygi a=a:=by kernel_rfl
end
end
end Go.Tf
