/- Functions of the program, and what they come to. -/
import Derived.Test.YtgmadfpnljibhaaGreatExactFlushAllF17
namespace Go.Tf
noncomputable section
open Go.Proofs
set_option synthInstance.maxHeartbeats 400000
set_option synthInstance.maxSize 10000
set_option linter.unusedVariables false
set_option linter.unusedSimpArgs false
set_option maxRecDepth 100000
section
def yKV:Code:=(Tryz.f250.body).getD .skip
def yLk:Env:=zki TT [(279,yjh)] []
theorem yUE:FrOk Tryz.prog ⟨yLk,12,fun _=>none⟩ yKV:=zkp yb yc ⟨yrz,trivial⟩
def yXc:Nat→Option Seg:=fun _=>none
abbrev yp8:List Par:= [.rd tW,.rd tI]
abbrev yvI:List OT:= [⟨false,tI,.fz⟩]
def yyp (a0:dW) (a1:Int):Option (ResD yvI×MutD yp8) :=
 let r1:=yj a0.2 a1
 bif (ltb r1 0) then
 some (((-1),()),())
 else
 some ((r1,()),())
theorem y2j (x:InD yp8):zjH ⟨yLk,12,yXc⟩ Tryz.f250.results.toList yKV yp8 yvI x=yyp x.1 x.2.1:=by kernel_rfl
theorem yYX:ConOk Tryz.prog 250 ⟨yp8,yvI,fun x=>yyp x.1 x.2.1⟩:=zkh (yUE) Tryz.func250 (by kernel_rfl) (by kernel_rfl) Tryz.ntmps250.symm (by decide) (fun x r h=>(y2j x).trans h)
def ydc (a0:dW) (a1:Int):Int :=
 let r1:=yj a0.2 a1
 bif (ltb r1 0) then
 (-1)
 else
 r1
def yHV:Con:=⟨yp8,yvI,fun x=>(fun n=>some ((n,()),())) (ydc x.1 x.2.1)⟩
theorem y04 (a0:dW) (a1:Int):yyp a0 a1=(fun n=>some ((n,()),())) (ydc a0 a1):=zkS (p:=fun (n:Int)=>((n,()),())) (zkx (p:=fun (n:Int)=>((n,()),())) rfl rfl)
theorem y1D:ConOk Tryz.prog 250 yHV:=(yYX).mono (fun x r _ h=>(y04 x.1 x.2.1).trans h)
end
section
def ymV:Code:=(Tryz.f188.body).getD .skip
def ysT:Env:=zki TT [(250,yHV)] []
theorem yQK:FrOk Tryz.prog ⟨ysT,27,fun _=>none⟩ ymV:=zkp yb yc ⟨y1D,trivial⟩
def yFm:Nat→Option Seg:=fun _=>none
def yd9:Shape:=⟨[(0,false,[.br tW]),(1,false,[.int .i64]),(5,false,[.int .i64])],[],[]⟩
def yl0:Shape:=⟨[(0,false,[.br tW]),(1,false,[.int .i64]),(5,false,[.ci .i64 0])],[],[]⟩
def ylS:Shape:=⟨[(1,false,[.int .i64])],[],[]⟩
def ymc:Shape:=⟨[(4,false,[.int .i64])],[],[]⟩
def ysp (v0:List dW) (v1 v2:Int):Option ((yd9).X ⊕ ((ylS).X ⊕ (ymc).X)) :=
 bif (ltb v2 (v0.length:Int)) then
 bif (inb v2 v0.length) then
 let r2:=ydc (nth v0 v2 (0,[])) v1
 bif (ltb r2 0) then
 some (.inr (.inr ((((-1),()),()),(),())))
 else
 some (.inl (((v0,()),(r2,()),((IntKind.i64.wrap (v2+1)),()),()),(),()))
 else none
 else
 some (.inr (.inl (((v1,()),()),(),())))
def ycz (x:(yd9).X):=ysp x.1.1.1 x.1.2.1.1 x.1.2.2.1.1
def yBI (x:(yl0).X):(yd9).X:=(((x.1.1.1,()),(x.1.2.1.1,()),(0,()),()),(),())
def yDk:Code:=(zdI ymV 64 244).getD .skip
theorem yP7:zdI ymV 64 61=some (.block 0 (.loop yDk)):=by kernel_rfl
theorem ySX (x:(yd9).X):zg7 ⟨ysT,27,yFm⟩ 0 yDk 244 yd9 ylS ymc x=ycz x:=by kernel_rfl
def yBX (x:(yl0).X):Nat:=18446744073709551616
def ytT (x:(yl0).X):Option ((ylS).X ⊕ (ymc).X):=zr ycz (yBX x) (yBI x)
def yCg:Seg:=⟨yl0,ylS,ymc,ytT⟩
def yFn:Nat→Option Seg:=fun q=>bif Nat.beq q 61 then some yCg else yFm q
theorem yQL:FrOk Tryz.prog ⟨ysT,27,yFn⟩ ymV:=(yQK).loop (sg:=yCg) yd9 yBI (by decide) yP7 ycz yBX (by decide) (fun _=>rfl) (fun x r _ h=>h) ySX
abbrev yhF:List Par:= [.rd tWs,.rd tI]
abbrev yti:List OT:= [⟨false,tI,.fz⟩]
def ypj (a0:List dW) (a1:Int):Option (ResD yti×MutD yhF) :=
 bif (ltb (IntKind.i64.wrap (a1 - (a0.length:Int))) 0) then
 some (((-1),()),())
 else
 zjw (ytT (((a0,()),((IntKind.i64.wrap (a1 - (a0.length:Int))),()),((),()),()),(),())) (fun y2 =>
 some ((y2.1.1.1,()),())) (fun y2 =>
 some ((y2.1.1.1,()),()))
theorem y0r (x:InD yhF):zjH ⟨ysT,27,yFn⟩ Tryz.f188.results.toList ymV yhF yti x=ypj x.1 x.2.1:=by kernel_rfl
theorem yVZ:ConOk Tryz.prog 188 ⟨yhF,yti,fun x=>ypj x.1 x.2.1⟩:=zkh (yQL) Tryz.func188 (by kernel_rfl) (by kernel_rfl) Tryz.ntmps188.symm (by decide) (fun x r h=>(y0r x).trans h)
def yb1 (a0:List (dW)) (a1:Int):Int:=bif ltb (IntKind.i64.wrap (a1 - (a0.length:Int))) 0 then (-1) else (szG ydc a0 (IntKind.i64.wrap (a1 - (a0.length:Int)))).getD (-1)
theorem yYl (a0:List (dW)) (a1:Int) (hk:zi9 yhF (a0,a1,())):ypj a0 a1=(fun n=>some ((n,()),())) (yb1 a0 a1):=by
 have hb:a0.length * 32≤2 ^ 47:=hk.1.1
 have hl: ∀ k:Int,ytT (((a0,()),(k,()),((),()),()),(),())=some (match szG ydc a0 k with | some r=> .inl (((r,()),()),(),()) | none=> .inr ((((-1),()),()),(),())):=fun k =>
  zkG (step:=ycz) a0 ((0,[]):dW) (fun i k=>(((a0,()),(k,()),((i:Int),()),()),(),())) ydc (fun r=> .inl (((r,()),()),(),())) (.inr ((((-1),()),()),(),())) (fun i s hi=>by
   simp only [ycz,ysp,zkO hi,zjW,Int.toNat_natCast,zjI (show (i:Int) < a0.length by omega),cond_true,wr (show -9223372036854775808≤(i:Int)+1 by omega) (by omega),Int.natCast_add,Int.natCast_one,zkV]
   cases ltb (ydc (a0.getD i (0,[])) s) 0<;>rfl) (fun s=>by simp only [ycz,ysp,zkm (Int.le_refl _),cond_false]) k _ (by show _ < 18446744073709551616; omega)
 unfold ypj yb1
 rw [hl]
 cases ltb (IntKind.i64.wrap (a1 - (a0.length:Int))) 0
 ·cases szG ydc a0 (IntKind.i64.wrap (a1 - (a0.length:Int)))<;>rfl
 ·rfl
def yGm:Con:=⟨yhF,yti,fun x=>(fun n=>some ((n,()),())) (yb1 x.1 x.2.1)⟩
theorem yZr:ConOk Tryz.prog 188 yGm:=(yVZ).mono (fun x r hk h=>(yYl x.1 x.2.1 hk).trans h)
end
section
def yKU:Code:=(Tryz.f89.body).getD .skip
def yLj:Env:=zki TT [(187,yGn),(188,yGm)] []
theorem yUD:FrOk Tryz.prog ⟨yLj,18,fun _=>none⟩ yKU:=zkp yb yc ⟨yZs,yZr,trivial⟩
def yXb:Nat→Option Seg:=fun _=>none
abbrev yp7:List Par:= [.rd tA,.rd tI]
abbrev yvH:List OT:= [⟨false,tI,.fz⟩]
def yyo (a0:dA) (a1:Int):Option (ResD yvH×MutD yp7) :=
 let r1:=ya6 a0.2.2.1 a1
 bif (ltb r1 0) then
 some (((-1),()),())
 else
 let r2:=yb1 a0.2.2.2.2.2.2.2.2.1 r1
 bif (ltb r2 0) then
 some (((-1),()),())
 else
 some ((r2,()),())
theorem y2i (x:InD yp7):zjH ⟨yLj,18,yXb⟩ Tryz.f89.results.toList yKU yp7 yvH x=yyo x.1 x.2.1:=by kernel_rfl
theorem yYW:ConOk Tryz.prog 89 ⟨yp7,yvH,fun x=>yyo x.1 x.2.1⟩:=zkh (yUD) Tryz.func89 (by kernel_rfl) (by kernel_rfl) Tryz.ntmps89.symm (by decide) (fun x r h=>(y2i x).trans h)
def ybV (a0:dA) (a1:Int):Int :=
 let r1:=ya6 a0.2.2.1 a1
 bif (ltb r1 0) then
 (-1)
 else
 let r2:=yb1 a0.2.2.2.2.2.2.2.2.1 r1
 bif (ltb r2 0) then
 (-1)
 else
 r2
def yx0:Con:=⟨yp7,yvH,fun x=>(fun n=>some ((n,()),())) (ybV x.1 x.2.1)⟩
theorem y03 (a0:dA) (a1:Int):yyo a0 a1=(fun n=>some ((n,()),())) (ybV a0 a1):=zkS (p:=fun (n:Int)=>((n,()),())) (zkx (p:=fun (n:Int)=>((n,()),())) rfl (zkx (p:=fun (n:Int)=>((n,()),())) rfl rfl))
theorem yJ0:ConOk Tryz.prog 89 yx0:=(yYW).mono (fun x r _ h=>(y03 x.1 x.2.1).trans h)
theorem y38 {l:List dW} {k:Int} (h0:0≤k) (h1:k≤1048576) (hl:l.length * 32≤2 ^ 47) (hx: ∀ x∈l,x.2.length * 8≤2 ^ 47) (h:0≤yb1 l k):((l.length+(l.map (fun x:dW=>x.2.length)).sum:Nat):Int)≤k - yb1 l k∧yb1 l k≤k :=
 yW1 (fun x hm k h0 h1 h=>by
  have:=hx x hm
  unfold ydc at h ⊢
  by_cases h2:yj x.2 k < 0
  ·simp only [zjI h2,cond_true]at h; omega
  ·simp only [zkm (Int.not_lt.1 h2),cond_false]at h ⊢
   have:=yGS h0 h1 (by omega) h2
   omega) h0 h1 (by omega) h
theorem y26 {a:dA} (hm:tA.Ok a) (h:ltb (ybV a 1048576) 0=false):ybw a≤2097152:=by
 have h:0≤ybV a 1048576:=by
  rcases Int.lt_or_le (ybV a 1048576) 0 with h3 | h3
  ·rw [zjI h3]at h; cases h
  ·exact h3
 unfold ybV at h
 by_cases c1:ya6 a.2.2.1 1048576 < 0
 ·simp only [zjI c1,cond_true]at h; omega
 simp only [zkm (Int.not_lt.1 c1),cond_false]at h
 have e1:=y39 (by omega) (by omega) hm.2.2.1 (Int.not_lt.1 c1)
 by_cases c2:yb1 a.2.2.2.2.2.2.2.2.1 (ya6 a.2.2.1 1048576) < 0
 ·simp only [zjI c2,cond_true]at h; omega
 have e2:=y38 (Int.not_lt.1 c1) (by omega) hm.2.2.2.2.2.2.2.2.1.1 (fun x hx=>(hm.2.2.2.2.2.2.2.2.1.2 x hx).2.1) (Int.not_lt.1 c2)
 have e3:=y4r (l:=a.2.2.1)
 unfold ybw yb0
 rw [yTa (fun x:dW=>x.2.length) 1]
 omega
end
section
def yKZ:Code:=(Tryz.f189.body).getD .skip
def yLo:Env:=zki TT [] []
theorem yUK:FrOk Tryz.prog ⟨yLo,11,fun _=>none⟩ yKZ:=zkp yb yc trivial
def yXg:Nat→Option Seg:=fun _=>none
abbrev yqc:List Par:= [.rd tG]
abbrev yvN:List OT:= [⟨false,tG,(.pr .fz .fz)⟩]
def yyt (a0:dG):Option (ResD yvN×MutD yqc) :=
 some ((a0,()),())
theorem y2o (x:InD yqc):zjH ⟨yLo,11,yXg⟩ Tryz.f189.results.toList yKZ yqc yvN x=yyt x.1:=by kernel_rfl
theorem yY2:ConOk Tryz.prog 189 ⟨yqc,yvN,fun x=>yyt x.1⟩:=zkh (yUK) Tryz.func189 (by kernel_rfl) (by kernel_rfl) Tryz.ntmps189.symm (by decide) (fun x r h=>(y2o x).trans h)
def yqy (a0:dG):dG :=
 a0
def yHZ:Con:=⟨yqc,yvN,fun x=>(fun n=>some ((n,()),())) (yqy x.1)⟩
theorem y09 (a0:dG):yyt a0=(fun n=>some ((n,()),())) (yqy a0):=zkS (p:=fun (n:dG)=>((n,()),())) rfl
theorem y1H:ConOk Tryz.prog 189 yHZ:=(yY2).mono (fun x r _ h=>(y09 x.1).trans h)
theorem y4Z (a:dG):yqy a=a:=by kernel_rfl
end
section
def ymY:Code:=(Tryz.f282.body).getD .skip
def ysW:Env:=zki TT [] []
theorem yQR:FrOk Tryz.prog ⟨ysW,22,fun _=>none⟩ ymY:=zkp yb yc trivial
def yFs:Nat→Option Seg:=fun _=>none
def yec:Shape:=⟨[(0,false,[.br tI]),(3,false,[.at 800000000]),(4,false,[.int .i64])],[],[(800000000,tI,.fz)]⟩
def yl3:Shape:=⟨[(0,false,[.br tI]),(3,false,[.at 800000000]),(4,false,[.ci .i64 0])],[],[(800000000,tI,.fz)]⟩
def ylV:Shape:=⟨[(3,false,[.at 800000000])],[],[(800000000,tI,.fz)]⟩
def ymf:Shape:=⟨[],[],[]⟩
def yss (v0:List Int) (v1:Int) (v2:List Int):Option ((yec).X ⊕ ((ylV).X ⊕ (ymf).X)) :=
 bif (ltb v1 (v0.length:Int)) then
 bif (inb v1 v0.length) then
 bif (inb v1 v2.length) then
 some (.inl (((v0,()),((),()),((IntKind.i64.wrap (v1+1)),()),()),(),((v2.set (v1).toNat (nth v0 v1 0)),())))
 else none
 else none
 else
 some (.inr (.inl ((((),()),()),(),(v2,()))))
def ycC (x:(yec).X):=yss x.1.1.1 x.1.2.2.1.1 x.2.2.1
def yBL (x:(yl3).X):(yec).X:=(((x.1.1.1,()),((),()),(0,()),()),(),(x.2.2.1,()))
def yDn:Code:=(zdI ymY 64 116).getD .skip
theorem yQa:zdI ymY 64 29=some (.block 0 (.loop yDn)):=by kernel_rfl
theorem yS0 (x:(yec).X):zg7 ⟨ysW,22,yFs⟩ 0 yDn 116 yec ylV ymf x=ycC x:=by kernel_rfl
def yB0 (x:(yl3).X):Nat:=18446744073709551616
def ytW (x:(yl3).X):Option ((ylV).X ⊕ (ymf).X):=zr ycC (yB0 x) (yBL x)
def yCj:Seg:=⟨yl3,ylV,ymf,ytW⟩
def yFt:Nat→Option Seg:=fun q=>bif Nat.beq q 29 then some yCj else yFs q
theorem yQS:FrOk Tryz.prog ⟨ysW,22,yFt⟩ ymY:=(yQR).loop (sg:=yCj) yec yBL (by decide) yQa ycC yB0 (by decide) (fun _=>rfl) (fun x r _ h=>h) yS0
abbrev yhI:List Par:= [.rd tL]
abbrev ytm:List OT:= [⟨false,tL,(.ow .fz)⟩]
def ypm (a0:List Int):Option (ResD ytm×MutD yhI) :=
 bif (zkc (a0.length:Int) 8) then
 zjw (ytW (((a0,()),((),()),((),()),()),(),((List.replicate ((a0.length:Int)).toNat (0:Int)),()))) (fun y0 =>
 some ((y0.2.2.1,()),())) (fun y0 =>
 none)
 else none
theorem y0v (x:InD yhI):zjH ⟨ysW,22,yFt⟩ Tryz.f282.results.toList ymY yhI ytm x=ypm x.1:=by kernel_rfl
theorem yV3:ConOk Tryz.prog 282 ⟨yhI,ytm,fun x=>ypm x.1⟩:=zkh (yQS) Tryz.func282 (by kernel_rfl) (by kernel_rfl) Tryz.ntmps282.symm (by decide) (fun x r h=>(y0v x).trans h)
def yam (a0:List Int):List Int:=a0
theorem yYp (a0:List Int) (hk:zi9 yhI (a0,())):ypm a0=(fun n=>some ((n,()),())) (yam a0):=by
 have hb:a0.length * 8≤2 ^ 47:=hk.1.1
 have hs: ∀ i,i < a0.length→(a0.take i++List.replicate (a0.length - i) (0:Int)).set i (a0.getD i 0)=a0.take (i+1)++List.replicate (a0.length - (i+1)) 0:=fun i hi=>by
  have hl:(a0.take i).length=i:=by rw [List.length_take]; omega
  rw [List.set_append_right _ _ (by rw [hl]; exact Nat.le_refl _),hl,Nat.sub_self,List.take_add_one,List.append_assoc,show a0.length - i=(a0.length - (i+1))+1 by omega,List.replicate_succ]
  simp [hi]
 have hl:ytW (((a0,()),((),()),((),()),()),(),((a0.take 0++List.replicate (a0.length - 0) 0),()))=some (.inl ((((),()),()),(),(a0.take a0.length++List.replicate (a0.length - a0.length) 0,()))) :=
  zjs (step:=ycC) (fun i=>(((a0,()),((),()),((i:Int),()),()),(),(a0.take i++List.replicate (a0.length - i) 0,()))) a0.length _ (fun i hi=>by
   have hL:(a0.take i++List.replicate (a0.length - i) (0:Int)).length=a0.length:=by rw [List.length_append,List.length_take,List.length_replicate]; omega
   simp only [ycC,yss,hL,zkO hi,zjW,Int.toNat_natCast,zjI (show (i:Int) < a0.length by omega),cond_true,wr (show -9223372036854775808≤(i:Int)+1 by omega) (by omega),Int.natCast_add,Int.natCast_one,hs i hi]) (by
   simp only [ycC,yss,zkm (Int.le_refl _),cond_false]) _ (by show _ < 18446744073709551616; omega)
 unfold ypm yam
 rw [List.take_zero,List.nil_append,Nat.sub_zero]at hl
 rw [show zkc (a0.length:Int) 8=true by rw [zkH]; omega,zkY,Int.toNat_natCast,hl]
 simp [zjw]
def yji:Con:=⟨yhI,ytm,fun x=>(fun n=>some ((n,()),())) (yam x.1)⟩
theorem yrA:ConOk Tryz.prog 282 yji:=(yV3).mono (fun x r hk h=>(yYp x.1 hk).trans h)
theorem yX3 (a:List Int):yam a=a:=by kernel_rfl
end
section
def ykF:Code:=(Tryz.f280.body).getD .skip
def yqY:Env:=zki TT [(282,yji)] []
theorem yOm:FrOk Tryz.prog ⟨yqY,23,fun _=>none⟩ ykF:=zkp yb yc ⟨yrA,trivial⟩
def yC2:Nat→Option Seg:=fun _=>none
def ydm:Shape:=⟨[(0,false,[.br tL]),(3,false,[.at 800000000]),(4,false,[.int .i64])],[],[(800000000,tL,(.ow .fz))]⟩
def yjS:Shape:=⟨[(0,false,[.br tL]),(3,false,[.at 800000000]),(4,false,[.ci .i64 0])],[],[(800000000,tL,(.ow .fz))]⟩
def yjL:Shape:=⟨[(3,false,[.at 800000000])],[],[(800000000,tL,(.ow .fz))]⟩
def yj5:Shape:=⟨[],[],[]⟩
def yqL (v0:List (List Int)) (v1:Int) (v2:List (List Int)):Option ((ydm).X ⊕ ((yjL).X ⊕ (yj5).X)) :=
 bif (ltb v1 (v0.length:Int)) then
 bif (inb v1 v0.length) then
 let r2:=yam (nth v0 v1 [])
 bif (inb v1 v2.length) then
 some (.inl (((v0,()),((),()),((IntKind.i64.wrap (v1+1)),()),()),(),((v2.set (v1).toNat r2),())))
 else none
 else none
 else
 some (.inr (.inl ((((),()),()),(),(v2,()))))
def ybN (x:(ydm).X):=yqL x.1.1.1 x.1.2.2.1.1 x.2.2.1
def yzx (x:(yjS).X):(ydm).X:=(((x.1.1.1,()),((),()),(0,()),()),(),(x.2.2.1,()))
def yBj:Code:=(zdI ykF 64 116).getD .skip
theorem yNO:zdI ykF 64 29=some (.block 0 (.loop yBj)):=by kernel_rfl
theorem yPw (x:(ydm).X):zg7 ⟨yqY,23,yC2⟩ 0 yBj 116 ydm yjL yj5 x=ybN x:=by kernel_rfl
def yzN (x:(yjS).X):Nat:=18446744073709551616
def yr0 (x:(yjS).X):Option ((yjL).X ⊕ (yj5).X):=zr ybN (yzN x) (yzx x)
def yAc:Seg:=⟨yjS,yjL,yj5,yr0⟩
def yC3:Nat→Option Seg:=fun q=>bif Nat.beq q 29 then some yAc else yC2 q
theorem yOn:FrOk Tryz.prog ⟨yqY,23,yC3⟩ ykF:=(yOm).loop (sg:=yAc) ydm yzx (by decide) yNO ybN yzN (by decide) (fun _=>rfl) (fun x r _ h=>h) yPw
abbrev ygt:List Par:= [.rd tLL]
abbrev yrg:List OT:= [⟨false,tLL,(.ow (.ow .fz))⟩]
def ymG (a0:List (List Int)):Option (ResD yrg×MutD ygt) :=
 bif (zkc (a0.length:Int) 24) then
 zjw (yr0 (((a0,()),((),()),((),()),()),(),((List.replicate ((a0.length:Int)).toNat ([]:List Int)),()))) (fun y2 =>
 some ((y2.2.2.1,()),())) (fun y2 =>
 none)
 else none
theorem yXK (x:InD ygt):zjH ⟨yqY,23,yC3⟩ Tryz.f280.results.toList ykF ygt yrg x=ymG x.1:=by kernel_rfl
theorem ySq:ConOk Tryz.prog 280 ⟨ygt,yrg,fun x=>ymG x.1⟩:=zkh (yOn) Tryz.func280 (by kernel_rfl) (by kernel_rfl) Tryz.ntmps280.symm (by decide) (fun x r h=>(yXK x).trans h)
def ygy (a0:List (List Int)):List (List Int):=a0
theorem yVA (a0:List (List Int)) (hk:zi9 ygt (a0,())):ymG a0=(fun n=>some ((n,()),())) (ygy a0):=by
 have hb:a0.length * 24≤2 ^ 47:=hk.1.1
 have hl:yr0 (((a0,()),((),()),((),()),()),(),((List.replicate a0.length ([]:List Int)),()))=some (.inl ((((),()),()),(),(a0,()))) :=
  zkj (step:=ybN) a0 ([]:List Int) (fun i m=>(((a0,()),((),()),((i:Int),()),()),(),(m,()))) (fun m=> .inl ((((),()),()),(),(m,()))) (fun i m hi hm=>by
   simp only [ybN,yqL,zkO (show i < m.length by omega),zkO hi,zjW,Int.toNat_natCast,zjI (show (i:Int) < a0.length by omega),cond_true,wr (show -9223372036854775808≤(i:Int)+1 by omega) (by omega),Int.natCast_add,Int.natCast_one,zkV,yX3]) (fun m hm=>by
   simp only [ybN,yqL,zkm (Int.le_refl _),cond_false]) _ (by show _ < 18446744073709551616; omega)
 unfold ymG ygy
 rw [show zkc (a0.length:Int) 24=true by rw [zkH]; omega,zkY,Int.toNat_natCast,hl]
 rfl
def yDG:Con:=⟨ygt,yrg,fun x=>(fun n=>some ((n,()),())) (ygy x.1)⟩
theorem yWw:ConOk Tryz.prog 280 yDG:=(ySq).mono (fun x r hk h=>(yVA x.1 hk).trans h)
theorem y4B (a:List (List Int)):ygy a=a:=by kernel_rfl
end
end
end Go.Tf
