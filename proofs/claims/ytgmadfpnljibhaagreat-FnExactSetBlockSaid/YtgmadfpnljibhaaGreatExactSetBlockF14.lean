/- Functions of the program, and what they come to. -/
import Derived.Test.YtgmadfpnljibhaaGreatExactSetBlockF13
namespace Go.Tf
noncomputable section
open Go.Proofs
set_option synthInstance.maxHeartbeats 400000
set_option synthInstance.maxSize 10000
set_option linter.unusedVariables false
set_option linter.unusedSimpArgs false
set_option maxRecDepth 100000
section
def yjv:Code:=(Tryz.f188.body).getD .skip
def yox:Env:=zki TT [(250,yAC)] []
theorem yHw:FrOk Tryz.prog ⟨yox,27,fun _=>none⟩ yjv:=zkp yb yc ⟨yQ3,trivial⟩
def yym:Nat→Option Seg:=fun _=>none
def ycD:Shape:=⟨[(0,false,[.br tW]),(1,false,[.int .i64]),(5,false,[.int .i64])],[],[]⟩
def yiK:Shape:=⟨[(0,false,[.br tW]),(1,false,[.int .i64]),(5,false,[.ci .i64 0])],[],[]⟩
def yiC:Shape:=⟨[(1,false,[.int .i64])],[],[]⟩
def yiW:Shape:=⟨[(4,false,[.int .i64])],[],[]⟩
def yn3 (v0:List dW) (v1 v2:Int):Option ((ycD).X ⊕ ((yiC).X ⊕ (yiW).X)) :=
 bif (ltb v2 (v0.length:Int)) then
 bif (inb v2 v0.length) then
 let r2:=yb2 (nth v0 v2 (0,[])) v1
 bif (ltb r2 0) then
 some (.inr (.inr ((((-1),()),()),(),())))
 else
 some (.inl (((v0,()),(r2,()),((IntKind.i64.wrap (v2+1)),()),()),(),()))
 else none
 else
 some (.inr (.inl (((v1,()),()),(),())))
def ybE (x:(ycD).X):=yn3 x.1.1.1 x.1.2.1.1 x.1.2.2.1.1
def yu3 (x:(yiK).X):(ycD).X:=(((x.1.1.1,()),(x.1.2.1.1,()),(0,()),()),(),())
def ywA:Code:=(zdI yjv 64 244).getD .skip
theorem yGX:zdI yjv 64 61=some (.block 0 (.loop ywA)):=by kernel_rfl
theorem yJo (x:(ycD).X):zg7 ⟨yox,27,yym⟩ 0 ywA 244 ycD yiC yiW x=ybE x:=by kernel_rfl
def yvi (x:(yiK).X):Nat:=18446744073709551616
def ypn (x:(yiK).X):Option ((yiC).X ⊕ (yiW).X):=zr ybE (yvi x) (yu3 x)
def yvA:Seg:=⟨yiK,yiC,yiW,ypn⟩
def yyn:Nat→Option Seg:=fun q=>bif Nat.beq q 61 then some yvA else yym q
theorem yHx:FrOk Tryz.prog ⟨yox,27,yyn⟩ yjv:=(yHw).loop (sg:=yvA) ycD yu3 (by decide) yGX ybE yvi (by decide) (fun _=>rfl) (fun x r _ h=>h) yJo
abbrev yfk:List Par:= [.rd tWs,.rd tI]
abbrev yoR:List OT:= [⟨false,tI,.fz⟩]
def ylb (a0:List dW) (a1:Int):Option (ResD yoR×MutD yfk) :=
 bif (ltb (IntKind.i64.wrap (a1 - (a0.length:Int))) 0) then
 some (((-1),()),())
 else
 zjw (ypn (((a0,()),((IntKind.i64.wrap (a1 - (a0.length:Int))),()),((),()),()),(),())) (fun y2 =>
 some ((y2.1.1.1,()),())) (fun y2 =>
 some ((y2.1.1.1,()),()))
theorem yPY (x:InD yfk):zjH ⟨yox,27,yyn⟩ Tryz.f188.results.toList yjv yfk yoR x=ylb x.1 x.2.1:=by kernel_rfl
theorem yLZ:ConOk Tryz.prog 188 ⟨yfk,yoR,fun x=>ylb x.1 x.2.1⟩:=zkh (yHx) Tryz.func188 (by kernel_rfl) (by kernel_rfl) Tryz.ntmps188.symm (by decide) (fun x r h=>(yPY x).trans h)
def ybb (a0:List (dW)) (a1:Int):Int:=bif ltb (IntKind.i64.wrap (a1 - (a0.length:Int))) 0 then (-1) else (szG yb2 a0 (IntKind.i64.wrap (a1 - (a0.length:Int)))).getD (-1)
theorem yN9 (a0:List (dW)) (a1:Int) (hk:zi9 yfk (a0,a1,())):ylb a0 a1=(fun n=>some ((n,()),())) (ybb a0 a1):=by
 have hb:a0.length * 32≤2 ^ 47:=hk.1.1
 have hl: ∀ k:Int,ypn (((a0,()),(k,()),((),()),()),(),())=some (match szG yb2 a0 k with | some r=> .inl (((r,()),()),(),()) | none=> .inr ((((-1),()),()),(),())):=fun k =>
  zkG (step:=ybE) a0 ((0,[]):dW) (fun i k=>(((a0,()),(k,()),((i:Int),()),()),(),())) yb2 (fun r=> .inl (((r,()),()),(),())) (.inr ((((-1),()),()),(),())) (fun i s hi=>by
   simp only [ybE,yn3,zkO hi,zjW,Int.toNat_natCast,zjI (show (i:Int) < a0.length by omega),cond_true,wr (show -9223372036854775808≤(i:Int)+1 by omega) (by omega),Int.natCast_add,Int.natCast_one,zkV]
   cases ltb (yb2 (a0.getD i (0,[])) s) 0<;>rfl) (fun s=>by simp only [ybE,yn3,zkm (Int.le_refl _),cond_false]) k _ (by show _ < 18446744073709551616; omega)
 unfold ylb ybb
 rw [hl]
 cases ltb (IntKind.i64.wrap (a1 - (a0.length:Int))) 0
 ·cases szG yb2 a0 (IntKind.i64.wrap (a1 - (a0.length:Int)))<;>rfl
 ·rfl
def yzd:Con:=⟨yfk,yoR,fun x=>(fun n=>some ((n,()),())) (ybb x.1 x.2.1)⟩
theorem yO7:ConOk Tryz.prog 188 yzd:=(yLZ).mono (fun x r hk h=>(yN9 x.1 x.2.1 hk).trans h)
end
section
def yCJ:Code:=(Tryz.f89.body).getD .skip
def yC4:Env:=zki TT [(187,yze),(188,yzd)] []
theorem yKU:FrOk Tryz.prog ⟨yC4,18,fun _=>none⟩ yCJ:=zkp yb yc ⟨yO8,yO7,trivial⟩
def yM6:Nat→Option Seg:=fun _=>none
abbrev ylK:List Par:= [.rd tA,.rd tI]
abbrev yqQ:List OT:= [⟨false,tI,.fz⟩]
def yst (a0:dA) (a1:Int):Option (ResD yqQ×MutD ylK) :=
 let r1:=yaq a0.2.2.1 a1
 bif (ltb r1 0) then
 some (((-1),()),())
 else
 let r2:=ybb a0.2.2.2.2.2.2.2.2.1 r1
 bif (ltb r2 0) then
 some (((-1),()),())
 else
 some ((r2,()),())
theorem yRv (x:InD ylK):zjH ⟨yC4,18,yM6⟩ Tryz.f89.results.toList yCJ ylK yqQ x=yst x.1 x.2.1:=by kernel_rfl
theorem yOG:ConOk Tryz.prog 89 ⟨ylK,yqQ,fun x=>yst x.1 x.2.1⟩:=zkh (yKU) Tryz.func89 (by kernel_rfl) (by kernel_rfl) Tryz.ntmps89.symm (by decide) (fun x r h=>(yRv x).trans h)
def yc5 (a0:dA) (a1:Int):Int :=
 let r1:=yaq a0.2.2.1 a1
 bif (ltb r1 0) then
 (-1)
 else
 let r2:=ybb a0.2.2.2.2.2.2.2.2.1 r1
 bif (ltb r2 0) then
 (-1)
 else
 r2
def yAB:Con:=⟨ylK,yqQ,fun x=>(fun n=>some ((n,()),())) (yc5 x.1 x.2.1)⟩
theorem yQx (a0:dA) (a1:Int):yst a0 a1=(fun n=>some ((n,()),())) (yc5 a0 a1):=zkS (p:=fun (n:Int)=>((n,()),())) (zkx (p:=fun (n:Int)=>((n,()),())) rfl (zkx (p:=fun (n:Int)=>((n,()),())) rfl rfl))
theorem yQ2:ConOk Tryz.prog 89 yAB:=(yOG).mono (fun x r _ h=>(yQx x.1 x.2.1).trans h)
theorem ySS {l:List dW} {k:Int} (h0:0≤k) (h1:k≤1048576) (hl:l.length * 32≤2 ^ 47) (hx: ∀ x∈l,x.2.length * 8≤2 ^ 47) (h:0≤ybb l k):((l.length+(l.map (fun x:dW=>x.2.length)).sum:Nat):Int)≤k - ybb l k∧ybb l k≤k :=
 yMX (fun x hm k h0 h1 h=>by
  have:=hx x hm
  unfold yb2 at h ⊢
  by_cases h2:yg x.2 k < 0
  ·simp only [zjI h2,cond_true]at h; omega
  ·simp only [zkm (Int.not_lt.1 h2),cond_false]at h ⊢
   have:=yzD h0 h1 (by omega) h2
   omega) h0 h1 (by omega) h
theorem yS8 {a:dA} (hm:tA.Ok a) (h:ltb (yc5 a 1048576) 0=false):yd9 a≤2097152:=by
 have h:0≤yc5 a 1048576:=by
  rcases Int.lt_or_le (yc5 a 1048576) 0 with h3 | h3
  ·rw [zjI h3]at h; cases h
  ·exact h3
 unfold yc5 at h
 by_cases c1:yaq a.2.2.1 1048576 < 0
 ·simp only [zjI c1,cond_true]at h; omega
 simp only [zkm (Int.not_lt.1 c1),cond_false]at h
 have e1:=yST (by omega) (by omega) hm.2.2.1 (Int.not_lt.1 c1)
 by_cases c2:ybb a.2.2.2.2.2.2.2.2.1 (yaq a.2.2.1 1048576) < 0
 ·simp only [zjI c2,cond_true]at h; omega
 have e2:=ySS (Int.not_lt.1 c1) (by omega) hm.2.2.2.2.2.2.2.2.1.1 (fun x hx=>(hm.2.2.2.2.2.2.2.2.1.2 x hx).2.1) (Int.not_lt.1 c2)
 have e3:=yS5 (l:=a.2.2.1)
 unfold yd9 yhl
 rw [yJA (fun x:dW=>x.2.length) 1]
 omega
end
section
def yCO:Code:=(Tryz.f189.body).getD .skip
def yC9:Env:=zki TT [] []
theorem yK1:FrOk Tryz.prog ⟨yC9,11,fun _=>none⟩ yCO:=zkp yb yc trivial
def yNb:Nat→Option Seg:=fun _=>none
abbrev ylP:List Par:= [.rd tG]
abbrev yqW:List OT:= [⟨false,tG,(.pr .fz .fz)⟩]
def ysy (a0:dG):Option (ResD yqW×MutD ylP) :=
 some ((a0,()),())
theorem yRB (x:InD ylP):zjH ⟨yC9,11,yNb⟩ Tryz.f189.results.toList yCO ylP yqW x=ysy x.1:=by kernel_rfl
theorem yOM:ConOk Tryz.prog 189 ⟨ylP,yqW,fun x=>ysy x.1⟩:=zkh (yK1) Tryz.func189 (by kernel_rfl) (by kernel_rfl) Tryz.ntmps189.symm (by decide) (fun x r h=>(yRB x).trans h)
def ymb (a0:dG):dG :=
 a0
def yAH:Con:=⟨ylP,yqW,fun x=>(fun n=>some ((n,()),())) (ymb x.1)⟩
theorem yQD (a0:dG):ysy a0=(fun n=>some ((n,()),())) (ymb a0):=zkS (p:=fun (n:dG)=>((n,()),())) rfl
theorem yQ8:ConOk Tryz.prog 189 yAH:=(yOM).mono (fun x r _ h=>(yQD x.1).trans h)
theorem yTD (a:dG):ymb a=a:=by kernel_rfl
end
section
def yjy:Code:=(Tryz.f282.body).getD .skip
def yoA:Env:=zki TT [] []
theorem yHD:FrOk Tryz.prog ⟨yoA,22,fun _=>none⟩ yjy:=zkp yb yc trivial
def yys:Nat→Option Seg:=fun _=>none
def ycG:Shape:=⟨[(0,false,[.br tI]),(3,false,[.at 800000000]),(4,false,[.int .i64])],[],[(800000000,tI,.fz)]⟩
def yiN:Shape:=⟨[(0,false,[.br tI]),(3,false,[.at 800000000]),(4,false,[.ci .i64 0])],[],[(800000000,tI,.fz)]⟩
def yiF:Shape:=⟨[(3,false,[.at 800000000])],[],[(800000000,tI,.fz)]⟩
def yiZ:Shape:=⟨[],[],[]⟩
def yn6 (v0:List Int) (v1:Int) (v2:List Int):Option ((ycG).X ⊕ ((yiF).X ⊕ (yiZ).X)) :=
 bif (ltb v1 (v0.length:Int)) then
 bif (inb v1 v0.length) then
 bif (inb v1 v2.length) then
 some (.inl (((v0,()),((),()),((IntKind.i64.wrap (v1+1)),()),()),(),((v2.set (v1).toNat (nth v0 v1 0)),())))
 else none
 else none
 else
 some (.inr (.inl ((((),()),()),(),(v2,()))))
def ybH (x:(ycG).X):=yn6 x.1.1.1 x.1.2.2.1.1 x.2.2.1
def yu6 (x:(yiN).X):(ycG).X:=(((x.1.1.1,()),((),()),(0,()),()),(),(x.2.2.1,()))
def ywD:Code:=(zdI yjy 64 116).getD .skip
theorem yG0:zdI yjy 64 29=some (.block 0 (.loop ywD)):=by kernel_rfl
theorem yJr (x:(ycG).X):zg7 ⟨yoA,22,yys⟩ 0 ywD 116 ycG yiF yiZ x=ybH x:=by kernel_rfl
def yvl (x:(yiN).X):Nat:=18446744073709551616
def ypq (x:(yiN).X):Option ((yiF).X ⊕ (yiZ).X):=zr ybH (yvl x) (yu6 x)
def yvD:Seg:=⟨yiN,yiF,yiZ,ypq⟩
def yyt:Nat→Option Seg:=fun q=>bif Nat.beq q 29 then some yvD else yys q
theorem yHE:FrOk Tryz.prog ⟨yoA,22,yyt⟩ yjy:=(yHD).loop (sg:=yvD) ycG yu6 (by decide) yG0 ybH yvl (by decide) (fun _=>rfl) (fun x r _ h=>h) yJr
abbrev yfn:List Par:= [.rd tL]
abbrev yoV:List OT:= [⟨false,tL,(.ow .fz)⟩]
def yle (a0:List Int):Option (ResD yoV×MutD yfn) :=
 bif (zkc (a0.length:Int) 8) then
 zjw (ypq (((a0,()),((),()),((),()),()),(),((List.replicate ((a0.length:Int)).toNat (0:Int)),()))) (fun y0 =>
 some ((y0.2.2.1,()),())) (fun y0 =>
 none)
 else none
theorem yP2 (x:InD yfn):zjH ⟨yoA,22,yyt⟩ Tryz.f282.results.toList yjy yfn yoV x=yle x.1:=by kernel_rfl
theorem yL3:ConOk Tryz.prog 282 ⟨yfn,yoV,fun x=>yle x.1⟩:=zkh (yHE) Tryz.func282 (by kernel_rfl) (by kernel_rfl) Tryz.ntmps282.symm (by decide) (fun x r h=>(yP2 x).trans h)
def yY (a0:List Int):List Int:=a0
theorem yOd (a0:List Int) (hk:zi9 yfn (a0,())):yle a0=(fun n=>some ((n,()),())) (yY a0):=by
 have hb:a0.length * 8≤2 ^ 47:=hk.1.1
 have hs: ∀ i,i < a0.length→(a0.take i++List.replicate (a0.length - i) (0:Int)).set i (a0.getD i 0)=a0.take (i+1)++List.replicate (a0.length - (i+1)) 0:=fun i hi=>by
  have hl:(a0.take i).length=i:=by rw [List.length_take]; omega
  rw [List.set_append_right _ _ (by rw [hl]; exact Nat.le_refl _),hl,Nat.sub_self,List.take_add_one,List.append_assoc,show a0.length - i=(a0.length - (i+1))+1 by omega,List.replicate_succ]
  simp [hi]
 have hl:ypq (((a0,()),((),()),((),()),()),(),((a0.take 0++List.replicate (a0.length - 0) 0),()))=some (.inl ((((),()),()),(),(a0.take a0.length++List.replicate (a0.length - a0.length) 0,()))) :=
  zjs (step:=ybH) (fun i=>(((a0,()),((),()),((i:Int),()),()),(),(a0.take i++List.replicate (a0.length - i) 0,()))) a0.length _ (fun i hi=>by
   have hL:(a0.take i++List.replicate (a0.length - i) (0:Int)).length=a0.length:=by rw [List.length_append,List.length_take,List.length_replicate]; omega
   simp only [ybH,yn6,hL,zkO hi,zjW,Int.toNat_natCast,zjI (show (i:Int) < a0.length by omega),cond_true,wr (show -9223372036854775808≤(i:Int)+1 by omega) (by omega),Int.natCast_add,Int.natCast_one,hs i hi]) (by
   simp only [ybH,yn6,zkm (Int.le_refl _),cond_false]) _ (by show _ < 18446744073709551616; omega)
 unfold yle yY
 rw [List.take_zero,List.nil_append,Nat.sub_zero]at hl
 rw [show zkc (a0.length:Int) 8=true by rw [zkH]; omega,zkY,Int.toNat_natCast,hl]
 simp [zjw]
def ygA:Con:=⟨yfn,yoV,fun x=>(fun n=>some ((n,()),())) (yY x.1)⟩
theorem ynh:ConOk Tryz.prog 282 ygA:=(yL3).mono (fun x r hk h=>(yOd x.1 hk).trans h)
theorem yNQ (a:List Int):yY a=a:=by kernel_rfl
end
section
def yhM:Code:=(Tryz.f280.body).getD .skip
def ymJ:Env:=zki TT [(282,ygA)] []
theorem yFr:FrOk Tryz.prog ⟨ymJ,23,fun _=>none⟩ yhM:=zkp yb yc ⟨ynh,trivial⟩
def ywi:Nat→Option Seg:=fun _=>none
def ycb:Shape:=⟨[(0,false,[.br tL]),(3,false,[.at 800000000]),(4,false,[.int .i64])],[],[(800000000,tL,(.ow .fz))]⟩
def yg4:Shape:=⟨[(0,false,[.br tL]),(3,false,[.at 800000000]),(4,false,[.ci .i64 0])],[],[(800000000,tL,(.ow .fz))]⟩
def ygX:Shape:=⟨[(3,false,[.at 800000000])],[],[(800000000,tL,(.ow .fz))]⟩
def yhg:Shape:=⟨[],[],[]⟩
def ymu (v0:List (List Int)) (v1:Int) (v2:List (List Int)):Option ((ycb).X ⊕ ((ygX).X ⊕ (yhg).X)) :=
 bif (ltb v1 (v0.length:Int)) then
 bif (inb v1 v0.length) then
 let r2:=yY (nth v0 v1 [])
 bif (inb v1 v2.length) then
 some (.inl (((v0,()),((),()),((IntKind.i64.wrap (v1+1)),()),()),(),((v2.set (v1).toNat r2),())))
 else none
 else none
 else
 some (.inr (.inl ((((),()),()),(),(v2,()))))
def ya2 (x:(ycb).X):=ymu x.1.1.1 x.1.2.2.1.1 x.2.2.1
def yth (x:(yg4).X):(ycb).X:=(((x.1.1.1,()),((),()),(0,()),()),(),(x.2.2.1,()))
def yuH:Code:=(zdI yhM 64 116).getD .skip
theorem yEV:zdI yhM 64 29=some (.block 0 (.loop yuH)):=by kernel_rfl
theorem yGq (x:(ycb).X):zg7 ⟨ymJ,23,ywi⟩ 0 yuH 116 ycb ygX yhg x=ya2 x:=by kernel_rfl
def ytz (x:(yg4).X):Nat:=18446744073709551616
def ynG (x:(yg4).X):Option ((ygX).X ⊕ (yhg).X):=zr ya2 (ytz x) (yth x)
def ytX:Seg:=⟨yg4,ygX,yhg,ynG⟩
def ywj:Nat→Option Seg:=fun q=>bif Nat.beq q 29 then some ytX else ywi q
theorem yFs:FrOk Tryz.prog ⟨ymJ,23,ywj⟩ yhM:=(yFr).loop (sg:=ytX) ycb yth (by decide) yEV ya2 ytz (by decide) (fun _=>rfl) (fun x r _ h=>h) yGq
abbrev yep:List Par:= [.rd tLL]
abbrev ym2:List OT:= [⟨false,tLL,(.ow (.ow .fz))⟩]
def yjj (a0:List (List Int)):Option (ResD ym2×MutD yep) :=
 bif (zkc (a0.length:Int) 24) then
 zjw (ynG (((a0,()),((),()),((),()),()),(),((List.replicate ((a0.length:Int)).toNat ([]:List Int)),()))) (fun y2 =>
 some ((y2.2.2.1,()),())) (fun y2 =>
 none)
 else none
theorem yNB (x:InD yep):zjH ⟨ymJ,23,ywj⟩ Tryz.f280.results.toList yhM yep ym2 x=yjj x.1:=by kernel_rfl
theorem yIZ:ConOk Tryz.prog 280 ⟨yep,ym2,fun x=>yjj x.1⟩:=zkh (yFs) Tryz.func280 (by kernel_rfl) (by kernel_rfl) Tryz.ntmps280.symm (by decide) (fun x r h=>(yNB x).trans h)
def yeu (a0:List (List Int)):List (List Int):=a0
theorem yLE (a0:List (List Int)) (hk:zi9 yep (a0,())):yjj a0=(fun n=>some ((n,()),())) (yeu a0):=by
 have hb:a0.length * 24≤2 ^ 47:=hk.1.1
 have hl:ynG (((a0,()),((),()),((),()),()),(),((List.replicate a0.length ([]:List Int)),()))=some (.inl ((((),()),()),(),(a0,()))) :=
  zkj (step:=ya2) a0 ([]:List Int) (fun i m=>(((a0,()),((),()),((i:Int),()),()),(),(m,()))) (fun m=> .inl ((((),()),()),(),(m,()))) (fun i m hi hm=>by
   simp only [ya2,ymu,zkO (show i < m.length by omega),zkO hi,zjW,Int.toNat_natCast,zjI (show (i:Int) < a0.length by omega),cond_true,wr (show -9223372036854775808≤(i:Int)+1 by omega) (by omega),Int.natCast_add,Int.natCast_one,zkV,yNQ]) (fun m hm=>by
   simp only [ya2,ymu,zkm (Int.le_refl _),cond_false]) _ (by show _ < 18446744073709551616; omega)
 unfold yjj yeu
 rw [show zkc (a0.length:Int) 24=true by rw [zkH]; omega,zkY,Int.toNat_natCast,hl]
 rfl
def yw0:Con:=⟨yep,ym2,fun x=>(fun n=>some ((n,()),())) (yeu x.1)⟩
theorem yMy:ConOk Tryz.prog 280 yw0:=(yIZ).mono (fun x r hk h=>(yLE x.1 hk).trans h)
theorem yTg (a:List (List Int)):yeu a=a:=by kernel_rfl
end
section
def yGy:Code:=(Tryz.f292.body).getD .skip
def yGC:Env:=zki TT [(282,ygA)] []
theorem yNM:FrOk Tryz.prog ⟨yGC,12,fun _=>none⟩ yGy:=zkp yb yc ⟨ynh,trivial⟩
def yPI:Nat→Option Seg:=fun _=>none
abbrev yoi:List Par:= [.rd tW]
abbrev ysJ:List OT:= [⟨false,tW,(.pr .fz (.ow .fz))⟩]
def yuc (a0:dW):Option (ResD ysJ×MutD yoi) :=
 let r1:=yY a0.2
 some (((a0.1,r1),()),())
theorem ySf (x:InD yoi):zjH ⟨yGC,12,yPI⟩ Tryz.f292.results.toList yGy yoi ysJ x=yuc x.1:=by kernel_rfl
theorem yQQ:ConOk Tryz.prog 292 ⟨yoi,ysJ,fun x=>yuc x.1⟩:=zkh (yNM) Tryz.func292 (by kernel_rfl) (by kernel_rfl) Tryz.ntmps292.symm (by decide) (fun x r h=>(ySf x).trans h)
def ysO (a0:dW):dW :=
 let r1:=yY a0.2
 (a0.1,r1)
def yCc:Con:=⟨yoi,ysJ,fun x=>(fun n=>some ((n,()),())) (ysO x.1)⟩
theorem yRT (a0:dW):yuc a0=(fun n=>some ((n,()),())) (ysO a0):=zkS (p:=fun (n:dW)=>((n,()),())) rfl
theorem yRY:ConOk Tryz.prog 292 yCc:=(yQQ).mono (fun x r _ h=>(yRT x.1).trans h)
theorem yRN (a:dW):ysO a=a:=by kernel_rfl
end
end
end Go.Tf
