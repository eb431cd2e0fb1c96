/- Functions of the program, and what they come to. -/
import Derived.Test.YtgmadfpnljibhaaGreatExactSetBlockF12
namespace Go.Tf
noncomputable section
open Go.Proofs
set_option synthInstance.maxHeartbeats 400000
set_option synthInstance.maxSize 10000
set_option linter.unusedVariables false
set_option linter.unusedSimpArgs false
set_option maxRecDepth 100000
section
def yhL:Code:=(Tryz.f277.body).getD .skip
def ymI:Env:=zki TT [(279,ygz)] []
theorem yFp:FrOk Tryz.prog ⟨ymI,27,fun _=>none⟩ yhL:=zkp yb yc ⟨yng,trivial⟩
def ywg:Nat→Option Seg:=fun _=>none
def yca:Shape:=⟨[(0,false,[.br tL]),(1,false,[.int .i64]),(5,false,[.int .i64])],[],[]⟩
def yg3:Shape:=⟨[(0,false,[.br tL]),(1,false,[.int .i64]),(5,false,[.ci .i64 0])],[],[]⟩
def ygW:Shape:=⟨[(1,false,[.int .i64])],[],[]⟩
def yhf:Shape:=⟨[(4,false,[.int .i64])],[],[]⟩
def ymt (v0:List (List Int)) (v1 v2:Int):Option ((yca).X ⊕ ((ygW).X ⊕ (yhf).X)) :=
 bif (ltb v2 (v0.length:Int)) then
 bif (inb v2 v0.length) then
 let r2:=yg (nth v0 v2 []) v1
 bif (ltb r2 0) then
 some (.inr (.inr ((((-1),()),()),(),())))
 else
 some (.inl (((v0,()),(r2,()),((IntKind.i64.wrap (v2+1)),()),()),(),()))
 else none
 else
 some (.inr (.inl (((v1,()),()),(),())))
def ya1 (x:(yca).X):=ymt x.1.1.1 x.1.2.1.1 x.1.2.2.1.1
def ytg (x:(yg3).X):(yca).X:=(((x.1.1.1,()),(x.1.2.1.1,()),(0,()),()),(),())
def yuG:Code:=(zdI yhL 64 244).getD .skip
theorem yEU:zdI yhL 64 61=some (.block 0 (.loop yuG)):=by kernel_rfl
theorem yGp (x:(yca).X):zg7 ⟨ymI,27,ywg⟩ 0 yuG 244 yca ygW yhf x=ya1 x:=by kernel_rfl
def yty (x:(yg3).X):Nat:=18446744073709551616
def ynF (x:(yg3).X):Option ((ygW).X ⊕ (yhf).X):=zr ya1 (yty x) (ytg x)
def ytW:Seg:=⟨yg3,ygW,yhf,ynF⟩
def ywh:Nat→Option Seg:=fun q=>bif Nat.beq q 61 then some ytW else ywg q
theorem yFq:FrOk Tryz.prog ⟨ymI,27,ywh⟩ yhL:=(yFp).loop (sg:=ytW) yca ytg (by decide) yEU ya1 yty (by decide) (fun _=>rfl) (fun x r _ h=>h) yGp
abbrev yeo:List Par:= [.rd tLL,.rd tI]
abbrev ym1:List OT:= [⟨false,tI,.fz⟩]
def yji (a0:List (List Int)) (a1:Int):Option (ResD ym1×MutD yeo) :=
 bif (ltb (IntKind.i64.wrap (a1 - (a0.length:Int))) 0) then
 some (((-1),()),())
 else
 zjw (ynF (((a0,()),((IntKind.i64.wrap (a1 - (a0.length:Int))),()),((),()),()),(),())) (fun y2 =>
 some ((y2.1.1.1,()),())) (fun y2 =>
 some ((y2.1.1.1,()),()))
theorem yNA (x:InD yeo):zjH ⟨ymI,27,ywh⟩ Tryz.f277.results.toList yhL yeo ym1 x=yji x.1 x.2.1:=by kernel_rfl
theorem yIY:ConOk Tryz.prog 277 ⟨yeo,ym1,fun x=>yji x.1 x.2.1⟩:=zkh (yFq) Tryz.func277 (by kernel_rfl) (by kernel_rfl) Tryz.ntmps277.symm (by decide) (fun x r h=>(yNA x).trans h)
def yR (a0:List (List Int)) (a1:Int):Int:=bif ltb (IntKind.i64.wrap (a1 - (a0.length:Int))) 0 then (-1) else (szG yg a0 (IntKind.i64.wrap (a1 - (a0.length:Int)))).getD (-1)
theorem yLD (a0:List (List Int)) (a1:Int) (hk:zi9 yeo (a0,a1,())):yji a0 a1=(fun n=>some ((n,()),())) (yR a0 a1):=by
 have hb:a0.length * 24≤2 ^ 47:=hk.1.1
 have hl: ∀ k:Int,ynF (((a0,()),(k,()),((),()),()),(),())=some (match szG yg a0 k with | some r=> .inl (((r,()),()),(),()) | none=> .inr ((((-1),()),()),(),())):=fun k =>
  zkG (step:=ya1) a0 ([]:List Int) (fun i k=>(((a0,()),(k,()),((i:Int),()),()),(),())) yg (fun r=> .inl (((r,()),()),(),())) (.inr ((((-1),()),()),(),())) (fun i s hi=>by
   simp only [ya1,ymt,zkO hi,zjW,Int.toNat_natCast,zjI (show (i:Int) < a0.length by omega),cond_true,wr (show -9223372036854775808≤(i:Int)+1 by omega) (by omega),Int.natCast_add,Int.natCast_one,zkV]
   cases ltb (yg (a0.getD i []) s) 0<;>rfl) (fun s=>by simp only [ya1,ymt,zkm (Int.le_refl _),cond_false]) k _ (by show _ < 18446744073709551616; omega)
 unfold yji yR
 rw [hl]
 cases ltb (IntKind.i64.wrap (a1 - (a0.length:Int))) 0
 ·cases szG yg a0 (IntKind.i64.wrap (a1 - (a0.length:Int)))<;>rfl
 ·rfl
def ywZ:Con:=⟨yeo,ym1,fun x=>(fun n=>some ((n,()),())) (yR x.1 x.2.1)⟩
theorem yMx:ConOk Tryz.prog 277 ywZ:=(yIY).mono (fun x r hk h=>(yLD x.1 x.2.1 hk).trans h)
end
section
def yGx:Code:=(Tryz.f291.body).getD .skip
def yGB:Env:=zki TT [(279,ygz)] []
theorem yNL:FrOk Tryz.prog ⟨yGB,12,fun _=>none⟩ yGx:=zkp yb yc ⟨yng,trivial⟩
def yPH:Nat→Option Seg:=fun _=>none
abbrev yoh:List Par:= [.rd tW,.rd tI]
abbrev ysI:List OT:= [⟨false,tI,.fz⟩]
def yub (a0:dW) (a1:Int):Option (ResD ysI×MutD yoh) :=
 let r1:=yg a0.2 a1
 bif (ltb r1 0) then
 some (((-1),()),())
 else
 some ((r1,()),())
theorem ySe (x:InD yoh):zjH ⟨yGB,12,yPH⟩ Tryz.f291.results.toList yGx yoh ysI x=yub x.1 x.2.1:=by kernel_rfl
theorem yQP:ConOk Tryz.prog 291 ⟨yoh,ysI,fun x=>yub x.1 x.2.1⟩:=zkh (yNL) Tryz.func291 (by kernel_rfl) (by kernel_rfl) Tryz.ntmps291.symm (by decide) (fun x r h=>(ySe x).trans h)
def ycQ (a0:dW) (a1:Int):Int :=
 let r1:=yg a0.2 a1
 bif (ltb r1 0) then
 (-1)
 else
 r1
def yCb:Con:=⟨yoh,ysI,fun x=>(fun n=>some ((n,()),())) (ycQ x.1 x.2.1)⟩
theorem yRS (a0:dW) (a1:Int):yub a0 a1=(fun n=>some ((n,()),())) (ycQ a0 a1):=zkS (p:=fun (n:Int)=>((n,()),())) (zkx (p:=fun (n:Int)=>((n,()),())) rfl rfl)
theorem yRX:ConOk Tryz.prog 291 yCb:=(yQP).mono (fun x r _ h=>(yRS x.1 x.2.1).trans h)
end
section
def ylr:Code:=(Tryz.f278.body).getD .skip
def yqo:Env:=zki TT [(291,yCb)] []
theorem yKX:FrOk Tryz.prog ⟨yqo,27,fun _=>none⟩ ylr:=zkp yb yc ⟨yRX,trivial⟩
def yz7:Nat→Option Seg:=fun _=>none
def ydn:Shape:=⟨[(0,false,[.br tW]),(1,false,[.int .i64]),(5,false,[.int .i64])],[],[]⟩
def ykA:Shape:=⟨[(0,false,[.br tW]),(1,false,[.int .i64]),(5,false,[.ci .i64 0])],[],[]⟩
def ykx:Shape:=⟨[(1,false,[.int .i64])],[],[]⟩
def ykV:Shape:=⟨[(4,false,[.int .i64])],[],[]⟩
def ypW (v0:List dW) (v1 v2:Int):Option ((ydn).X ⊕ ((ykx).X ⊕ (ykV).X)) :=
 bif (ltb v2 (v0.length:Int)) then
 bif (inb v2 v0.length) then
 let r2:=ycQ (nth v0 v2 (0,[])) v1
 bif (ltb r2 0) then
 some (.inr (.inr ((((-1),()),()),(),())))
 else
 some (.inl (((v0,()),(r2,()),((IntKind.i64.wrap (v2+1)),()),()),(),()))
 else none
 else
 some (.inr (.inl (((v1,()),()),(),())))
def yck (x:(ydn).X):=ypW x.1.1.1 x.1.2.1.1 x.1.2.2.1.1
def yxd (x:(ykA).X):(ydn).X:=(((x.1.1.1,()),(x.1.2.1.1,()),(0,()),()),(),())
def yyW:Code:=(zdI ylr 64 244).getD .skip
theorem yJ3:zdI ylr 64 61=some (.block 0 (.loop yyW)):=by kernel_rfl
theorem yMN (x:(ydn).X):zg7 ⟨yqo,27,yz7⟩ 0 yyW 244 ydn ykx ykV x=yck x:=by kernel_rfl
def yxr (x:(ykA).X):Nat:=18446744073709551616
def yqy (x:(ykA).X):Option ((ykx).X ⊕ (ykV).X):=zr yck (yxr x) (yxd x)
def yxP:Seg:=⟨ykA,ykx,ykV,yqy⟩
def yz8:Nat→Option Seg:=fun q=>bif Nat.beq q 61 then some yxP else yz7 q
theorem yKY:FrOk Tryz.prog ⟨yqo,27,yz8⟩ ylr:=(yKX).loop (sg:=yxP) ydn yxd (by decide) yJ3 yck yxr (by decide) (fun _=>rfl) (fun x r _ h=>h) yMN
abbrev yh3:List Par:= [.rd tWs,.rd tI]
abbrev yqT:List OT:= [⟨false,tI,.fz⟩]
def ynn (a0:List dW) (a1:Int):Option (ResD yqT×MutD yh3) :=
 bif (ltb (IntKind.i64.wrap (a1 - (a0.length:Int))) 0) then
 some (((-1),()),())
 else
 zjw (yqy (((a0,()),((IntKind.i64.wrap (a1 - (a0.length:Int))),()),((),()),()),(),())) (fun y2 =>
 some ((y2.1.1.1,()),())) (fun y2 =>
 some ((y2.1.1.1,()),()))
theorem yRy (x:InD yh3):zjH ⟨yqo,27,yz8⟩ Tryz.f278.results.toList ylr yh3 yqT x=ynn x.1 x.2.1:=by kernel_rfl
theorem yOJ:ConOk Tryz.prog 278 ⟨yh3,yqT,fun x=>ynn x.1 x.2.1⟩:=zkh (yKY) Tryz.func278 (by kernel_rfl) (by kernel_rfl) Tryz.ntmps278.symm (by decide) (fun x r h=>(yRy x).trans h)
def ya9 (a0:List (dW)) (a1:Int):Int:=bif ltb (IntKind.i64.wrap (a1 - (a0.length:Int))) 0 then (-1) else (szG ycQ a0 (IntKind.i64.wrap (a1 - (a0.length:Int)))).getD (-1)
theorem yQA (a0:List (dW)) (a1:Int) (hk:zi9 yh3 (a0,a1,())):ynn a0 a1=(fun n=>some ((n,()),())) (ya9 a0 a1):=by
 have hb:a0.length * 32≤2 ^ 47:=hk.1.1
 have hl: ∀ k:Int,yqy (((a0,()),(k,()),((),()),()),(),())=some (match szG ycQ a0 k with | some r=> .inl (((r,()),()),(),()) | none=> .inr ((((-1),()),()),(),())):=fun k =>
  zkG (step:=yck) a0 ((0,[]):dW) (fun i k=>(((a0,()),(k,()),((i:Int),()),()),(),())) ycQ (fun r=> .inl (((r,()),()),(),())) (.inr ((((-1),()),()),(),())) (fun i s hi=>by
   simp only [yck,ypW,zkO hi,zjW,Int.toNat_natCast,zjI (show (i:Int) < a0.length by omega),cond_true,wr (show -9223372036854775808≤(i:Int)+1 by omega) (by omega),Int.natCast_add,Int.natCast_one,zkV]
   cases ltb (ycQ (a0.getD i (0,[])) s) 0<;>rfl) (fun s=>by simp only [yck,ypW,zkm (Int.le_refl _),cond_false]) k _ (by show _ < 18446744073709551616; omega)
 unfold ynn ya9
 rw [hl]
 cases ltb (IntKind.i64.wrap (a1 - (a0.length:Int))) 0
 ·cases szG ycQ a0 (IntKind.i64.wrap (a1 - (a0.length:Int)))<;>rfl
 ·rfl
def yAE:Con:=⟨yh3,yqT,fun x=>(fun n=>some ((n,()),())) (ya9 x.1 x.2.1)⟩
theorem yQ5:ConOk Tryz.prog 278 yAE:=(yOJ).mono (fun x r hk h=>(yQA x.1 x.2.1 hk).trans h)
end
section
def yCL:Code:=(Tryz.f249.body).getD .skip
def yC6:Env:=zki TT [(277,ywZ),(278,yAE),(279,ygz)] []
theorem yKW:FrOk Tryz.prog ⟨yC6,24,fun _=>none⟩ yCL:=zkp yb yc ⟨yMx,yQ5,yng,trivial⟩
def yM8:Nat→Option Seg:=fun _=>none
abbrev ylM:List Par:= [.rd tM,.rd tI]
abbrev yqS:List OT:= [⟨false,tI,.fz⟩]
def ysv (a0:dM) (a1:Int):Option (ResD yqS×MutD ylM) :=
 let r1:=yR a0.1 a1
 bif (ltb r1 0) then
 some (((-1),()),())
 else
 let r2:=ya9 a0.2.1 r1
 bif (ltb r2 0) then
 some (((-1),()),())
 else
 let r3:=yg a0.2.2.2 r2
 bif (ltb r3 0) then
 some (((-1),()),())
 else
 some ((r3,()),())
theorem yRx (x:InD ylM):zjH ⟨yC6,24,yM8⟩ Tryz.f249.results.toList yCL ylM yqS x=ysv x.1 x.2.1:=by kernel_rfl
theorem yOI:ConOk Tryz.prog 249 ⟨ylM,yqS,fun x=>ysv x.1 x.2.1⟩:=zkh (yKW) Tryz.func249 (by kernel_rfl) (by kernel_rfl) Tryz.ntmps249.symm (by decide) (fun x r h=>(yRx x).trans h)
def yap (a0:dM) (a1:Int):Int :=
 let r1:=yR a0.1 a1
 bif (ltb r1 0) then
 (-1)
 else
 let r2:=ya9 a0.2.1 r1
 bif (ltb r2 0) then
 (-1)
 else
 let r3:=yg a0.2.2.2 r2
 bif (ltb r3 0) then
 (-1)
 else
 r3
def yAD:Con:=⟨ylM,yqS,fun x=>(fun n=>some ((n,()),())) (yap x.1 x.2.1)⟩
theorem yQz (a0:dM) (a1:Int):ysv a0 a1=(fun n=>some ((n,()),())) (yap a0 a1):=zkS (p:=fun (n:Int)=>((n,()),())) (zkx (p:=fun (n:Int)=>((n,()),())) rfl (zkx (p:=fun (n:Int)=>((n,()),())) rfl (zkx (p:=fun (n:Int)=>((n,()),())) rfl rfl)))
theorem yQ4:ConOk Tryz.prog 249 yAD:=(yOI).mono (fun x r _ h=>(yQz x.1 x.2.1).trans h)
end
section
def yjw:Code:=(Tryz.f187.body).getD .skip
def yoy:Env:=zki TT [(249,yAD)] []
theorem yHz:FrOk Tryz.prog ⟨yoy,27,fun _=>none⟩ yjw:=zkp yb yc ⟨yQ4,trivial⟩
def yyo:Nat→Option Seg:=fun _=>none
def ycE:Shape:=⟨[(0,false,[.br tM]),(1,false,[.int .i64]),(5,false,[.int .i64])],[],[]⟩
def yiL:Shape:=⟨[(0,false,[.br tM]),(1,false,[.int .i64]),(5,false,[.ci .i64 0])],[],[]⟩
def yiD:Shape:=⟨[(1,false,[.int .i64])],[],[]⟩
def yiX:Shape:=⟨[(4,false,[.int .i64])],[],[]⟩
def yn4 (v0:List dM) (v1 v2:Int):Option ((ycE).X ⊕ ((yiD).X ⊕ (yiX).X)) :=
 bif (ltb v2 (v0.length:Int)) then
 bif (inb v2 v0.length) then
 let r2:=yap ((nth v0 v2 ([],[],false,[])).1,((nth v0 v2 ([],[],false,[])).2).1,(((nth v0 v2 ([],[],false,[])).2).2)) v1
 bif (ltb r2 0) then
 some (.inr (.inr ((((-1),()),()),(),())))
 else
 some (.inl (((v0,()),(r2,()),((IntKind.i64.wrap (v2+1)),()),()),(),()))
 else none
 else
 some (.inr (.inl (((v1,()),()),(),())))
def ybF (x:(ycE).X):=yn4 x.1.1.1 x.1.2.1.1 x.1.2.2.1.1
def yu4 (x:(yiL).X):(ycE).X:=(((x.1.1.1,()),(x.1.2.1.1,()),(0,()),()),(),())
def ywB:Code:=(zdI yjw 64 244).getD .skip
theorem yGY:zdI yjw 64 61=some (.block 0 (.loop ywB)):=by kernel_rfl
theorem yJp (x:(ycE).X):zg7 ⟨yoy,27,yyo⟩ 0 ywB 244 ycE yiD yiX x=ybF x:=by kernel_rfl
def yvj (x:(yiL).X):Nat:=18446744073709551616
def ypo (x:(yiL).X):Option ((yiD).X ⊕ (yiX).X):=zr ybF (yvj x) (yu4 x)
def yvB:Seg:=⟨yiL,yiD,yiX,ypo⟩
def yyp:Nat→Option Seg:=fun q=>bif Nat.beq q 61 then some yvB else yyo q
theorem yHA:FrOk Tryz.prog ⟨yoy,27,yyp⟩ yjw:=(yHz).loop (sg:=yvB) ycE yu4 (by decide) yGY ybF yvj (by decide) (fun _=>rfl) (fun x r _ h=>h) yJp
abbrev yfl:List Par:= [.rd tMs,.rd tI]
abbrev yoT:List OT:= [⟨false,tI,.fz⟩]
def ylc (a0:List dM) (a1:Int):Option (ResD yoT×MutD yfl) :=
 bif (ltb (IntKind.i64.wrap (a1 - (a0.length:Int))) 0) then
 some (((-1),()),())
 else
 zjw (ypo (((a0,()),((IntKind.i64.wrap (a1 - (a0.length:Int))),()),((),()),()),(),())) (fun y2 =>
 some ((y2.1.1.1,()),())) (fun y2 =>
 some ((y2.1.1.1,()),()))
theorem yP0 (x:InD yfl):zjH ⟨yoy,27,yyp⟩ Tryz.f187.results.toList yjw yfl yoT x=ylc x.1 x.2.1:=by kernel_rfl
theorem yL1:ConOk Tryz.prog 187 ⟨yfl,yoT,fun x=>ylc x.1 x.2.1⟩:=zkh (yHA) Tryz.func187 (by kernel_rfl) (by kernel_rfl) Tryz.ntmps187.symm (by decide) (fun x r h=>(yP0 x).trans h)
def yaq (a0:List (dM)) (a1:Int):Int:=bif ltb (IntKind.i64.wrap (a1 - (a0.length:Int))) 0 then (-1) else (szG yap a0 (IntKind.i64.wrap (a1 - (a0.length:Int)))).getD (-1)
theorem yOb (a0:List (dM)) (a1:Int) (hk:zi9 yfl (a0,a1,())):ylc a0 a1=(fun n=>some ((n,()),())) (yaq a0 a1):=by
 have hb:a0.length * 80≤2 ^ 47:=hk.1.1
 have hl: ∀ k:Int,ypo (((a0,()),(k,()),((),()),()),(),())=some (match szG yap a0 k with | some r=> .inl (((r,()),()),(),()) | none=> .inr ((((-1),()),()),(),())):=fun k =>
  zkG (step:=ybF) a0 (([],[],false,[]):dM) (fun i k=>(((a0,()),(k,()),((i:Int),()),()),(),())) yap (fun r=> .inl (((r,()),()),(),())) (.inr ((((-1),()),()),(),())) (fun i s hi=>by
   simp only [ybF,yn4,zkO hi,zjW,Int.toNat_natCast,zjI (show (i:Int) < a0.length by omega),cond_true,wr (show -9223372036854775808≤(i:Int)+1 by omega) (by omega),Int.natCast_add,Int.natCast_one,zkV]
   cases ltb (yap (a0.getD i ([],[],false,[])) s) 0<;>rfl) (fun s=>by simp only [ybF,yn4,zkm (Int.le_refl _),cond_false]) k _ (by show _ < 18446744073709551616; omega)
 unfold ylc yaq
 rw [hl]
 cases ltb (IntKind.i64.wrap (a1 - (a0.length:Int))) 0
 ·cases szG yap a0 (IntKind.i64.wrap (a1 - (a0.length:Int)))<;>rfl
 ·rfl
def yze:Con:=⟨yfl,yoT,fun x=>(fun n=>some ((n,()),())) (yaq x.1 x.2.1)⟩
theorem yO8:ConOk Tryz.prog 187 yze:=(yL1).mono (fun x r hk h=>(yOb x.1 x.2.1 hk).trans h)
def mSz (m:dM):Nat:=(m.1.length+(m.1.map (fun x:List Int=>x.length)).sum)+(m.2.1.length+(m.2.1.map (fun x:dW=>x.2.length)).sum)+m.2.2.2.length
theorem yTx (m:dM):ynN m≤1+mSz m:=by
 unfold ynN mSz
 rw [yJA (fun x:dW=>x.2.length) 1]
 omega
theorem yTa {l:List dW} {k:Int} (h0:0≤k) (h1:k≤1048576) (hl:l.length * 32≤2 ^ 47) (hx: ∀ x∈l,x.2.length * 8≤2 ^ 47) (h:0≤ya9 l k):((l.length+(l.map (fun x:dW=>x.2.length)).sum:Nat):Int)≤k - ya9 l k∧ya9 l k≤k :=
 yMX (fun x hm k h0 h1 h=>by
  have:=hx x hm
  unfold ycQ at h ⊢
  by_cases h2:yg x.2 k < 0
  ·simp only [zjI h2,cond_true]at h; omega
  ·simp only [zkm (Int.not_lt.1 h2),cond_false]at h ⊢
   have:=yzD h0 h1 (by omega) h2
   omega) h0 h1 (by omega) h
theorem ySC {l:List (List Int)} {k:Int} (h0:0≤k) (h1:k≤1048576) (hl:l.length * 24≤2 ^ 47) (hx: ∀ x∈l,x.length * 8≤2 ^ 47) (h:0≤yR l k):((l.length+(l.map (fun x:List Int=>x.length)).sum:Nat):Int)≤k - yR l k∧yR l k≤k :=
 yMX (fun x hm k h0 h1 h=>by
  have:=hx x hm
  have:=yzD (a:=x) h0 h1 (by omega) (by omega)
  omega) h0 h1 (by omega) h
theorem yS9 {m:dM} {k:Int} (h0:0≤k) (h1:k≤1048576) (hm:tM.Ok m) (h:0≤yap m k):(mSz m:Int)≤k∧yap m k≤k - mSz m:=by
 unfold yap at h ⊢
 by_cases c1:yR m.1 k < 0
 ·simp only [zjI c1,cond_true]at h; omega
 simp only [zkm (Int.not_lt.1 c1),cond_false]at h ⊢
 have e1:=ySC h0 h1 hm.1.1 (fun x hx=>(hm.1.2 x hx).1) (Int.not_lt.1 c1)
 by_cases c2:ya9 m.2.1 (yR m.1 k) < 0
 ·simp only [zjI c2,cond_true]at h; omega
 simp only [zkm (Int.not_lt.1 c2),cond_false]at h ⊢
 have e2:=yTa (Int.not_lt.1 c1) (by omega) hm.2.1.1 (fun x hx=>(hm.2.1.2 x hx).2.1) (Int.not_lt.1 c2)
 by_cases c3:yg m.2.2.2 (ya9 m.2.1 (yR m.1 k)) < 0
 ·simp only [zjI c3,cond_true]at h; omega
 simp only [zkm (Int.not_lt.1 c3),cond_false]at h ⊢
 have e3:=yzD (a:=m.2.2.2) (Int.not_lt.1 c2) (by omega) (by have:m.2.2.2.length * 8≤2 ^ 47:=hm.2.2.2.1; omega) c3
 unfold mSz
 omega
theorem yST {l:List dM} {k:Int} (h0:0≤k) (h1:k≤1048576) (hm:tMs.Ok l) (h:0≤yaq l k):((l.length+(l.map mSz).sum:Nat):Int)≤k - yaq l k∧yaq l k≤k :=
 yMX (fun x hx k h0 h1 h=>yS9 h0 h1 (hm.2 x hx) h) h0 h1 (by have:l.length * 80≤2 ^ 47:=hm.1; omega) h
theorem yS5 {l:List dM}:yhm l≤l.length+(l.map mSz).sum:=by
 unfold yhm
 induction l with
 | nil=>simp
 | cons x l ih =>
  simp only [List.map_cons,List.sum_cons,List.length_cons]
  have:=yTx x
  omega
theorem ySK {α:Type} {f:α→Nat} {x:α}: ∀ {l:List α},x∈l→f x≤(l.map f).sum
 | y::l,h=>by
  rw [List.map_cons,List.sum_cons]
  rcases List.mem_cons.1 h with rfl | h
  ·omega
  ·have:=ySK (f:=f) h; omega
end
section
def yCK:Code:=(Tryz.f250.body).getD .skip
def yC5:Env:=zki TT [(279,ygz)] []
theorem yKV:FrOk Tryz.prog ⟨yC5,12,fun _=>none⟩ yCK:=zkp yb yc ⟨yng,trivial⟩
def yM7:Nat→Option Seg:=fun _=>none
abbrev ylL:List Par:= [.rd tW,.rd tI]
abbrev yqR:List OT:= [⟨false,tI,.fz⟩]
def ysu (a0:dW) (a1:Int):Option (ResD yqR×MutD ylL) :=
 let r1:=yg a0.2 a1
 bif (ltb r1 0) then
 some (((-1),()),())
 else
 some ((r1,()),())
theorem yRw (x:InD ylL):zjH ⟨yC5,12,yM7⟩ Tryz.f250.results.toList yCK ylL yqR x=ysu x.1 x.2.1:=by kernel_rfl
theorem yOH:ConOk Tryz.prog 250 ⟨ylL,yqR,fun x=>ysu x.1 x.2.1⟩:=zkh (yKV) Tryz.func250 (by kernel_rfl) (by kernel_rfl) Tryz.ntmps250.symm (by decide) (fun x r h=>(yRw x).trans h)
def yb2 (a0:dW) (a1:Int):Int :=
 let r1:=yg a0.2 a1
 bif (ltb r1 0) then
 (-1)
 else
 r1
def yAC:Con:=⟨ylL,yqR,fun x=>(fun n=>some ((n,()),())) (yb2 x.1 x.2.1)⟩
theorem yQy (a0:dW) (a1:Int):ysu a0 a1=(fun n=>some ((n,()),())) (yb2 a0 a1):=zkS (p:=fun (n:Int)=>((n,()),())) (zkx (p:=fun (n:Int)=>((n,()),())) rfl rfl)
theorem yQ3:ConOk Tryz.prog 250 yAC:=(yOH).mono (fun x r _ h=>(yQy x.1 x.2.1).trans h)
end
end
end Go.Tf
