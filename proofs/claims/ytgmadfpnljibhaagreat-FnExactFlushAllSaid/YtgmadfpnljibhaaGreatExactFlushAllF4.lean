/- Functions of the program, and what they come to. -/
import Derived.Test.YtgmadfpnljibhaaGreatExactFlushAllF3
namespace Go.Tf
noncomputable section
open Go.Proofs
set_option synthInstance.maxHeartbeats 400000
set_option synthInstance.maxSize 10000
set_option linter.unusedVariables false
set_option linter.unusedSimpArgs false
set_option maxRecDepth 100000
section
def ycg:Code:=(Tryz.f219.body).getD .skip
def ygl:Env:=zki TT [(200,ydp)] []
theorem yN2:FrOk Tryz.prog ⟨ygl,49,fun _=>none⟩ ycg:=zkp yb yc ⟨yha,trivial⟩
def yCN:Nat→Option Seg:=fun _=>none
def ybp:Shape:=⟨[(1,false,[.ptr 0 0]),(2,false,[.ptr 64 0]),(3,false,[.ptr 4480 0]),(15,false,[.br tL]),(16,false,[.int .i64]),(17,false,[.int .i64])],[(0,[.br tL,.br tW,.bool,.br tI]),(64,[.nil,.nil,.bool,.nil]),(4480,[.at 800000001,.nil,.bool,.at 800000000])],[(800000001,tL,(.ow .fz)),(800000000,tI,.fz)]⟩
def yfP:Shape:=⟨[(1,false,[.ptr 0 0]),(2,false,[.ptr 64 0]),(3,false,[.ptr 4480 0]),(15,false,[.br tL]),(16,false,[.int .i64]),(17,false,[.ci .i64 0])],[(0,[.br tL,.br tW,.bool,.br tI]),(64,[.nil,.nil,.bool,.nil]),(4480,[.at 800000001,.nil,.bool,.at 800000000])],[(800000001,tL,(.ow .fz)),(800000000,tI,.fz)]⟩
def yfH:Shape:=⟨[(1,false,[.ptr 0 0]),(2,false,[.ptr 64 0]),(3,false,[.ptr 4480 0])],[(0,[.br tL,.br tW,.bool,.br tI]),(64,[.nil,.nil,.bool,.nil]),(4480,[.at 800000000,.nil,.bool,.at 800000001])],[(800000000,tL,(.ow .fz)),(800000001,tI,.fz)]⟩
def yjY:Shape:=⟨[],[],[]⟩
abbrev yqq (v0:List (List Int)) (v1 v2:Int) (v3 v4 v5:dM):(ybp).X:=((((),()),((),()),((),()),(v0,()),(v1,()),(v2,()),()),((v3.1,v3.2.1,v3.2.2.1,v3.2.2.2,()),((),(),v4.2.2.1,(),()),((),(),v5.2.2.1,(),()),()),(v5.1,v5.2.2.2,()))
abbrev yME (v0:List (List Int)) (v1:Int) (v2 v3 v4:dM):(yfP).X:=((((),()),((),()),((),()),(v0,()),(v1,()),((),()),()),((v2.1,v2.2.1,v2.2.2.1,v2.2.2.2,()),((),(),v3.2.2.1,(),()),((),(),v4.2.2.1,(),()),()),(v4.1,v4.2.2.2,()))
abbrev yzU (v0 v1 v2:dM):(yfH).X:=((((),()),((),()),((),()),()),((v0.1,v0.2.1,v0.2.2.1,v0.2.2.2,()),((),(),v1.2.2.1,(),()),((),(),v2.2.2.1,(),()),()),(v2.1,v2.2.2.2,()))
def yqD (v0:List (List Int)) (v1 v2:Int) (v3:List (List Int)) (v4:List dW) (v5:Bool) (v6:List Int) (v7 v8:Bool) (v9:List (List Int)) (v10:List Int):Option ((ybp).X ⊕ ((yfH).X ⊕ (yjY).X)) :=
 bif (ltb v2 v1) then
 bif (inb v2 v0.length) then
 let r4:=yi (nth v0 v2 [])
 bif (zj4 v9.length ([r4]:List (List Int)).length 24) then
 some (.inl ((((),()),((),()),((),()),(v0,()),(v1,()),((IntKind.i64.wrap (v2+1)),()),()),((v3,v4,v5,v6,()),((),(),v7,(),()),((),(),v8,(),()),()),((v9++([r4]:List (List Int))),v10,())))
 else none
 else none
 else
 some (.inr (.inl ((((),()),((),()),((),()),()),((v3,v4,v5,v6,()),((),(),v7,(),()),((),(),v8,(),()),()),(v9,v10,()))))
def ybF (x:(ybp).X):=yqD x.1.2.2.2.1.1 x.1.2.2.2.2.1.1 x.1.2.2.2.2.2.1.1 x.2.1.1.1 x.2.1.1.2.1 x.2.1.1.2.2.1 x.2.1.1.2.2.2.1 x.2.1.2.1.2.2.1 x.2.1.2.2.1.2.2.1 x.2.2.1 x.2.2.2.1
def yzp (x:(yfP).X):(ybp).X:=((((),()),((),()),((),()),(x.1.2.2.2.1.1,()),(x.1.2.2.2.2.1.1,()),(0,()),()),((x.2.1.1.1,x.2.1.1.2.1,x.2.1.1.2.2.1,x.2.1.1.2.2.2.1,()),((),(),x.2.1.2.1.2.2.1,(),()),((),(),x.2.1.2.2.1.2.2.1,(),()),()),(x.2.2.1,x.2.2.2.1,()))
def yBb:Code:=(zdI ycg 64 116).getD .skip
theorem yNG:zdI ycg 64 29=some (.block 0 (.loop yBb)):=by kernel_rfl
theorem yPo (x:(ybp).X):zg7 ⟨ygl,49,yCN⟩ 0 yBb 116 ybp yfH yjY x=ybF x:=by kernel_rfl
def yzF (x:(yfP).X):Nat:=18446744073709551616
def yrS (x:(yfP).X):Option ((yfH).X ⊕ (yjY).X):=zr ybF (yzF x) (yzp x)
def yz4:Seg:=⟨yfP,yfH,yjY,yrS⟩
def ytP:Nat→Option Seg:=fun q=>bif Nat.beq q 29 then some yz4 else yCN q
theorem yN3:FrOk Tryz.prog ⟨ygl,49,ytP⟩ ycg:=(yN2).loop (sg:=yz4) ybp yzp (by decide) yNG ybF yzF (by decide) (fun _=>rfl) (fun x r _ h=>h) yPo
def ybq:Shape:=⟨[(2,false,[.ptr 64 0]),(3,false,[.ptr 4480 0]),(30,false,[.br tW]),(31,false,[.int .i64]),(32,false,[.int .i64])],[(64,[.nil,.nil,.bool,.nil]),(4480,[.at 800000000,.at 800000002,.bool,.at 800000001])],[(800000000,tL,(.ow .fz)),(800000002,tW,(.pr .fz (.ow .fz))),(800000001,tI,.fz)]⟩
def yfQ:Shape:=⟨[(2,false,[.ptr 64 0]),(3,false,[.ptr 4480 0]),(30,false,[.br tW]),(31,false,[.int .i64]),(32,false,[.ci .i64 0])],[(64,[.nil,.nil,.bool,.nil]),(4480,[.at 800000000,.at 800000002,.bool,.at 800000001])],[(800000000,tL,(.ow .fz)),(800000002,tW,(.pr .fz (.ow .fz))),(800000001,tI,.fz)]⟩
def yfI:Shape:=⟨[(2,false,[.ptr 64 0]),(3,false,[.ptr 4480 0])],[(64,[.nil,.nil,.bool,.nil]),(4480,[.at 800000000,.at 800000001,.bool,.at 800000002])],[(800000000,tL,(.ow .fz)),(800000001,tW,(.pr .fz (.ow .fz))),(800000002,tI,.fz)]⟩
def yjZ:Shape:=⟨[],[],[]⟩
abbrev yqr (v0:List dW) (v1 v2:Int) (v3 v4:dM):(ybq).X:=((((),()),((),()),(v0,()),(v1,()),(v2,()),()),(((),(),v3.2.2.1,(),()),((),(),v4.2.2.1,(),()),()),(v4.1,v4.2.1,v4.2.2.2,()))
abbrev yMF (v0:List dW) (v1:Int) (v2 v3:dM):(yfQ).X:=((((),()),((),()),(v0,()),(v1,()),((),()),()),(((),(),v2.2.2.1,(),()),((),(),v3.2.2.1,(),()),()),(v3.1,v3.2.1,v3.2.2.2,()))
abbrev yzV (v0 v1:dM):(yfI).X:=((((),()),((),()),()),(((),(),v0.2.2.1,(),()),((),(),v1.2.2.1,(),()),()),(v1.1,v1.2.1,v1.2.2.2,()))
def yqE (v0:List dW) (v1 v2:Int) (v3 v4:Bool) (v5:List (List Int)) (v6:List dW) (v7:List Int):Option ((ybq).X ⊕ ((yfI).X ⊕ (yjZ).X)) :=
 bif (ltb v2 v1) then
 bif (inb v2 v0.length) then
 let r8:=yi ((nth v0 v2 (0,[])).2)
 bif (zj4 v6.length ([((nth v0 v2 (0,[])).1,r8)]:List dW).length 32) then
 some (.inl ((((),()),((),()),(v0,()),(v1,()),((IntKind.i64.wrap (v2+1)),()),()),(((),(),v3,(),()),((),(),v4,(),()),()),(v5,(v6++([((nth v0 v2 (0,[])).1,r8)]:List dW)),v7,())))
 else none
 else none
 else
 some (.inr (.inl ((((),()),((),()),()),(((),(),v3,(),()),((),(),v4,(),()),()),(v5,v6,v7,()))))
def ybG (x:(ybq).X):=yqE x.1.2.2.1.1 x.1.2.2.2.1.1 x.1.2.2.2.2.1.1 x.2.1.1.2.2.1 x.2.1.2.1.2.2.1 x.2.2.1 x.2.2.2.1 x.2.2.2.2.1
def yzq (x:(yfQ).X):(ybq).X:=((((),()),((),()),(x.1.2.2.1.1,()),(x.1.2.2.2.1.1,()),(0,()),()),(((),(),x.2.1.1.2.2.1,(),()),((),(),x.2.1.2.1.2.2.1,(),()),()),(x.2.2.1,x.2.2.2.1,x.2.2.2.2.1,()))
def yBc:Code:=(zdI ycg 64 244).getD .skip
theorem yNH:zdI ycg 64 61=some (.block 2 (.loop yBc)):=by kernel_rfl
theorem yPp (x:(ybq).X):zg7 ⟨ygl,49,ytP⟩ 2 yBc 244 ybq yfI yjZ x=ybG x:=by kernel_rfl
def yzG (x:(yfQ).X):Nat:=18446744073709551616
def yrT (x:(yfQ).X):Option ((yfI).X ⊕ (yjZ).X):=zr ybG (yzG x) (yzq x)
def yz5:Seg:=⟨yfQ,yfI,yjZ,yrT⟩
def yCO:Nat→Option Seg:=fun q=>bif Nat.beq q 61 then some yz5 else ytP q
theorem yN4:FrOk Tryz.prog ⟨ygl,49,yCO⟩ ycg:=(yN3).loop (sg:=yz5) ybq yzq (by decide) yNH ybG yzG (by decide) (fun _=>rfl) (fun x r _ h=>h) yPp
abbrev ygn:List Par:= [.rd tM]
abbrev yq5:List OT:= [⟨false,tM,(.pr (.ow (.ow .fz)) (.pr (.ow (.pr .fz (.ow .fz))) (.pr .fz (.ow .fz))))⟩]
def ymz (a0:dM):Option (ResD yq5×MutD ygn) :=
 let r1:=yi a0.2.2.2
 zjw (yrS ((((),()),((),()),((),()),(a0.1,()),((a0.1.length:Int),()),((),()),()),((a0.1,a0.2.1,a0.2.2.1,a0.2.2.2,()),((),(),false,(),()),((),(),a0.2.2.1,(),()),()),([],r1,()))) (fun y4 =>
 zjw (yrT ((((),()),((),()),(y4.2.1.1.2.1,()),((y4.2.1.1.2.1.length:Int),()),((),()),()),(((),(),y4.2.1.2.1.2.2.1,(),()),((),(),y4.2.1.2.2.1.2.2.1,(),()),()),(y4.2.2.1,[],y4.2.2.2.1,()))) (fun y8 =>
 some (((y8.2.2.1,y8.2.2.2.1,y8.2.1.2.1.2.2.1,y8.2.2.2.2.1),()),())) (fun y8 =>
 none)) (fun y4 =>
 none)
theorem yXy (x:InD ygn):zjH ⟨ygl,49,yCO⟩ Tryz.f219.results.toList ycg ygn yq5 x=ymz x.1:=by kernel_rfl
theorem ySe:ConOk Tryz.prog 219 ⟨ygn,yq5,fun x=>ymz x.1⟩:=zkh (yN4) Tryz.func219 (by kernel_rfl) (by kernel_rfl) Tryz.ntmps219.symm (by decide) (fun x r h=>(yXy x).trans h)
def ya7 (a0:dM):dM:=a0
theorem yVo (a0:dM) (hk:zi9 ygn (a0,())):ymz a0=(fun n=>some ((n,()),())) (ya7 a0):=by
 have hb1:a0.1.length * 24≤2 ^ 47:=hk.1.1.1
 have hb2:a0.2.1.length * 32≤2 ^ 47:=hk.1.2.1.1
 have h1:yrS (yME a0.1 a0.1.length a0 yh ([],[],a0.2.2.1,a0.2.2.2))=some (.inl (yzU a0 yh (a0.1,[],a0.2.2.1,a0.2.2.2))):=by
  have:=zkk (step:=ybF) a0.1 [] (fun i s=>yqq a0.1 a0.1.length i a0 yh (s,[],a0.2.2.1,a0.2.2.2)) (fun s x=>s++ [x]) (fun i s=>s.length=i) (fun s=> .inl (yzU a0 yh (s,[],a0.2.2.1,a0.2.2.2))) (fun i s hi hs2=>⟨by
   simp only [ybF,yqq,yqD,zjI (show (i:Int) < a0.1.length by omega),cond_true,wr (show -9223372036854775808≤(i:Int)+1 by omega) (by omega),Int.natCast_add,Int.natCast_one,Int.toNat_natCast,zkO hi,zjW,yi]
   rw [zkw.2 (show (s.length+ [a0.1.getD i []].length) * 24≤140737488355328 by simp only [List.length_cons,List.length_nil]; omega)]; rfl,by simp [hs2]⟩) (fun s _=>by simp only [ybF,yqq,yqD,zkm (Int.le_refl _),cond_false]) [] rfl 18446744073709551616 (by omega)
  rw [yt9]at this
  exact this
 have h2:yrT (yMF a0.2.1 a0.2.1.length yh (a0.1,[],a0.2.2.1,a0.2.2.2))=some (.inl (yzV yh a0)):=by
  have:=zkk (step:=ybG) a0.2.1 (0,[]) (fun i s=>yqr a0.2.1 a0.2.1.length i yh (a0.1,s,a0.2.2.1,a0.2.2.2)) (fun s x=>s++ [x]) (fun i s=>s.length=i) (fun s=> .inl (yzV yh (a0.1,s,a0.2.2.1,a0.2.2.2))) (fun i s hi hs2=>⟨by
   simp only [ybG,yqr,yqE,zjI (show (i:Int) < a0.2.1.length by omega),cond_true,wr (show -9223372036854775808≤(i:Int)+1 by omega) (by omega),Int.natCast_add,Int.natCast_one,Int.toNat_natCast,zkO hi,zjW,yi,zkV]
   rw [zkw.2 (show (s.length+ [a0.2.1.getD i (0,[])].length) * 32≤140737488355328 by simp only [List.length_cons,List.length_nil]; omega)]; rfl,by simp [hs2]⟩) (fun s _=>by simp only [ybG,yqr,yqE,zkm (Int.le_refl _),cond_false]) [] rfl 18446744073709551616 (by omega)
  rw [yt9]at this
  exact this
 unfold ymz ya7
 simp only [yi,h1,zkJ,h2]
def ymo:Con:=⟨ygn,yq5,fun x=>(fun n=>some ((n,()),())) (ya7 x.1)⟩
theorem ywB:ConOk Tryz.prog 219 ymo:=(ySe).mono (fun x r hk h=>(yVo x.1 hk).trans h)
end
section
def yh3:Code:=(Tryz.f143.body).getD .skip
def yok:Env:=zki TT [(219,ymo)] []
theorem yL6:FrOk Tryz.prog ⟨yok,20,fun _=>none⟩ yh3:=zkp yb yc ⟨ywB,trivial⟩
def yAQ:Nat→Option Seg:=fun _=>none
def yaX:Shape:=⟨[(3,false,[.at 800000000]),(7,false,[.br tM]),(8,false,[.int .i64]),(9,false,[.int .i64])],[],[(800000000,tM,(.pr (.ow (.ow .fz)) (.pr (.ow (.pr .fz (.ow .fz))) (.pr .fz (.ow .fz)))))]⟩
def yeG:Shape:=⟨[(3,false,[.at 800000000]),(7,false,[.br tM]),(8,false,[.int .i64]),(9,false,[.ci .i64 0])],[],[(800000000,tM,(.pr (.ow (.ow .fz)) (.pr (.ow (.pr .fz (.ow .fz))) (.pr .fz (.ow .fz)))))]⟩
def yeA:Shape:=⟨[(3,false,[.at 800000000])],[],[(800000000,tM,(.pr (.ow (.ow .fz)) (.pr (.ow (.pr .fz (.ow .fz))) (.pr .fz (.ow .fz)))))]⟩
def yi4:Shape:=⟨[],[],[]⟩
abbrev ynR (v0:List dM) (v1 v2:Int) (v3:List dM):(yaX).X:=((((),()),(v0,()),(v1,()),(v2,()),()),(),(v3,()))
abbrev yKu (v0:List dM) (v1:Int) (v2:List dM):(yeG).X:=((((),()),(v0,()),(v1,()),((),()),()),(),(v2,()))
abbrev yKp (v0:List dM):(yeA).X:=((((),()),()),(),(v0,()))
def yn5 (v0:List dM) (v1 v2:Int) (v3:List dM):Option ((yaX).X ⊕ ((yeA).X ⊕ (yi4).X)) :=
 bif (ltb v2 v1) then
 bif (inb v2 v0.length) then
 let r2:=ya7 ((nth v0 v2 ([],[],false,[])).1,((nth v0 v2 ([],[],false,[])).2).1,(((nth v0 v2 ([],[],false,[])).2).2))
 bif (zj4 v3.length ([r2]:List dM).length 80) then
 some (.inl ((((),()),(v0,()),(v1,()),((IntKind.i64.wrap (v2+1)),()),()),(),((v3++([r2]:List dM)),())))
 else none
 else none
 else
 some (.inr (.inl ((((),()),()),(),(v3,()))))
def ybd (x:(yaX).X):=yn5 x.1.2.1.1 x.1.2.2.1.1 x.1.2.2.2.1.1 x.2.2.1
def yxh (x:(yeG).X):(yaX).X:=((((),()),(x.1.2.1.1,()),(x.1.2.2.1.1,()),(0,()),()),(),(x.2.2.1,()))
def yy8:Code:=(zdI yh3 64 116).getD .skip
theorem yLB:zdI yh3 64 29=some (.block 0 (.loop yy8)):=by kernel_rfl
theorem yNf (x:(yaX).X):zg7 ⟨yok,20,yAQ⟩ 0 yy8 116 yaX yeA yi4 x=ybd x:=by kernel_rfl
def yxt (x:(yeG).X):Nat:=18446744073709551616
def ypS (x:(yeG).X):Option ((yeA).X ⊕ (yi4).X):=zr ybd (yxt x) (yxh x)
def yxJ:Seg:=⟨yeG,yeA,yi4,ypS⟩
def yAR:Nat→Option Seg:=fun q=>bif Nat.beq q 29 then some yxJ else yAQ q
theorem yL7:FrOk Tryz.prog ⟨yok,20,yAR⟩ yh3:=(yL6).loop (sg:=yxJ) yaX yxh (by decide) yLB ybd yxt (by decide) (fun _=>rfl) (fun x r _ h=>h) yNf
abbrev yeZ:List Par:= [.rd tMs]
abbrev yoF:List OT:= [⟨false,tMs,(.ow (.pr (.ow (.ow .fz)) (.pr (.ow (.pr .fz (.ow .fz))) (.pr .fz (.ow .fz)))))⟩]
def ykk (a0:List dM):Option (ResD yoF×MutD yeZ) :=
 zjw (ypS ((((),()),(a0,()),((a0.length:Int),()),((),()),()),(),(([]:List dM),()))) (fun y2 =>
 some ((y2.2.2.1,()),())) (fun y2 =>
 none)
theorem yT3 (x:InD yeZ):zjH ⟨yok,20,yAR⟩ Tryz.f143.results.toList yh3 yeZ yoF x=ykk x.1:=by kernel_rfl
theorem yO1:ConOk Tryz.prog 143 ⟨yeZ,yoF,fun x=>ykk x.1⟩:=zkh (yL7) Tryz.func143 (by kernel_rfl) (by kernel_rfl) Tryz.ntmps143.symm (by decide) (fun x r h=>(yT3 x).trans h)
def yo9 (a0:List dM):List dM:=a0
theorem yRX (a0:List dM) (hk:zi9 yeZ (a0,())):ykk a0=(fun n=>some ((n,()),())) (yo9 a0):=by
 have hb:a0.length * 80≤2 ^ 47:=hk.1.1
 have h1:=zkk (step:=ybd) a0 yh (fun i s=>ynR a0 a0.length i s) (fun s x=>s++ [x]) (fun i s=>s.length=i) (fun s=> .inl (yKp s)) (fun i s hi hs=>⟨by
   simp only [ybd,ynR,yn5,zjI (show (i:Int) < a0.length by omega),cond_true,wr (show -9223372036854775808≤(i:Int)+1 by omega) (by omega),Int.natCast_add,Int.natCast_one,Int.toNat_natCast,zkO hi,zjW,ya7,zkV]
   rw [zkw.2 (show (s.length+ [a0.getD i ([],[],false,[])].length) * 80≤140737488355328 by simp only [List.length_cons,List.length_nil]; omega)]; rfl,by simp [hs]⟩) (fun s hs=>by simp only [ybd,ynR,yn5,zkm (Int.le_refl _),cond_false]) [] rfl 18446744073709551616 (by omega)
 rw [yt9]at h1
 unfold ykk yo9
 rw [show ypS (yKu a0 a0.length [])=_ from h1]; rfl
def yBu:Con:=⟨yeZ,yoF,fun x=>(fun n=>some ((n,()),())) (yo9 x.1)⟩
theorem ySF:ConOk Tryz.prog 143 yBu:=(yO1).mono (fun x r hk h=>(yRX x.1 hk).trans h)
end
section
def yky:Code:=(Tryz.f98.body).getD .skip
def yqR:Env:=zki TT [(143,yBu),(200,ydp)] []
theorem yN0:FrOk Tryz.prog ⟨yqR,31,fun _=>none⟩ yky:=zkp yb yc ⟨ySF,yha,trivial⟩
def yCL:Nat→Option Seg:=fun _=>none
def ybo:Shape:=⟨[(1,false,[.ptr 0 0]),(2,false,[.ptr 64 0]),(3,false,[.at 800000000]),(8,false,[.br tW]),(9,false,[.int .i64]),(10,false,[.int .i64])],[(0,[.int .i64,.int .i64,.int .i64,.br tM,.int .i64,.int .i64,.int .i64,.int .i64,.int .i64,.br tW,.int .i64,.bool,.bool]),(64,[.int .i64,.int .i64,.int .i64,.nil,.int .i64,.int .i64,.int .i64,.int .i64,.int .i64,.nil,.int .i64,.bool,.bool])],[(800000000,tW,(.pr .fz (.ow .fz)))]⟩
def yfO:Shape:=⟨[(1,false,[.ptr 0 0]),(2,false,[.ptr 64 0]),(3,false,[.at 800000000]),(8,false,[.br tW]),(9,false,[.int .i64]),(10,false,[.ci .i64 0])],[(0,[.int .i64,.int .i64,.int .i64,.br tM,.int .i64,.int .i64,.int .i64,.int .i64,.int .i64,.br tW,.int .i64,.bool,.bool]),(64,[.int .i64,.int .i64,.int .i64,.nil,.int .i64,.int .i64,.int .i64,.int .i64,.int .i64,.nil,.int .i64,.bool,.bool])],[(800000000,tW,(.pr .fz (.ow .fz)))]⟩
def yfG:Shape:=⟨[(1,false,[.ptr 0 0]),(2,false,[.ptr 64 0]),(3,false,[.at 800000000])],[(0,[.int .i64,.int .i64,.int .i64,.br tM,.int .i64,.int .i64,.int .i64,.int .i64,.int .i64,.br tW,.int .i64,.bool,.bool]),(64,[.int .i64,.int .i64,.int .i64,.nil,.int .i64,.int .i64,.int .i64,.int .i64,.int .i64,.nil,.int .i64,.bool,.bool])],[(800000000,tW,(.pr .fz (.ow .fz)))]⟩
def yjX:Shape:=⟨[],[],[]⟩
abbrev yqp (v0:List dW) (v1 v2:Int) (v3 v4:dA) (v5:List dW):(ybo).X:=((((),()),((),()),((),()),(v0,()),(v1,()),(v2,()),()),((v3.1,v3.2.1.1,v3.2.1.2,v3.2.2.1,v3.2.2.2.1,v3.2.2.2.2.1,v3.2.2.2.2.2.1,v3.2.2.2.2.2.2.1,v3.2.2.2.2.2.2.2.1,v3.2.2.2.2.2.2.2.2.1,v3.2.2.2.2.2.2.2.2.2.1,v3.2.2.2.2.2.2.2.2.2.2.1,v3.2.2.2.2.2.2.2.2.2.2.2,()),(v4.1,v4.2.1.1,v4.2.1.2,(),v4.2.2.2.1,v4.2.2.2.2.1,v4.2.2.2.2.2.1,v4.2.2.2.2.2.2.1,v4.2.2.2.2.2.2.2.1,(),v4.2.2.2.2.2.2.2.2.2.1,v4.2.2.2.2.2.2.2.2.2.2.1,v4.2.2.2.2.2.2.2.2.2.2.2,()),()),(v5,()))
abbrev yMD (v0:List dW) (v1:Int) (v2 v3:dA) (v4:List dW):(yfO).X:=((((),()),((),()),((),()),(v0,()),(v1,()),((),()),()),((v2.1,v2.2.1.1,v2.2.1.2,v2.2.2.1,v2.2.2.2.1,v2.2.2.2.2.1,v2.2.2.2.2.2.1,v2.2.2.2.2.2.2.1,v2.2.2.2.2.2.2.2.1,v2.2.2.2.2.2.2.2.2.1,v2.2.2.2.2.2.2.2.2.2.1,v2.2.2.2.2.2.2.2.2.2.2.1,v2.2.2.2.2.2.2.2.2.2.2.2,()),(v3.1,v3.2.1.1,v3.2.1.2,(),v3.2.2.2.1,v3.2.2.2.2.1,v3.2.2.2.2.2.1,v3.2.2.2.2.2.2.1,v3.2.2.2.2.2.2.2.1,(),v3.2.2.2.2.2.2.2.2.2.1,v3.2.2.2.2.2.2.2.2.2.2.1,v3.2.2.2.2.2.2.2.2.2.2.2,()),()),(v4,()))
abbrev yMy (v0 v1:dA) (v2:List dW):(yfG).X:=((((),()),((),()),((),()),()),((v0.1,v0.2.1.1,v0.2.1.2,v0.2.2.1,v0.2.2.2.1,v0.2.2.2.2.1,v0.2.2.2.2.2.1,v0.2.2.2.2.2.2.1,v0.2.2.2.2.2.2.2.1,v0.2.2.2.2.2.2.2.2.1,v0.2.2.2.2.2.2.2.2.2.1,v0.2.2.2.2.2.2.2.2.2.2.1,v0.2.2.2.2.2.2.2.2.2.2.2,()),(v1.1,v1.2.1.1,v1.2.1.2,(),v1.2.2.2.1,v1.2.2.2.2.1,v1.2.2.2.2.2.1,v1.2.2.2.2.2.2.1,v1.2.2.2.2.2.2.2.1,(),v1.2.2.2.2.2.2.2.2.2.1,v1.2.2.2.2.2.2.2.2.2.2.1,v1.2.2.2.2.2.2.2.2.2.2.2,()),()),(v2,()))
def yqC (v0:List dW) (v1 v2 v3 v4 v5:Int) (v6:List dM) (v7 v8 v9 v10 v11:Int) (v12:List dW) (v13:Int) (v14 v15:Bool) (v16 v17 v18 v19 v20 v21 v22 v23 v24:Int) (v25 v26:Bool) (v27:List dW):Option ((ybo).X ⊕ ((yfG).X ⊕ (yjX).X)) :=
 bif (ltb v2 v1) then
 bif (inb v2 v0.length) then
 let r2:=yi ((nth v0 v2 (0,[])).2)
 bif (zj4 v27.length ([((nth v0 v2 (0,[])).1,r2)]:List dW).length 32) then
 some (.inl ((((),()),((),()),((),()),(v0,()),(v1,()),((IntKind.i64.wrap (v2+1)),()),()),((v3,v4,v5,v6,v7,v8,v9,v10,v11,v12,v13,v14,v15,()),(v16,v17,v18,(),v19,v20,v21,v22,v23,(),v24,v25,v26,()),()),((v27++([((nth v0 v2 (0,[])).1,r2)]:List dW)),())))
 else none
 else none
 else
 some (.inr (.inl ((((),()),((),()),((),()),()),((v3,v4,v5,v6,v7,v8,v9,v10,v11,v12,v13,v14,v15,()),(v16,v17,v18,(),v19,v20,v21,v22,v23,(),v24,v25,v26,()),()),(v27,()))))
def ybE (x:(ybo).X):=yqC x.1.2.2.2.1.1 x.1.2.2.2.2.1.1 x.1.2.2.2.2.2.1.1 x.2.1.1.1 x.2.1.1.2.1 x.2.1.1.2.2.1 x.2.1.1.2.2.2.1 x.2.1.1.2.2.2.2.1 x.2.1.1.2.2.2.2.2.1 x.2.1.1.2.2.2.2.2.2.1 x.2.1.1.2.2.2.2.2.2.2.1 x.2.1.1.2.2.2.2.2.2.2.2.1 x.2.1.1.2.2.2.2.2.2.2.2.2.1 x.2.1.1.2.2.2.2.2.2.2.2.2.2.1 x.2.1.1.2.2.2.2.2.2.2.2.2.2.2.1 x.2.1.1.2.2.2.2.2.2.2.2.2.2.2.2.1 x.2.1.2.1.1 x.2.1.2.1.2.1 x.2.1.2.1.2.2.1 x.2.1.2.1.2.2.2.2.1 x.2.1.2.1.2.2.2.2.2.1 x.2.1.2.1.2.2.2.2.2.2.1 x.2.1.2.1.2.2.2.2.2.2.2.1 x.2.1.2.1.2.2.2.2.2.2.2.2.1 x.2.1.2.1.2.2.2.2.2.2.2.2.2.2.1 x.2.1.2.1.2.2.2.2.2.2.2.2.2.2.2.1 x.2.1.2.1.2.2.2.2.2.2.2.2.2.2.2.2.1 x.2.2.1
def yzo (x:(yfO).X):(ybo).X:=((((),()),((),()),((),()),(x.1.2.2.2.1.1,()),(x.1.2.2.2.2.1.1,()),(0,()),()),((x.2.1.1.1,x.2.1.1.2.1,x.2.1.1.2.2.1,x.2.1.1.2.2.2.1,x.2.1.1.2.2.2.2.1,x.2.1.1.2.2.2.2.2.1,x.2.1.1.2.2.2.2.2.2.1,x.2.1.1.2.2.2.2.2.2.2.1,x.2.1.1.2.2.2.2.2.2.2.2.1,x.2.1.1.2.2.2.2.2.2.2.2.2.1,x.2.1.1.2.2.2.2.2.2.2.2.2.2.1,x.2.1.1.2.2.2.2.2.2.2.2.2.2.2.1,x.2.1.1.2.2.2.2.2.2.2.2.2.2.2.2.1,()),(x.2.1.2.1.1,x.2.1.2.1.2.1,x.2.1.2.1.2.2.1,(),x.2.1.2.1.2.2.2.2.1,x.2.1.2.1.2.2.2.2.2.1,x.2.1.2.1.2.2.2.2.2.2.1,x.2.1.2.1.2.2.2.2.2.2.2.1,x.2.1.2.1.2.2.2.2.2.2.2.2.1,(),x.2.1.2.1.2.2.2.2.2.2.2.2.2.2.1,x.2.1.2.1.2.2.2.2.2.2.2.2.2.2.2.1,x.2.1.2.1.2.2.2.2.2.2.2.2.2.2.2.2.1,()),()),(x.2.2.1,()))
def yBa:Code:=(zdI yky 64 116).getD .skip
theorem yNF:zdI yky 64 29=some (.block 0 (.loop yBa)):=by kernel_rfl
theorem yPn (x:(ybo).X):zg7 ⟨yqR,31,yCL⟩ 0 yBa 116 ybo yfG yjX x=ybE x:=by kernel_rfl
def yzE (x:(yfO).X):Nat:=18446744073709551616
def yrR (x:(yfO).X):Option ((yfG).X ⊕ (yjX).X):=zr ybE (yzE x) (yzo x)
def yz3:Seg:=⟨yfO,yfG,yjX,yrR⟩
def yCM:Nat→Option Seg:=fun q=>bif Nat.beq q 29 then some yz3 else yCL q
theorem yN1:FrOk Tryz.prog ⟨yqR,31,yCM⟩ yky:=(yN0).loop (sg:=yz3) ybo yzo (by decide) yNF ybE yzE (by decide) (fun _=>rfl) (fun x r _ h=>h) yPn
abbrev ygm:List Par:= [.rd tA]
abbrev yq4:List OT:= [⟨false,tA,(.pr .fz (.pr (.pr .fz .fz) (.pr (.ow (.pr (.ow (.ow .fz)) (.pr (.ow (.pr .fz (.ow .fz))) (.pr .fz (.ow .fz))))) (.pr .fz (.pr .fz (.pr .fz (.pr .fz (.pr .fz (.pr (.ow (.pr .fz (.ow .fz))) (.pr .fz (.pr .fz .fz)))))))))))⟩]
def ymy (a0:dA):Option (ResD yq4×MutD ygm) :=
 zjw (yrR ((((),()),((),()),((),()),(a0.2.2.2.2.2.2.2.2.1,()),((a0.2.2.2.2.2.2.2.2.1.length:Int),()),((),()),()),((a0.1,a0.2.1.1,a0.2.1.2,a0.2.2.1,a0.2.2.2.1,a0.2.2.2.2.1,a0.2.2.2.2.2.1,a0.2.2.2.2.2.2.1,a0.2.2.2.2.2.2.2.1,a0.2.2.2.2.2.2.2.2.1,a0.2.2.2.2.2.2.2.2.2.1,a0.2.2.2.2.2.2.2.2.2.2.1,a0.2.2.2.2.2.2.2.2.2.2.2,()),(0,0,0,(),0,0,0,0,0,(),0,false,false,()),()),(([]:List dW),()))) (fun y2 =>
 let r4:=yo9 y2.2.1.1.2.2.2.1
 some (((y2.2.1.1.1,(y2.2.1.1.2.1,y2.2.1.1.2.2.1),r4,y2.2.1.1.2.2.2.2.1,y2.2.1.1.2.2.2.2.2.1,y2.2.1.1.2.2.2.2.2.2.1,y2.2.1.1.2.2.2.2.2.2.2.1,y2.2.1.1.2.2.2.2.2.2.2.2.1,y2.2.2.1,y2.2.1.1.2.2.2.2.2.2.2.2.2.2.1,y2.2.1.1.2.2.2.2.2.2.2.2.2.2.2.1,y2.2.1.1.2.2.2.2.2.2.2.2.2.2.2.2.1),()),())) (fun y2 =>
 none)
theorem yXx (x:InD ygm):zjH ⟨yqR,31,yCM⟩ Tryz.f98.results.toList yky ygm yq4 x=ymy x.1:=by kernel_rfl
theorem ySd:ConOk Tryz.prog 98 ⟨ygm,yq4,fun x=>ymy x.1⟩:=zkh (yN1) Tryz.func98 (by kernel_rfl) (by kernel_rfl) Tryz.ntmps98.symm (by decide) (fun x r h=>(yXx x).trans h)
def yx (a0:dA):dA:=a0
theorem yVn (a0:dA) (hk:zi9 ygm (a0,())):ymy a0=(fun n=>some ((n,()),())) (yx a0):=by
 have hb:a0.2.2.2.2.2.2.2.2.1.length * 32≤2 ^ 47:=hk.1.2.2.2.2.2.2.2.2.1.1
 have h1:=zkk (step:=ybE) a0.2.2.2.2.2.2.2.2.1 (0,[]) (fun i s=>yqp a0.2.2.2.2.2.2.2.2.1 a0.2.2.2.2.2.2.2.2.1.length i a0 ypa s) (fun s x=>s++ [x]) (fun i s=>s.length=i) (fun s=> .inl (yMy a0 ypa s)) (fun i s hi hs=>⟨by
   simp only [ybE,yqp,yqC,zjI (show (i:Int) < a0.2.2.2.2.2.2.2.2.1.length by omega),cond_true,wr (show -9223372036854775808≤(i:Int)+1 by omega) (by omega),Int.natCast_add,Int.natCast_one,Int.toNat_natCast,zkO hi,zjW,yi,zkV]
   rw [zkw.2 (show (s.length+ [a0.2.2.2.2.2.2.2.2.1.getD i (0,[])].length) * 32≤140737488355328 by simp only [List.length_cons,List.length_nil]; omega)]; rfl,by simp [hs]⟩) (fun s hs=>by simp only [ybE,yqp,yqC,zkm (Int.le_refl _),cond_false]) [] rfl 18446744073709551616 (by omega)
 rw [yt9]at h1
 unfold ymy yx
 rw [show yrR (yMD a0.2.2.2.2.2.2.2.2.1 a0.2.2.2.2.2.2.2.2.1.length a0 ypa [])=_ from h1]; rfl
def ymn:Con:=⟨ygm,yq4,fun x=>(fun n=>some ((n,()),())) (yx x.1)⟩
theorem ywA:ConOk Tryz.prog 98 ymn:=(ySd).mono (fun x r hk h=>(yVn x.1 hk).trans h)
end
section
def yJe:Code:=(Tryz.f102.body).getD .skip
def yJD:Env:=zki TT [] []
theorem yQz:FrOk Tryz.prog ⟨yJD,4,fun _=>none⟩ yJe:=zkp yb yc trivial
def yTk:Nat→Option Seg:=fun _=>none
abbrev ym9:List Par:= [.rd tB]
abbrev yta:List OT:= [⟨false,tI,.fz⟩]
def ywK (a0:Bool):Option (ResD yta×MutD ym9) :=
 bif a0 then
 some ((0,()),())
 else
 some ((6,()),())
theorem y0j (x:InD ym9):zjH ⟨yJD,4,yTk⟩ Tryz.f102.results.toList yJe ym9 yta x=ywK x.1:=by kernel_rfl
theorem yVR:ConOk Tryz.prog 102 ⟨ym9,yta,fun x=>ywK x.1⟩:=zkh (yQz) Tryz.func102 (by kernel_rfl) (by kernel_rfl) Tryz.ntmps102.symm (by decide) (fun x r h=>(y0j x).trans h)
def ytF (a0:Bool):Int :=
 bif a0 then
 0
 else
 6
def yGi:Con:=⟨ym9,yta,fun x=>(fun n=>some ((n,()),())) (ytF x.1)⟩
theorem yYd (a0:Bool):ywK a0=(fun n=>some ((n,()),())) (ytF a0):=zkS (p:=fun (n:Int)=>((n,()),())) (zkx (p:=fun (n:Int)=>((n,()),())) rfl rfl)
theorem yZn:ConOk Tryz.prog 102 yGi:=(yVR).mono (fun x r _ h=>(yYd x.1).trans h)
end
section
def yJk:Code:=(Tryz.f121.body).getD .skip
def yJJ:Env:=zki TT [(134,ylh)] []
theorem yQV:FrOk Tryz.prog ⟨yJJ,12,fun _=>none⟩ yJk:=zkp yb yc ⟨ytL,trivial⟩
def yTq:Nat→Option Seg:=fun _=>none
abbrev ynf:List Par:= [.rd tG]
abbrev yto:List OT:= [⟨false,tI,.fz⟩]
def ywQ (a0:dG):Option (ResD yto×MutD ynf) :=
 let r1:=yf a0
 bif (!r1) then
 some ((0,()),())
 else
 some (((IntKind.i64.wrap (a0.2 * (IntKind.i64.wrap (a0.1 - 1)))),()),())
theorem y0x (x:InD ynf):zjH ⟨yJJ,12,yTq⟩ Tryz.f121.results.toList yJk ynf yto x=ywQ x.1:=by kernel_rfl
theorem yV5:ConOk Tryz.prog 121 ⟨ynf,yto,fun x=>ywQ x.1⟩:=zkh (yQV) Tryz.func121 (by kernel_rfl) (by kernel_rfl) Tryz.ntmps121.symm (by decide) (fun x r h=>(y0x x).trans h)
def yP (a0:dG):Int :=
 let r1:=yf a0
 bif (!r1) then
 0
 else
 (IntKind.i64.wrap (a0.2 * (IntKind.i64.wrap (a0.1 - 1))))
def yv7:Con:=⟨ynf,yto,fun x=>(fun n=>some ((n,()),())) (yP x.1)⟩
theorem yYr (a0:dG):ywQ a0=(fun n=>some ((n,()),())) (yP a0):=zkS (p:=fun (n:Int)=>((n,()),())) (zkx (p:=fun (n:Int)=>((n,()),())) rfl rfl)
theorem yIs:ConOk Tryz.prog 121 yv7:=(yV5).mono (fun x r _ h=>(yYr x.1).trans h)
theorem yZO (a:Int×Int):0≤yP a∧yP a≤32:=by
 unfold yP
 cases h:yf a
 ·simp
 ·obtain ⟨⟨h1,h2⟩,h3,h4⟩:=yo.1 h
  have h5:0≤a.2 * (a.1 - 1):=Int.mul_nonneg (by omega) (by omega)
  have h6:a.2 * (a.1 - 1)≤8 * 4:=Int.mul_le_mul h4 (by omega) (by omega) (by omega)
  simp only [Bool.not_true,cond_false,wr (show -9223372036854775808≤a.1 - 1 by omega) (by omega),wr (show -9223372036854775808≤a.2 * (a.1 - 1) by omega) (by omega)]
  omega
theorem yZN {a:Int×Int} (h:yf a=true):yP a=a.2 * (a.1 - 1):=by
 unfold yP
 obtain ⟨⟨h1,h2⟩,h3,h4⟩:=yo.1 h
 have h5:0≤a.2 * (a.1 - 1):=Int.mul_nonneg (by omega) (by omega)
 have h6:a.2 * (a.1 - 1)≤8 * 4:=Int.mul_le_mul h4 (by omega) (by omega) (by omega)
 simp only [h,Bool.not_true,cond_false,wr (show -9223372036854775808≤a.1 - 1 by omega) (by omega),wr (show -9223372036854775808≤a.2 * (a.1 - 1) by omega) (by omega)]
def ym (l:List dW) (s:Int):Int:=yB (fun e:dW=>e.1==s) l
def ytC (g:dG) (b:Int):Bool:=leb 0 b&&leb b (yP g - 1)
def yfB (g:dG) (b:Int):Int:=bif ytC g b then b.tdiv (g.1 - 1) else -1
def yuX (g:dG) (b:Int):Int:=bif ytC g b then b.tmod (g.1 - 1) else -1
theorem yFW {g:dG} {b:Int} (h:ytC g b=true):yf g=true∧(0≤b.tdiv (g.1 - 1)∧b.tdiv (g.1 - 1)≤g.2 - 1)∧(0≤b.tmod (g.1 - 1)∧b.tmod (g.1 - 1)≤g.1 - 2):=by
 simp only [ytC,Bool.and_eq_true,zjQ]at h
 cases hg:yf g
 ·have:yP g=0:=by unfold yP; rw [hg]; rfl
  omega
 ·rw [yZN hg]at h
  have h2:=yo.1 hg
  rw [Int.tdiv_eq_ediv_of_nonneg h.1,Int.tmod_eq_emod_of_nonneg h.1]
  have h3:=Int.ediv_lt_of_lt_mul (show 0 < g.1 - 1 by omega) (show b < g.2 * (g.1 - 1) by omega)
  have h4:=Int.ediv_nonneg h.1 (show 0≤g.1 - 1 by omega)
  have h5:=Int.emod_nonneg b (show g.1 - 1≠0 by omega)
  have h6:=Int.emod_lt_of_pos b (show 0 < g.1 - 1 by omega)
  exact ⟨rfl,⟨h4,by omega⟩,h5,by omega⟩
theorem y3n {g:dG} {b:Int} (h:ytC g b=true):yK g (yfB g b)=true:=by
 obtain ⟨h1,h2,_⟩:=yFW h
 unfold yfB
 rw [h,cond_true,ycv]
 exact ⟨h1,h2⟩
def yuP (a:dA) (b:Int):Int:=bif !(yp a) then 1 else bif a.2.2.2.2.2.2.2.2.2.2.1 then 6 else bif ytC a.2.1 b then 0 else 2
def yeT (a:dA) (s:Int):List Int×Bool:=bif leb 0 (ym a.2.2.2.2.2.2.2.2.1 s) then ((nth a.2.2.2.2.2.2.2.2.1 (ym a.2.2.2.2.2.2.2.2.1 s) (0,[])).2,true) else bif a.2.2.2.2.2.2.2.2.2.2.2 then ([],false) else yIG a s
def y5L (a:dA) (b:Int):Int×Int:=bif yuP a b !=0 then (0,yuP a b) else bif (yeT a (yfB a.2.1 b)).2 then (nth (yeT a (yfB a.2.1 b)).1 (yuX a.2.1 b) 0,0) else (0,5)
theorem y5C {a:dA} {b:Int} (h:yuP a b=0):yp a=true∧ytC a.2.1 b=true∧a.2.2.2.2.2.2.2.2.2.2.1=false:=by
 unfold yuP at h
 cases ha:yp a
 ·rw [ha]at h; exact absurd (show (1:Int)=0 from h) (by decide)
 ·rw [ha]at h
  cases hd:a.2.2.2.2.2.2.2.2.2.2.1
  ·rw [hd]at h
   cases hb:ytC a.2.1 b
   ·rw [hb]at h; exact absurd (show (2:Int)=0 from h) (by decide)
   ·exact ⟨rfl,rfl,rfl⟩
  ·rw [hd]at h; exact absurd (show (6:Int)=0 from h) (by decide)
theorem y4j {a:dA} (h:yp a=true) {i:Nat} (hi:i < a.2.2.2.2.2.2.2.2.1.length):(0≤(nth a.2.2.2.2.2.2.2.2.1 i (0,[])).1∧(nth a.2.2.2.2.2.2.2.2.1 i (0,[])).1≤a.2.1.2 - 1)∧((nth a.2.2.2.2.2.2.2.2.1 i (0,[])).2.length:Int)=a.2.1.1 - 1∧(nth a.2.2.2.2.2.2.2.2.1 i (0,[])).2.all isW=true∧(0 < i→(nth a.2.2.2.2.2.2.2.2.1 ((i - 1:Nat):Int) (0,[])).1 < (nth a.2.2.2.2.2.2.2.2.1 i (0,[])).1):=by
 have h1:yaK a.2.1 a.2.2.2.2.2.2.2.2.1=true:=by simp only [yp,Bool.and_eq_true]at h; exact h.2.2.2.1
 simp only [yaK,Bool.not_eq_true',List.any_eq_false,List.mem_range]at h1
 have h2:=h1 i hi
 simp only [yhS,Bool.not_eq_true,Bool.or_eq_false_iff,Bool.not_eq_false',bne_eq_false_iff_eq,Bool.and_eq_true,Bool.and_eq_false_iff,decide_eq_false_iff_not,zjQ]at h2
 refine ⟨h2.1,h2.2.1,h2.2.2.1,fun h0=> ?_⟩
 rcases h2.2.2.2 with h3 | h3
 ·exact absurd h0 h3
 ·have:=mt zk0 (by rw [h3]; simp: ¬ leb (nth a.2.2.2.2.2.2.2.2.1 i (0,[])).1 (nth a.2.2.2.2.2.2.2.2.1 ((i - 1:Nat):Int) (0,[])).1=true)
  omega
theorem y1T {a:dA} {s:Int} (h:yp a=true) (hs:yK a.2.1 s=true) (h2:(yeT a s).2=true):((yeT a s).1.length:Int)=a.2.1.1 - 1:=by
 have hg:=yo.1 (yaZ h)
 unfold yeT at h2 ⊢
 cases hk:leb 0 (ym a.2.2.2.2.2.2.2.2.1 s)
 ·rw [hk]at h2
  simp only [cond_false]at h2 ⊢
  cases hb:a.2.2.2.2.2.2.2.2.2.2.2
  ·rw [hb]at h2
   simp only [cond_false]at h2 ⊢
   unfold yIG at h2 ⊢
   cases hw:(yhw a s).2
   ·rw [hw]at h2; cases h2
   ·simp only [cond_true,List.length_map,List.length_range]; omega
  ·rw [hb]at h2; cases h2
 ·have h3:=zjP.1 (yua (d:=((0,[]):dW)) hk).1
  have:=(y4j h (i:=(ym a.2.2.2.2.2.2.2.2.1 s).toNat) (by unfold ym; omega)).2.1
  rw [show (((ym a.2.2.2.2.2.2.2.2.1 s).toNat:Nat):Int)=ym a.2.2.2.2.2.2.2.2.1 s by have:=zjQ.1 hk; omega]at this
  exact this
theorem y3O (g:dG) (b:Int):ya b 0 (IntKind.i64.wrap (yP g - 1))=ytC g b:=by
 have:=yZO g
 rw [wr (by omega) (by omega),yff]; rfl
end
section
def yG8:Code:=(Tryz.f226.body).getD .skip
def yHH:Env:=zki TT [(134,ylh),(135,yn)] []
theorem yOr:FrOk Tryz.prog ⟨yHH,60,fun _=>none⟩ yG8:=zkp yb yc ⟨ytL,yr,trivial⟩
def yPZ:Nat→Option Seg:=fun _=>none
abbrev yk0:List Par:= [.rd tS]
abbrev yrj:List OT:= [⟨false,tB,.fz⟩]
def yuw (a0:dS):Option (ResD yrj×MutD yk0) :=
 let r1:=yf (a0.2.2.2.1,a0.2.2.2.2.1)
 bif (!(!r1)) then
 let r2:=ya a0.1 1 60000
 bif (!(!r2)) then
 let r3:=ya a0.2.1 0 60000
 bif (!(!r3)) then
 let r4:=ya a0.2.2.1 0 (IntKind.i64.wrap (a0.2.2.2.1 - 1))
 bif (!(!r4)) then
 let r5:=ya a0.2.2.2.2.2.1 0 60000
 bif (!r5) then
 some ((false,()),())
 else
 let r6:=ya a0.2.2.2.2.2.2.1 (-1) (IntKind.i64.wrap (a0.2.2.2.1 - 1))
 bif r6 then
 let r7:=ya a0.2.2.2.2.2.2.2 0 a0.2.2.2.2.1
 bif r7 then
 bif (!(leb 0 a0.2.2.2.2.2.2.1)) then
 some (((a0.2.2.2.2.2.2.2==0),()),())
 else
 some ((true,()),())
 else
 some ((false,()),())
 else
 some ((false,()),())
 else
 some ((false,()),())
 else
 some ((false,()),())
 else
 some ((false,()),())
 else
 some ((false,()),())
theorem yXN (x:InD yk0):zjH ⟨yHH,60,yPZ⟩ Tryz.f226.results.toList yG8 yk0 yrj x=yuw x.1:=by kernel_rfl
theorem ySt:ConOk Tryz.prog 226 ⟨yk0,yrj,fun x=>yuw x.1⟩:=zkh (yOr) Tryz.func226 (by kernel_rfl) (by kernel_rfl) Tryz.ntmps226.symm (by decide) (fun x r h=>(yXN x).trans h)
def ycu (a0:dS):Bool :=
 let r1:=yf (a0.2.2.2.1,a0.2.2.2.2.1)
 bif (!(!r1)) then
 let r2:=ya a0.1 1 60000
 bif (!(!r2)) then
 let r3:=ya a0.2.1 0 60000
 bif (!(!r3)) then
 let r4:=ya a0.2.2.1 0 (IntKind.i64.wrap (a0.2.2.2.1 - 1))
 bif (!(!r4)) then
 let r5:=ya a0.2.2.2.2.2.1 0 60000
 bif (!r5) then
 false
 else
 let r6:=ya a0.2.2.2.2.2.2.1 (-1) (IntKind.i64.wrap (a0.2.2.2.1 - 1))
 bif r6 then
 let r7:=ya a0.2.2.2.2.2.2.2 0 a0.2.2.2.2.1
 bif r7 then
 bif (!(leb 0 a0.2.2.2.2.2.2.1)) then
 (a0.2.2.2.2.2.2.2==0)
 else
 true
 else
 false
 else
 false
 else
 false
 else
 false
 else
 false
 else
 false
def yDJ:Con:=⟨yk0,yrj,fun x=>(fun n=>some ((n,()),())) (ycu x.1)⟩
theorem yVD (a0:dS):yuw a0=(fun n=>some ((n,()),())) (ycu a0):=zkS (p:=fun (n:Bool)=>((n,()),())) (zkx (p:=fun (n:Bool)=>((n,()),())) (zkx (p:=fun (n:Bool)=>((n,()),())) (zkx (p:=fun (n:Bool)=>((n,()),())) (zkx (p:=fun (n:Bool)=>((n,()),())) (zkx (p:=fun (n:Bool)=>((n,()),())) rfl (zkx (p:=fun (n:Bool)=>((n,()),())) (zkx (p:=fun (n:Bool)=>((n,()),())) (zkx (p:=fun (n:Bool)=>((n,()),())) rfl rfl) rfl) rfl)) rfl) rfl) rfl) rfl)
theorem yWz:ConOk Tryz.prog 226 yDJ:=(ySt).mono (fun x r _ h=>(yVD x.1).trans h)
abbrev yYI:dS:=(0,0,0,0,0,0,0,0)
theorem y3o {s:dS}:ycu s=true↔yf (s.2.2.2.1,s.2.2.2.2.1)=true∧(1≤s.1∧s.1≤60000)∧(0≤s.2.1∧s.2.1≤60000)∧(0≤s.2.2.1∧s.2.2.1≤s.2.2.2.1 - 1)∧(0≤s.2.2.2.2.2.1∧s.2.2.2.2.2.1≤60000)∧(-1≤s.2.2.2.2.2.2.1∧s.2.2.2.2.2.2.1≤s.2.2.2.1 - 1)∧(0≤s.2.2.2.2.2.2.2∧s.2.2.2.2.2.2.2≤s.2.2.2.2.1)∧(0≤s.2.2.2.2.2.2.1∨s.2.2.2.2.2.2.2=0):=by
 unfold ycu
 cases hg:yf (s.2.2.2.1,s.2.2.2.2.1)
 ·simp
 have hg2:=yo.1 hg
 simp only at hg2
 rw [wr (show -9223372036854775808≤s.2.2.2.1 - 1 by omega) (by omega)]
 simp only [Bool.not_not,cond_true,true_and]
 simp only [← ysL]
 cases ya s.1 1 60000
 ·simp
 cases ya s.2.1 0 60000
 ·simp
 cases ya s.2.2.1 0 (s.2.2.2.1 - 1)
 ·simp
 cases ya s.2.2.2.2.2.1 0 60000
 ·simp
 cases ya s.2.2.2.2.2.2.1 (-1) (s.2.2.2.1 - 1)
 ·simp
 cases ya s.2.2.2.2.2.2.2 0 s.2.2.2.2.1
 ·simp
 cases hl:leb 0 s.2.2.2.2.2.2.1
 ·have:=mt zk0 (by rw [hl]; simp: ¬ leb 0 s.2.2.2.2.2.2.1=true)
  simp [this]
 ·simp [zjQ.1 hl]
def y3x (l:List Int):dS:=(nth l 1 0,nth l 2 0,nth l 3 0,nth l 4 0,nth l 5 0,nth l 6 0,IntKind.i64.wrap (nth l 7 0 - 1),nth l 8 0)
def y2G (l:List Int):dS×Bool:=bif (l.length:Int)==9&&(nth l 0 0==21317&&ycu (y3x l)) then (y3x l,true) else (yYI,false)
def y4g (m:dM) (i:Int):dS:=(y2G (ynI m i).1).1
def y11 (m:dM) (id i:Int):Bool:=(ynI m i).2&&((y2G (ynI m i).1).2&&((y4g m i).1==id&&(y4g m i).2.1.tmod 2==i))
def y1Z (b:dS×Bool) (ok:Bool) (s:dS):dS×Bool:=bif ok&&(!b.2||ltb b.1.2.1 s.2.1) then (s,true) else b
def yy3 (m:dM) (id:Int):dS×Bool:=(List.range 2).foldl (fun s (i:Nat)=>y1Z s (y11 m id i) (y4g m i)) (yYI,false)
def y4D (m:dM) (i id:Int):Bool:= !m.2.2.1&&((yy3 m id).2&&(yy3 m id).1.2.2.1==i)
def yTS (l:List dM) (id:Int):dS×Bool:=(List.range l.length).foldl (fun s (i:Nat)=>y1Z s (y4D (nth l i yh) i id) (yy3 (nth l i yh) id).1) (yYI,false)
def y4H (l:List dM) (id:Int) (s:Int×Int×Bool) (i:Nat):Int×Int×Bool:=bif y4D (nth l i yh) i id then s else bif s.1== -1||s.1==i then ((i:Int),0,s.2.2) else (s.1,s.2.1,true)
def y43 (b:dS) (l:List dM) (id:Int) (s:Int×Int×Bool):dA:=(id,(b.2.2.2.1,b.2.2.2.2.1),l,s.1,s.2.1,b.2.2.2.2.2.1,b.2.2.2.2.2.1,b.2.1,[],-1,false,s.2.2)
def y3N (l:List dM) (id:Int):dA:=y43 (yTS l id).1 l id ((List.range l.length).foldl (y4H l id) ((yTS l id).1.2.2.2.2.2.2.1,(yTS l id).1.2.2.2.2.2.2.2,false))
def y5H (l:List dM) (id:Int):dA×Bool:=bif (yTS l id).2&&((l.length:Int)==(yTS l id).1.2.2.2.1&&yp (y3N l id)) then (y3N l id,true) else (ypa,false)
theorem y4f (b:dS×Bool) (s:dS):y1Z b false s=b:=rfl
theorem y3i {m:dM} {i:Int} (h:(ynI m i).2=true):yu m=true:=by
 unfold ynI at h
 cases hc:yXt m i
 ·rw [hc]at h; cases h
 ·exact (Bool.and_eq_true_iff.1 hc).1
theorem y4h {m:dM} {id i:Int} (h:yu m=false):y11 m id i=false:=by
 unfold y11
 cases hr:(ynI m i).2
 ·rfl
 ·rw [y3i hr]at h; cases h
theorem y5I {m:dM} {id:Int} (h:(yy3 m id).2=true):yu m=true:=by
 cases hm:yu m
 ·unfold yy3 at h
  simp only [y4h hm,y4f]at h
  exact h
 ·rfl
end
end
end Go.Tf
