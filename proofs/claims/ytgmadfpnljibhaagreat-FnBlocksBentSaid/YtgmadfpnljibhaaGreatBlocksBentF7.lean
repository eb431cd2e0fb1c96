/- Functions of the program, and what they come to. -/
import Derived.Test.YtgmadfpnljibhaaGreatBlocksBentF6
namespace Go.Tf
noncomputable section
open Go.Proofs
set_option synthInstance.maxHeartbeats 400000
set_option synthInstance.maxSize 10000
set_option linter.unusedVariables false
set_option linter.unusedSimpArgs false
set_option maxRecDepth 100000
section
def ySg:Code:=(Tryz.f263.body).getD .skip
def ySi:Env:=zj3 TT [] []
theorem y0K:FrOk Tryz.prog ⟨ySi,31,fun _=>none⟩ ySg:=zj7 yb yc trivial
def y2V:Nat→Option Seg:=fun _=>none
abbrev ytS:List Par:= [.pt tA (.pr .fz (.pr (.pr .fz .fz) (.pr (.ow (.pr (.ow .fz) (.pr (.ow (.pr .fz .fz)) (.pr .fz (.ow .fz))))) (.pr .fz (.pr .fz (.pr .fz (.pr .fz (.pr .fz (.pr (.ow (.pr .fz .fz)) (.pr .fz (.pr .fz .fz)))))))))))]
abbrev yz3:List OT:= [⟨false,tB,.fz⟩]
def yBL (a0:dA):Option (ResD yz3×MutD ytS) :=
 bif a0.2.2.2.2.2.2.2.2.2.2.1 then
 some ((false,()),(a0,()))
 else
 bif (a0.2.2.2.2.2.2.2.2.2.1==0) then
 some ((false,()),((a0.1,a0.2.1,a0.2.2.1,a0.2.2.2.1,a0.2.2.2.2.1,a0.2.2.2.2.2.1,a0.2.2.2.2.2.2.1,a0.2.2.2.2.2.2.2.1,a0.2.2.2.2.2.2.2.2.1,(-1),true,a0.2.2.2.2.2.2.2.2.2.2.2),()))
 else
 bif (ltb 0 a0.2.2.2.2.2.2.2.2.2.1) then
 some ((true,()),((a0.1,a0.2.1,a0.2.2.1,a0.2.2.2.1,a0.2.2.2.2.1,a0.2.2.2.2.2.1,a0.2.2.2.2.2.2.1,a0.2.2.2.2.2.2.2.1,a0.2.2.2.2.2.2.2.2.1,(IntKind.i64.wrap (a0.2.2.2.2.2.2.2.2.2.1 - 1)),a0.2.2.2.2.2.2.2.2.2.2),()))
 else
 some ((true,()),(a0,()))
theorem y5q (x:InD ytS):zjx ⟨ySi,31,y2V⟩ Tryz.f263.results.toList ySg ytS yz3 x=yBL x.1:=by kernel_rfl
theorem y33:ConOk Tryz.prog 263 ⟨ytS,yz3,fun x=>yBL x.1⟩:=zj2 (y0K) Tryz.func263 (by kernel_rfl) (by kernel_rfl) Tryz.ntmps263.symm (by decide) (fun x r h=>(y5q x).trans h)
def yt0 (a0:dA):Bool×dA :=
 bif a0.2.2.2.2.2.2.2.2.2.2.1 then
 (false,a0)
 else
 bif (a0.2.2.2.2.2.2.2.2.2.1==0) then
 (false,(a0.1,a0.2.1,a0.2.2.1,a0.2.2.2.1,a0.2.2.2.2.1,a0.2.2.2.2.2.1,a0.2.2.2.2.2.2.1,a0.2.2.2.2.2.2.2.1,a0.2.2.2.2.2.2.2.2.1,(-1),true,a0.2.2.2.2.2.2.2.2.2.2.2))
 else
 bif (ltb 0 a0.2.2.2.2.2.2.2.2.2.1) then
 (true,(a0.1,a0.2.1,a0.2.2.1,a0.2.2.2.1,a0.2.2.2.2.1,a0.2.2.2.2.2.1,a0.2.2.2.2.2.2.1,a0.2.2.2.2.2.2.2.1,a0.2.2.2.2.2.2.2.2.1,(IntKind.i64.wrap (a0.2.2.2.2.2.2.2.2.2.1 - 1)),a0.2.2.2.2.2.2.2.2.2.2))
 else
 (true,a0)
def yBw:Con:=⟨ytS,yz3,fun x=>(fun n=>some ((n.1,()),(n.2,()))) (yt0 x.1)⟩
theorem y46 (a0:dA):yBL a0=(fun n=>some ((n.1,()),(n.2,()))) (yt0 a0):=zkq (p:=fun (n:Bool×dA)=>((n.1,()),(n.2,()))) (zkc (p:=fun (n:Bool×dA)=>((n.1,()),(n.2,()))) rfl (zkc (p:=fun (n:Bool×dA)=>((n.1,()),(n.2,()))) rfl (zkc (p:=fun (n:Bool×dA)=>((n.1,()),(n.2,()))) rfl rfl)))
theorem yPp:ConOk Tryz.prog 263 yBw:=(y33).mono (fun x r _ h=>(y46 x.1).trans h)
theorem yZS (a:dA):yt0 a=opA a:=by kernel_rfl
end
section
def yer:Code:=(Tryz.f152.body).getD .skip
def yiR:Env:=zj3 TT [] [(21056,.fz),(21120,.fz),(37952,(.pr .fz .fz)),(38016,(.pr .fz .fz))]
theorem yTy:FrOk Tryz.prog ⟨yiR,60,fun _=>none⟩ yer:=zj7 yb yc trivial
def yGq:Nat→Option Seg:=fun _=>none
def ycJ:Shape:=⟨[(1,false,[.ptr 0 0]),(2,false,[.ptr 64 0]),(3,false,[.ptr 4544 0]),(4,false,[.int .i64])],[(0,[.br tL,.br tW,.bool,.br tI]),(64,[.nil,.nil,.bool,.nil]),(4544,[.at 800000001,.nil,.bool,.at 800000000])],[(800000001,tL,.fz),(800000000,tI,.fz)]⟩
def yh7:Shape:=⟨[(1,false,[.ptr 0 0]),(2,false,[.ptr 64 0]),(3,false,[.ptr 4544 0]),(4,false,[.ci .i64 0])],[(0,[.br tL,.br tW,.bool,.br tI]),(64,[.nil,.nil,.bool,.nil]),(4544,[.at 800000001,.nil,.bool,.at 800000000])],[(800000001,tL,.fz),(800000000,tI,.fz)]⟩
def yhV:Shape:=⟨[(1,false,[.ptr 0 0]),(2,false,[.ptr 64 0]),(3,false,[.ptr 4544 0])],[(0,[.br tL,.br tW,.bool,.br tI]),(64,[.nil,.nil,.bool,.nil]),(4544,[.at 800000000,.nil,.bool,.at 800000001])],[(800000000,tL,.fz),(800000001,tI,.fz)]⟩
def ynb:Shape:=⟨[],[],[]⟩
abbrev ytp (v0:Int) (v1 v2 v3:dM):(ycJ).X:=((((),()),((),()),((),()),(v0,()),()),((v1.1,v1.2.1,v1.2.2.1,v1.2.2.2,()),((),(),v2.2.2.1,(),()),((),(),v3.2.2.1,(),()),()),(v3.1,v3.2.2.2,()))
abbrev yRd (v0 v1 v2:dM):(yh7).X:=((((),()),((),()),((),()),((),()),()),((v0.1,v0.2.1,v0.2.2.1,v0.2.2.2,()),((),(),v1.2.2.1,(),()),((),(),v2.2.2.1,(),()),()),(v2.1,v2.2.2.2,()))
abbrev yC6 (v0 v1 v2:dM):(yhV).X:=((((),()),((),()),((),()),()),((v0.1,v0.2.1,v0.2.2.1,v0.2.2.2,()),((),(),v1.2.2.1,(),()),((),(),v2.2.2.1,(),()),()),(v2.1,v2.2.2.2,()))
def ytH (v0:Int) (v1:List (List Int)) (v2:List dW) (v3:Bool) (v4:List Int) (v5 v6:Bool) (v7:List (List Int)) (v8:List Int):Option ((ycJ).X ⊕ ((yhV).X ⊕ (ynb).X)) :=
 bif (ltb v0 (v1.length:Int)) then
 bif (inb v0 v1.length) then
 bif (zjR ([]:List Int).length (nth v1 v0 []).length 8) then
 bif (zjR v7.length ([(([]:List Int)++(nth v1 v0 []))]:List (List Int)).length 24) then
 some (.inl ((((),()),((),()),((),()),((IntKind.i64.wrap (v0+1)),()),()),((v1,v2,v3,v4,()),((),(),v5,(),()),((),(),v6,(),()),()),((v7++([(([]:List Int)++(nth v1 v0 []))]:List (List Int))),v8,())))
 else none
 else none
 else none
 else
 some (.inr (.inl ((((),()),((),()),((),()),()),((v1,v2,v3,v4,()),((),(),v5,(),()),((),(),v6,(),()),()),(v7,v8,()))))
def ydl (x:(ycJ).X):=ytH x.1.2.2.2.1.1 x.2.1.1.1 x.2.1.1.2.1 x.2.1.1.2.2.1 x.2.1.1.2.2.2.1 x.2.1.2.1.2.2.1 x.2.1.2.2.1.2.2.1 x.2.2.1 x.2.2.2.1
def yCL (x:(yh7).X):(ycJ).X:=((((),()),((),()),((),()),(0,()),()),((x.2.1.1.1,x.2.1.1.2.1,x.2.1.1.2.2.1,x.2.1.1.2.2.2.1,()),((),(),x.2.1.2.1.2.2.1,(),()),((),(),x.2.1.2.2.1.2.2.1,(),()),()),(x.2.2.1,x.2.2.2.1,()))
def yEf:Code:=(zdD yer 64 116).getD .skip
theorem ySK:zdD yer 64 29=some (.block 0 (.loop yEf)):=by kernel_rfl
theorem yVE (x:(ycJ).X):zg0 ⟨yiR,60,yGq⟩ 0 yEf 116 ycJ yhV ynb x=ydl x:=by kernel_rfl
def yCX (x:(yh7).X):Nat:=18446744073709551616
def yu9 (x:(yh7).X):Option ((yhV).X ⊕ (ynb).X):=zz ydl (yCX x) (yCL x)
def yDf:Seg:=⟨yh7,yhV,ynb,yu9⟩
def ywr:Nat→Option Seg:=fun q=>bif Nat.beq q 29 then some yDf else yGq q
theorem yTz:FrOk Tryz.prog ⟨yiR,60,ywr⟩ yer:=(yTy).loop (sg:=yDf) ycJ yCL (by decide) ySK ydl yCX (by decide) (fun _=>rfl) (fun x r _ h=>h) yVE
def ycK:Shape:=⟨[(1,false,[.ptr 0 0]),(2,false,[.ptr 64 0]),(3,false,[.ptr 4544 0]),(5,false,[.int .i64])],[(0,[.br tL,.br tW,.bool,.br tI]),(64,[.nil,.nil,.bool,.nil]),(4544,[.at 800000000,.at 800000002,.bool,.at 800000001])],[(800000000,tL,.fz),(800000002,tW,(.pr .fz .fz)),(800000001,tI,.fz)]⟩
def yh8:Shape:=⟨[(1,false,[.ptr 0 0]),(2,false,[.ptr 64 0]),(3,false,[.ptr 4544 0]),(5,false,[.ci .i64 0])],[(0,[.br tL,.br tW,.bool,.br tI]),(64,[.nil,.nil,.bool,.nil]),(4544,[.at 800000000,.at 800000002,.bool,.at 800000001])],[(800000000,tL,.fz),(800000002,tW,(.pr .fz .fz)),(800000001,tI,.fz)]⟩
def yhW:Shape:=⟨[(2,false,[.ptr 64 0]),(3,false,[.ptr 4544 0])],[(64,[.nil,.nil,.bool,.nil]),(4544,[.at 800000000,.at 800000001,.bool,.at 800000002])],[(800000000,tL,.fz),(800000001,tW,(.pr .fz .fz)),(800000002,tI,.fz)]⟩
def ync:Shape:=⟨[],[],[]⟩
abbrev ytq (v0:Int) (v1 v2 v3:dM):(ycK).X:=((((),()),((),()),((),()),(v0,()),()),((v1.1,v1.2.1,v1.2.2.1,v1.2.2.2,()),((),(),v2.2.2.1,(),()),((),(),v3.2.2.1,(),()),()),(v3.1,v3.2.1,v3.2.2.2,()))
abbrev yRe (v0 v1 v2:dM):(yh8).X:=((((),()),((),()),((),()),((),()),()),((v0.1,v0.2.1,v0.2.2.1,v0.2.2.2,()),((),(),v1.2.2.1,(),()),((),(),v2.2.2.1,(),()),()),(v2.1,v2.2.1,v2.2.2.2,()))
abbrev yC7 (v0 v1:dM):(yhW).X:=((((),()),((),()),()),(((),(),v0.2.2.1,(),()),((),(),v1.2.2.1,(),()),()),(v1.1,v1.2.1,v1.2.2.2,()))
def ytI (v0:Int) (v1:List (List Int)) (v2:List dW) (v3:Bool) (v4:List Int) (v5 v6:Bool) (v7:List (List Int)) (v8:List dW) (v9:List Int):Option ((ycK).X ⊕ ((yhW).X ⊕ (ync).X)) :=
 bif (ltb v0 (v2.length:Int)) then
 bif (inb v0 v2.length) then
 bif (inb v0 v2.length) then
 bif (zjR ([]:List Int).length ((nth v2 v0 (0,[])).2).length 8) then
 bif (zjR v8.length ([((nth v2 v0 (0,[])).1,(([]:List Int)++((nth v2 v0 (0,[])).2)))]:List dW).length 32) then
 some (.inl ((((),()),((),()),((),()),((IntKind.i64.wrap (v0+1)),()),()),((v1,v2,v3,v4,()),((),(),v5,(),()),((),(),v6,(),()),()),(v7,(v8++([((nth v2 v0 (0,[])).1,(([]:List Int)++((nth v2 v0 (0,[])).2)))]:List dW)),v9,())))
 else none
 else none
 else none
 else none
 else
 some (.inr (.inl ((((),()),((),()),()),(((),(),v5,(),()),((),(),v6,(),()),()),(v7,v8,v9,()))))
def ydm (x:(ycK).X):=ytI x.1.2.2.2.1.1 x.2.1.1.1 x.2.1.1.2.1 x.2.1.1.2.2.1 x.2.1.1.2.2.2.1 x.2.1.2.1.2.2.1 x.2.1.2.2.1.2.2.1 x.2.2.1 x.2.2.2.1 x.2.2.2.2.1
def yCM (x:(yh8).X):(ycK).X:=((((),()),((),()),((),()),(0,()),()),((x.2.1.1.1,x.2.1.1.2.1,x.2.1.1.2.2.1,x.2.1.1.2.2.2.1,()),((),(),x.2.1.2.1.2.2.1,(),()),((),(),x.2.1.2.2.1.2.2.1,(),()),()),(x.2.2.1,x.2.2.2.1,x.2.2.2.2.1,()))
def yEg:Code:=(zdD yer 64 244).getD .skip
theorem ySL:zdD yer 64 61=some (.block 2 (.loop yEg)):=by kernel_rfl
theorem yVF (x:(ycK).X):zg0 ⟨yiR,60,ywr⟩ 2 yEg 244 ycK yhW ync x=ydm x:=by kernel_rfl
def yCY (x:(yh8).X):Nat:=18446744073709551616
def yva (x:(yh8).X):Option ((yhW).X ⊕ (ync).X):=zz ydm (yCY x) (yCM x)
def yDg:Seg:=⟨yh8,yhW,ync,yva⟩
def yGr:Nat→Option Seg:=fun q=>bif Nat.beq q 61 then some yDg else ywr q
theorem yTA:FrOk Tryz.prog ⟨yiR,60,yGr⟩ yer:=(yTz).loop (sg:=yDg) ycK yCM (by decide) ySL ydm yCY (by decide) (fun _=>rfl) (fun x r _ h=>h) yVF
abbrev yi2:List Par:= [.rd tM]
abbrev yuE:List OT:= [⟨false,tM,(.pr (.ow .fz) (.pr (.ow (.pr .fz .fz)) (.pr .fz (.ow .fz))))⟩]
def yqx (a0:dM):Option (ResD yuE×MutD yi2) :=
 bif (zjR ([]:List Int).length a0.2.2.2.length 8) then
 zjZ (yu9 ((((),()),((),()),((),()),((),()),()),((a0.1,a0.2.1,a0.2.2.1,a0.2.2.2,()),((),(),false,(),()),((),(),a0.2.2.1,(),()),()),([],(([]:List Int)++a0.2.2.2),()))) (fun y0 =>
 zjZ (yva ((((),()),((),()),((),()),((),()),()),((y0.2.1.1.1,y0.2.1.1.2.1,y0.2.1.1.2.2.1,y0.2.1.1.2.2.2.1,()),((),(),y0.2.1.2.1.2.2.1,(),()),((),(),y0.2.1.2.2.1.2.2.1,(),()),()),(y0.2.2.1,[],y0.2.2.2.1,()))) (fun y1 =>
 some (((y1.2.2.1,y1.2.2.2.1,y1.2.1.2.1.2.2.1,y1.2.2.2.2.1),()),())) (fun y1 =>
 none)) (fun y0 =>
 none)
 else none
theorem y3o (x:InD yi2):zjx ⟨yiR,60,yGr⟩ Tryz.f152.results.toList yer yi2 yuE x=yqx x.1:=by kernel_rfl
theorem yY4:ConOk Tryz.prog 152 ⟨yi2,yuE,fun x=>yqx x.1⟩:=zj2 (yTA) Tryz.func152 (by kernel_rfl) (by kernel_rfl) Tryz.ntmps152.symm (by decide) (fun x r h=>(y3o x).trans h)
def yX (a0:dM):dM:=a0
theorem y1f (a0:dM) (hk:zi2 yi2 (a0,())):yqx a0=(fun n=>some ((n,()),())) (yX a0):=by
 have hb1:a0.1.length * 24≤2 ^ 47:=hk.1.1.1
 have hb2:a0.2.1.length * 32≤2 ^ 47:=hk.1.2.1.1
 have hb3:a0.2.2.2.length * 8≤2 ^ 47:=hk.1.2.2.2.1
 have hs: ∀ i,i < a0.1.length→(a0.1.getD i []).length * 8≤2 ^ 47:=fun i hi=>by rw [zke hi]; exact (hk.1.1.2 _ (List.getElem_mem hi)).1
 have hc: ∀ i,i < a0.2.1.length→(a0.2.1.getD i (0,[])).2.length * 8≤2 ^ 47:=fun i hi=>by rw [zke hi]; exact (hk.1.2.1.2 _ (List.getElem_mem hi)).2.1
 have h1:yu9 (yRd a0 noMem ([],[],a0.2.2.1,a0.2.2.2))=some (.inl (yC6 a0 noMem (a0.1,[],a0.2.2.1,a0.2.2.2))):=by
  have:=zj4 (step:=ydl) a0.1 [] (fun i s=>ytp i a0 noMem (s,[],a0.2.2.1,a0.2.2.2)) (fun s x=>s++ [x]) (fun i s=>s.length=i) (fun s=> .inl (yC6 a0 noMem (s,[],a0.2.2.1,a0.2.2.2))) (fun i s hi hs2=>⟨by
   have:=hs i hi
   simp only [ydl,ytp,ytH,zj5 (show (i:Int) < a0.1.length by omega),cond_true,wr (show -9223372036854775808≤(i:Int)+1 by omega) (by omega),Int.natCast_add,Int.natCast_one,Int.toNat_natCast,zkm hi,zkn,List.nil_append]
   rw [zkb.2 (show (([]:List Int).length+(a0.1.getD i []).length) * 8≤140737488355328 by rw [List.length_nil]; omega),zkb.2 (show (s.length+ [a0.1.getD i []].length) * 24≤140737488355328 by simp only [List.length_cons,List.length_nil]; omega)]; rfl,by simp [hs2]⟩) (fun s _=>by simp only [ydl,ytp,ytH,zky (Int.le_refl _),cond_false]) [] rfl 18446744073709551616 (by omega)
  rw [yvo]at this
  exact this
 have h2:yva (yRe a0 noMem (a0.1,[],a0.2.2.1,a0.2.2.2))=some (.inl (yC7 noMem a0)):=by
  have:=zj4 (step:=ydm) a0.2.1 (0,[]) (fun i s=>ytq i a0 noMem (a0.1,s,a0.2.2.1,a0.2.2.2)) (fun s x=>s++ [x]) (fun i s=>s.length=i) (fun s=> .inl (yC7 noMem (a0.1,s,a0.2.2.1,a0.2.2.2))) (fun i s hi hs2=>⟨by
   have:=hc i hi
   simp only [ydm,ytq,ytI,zj5 (show (i:Int) < a0.2.1.length by omega),cond_true,wr (show -9223372036854775808≤(i:Int)+1 by omega) (by omega),Int.natCast_add,Int.natCast_one,Int.toNat_natCast,zkm hi,zkn,List.nil_append,zks]
   rw [zkb.2 (show (([]:List Int).length+(a0.2.1.getD i (0,[])).2.length) * 8≤140737488355328 by rw [List.length_nil]; omega),zkb.2 (show (s.length+ [a0.2.1.getD i (0,[])].length) * 32≤140737488355328 by simp only [List.length_cons,List.length_nil]; omega)]; rfl,by simp [hs2]⟩) (fun s _=>by simp only [ydm,ytq,ytI,zky (Int.le_refl _),cond_false]) [] rfl 18446744073709551616 (by omega)
  rw [yvo]at this
  exact this
 unfold yqx yX
 rw [zkb.2 (show (([]:List Int).length+a0.2.2.2.length) * 8≤140737488355328 by rw [List.length_nil]; omega)]
 simp only [cond_true,List.nil_append,h1,zki,h2]
def yf9:Con:=⟨yi2,yuE,fun x=>(fun n=>some ((n,()),())) (yX x.1)⟩
theorem ymQ:ConOk Tryz.prog 152 yf9:=(yY4).mono (fun x r hk h=>(y1f x.1 hk).trans h)
end
section
def yhJ:Code:=(Tryz.f287.body).getD .skip
def ym1:Env:=zj3 TT [] []
theorem yMx:FrOk Tryz.prog ⟨ym1,28,fun _=>none⟩ yhJ:=zj7 yb yc trivial
def yAf:Nat→Option Seg:=fun _=>none
def yaX:Shape:=⟨[(0,false,[.br tI]),(1,false,[.int .i64]),(5,false,[.at 800000000]),(6,false,[.int .i64])],[],[(800000000,tI,.fz)]⟩
def yeO:Shape:=⟨[(0,false,[.br tI]),(1,false,[.int .i64]),(5,false,[.at 800000000]),(6,false,[.ci .i64 0])],[],[(800000000,tI,.fz)]⟩
def yeJ:Shape:=⟨[(5,false,[.at 800000000])],[],[(800000000,tI,.fz)]⟩
def yiI:Shape:=⟨[],[],[]⟩
abbrev ynt (v0:List Int) (v1 v2:Int) (v3:List Int):(yaX).X:=(((v0,()),(v1,()),((),()),(v2,()),()),(),(v3,()))
abbrev yKz (v0:List Int) (v1:Int) (v2:List Int):(yeO).X:=(((v0,()),(v1,()),((),()),((),()),()),(),(v2,()))
abbrev yKu (v0:List Int):(yeJ).X:=((((),()),()),(),(v0,()))
def ynR (v0:List Int) (v1 v2:Int) (v3:List Int):Option ((yaX).X ⊕ ((yeJ).X ⊕ (yiI).X)) :=
 bif (ltb v2 (v0.length:Int)) then
 bif (inb v2 v0.length) then
 bif ((nth v0 v2 0) !=v1) then
 bif (inb v2 v0.length) then
 bif (zjR v3.length ([(nth v0 v2 0)]:List Int).length 8) then
 some (.inl (((v0,()),(v1,()),((),()),((IntKind.i64.wrap (v2+1)),()),()),(),((v3++([(nth v0 v2 0)]:List Int)),())))
 else none
 else none
 else
 some (.inl (((v0,()),(v1,()),((),()),((IntKind.i64.wrap (v2+1)),()),()),(),(v3,())))
 else none
 else
 some (.inr (.inl ((((),()),()),(),(v3,()))))
def ybh (x:(yaX).X):=ynR x.1.1.1 x.1.2.1.1 x.1.2.2.2.1.1 x.2.2.1
def yxK (x:(yeO).X):(yaX).X:=(((x.1.1.1,()),(x.1.2.1.1,()),((),()),(0,()),()),(),(x.2.2.1,()))
def yyN:Code:=(zdD yhJ 64 116).getD .skip
theorem yMj:zdD yhJ 64 29=some (.block 0 (.loop yyN)):=by kernel_rfl
theorem yM3 (x:(yaX).X):zg0 ⟨ym1,28,yAf⟩ 0 yyN 116 yaX yeJ yiI x=ybh x:=by kernel_rfl
def yxP (x:(yeO).X):Nat:=18446744073709551616
def yo1 (x:(yeO).X):Option ((yeJ).X ⊕ (yiI).X):=zz ybh (yxP x) (yxK x)
def yyv:Seg:=⟨yeO,yeJ,yiI,yo1⟩
def yAg:Nat→Option Seg:=fun q=>bif Nat.beq q 29 then some yyv else yAf q
theorem yMy:FrOk Tryz.prog ⟨ym1,28,yAg⟩ yhJ:=(yMx).loop (sg:=yyv) yaX yxK (by decide) yMj ybh yxP (by decide) (fun _=>rfl) (fun x r _ h=>h) yM3
abbrev yeX:List Par:= [.rd tL,.rd tI]
abbrev ym8:List OT:= [⟨false,tL,(.ow .fz)⟩]
def ykK (a0:List Int) (a1:Int):Option (ResD ym8×MutD yeX) :=
 zjZ (yo1 (((a0,()),(a1,()),((),()),((),()),()),(),(([]:List Int),()))) (fun y0 =>
 some ((y0.2.2.1,()),())) (fun y0 =>
 none)
theorem yS0 (x:InD yeX):zjx ⟨ym1,28,yAg⟩ Tryz.f287.results.toList yhJ yeX ym8 x=ykK x.1 x.2.1:=by kernel_rfl
theorem yPk:ConOk Tryz.prog 287 ⟨yeX,ym8,fun x=>ykK x.1 x.2.1⟩:=zj2 (yMy) Tryz.func287 (by kernel_rfl) (by kernel_rfl) Tryz.ntmps287.symm (by decide) (fun x r h=>(yS0 x).trans h)
def yis (a0:List Int) (a1:Int):List Int:=y2s a0 a1
theorem yN6 {α:Type} (p:α→Bool): ∀ (l:List α) (s:List α),l.foldl (fun s x=>bif p x then s++ [x] else s) s=s++l.filter p
 | [],s=>by simp
 | x::l,s=>by
  rw [List.foldl_cons,yN6 p l,List.filter_cons]
  cases p x<;>simp
theorem yRs (a0:List Int) (a1:Int) (hk:zi2 yeX (a0,a1,())):ykK a0 a1=(fun n=>some ((n,()),())) (yis a0 a1):=by
 have hb:a0.length * 8≤2 ^ 47:=hk.1.1
 have h1:=zj4 (step:=ybh) a0 0 (fun i s=>ynt a0 a1 i s) (fun s x=>bif x !=a1 then s++ [x] else s) (fun i s=>s.length≤i) (fun s=> .inl (yKu s)) (fun i s hi hs=>by
   constructor
   ·simp only [ybh,ynt,ynR,zj5 (show (i:Int) < a0.length by omega),cond_true,wr (show -9223372036854775808≤(i:Int)+1 by omega) (by omega),Int.natCast_add,Int.natCast_one,Int.toNat_natCast,zkm hi,zkn]
    rw [zkb.2 (show (s.length+ [a0.getD i 0].length) * 8≤140737488355328 by simp only [List.length_cons,List.length_nil]; omega)]
    cases (a0.getD i 0 !=a1)<;>rfl
   ·cases (a0.getD i 0 !=a1)
    ·show s.length≤_; omega
    ·simp only [cond_true,List.length_append,List.length_cons,List.length_nil]; omega) (fun s _=>by simp only [ybh,ynt,ynR,zky (Int.le_refl _),cond_false]) [] (Nat.le_refl _) 18446744073709551616 (by omega)
 unfold ykK yis y2s
 rw [show yo1 (yKz a0 a1 [])=_ from h1,yN6]; rfl
def yAA:Con:=⟨yeX,ym8,fun x=>(fun n=>some ((n,()),())) (yis x.1 x.2.1)⟩
theorem yRY:ConOk Tryz.prog 287 yAA:=(yPk).mono (fun x r hk h=>(yRs x.1 x.2.1 hk).trans h)
end
section
def yGg:Code:=(Tryz.f264.body).getD .skip
def yGW:Env:=zj3 TT [(135,yn),(152,yf9),(224,yhy),(269,yzy),(287,yAA)] [(16832,(.pr .fz .fz))]
theorem yOF:FrOk Tryz.prog ⟨yGW,55,fun _=>none⟩ yGg:=zj7 yb yc ⟨yu,ymQ,yoO,yL1,yRY,trivial⟩
def yP2:Nat→Option Seg:=fun _=>none
abbrev yf5:List Par:= [.rd tM,.rd tI,.rd tL]
abbrev ypZ:List OT:= [⟨false,tM,(.pr (.ow .fz) (.pr (.ow (.pr .fz .fz)) (.pr .fz (.ow .fz))))⟩,⟨false,tB,.fz⟩]
def ylz (a0:dM) (a1:Int) (a2:List Int):Option (ResD ypZ×MutD yf5) :=
 let r1:=yX a0
 let r2:=yar a0
 bif (!(!r2)) then
 bif (!a0.2.2.1) then
 let r3:=ya a1 0 (IntKind.i64.wrap ((a0.1.length:Int) - 1))
 bif (!(!r3)) then
 let r4:=yiq a2
 bif (!(!r4)) then
 bif (leb 60 (a0.2.1.length:Int)) then
 some ((r1,false,()),())
 else
 bif (zjR ([]:List Int).length a2.length 8) then
 bif (zjR r1.2.1.length ([(a1,(([]:List Int)++a2))]:List dW).length 32) then
 let r5:=yis a0.2.2.2 a1
 some (((r1.1,(r1.2.1++([(a1,(([]:List Int)++a2))]:List dW)),r1.2.2.1,r5),true,()),())
 else none
 else none
 else
 some ((r1,false,()),())
 else
 some ((r1,false,()),())
 else
 some ((r1,false,()),())
 else
 some ((r1,false,()),())
theorem yXd (x:InD yf5):zjx ⟨yGW,55,yP2⟩ Tryz.f264.results.toList yGg yf5 ypZ x=ylz x.1 x.2.1 x.2.2.1:=by kernel_rfl
theorem yRR:ConOk Tryz.prog 264 ⟨yf5,ypZ,fun x=>ylz x.1 x.2.1 x.2.2.1⟩:=zj2 (yOF) Tryz.func264 (by kernel_rfl) (by kernel_rfl) Tryz.ntmps264.symm (by decide) (fun x r h=>(yXd x).trans h)
def ydY (a0:dM) (a1:Int) (a2:List Int):dM×Bool:=ygv a0 a1 a2
theorem yUO (a0:dM) (a1:Int) (a2:List Int) (hk:zi2 yf5 (a0,a1,a2,())):ylz a0 a1 a2=(fun n=>some ((n.1,n.2,()),())) (ydY a0 a1 a2):=by
 have hb1:a0.1.length * 24≤2 ^ 47:=hk.1.1.1
 have hb2:a2.length * 8≤2 ^ 47:=hk.2.2.1.1
 unfold ylz ydY ygv yzu
 simp only [yX,yar,yru (show a0.1.length≤1152921504606846976 by omega),yIa,yis,List.nil_append]
 cases yw a0
 ·rfl
 cases a0.2.2.1
 ·cases inb a1 a0.1.length
  ·rfl
  cases yaj a2
  ·rfl
  by_cases h:(a0.2.1.length:Int) < 60
  ·rw [zj5 h,zkw h,zkb.2 (show (([]:List Int).length+a2.length) * 8≤140737488355328 by rw [List.length_nil]; omega),zkb.2 (show (a0.2.1.length+ [(a1,a2)].length) * 32≤140737488355328 by simp only [List.length_cons,List.length_nil]; omega)]; rfl
  ·rw [zky (by omega),zkx (by omega)]; rfl
 ·rfl
def ytj:Con:=⟨yf5,ypZ,fun x=>(fun n=>some ((n.1,n.2,()),())) (ydY x.1 x.2.1 x.2.2.1)⟩
theorem yFr:ConOk Tryz.prog 264 ytj:=(yRR).mono (fun x r hk h=>(yUO x.1 x.2.1 x.2.2.1 hk).trans h)
end
section
def yNj:Code:=(Tryz.f207.body).getD .skip
def yNF:Env:=zj3 TT [(263,yBw),(264,ytj)] []
theorem yXY:FrOk Tryz.prog ⟨yNF,43,fun _=>none⟩ yNj:=zj7 yb yc ⟨yPp,yFr,trivial⟩
def yZ9:Nat→Option Seg:=fun _=>none
abbrev yhN:List Par:= [.pt tA (.pr .fz (.pr (.pr .fz .fz) (.pr (.ow (.pr (.ow .fz) (.pr (.ow (.pr .fz .fz)) (.pr .fz (.ow .fz))))) (.pr .fz (.pr .fz (.pr .fz (.pr .fz (.pr .fz (.pr (.ow (.pr .fz .fz)) (.pr .fz (.pr .fz .fz))))))))))),.rd tI,.rd tI,.rd tL]
abbrev yrk:List OT:= []
def ysQ (a0:dA) (a1 a2:Int) (a3:List Int):Option (ResD yrk×MutD yhN) :=
 bif (inb a1 a0.2.2.1.length) then
 bif (!((((nth a0.2.2.1 a1 ([],[],false,[])).2).2).1)) then
 let r1:=yt0 a0
 bif (!r1.1) then
 some ((),(r1.2,()))
 else
 bif (inb a1 r1.2.2.2.1.length) then
 let r2:=ydY ((nth r1.2.2.2.1 a1 ([],[],false,[])).1,((nth r1.2.2.2.1 a1 ([],[],false,[])).2).1,(((nth r1.2.2.2.1 a1 ([],[],false,[])).2).2)) a2 a3
 bif (inb a1 r1.2.2.2.1.length) then
 some ((),((r1.2.1,r1.2.2.1,(r1.2.2.2.1.set (a1).toNat r2.1),r1.2.2.2.2),()))
 else none
 else none
 else
 some ((),(a0,()))
 else none
theorem y4P (x:InD yhN):zjx ⟨yNF,43,yZ9⟩ Tryz.f207.results.toList yNj yhN yrk x=ysQ x.1 x.2.1 x.2.2.1 x.2.2.2.1:=by kernel_rfl
theorem y1P:ConOk Tryz.prog 207 ⟨yhN,yrk,fun x=>ysQ x.1 x.2.1 x.2.2.1 x.2.2.2.1⟩:=zj2 (yXY) Tryz.func207 (by kernel_rfl) (by kernel_rfl) Tryz.ntmps207.symm (by decide) (fun x r h=>(y4P x).trans h)
def yrK (a0:dA) (a1 a2:Int) (a3:List Int):dA:=yds a0 a1 a2 a3
def yFx (a0:dA) (a1 a2:Int) (a3:List Int):Bool:=inb a1 a0.2.2.1.length
theorem y3W (a0:dA) (a1 a2:Int) (a3:List Int) (hk:zi2 yhN (a0,a1,a2,a3,())) (hq:yFx a0 a1 a2 a3=true):ysQ a0 a1 a2 a3=(fun n=>some ((),(n,()))) (yrK a0 a1 a2 a3):=by
 have hq:inb a1 a0.2.2.1.length=true:=hq
 unfold ysQ yrK yds setMem
 simp only [yZS,yaN,hq,zks,ydY]
 cases (nth a0.2.2.1 a1 noMem).2.2.1<;>cases (opA a0).1<;>rfl
def yfM (a0:dA) (a1 a2:Int) (a3:List Int):Option (ResD yrk×MutD yhN):=bif yFx a0 a1 a2 a3 then (fun n=>some ((),(n,()))) (yrK a0 a1 a2 a3) else none
theorem yoP (a0:dA) (a1 a2:Int) (a3:List Int) (h:yFx a0 a1 a2 a3=true):yfM a0 a1 a2 a3=(fun n=>some ((),(n,()))) (yrK a0 a1 a2 a3):=by unfold yfM; rw [h]; rfl
def ymr:Con:=⟨yhN,yrk,fun x=>yfM x.1 x.2.1 x.2.2.1 x.2.2.2.1⟩
theorem yu0:ConOk Tryz.prog 207 ymr:=(y1P).mono (fun x r hk h=>zkt h (fun hq=>y3W x.1 x.2.1 x.2.2.1 x.2.2.2.1 hk hq))
end
section
def yjl:Code:=(Tryz.f286.body).getD .skip
def ypz:Env:=zj3 TT [(152,yf9),(224,yhy)] [(32768,(.pr .fz .fz))]
theorem yOw:FrOk Tryz.prog ⟨ypz,40,fun _=>none⟩ yjl:=zj7 yb yc ⟨ymQ,yoO,trivial⟩
def yB7:Nat→Option Seg:=fun _=>none
def ybr:Shape:=⟨[(2,false,[.ptr 64 0]),(3,false,[.ptr 4224 0]),(4,false,[.int .i64])],[(64,[.nil,.nil,.bool,.nil]),(4224,[.at 800000000,.at 800000001,.bool,.at 800000002])],[(800000000,tL,.fz),(800000001,tW,(.pr .fz .fz)),(800000002,tI,.fz)]⟩
def yfC:Shape:=⟨[(2,false,[.ptr 64 0]),(3,false,[.ptr 4224 0]),(4,false,[.ci .i64 0])],[(64,[.nil,.nil,.bool,.nil]),(4224,[.at 800000000,.at 800000001,.bool,.at 800000002])],[(800000000,tL,.fz),(800000001,tW,(.pr .fz .fz)),(800000002,tI,.fz)]⟩
def yfu:Shape:=⟨[(2,false,[.ptr 64 0]),(3,false,[.ptr 4224 0])],[(64,[.nil,.nil,.bool,.nil]),(4224,[.at 800000000,.at 800000001,.bool,.at 800000002])],[(800000000,tL,.fz),(800000001,tW,(.pr .fz .fz)),(800000002,tI,.fz)]⟩
def yki:Shape:=⟨[],[],[]⟩
abbrev yo8 (v0:Int) (v1 v2:dM):(ybr).X:=((((),()),((),()),(v0,()),()),(((),(),v1.2.2.1,(),()),((),(),v2.2.2.1,(),()),()),(v2.1,v2.2.1,v2.2.2.2,()))
abbrev yMH (v0 v1:dM):(yfC).X:=((((),()),((),()),((),()),()),(((),(),v0.2.2.1,(),()),((),(),v1.2.2.1,(),()),()),(v1.1,v1.2.1,v1.2.2.2,()))
abbrev yzd (v0 v1:dM):(yfu).X:=((((),()),((),()),()),(((),(),v0.2.2.1,(),()),((),(),v1.2.2.1,(),()),()),(v1.1,v1.2.1,v1.2.2.2,()))
def ypo (v0:Int) (v1 v2:Bool) (v3:List (List Int)) (v4:List dW) (v5:List Int):Option ((ybr).X ⊕ ((yfu).X ⊕ (yki).X)) :=
 bif (ltb v0 (v4.length:Int)) then
 bif (inb v0 v4.length) then
 bif (inb v0 v4.length) then
 bif (inb ((nth v4 v0 (0,[])).1) v3.length) then
 let r4:=(v3.set ((nth v4 v0 (0,[])).1).toNat ((nth v4 v0 (0,[])).2))
 some (.inl ((((),()),((),()),((IntKind.i64.wrap (v0+1)),()),()),(((),(),v1,(),()),((),(),v2,(),()),()),(r4,v4,v5,())))
 else none
 else none
 else none
 else
 some (.inr (.inl ((((),()),((),()),()),(((),(),v1,(),()),((),(),v2,(),()),()),(v3,v4,v5,()))))
def ybP (x:(ybr).X):=ypo x.1.2.2.1.1 x.2.1.1.2.2.1 x.2.1.2.1.2.2.1 x.2.2.1 x.2.2.2.1 x.2.2.2.2.1
def yyZ (x:(yfC).X):(ybr).X:=((((),()),((),()),(0,()),()),(((),(),x.2.1.1.2.2.1,(),()),((),(),x.2.1.2.1.2.2.1,(),()),()),(x.2.2.1,x.2.2.2.1,x.2.2.2.2.1,()))
def yAu:Code:=(zdD yjl 64 244).getD .skip
theorem yNP:zdD yjl 64 61=some (.block 0 (.loop yAu)):=by kernel_rfl
theorem yPA (x:(ybr).X):zg0 ⟨ypz,40,yB7⟩ 0 yAu 244 ybr yfu yki x=ybP x:=by kernel_rfl
def yy8 (x:(yfC).X):Nat:=18446744073709551616
def yq2 (x:(yfC).X):Option ((yfu).X ⊕ (yki).X):=zz ybP (yy8 x) (yyZ x)
def yzm:Seg:=⟨yfC,yfu,yki,yq2⟩
def yB8:Nat→Option Seg:=fun q=>bif Nat.beq q 61 then some yzm else yB7 q
theorem yOx:FrOk Tryz.prog ⟨ypz,40,yB8⟩ yjl:=(yOw).loop (sg:=yzm) ybr yyZ (by decide) yNP ybP yy8 (by decide) (fun _=>rfl) (fun x r _ h=>h) yPA
abbrev yfZ:List Par:= [.rd tM]
abbrev ypS:List OT:= [⟨false,tM,(.pr (.ow .fz) (.pr (.ow (.pr .fz .fz)) (.pr .fz (.ow .fz))))⟩]
def ylt (a0:dM):Option (ResD ypS×MutD yfZ) :=
 let r1:=yX a0
 let r2:=yar a0
 bif (!(!r2)) then
 bif a0.2.2.1 then
 some ((r1,()),())
 else
 zjZ (yq2 ((((),()),((),()),((),()),()),(((),(),false,(),()),((),(),r1.2.2.1,(),()),()),(r1.1,r1.2.1,r1.2.2.2,()))) (fun y4 =>
 some (((y4.2.2.1,([]:List dW),y4.2.1.2.1.2.2.1,y4.2.2.2.2.1),()),())) (fun y4 =>
 none)
 else
 some ((r1,()),())
theorem yW6 (x:InD yfZ):zjx ⟨ypz,40,yB8⟩ Tryz.f286.results.toList yjl yfZ ypS x=ylt x.1:=by kernel_rfl
theorem yRK:ConOk Tryz.prog 286 ⟨yfZ,ypS,fun x=>ylt x.1⟩:=zj2 (yOx) Tryz.func286 (by kernel_rfl) (by kernel_rfl) Tryz.ntmps286.symm (by decide) (fun x r h=>(yW6 x).trans h)
def ydV (a0:dM):dM:=ye4 a0
theorem yUH (a0:dM) (hk:zi2 yfZ (a0,())):ylt a0=(fun n=>some ((n,()),())) (ydV a0):=by
 have hb2:a0.2.1.length * 32≤2 ^ 47:=hk.1.2.1.1
 unfold ylt ydV ye4
 simp only [yX,yar]
 cases hm:yw a0
 ·rfl
 have h1:yq2 (yMH noMem a0)=some (.inl (yzd noMem (yms (fun _=>true) a0.2.1 a0.1,a0.2))) :=
  zj9 (step:=ybP) a0.2.1.length (fun i s=>yo8 i noMem (s,a0.2)) (yxT (fun _=>true) a0.2.1) (fun i s=>s.length=a0.1.length) (fun s=> .inl (yzd noMem (s,a0.2))) (fun i s hi hs=>by
   have hw:=(y43 hm hi).1
   refine ⟨?_,yKr.trans hs⟩
   simp only [ybP,yo8,ypo,zj5 (show (i:Int) < a0.2.1.length by omega),cond_true,wr (show -9223372036854775808≤(i:Int)+1 by omega) (by omega),Int.natCast_add,Int.natCast_one,Int.toNat_natCast,zkm hi,hs,hw,yxT]) (fun s hs=>by simp only [ybP,yo8,ypo,zky (Int.le_refl _),cond_false]) a0.1 rfl _ (by show _ < 18446744073709551616; omega)
 rw [h1]
 cases hf:a0.2.2.1
 ·exact congrArg (fun z=>some (((yms (fun _=>true) a0.2.1 a0.1,([]:List dW),z,a0.2.2.2),()),())) hf
 ·rfl
def yte:Con:=⟨yfZ,ypS,fun x=>(fun n=>some ((n,()),())) (ydV x.1)⟩
theorem yFm:ConOk Tryz.prog 286 yte:=(yRK).mono (fun x r hk h=>(yUH x.1 hk).trans h)
end
end
end Go.Tf
