/- Functions of the program, and what they come to. -/
import Derived.Test.YtgmadfpnljibhaaGreatExactFlushAllF6
namespace Go.Tf
noncomputable section
open Go.Proofs
set_option synthInstance.maxHeartbeats 400000
set_option synthInstance.maxSize 10000
set_option linter.unusedVariables false
set_option linter.unusedSimpArgs false
set_option maxRecDepth 100000
section
def yPG:Code:=(Tryz.f263.body).getD .skip
def yPL:Env:=zki TT [] []
theorem yX0:FrOk Tryz.prog ⟨yPL,31,fun _=>none⟩ yPG:=zkp yb yc trivial
def y0b:Nat→Option Seg:=fun _=>none
abbrev ysH:List Par:= [.pt tA (.pr .fz (.pr (.pr .fz .fz) (.pr (.ow (.pr (.ow .fz) (.pr (.ow (.pr .fz .fz)) (.pr .fz (.ow .fz))))) (.pr .fz (.pr .fz (.pr .fz (.pr .fz (.pr .fz (.pr (.ow (.pr .fz .fz)) (.pr .fz (.pr .fz .fz)))))))))))]
abbrev yyG:List OT:= [⟨false,tB,.fz⟩]
def yAD (a0:dA):Option (ResD yyG×MutD ysH) :=
 bif a0.2.2.2.2.2.2.2.2.2.2.1 then
 some ((false,()),(a0,()))
 else
 bif (a0.2.2.2.2.2.2.2.2.2.1==0) then
 some ((false,()),((a0.1,a0.2.1,a0.2.2.1,a0.2.2.2.1,a0.2.2.2.2.1,a0.2.2.2.2.2.1,a0.2.2.2.2.2.2.1,a0.2.2.2.2.2.2.2.1,a0.2.2.2.2.2.2.2.2.1,(-1),true,a0.2.2.2.2.2.2.2.2.2.2.2),()))
 else
 bif (ltb 0 a0.2.2.2.2.2.2.2.2.2.1) then
 some ((true,()),((a0.1,a0.2.1,a0.2.2.1,a0.2.2.2.1,a0.2.2.2.2.1,a0.2.2.2.2.2.1,a0.2.2.2.2.2.2.1,a0.2.2.2.2.2.2.2.1,a0.2.2.2.2.2.2.2.2.1,(IntKind.i64.wrap (a0.2.2.2.2.2.2.2.2.2.1 - 1)),a0.2.2.2.2.2.2.2.2.2.2),()))
 else
 some ((true,()),(a0,()))
theorem y3d (x:InD ysH):zjH ⟨yPL,31,y0b⟩ Tryz.f263.results.toList yPG ysH yyG x=yAD x.1:=by kernel_rfl
theorem y1t:ConOk Tryz.prog 263 ⟨ysH,yyG,fun x=>yAD x.1⟩:=zkh (yX0) Tryz.func263 (by kernel_rfl) (by kernel_rfl) Tryz.ntmps263.symm (by decide) (fun x r h=>(y3d x).trans h)
def ysN (a0:dA):Bool×dA :=
 bif a0.2.2.2.2.2.2.2.2.2.2.1 then
 (false,a0)
 else
 bif (a0.2.2.2.2.2.2.2.2.2.1==0) then
 (false,(a0.1,a0.2.1,a0.2.2.1,a0.2.2.2.1,a0.2.2.2.2.1,a0.2.2.2.2.2.1,a0.2.2.2.2.2.2.1,a0.2.2.2.2.2.2.2.1,a0.2.2.2.2.2.2.2.2.1,(-1),true,a0.2.2.2.2.2.2.2.2.2.2.2))
 else
 bif (ltb 0 a0.2.2.2.2.2.2.2.2.2.1) then
 (true,(a0.1,a0.2.1,a0.2.2.1,a0.2.2.2.1,a0.2.2.2.2.1,a0.2.2.2.2.2.1,a0.2.2.2.2.2.2.1,a0.2.2.2.2.2.2.2.1,a0.2.2.2.2.2.2.2.2.1,(IntKind.i64.wrap (a0.2.2.2.2.2.2.2.2.2.1 - 1)),a0.2.2.2.2.2.2.2.2.2.2))
 else
 (true,a0)
def yAj:Con:=⟨ysH,yyG,fun x=>(fun n=>some ((n.1,()),(n.2,()))) (ysN x.1)⟩
theorem y2U (a0:dA):yAD a0=(fun n=>some ((n.1,()),(n.2,()))) (ysN a0):=zkS (p:=fun (n:Bool×dA)=>((n.1,()),(n.2,()))) (zkx (p:=fun (n:Bool×dA)=>((n.1,()),(n.2,()))) rfl (zkx (p:=fun (n:Bool×dA)=>((n.1,()),(n.2,()))) rfl (zkx (p:=fun (n:Bool×dA)=>((n.1,()),(n.2,()))) rfl rfl)))
theorem yM7:ConOk Tryz.prog 263 yAj:=(y1t).mono (fun x r _ h=>(y2U x.1).trans h)
theorem yW0 (a:dA):ysN a=opA a:=by kernel_rfl
end
section
def ydI:Code:=(Tryz.f152.body).getD .skip
def yhx:Env:=zki TT [] [(21056,.fz),(21120,.fz),(37952,(.pr .fz .fz)),(38016,(.pr .fz .fz))]
theorem yQ2:FrOk Tryz.prog ⟨yhx,60,fun _=>none⟩ ydI:=zkp yb yc trivial
def yFw:Nat→Option Seg:=fun _=>none
def yb7:Shape:=⟨[(1,false,[.ptr 0 0]),(2,false,[.ptr 64 0]),(3,false,[.ptr 4544 0]),(4,false,[.int .i64])],[(0,[.br tL,.br tW,.bool,.br tI]),(64,[.nil,.nil,.bool,.nil]),(4544,[.at 800000001,.nil,.bool,.at 800000000])],[(800000001,tL,.fz),(800000000,tI,.fz)]⟩
def ygQ:Shape:=⟨[(1,false,[.ptr 0 0]),(2,false,[.ptr 64 0]),(3,false,[.ptr 4544 0]),(4,false,[.ci .i64 0])],[(0,[.br tL,.br tW,.bool,.br tI]),(64,[.nil,.nil,.bool,.nil]),(4544,[.at 800000001,.nil,.bool,.at 800000000])],[(800000001,tL,.fz),(800000000,tI,.fz)]⟩
def ygJ:Shape:=⟨[(1,false,[.ptr 0 0]),(2,false,[.ptr 64 0]),(3,false,[.ptr 4544 0])],[(0,[.br tL,.br tW,.bool,.br tI]),(64,[.nil,.nil,.bool,.nil]),(4544,[.at 800000000,.nil,.bool,.at 800000001])],[(800000000,tL,.fz),(800000001,tI,.fz)]⟩
def ymh:Shape:=⟨[],[],[]⟩
abbrev ysb (v0:Int) (v1 v2 v3:dM):(yb7).X:=((((),()),((),()),((),()),(v0,()),()),((v1.1,v1.2.1,v1.2.2.1,v1.2.2.2,()),((),(),v2.2.2.1,(),()),((),(),v3.2.2.1,(),()),()),(v3.1,v3.2.2.2,()))
abbrev yOF (v0 v1 v2:dM):(ygQ).X:=((((),()),((),()),((),()),((),()),()),((v0.1,v0.2.1,v0.2.2.1,v0.2.2.2,()),((),(),v1.2.2.1,(),()),((),(),v2.2.2.1,(),()),()),(v2.1,v2.2.2.2,()))
abbrev yB9 (v0 v1 v2:dM):(ygJ).X:=((((),()),((),()),((),()),()),((v0.1,v0.2.1,v0.2.2.1,v0.2.2.2,()),((),(),v1.2.2.1,(),()),((),(),v2.2.2.1,(),()),()),(v2.1,v2.2.2.2,()))
def ysv (v0:Int) (v1:List (List Int)) (v2:List dW) (v3:Bool) (v4:List Int) (v5 v6:Bool) (v7:List (List Int)) (v8:List Int):Option ((yb7).X ⊕ ((ygJ).X ⊕ (ymh).X)) :=
 bif (ltb v0 (v1.length:Int)) then
 bif (inb v0 v1.length) then
 bif (zj4 ([]:List Int).length (nth v1 v0 []).length 8) then
 bif (zj4 v7.length ([(([]:List Int)++(nth v1 v0 []))]:List (List Int)).length 24) then
 some (.inl ((((),()),((),()),((),()),((IntKind.i64.wrap (v0+1)),()),()),((v1,v2,v3,v4,()),((),(),v5,(),()),((),(),v6,(),()),()),((v7++([(([]:List Int)++(nth v1 v0 []))]:List (List Int))),v8,())))
 else none
 else none
 else none
 else
 some (.inr (.inl ((((),()),((),()),((),()),()),((v1,v2,v3,v4,()),((),(),v5,(),()),((),(),v6,(),()),()),(v7,v8,()))))
def ycF (x:(yb7).X):=ysv x.1.2.2.2.1.1 x.2.1.1.1 x.2.1.1.2.1 x.2.1.1.2.2.1 x.2.1.1.2.2.2.1 x.2.1.2.1.2.2.1 x.2.1.2.2.1.2.2.1 x.2.2.1 x.2.2.2.1
def yBO (x:(ygQ).X):(yb7).X:=((((),()),((),()),((),()),(0,()),()),((x.2.1.1.1,x.2.1.1.2.1,x.2.1.1.2.2.1,x.2.1.1.2.2.2.1,()),((),(),x.2.1.2.1.2.2.1,(),()),((),(),x.2.1.2.2.1.2.2.1,(),()),()),(x.2.2.1,x.2.2.2.1,()))
def yDq:Code:=(zdI ydI 64 116).getD .skip
theorem yQd:zdI ydI 64 29=some (.block 0 (.loop yDq)):=by kernel_rfl
theorem yS3 (x:(yb7).X):zg7 ⟨yhx,60,yFw⟩ 0 yDq 116 yb7 ygJ ymh x=ycF x:=by kernel_rfl
def yB3 (x:(ygQ).X):Nat:=18446744073709551616
def ytZ (x:(ygQ).X):Option ((ygJ).X ⊕ (ymh).X):=zr ycF (yB3 x) (yBO x)
def yCm:Seg:=⟨ygQ,ygJ,ymh,ytZ⟩
def yu3:Nat→Option Seg:=fun q=>bif Nat.beq q 29 then some yCm else yFw q
theorem yQ3:FrOk Tryz.prog ⟨yhx,60,yu3⟩ ydI:=(yQ2).loop (sg:=yCm) yb7 yBO (by decide) yQd ycF yB3 (by decide) (fun _=>rfl) (fun x r _ h=>h) yS3
def yb8:Shape:=⟨[(1,false,[.ptr 0 0]),(2,false,[.ptr 64 0]),(3,false,[.ptr 4544 0]),(5,false,[.int .i64])],[(0,[.br tL,.br tW,.bool,.br tI]),(64,[.nil,.nil,.bool,.nil]),(4544,[.at 800000000,.at 800000002,.bool,.at 800000001])],[(800000000,tL,.fz),(800000002,tW,(.pr .fz .fz)),(800000001,tI,.fz)]⟩
def ygR:Shape:=⟨[(1,false,[.ptr 0 0]),(2,false,[.ptr 64 0]),(3,false,[.ptr 4544 0]),(5,false,[.ci .i64 0])],[(0,[.br tL,.br tW,.bool,.br tI]),(64,[.nil,.nil,.bool,.nil]),(4544,[.at 800000000,.at 800000002,.bool,.at 800000001])],[(800000000,tL,.fz),(800000002,tW,(.pr .fz .fz)),(800000001,tI,.fz)]⟩
def ygK:Shape:=⟨[(2,false,[.ptr 64 0]),(3,false,[.ptr 4544 0])],[(64,[.nil,.nil,.bool,.nil]),(4544,[.at 800000000,.at 800000001,.bool,.at 800000002])],[(800000000,tL,.fz),(800000001,tW,(.pr .fz .fz)),(800000002,tI,.fz)]⟩
def ymi:Shape:=⟨[],[],[]⟩
abbrev ysc (v0:Int) (v1 v2 v3:dM):(yb8).X:=((((),()),((),()),((),()),(v0,()),()),((v1.1,v1.2.1,v1.2.2.1,v1.2.2.2,()),((),(),v2.2.2.1,(),()),((),(),v3.2.2.1,(),()),()),(v3.1,v3.2.1,v3.2.2.2,()))
abbrev yOG (v0 v1 v2:dM):(ygR).X:=((((),()),((),()),((),()),((),()),()),((v0.1,v0.2.1,v0.2.2.1,v0.2.2.2,()),((),(),v1.2.2.1,(),()),((),(),v2.2.2.1,(),()),()),(v2.1,v2.2.1,v2.2.2.2,()))
abbrev yCa (v0 v1:dM):(ygK).X:=((((),()),((),()),()),(((),(),v0.2.2.1,(),()),((),(),v1.2.2.1,(),()),()),(v1.1,v1.2.1,v1.2.2.2,()))
def ysw (v0:Int) (v1:List (List Int)) (v2:List dW) (v3:Bool) (v4:List Int) (v5 v6:Bool) (v7:List (List Int)) (v8:List dW) (v9:List Int):Option ((yb8).X ⊕ ((ygK).X ⊕ (ymi).X)) :=
 bif (ltb v0 (v2.length:Int)) then
 bif (inb v0 v2.length) then
 bif (inb v0 v2.length) then
 bif (zj4 ([]:List Int).length ((nth v2 v0 (0,[])).2).length 8) then
 bif (zj4 v8.length ([((nth v2 v0 (0,[])).1,(([]:List Int)++((nth v2 v0 (0,[])).2)))]:List dW).length 32) then
 some (.inl ((((),()),((),()),((),()),((IntKind.i64.wrap (v0+1)),()),()),((v1,v2,v3,v4,()),((),(),v5,(),()),((),(),v6,(),()),()),(v7,(v8++([((nth v2 v0 (0,[])).1,(([]:List Int)++((nth v2 v0 (0,[])).2)))]:List dW)),v9,())))
 else none
 else none
 else none
 else none
 else
 some (.inr (.inl ((((),()),((),()),()),(((),(),v5,(),()),((),(),v6,(),()),()),(v7,v8,v9,()))))
def ycG (x:(yb8).X):=ysw x.1.2.2.2.1.1 x.2.1.1.1 x.2.1.1.2.1 x.2.1.1.2.2.1 x.2.1.1.2.2.2.1 x.2.1.2.1.2.2.1 x.2.1.2.2.1.2.2.1 x.2.2.1 x.2.2.2.1 x.2.2.2.2.1
def yBP (x:(ygR).X):(yb8).X:=((((),()),((),()),((),()),(0,()),()),((x.2.1.1.1,x.2.1.1.2.1,x.2.1.1.2.2.1,x.2.1.1.2.2.2.1,()),((),(),x.2.1.2.1.2.2.1,(),()),((),(),x.2.1.2.2.1.2.2.1,(),()),()),(x.2.2.1,x.2.2.2.1,x.2.2.2.2.1,()))
def yDr:Code:=(zdI ydI 64 244).getD .skip
theorem yQe:zdI ydI 64 61=some (.block 2 (.loop yDr)):=by kernel_rfl
theorem yS4 (x:(yb8).X):zg7 ⟨yhx,60,yu3⟩ 2 yDr 244 yb8 ygK ymi x=ycG x:=by kernel_rfl
def yB4 (x:(ygR).X):Nat:=18446744073709551616
def yt0 (x:(ygR).X):Option ((ygK).X ⊕ (ymi).X):=zr ycG (yB4 x) (yBP x)
def yCn:Seg:=⟨ygR,ygK,ymi,yt0⟩
def yFx:Nat→Option Seg:=fun q=>bif Nat.beq q 61 then some yCn else yu3 q
theorem yQ4:FrOk Tryz.prog ⟨yhx,60,yFx⟩ ydI:=(yQ3).loop (sg:=yCn) yb8 yBP (by decide) yQe ycG yB4 (by decide) (fun _=>rfl) (fun x r _ h=>h) yS4
abbrev yhN:List Par:= [.rd tM]
abbrev ytv:List OT:= [⟨false,tM,(.pr (.ow .fz) (.pr (.ow (.pr .fz .fz)) (.pr .fz (.ow .fz))))⟩]
def ypr (a0:dM):Option (ResD ytv×MutD yhN) :=
 bif (zj4 ([]:List Int).length a0.2.2.2.length 8) then
 zjw (ytZ ((((),()),((),()),((),()),((),()),()),((a0.1,a0.2.1,a0.2.2.1,a0.2.2.2,()),((),(),false,(),()),((),(),a0.2.2.1,(),()),()),([],(([]:List Int)++a0.2.2.2),()))) (fun y0 =>
 zjw (yt0 ((((),()),((),()),((),()),((),()),()),((y0.2.1.1.1,y0.2.1.1.2.1,y0.2.1.1.2.2.1,y0.2.1.1.2.2.2.1,()),((),(),y0.2.1.2.1.2.2.1,(),()),((),(),y0.2.1.2.2.1.2.2.1,(),()),()),(y0.2.2.1,[],y0.2.2.2.1,()))) (fun y1 =>
 some (((y1.2.2.1,y1.2.2.2.1,y1.2.1.2.1.2.2.1,y1.2.2.2.2.1),()),())) (fun y1 =>
 none)) (fun y0 =>
 none)
 else none
theorem y0E (x:InD yhN):zjH ⟨yhx,60,yFx⟩ Tryz.f152.results.toList ydI yhN ytv x=ypr x.1:=by kernel_rfl
theorem yWc:ConOk Tryz.prog 152 ⟨yhN,ytv,fun x=>ypr x.1⟩:=zkh (yQ4) Tryz.func152 (by kernel_rfl) (by kernel_rfl) Tryz.ntmps152.symm (by decide) (fun x r h=>(y0E x).trans h)
def yb2 (a0:dM):dM:=a0
theorem yYy (a0:dM) (hk:zi9 yhN (a0,())):ypr a0=(fun n=>some ((n,()),())) (yb2 a0):=by
 have hb1:a0.1.length * 24≤2 ^ 47:=hk.1.1.1
 have hb2:a0.2.1.length * 32≤2 ^ 47:=hk.1.2.1.1
 have hb3:a0.2.2.2.length * 8≤2 ^ 47:=hk.1.2.2.2.1
 have hs: ∀ i,i < a0.1.length→(a0.1.getD i []).length * 8≤2 ^ 47:=fun i hi=>by rw [zcq hi]; exact (hk.1.1.2 _ (List.getElem_mem hi)).1
 have hc: ∀ i,i < a0.2.1.length→(a0.2.1.getD i (0,[])).2.length * 8≤2 ^ 47:=fun i hi=>by rw [zcq hi]; exact (hk.1.2.1.2 _ (List.getElem_mem hi)).2.1
 have h1:ytZ (yOF a0 yh ([],[],a0.2.2.1,a0.2.2.2))=some (.inl (yB9 a0 yh (a0.1,[],a0.2.2.1,a0.2.2.2))):=by
  have:=zkk (step:=ycF) a0.1 [] (fun i s=>ysb i a0 yh (s,[],a0.2.2.1,a0.2.2.2)) (fun s x=>s++ [x]) (fun i s=>s.length=i) (fun s=> .inl (yB9 a0 yh (s,[],a0.2.2.1,a0.2.2.2))) (fun i s hi hs2=>⟨by
   have:=hs i hi
   simp only [ycF,ysb,ysv,zjI (show (i:Int) < a0.1.length by omega),cond_true,wr (show -9223372036854775808≤(i:Int)+1 by omega) (by omega),Int.natCast_add,Int.natCast_one,Int.toNat_natCast,zkO hi,zjW,List.nil_append]
   rw [zkw.2 (show (([]:List Int).length+(a0.1.getD i []).length) * 8≤140737488355328 by rw [List.length_nil]; omega),zkw.2 (show (s.length+ [a0.1.getD i []].length) * 24≤140737488355328 by simp only [List.length_cons,List.length_nil]; omega)]; rfl,by simp [hs2]⟩) (fun s _=>by simp only [ycF,ysb,ysv,zkm (Int.le_refl _),cond_false]) [] rfl 18446744073709551616 (by omega)
  rw [yt9]at this
  exact this
 have h2:yt0 (yOG a0 yh (a0.1,[],a0.2.2.1,a0.2.2.2))=some (.inl (yCa yh a0)):=by
  have:=zkk (step:=ycG) a0.2.1 (0,[]) (fun i s=>ysc i a0 yh (a0.1,s,a0.2.2.1,a0.2.2.2)) (fun s x=>s++ [x]) (fun i s=>s.length=i) (fun s=> .inl (yCa yh (a0.1,s,a0.2.2.1,a0.2.2.2))) (fun i s hi hs2=>⟨by
   have:=hc i hi
   simp only [ycG,ysc,ysw,zjI (show (i:Int) < a0.2.1.length by omega),cond_true,wr (show -9223372036854775808≤(i:Int)+1 by omega) (by omega),Int.natCast_add,Int.natCast_one,Int.toNat_natCast,zkO hi,zjW,List.nil_append,zkV]
   rw [zkw.2 (show (([]:List Int).length+(a0.2.1.getD i (0,[])).2.length) * 8≤140737488355328 by rw [List.length_nil]; omega),zkw.2 (show (s.length+ [a0.2.1.getD i (0,[])].length) * 32≤140737488355328 by simp only [List.length_cons,List.length_nil]; omega)]; rfl,by simp [hs2]⟩) (fun s _=>by simp only [ycG,ysc,ysw,zkm (Int.le_refl _),cond_false]) [] rfl 18446744073709551616 (by omega)
  rw [yt9]at this
  exact this
 unfold ypr yb2
 rw [zkw.2 (show (([]:List Int).length+a0.2.2.2.length) * 8≤140737488355328 by rw [List.length_nil]; omega)]
 simp only [cond_true,List.nil_append,h1,zkJ,h2]
def yo5:Con:=⟨yhN,ytv,fun x=>(fun n=>some ((n,()),())) (yb2 x.1)⟩
theorem yx9:ConOk Tryz.prog 152 yo5:=(yWc).mono (fun x r hk h=>(yYy x.1 hk).trans h)
end
section
def ygC:Code:=(Tryz.f287.body).getD .skip
def ylL:Env:=zki TT [] []
theorem yKn:FrOk Tryz.prog ⟨ylL,28,fun _=>none⟩ ygC:=zkp yb yc trivial
def yyY:Nat→Option Seg:=fun _=>none
def yaz:Shape:=⟨[(0,false,[.br tI]),(1,false,[.int .i64]),(5,false,[.at 800000000]),(6,false,[.int .i64])],[],[(800000000,tI,.fz)]⟩
def ydV:Shape:=⟨[(0,false,[.br tI]),(1,false,[.int .i64]),(5,false,[.at 800000000]),(6,false,[.ci .i64 0])],[],[(800000000,tI,.fz)]⟩
def ydT:Shape:=⟨[(5,false,[.at 800000000])],[],[(800000000,tI,.fz)]⟩
def yhp:Shape:=⟨[],[],[]⟩
abbrev yms (v0:List Int) (v1 v2:Int) (v3:List Int):(yaz).X:=(((v0,()),(v1,()),((),()),(v2,()),()),(),(v3,()))
abbrev yIU (v0:List Int) (v1:Int) (v2:List Int):(ydV).X:=(((v0,()),(v1,()),((),()),((),()),()),(),(v2,()))
abbrev yIS (v0:List Int):(ydT).X:=((((),()),()),(),(v0,()))
def ymR (v0:List Int) (v1 v2:Int) (v3:List Int):Option ((yaz).X ⊕ ((ydT).X ⊕ (yhp).X)) :=
 bif (ltb v2 (v0.length:Int)) then
 bif (inb v2 v0.length) then
 bif ((nth v0 v2 0) !=v1) then
 bif (inb v2 v0.length) then
 bif (zj4 v3.length ([(nth v0 v2 0)]:List Int).length 8) then
 some (.inl (((v0,()),(v1,()),((),()),((IntKind.i64.wrap (v2+1)),()),()),(),((v3++([(nth v0 v2 0)]:List Int)),())))
 else none
 else none
 else
 some (.inl (((v0,()),(v1,()),((),()),((IntKind.i64.wrap (v2+1)),()),()),(),(v3,())))
 else none
 else
 some (.inr (.inl ((((),()),()),(),(v3,()))))
def yaP (x:(yaz).X):=ymR x.1.1.1 x.1.2.1.1 x.1.2.2.2.1.1 x.2.2.1
def ywg (x:(ydV).X):(yaz).X:=(((x.1.1.1,()),(x.1.2.1.1,()),((),()),(0,()),()),(),(x.2.2.1,()))
def yw8:Code:=(zdI ygC 64 116).getD .skip
theorem yKc:zdI ygC 64 29=some (.block 0 (.loop yw8)):=by kernel_rfl
theorem yKL (x:(yaz).X):zg7 ⟨ylL,28,yyY⟩ 0 yw8 116 yaz ydT yhp x=yaP x:=by kernel_rfl
def ywk (x:(ydV).X):Nat:=18446744073709551616
def ynM (x:(ydV).X):Option ((ydT).X ⊕ (yhp).X):=zr yaP (ywk x) (ywg x)
def ywZ:Seg:=⟨ydV,ydT,yhp,ynM⟩
def yyZ:Nat→Option Seg:=fun q=>bif Nat.beq q 29 then some ywZ else yyY q
theorem yKo:FrOk Tryz.prog ⟨ylL,28,yyZ⟩ ygC:=(yKn).loop (sg:=ywZ) yaz ywg (by decide) yKc yaP ywk (by decide) (fun _=>rfl) (fun x r _ h=>h) yKL
abbrev yd1:List Par:= [.rd tL,.rd tI]
abbrev yl8:List OT:= [⟨false,tL,(.ow .fz)⟩]
def yjA (a0:List Int) (a1:Int):Option (ResD yl8×MutD yd1) :=
 zjw (ynM (((a0,()),(a1,()),((),()),((),()),()),(),(([]:List Int),()))) (fun y0 =>
 some ((y0.2.2.1,()),())) (fun y0 =>
 none)
theorem yQq (x:InD yd1):zjH ⟨ylL,28,yyZ⟩ Tryz.f287.results.toList ygC yd1 yl8 x=yjA x.1 x.2.1:=by kernel_rfl
theorem yM1:ConOk Tryz.prog 287 ⟨yd1,yl8,fun x=>yjA x.1 x.2.1⟩:=zkh (yKo) Tryz.func287 (by kernel_rfl) (by kernel_rfl) Tryz.ntmps287.symm (by decide) (fun x r h=>(yQq x).trans h)
def yg8 (a0:List Int) (a1:Int):List Int:=yZM a0 a1
theorem yLT {α:Type} (p:α→Bool): ∀ (l:List α) (s:List α),l.foldl (fun s x=>bif p x then s++ [x] else s) s=s++l.filter p
 | [],s=>by simp
 | x::l,s=>by
  rw [List.foldl_cons,yLT p l,List.filter_cons]
  cases p x<;>simp
theorem yOS (a0:List Int) (a1:Int) (hk:zi9 yd1 (a0,a1,())):yjA a0 a1=(fun n=>some ((n,()),())) (yg8 a0 a1):=by
 have hb:a0.length * 8≤2 ^ 47:=hk.1.1
 have h1:=zkk (step:=yaP) a0 0 (fun i s=>yms a0 a1 i s) (fun s x=>bif x !=a1 then s++ [x] else s) (fun i s=>s.length≤i) (fun s=> .inl (yIS s)) (fun i s hi hs=>by
   constructor
   ·simp only [yaP,yms,ymR,zjI (show (i:Int) < a0.length by omega),cond_true,wr (show -9223372036854775808≤(i:Int)+1 by omega) (by omega),Int.natCast_add,Int.natCast_one,Int.toNat_natCast,zkO hi,zjW]
    rw [zkw.2 (show (s.length+ [a0.getD i 0].length) * 8≤140737488355328 by simp only [List.length_cons,List.length_nil]; omega)]
    cases (a0.getD i 0 !=a1)<;>rfl
   ·cases (a0.getD i 0 !=a1)
    ·show s.length≤_; omega
    ·simp only [cond_true,List.length_append,List.length_cons,List.length_nil]; omega) (fun s _=>by simp only [yaP,yms,ymR,zkm (Int.le_refl _),cond_false]) [] (Nat.le_refl _) 18446744073709551616 (by omega)
 unfold yjA yg8 yZM
 rw [show ynM (yIU a0 a1 [])=_ from h1,yLT]; rfl
def yzl:Con:=⟨yd1,yl8,fun x=>(fun n=>some ((n,()),())) (yg8 x.1 x.2.1)⟩
theorem yPk:ConOk Tryz.prog 287 yzl:=(yM1).mono (fun x r hk h=>(yOS x.1 x.2.1 hk).trans h)
end
section
def yFd:Code:=(Tryz.f264.body).getD .skip
def yFS:Env:=zki TT [(135,yn),(152,yo5),(224,yli),(269,yx3),(287,yzl)] [(16832,(.pr .fz .fz))]
theorem yMq:FrOk Tryz.prog ⟨yFS,55,fun _=>none⟩ yFd:=zkp yb yc ⟨yr,yx9,ytM,yJ3,yPk,trivial⟩
def yNC:Nat→Option Seg:=fun _=>none
abbrev yfa:List Par:= [.rd tM,.rd tI,.rd tL]
abbrev yoR:List OT:= [⟨false,tM,(.pr (.ow .fz) (.pr (.ow (.pr .fz .fz)) (.pr .fz (.ow .fz))))⟩,⟨false,tB,.fz⟩]
def ykv (a0:dM) (a1:Int) (a2:List Int):Option (ResD yoR×MutD yfa) :=
 let r1:=yb2 a0
 let r2:=ya2 a0
 bif (!(!r2)) then
 bif (!a0.2.2.1) then
 let r3:=ya a1 0 (IntKind.i64.wrap ((a0.1.length:Int) - 1))
 bif (!(!r3)) then
 let r4:=yg7 a2
 bif (!(!r4)) then
 bif (leb 60 (a0.2.1.length:Int)) then
 some ((r1,false,()),())
 else
 bif (zj4 ([]:List Int).length a2.length 8) then
 bif (zj4 r1.2.1.length ([(a1,(([]:List Int)++a2))]:List dW).length 32) then
 let r5:=yg8 a0.2.2.2 a1
 some (((r1.1,(r1.2.1++([(a1,(([]:List Int)++a2))]:List dW)),r1.2.2.1,r5),true,()),())
 else none
 else none
 else
 some ((r1,false,()),())
 else
 some ((r1,false,()),())
 else
 some ((r1,false,()),())
 else
 some ((r1,false,()),())
theorem yUf (x:InD yfa):zjH ⟨yFS,55,yNC⟩ Tryz.f264.results.toList yFd yfa yoR x=ykv x.1 x.2.1 x.2.2.1:=by kernel_rfl
theorem yPd:ConOk Tryz.prog 264 ⟨yfa,yoR,fun x=>ykv x.1 x.2.1 x.2.2.1⟩:=zkh (yMq) Tryz.func264 (by kernel_rfl) (by kernel_rfl) Tryz.ntmps264.symm (by decide) (fun x r h=>(yUf x).trans h)
def yjr (a0:dM) (a1:Int) (a2:List Int):dM×Bool:=yhd a0 a1 a2
theorem yR9 (a0:dM) (a1:Int) (a2:List Int) (hk:zi9 yfa (a0,a1,a2,())):ykv a0 a1 a2=(fun n=>some ((n.1,n.2,()),())) (yjr a0 a1 a2):=by
 have hb1:a0.1.length * 24≤2 ^ 47:=hk.1.1.1
 have hb2:a2.length * 8≤2 ^ 47:=hk.2.2.1.1
 unfold ykv yjr yhd yxX
 simp only [yb2,ya2,ywn (show a0.1.length≤1152921504606846976 by omega),yG0,yg8,List.nil_append]
 cases yu a0
 ·rfl
 cases a0.2.2.1
 ·cases inb a1 a0.1.length
  ·rfl
  cases ybA a2
  ·rfl
  by_cases h:(a0.2.1.length:Int) < 60
  ·rw [zjI h,zkZ h,zkw.2 (show (([]:List Int).length+a2.length) * 8≤140737488355328 by rw [List.length_nil]; omega),zkw.2 (show (a0.2.1.length+ [(a1,a2)].length) * 32≤140737488355328 by simp only [List.length_cons,List.length_nil]; omega)]; rfl
  ·rw [zkm (by omega),zk0 (by omega)]; rfl
 ·rfl
def yBD:Con:=⟨yfa,yoR,fun x=>(fun n=>some ((n.1,n.2,()),())) (yjr x.1 x.2.1 x.2.2.1)⟩
theorem ySO:ConOk Tryz.prog 264 yBD:=(yPd).mono (fun x r hk h=>(yR9 x.1 x.2.1 x.2.2.1 hk).trans h)
end
section
def yK5:Code:=(Tryz.f207.body).getD .skip
def yLu:Env:=zki TT [(263,yAj),(264,yBD)] []
theorem yU0:FrOk Tryz.prog ⟨yLu,43,fun _=>none⟩ yK5:=zkp yb yc ⟨yM7,ySO,trivial⟩
def yXm:Nat→Option Seg:=fun _=>none
abbrev ygE:List Par:= [.pt tA (.pr .fz (.pr (.pr .fz .fz) (.pr (.ow (.pr (.ow .fz) (.pr (.ow (.pr .fz .fz)) (.pr .fz (.ow .fz))))) (.pr .fz (.pr .fz (.pr .fz (.pr .fz (.pr .fz (.pr (.ow (.pr .fz .fz)) (.pr .fz (.pr .fz .fz))))))))))),.rd tI,.rd tI,.rd tL]
abbrev yqi:List OT:= []
def yrL (a0:dA) (a1 a2:Int) (a3:List Int):Option (ResD yqi×MutD ygE) :=
 bif (inb a1 a0.2.2.1.length) then
 bif (!((((nth a0.2.2.1 a1 ([],[],false,[])).2).2).1)) then
 let r1:=ysN a0
 bif (!r1.1) then
 some ((),(r1.2,()))
 else
 bif (inb a1 r1.2.2.2.1.length) then
 let r2:=yjr ((nth r1.2.2.2.1 a1 ([],[],false,[])).1,((nth r1.2.2.2.1 a1 ([],[],false,[])).2).1,(((nth r1.2.2.2.1 a1 ([],[],false,[])).2).2)) a2 a3
 bif (inb a1 r1.2.2.2.1.length) then
 some ((),((r1.2.1,r1.2.2.1,(r1.2.2.2.1.set (a1).toNat r2.1),r1.2.2.2.2),()))
 else none
 else none
 else
 some ((),(a0,()))
 else none
theorem y2y (x:InD ygE):zjH ⟨yLu,43,yXm⟩ Tryz.f207.results.toList yK5 ygE yqi x=yrL x.1 x.2.1 x.2.2.1 x.2.2.2.1:=by kernel_rfl
theorem yZc:ConOk Tryz.prog 207 ⟨ygE,yqi,fun x=>yrL x.1 x.2.1 x.2.2.1 x.2.2.2.1⟩:=zkh (yU0) Tryz.func207 (by kernel_rfl) (by kernel_rfl) Tryz.ntmps207.symm (by decide) (fun x r h=>(y2y x).trans h)
def ywu (a0:dA) (a1 a2:Int) (a3:List Int):dA:=yeR a0 a1 a2 a3
def yED (a0:dA) (a1 a2:Int) (a3:List Int):Bool:=inb a1 a0.2.2.1.length
theorem y1j (a0:dA) (a1 a2:Int) (a3:List Int) (hk:zi9 ygE (a0,a1,a2,a3,())) (hq:yED a0 a1 a2 a3=true):yrL a0 a1 a2 a3=(fun n=>some ((),(n,()))) (ywu a0 a1 a2 a3):=by
 have hq:inb a1 a0.2.2.1.length=true:=hq
 unfold yrL ywu yeR yz2
 simp only [yW0,yau,hq,zkV,yjr]
 cases (nth a0.2.2.1 a1 yh).2.2.1<;>cases (opA a0).1<;>rfl
def yg9 (a0:dA) (a1 a2:Int) (a3:List Int):Option (ResD yqi×MutD ygE):=bif yED a0 a1 a2 a3 then (fun n=>some ((),(n,()))) (ywu a0 a1 a2 a3) else none
theorem ytN (a0:dA) (a1 a2:Int) (a3:List Int) (h:yED a0 a1 a2 a3=true):yg9 a0 a1 a2 a3=(fun n=>some ((),(n,()))) (ywu a0 a1 a2 a3):=by unfold yg9; rw [h]; rfl
def yrp:Con:=⟨ygE,yqi,fun x=>yg9 x.1 x.2.1 x.2.2.1 x.2.2.2.1⟩
theorem yAv:ConOk Tryz.prog 207 yrp:=(yZc).mono (fun x r hk h=>zkW h (fun hq=>y1j x.1 x.2.1 x.2.2.1 x.2.2.2.1 hk hq))
end
section
def yia:Code:=(Tryz.f286.body).getD .skip
def yos:Env:=zki TT [(152,yo5),(224,yli)] [(32768,(.pr .fz .fz))]
theorem yMl:FrOk Tryz.prog ⟨yos,40,fun _=>none⟩ yia:=zkp yb yc ⟨yx9,ytM,trivial⟩
def yA4:Nat→Option Seg:=fun _=>none
def yaY:Shape:=⟨[(2,false,[.ptr 64 0]),(3,false,[.ptr 4224 0]),(4,false,[.int .i64])],[(64,[.nil,.nil,.bool,.nil]),(4224,[.at 800000000,.at 800000001,.bool,.at 800000002])],[(800000000,tL,.fz),(800000001,tW,(.pr .fz .fz)),(800000002,tI,.fz)]⟩
def yeH:Shape:=⟨[(2,false,[.ptr 64 0]),(3,false,[.ptr 4224 0]),(4,false,[.ci .i64 0])],[(64,[.nil,.nil,.bool,.nil]),(4224,[.at 800000000,.at 800000001,.bool,.at 800000002])],[(800000000,tL,.fz),(800000001,tW,(.pr .fz .fz)),(800000002,tI,.fz)]⟩
def yeB:Shape:=⟨[(2,false,[.ptr 64 0]),(3,false,[.ptr 4224 0])],[(64,[.nil,.nil,.bool,.nil]),(4224,[.at 800000000,.at 800000001,.bool,.at 800000002])],[(800000000,tL,.fz),(800000001,tW,(.pr .fz .fz)),(800000002,tI,.fz)]⟩
def yjb:Shape:=⟨[],[],[]⟩
abbrev ynS (v0:Int) (v1 v2:dM):(yaY).X:=((((),()),((),()),(v0,()),()),(((),(),v1.2.2.1,(),()),((),(),v2.2.2.1,(),()),()),(v2.1,v2.2.1,v2.2.2.2,()))
abbrev yKv (v0 v1:dM):(yeH).X:=((((),()),((),()),((),()),()),(((),(),v0.2.2.1,(),()),((),(),v1.2.2.1,(),()),()),(v1.1,v1.2.1,v1.2.2.2,()))
abbrev yxD (v0 v1:dM):(yeB).X:=((((),()),((),()),()),(((),(),v0.2.2.1,(),()),((),(),v1.2.2.1,(),()),()),(v1.1,v1.2.1,v1.2.2.2,()))
def yoc (v0:Int) (v1 v2:Bool) (v3:List (List Int)) (v4:List dW) (v5:List Int):Option ((yaY).X ⊕ ((yeB).X ⊕ (yjb).X)) :=
 bif (ltb v0 (v4.length:Int)) then
 bif (inb v0 v4.length) then
 bif (inb v0 v4.length) then
 bif (inb ((nth v4 v0 (0,[])).1) v3.length) then
 let r4:=(v3.set ((nth v4 v0 (0,[])).1).toNat ((nth v4 v0 (0,[])).2))
 some (.inl ((((),()),((),()),((IntKind.i64.wrap (v0+1)),()),()),(((),(),v1,(),()),((),(),v2,(),()),()),(r4,v4,v5,())))
 else none
 else none
 else none
 else
 some (.inr (.inl ((((),()),((),()),()),(((),(),v1,(),()),((),(),v2,(),()),()),(v3,v4,v5,()))))
def ybk (x:(yaY).X):=yoc x.1.2.2.1.1 x.2.1.1.2.2.1 x.2.1.2.1.2.2.1 x.2.2.1 x.2.2.2.1 x.2.2.2.2.1
def yxo (x:(yeH).X):(yaY).X:=((((),()),((),()),(0,()),()),(((),(),x.2.1.1.2.2.1,(),()),((),(),x.2.1.2.1.2.2.1,(),()),()),(x.2.2.1,x.2.2.2.1,x.2.2.2.2.1,()))
def yzf:Code:=(zdI yia 64 244).getD .skip
theorem yLI:zdI yia 64 61=some (.block 0 (.loop yzf)):=by kernel_rfl
theorem yNm (x:(yaY).X):zg7 ⟨yos,40,yA4⟩ 0 yzf 244 yaY yeB yjb x=ybk x:=by kernel_rfl
def yxA (x:(yeH).X):Nat:=18446744073709551616
def ypZ (x:(yeH).X):Option ((yeB).X ⊕ (yjb).X):=zr ybk (yxA x) (yxo x)
def yxQ:Seg:=⟨yeH,yeB,yjb,ypZ⟩
def yA5:Nat→Option Seg:=fun q=>bif Nat.beq q 61 then some yxQ else yA4 q
theorem yMm:FrOk Tryz.prog ⟨yos,40,yA5⟩ yia:=(yMl).loop (sg:=yxQ) yaY yxo (by decide) yLI ybk yxA (by decide) (fun _=>rfl) (fun x r _ h=>h) yNm
abbrev ye7:List Par:= [.rd tM]
abbrev yoN:List OT:= [⟨false,tM,(.pr (.ow .fz) (.pr (.ow (.pr .fz .fz)) (.pr .fz (.ow .fz))))⟩]
def yks (a0:dM):Option (ResD yoN×MutD ye7) :=
 let r1:=yb2 a0
 let r2:=ya2 a0
 bif (!(!r2)) then
 bif a0.2.2.1 then
 some ((r1,()),())
 else
 zjw (ypZ ((((),()),((),()),((),()),()),(((),(),false,(),()),((),(),r1.2.2.1,(),()),()),(r1.1,r1.2.1,r1.2.2.2,()))) (fun y4 =>
 some (((y4.2.2.1,([]:List dW),y4.2.1.2.1.2.2.1,y4.2.2.2.2.1),()),())) (fun y4 =>
 none)
 else
 some ((r1,()),())
theorem yUb (x:InD ye7):zjH ⟨yos,40,yA5⟩ Tryz.f286.results.toList yia ye7 yoN x=yks x.1:=by kernel_rfl
theorem yO9:ConOk Tryz.prog 286 ⟨ye7,yoN,fun x=>yks x.1⟩:=zkh (yMm) Tryz.func286 (by kernel_rfl) (by kernel_rfl) Tryz.ntmps286.symm (by decide) (fun x r h=>(yUb x).trans h)
def yjp (a0:dM):dM:=yfr a0
theorem yR5 (a0:dM) (hk:zi9 ye7 (a0,())):yks a0=(fun n=>some ((n,()),())) (yjp a0):=by
 have hb2:a0.2.1.length * 32≤2 ^ 47:=hk.1.2.1.1
 unfold yks yjp yfr
 simp only [yb2,ya2]
 cases hm:yu a0
 ·rfl
 have h1:ypZ (yKv yh a0)=some (.inl (yxD yh (yeh (fun _=>true) a0.2.1 a0.1,a0.2))) :=
  zks (step:=ybk) a0.2.1.length (fun i s=>ynS i yh (s,a0.2)) (yf2 (fun _=>true) a0.2.1) (fun i s=>s.length=a0.1.length) (fun s=> .inl (yxD yh (s,a0.2))) (fun i s hi hs=>by
   have hw:=(y2M hm hi).1
   refine ⟨?_,yIQ.trans hs⟩
   simp only [ybk,ynS,yoc,zjI (show (i:Int) < a0.2.1.length by omega),cond_true,wr (show -9223372036854775808≤(i:Int)+1 by omega) (by omega),Int.natCast_add,Int.natCast_one,Int.toNat_natCast,zkO hi,hs,hw,yf2]) (fun s hs=>by simp only [ybk,ynS,yoc,zkm (Int.le_refl _),cond_false]) a0.1 rfl _ (by show _ < 18446744073709551616; omega)
 rw [h1]
 cases hf:a0.2.2.1
 ·exact congrArg (fun z=>some (((yeh (fun _=>true) a0.2.1 a0.1,([]:List dW),z,a0.2.2.2),()),())) hf
 ·rfl
def yBA:Con:=⟨ye7,yoN,fun x=>(fun n=>some ((n,()),())) (yjp x.1)⟩
theorem ySL:ConOk Tryz.prog 286 yBA:=(yO9).mono (fun x r hk h=>(yR5 x.1 hk).trans h)
end
end
end Go.Tf
