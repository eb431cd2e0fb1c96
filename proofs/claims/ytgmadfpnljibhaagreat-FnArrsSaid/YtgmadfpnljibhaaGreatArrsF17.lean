/- Functions of the program, and what they come to. -/
import Derived.Test.YtgmadfpnljibhaaGreatArrsF16
namespace Go.Tf
noncomputable section
open Go.Proofs
set_option synthInstance.maxHeartbeats 400000
set_option synthInstance.maxSize 10000
set_option linter.unusedVariables false
set_option linter.unusedSimpArgs false
set_option maxRecDepth 100000
section
def yNR:Code:=(Tryz.f263.body).getD .skip
def yNT:Env:=zj2 TT [] []
theorem yVU:FrOk Tryz.prog ⟨yNT,31,fun _=>none⟩ yNR:=zj6 yc yd trivial
def yXU:Nat→Option Seg:=fun _=>none
abbrev yrQ:List Par:= [.pt tA (.pr .fz (.pr (.pr .fz .fz) (.pr (.ow (.pr (.ow .fz) (.pr (.ow (.pr .fz .fz)) (.pr .fz (.ow .fz))))) (.pr .fz (.pr .fz (.pr .fz (.pr .fz (.pr .fz (.pr (.ow (.pr .fz .fz)) (.pr .fz (.pr .fz .fz)))))))))))]
abbrev yxw:List OT:= [⟨false,tB,.fz⟩]
def yy2 (a0:dA):Option (ResD yxw×MutD yrQ) :=
 bif a0.2.2.2.2.2.2.2.2.2.2.1 then
 some ((false,()),(a0,()))
 else
 bif (a0.2.2.2.2.2.2.2.2.2.1==0) then
 some ((false,()),((a0.1,a0.2.1,a0.2.2.1,a0.2.2.2.1,a0.2.2.2.2.1,a0.2.2.2.2.2.1,a0.2.2.2.2.2.2.1,a0.2.2.2.2.2.2.2.1,a0.2.2.2.2.2.2.2.2.1,(-1),true,a0.2.2.2.2.2.2.2.2.2.2.2),()))
 else
 bif (ltb 0 a0.2.2.2.2.2.2.2.2.2.1) then
 some ((true,()),((a0.1,a0.2.1,a0.2.2.1,a0.2.2.2.1,a0.2.2.2.2.1,a0.2.2.2.2.2.1,a0.2.2.2.2.2.2.1,a0.2.2.2.2.2.2.2.1,a0.2.2.2.2.2.2.2.2.1,(IntKind.i64.wrap (a0.2.2.2.2.2.2.2.2.2.1 - 1)),a0.2.2.2.2.2.2.2.2.2.2),()))
 else
 some ((true,()),(a0,()))
theorem y0A (x:InD yrQ):zjx ⟨yNT,31,yXU⟩ Tryz.f263.results.toList yNR yrQ yxw x=yy2 x.1:=by kernel_rfl
theorem yY1:ConOk Tryz.prog 263 ⟨yrQ,yxw,fun x=>yy2 x.1⟩:=zj1 (yVU) Tryz.func263 (by kernel_rfl) (by kernel_rfl) Tryz.ntmps263.symm (by decide) (fun x r h=>(y0A x).trans h)
def yrY (a0:dA):Bool×dA :=
 bif a0.2.2.2.2.2.2.2.2.2.2.1 then
 (false,a0)
 else
 bif (a0.2.2.2.2.2.2.2.2.2.1==0) then
 (false,(a0.1,a0.2.1,a0.2.2.1,a0.2.2.2.1,a0.2.2.2.2.1,a0.2.2.2.2.2.1,a0.2.2.2.2.2.2.1,a0.2.2.2.2.2.2.2.1,a0.2.2.2.2.2.2.2.2.1,(-1),true,a0.2.2.2.2.2.2.2.2.2.2.2))
 else
 bif (ltb 0 a0.2.2.2.2.2.2.2.2.2.1) then
 (true,(a0.1,a0.2.1,a0.2.2.1,a0.2.2.2.1,a0.2.2.2.2.1,a0.2.2.2.2.2.1,a0.2.2.2.2.2.2.1,a0.2.2.2.2.2.2.2.1,a0.2.2.2.2.2.2.2.2.1,(IntKind.i64.wrap (a0.2.2.2.2.2.2.2.2.2.1 - 1)),a0.2.2.2.2.2.2.2.2.2.2))
 else
 (true,a0)
def yyK:Con:=⟨yrQ,yxw,fun x=>(fun n=>some ((n.1,()),(n.2,()))) (yrY x.1)⟩
theorem y0e (a0:dA):yy2 a0=(fun n=>some ((n.1,()),(n.2,()))) (yrY a0):=zkp (p:=fun (n:Bool×dA)=>((n.1,()),(n.2,()))) (zkb (p:=fun (n:Bool×dA)=>((n.1,()),(n.2,()))) rfl (zkb (p:=fun (n:Bool×dA)=>((n.1,()),(n.2,()))) rfl (zkb (p:=fun (n:Bool×dA)=>((n.1,()),(n.2,()))) rfl rfl)))
theorem yLj:ConOk Tryz.prog 263 yyK:=(yY1).mono (fun x r _ h=>(y0e x.1).trans h)
theorem yU1 (a:dA):yrY a=opA a:=by kernel_rfl
end
section
def ydz:Code:=(Tryz.f152.body).getD .skip
def yhD:Env:=zj2 TT [] [(21056,.fz),(21120,.fz),(37952,(.pr .fz .fz)),(38016,(.pr .fz .fz))]
theorem yO7:FrOk Tryz.prog ⟨yhD,60,fun _=>none⟩ ydz:=zj6 yc yd trivial
def yDw:Nat→Option Seg:=fun _=>none
def yb4:Shape:=⟨[(1,false,[.ptr 0 0]),(2,false,[.ptr 64 0]),(3,false,[.ptr 4544 0]),(4,false,[.int .i64])],[(0,[.br tL,.br tW,.bool,.br tI]),(64,[.nil,.nil,.bool,.nil]),(4544,[.at 800000001,.nil,.bool,.at 800000000])],[(800000001,tL,.fz),(800000000,tI,.fz)]⟩
def yg2:Shape:=⟨[(1,false,[.ptr 0 0]),(2,false,[.ptr 64 0]),(3,false,[.ptr 4544 0]),(4,false,[.ci .i64 0])],[(0,[.br tL,.br tW,.bool,.br tI]),(64,[.nil,.nil,.bool,.nil]),(4544,[.at 800000001,.nil,.bool,.at 800000000])],[(800000001,tL,.fz),(800000000,tI,.fz)]⟩
def ygQ:Shape:=⟨[(1,false,[.ptr 0 0]),(2,false,[.ptr 64 0]),(3,false,[.ptr 4544 0])],[(0,[.br tL,.br tW,.bool,.br tI]),(64,[.nil,.nil,.bool,.nil]),(4544,[.at 800000000,.nil,.bool,.at 800000001])],[(800000000,tL,.fz),(800000001,tI,.fz)]⟩
def yly:Shape:=⟨[],[],[]⟩
abbrev yrq (v0:Int) (v1 v2 v3:dM):(yb4).X:=((((),()),((),()),((),()),(v0,()),()),((v1.1,v1.2.1,v1.2.2.1,v1.2.2.2,()),((),(),v2.2.2.1,(),()),((),(),v3.2.2.1,(),()),()),(v3.1,v3.2.2.2,()))
abbrev yMY (v0 v1 v2:dM):(yg2).X:=((((),()),((),()),((),()),((),()),()),((v0.1,v0.2.1,v0.2.2.1,v0.2.2.2,()),((),(),v1.2.2.1,(),()),((),(),v2.2.2.1,(),()),()),(v2.1,v2.2.2.2,()))
abbrev yAl (v0 v1 v2:dM):(ygQ).X:=((((),()),((),()),((),()),()),((v0.1,v0.2.1,v0.2.2.1,v0.2.2.2,()),((),(),v1.2.2.1,(),()),((),(),v2.2.2.1,(),()),()),(v2.1,v2.2.2.2,()))
def yrF (v0:Int) (v1:List (List Int)) (v2:List dW) (v3:Bool) (v4:List Int) (v5 v6:Bool) (v7:List (List Int)) (v8:List Int):Option ((yb4).X ⊕ ((ygQ).X ⊕ (yly).X)) :=
 bif (ltb v0 (v1.length:Int)) then
 bif (inb v0 v1.length) then
 bif (zjR ([]:List Int).length (nth v1 v0 []).length 8) then
 bif (zjR v7.length ([(([]:List Int)++(nth v1 v0 []))]:List (List Int)).length 24) then
 some (.inl ((((),()),((),()),((),()),((IntKind.i64.wrap (v0+1)),()),()),((v1,v2,v3,v4,()),((),(),v5,(),()),((),(),v6,(),()),()),((v7++([(([]:List Int)++(nth v1 v0 []))]:List (List Int))),v8,())))
 else none
 else none
 else none
 else
 some (.inr (.inl ((((),()),((),()),((),()),()),((v1,v2,v3,v4,()),((),(),v5,(),()),((),(),v6,(),()),()),(v7,v8,()))))
def ycB (x:(yb4).X):=yrF x.1.2.2.2.1.1 x.2.1.1.1 x.2.1.1.2.1 x.2.1.1.2.2.1 x.2.1.1.2.2.2.1 x.2.1.2.1.2.2.1 x.2.1.2.2.1.2.2.1 x.2.2.1 x.2.2.2.1
def yz0 (x:(yg2).X):(yb4).X:=((((),()),((),()),((),()),(0,()),()),((x.2.1.1.1,x.2.1.1.2.1,x.2.1.1.2.2.1,x.2.1.1.2.2.2.1,()),((),(),x.2.1.2.1.2.2.1,(),()),((),(),x.2.1.2.2.1.2.2.1,(),()),()),(x.2.2.1,x.2.2.2.1,()))
def yBp:Code:=(zdD ydz 64 116).getD .skip
theorem yOj:zdD ydz 64 29=some (.block 0 (.loop yBp)):=by kernel_rfl
theorem yQ7 (x:(yb4).X):zg0 ⟨yhD,60,yDw⟩ 0 yBp 116 yb4 ygQ yly x=ycB x:=by kernel_rfl
def yAc (x:(yg2).X):Nat:=18446744073709551616
def ysZ (x:(yg2).X):Option ((ygQ).X ⊕ (yly).X):=zz ycB (yAc x) (yz0 x)
def yAu:Seg:=⟨yg2,ygQ,yly,ysZ⟩
def yt5:Nat→Option Seg:=fun q=>bif Nat.beq q 29 then some yAu else yDw q
theorem yO8:FrOk Tryz.prog ⟨yhD,60,yt5⟩ ydz:=(yO7).loop (sg:=yAu) yb4 yz0 (by decide) yOj ycB yAc (by decide) (fun _=>rfl) (fun x r _ h=>h) yQ7
def yb5:Shape:=⟨[(1,false,[.ptr 0 0]),(2,false,[.ptr 64 0]),(3,false,[.ptr 4544 0]),(5,false,[.int .i64])],[(0,[.br tL,.br tW,.bool,.br tI]),(64,[.nil,.nil,.bool,.nil]),(4544,[.at 800000000,.at 800000002,.bool,.at 800000001])],[(800000000,tL,.fz),(800000002,tW,(.pr .fz .fz)),(800000001,tI,.fz)]⟩
def yg3:Shape:=⟨[(1,false,[.ptr 0 0]),(2,false,[.ptr 64 0]),(3,false,[.ptr 4544 0]),(5,false,[.ci .i64 0])],[(0,[.br tL,.br tW,.bool,.br tI]),(64,[.nil,.nil,.bool,.nil]),(4544,[.at 800000000,.at 800000002,.bool,.at 800000001])],[(800000000,tL,.fz),(800000002,tW,(.pr .fz .fz)),(800000001,tI,.fz)]⟩
def ygR:Shape:=⟨[(2,false,[.ptr 64 0]),(3,false,[.ptr 4544 0])],[(64,[.nil,.nil,.bool,.nil]),(4544,[.at 800000000,.at 800000001,.bool,.at 800000002])],[(800000000,tL,.fz),(800000001,tW,(.pr .fz .fz)),(800000002,tI,.fz)]⟩
def ylz:Shape:=⟨[],[],[]⟩
abbrev yrr (v0:Int) (v1 v2 v3:dM):(yb5).X:=((((),()),((),()),((),()),(v0,()),()),((v1.1,v1.2.1,v1.2.2.1,v1.2.2.2,()),((),(),v2.2.2.1,(),()),((),(),v3.2.2.1,(),()),()),(v3.1,v3.2.1,v3.2.2.2,()))
abbrev yMZ (v0 v1 v2:dM):(yg3).X:=((((),()),((),()),((),()),((),()),()),((v0.1,v0.2.1,v0.2.2.1,v0.2.2.2,()),((),(),v1.2.2.1,(),()),((),(),v2.2.2.1,(),()),()),(v2.1,v2.2.1,v2.2.2.2,()))
abbrev yAm (v0 v1:dM):(ygR).X:=((((),()),((),()),()),(((),(),v0.2.2.1,(),()),((),(),v1.2.2.1,(),()),()),(v1.1,v1.2.1,v1.2.2.2,()))
def yrG (v0:Int) (v1:List (List Int)) (v2:List dW) (v3:Bool) (v4:List Int) (v5 v6:Bool) (v7:List (List Int)) (v8:List dW) (v9:List Int):Option ((yb5).X ⊕ ((ygR).X ⊕ (ylz).X)) :=
 bif (ltb v0 (v2.length:Int)) then
 bif (inb v0 v2.length) then
 bif (inb v0 v2.length) then
 bif (zjR ([]:List Int).length ((nth v2 v0 (0,[])).2).length 8) then
 bif (zjR v8.length ([((nth v2 v0 (0,[])).1,(([]:List Int)++((nth v2 v0 (0,[])).2)))]:List dW).length 32) then
 some (.inl ((((),()),((),()),((),()),((IntKind.i64.wrap (v0+1)),()),()),((v1,v2,v3,v4,()),((),(),v5,(),()),((),(),v6,(),()),()),(v7,(v8++([((nth v2 v0 (0,[])).1,(([]:List Int)++((nth v2 v0 (0,[])).2)))]:List dW)),v9,())))
 else none
 else none
 else none
 else none
 else
 some (.inr (.inl ((((),()),((),()),()),(((),(),v5,(),()),((),(),v6,(),()),()),(v7,v8,v9,()))))
def ycC (x:(yb5).X):=yrG x.1.2.2.2.1.1 x.2.1.1.1 x.2.1.1.2.1 x.2.1.1.2.2.1 x.2.1.1.2.2.2.1 x.2.1.2.1.2.2.1 x.2.1.2.2.1.2.2.1 x.2.2.1 x.2.2.2.1 x.2.2.2.2.1
def yz1 (x:(yg3).X):(yb5).X:=((((),()),((),()),((),()),(0,()),()),((x.2.1.1.1,x.2.1.1.2.1,x.2.1.1.2.2.1,x.2.1.1.2.2.2.1,()),((),(),x.2.1.2.1.2.2.1,(),()),((),(),x.2.1.2.2.1.2.2.1,(),()),()),(x.2.2.1,x.2.2.2.1,x.2.2.2.2.1,()))
def yBq:Code:=(zdD ydz 64 244).getD .skip
theorem yOk:zdD ydz 64 61=some (.block 2 (.loop yBq)):=by kernel_rfl
theorem yQ8 (x:(yb5).X):zg0 ⟨yhD,60,yt5⟩ 2 yBq 244 yb5 ygR ylz x=ycC x:=by kernel_rfl
def yAd (x:(yg3).X):Nat:=18446744073709551616
def ys0 (x:(yg3).X):Option ((ygR).X ⊕ (ylz).X):=zz ycC (yAd x) (yz1 x)
def yAv:Seg:=⟨yg3,ygR,ylz,ys0⟩
def yDx:Nat→Option Seg:=fun q=>bif Nat.beq q 61 then some yAv else yt5 q
theorem yO9:FrOk Tryz.prog ⟨yhD,60,yDx⟩ ydz:=(yO8).loop (sg:=yAv) yb5 yz1 (by decide) yOk ycC yAd (by decide) (fun _=>rfl) (fun x r _ h=>h) yQ8
abbrev yhP:List Par:= [.rd tM]
abbrev ysA:List OT:= [⟨false,tM,(.pr (.ow .fz) (.pr (.ow (.pr .fz .fz)) (.pr .fz (.ow .fz))))⟩]
def yoI (a0:dM):Option (ResD ysA×MutD yhP) :=
 bif (zjR ([]:List Int).length a0.2.2.2.length 8) then
 zkh (ysZ ((((),()),((),()),((),()),((),()),()),((a0.1,a0.2.1,a0.2.2.1,a0.2.2.2,()),((),(),false,(),()),((),(),a0.2.2.1,(),()),()),([],(([]:List Int)++a0.2.2.2),()))) (fun y0 =>
 zkh (ys0 ((((),()),((),()),((),()),((),()),()),((y0.2.1.1.1,y0.2.1.1.2.1,y0.2.1.1.2.2.1,y0.2.1.1.2.2.2.1,()),((),(),y0.2.1.2.1.2.2.1,(),()),((),(),y0.2.1.2.2.1.2.2.1,(),()),()),(y0.2.2.1,[],y0.2.2.2.1,()))) (fun y1 =>
 some (((y1.2.2.1,y1.2.2.2.1,y1.2.1.2.1.2.2.1,y1.2.2.2.2.1),()),())) (fun y1 =>
 none)) (fun y0 =>
 none)
 else none
theorem yYo (x:InD yhP):zjx ⟨yhD,60,yDx⟩ Tryz.f152.results.toList ydz yhP ysA x=yoI x.1:=by kernel_rfl
theorem yUf:ConOk Tryz.prog 152 ⟨yhP,ysA,fun x=>yoI x.1⟩:=zj1 (yO9) Tryz.func152 (by kernel_rfl) (by kernel_rfl) Tryz.ntmps152.symm (by decide) (fun x r h=>(yYo x).trans h)
def yab (a0:dM):dM:=a0
theorem yWo (a0:dM) (hk:zi2 yhP (a0,())):yoI a0=(fun n=>some ((n,()),())) (yab a0):=by
 have hb1:a0.1.length * 24≤2 ^ 47:=hk.1.1.1
 have hb2:a0.2.1.length * 32≤2 ^ 47:=hk.1.2.1.1
 have hb3:a0.2.2.2.length * 8≤2 ^ 47:=hk.1.2.2.2.1
 have hs: ∀ i,i < a0.1.length→(a0.1.getD i []).length * 8≤2 ^ 47:=fun i hi=>by rw [zkd hi]; exact (hk.1.1.2 _ (List.getElem_mem hi)).1
 have hc: ∀ i,i < a0.2.1.length→(a0.2.1.getD i (0,[])).2.length * 8≤2 ^ 47:=fun i hi=>by rw [zkd hi]; exact (hk.1.2.1.2 _ (List.getElem_mem hi)).2.1
 have h1:ysZ (yMY a0 noMem ([],[],a0.2.2.1,a0.2.2.2))=some (.inl (yAl a0 noMem (a0.1,[],a0.2.2.1,a0.2.2.2))):=by
  have:=zj3 (step:=ycB) a0.1 [] (fun i s=>yrq i a0 noMem (s,[],a0.2.2.1,a0.2.2.2)) (fun s x=>s++ [x]) (fun i s=>s.length=i) (fun s=> .inl (yAl a0 noMem (s,[],a0.2.2.1,a0.2.2.2))) (fun i s hi hs2=>⟨by
   have:=hs i hi
   simp only [ycB,yrq,yrF,zj4 (show (i:Int) < a0.1.length by omega),cond_true,wr (show -9223372036854775808≤(i:Int)+1 by omega) (by omega),Int.natCast_add,Int.natCast_one,Int.toNat_natCast,zkl hi,zkm,List.nil_append]
   rw [zka.2 (show (([]:List Int).length+(a0.1.getD i []).length) * 8≤140737488355328 by rw [List.length_nil]; omega),zka.2 (show (s.length+ [a0.1.getD i []].length) * 24≤140737488355328 by simp only [List.length_cons,List.length_nil]; omega)]; rfl,by simp [hs2]⟩) (fun s _=>by simp only [ycB,yrq,yrF,zkx (Int.le_refl _),cond_false]) [] rfl 18446744073709551616 (by omega)
  rw [yB2]at this
  exact this
 have h2:ys0 (yMZ a0 noMem (a0.1,[],a0.2.2.1,a0.2.2.2))=some (.inl (yAm noMem a0)):=by
  have:=zj3 (step:=ycC) a0.2.1 (0,[]) (fun i s=>yrr i a0 noMem (a0.1,s,a0.2.2.1,a0.2.2.2)) (fun s x=>s++ [x]) (fun i s=>s.length=i) (fun s=> .inl (yAm noMem (a0.1,s,a0.2.2.1,a0.2.2.2))) (fun i s hi hs2=>⟨by
   have:=hc i hi
   simp only [ycC,yrr,yrG,zj4 (show (i:Int) < a0.2.1.length by omega),cond_true,wr (show -9223372036854775808≤(i:Int)+1 by omega) (by omega),Int.natCast_add,Int.natCast_one,Int.toNat_natCast,zkl hi,zkm,List.nil_append,zkr]
   rw [zka.2 (show (([]:List Int).length+(a0.2.1.getD i (0,[])).2.length) * 8≤140737488355328 by rw [List.length_nil]; omega),zka.2 (show (s.length+ [a0.2.1.getD i (0,[])].length) * 32≤140737488355328 by simp only [List.length_cons,List.length_nil]; omega)]; rfl,by simp [hs2]⟩) (fun s _=>by simp only [ycC,yrr,yrG,zkx (Int.le_refl _),cond_false]) [] rfl 18446744073709551616 (by omega)
  rw [yB2]at this
  exact this
 unfold yoI yab
 rw [zka.2 (show (([]:List Int).length+a0.2.2.2.length) * 8≤140737488355328 by rw [List.length_nil]; omega)]
 simp only [cond_true,List.nil_append,h1,zki,h2]
def yi2:Con:=⟨yhP,ysA,fun x=>(fun n=>some ((n,()),())) (yab x.1)⟩
theorem yqK:ConOk Tryz.prog 152 yi2:=(yUf).mono (fun x r hk h=>(yWo x.1 hk).trans h)
end
section
def ygC:Code:=(Tryz.f287.body).getD .skip
def yln:Env:=zj2 TT [] []
theorem yIT:FrOk Tryz.prog ⟨yln,28,fun _=>none⟩ ygC:=zj6 yc yd trivial
def yxG:Nat→Option Seg:=fun _=>none
def yaC:Shape:=⟨[(0,false,[.br tI]),(1,false,[.int .i64]),(5,false,[.at 800000000]),(6,false,[.int .i64])],[],[(800000000,tI,.fz)]⟩
def ydR:Shape:=⟨[(0,false,[.br tI]),(1,false,[.int .i64]),(5,false,[.at 800000000]),(6,false,[.ci .i64 0])],[],[(800000000,tI,.fz)]⟩
def ydK:Shape:=⟨[(5,false,[.at 800000000])],[],[(800000000,tI,.fz)]⟩
def yhx:Shape:=⟨[],[],[]⟩
abbrev ylM (v0:List Int) (v1 v2:Int) (v3:List Int):(yaC).X:=(((v0,()),(v1,()),((),()),(v2,()),()),(),(v3,()))
abbrev yHe (v0:List Int) (v1:Int) (v2:List Int):(ydR).X:=(((v0,()),(v1,()),((),()),((),()),()),(),(v2,()))
abbrev yG8 (v0:List Int):(ydK).X:=((((),()),()),(),(v0,()))
def yl9 (v0:List Int) (v1 v2:Int) (v3:List Int):Option ((yaC).X ⊕ ((ydK).X ⊕ (yhx).X)) :=
 bif (ltb v2 (v0.length:Int)) then
 bif (inb v2 v0.length) then
 bif ((nth v0 v2 0) !=v1) then
 bif (inb v2 v0.length) then
 bif (zjR v3.length ([(nth v0 v2 0)]:List Int).length 8) then
 some (.inl (((v0,()),(v1,()),((),()),((IntKind.i64.wrap (v2+1)),()),()),(),((v3++([(nth v0 v2 0)]:List Int)),())))
 else none
 else none
 else
 some (.inl (((v0,()),(v1,()),((),()),((IntKind.i64.wrap (v2+1)),()),()),(),(v3,())))
 else none
 else
 some (.inr (.inl ((((),()),()),(),(v3,()))))
def yaV (x:(yaC).X):=yl9 x.1.1.1 x.1.2.1.1 x.1.2.2.2.1.1 x.2.2.1
def yvg (x:(ydR).X):(yaC).X:=(((x.1.1.1,()),(x.1.2.1.1,()),((),()),(0,()),()),(),(x.2.2.1,()))
def ywe:Code:=(zdD ygC 64 116).getD .skip
theorem yIL:zdD ygC 64 29=some (.block 0 (.loop ywe)):=by kernel_rfl
theorem yJm (x:(yaC).X):zg0 ⟨yln,28,yxG⟩ 0 ywe 116 yaC ydK yhx x=yaV x:=by kernel_rfl
def yvn (x:(ydR).X):Nat:=18446744073709551616
def ynk (x:(ydR).X):Option ((ydK).X ⊕ (yhx).X):=zz yaV (yvn x) (yvg x)
def yv2:Seg:=⟨ydR,ydK,yhx,ynk⟩
def yxH:Nat→Option Seg:=fun q=>bif Nat.beq q 29 then some yv2 else yxG q
theorem yIU:FrOk Tryz.prog ⟨yln,28,yxH⟩ ygC:=(yIT).loop (sg:=yv2) yaC yvg (by decide) yIL yaV yvn (by decide) (fun _=>rfl) (fun x r _ h=>h) yJm
abbrev ydW:List Par:= [.rd tL,.rd tI]
abbrev ylu:List OT:= [⟨false,tL,(.ow .fz)⟩]
def yjj (a0:List Int) (a1:Int):Option (ResD ylu×MutD ydW) :=
 zkh (ynk (((a0,()),(a1,()),((),()),((),()),()),(),(([]:List Int),()))) (fun y0 =>
 some ((y0.2.2.1,()),())) (fun y0 =>
 none)
theorem yOz (x:InD ydW):zjx ⟨yln,28,yxH⟩ Tryz.f287.results.toList ygC ydW ylu x=yjj x.1 x.2.1:=by kernel_rfl
theorem yLe:ConOk Tryz.prog 287 ⟨ydW,ylu,fun x=>yjj x.1 x.2.1⟩:=zj1 (yIU) Tryz.func287 (by kernel_rfl) (by kernel_rfl) Tryz.ntmps287.symm (by decide) (fun x r h=>(yOz x).trans h)
def yhn (a0:List Int) (a1:Int):List Int:=yXt a0 a1
theorem yKb {α:Type} (p:α→Bool): ∀ (l:List α) (s:List α),l.foldl (fun s x=>bif p x then s++ [x] else s) s=s++l.filter p
 | [],s=>by simp
 | x::l,s=>by
  rw [List.foldl_cons,yKb p l,List.filter_cons]
  cases p x<;>simp
theorem yNa (a0:List Int) (a1:Int) (hk:zi2 ydW (a0,a1,())):yjj a0 a1=(fun n=>some ((n,()),())) (yhn a0 a1):=by
 have hb:a0.length * 8≤2 ^ 47:=hk.1.1
 have h1:=zj3 (step:=yaV) a0 0 (fun i s=>ylM a0 a1 i s) (fun s x=>bif x !=a1 then s++ [x] else s) (fun i s=>s.length≤i) (fun s=> .inl (yG8 s)) (fun i s hi hs=>by
   constructor
   ·simp only [yaV,ylM,yl9,zj4 (show (i:Int) < a0.length by omega),cond_true,wr (show -9223372036854775808≤(i:Int)+1 by omega) (by omega),Int.natCast_add,Int.natCast_one,Int.toNat_natCast,zkl hi,zkm]
    rw [zka.2 (show (s.length+ [a0.getD i 0].length) * 8≤140737488355328 by simp only [List.length_cons,List.length_nil]; omega)]
    cases (a0.getD i 0 !=a1)<;>rfl
   ·cases (a0.getD i 0 !=a1)
    ·show s.length≤_; omega
    ·simp only [cond_true,List.length_append,List.length_cons,List.length_nil]; omega) (fun s _=>by simp only [yaV,ylM,yl9,zkx (Int.le_refl _),cond_false]) [] (Nat.le_refl _) 18446744073709551616 (by omega)
 unfold yjj yhn yXt
 rw [show ynk (yHe a0 a1 [])=_ from h1,yKb]; rfl
def yxW:Con:=⟨ydW,ylu,fun x=>(fun n=>some ((n,()),())) (yhn x.1 x.2.1)⟩
theorem yND:ConOk Tryz.prog 287 yxW:=(yLe).mono (fun x r hk h=>(yNa x.1 x.2.1 hk).trans h)
end
section
def yDk:Code:=(Tryz.f264.body).getD .skip
def yDY:Env:=zj2 TT [(135,yr),(152,yi2),(224,ygq),(269,ywY),(287,yxW)] [(16832,(.pr .fz .fz))]
theorem yKF:FrOk Tryz.prog ⟨yDY,55,fun _=>none⟩ yDk:=zj6 yc yd ⟨yx,yqK,ym5,yIt,yND,trivial⟩
def yLS:Nat→Option Seg:=fun _=>none
abbrev ye4:List Par:= [.rd tM,.rd tI,.rd tL]
abbrev yn7:List OT:= [⟨false,tM,(.pr (.ow .fz) (.pr (.ow (.pr .fz .fz)) (.pr .fz (.ow .fz))))⟩,⟨false,tB,.fz⟩]
def yj6 (a0:dM) (a1:Int) (a2:List Int):Option (ResD yn7×MutD ye4) :=
 let r1:=yab a0
 let r2:=yag a0
 bif (!(!r2)) then
 bif (!a0.2.2.1) then
 let r3:=ya a1 0 (IntKind.i64.wrap ((a0.1.length:Int) - 1))
 bif (!(!r3)) then
 let r4:=yhl a2
 bif (!(!r4)) then
 bif (leb 60 (a0.2.1.length:Int)) then
 some ((r1,false,()),())
 else
 bif (zjR ([]:List Int).length a2.length 8) then
 bif (zjR r1.2.1.length ([(a1,(([]:List Int)++a2))]:List dW).length 32) then
 let r5:=yhn a0.2.2.2 a1
 some (((r1.1,(r1.2.1++([(a1,(([]:List Int)++a2))]:List dW)),r1.2.2.1,r5),true,()),())
 else none
 else none
 else
 some ((r1,false,()),())
 else
 some ((r1,false,()),())
 else
 some ((r1,false,()),())
 else
 some ((r1,false,()),())
theorem ySm (x:InD ye4):zjx ⟨yDY,55,yLS⟩ Tryz.f264.results.toList yDk ye4 yn7 x=yj6 x.1 x.2.1 x.2.2.1:=by kernel_rfl
theorem yNv:ConOk Tryz.prog 264 ⟨ye4,yn7,fun x=>yj6 x.1 x.2.1 x.2.2.1⟩:=zj1 (yKF) Tryz.func264 (by kernel_rfl) (by kernel_rfl) Tryz.ntmps264.symm (by decide) (fun x r h=>(ySm x).trans h)
def yc7 (a0:dM) (a1:Int) (a2:List Int):dM×Bool:=ya8 a0 a1 a2
theorem yQj (a0:dM) (a1:Int) (a2:List Int) (hk:zi2 ye4 (a0,a1,a2,())):yj6 a0 a1 a2=(fun n=>some ((n.1,n.2,()),())) (yc7 a0 a1 a2):=by
 have hb1:a0.1.length * 24≤2 ^ 47:=hk.1.1.1
 have hb2:a2.length * 8≤2 ^ 47:=hk.2.2.1.1
 unfold yj6 yc7 ya8 yjl
 simp only [yab,yag,ypA (show a0.1.length≤1152921504606846976 by omega),yFf,yhn,List.nil_append]
 cases yq a0
 ·rfl
 cases a0.2.2.1
 ·cases inb a1 a0.1.length
  ·rfl
  cases yS a2
  ·rfl
  by_cases h:(a0.2.1.length:Int) < 60
  ·rw [zj4 h,zkv h,zka.2 (show (([]:List Int).length+a2.length) * 8≤140737488355328 by rw [List.length_nil]; omega),zka.2 (show (a0.2.1.length+ [(a1,a2)].length) * 32≤140737488355328 by simp only [List.length_cons,List.length_nil]; omega)]; rfl
  ·rw [zkx (by omega),zkw (by omega)]; rfl
 ·rfl
def yrk:Con:=⟨ye4,yn7,fun x=>(fun n=>some ((n.1,n.2,()),())) (yc7 x.1 x.2.1 x.2.2.1)⟩
theorem yCA:ConOk Tryz.prog 264 yrk:=(yNv).mono (fun x r hk h=>(yQj x.1 x.2.1 x.2.2.1 hk).trans h)
end
section
def yJB:Code:=(Tryz.f207.body).getD .skip
def yJU:Env:=zj2 TT [(263,yyK),(264,yrk)] []
theorem yS6:FrOk Tryz.prog ⟨yJU,43,fun _=>none⟩ yJB:=zj6 yc yd ⟨yLj,yCA,trivial⟩
def yVj:Nat→Option Seg:=fun _=>none
abbrev ygH:List Par:= [.pt tA (.pr .fz (.pr (.pr .fz .fz) (.pr (.ow (.pr (.ow .fz) (.pr (.ow (.pr .fz .fz)) (.pr .fz (.ow .fz))))) (.pr .fz (.pr .fz (.pr .fz (.pr .fz (.pr .fz (.pr (.ow (.pr .fz .fz)) (.pr .fz (.pr .fz .fz))))))))))),.rd tI,.rd tI,.rd tL]
abbrev ypq:List OT:= []
def yqV (a0:dA) (a1 a2:Int) (a3:List Int):Option (ResD ypq×MutD ygH) :=
 bif (inb a1 a0.2.2.1.length) then
 bif (!((((nth a0.2.2.1 a1 ([],[],false,[])).2).2).1)) then
 let r1:=yrY a0
 bif (!r1.1) then
 some ((),(r1.2,()))
 else
 bif (inb a1 r1.2.2.2.1.length) then
 let r2:=yc7 ((nth r1.2.2.2.1 a1 ([],[],false,[])).1,((nth r1.2.2.2.1 a1 ([],[],false,[])).2).1,(((nth r1.2.2.2.1 a1 ([],[],false,[])).2).2)) a2 a3
 bif (inb a1 r1.2.2.2.1.length) then
 some ((),((r1.2.1,r1.2.2.1,(r1.2.2.2.1.set (a1).toNat r2.1),r1.2.2.2.2),()))
 else none
 else none
 else
 some ((),(a0,()))
 else none
theorem yZT (x:InD ygH):zjx ⟨yJU,43,yVj⟩ Tryz.f207.results.toList yJB ygH ypq x=yqV x.1 x.2.1 x.2.2.1 x.2.2.2.1:=by kernel_rfl
theorem yWW:ConOk Tryz.prog 207 ⟨ygH,ypq,fun x=>yqV x.1 x.2.1 x.2.2.1 x.2.2.2.1⟩:=zj1 (yS6) Tryz.func207 (by kernel_rfl) (by kernel_rfl) Tryz.ntmps207.symm (by decide) (fun x r h=>(yZT x).trans h)
def ypO (a0:dA) (a1 a2:Int) (a3:List Int):dA:=ypQ a0 a1 a2 a3
def yCE (a0:dA) (a1 a2:Int) (a3:List Int):Bool:=inb a1 a0.2.2.1.length
theorem yYT (a0:dA) (a1 a2:Int) (a3:List Int) (hk:zi2 ygH (a0,a1,a2,a3,())) (hq:yCE a0 a1 a2 a3=true):yqV a0 a1 a2 a3=(fun n=>some ((),(n,()))) (ypO a0 a1 a2 a3):=by
 have hq:inb a1 a0.2.2.1.length=true:=hq
 unfold yqV ypO ypQ setMem
 simp only [yU1,ygv,hq,zkr,yc7]
 cases (nth a0.2.2.1 a1 noMem).2.2.1<;>cases (opA a0).1<;>rfl
def yeJ (a0:dA) (a1 a2:Int) (a3:List Int):Option (ResD ypq×MutD ygH):=bif yCE a0 a1 a2 a3 then (fun n=>some ((),(n,()))) (ypO a0 a1 a2 a3) else none
theorem ym6 (a0:dA) (a1 a2:Int) (a3:List Int) (h:yCE a0 a1 a2 a3=true):yeJ a0 a1 a2 a3=(fun n=>some ((),(n,()))) (ypO a0 a1 a2 a3):=by unfold yeJ; rw [h]; rfl
def ykY:Con:=⟨ygH,ypq,fun x=>yeJ x.1 x.2.1 x.2.2.1 x.2.2.2.1⟩
theorem ysN:ConOk Tryz.prog 207 ykY:=(yWW).mono (fun x r hk h=>zks h (fun hq=>yYT x.1 x.2.1 x.2.2.1 x.2.2.2.1 hk hq))
end
section
def yh2:Code:=(Tryz.f286.body).getD .skip
def ynJ:Env:=zj2 TT [(152,yi2),(224,ygq)] [(32768,(.pr .fz .fz))]
theorem yKy:FrOk Tryz.prog ⟨ynJ,40,fun _=>none⟩ yh2:=zj6 yc yd ⟨yqK,ym5,trivial⟩
def yzm:Nat→Option Seg:=fun _=>none
def ya3:Shape:=⟨[(2,false,[.ptr 64 0]),(3,false,[.ptr 4224 0]),(4,false,[.int .i64])],[(64,[.nil,.nil,.bool,.nil]),(4224,[.at 800000000,.at 800000001,.bool,.at 800000002])],[(800000000,tL,.fz),(800000001,tW,(.pr .fz .fz)),(800000002,tI,.fz)]⟩
def yeA:Shape:=⟨[(2,false,[.ptr 64 0]),(3,false,[.ptr 4224 0]),(4,false,[.ci .i64 0])],[(64,[.nil,.nil,.bool,.nil]),(4224,[.at 800000000,.at 800000001,.bool,.at 800000002])],[(800000000,tL,.fz),(800000001,tW,(.pr .fz .fz)),(800000002,tI,.fz)]⟩
def yet:Shape:=⟨[(2,false,[.ptr 64 0]),(3,false,[.ptr 4224 0])],[(64,[.nil,.nil,.bool,.nil]),(4224,[.at 800000000,.at 800000001,.bool,.at 800000002])],[(800000000,tL,.fz),(800000001,tW,(.pr .fz .fz)),(800000002,tI,.fz)]⟩
def yiW:Shape:=⟨[],[],[]⟩
abbrev ynr (v0:Int) (v1 v2:dM):(ya3).X:=((((),()),((),()),(v0,()),()),(((),(),v1.2.2.1,(),()),((),(),v2.2.2.1,(),()),()),(v2.1,v2.2.1,v2.2.2.2,()))
abbrev yI2 (v0 v1:dM):(yeA).X:=((((),()),((),()),((),()),()),(((),(),v0.2.2.1,(),()),((),(),v1.2.2.1,(),()),()),(v1.1,v1.2.1,v1.2.2.2,()))
abbrev ywD (v0 v1:dM):(yet).X:=((((),()),((),()),()),(((),(),v0.2.2.1,(),()),((),(),v1.2.2.1,(),()),()),(v1.1,v1.2.1,v1.2.2.2,()))
def ynB (v0:Int) (v1 v2:Bool) (v3:List (List Int)) (v4:List dW) (v5:List Int):Option ((ya3).X ⊕ ((yet).X ⊕ (yiW).X)) :=
 bif (ltb v0 (v4.length:Int)) then
 bif (inb v0 v4.length) then
 bif (inb v0 v4.length) then
 bif (inb ((nth v4 v0 (0,[])).1) v3.length) then
 let r4:=(v3.set ((nth v4 v0 (0,[])).1).toNat ((nth v4 v0 (0,[])).2))
 some (.inl ((((),()),((),()),((IntKind.i64.wrap (v0+1)),()),()),(((),(),v1,(),()),((),(),v2,(),()),()),(r4,v4,v5,())))
 else none
 else none
 else none
 else
 some (.inr (.inl ((((),()),((),()),()),(((),(),v1,(),()),((),(),v2,(),()),()),(v3,v4,v5,()))))
def ybk (x:(ya3).X):=ynB x.1.2.2.1.1 x.2.1.1.2.2.1 x.2.1.2.1.2.2.1 x.2.2.1 x.2.2.2.1 x.2.2.2.2.1
def ywp (x:(yeA).X):(ya3).X:=((((),()),((),()),(0,()),()),(((),(),x.2.1.1.2.2.1,(),()),((),(),x.2.1.2.1.2.2.1,(),()),()),(x.2.2.1,x.2.2.2.1,x.2.2.2.2.1,()))
def yxQ:Code:=(zdD yh2 64 244).getD .skip
theorem yJ2:zdD yh2 64 61=some (.block 0 (.loop yxQ)):=by kernel_rfl
theorem yLs (x:(ya3).X):zg0 ⟨ynJ,40,yzm⟩ 0 yxQ 244 ya3 yet yiW x=ybk x:=by kernel_rfl
def ywx (x:(yeA).X):Nat:=18446744073709551616
def ypb (x:(yeA).X):Option ((yet).X ⊕ (yiW).X):=zz ybk (ywx x) (ywp x)
def ywK:Seg:=⟨yeA,yet,yiW,ypb⟩
def yzn:Nat→Option Seg:=fun q=>bif Nat.beq q 61 then some ywK else yzm q
theorem yKz:FrOk Tryz.prog ⟨ynJ,40,yzn⟩ yh2:=(yKy).loop (sg:=ywK) ya3 ywp (by decide) yJ2 ybk ywx (by decide) (fun _=>rfl) (fun x r _ h=>h) yLs
abbrev ye0:List Par:= [.rd tM]
abbrev yn2:List OT:= [⟨false,tM,(.pr (.ow .fz) (.pr (.ow (.pr .fz .fz)) (.pr .fz (.ow .fz))))⟩]
def yj2 (a0:dM):Option (ResD yn2×MutD ye0) :=
 let r1:=yab a0
 let r2:=yag a0
 bif (!(!r2)) then
 bif a0.2.2.1 then
 some ((r1,()),())
 else
 zkh (ypb ((((),()),((),()),((),()),()),(((),(),false,(),()),((),(),r1.2.2.1,(),()),()),(r1.1,r1.2.1,r1.2.2.2,()))) (fun y4 =>
 some (((y4.2.2.1,([]:List dW),y4.2.1.2.1.2.2.1,y4.2.2.2.2.1),()),())) (fun y4 =>
 none)
 else
 some ((r1,()),())
theorem ySh (x:InD ye0):zjx ⟨ynJ,40,yzn⟩ Tryz.f286.results.toList yh2 ye0 yn2 x=yj2 x.1:=by kernel_rfl
theorem yNq:ConOk Tryz.prog 286 ⟨ye0,yn2,fun x=>yj2 x.1⟩:=zj1 (yKz) Tryz.func286 (by kernel_rfl) (by kernel_rfl) Tryz.ntmps286.symm (by decide) (fun x r h=>(ySh x).trans h)
def yc5 (a0:dM):dM:=ybx a0
theorem yQe (a0:dM) (hk:zi2 ye0 (a0,())):yj2 a0=(fun n=>some ((n,()),())) (yc5 a0):=by
 have hb2:a0.2.1.length * 32≤2 ^ 47:=hk.1.2.1.1
 unfold yj2 yc5 ybx
 simp only [yab,yag]
 cases hm:yq a0
 ·rfl
 have h1:ypb (yI2 noMem a0)=some (.inl (ywD noMem (yde (fun _=>true) a0.2.1 a0.1,a0.2))) :=
  zj8 (step:=ybk) a0.2.1.length (fun i s=>ynr i noMem (s,a0.2)) (yfZ (fun _=>true) a0.2.1) (fun i s=>s.length=a0.1.length) (fun s=> .inl (ywD noMem (s,a0.2))) (fun i s hi hs=>by
   have hw:=(yZ6 hm hi).1
   refine ⟨?_,yG4.trans hs⟩
   simp only [ybk,ynr,ynB,zj4 (show (i:Int) < a0.2.1.length by omega),cond_true,wr (show -9223372036854775808≤(i:Int)+1 by omega) (by omega),Int.natCast_add,Int.natCast_one,Int.toNat_natCast,zkl hi,hs,hw,yfZ]) (fun s hs=>by simp only [ybk,ynr,ynB,zkx (Int.le_refl _),cond_false]) a0.1 rfl _ (by show _ < 18446744073709551616; omega)
 rw [h1]
 cases hf:a0.2.2.1
 ·exact congrArg (fun z=>some (((yde (fun _=>true) a0.2.1 a0.1,([]:List dW),z,a0.2.2.2),()),())) hf
 ·rfl
def yrg:Con:=⟨ye0,yn2,fun x=>(fun n=>some ((n,()),())) (yc5 x.1)⟩
theorem yCw:ConOk Tryz.prog 286 yrg:=(yNq).mono (fun x r hk h=>(yQe x.1 hk).trans h)
end
end
end Go.Tf
