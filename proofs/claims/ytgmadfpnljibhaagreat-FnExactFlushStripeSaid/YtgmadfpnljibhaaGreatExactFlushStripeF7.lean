/- Functions of the program, and what they come to. -/
import Derived.Test.YtgmadfpnljibhaaGreatExactFlushStripeF6
namespace Go.Tf
noncomputable section
open Go.Proofs
set_option synthInstance.maxHeartbeats 400000
set_option synthInstance.maxSize 10000
set_option linter.unusedVariables false
set_option linter.unusedSimpArgs false
set_option maxRecDepth 100000
section
def yOf:Code:=(Tryz.f263.body).getD .skip
def yOk:Env:=zki TT [] []
theorem yWl:FrOk Tryz.prog ⟨yOk,31,fun _=>none⟩ yOf:=zkp yb yc trivial
def yYw:Nat→Option Seg:=fun _=>none
abbrev yr5:List Par:= [.pt tA (.pr .fz (.pr (.pr .fz .fz) (.pr (.ow (.pr (.ow .fz) (.pr (.ow (.pr .fz .fz)) (.pr .fz (.ow .fz))))) (.pr .fz (.pr .fz (.pr .fz (.pr .fz (.pr .fz (.pr (.ow (.pr .fz .fz)) (.pr .fz (.pr .fz .fz)))))))))))]
abbrev yxL:List OT:= [⟨false,tB,.fz⟩]
def yzH (a0:dA):Option (ResD yxL×MutD yr5) :=
 bif a0.2.2.2.2.2.2.2.2.2.2.1 then
 some ((false,()),(a0,()))
 else
 bif (a0.2.2.2.2.2.2.2.2.2.1==0) then
 some ((false,()),((a0.1,a0.2.1,a0.2.2.1,a0.2.2.2.1,a0.2.2.2.2.1,a0.2.2.2.2.2.1,a0.2.2.2.2.2.2.1,a0.2.2.2.2.2.2.2.1,a0.2.2.2.2.2.2.2.2.1,(-1),true,a0.2.2.2.2.2.2.2.2.2.2.2),()))
 else
 bif (ltb 0 a0.2.2.2.2.2.2.2.2.2.1) then
 some ((true,()),((a0.1,a0.2.1,a0.2.2.1,a0.2.2.2.1,a0.2.2.2.2.1,a0.2.2.2.2.2.1,a0.2.2.2.2.2.2.1,a0.2.2.2.2.2.2.2.1,a0.2.2.2.2.2.2.2.2.1,(IntKind.i64.wrap (a0.2.2.2.2.2.2.2.2.2.1 - 1)),a0.2.2.2.2.2.2.2.2.2.2),()))
 else
 some ((true,()),(a0,()))
theorem y1s (x:InD yr5):zjH ⟨yOk,31,yYw⟩ Tryz.f263.results.toList yOf yr5 yxL x=yzH x.1:=by kernel_rfl
theorem yZO:ConOk Tryz.prog 263 ⟨yr5,yxL,fun x=>yzH x.1⟩:=zkh (yWl) Tryz.func263 (by kernel_rfl) (by kernel_rfl) Tryz.ntmps263.symm (by decide) (fun x r h=>(y1s x).trans h)
def ysb (a0:dA):Bool×dA :=
 bif a0.2.2.2.2.2.2.2.2.2.2.1 then
 (false,a0)
 else
 bif (a0.2.2.2.2.2.2.2.2.2.1==0) then
 (false,(a0.1,a0.2.1,a0.2.2.1,a0.2.2.2.1,a0.2.2.2.2.1,a0.2.2.2.2.2.1,a0.2.2.2.2.2.2.1,a0.2.2.2.2.2.2.2.1,a0.2.2.2.2.2.2.2.2.1,(-1),true,a0.2.2.2.2.2.2.2.2.2.2.2))
 else
 bif (ltb 0 a0.2.2.2.2.2.2.2.2.2.1) then
 (true,(a0.1,a0.2.1,a0.2.2.1,a0.2.2.2.1,a0.2.2.2.2.1,a0.2.2.2.2.2.1,a0.2.2.2.2.2.2.1,a0.2.2.2.2.2.2.2.1,a0.2.2.2.2.2.2.2.2.1,(IntKind.i64.wrap (a0.2.2.2.2.2.2.2.2.2.1 - 1)),a0.2.2.2.2.2.2.2.2.2.2))
 else
 (true,a0)
def yzn:Con:=⟨yr5,yxL,fun x=>(fun n=>some ((n.1,()),(n.2,()))) (ysb x.1)⟩
theorem y1a (a0:dA):yzH a0=(fun n=>some ((n.1,()),(n.2,()))) (ysb a0):=zkS (p:=fun (n:Bool×dA)=>((n.1,()),(n.2,()))) (zkx (p:=fun (n:Bool×dA)=>((n.1,()),(n.2,()))) rfl (zkx (p:=fun (n:Bool×dA)=>((n.1,()),(n.2,()))) rfl (zkx (p:=fun (n:Bool×dA)=>((n.1,()),(n.2,()))) rfl rfl)))
theorem yLL:ConOk Tryz.prog 263 yzn:=(yZO).mono (fun x r _ h=>(y1a x.1).trans h)
theorem yVn (a:dA):ysb a=opA a:=by kernel_rfl
end
section
def ydx:Code:=(Tryz.f152.body).getD .skip
def yhh:Env:=zki TT [] [(21056,.fz),(21120,.fz),(37952,(.pr .fz .fz)),(38016,(.pr .fz .fz))]
theorem yPA:FrOk Tryz.prog ⟨yhh,60,fun _=>none⟩ ydx:=zkp yb yc trivial
def yEs:Nat→Option Seg:=fun _=>none
def ybW:Shape:=⟨[(1,false,[.ptr 0 0]),(2,false,[.ptr 64 0]),(3,false,[.ptr 4544 0]),(4,false,[.int .i64])],[(0,[.br tL,.br tW,.bool,.br tI]),(64,[.nil,.nil,.bool,.nil]),(4544,[.at 800000001,.nil,.bool,.at 800000000])],[(800000001,tL,.fz),(800000000,tI,.fz)]⟩
def ygy:Shape:=⟨[(1,false,[.ptr 0 0]),(2,false,[.ptr 64 0]),(3,false,[.ptr 4544 0]),(4,false,[.ci .i64 0])],[(0,[.br tL,.br tW,.bool,.br tI]),(64,[.nil,.nil,.bool,.nil]),(4544,[.at 800000001,.nil,.bool,.at 800000000])],[(800000001,tL,.fz),(800000000,tI,.fz)]⟩
def ygr:Shape:=⟨[(1,false,[.ptr 0 0]),(2,false,[.ptr 64 0]),(3,false,[.ptr 4544 0])],[(0,[.br tL,.br tW,.bool,.br tI]),(64,[.nil,.nil,.bool,.nil]),(4544,[.at 800000000,.nil,.bool,.at 800000001])],[(800000000,tL,.fz),(800000001,tI,.fz)]⟩
def ylQ:Shape:=⟨[],[],[]⟩
abbrev yrB (v0:Int) (v1 v2 v3:dM):(ybW).X:=((((),()),((),()),((),()),(v0,()),()),((v1.1,v1.2.1,v1.2.2.1,v1.2.2.2,()),((),(),v2.2.2.1,(),()),((),(),v3.2.2.1,(),()),()),(v3.1,v3.2.2.2,()))
abbrev yNg (v0 v1 v2:dM):(ygy).X:=((((),()),((),()),((),()),((),()),()),((v0.1,v0.2.1,v0.2.2.1,v0.2.2.2,()),((),(),v1.2.2.1,(),()),((),(),v2.2.2.1,(),()),()),(v2.1,v2.2.2.2,()))
abbrev yA9 (v0 v1 v2:dM):(ygr).X:=((((),()),((),()),((),()),()),((v0.1,v0.2.1,v0.2.2.1,v0.2.2.2,()),((),(),v1.2.2.1,(),()),((),(),v2.2.2.1,(),()),()),(v2.1,v2.2.2.2,()))
def yrV (v0:Int) (v1:List (List Int)) (v2:List dW) (v3:Bool) (v4:List Int) (v5 v6:Bool) (v7:List (List Int)) (v8:List Int):Option ((ybW).X ⊕ ((ygr).X ⊕ (ylQ).X)) :=
 bif (ltb v0 (v1.length:Int)) then
 bif (inb v0 v1.length) then
 bif (zj4 ([]:List Int).length (nth v1 v0 []).length 8) then
 bif (zj4 v7.length ([(([]:List Int)++(nth v1 v0 []))]:List (List Int)).length 24) then
 some (.inl ((((),()),((),()),((),()),((IntKind.i64.wrap (v0+1)),()),()),((v1,v2,v3,v4,()),((),(),v5,(),()),((),(),v6,(),()),()),((v7++([(([]:List Int)++(nth v1 v0 []))]:List (List Int))),v8,())))
 else none
 else none
 else none
 else
 some (.inr (.inl ((((),()),((),()),((),()),()),((v1,v2,v3,v4,()),((),(),v5,(),()),((),(),v6,(),()),()),(v7,v8,()))))
def ycv (x:(ybW).X):=yrV x.1.2.2.2.1.1 x.2.1.1.1 x.2.1.1.2.1 x.2.1.1.2.2.1 x.2.1.1.2.2.2.1 x.2.1.2.1.2.2.1 x.2.1.2.2.1.2.2.1 x.2.2.1 x.2.2.2.1
def yAO (x:(ygy).X):(ybW).X:=((((),()),((),()),((),()),(0,()),()),((x.2.1.1.1,x.2.1.1.2.1,x.2.1.1.2.2.1,x.2.1.1.2.2.2.1,()),((),(),x.2.1.2.1.2.2.1,(),()),((),(),x.2.1.2.2.1.2.2.1,(),()),()),(x.2.2.1,x.2.2.2.1,()))
def yCo:Code:=(zdI ydx 64 116).getD .skip
theorem yOL:zdI ydx 64 29=some (.block 0 (.loop yCo)):=by kernel_rfl
theorem yRx (x:(ybW).X):zg7 ⟨yhh,60,yEs⟩ 0 yCo 116 ybW ygr ylQ x=ycv x:=by kernel_rfl
def yA3 (x:(ygy).X):Nat:=18446744073709551616
def ytn (x:(ygy).X):Option ((ygr).X ⊕ (ylQ).X):=zr ycv (yA3 x) (yAO x)
def yBm:Seg:=⟨ygy,ygr,ylQ,ytn⟩
def yum:Nat→Option Seg:=fun q=>bif Nat.beq q 29 then some yBm else yEs q
theorem yPB:FrOk Tryz.prog ⟨yhh,60,yum⟩ ydx:=(yPA).loop (sg:=yBm) ybW yAO (by decide) yOL ycv yA3 (by decide) (fun _=>rfl) (fun x r _ h=>h) yRx
def ybX:Shape:=⟨[(1,false,[.ptr 0 0]),(2,false,[.ptr 64 0]),(3,false,[.ptr 4544 0]),(5,false,[.int .i64])],[(0,[.br tL,.br tW,.bool,.br tI]),(64,[.nil,.nil,.bool,.nil]),(4544,[.at 800000000,.at 800000002,.bool,.at 800000001])],[(800000000,tL,.fz),(800000002,tW,(.pr .fz .fz)),(800000001,tI,.fz)]⟩
def ygz:Shape:=⟨[(1,false,[.ptr 0 0]),(2,false,[.ptr 64 0]),(3,false,[.ptr 4544 0]),(5,false,[.ci .i64 0])],[(0,[.br tL,.br tW,.bool,.br tI]),(64,[.nil,.nil,.bool,.nil]),(4544,[.at 800000000,.at 800000002,.bool,.at 800000001])],[(800000000,tL,.fz),(800000002,tW,(.pr .fz .fz)),(800000001,tI,.fz)]⟩
def ygs:Shape:=⟨[(2,false,[.ptr 64 0]),(3,false,[.ptr 4544 0])],[(64,[.nil,.nil,.bool,.nil]),(4544,[.at 800000000,.at 800000001,.bool,.at 800000002])],[(800000000,tL,.fz),(800000001,tW,(.pr .fz .fz)),(800000002,tI,.fz)]⟩
def ylR:Shape:=⟨[],[],[]⟩
abbrev yrC (v0:Int) (v1 v2 v3:dM):(ybX).X:=((((),()),((),()),((),()),(v0,()),()),((v1.1,v1.2.1,v1.2.2.1,v1.2.2.2,()),((),(),v2.2.2.1,(),()),((),(),v3.2.2.1,(),()),()),(v3.1,v3.2.1,v3.2.2.2,()))
abbrev yNh (v0 v1 v2:dM):(ygz).X:=((((),()),((),()),((),()),((),()),()),((v0.1,v0.2.1,v0.2.2.1,v0.2.2.2,()),((),(),v1.2.2.1,(),()),((),(),v2.2.2.1,(),()),()),(v2.1,v2.2.1,v2.2.2.2,()))
abbrev yBa (v0 v1:dM):(ygs).X:=((((),()),((),()),()),(((),(),v0.2.2.1,(),()),((),(),v1.2.2.1,(),()),()),(v1.1,v1.2.1,v1.2.2.2,()))
def yrW (v0:Int) (v1:List (List Int)) (v2:List dW) (v3:Bool) (v4:List Int) (v5 v6:Bool) (v7:List (List Int)) (v8:List dW) (v9:List Int):Option ((ybX).X ⊕ ((ygs).X ⊕ (ylR).X)) :=
 bif (ltb v0 (v2.length:Int)) then
 bif (inb v0 v2.length) then
 bif (inb v0 v2.length) then
 bif (zj4 ([]:List Int).length ((nth v2 v0 (0,[])).2).length 8) then
 bif (zj4 v8.length ([((nth v2 v0 (0,[])).1,(([]:List Int)++((nth v2 v0 (0,[])).2)))]:List dW).length 32) then
 some (.inl ((((),()),((),()),((),()),((IntKind.i64.wrap (v0+1)),()),()),((v1,v2,v3,v4,()),((),(),v5,(),()),((),(),v6,(),()),()),(v7,(v8++([((nth v2 v0 (0,[])).1,(([]:List Int)++((nth v2 v0 (0,[])).2)))]:List dW)),v9,())))
 else none
 else none
 else none
 else none
 else
 some (.inr (.inl ((((),()),((),()),()),(((),(),v5,(),()),((),(),v6,(),()),()),(v7,v8,v9,()))))
def ycw (x:(ybX).X):=yrW x.1.2.2.2.1.1 x.2.1.1.1 x.2.1.1.2.1 x.2.1.1.2.2.1 x.2.1.1.2.2.2.1 x.2.1.2.1.2.2.1 x.2.1.2.2.1.2.2.1 x.2.2.1 x.2.2.2.1 x.2.2.2.2.1
def yAP (x:(ygz).X):(ybX).X:=((((),()),((),()),((),()),(0,()),()),((x.2.1.1.1,x.2.1.1.2.1,x.2.1.1.2.2.1,x.2.1.1.2.2.2.1,()),((),(),x.2.1.2.1.2.2.1,(),()),((),(),x.2.1.2.2.1.2.2.1,(),()),()),(x.2.2.1,x.2.2.2.1,x.2.2.2.2.1,()))
def yCp:Code:=(zdI ydx 64 244).getD .skip
theorem yOM:zdI ydx 64 61=some (.block 2 (.loop yCp)):=by kernel_rfl
theorem yRy (x:(ybX).X):zg7 ⟨yhh,60,yum⟩ 2 yCp 244 ybX ygs ylR x=ycw x:=by kernel_rfl
def yA4 (x:(ygz).X):Nat:=18446744073709551616
def yto (x:(ygz).X):Option ((ygs).X ⊕ (ylR).X):=zr ycw (yA4 x) (yAP x)
def yBn:Seg:=⟨ygz,ygs,ylR,yto⟩
def yEt:Nat→Option Seg:=fun q=>bif Nat.beq q 61 then some yBn else yum q
theorem yPC:FrOk Tryz.prog ⟨yhh,60,yEt⟩ ydx:=(yPB).loop (sg:=yBn) ybX yAP (by decide) yOM ycw yA4 (by decide) (fun _=>rfl) (fun x r _ h=>h) yRy
abbrev yhx:List Par:= [.rd tM]
abbrev ysT:List OT:= [⟨false,tM,(.pr (.ow .fz) (.pr (.ow (.pr .fz .fz)) (.pr .fz (.ow .fz))))⟩]
def yoU (a0:dM):Option (ResD ysT×MutD yhx) :=
 bif (zj4 ([]:List Int).length a0.2.2.2.length 8) then
 zjw (ytn ((((),()),((),()),((),()),((),()),()),((a0.1,a0.2.1,a0.2.2.1,a0.2.2.2,()),((),(),false,(),()),((),(),a0.2.2.1,(),()),()),([],(([]:List Int)++a0.2.2.2),()))) (fun y0 =>
 zjw (yto ((((),()),((),()),((),()),((),()),()),((y0.2.1.1.1,y0.2.1.1.2.1,y0.2.1.1.2.2.1,y0.2.1.1.2.2.2.1,()),((),(),y0.2.1.2.1.2.2.1,(),()),((),(),y0.2.1.2.2.1.2.2.1,(),()),()),(y0.2.2.1,[],y0.2.2.2.1,()))) (fun y1 =>
 some (((y1.2.2.1,y1.2.2.2.1,y1.2.1.2.1.2.2.1,y1.2.2.2.2.1),()),())) (fun y1 =>
 none)) (fun y0 =>
 none)
 else none
theorem yYZ (x:InD yhx):zjH ⟨yhh,60,yEt⟩ Tryz.f152.results.toList ydx yhx ysT x=yoU x.1:=by kernel_rfl
theorem yUv:ConOk Tryz.prog 152 ⟨yhx,ysT,fun x=>yoU x.1⟩:=zkh (yPC) Tryz.func152 (by kernel_rfl) (by kernel_rfl) Tryz.ntmps152.symm (by decide) (fun x r h=>(yYZ x).trans h)
def ybR (a0:dM):dM:=a0
theorem yWT (a0:dM) (hk:zi9 yhx (a0,())):yoU a0=(fun n=>some ((n,()),())) (ybR a0):=by
 have hb1:a0.1.length * 24≤2 ^ 47:=hk.1.1.1
 have hb2:a0.2.1.length * 32≤2 ^ 47:=hk.1.2.1.1
 have hb3:a0.2.2.2.length * 8≤2 ^ 47:=hk.1.2.2.2.1
 have hs: ∀ i,i < a0.1.length→(a0.1.getD i []).length * 8≤2 ^ 47:=fun i hi=>by rw [zcq hi]; exact (hk.1.1.2 _ (List.getElem_mem hi)).1
 have hc: ∀ i,i < a0.2.1.length→(a0.2.1.getD i (0,[])).2.length * 8≤2 ^ 47:=fun i hi=>by rw [zcq hi]; exact (hk.1.2.1.2 _ (List.getElem_mem hi)).2.1
 have h1:ytn (yNg a0 yh ([],[],a0.2.2.1,a0.2.2.2))=some (.inl (yA9 a0 yh (a0.1,[],a0.2.2.1,a0.2.2.2))):=by
  have:=zkk (step:=ycv) a0.1 [] (fun i s=>yrB i a0 yh (s,[],a0.2.2.1,a0.2.2.2)) (fun s x=>s++ [x]) (fun i s=>s.length=i) (fun s=> .inl (yA9 a0 yh (s,[],a0.2.2.1,a0.2.2.2))) (fun i s hi hs2=>⟨by
   have:=hs i hi
   simp only [ycv,yrB,yrV,zjI (show (i:Int) < a0.1.length by omega),cond_true,wr (show -9223372036854775808≤(i:Int)+1 by omega) (by omega),Int.natCast_add,Int.natCast_one,Int.toNat_natCast,zkO hi,zjW,List.nil_append]
   rw [zkw.2 (show (([]:List Int).length+(a0.1.getD i []).length) * 8≤140737488355328 by rw [List.length_nil]; omega),zkw.2 (show (s.length+ [a0.1.getD i []].length) * 24≤140737488355328 by simp only [List.length_cons,List.length_nil]; omega)]; rfl,by simp [hs2]⟩) (fun s _=>by simp only [ycv,yrB,yrV,zkm (Int.le_refl _),cond_false]) [] rfl 18446744073709551616 (by omega)
  rw [ytu]at this
  exact this
 have h2:yto (yNh a0 yh (a0.1,[],a0.2.2.1,a0.2.2.2))=some (.inl (yBa yh a0)):=by
  have:=zkk (step:=ycw) a0.2.1 (0,[]) (fun i s=>yrC i a0 yh (a0.1,s,a0.2.2.1,a0.2.2.2)) (fun s x=>s++ [x]) (fun i s=>s.length=i) (fun s=> .inl (yBa yh (a0.1,s,a0.2.2.1,a0.2.2.2))) (fun i s hi hs2=>⟨by
   have:=hc i hi
   simp only [ycw,yrC,yrW,zjI (show (i:Int) < a0.2.1.length by omega),cond_true,wr (show -9223372036854775808≤(i:Int)+1 by omega) (by omega),Int.natCast_add,Int.natCast_one,Int.toNat_natCast,zkO hi,zjW,List.nil_append,zkV]
   rw [zkw.2 (show (([]:List Int).length+(a0.2.1.getD i (0,[])).2.length) * 8≤140737488355328 by rw [List.length_nil]; omega),zkw.2 (show (s.length+ [a0.2.1.getD i (0,[])].length) * 32≤140737488355328 by simp only [List.length_cons,List.length_nil]; omega)]; rfl,by simp [hs2]⟩) (fun s _=>by simp only [ycw,yrC,yrW,zkm (Int.le_refl _),cond_false]) [] rfl 18446744073709551616 (by omega)
  rw [ytu]at this
  exact this
 unfold yoU ybR
 rw [zkw.2 (show (([]:List Int).length+a0.2.2.2.length) * 8≤140737488355328 by rw [List.length_nil]; omega)]
 simp only [cond_true,List.nil_append,h1,zkJ,h2]
def yoz:Con:=⟨yhx,ysT,fun x=>(fun n=>some ((n,()),())) (ybR x.1)⟩
theorem yxe:ConOk Tryz.prog 152 yoz:=(yUv).mono (fun x r hk h=>(yWT x.1 hk).trans h)
end
section
def ygl:Code:=(Tryz.f287.body).getD .skip
def ylk:Env:=zki TT [] []
theorem yI4:FrOk Tryz.prog ⟨ylk,28,fun _=>none⟩ ygl:=zkp yb yc trivial
def yx4:Nat→Option Seg:=fun _=>none
def yat:Shape:=⟨[(0,false,[.br tI]),(1,false,[.int .i64]),(5,false,[.at 800000000]),(6,false,[.int .i64])],[],[(800000000,tI,.fz)]⟩
def ydM:Shape:=⟨[(0,false,[.br tI]),(1,false,[.int .i64]),(5,false,[.at 800000000]),(6,false,[.ci .i64 0])],[],[(800000000,tI,.fz)]⟩
def ydK:Shape:=⟨[(5,false,[.at 800000000])],[],[(800000000,tI,.fz)]⟩
def yg9:Shape:=⟨[],[],[]⟩
abbrev ylZ (v0:List Int) (v1 v2:Int) (v3:List Int):(yat).X:=(((v0,()),(v1,()),((),()),(v2,()),()),(),(v3,()))
abbrev yHF (v0:List Int) (v1:Int) (v2:List Int):(ydM).X:=(((v0,()),(v1,()),((),()),((),()),()),(),(v2,()))
abbrev yHD (v0:List Int):(ydK).X:=((((),()),()),(),(v0,()))
def ymo (v0:List Int) (v1 v2:Int) (v3:List Int):Option ((yat).X ⊕ ((ydK).X ⊕ (yg9).X)) :=
 bif (ltb v2 (v0.length:Int)) then
 bif (inb v2 v0.length) then
 bif ((nth v0 v2 0) !=v1) then
 bif (inb v2 v0.length) then
 bif (zj4 v3.length ([(nth v0 v2 0)]:List Int).length 8) then
 some (.inl (((v0,()),(v1,()),((),()),((IntKind.i64.wrap (v2+1)),()),()),(),((v3++([(nth v0 v2 0)]:List Int)),())))
 else none
 else none
 else
 some (.inl (((v0,()),(v1,()),((),()),((IntKind.i64.wrap (v2+1)),()),()),(),(v3,())))
 else none
 else
 some (.inr (.inl ((((),()),()),(),(v3,()))))
def yaJ (x:(yat).X):=ymo x.1.1.1 x.1.2.1.1 x.1.2.2.2.1.1 x.2.2.1
def yvy (x:(ydM).X):(yat).X:=(((x.1.1.1,()),(x.1.2.1.1,()),((),()),(0,()),()),(),(x.2.2.1,()))
def ywl:Code:=(zdI ygl 64 116).getD .skip
theorem yIT:zdI ygl 64 29=some (.block 0 (.loop ywl)):=by kernel_rfl
theorem yJs (x:(yat).X):zg7 ⟨ylk,28,yx4⟩ 0 ywl 116 yat ydK yg9 x=yaJ x:=by kernel_rfl
def yvC (x:(ydM).X):Nat:=18446744073709551616
def ynl (x:(ydM).X):Option ((ydK).X ⊕ (yg9).X):=zr yaJ (yvC x) (yvy x)
def ywd:Seg:=⟨ydM,ydK,yg9,ynl⟩
def yx5:Nat→Option Seg:=fun q=>bif Nat.beq q 29 then some ywd else yx4 q
theorem yI5:FrOk Tryz.prog ⟨ylk,28,yx5⟩ ygl:=(yI4).loop (sg:=ywd) yat yvy (by decide) yIT yaJ yvC (by decide) (fun _=>rfl) (fun x r _ h=>h) yJs
abbrev ydS:List Par:= [.rd tL,.rd tI]
abbrev ylH:List OT:= [⟨false,tL,(.ow .fz)⟩]
def yjh (a0:List Int) (a1:Int):Option (ResD ylH×MutD ydS) :=
 zjw (ynl (((a0,()),(a1,()),((),()),((),()),()),(),(([]:List Int),()))) (fun y0 =>
 some ((y0.2.2.1,()),())) (fun y0 =>
 none)
theorem yOY (x:InD ydS):zjH ⟨ylk,28,yx5⟩ Tryz.f287.results.toList ygl ydS ylH x=yjh x.1 x.2.1:=by kernel_rfl
theorem yLF:ConOk Tryz.prog 287 ⟨ydS,ylH,fun x=>yjh x.1 x.2.1⟩:=zkh (yI5) Tryz.func287 (by kernel_rfl) (by kernel_rfl) Tryz.ntmps287.symm (by decide) (fun x r h=>(yOY x).trans h)
def ygS (a0:List Int) (a1:Int):List Int:=yX6 a0 a1
theorem yKA {α:Type} (p:α→Bool): ∀ (l:List α) (s:List α),l.foldl (fun s x=>bif p x then s++ [x] else s) s=s++l.filter p
 | [],s=>by simp
 | x::l,s=>by
  rw [List.foldl_cons,yKA p l,List.filter_cons]
  cases p x<;>simp
theorem yNt (a0:List Int) (a1:Int) (hk:zi9 ydS (a0,a1,())):yjh a0 a1=(fun n=>some ((n,()),())) (ygS a0 a1):=by
 have hb:a0.length * 8≤2 ^ 47:=hk.1.1
 have h1:=zkk (step:=yaJ) a0 0 (fun i s=>ylZ a0 a1 i s) (fun s x=>bif x !=a1 then s++ [x] else s) (fun i s=>s.length≤i) (fun s=> .inl (yHD s)) (fun i s hi hs=>by
   constructor
   ·simp only [yaJ,ylZ,ymo,zjI (show (i:Int) < a0.length by omega),cond_true,wr (show -9223372036854775808≤(i:Int)+1 by omega) (by omega),Int.natCast_add,Int.natCast_one,Int.toNat_natCast,zkO hi,zjW]
    rw [zkw.2 (show (s.length+ [a0.getD i 0].length) * 8≤140737488355328 by simp only [List.length_cons,List.length_nil]; omega)]
    cases (a0.getD i 0 !=a1)<;>rfl
   ·cases (a0.getD i 0 !=a1)
    ·show s.length≤_; omega
    ·simp only [cond_true,List.length_append,List.length_cons,List.length_nil]; omega) (fun s _=>by simp only [yaJ,ylZ,ymo,zkm (Int.le_refl _),cond_false]) [] (Nat.le_refl _) 18446744073709551616 (by omega)
 unfold yjh ygS yX6
 rw [show ynl (yHF a0 a1 [])=_ from h1,yKA]; rfl
def yyq:Con:=⟨ydS,ylH,fun x=>(fun n=>some ((n,()),())) (ygS x.1 x.2.1)⟩
theorem yNT:ConOk Tryz.prog 287 yyq:=(yLF).mono (fun x r hk h=>(yNt x.1 x.2.1 hk).trans h)
end
section
def yD9:Code:=(Tryz.f264.body).getD .skip
def yEN:Env:=zki TT [(135,yl),(152,yoz),(224,ykT),(269,yw8),(287,yyq)] [(16832,(.pr .fz .fz))]
theorem yK4:FrOk Tryz.prog ⟨yEN,55,fun _=>none⟩ yD9:=zkp yb yc ⟨yp,yxe,yta,yIL,yNT,trivial⟩
def yMd:Nat→Option Seg:=fun _=>none
abbrev yeW:List Par:= [.rd tM,.rd tI,.rd tL]
abbrev yol:List OT:= [⟨false,tM,(.pr (.ow .fz) (.pr (.ow (.pr .fz .fz)) (.pr .fz (.ow .fz))))⟩,⟨false,tB,.fz⟩]
def yj9 (a0:dM) (a1:Int) (a2:List Int):Option (ResD yol×MutD yeW) :=
 let r1:=ybR a0
 let r2:=yaT a0
 bif (!(!r2)) then
 bif (!a0.2.2.1) then
 let r3:=ya a1 0 (IntKind.i64.wrap ((a0.1.length:Int) - 1))
 bif (!(!r3)) then
 let r4:=ygR a2
 bif (!(!r4)) then
 bif (leb 60 (a0.2.1.length:Int)) then
 some ((r1,false,()),())
 else
 bif (zj4 ([]:List Int).length a2.length 8) then
 bif (zj4 r1.2.1.length ([(a1,(([]:List Int)++a2))]:List dW).length 32) then
 let r5:=ygS a0.2.2.2 a1
 some (((r1.1,(r1.2.1++([(a1,(([]:List Int)++a2))]:List dW)),r1.2.2.1,r5),true,()),())
 else none
 else none
 else
 some ((r1,false,()),())
 else
 some ((r1,false,()),())
 else
 some ((r1,false,()),())
 else
 some ((r1,false,()),())
theorem ySH (x:InD yeW):zjH ⟨yEN,55,yMd⟩ Tryz.f264.results.toList yD9 yeW yol x=yj9 x.1 x.2.1 x.2.2.1:=by kernel_rfl
theorem yNM:ConOk Tryz.prog 264 ⟨yeW,yol,fun x=>yj9 x.1 x.2.1 x.2.2.1⟩:=zkh (yK4) Tryz.func264 (by kernel_rfl) (by kernel_rfl) Tryz.ntmps264.symm (by decide) (fun x r h=>(ySH x).trans h)
def yi8 (a0:dM) (a1:Int) (a2:List Int):dM×Bool:=ygX a0 a1 a2
theorem yQF (a0:dM) (a1:Int) (a2:List Int) (hk:zi9 yeW (a0,a1,a2,())):yj9 a0 a1 a2=(fun n=>some ((n.1,n.2,()),())) (yi8 a0 a1 a2):=by
 have hb1:a0.1.length * 24≤2 ^ 47:=hk.1.1.1
 have hb2:a2.length * 8≤2 ^ 47:=hk.2.2.1.1
 unfold yj9 yi8 ygX yw4
 simp only [ybR,yaT,yvF (show a0.1.length≤1152921504606846976 by omega),yFO,ygS,List.nil_append]
 cases yr a0
 ·rfl
 cases a0.2.2.1
 ·cases inb a1 a0.1.length
  ·rfl
  cases ybp a2
  ·rfl
  by_cases h:(a0.2.1.length:Int) < 60
  ·rw [zjI h,zkZ h,zkw.2 (show (([]:List Int).length+a2.length) * 8≤140737488355328 by rw [List.length_nil]; omega),zkw.2 (show (a0.2.1.length+ [(a1,a2)].length) * 32≤140737488355328 by simp only [List.length_cons,List.length_nil]; omega)]; rfl
  ·rw [zkm (by omega),zk0 (by omega)]; rfl
 ·rfl
def yAD:Con:=⟨yeW,yol,fun x=>(fun n=>some ((n.1,n.2,()),())) (yi8 x.1 x.2.1 x.2.2.1)⟩
theorem yRi:ConOk Tryz.prog 264 yAD:=(yNM).mono (fun x r hk h=>(yQF x.1 x.2.1 x.2.2.1 hk).trans h)
end
section
def yJM:Code:=(Tryz.f207.body).getD .skip
def yKb:Env:=zki TT [(263,yzn),(264,yAD)] []
theorem yTq:FrOk Tryz.prog ⟨yKb,43,fun _=>none⟩ yJM:=zkp yb yc ⟨yLL,yRi,trivial⟩
def yVJ:Nat→Option Seg:=fun _=>none
abbrev ygn:List Par:= [.pt tA (.pr .fz (.pr (.pr .fz .fz) (.pr (.ow (.pr (.ow .fz) (.pr (.ow (.pr .fz .fz)) (.pr .fz (.ow .fz))))) (.pr .fz (.pr .fz (.pr .fz (.pr .fz (.pr .fz (.pr (.ow (.pr .fz .fz)) (.pr .fz (.pr .fz .fz))))))))))),.rd tI,.rd tI,.rd tL]
abbrev ypJ:List OT:= []
def yrc (a0:dA) (a1 a2:Int) (a3:List Int):Option (ResD ypJ×MutD ygn) :=
 bif (inb a1 a0.2.2.1.length) then
 bif (!((((nth a0.2.2.1 a1 ([],[],false,[])).2).2).1)) then
 let r1:=ysb a0
 bif (!r1.1) then
 some ((),(r1.2,()))
 else
 bif (inb a1 r1.2.2.2.1.length) then
 let r2:=yi8 ((nth r1.2.2.2.1 a1 ([],[],false,[])).1,((nth r1.2.2.2.1 a1 ([],[],false,[])).2).1,(((nth r1.2.2.2.1 a1 ([],[],false,[])).2).2)) a2 a3
 bif (inb a1 r1.2.2.2.1.length) then
 some ((),((r1.2.1,r1.2.2.1,(r1.2.2.2.1.set (a1).toNat r2.1),r1.2.2.2.2),()))
 else none
 else none
 else
 some ((),(a0,()))
 else none
theorem y0R (x:InD ygn):zjH ⟨yKb,43,yVJ⟩ Tryz.f207.results.toList yJM ygn ypJ x=yrc x.1 x.2.1 x.2.2.1 x.2.2.2.1:=by kernel_rfl
theorem yXx:ConOk Tryz.prog 207 ⟨ygn,ypJ,fun x=>yrc x.1 x.2.1 x.2.2.1 x.2.2.2.1⟩:=zkh (yTq) Tryz.func207 (by kernel_rfl) (by kernel_rfl) Tryz.ntmps207.symm (by decide) (fun x r h=>(y0R x).trans h)
def yvL (a0:dA) (a1 a2:Int) (a3:List Int):dA:=yeF a0 a1 a2 a3
def yDD (a0:dA) (a1 a2:Int) (a3:List Int):Bool:=inb a1 a0.2.2.1.length
theorem yZF (a0:dA) (a1 a2:Int) (a3:List Int) (hk:zi9 ygn (a0,a1,a2,a3,())) (hq:yDD a0 a1 a2 a3=true):yrc a0 a1 a2 a3=(fun n=>some ((),(n,()))) (yvL a0 a1 a2 a3):=by
 have hq:inb a1 a0.2.2.1.length=true:=hq
 unfold yrc yvL yeF yy6
 simp only [yVn,yao,hq,zkV,yi8]
 cases (nth a0.2.2.1 a1 yh).2.2.1<;>cases (opA a0).1<;>rfl
def ygT (a0:dA) (a1 a2:Int) (a3:List Int):Option (ResD ypJ×MutD ygn):=bif yDD a0 a1 a2 a3 then (fun n=>some ((),(n,()))) (yvL a0 a1 a2 a3) else none
theorem ytb (a0:dA) (a1 a2:Int) (a3:List Int) (h:yDD a0 a1 a2 a3=true):ygT a0 a1 a2 a3=(fun n=>some ((),(n,()))) (yvL a0 a1 a2 a3):=by unfold ygT; rw [h]; rfl
def yqP:Con:=⟨ygn,ypJ,fun x=>ygT x.1 x.2.1 x.2.2.1 x.2.2.2.1⟩
theorem yzz:ConOk Tryz.prog 207 yqP:=(yXx).mono (fun x r hk h=>zkW h (fun hq=>yZF x.1 x.2.1 x.2.2.1 x.2.2.2.1 hk hq))
end
section
def yhS:Code:=(Tryz.f286.body).getD .skip
def ynY:Env:=zki TT [(152,yoz),(224,ykT)] [(32768,(.pr .fz .fz))]
theorem yKZ:FrOk Tryz.prog ⟨ynY,40,fun _=>none⟩ yhS:=zkp yb yc ⟨yxe,yta,trivial⟩
def yz6:Nat→Option Seg:=fun _=>none
def yaR:Shape:=⟨[(2,false,[.ptr 64 0]),(3,false,[.ptr 4224 0]),(4,false,[.int .i64])],[(64,[.nil,.nil,.bool,.nil]),(4224,[.at 800000000,.at 800000001,.bool,.at 800000002])],[(800000000,tL,.fz),(800000001,tW,(.pr .fz .fz)),(800000002,tI,.fz)]⟩
def yet:Shape:=⟨[(2,false,[.ptr 64 0]),(3,false,[.ptr 4224 0]),(4,false,[.ci .i64 0])],[(64,[.nil,.nil,.bool,.nil]),(4224,[.at 800000000,.at 800000001,.bool,.at 800000002])],[(800000000,tL,.fz),(800000001,tW,(.pr .fz .fz)),(800000002,tI,.fz)]⟩
def yeo:Shape:=⟨[(2,false,[.ptr 64 0]),(3,false,[.ptr 4224 0])],[(64,[.nil,.nil,.bool,.nil]),(4224,[.at 800000000,.at 800000001,.bool,.at 800000002])],[(800000000,tL,.fz),(800000001,tW,(.pr .fz .fz)),(800000002,tI,.fz)]⟩
def yiS:Shape:=⟨[],[],[]⟩
abbrev ynq (v0:Int) (v1 v2:dM):(yaR).X:=((((),()),((),()),(v0,()),()),(((),(),v1.2.2.1,(),()),((),(),v2.2.2.1,(),()),()),(v2.1,v2.2.1,v2.2.2.2,()))
abbrev yJb (v0 v1:dM):(yet).X:=((((),()),((),()),((),()),()),(((),(),v0.2.2.1,(),()),((),(),v1.2.2.1,(),()),()),(v1.1,v1.2.1,v1.2.2.2,()))
abbrev ywN (v0 v1:dM):(yeo).X:=((((),()),((),()),()),(((),(),v0.2.2.1,(),()),((),(),v1.2.2.1,(),()),()),(v1.1,v1.2.1,v1.2.2.2,()))
def ynJ (v0:Int) (v1 v2:Bool) (v3:List (List Int)) (v4:List dW) (v5:List Int):Option ((yaR).X ⊕ ((yeo).X ⊕ (yiS).X)) :=
 bif (ltb v0 (v4.length:Int)) then
 bif (inb v0 v4.length) then
 bif (inb v0 v4.length) then
 bif (inb ((nth v4 v0 (0,[])).1) v3.length) then
 let r4:=(v3.set ((nth v4 v0 (0,[])).1).toNat ((nth v4 v0 (0,[])).2))
 some (.inl ((((),()),((),()),((IntKind.i64.wrap (v0+1)),()),()),(((),(),v1,(),()),((),(),v2,(),()),()),(r4,v4,v5,())))
 else none
 else none
 else none
 else
 some (.inr (.inl ((((),()),((),()),()),(((),(),v1,(),()),((),(),v2,(),()),()),(v3,v4,v5,()))))
def yba (x:(yaR).X):=ynJ x.1.2.2.1.1 x.2.1.1.2.2.1 x.2.1.2.1.2.2.1 x.2.2.1 x.2.2.2.1 x.2.2.2.2.1
def ywA (x:(yet).X):(yaR).X:=((((),()),((),()),(0,()),()),(((),(),x.2.1.1.2.2.1,(),()),((),(),x.2.1.2.1.2.2.1,(),()),()),(x.2.2.1,x.2.2.2.1,x.2.2.2.2.1,()))
def yyk:Code:=(zdI yhS 64 244).getD .skip
theorem yKo:zdI yhS 64 61=some (.block 0 (.loop yyk)):=by kernel_rfl
theorem yLZ (x:(yaR).X):zg7 ⟨ynY,40,yz6⟩ 0 yyk 244 yaR yeo yiS x=yba x:=by kernel_rfl
def ywL (x:(yet).X):Nat:=18446744073709551616
def ypq (x:(yet).X):Option ((yeo).X ⊕ (yiS).X):=zr yba (ywL x) (ywA x)
def ywY:Seg:=⟨yet,yeo,yiS,ypq⟩
def yz7:Nat→Option Seg:=fun q=>bif Nat.beq q 61 then some ywY else yz6 q
theorem yK0:FrOk Tryz.prog ⟨ynY,40,yz7⟩ yhS:=(yKZ).loop (sg:=ywY) yaR ywA (by decide) yKo yba ywL (by decide) (fun _=>rfl) (fun x r _ h=>h) yLZ
abbrev yeT:List Par:= [.rd tM]
abbrev yoh:List OT:= [⟨false,tM,(.pr (.ow .fz) (.pr (.ow (.pr .fz .fz)) (.pr .fz (.ow .fz))))⟩]
def yj6 (a0:dM):Option (ResD yoh×MutD yeT) :=
 let r1:=ybR a0
 let r2:=yaT a0
 bif (!(!r2)) then
 bif a0.2.2.1 then
 some ((r1,()),())
 else
 zjw (ypq ((((),()),((),()),((),()),()),(((),(),false,(),()),((),(),r1.2.2.1,(),()),()),(r1.1,r1.2.1,r1.2.2.2,()))) (fun y4 =>
 some (((y4.2.2.1,([]:List dW),y4.2.1.2.1.2.2.1,y4.2.2.2.2.1),()),())) (fun y4 =>
 none)
 else
 some ((r1,()),())
theorem ySD (x:InD yeT):zjH ⟨ynY,40,yz7⟩ Tryz.f286.results.toList yhS yeT yoh x=yj6 x.1:=by kernel_rfl
theorem yNI:ConOk Tryz.prog 286 ⟨yeT,yoh,fun x=>yj6 x.1⟩:=zkh (yK0) Tryz.func286 (by kernel_rfl) (by kernel_rfl) Tryz.ntmps286.symm (by decide) (fun x r h=>(ySD x).trans h)
def yi6 (a0:dM):dM:=yfc a0
theorem yQB (a0:dM) (hk:zi9 yeT (a0,())):yj6 a0=(fun n=>some ((n,()),())) (yi6 a0):=by
 have hb2:a0.2.1.length * 32≤2 ^ 47:=hk.1.2.1.1
 unfold yj6 yi6 yfc
 simp only [ybR,yaT]
 cases hm:yr a0
 ·rfl
 have h1:ypq (yJb yh a0)=some (.inl (ywN yh (yd7 (fun _=>true) a0.2.1 a0.1,a0.2))) :=
  zks (step:=yba) a0.2.1.length (fun i s=>ynq i yh (s,a0.2)) (yfM (fun _=>true) a0.2.1) (fun i s=>s.length=a0.1.length) (fun s=> .inl (ywN yh (s,a0.2))) (fun i s hi hs=>by
   have hw:=(y04 hm hi).1
   refine ⟨?_,yHB.trans hs⟩
   simp only [yba,ynq,ynJ,zjI (show (i:Int) < a0.2.1.length by omega),cond_true,wr (show -9223372036854775808≤(i:Int)+1 by omega) (by omega),Int.natCast_add,Int.natCast_one,Int.toNat_natCast,zkO hi,hs,hw,yfM]) (fun s hs=>by simp only [yba,ynq,ynJ,zkm (Int.le_refl _),cond_false]) a0.1 rfl _ (by show _ < 18446744073709551616; omega)
 rw [h1]
 cases hf:a0.2.2.1
 ·exact congrArg (fun z=>some (((yd7 (fun _=>true) a0.2.1 a0.1,([]:List dW),z,a0.2.2.2),()),())) hf
 ·rfl
def yAA:Con:=⟨yeT,yoh,fun x=>(fun n=>some ((n,()),())) (yi6 x.1)⟩
theorem yRf:ConOk Tryz.prog 286 yAA:=(yNI).mono (fun x r hk h=>(yQB x.1 hk).trans h)
end
end
end Go.Tf
