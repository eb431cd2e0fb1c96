/- Functions of the program, and what they come to. -/
import Derived.Test.YtolmneojjjpnjaaGreatBorneF1
namespace Go.Tf
noncomputable section
open Go.Proofs Go.Proofs.Tryz IntKind
set_option synthInstance.maxHeartbeats 400000
set_option synthInstance.maxSize 10000
set_option linter.unusedVariables false
set_option linter.unusedSimpArgs false
set_option maxRecDepth 100000
def yO2:Code:=(f172.body).getD .skip
def yPr:Env:=zkw TT [(212,yA4)] []
theorem yHC:FrOk prog ⟨yPr,24,fun _=>none⟩ yO2:=zkA mixed yc ⟨yRW,trivial⟩
abbrev yr1:List Par:= [.rd tS]
abbrev ysj:List OT:= [⟨false,tL,(.ow .fz)⟩]
def yzt (a0:dS):Option (zaY ysj×zak yr1) :=let r1:=yf0 a0;bif(!r1)then some (([],()),()) else some ((([21317,a0.1,a0.2.1,a0.2.2.1,a0.2.2.2.1,a0.2.2.2.2.1,a0.2.2.2.2.2.1,(i64.wrap (a0.2.2.2.2.2.2.1+1)),a0.2.2.2.2.2.2.2]:List Int),()),())
theorem yKX:ConOk prog 172 ⟨yr1,ysj,fun x=>yzt x.1⟩:=zkI (yHC) func172 ntmps172.symm fun x=>by kernel_rfl
def yh5 (a0:dS):(List Int) :=let r1:=yf0 a0;bif(!r1)then [] else ([21317,a0.1,a0.2.1,a0.2.2.1,a0.2.2.2.1,a0.2.2.2.2.1,a0.2.2.2.2.2.1,(i64.wrap (a0.2.2.2.2.2.2.1+1)),a0.2.2.2.2.2.2.2]:List Int)
def yyR:Con:=⟨yr1,ysj,fun x=>(fun n=>some ((n,()),())) (yh5 x.1)⟩
theorem yNI (a0:dS):yzt a0=(fun n=>some ((n,()),())) (yh5 a0):=zkV (p:=fun(n:(List Int))=>((n,()),())) (zkG (p:=fun(n:(List Int))=>((n,()),())) rfl rfl)
theorem yOz:ConOk prog 172 yyR:=(yKX).mono (fun x r _ h=>(yNI x.1).trans h)
theorem yYp (s:dS):yh5 s=yv s:=by
 unfold yh5 yv;rw[yWt]
def ySG:Code:=(f173.body).getD .skip
def yTa:Env:=zkw TT [] []
theorem yJ4:FrOk prog ⟨yTa,23,fun _=>none⟩ ySG:=zkA mixed yc trivial
abbrev yuK:List Par:= [.rd tA,.rd tI]
abbrev yu2:List OT:= [⟨false,tS,(.pr .fz (.pr .fz (.pr .fz (.pr .fz (.pr .fz (.pr .fz (.pr .fz .fz)))))))⟩]
def yCg (a0:dA) (a1:Int):Option (zaY yu2×zak yuK) :=some (((a0.1,a0.2.2.2.2.2.2.2.1,a1,a0.2.1.1,a0.2.1.2,a0.2.2.2.2.2.2.1,a0.2.2.2.1,a0.2.2.2.2.1),()),())
theorem yOd:ConOk prog 173 ⟨yuK,yu2,fun x=>yCg x.1 x.2.1⟩:=zkI (yJ4) func173 ntmps173.symm fun x=>by kernel_rfl
def ynT (a0:dA) (a1:Int):dS :=(a0.1,a0.2.2.2.2.2.2.2.1,a1,a0.2.1.1,a0.2.1.2,a0.2.2.2.2.2.2.1,a0.2.2.2.1,a0.2.2.2.2.1)
def yA8:Con:=⟨yuK,yu2,fun x=>(fun n=>some ((n,()),())) (ynT x.1 x.2.1)⟩
theorem yQZ (a0:dA) (a1:Int):yCg a0 a1=(fun n=>some ((n,()),())) (ynT a0 a1):=zkV (p:=fun(n:dS)=>((n,()),())) rfl
theorem yR0:ConOk prog 173 yA8:=(yOd).mono (fun x r _ h=>(yQZ x.1 x.2.1).trans h)
def ye0:Code:=(f76.body).getD .skip
def yko:Env:=zkw TT [] [(21056,.fz),(21120,.fz),(37952,(.pr .fz .fz)),(38016,(.pr .fz .fz))]
theorem yMO:FrOk prog ⟨yko,60,fun _=>none⟩ ye0:=zkA mixed yc trivial
def yCK:Nat→Option Seg:=fun _=>none
def ycs:Shape:=⟨[(1,false,[.ptr 0 0]),(2,false,[.ptr 64 0]),(3,false,[.ptr 4544 0]),(4,false,[.int .i64])],[(0,[.br tL,.br tW,.bool,.br tI]),(64,[.nil,.nil,.bool,.nil]),(4544,[.at 800000001,.nil,.bool,.at 800000000])],[(800000001,tL,.fz),(800000000,tI,.fz)]⟩
def ygp:Shape:=⟨[(1,false,[.ptr 0 0]),(2,false,[.ptr 64 0]),(3,false,[.ptr 4544 0]),(4,false,[.ci .i64 0])],[(0,[.br tL,.br tW,.bool,.br tI]),(64,[.nil,.nil,.bool,.nil]),(4544,[.at 800000001,.nil,.bool,.at 800000000])],[(800000001,tL,.fz),(800000000,tI,.fz)]⟩
def ygf:Shape:=⟨[(1,false,[.ptr 0 0]),(2,false,[.ptr 64 0]),(3,false,[.ptr 4544 0])],[(0,[.br tL,.br tW,.bool,.br tI]),(64,[.nil,.nil,.bool,.nil]),(4544,[.at 800000000,.nil,.bool,.at 800000001])],[(800000000,tL,.fz),(800000001,tI,.fz)]⟩
def yjU:Shape:=⟨[],[],[]⟩
abbrev yow (v0:Int) (v1 v2 v3:dM):(ycs).X:=((((),()),((),()),((),()),(v0,()),()),((v1.1,v1.2.1,v1.2.2.1,v1.2.2.2,()),((),(),v2.2.2.1,(),()),((),(),v3.2.2.1,(),()),()),(v3.1,v3.2.2.2,()))
abbrev yKC (v0 v1 v2:dM):(ygp).X:=((((),()),((),()),((),()),((),()),()),((v0.1,v0.2.1,v0.2.2.1,v0.2.2.2,()),((),(),v1.2.2.1,(),()),((),(),v2.2.2.1,(),()),()),(v2.1,v2.2.2.2,()))
abbrev yzo (v0 v1 v2:dM):(ygf).X:=((((),()),((),()),((),()),()),((v0.1,v0.2.1,v0.2.2.1,v0.2.2.2,()),((),(),v1.2.2.1,(),()),((),(),v2.2.2.1,(),()),()),(v2.1,v2.2.2.2,()))
def yo4 (v0:Int) (v1:List (List Int)) (v2:List dW) (v3:Bool) (v4:List Int) (v5 v6:Bool) (v7:List (List Int)) (v8:List Int):Option ((ycs).X ⊕ ((ygf).X ⊕ (yjU).X)) :=bif(ltb v0 (v1.length:Int))then bif(inb v0 v1.length)then bif(zkl ([]:List Int).length (nth v1 v0 []).length 8)then bif(zkl v7.length ([(([]:List Int)++(nth v1 v0 []))]:List (List Int)).length 24)then some (.inl ((((),()),((),()),((),()),((i64.wrap (v0+1)),()),()),((v1,v2,v3,v4,()),((),(),v5,(),()),((),(),v6,(),()),()),((v7++([(([]:List Int)++(nth v1 v0 []))]:List (List Int))),v8,()))) else none else none else none else some (.inr (.inl ((((),()),((),()),((),()),()),((v1,v2,v3,v4,()),((),(),v5,(),()),((),(),v6,(),()),()),(v7,v8,()))))
def ycS (x:(ycs).X):=yo4 x.1.2.2.2.1.1 x.2.1.1.1 x.2.1.1.2.1 x.2.1.1.2.2.1 x.2.1.1.2.2.2.1 x.2.1.2.1.2.2.1 x.2.1.2.2.1.2.2.1 x.2.2.1 x.2.2.2.1
def yy7 (x:(ygp).X):(ycs).X:=((((),()),((),()),((),()),(0,()),()),((x.2.1.1.1,x.2.1.1.2.1,x.2.1.1.2.2.1,x.2.1.1.2.2.2.1,()),((),(),x.2.1.2.1.2.2.1,(),()),((),(),x.2.1.2.2.1.2.2.1,(),()),()),(x.2.2.1,x.2.2.2.1,()))
def yAU:Code:=(zd7 ye0 64 116).getD .skip
theorem yL9:zd7 ye0 64 29=some (.block 0 (.loop yAU)):=by kernel_rfl
theorem yOR (x:(ycs).X):zhu ⟨yko,60,yCK⟩ 0 yAU 116 ycs ygf yjU x=ycS x:=by kernel_rfl
def yzh (x:(ygp).X):Nat:=18446744073709551616
def ypY (x:(ygp).X):Option ((ygf).X ⊕ (yjU).X):=zF ycS (yzh x) (yy7 x)
def yzB:Seg:=⟨ygp,ygf,yjU,ypY⟩
def yrA:Nat→Option Seg:=fun q=>bif Nat.beq q 29 then some yzB else yCK q
theorem yMP:FrOk prog ⟨yko,60,yrA⟩ ye0:=(yMO).loop (sg:=yzB) ycs yy7 (by decide) yL9 ycS yzh (by decide) (fun _=>rfl) (fun x r _ h=>h) yOR
def yct:Shape:=⟨[(1,false,[.ptr 0 0]),(2,false,[.ptr 64 0]),(3,false,[.ptr 4544 0]),(5,false,[.int .i64])],[(0,[.br tL,.br tW,.bool,.br tI]),(64,[.nil,.nil,.bool,.nil]),(4544,[.at 800000000,.at 800000002,.bool,.at 800000001])],[(800000000,tL,.fz),(800000002,tW,(.pr .fz .fz)),(800000001,tI,.fz)]⟩
def ygq:Shape:=⟨[(1,false,[.ptr 0 0]),(2,false,[.ptr 64 0]),(3,false,[.ptr 4544 0]),(5,false,[.ci .i64 0])],[(0,[.br tL,.br tW,.bool,.br tI]),(64,[.nil,.nil,.bool,.nil]),(4544,[.at 800000000,.at 800000002,.bool,.at 800000001])],[(800000000,tL,.fz),(800000002,tW,(.pr .fz .fz)),(800000001,tI,.fz)]⟩
def ygg:Shape:=⟨[(2,false,[.ptr 64 0]),(3,false,[.ptr 4544 0])],[(64,[.nil,.nil,.bool,.nil]),(4544,[.at 800000000,.at 800000001,.bool,.at 800000002])],[(800000000,tL,.fz),(800000001,tW,(.pr .fz .fz)),(800000002,tI,.fz)]⟩
def yjV:Shape:=⟨[],[],[]⟩
abbrev yox (v0:Int) (v1 v2 v3:dM):(yct).X:=((((),()),((),()),((),()),(v0,()),()),((v1.1,v1.2.1,v1.2.2.1,v1.2.2.2,()),((),(),v2.2.2.1,(),()),((),(),v3.2.2.1,(),()),()),(v3.1,v3.2.1,v3.2.2.2,()))
abbrev yKD (v0 v1 v2:dM):(ygq).X:=((((),()),((),()),((),()),((),()),()),((v0.1,v0.2.1,v0.2.2.1,v0.2.2.2,()),((),(),v1.2.2.1,(),()),((),(),v2.2.2.1,(),()),()),(v2.1,v2.2.1,v2.2.2.2,()))
abbrev yzp (v0 v1:dM):(ygg).X:=((((),()),((),()),()),(((),(),v0.2.2.1,(),()),((),(),v1.2.2.1,(),()),()),(v1.1,v1.2.1,v1.2.2.2,()))
def yo5 (v0:Int) (v1:List (List Int)) (v2:List dW) (v3:Bool) (v4:List Int) (v5 v6:Bool) (v7:List (List Int)) (v8:List dW) (v9:List Int):Option ((yct).X ⊕ ((ygg).X ⊕ (yjV).X)) :=bif(ltb v0 (v2.length:Int))then bif(inb v0 v2.length)then bif(inb v0 v2.length)then bif(zkl ([]:List Int).length ((nth v2 v0 (0,[])).2).length 8)then bif(zkl v8.length ([((nth v2 v0 (0,[])).1,(([]:List Int)++((nth v2 v0 (0,[])).2)))]:List dW).length 32)then some (.inl ((((),()),((),()),((),()),((i64.wrap (v0+1)),()),()),((v1,v2,v3,v4,()),((),(),v5,(),()),((),(),v6,(),()),()),(v7,(v8++([((nth v2 v0 (0,[])).1,(([]:List Int)++((nth v2 v0 (0,[])).2)))]:List dW)),v9,()))) else none else none else none else none else some (.inr (.inl ((((),()),((),()),()),(((),(),v5,(),()),((),(),v6,(),()),()),(v7,v8,v9,()))))
def ycT (x:(yct).X):=yo5 x.1.2.2.2.1.1 x.2.1.1.1 x.2.1.1.2.1 x.2.1.1.2.2.1 x.2.1.1.2.2.2.1 x.2.1.2.1.2.2.1 x.2.1.2.2.1.2.2.1 x.2.2.1 x.2.2.2.1 x.2.2.2.2.1
def yy8 (x:(ygq).X):(yct).X:=((((),()),((),()),((),()),(0,()),()),((x.2.1.1.1,x.2.1.1.2.1,x.2.1.1.2.2.1,x.2.1.1.2.2.2.1,()),((),(),x.2.1.2.1.2.2.1,(),()),((),(),x.2.1.2.2.1.2.2.1,(),()),()),(x.2.2.1,x.2.2.2.1,x.2.2.2.2.1,()))
def yAV:Code:=(zd7 ye0 64 244).getD .skip
theorem yMa:zd7 ye0 64 61=some (.block 2 (.loop yAV)):=by kernel_rfl
theorem yOS (x:(yct).X):zhu ⟨yko,60,yrA⟩ 2 yAV 244 yct ygg yjV x=ycT x:=by kernel_rfl
def yzi (x:(ygq).X):Nat:=18446744073709551616
def ypZ (x:(ygq).X):Option ((ygg).X ⊕ (yjV).X):=zF ycT (yzi x) (yy8 x)
def yzC:Seg:=⟨ygq,ygg,yjV,ypZ⟩
def yPh:Nat→Option Seg:=fun q=>bif Nat.beq q 61 then some yzC else yrA q
theorem yMQ:FrOk prog ⟨yko,60,yPh⟩ ye0:=(yMP).loop (sg:=yzC) yct yy8 (by decide) yMa ycT yzi (by decide) (fun _=>rfl) (fun x r _ h=>h) yOS
abbrev ypA:List Par:= [.rd tM]
abbrev yx3:List OT:= [⟨false,tM,(.pr (.ow .fz) (.pr (.ow (.pr .fz .fz)) (.pr .fz (.ow .fz))))⟩]
def ytx (a0:dM):Option (zaY yx3×zak ypA) :=bif(zkl ([]:List Int).length a0.2.2.2.length 8)then zkt (ypY ((((),()),((),()),((),()),((),()),()),((a0.1,a0.2.1,a0.2.2.1,a0.2.2.2,()),((),(),false,(),()),((),(),a0.2.2.1,(),()),()),([],(([]:List Int)++a0.2.2.2),()))) (fun y0 =>zkt (ypZ ((((),()),((),()),((),()),((),()),()),((y0.2.1.1.1,y0.2.1.1.2.1,y0.2.1.1.2.2.1,y0.2.1.1.2.2.2.1,()),((),(),y0.2.1.2.1.2.2.1,(),()),((),(),y0.2.1.2.2.1.2.2.1,(),()),()),(y0.2.2.1,[],y0.2.2.2.1,()))) (fun y1 =>some (((y1.2.2.1,y1.2.2.2.1,y1.2.1.2.1.2.2.1,y1.2.2.2.2.1),()),())) (fun y1 =>none)) (fun y0 =>none) else none
theorem yRH:ConOk prog 76 ⟨ypA,yx3,fun x=>ytx x.1⟩:=zkI (yMQ) func76 ntmps76.symm fun x=>by kernel_rfl
def yar (a0:dM):dM:=a0
theorem yTZ (a0:dM) (hk:zjx ypA (a0,())):ytx a0=(fun n=>some ((n,()),())) (yar a0):=by
 have hb1:a0.1.length*24≤2^47:=hk.1.1.1;have hb2:a0.2.1.length*32≤2^47:=hk.1.2.1.1;have hb3:a0.2.2.2.length*8≤2^47:=hk.1.2.2.2.1;have hs: ∀i,i<a0.1.length→(a0.1.getD i []).length*8≤2^47:=fun i hi=>by rw[zkJ hi]; exact(hk.1.1.2 _ (List.getElem_mem hi)).1
 have hc: ∀i,i<a0.2.1.length→(a0.2.1.getD i (0,[])).2.length*8≤2^47:=fun i hi=>by rw[zkJ hi]; exact(hk.1.2.1.2 _ (List.getElem_mem hi)).2.1
 have h1:ypY (yKC a0 yd ([],[],a0.2.2.1,a0.2.2.2))=some (.inl (yzo a0 yd (a0.1,[],a0.2.2.1,a0.2.2.2))):=by
  have:=zkx (step:=ycS) a0.1 [] (fun i s=>yow i a0 yd (s,[],a0.2.2.1,a0.2.2.2)) (fun s x=>s++ [x]) (fun i s=>s.length=i) (fun s=> .inl (yzo a0 yd (s,[],a0.2.2.1,a0.2.2.2))) (fun i s hi hs2=>⟨by
   have:=hs i hi;simp only[ycS,yow,yo4,zky (show(i:Int)<a0.1.length by omega),cond_true,wq ((i:Int)+1) (by omega) (by omega),Int.natCast_add,Int.natCast_one,Int.toNat_natCast,zkR hi,zkS,List.nil_append]
   rw[zkF.2 (show(([]:List Int).length+(a0.1.getD i []).length)*8≤140737488355328 by rw[List.length_nil]; omega),zkF.2 (show(s.length+ [a0.1.getD i []].length)*24≤140737488355328 by simp only[List.length_cons,List.length_nil]; omega)]; rfl,by simp[hs2]⟩) (fun s _=>by simp only[ycS,yow,yo4,zk3 (Int.le_refl _),cond_false]) [] rfl 18446744073709551616 (by omega)
  rw[yvn]at this;exact this
 have h2:ypZ (yKD a0 yd (a0.1,[],a0.2.2.1,a0.2.2.2))=some (.inl (yzp yd a0)):=by
  have:=zkx (step:=ycT) a0.2.1 (0,[]) (fun i s=>yox i a0 yd (a0.1,s,a0.2.2.1,a0.2.2.2)) (fun s x=>s++ [x]) (fun i s=>s.length=i) (fun s=> .inl (yzp yd (a0.1,s,a0.2.2.1,a0.2.2.2))) (fun i s hi hs2=>⟨by
   have:=hc i hi;simp only[ycT,yox,yo5,zky (show(i:Int)<a0.2.1.length by omega),cond_true,wq ((i:Int)+1) (by omega) (by omega),Int.natCast_add,Int.natCast_one,Int.toNat_natCast,zkR hi,zkS,List.nil_append,zkX]
   rw[zkF.2 (show(([]:List Int).length+(a0.2.1.getD i (0,[])).2.length)*8≤140737488355328 by rw[List.length_nil]; omega),zkF.2 (show(s.length+ [a0.2.1.getD i (0,[])].length)*32≤140737488355328 by simp only[List.length_cons,List.length_nil]; omega)]; rfl,by simp[hs2]⟩) (fun s _=>by simp only[ycT,yox,yo5,zk3 (Int.le_refl _),cond_false]) [] rfl 18446744073709551616 (by omega)
  rw[yvn]at this;exact this
 unfold ytx yar;rw[zkF.2 (show(([]:List Int).length+a0.2.2.2.length)*8≤140737488355328 by rw[List.length_nil]; omega)];simp only[cond_true,List.nil_append,h1,zkN,h2]
def yh0:Con:=⟨ypA,yx3,fun x=>(fun n=>some ((n,()),())) (yar x.1)⟩
theorem yn0:ConOk prog 76 yh0:=(yRH).mono (fun x r hk h=>(yTZ x.1 hk).trans h)
def yXk:Code:=(f202.body).getD .skip
def yXw:Env:=zkw TT [(200,ygz)] []
theorem yQj:FrOk prog ⟨yXw,10,fun _=>none⟩ yXk:=zkA mixed yc ⟨ymf,trivial⟩
abbrev yAq:List Par:= [.rd tL]
abbrev yAG:List OT:= [⟨false,tB,.fz⟩]
def yFp (a0:List Int):Option (zaY yAG×zak yAq) :=bif(leb (a0.length:Int) 12)then let r1:=yac a0;some ((r1,()),()) else some ((false,()),())
theorem yUl:ConOk prog 202 ⟨yAq,yAG,fun x=>yFp x.1⟩:=zkI (yQj) func202 ntmps202.symm fun x=>by kernel_rfl
def ygF (a0:List Int):Bool :=bif(leb (a0.length:Int) 12)then let r1:=yac a0;r1 else false
def yvj:Con:=⟨yAq,yAG,fun x=>(fun n=>some ((n,()),())) (ygF x.1)⟩
theorem yWG (a0:List Int):yFp a0=(fun n=>some ((n,()),())) (ygF a0):=zkV (p:=fun(n:Bool)=>((n,()),())) (zkG (p:=fun(n:Bool)=>((n,()),())) rfl rfl)
theorem yGf:ConOk prog 202 yvj:=(yUl).mono (fun x r _ h=>(yWG x.1).trans h)
theorem yEk:ygF=yai:=funext fun s=>by
 unfold ygF yai yac;rw[show yT=isW from funext fun x=>by unfold yT; rw[ybR]; rfl];cases leb (s.length:Int) 12<;>rfl
def ycd:Code:=(f160.body).getD .skip
def yf7:Env:=zkw TT [(82,yw),(202,yvj)] []
theorem yQe:FrOk prog ⟨yf7,91,fun _=>none⟩ ycd:=zkA mixed yc ⟨yC,yGf,trivial⟩
def yEq:Nat→Option Seg:=fun _=>none
def yc5:Shape:=⟨[(1,false,[.ptr 0 0]),(3,false,[.int .i64]),(4,false,[.int .i64])],[(0,[.br tL,.br tW,.bool,.br tI])],[]⟩
def yhG:Shape:=⟨[(1,false,[.ptr 0 0]),(3,false,[.int .i64]),(4,false,[.ci .i64 0])],[(0,[.br tL,.br tW,.bool,.br tI])],[]⟩
def yhs:Shape:=⟨[(1,false,[.ptr 0 0]),(3,false,[.int .i64])],[(0,[.br tL,.br tW,.bool,.br tI])],[]⟩
def yhW:Shape:=⟨[(2,false,[.bool])],[],[]⟩
abbrev yqj (v0 v1:Int) (v2:dM):(yc5).X:=((((),()),(v0,()),(v1,()),()),((v2.1,v2.2.1,v2.2.2.1,v2.2.2.2,()),()),())
abbrev yNm (v0:Int) (v1:dM):(yhG).X:=((((),()),(v0,()),((),()),()),((v1.1,v1.2.1,v1.2.2.1,v1.2.2.2,()),()),())
abbrev yNd (v0:Int) (v1:dM):(yhs).X:=((((),()),(v0,()),()),((v1.1,v1.2.1,v1.2.2.1,v1.2.2.2,()),()),())
abbrev yNy (v0:Bool):(yhW).X:=(((v0,()),()),(),())
def yqU (v0 v1:Int) (v2:List (List Int)) (v3:List dW) (v4:Bool) (v5:List Int):Option ((yc5).X ⊕ ((yhs).X ⊕ (yhW).X)) :=bif(ltb v1 v0)then bif(inb v1 v2.length)then let r2:=ygF (nth v2 v1 []);bif(!r2)then some (.inr (.inr (((false,()),()),(),()))) else some (.inl ((((),()),(v0,()),((i64.wrap (v1+1)),()),()),((v2,v3,v4,v5,()),()),())) else none else some (.inr (.inl ((((),()),(v0,()),()),((v2,v3,v4,v5,()),()),())))
def ydB (x:(yc5).X):=yqU x.1.2.1.1 x.1.2.2.1.1 x.2.1.1.1 x.2.1.1.2.1 x.2.1.1.2.2.1 x.2.1.1.2.2.2.1
def yBq (x:(yhG).X):(yc5).X:=((((),()),(x.1.2.1.1,()),(0,()),()),((x.2.1.1.1,x.2.1.1.2.1,x.2.1.1.2.2.1,x.2.1.1.2.2.2.1,()),()),())
def yCX:Code:=(zd7 ycd 64 116).getD .skip
theorem yPI:zd7 ycd 64 29=some (.block 0 (.loop yCX)):=by kernel_rfl
theorem ySm (x:(yc5).X):zhu ⟨yf7,91,yEq⟩ 0 yCX 116 yc5 yhs yhW x=ydB x:=by kernel_rfl
def yBF (x:(yhG).X):Nat:=18446744073709551616
def yrQ (x:(yhG).X):Option ((yhs).X ⊕ (yhW).X):=zF ydB (yBF x) (yBq x)
def yCq:Seg:=⟨yhG,yhs,yhW,yrQ⟩
def yur:Nat→Option Seg:=fun q=>bif Nat.beq q 29 then some yCq else yEq q
theorem yQf:FrOk prog ⟨yf7,91,yur⟩ ycd:=(yQe).loop (sg:=yCq) yc5 yBq (by decide) yPI ydB yBF (by decide) (fun _=>rfl) (fun x r _ h=>h) ySm
def yc6:Shape:=⟨[(1,false,[.ptr 0 0]),(3,false,[.int .i64]),(5,false,[.int .i64])],[(0,[.br tL,.br tW,.bool,.br tI])],[]⟩
def yhH:Shape:=⟨[(1,false,[.ptr 0 0]),(3,false,[.int .i64]),(5,false,[.ci .i64 0])],[(0,[.br tL,.br tW,.bool,.br tI])],[]⟩
def yht:Shape:=⟨[(1,false,[.ptr 0 0]),(3,false,[.int .i64])],[(0,[.br tL,.br tW,.bool,.br tI])],[]⟩
def yhX:Shape:=⟨[(2,false,[.bool])],[],[]⟩
abbrev yqk (v0 v1:Int) (v2:dM):(yc6).X:=((((),()),(v0,()),(v1,()),()),((v2.1,v2.2.1,v2.2.2.1,v2.2.2.2,()),()),())
abbrev yNn (v0:Int) (v1:dM):(yhH).X:=((((),()),(v0,()),((),()),()),((v1.1,v1.2.1,v1.2.2.1,v1.2.2.2,()),()),())
abbrev yNe (v0:Int) (v1:dM):(yht).X:=((((),()),(v0,()),()),((v1.1,v1.2.1,v1.2.2.1,v1.2.2.2,()),()),())
abbrev yNz (v0:Bool):(yhX).X:=(((v0,()),()),(),())
def yqV (v0 v1:Int) (v2:List (List Int)) (v3:List dW) (v4:Bool) (v5:List Int):Option ((yc6).X ⊕ ((yht).X ⊕ (yhX).X)) :=bif(ltb v1 (v3.length:Int))then bif(inb v1 v3.length)then let r6:=ya ((nth v3 v1 (0,[])).1) 0 (i64.wrap (v0-1));bif(!(!r6))then bif(inb v1 v3.length)then let r7:=ygF ((nth v3 v1 (0,[])).2);bif(!r7)then some (.inr (.inr (((false,()),()),(),()))) else some (.inl ((((),()),(v0,()),((i64.wrap (v1+1)),()),()),((v2,v3,v4,v5,()),()),())) else none else some (.inr (.inr (((false,()),()),(),()))) else none else some (.inr (.inl ((((),()),(v0,()),()),((v2,v3,v4,v5,()),()),())))
def ydC (x:(yc6).X):=yqV x.1.2.1.1 x.1.2.2.1.1 x.2.1.1.1 x.2.1.1.2.1 x.2.1.1.2.2.1 x.2.1.1.2.2.2.1
def yBr (x:(yhH).X):(yc6).X:=((((),()),(x.1.2.1.1,()),(0,()),()),((x.2.1.1.1,x.2.1.1.2.1,x.2.1.1.2.2.1,x.2.1.1.2.2.2.1,()),()),())
def yCY:Code:=(zd7 ycd 64 244).getD .skip
theorem yPJ:zd7 ycd 64 61=some (.block 2 (.loop yCY)):=by kernel_rfl
theorem ySn (x:(yc6).X):zhu ⟨yf7,91,yur⟩ 2 yCY 244 yc6 yht yhX x=ydC x:=by kernel_rfl
def yBG (x:(yhH).X):Nat:=18446744073709551616
def yrR (x:(yhH).X):Option ((yht).X ⊕ (yhX).X):=zF ydC (yBG x) (yBr x)
def yCr:Seg:=⟨yhH,yht,yhX,yrR⟩
def yus:Nat→Option Seg:=fun q=>bif Nat.beq q 61 then some yCr else yur q
theorem yQg:FrOk prog ⟨yf7,91,yus⟩ ycd:=(yQf).loop (sg:=yCr) yc6 yBr (by decide) yPJ ydC yBG (by decide) (fun _=>rfl) (fun x r _ h=>h) ySn
def ycr:Shape:=⟨[(1,false,[.ptr 0 0]),(3,false,[.int .i64]),(6,false,[.int .i64])],[(0,[.br tL,.br tW,.bool,.br tI])],[]⟩
def ygo:Shape:=⟨[(1,false,[.ptr 0 0]),(3,false,[.int .i64]),(6,false,[.ci .i64 0])],[(0,[.br tL,.br tW,.bool,.br tI])],[]⟩
def yge:Shape:=⟨[(1,false,[.ptr 0 0]),(3,false,[.int .i64])],[(0,[.br tL,.br tW,.bool,.br tI])],[]⟩
def ygw:Shape:=⟨[(2,false,[.bool])],[],[]⟩
abbrev yov (v0 v1:Int) (v2:dM):(ycr).X:=((((),()),(v0,()),(v1,()),()),((v2.1,v2.2.1,v2.2.2.1,v2.2.2.2,()),()),())
abbrev yKB (v0:Int) (v1:dM):(ygo).X:=((((),()),(v0,()),((),()),()),((v1.1,v1.2.1,v1.2.2.1,v1.2.2.2,()),()),())
abbrev yKv (v0:Int) (v1:dM):(yge).X:=((((),()),(v0,()),()),((v1.1,v1.2.1,v1.2.2.1,v1.2.2.2,()),()),())
abbrev yKI (v0:Bool):(ygw).X:=(((v0,()),()),(),())
def yo3 (v0 v1:Int) (v2:List (List Int)) (v3:List dW) (v4:Bool) (v5:List Int):Option ((ycr).X ⊕ ((yge).X ⊕ (ygw).X)) :=bif(ltb v1 (v5.length:Int))then bif(inb v1 v5.length)then let r10:=ya (nth v5 v1 0) 0 (i64.wrap (v0-1));bif(!(!r10))then bif(ltb 0 v1)then bif(inb (i64.wrap (v1-1)) v5.length)then bif(inb v1 v5.length)then bif(leb (nth v5 v1 0) (nth v5 (i64.wrap (v1-1)) 0))then some (.inr (.inr (((false,()),()),(),()))) else some (.inl ((((),()),(v0,()),((i64.wrap (v1+1)),()),()),((v2,v3,v4,v5,()),()),())) else none else none else some (.inl ((((),()),(v0,()),((i64.wrap (v1+1)),()),()),((v2,v3,v4,v5,()),()),())) else some (.inr (.inr (((false,()),()),(),()))) else none else some (.inr (.inl ((((),()),(v0,()),()),((v2,v3,v4,v5,()),()),())))
def ycR (x:(ycr).X):=yo3 x.1.2.1.1 x.1.2.2.1.1 x.2.1.1.1 x.2.1.1.2.1 x.2.1.1.2.2.1 x.2.1.1.2.2.2.1
def yy6 (x:(ygo).X):(ycr).X:=((((),()),(x.1.2.1.1,()),(0,()),()),((x.2.1.1.1,x.2.1.1.2.1,x.2.1.1.2.2.1,x.2.1.1.2.2.2.1,()),()),())
def yAT:Code:=(zd7 ycd 64 500).getD .skip
theorem yL8:zd7 ycd 64 125=some (.block 4 (.loop yAT)):=by kernel_rfl
theorem yOQ (x:(ycr).X):zhu ⟨yf7,91,yus⟩ 4 yAT 500 ycr yge ygw x=ycR x:=by kernel_rfl
def yzg (x:(ygo).X):Nat:=18446744073709551616
def ypX (x:(ygo).X):Option ((yge).X ⊕ (ygw).X):=zF ycR (yzg x) (yy6 x)
def yzA:Seg:=⟨ygo,yge,ygw,ypX⟩
def ySW:Nat→Option Seg:=fun q=>bif Nat.beq q 125 then some yzA else yus q
theorem yQh:FrOk prog ⟨yf7,91,ySW⟩ ycd:=(yQg).loop (sg:=yzA) ycr yy6 (by decide) yL8 ycR yzg (by decide) (fun _=>rfl) (fun x r _ h=>h) yOQ
abbrev yr7:List Par:= [.rd tM]
abbrev yAE:List OT:= [⟨false,tB,.fz⟩]
def yvI (a0:dM):Option (zaY yAE×zak yr7) :=zkt (yrQ ((((),()),((a0.1.length:Int),()),((),()),()),((a0.1,a0.2.1,a0.2.2.1,a0.2.2.2,()),()),())) (fun y2 =>zkt (yrR ((((),()),(y2.1.2.1.1,()),((),()),()),((y2.2.1.1.1,y2.2.1.1.2.1,y2.2.1.1.2.2.1,y2.2.1.1.2.2.2.1,()),()),())) (fun y7 =>zkt (ypX ((((),()),(y7.1.2.1.1,()),((),()),()),((y7.2.1.1.1,y7.2.1.1.2.1,y7.2.1.1.2.2.1,y7.2.1.1.2.2.2.1,()),()),())) (fun y10 =>let r12:=ya y10.1.2.1.1 1 20;bif r12 then some (((leb (y10.2.1.1.2.1.length:Int) 60),()),()) else some ((false,()),())) (fun y10 =>some ((y10.1.1.1,()),()))) (fun y7 =>some ((y7.1.1.1,()),()))) (fun y2 =>some ((y2.1.1.1,()),()))
theorem yUj:ConOk prog 160 ⟨yr7,yAE,fun x=>yvI x.1⟩:=zkI (yQh) func160 ntmps160.symm fun x=>by kernel_rfl
def yav (a0:dM):Bool:=yr a0
theorem yWE (a0:dM) (hk:zjx yr7 (a0,())):yvI a0=(fun n=>some ((n,()),())) (yav a0):=by
 have hb1:a0.1.length*24≤2^47:=hk.1.1.1;have hb2:a0.2.1.length*32≤2^47:=hk.1.2.1.1;have hb3:a0.2.2.2.length*8≤2^47:=hk.1.2.2.2.1
 have h1:yrQ (yNm a0.1.length a0)=some (bif a0.1.all yai then .inl (yNd a0.1.length a0)else .inr (yNy false)) :=
  zj9 (step:=ydB) a0.1 [] (fun i=>yqj a0.1.length i a0) yai _ _ (fun i hi=>by
   simp only[ydB,yqj,yqU,zky (show(i:Int)<a0.1.length by omega),cond_true,wq ((i:Int)+1) (by omega) (by omega),Int.natCast_add,Int.natCast_one,Int.toNat_natCast,zkR hi,zkS,yEk]
   cases yai (a0.1.getD i [])<;>rfl) (by simp only[ydB,yqj,yqU,zk3 (Int.le_refl _),cond_false]) _ (by show _<18446744073709551616; omega)
 have h2:yrR (yNn a0.1.length a0)=some (bif a0.2.1.all (yq2 a0.1.length)then .inl (yNe a0.1.length a0)else .inr (yNz false)) :=
  zj9 (step:=ydC) a0.2.1 (0,[]) (fun i=>yqk a0.1.length i a0) (yq2 a0.1.length) _ _ (fun i hi=>by
   simp only[ydC,yqk,yqV,zky (show(i:Int)<a0.2.1.length by omega),cond_true,wq ((i:Int)+1) (by omega) (by omega),Int.natCast_add,Int.natCast_one,Int.toNat_natCast,zkR hi,zkS,yEk,yh1 (show a0.1.length≤1152921504606846976 by omega),yq2]
   cases inb (a0.2.1.getD i (0,[])).1 a0.1.length<;>cases yai (a0.2.1.getD i (0,[])).2<;>rfl) (by simp only[ydC,yqk,yqV,zk3 (Int.le_refl _),cond_false]) _ (by show _<18446744073709551616; omega)
 have h3:ypX (yKB a0.1.length a0)=some (bif(List.range a0.2.2.2.length).any (yCR a0.1.length a0.2.2.2)then .inr (yKI false)else .inl (yKv a0.1.length a0)) :=
  zji (step:=ycR) (fun i=>yov a0.1.length i a0) a0.2.2.2.length (yCR a0.1.length a0.2.2.2) _ _ (fun i hi=>by
   simp only[ycR,yov,yo3,zky (show(i:Int)<a0.2.2.2.length by omega),cond_true,wq ((i:Int)+1) (by omega) (by omega),Int.natCast_add,Int.natCast_one,Int.toNat_natCast,zkR hi,zkS,yh1 (show a0.1.length≤1152921504606846976 by omega),yCR];rcases Nat.eq_zero_or_pos i with rfl | h0
   ·cases inb (a0.2.2.2.getD 0 0) a0.1.length<;>rfl
   ·rw[show i64.wrap ((i:Int)-1)=((i-1:Nat):Int)by rw[wr (by omega) (by omega)]; omega,zkR (show i-1<a0.2.2.2.length by omega),zkS,zky (show(0:Int)<i by omega),decide_eq_true h0]
    cases inb (a0.2.2.2.getD i 0) a0.1.length<;>cases leb (a0.2.2.2.getD i 0) (a0.2.2.2.getD (i-1) 0)<;>rfl) (by simp only[ycR,yov,yo3,zk3 (Int.le_refl _),cond_false]) _ (by show _<18446744073709551616; omega)
 unfold yvI yav yr;rw[h1];cases a0.1.all yai
 ·rfl
 simp only[cond_true,zkN,h2];cases a0.2.1.all (yq2 a0.1.length)
 ·rfl
 simp only[cond_true,zkN,h3,yU2,ybR];cases ynN a0.1.length a0.2.2.2
 ·rfl
 simp only[Bool.not_true,cond_false,zkN];cases leb 1 (a0.1.length:Int)<;>cases leb (a0.1.length:Int) 20<;>rfl
def yfY:Con:=⟨yr7,yAE,fun x=>(fun n=>some ((n,()),())) (yav x.1)⟩
theorem ykL:ConOk prog 160 yfY:=(yUj).mono (fun x r hk h=>(yWE x.1 hk).trans h)
def yjK:Code:=(f245.body).getD .skip
def ypT:Env:=zkw TT [] []
theorem yGy:FrOk prog ⟨ypT,28,fun _=>none⟩ yjK:=zkA mixed yc trivial
def yvY:Nat→Option Seg:=fun _=>none
def yaU:Shape:=⟨[(0,false,[.br tI]),(1,false,[.int .i64]),(5,false,[.at 800000000]),(6,false,[.int .i64])],[],[(800000000,tI,.fz)]⟩
def yd0:Shape:=⟨[(0,false,[.br tI]),(1,false,[.int .i64]),(5,false,[.at 800000000]),(6,false,[.ci .i64 0])],[],[(800000000,tI,.fz)]⟩
def ydV:Shape:=⟨[(5,false,[.at 800000000])],[],[(800000000,tI,.fz)]⟩
def ygV:Shape:=⟨[],[],[]⟩
abbrev yka (v0:List Int) (v1 v2:Int) (v3:List Int):(yaU).X:=(((v0,()),(v1,()),((),()),(v2,()),()),(),(v3,()))
abbrev yFR (v0:List Int) (v1:Int) (v2:List Int):(yd0).X:=(((v0,()),(v1,()),((),()),((),()),()),(),(v2,()))
abbrev yFN (v0:List Int):(ydV).X:=((((),()),()),(),(v0,()))
def ykm (v0:List Int) (v1 v2:Int) (v3:List Int):Option ((yaU).X ⊕ ((ydV).X ⊕ (ygV).X)) :=bif(ltb v2 (v0.length:Int))then bif(inb v2 v0.length)then bif((nth v0 v2 0) !=v1)then bif(inb v2 v0.length)then bif(zkl v3.length ([(nth v0 v2 0)]:List Int).length 8)then some (.inl (((v0,()),(v1,()),((),()),((i64.wrap (v2+1)),()),()),(),((v3++([(nth v0 v2 0)]:List Int)),()))) else none else none else some (.inl (((v0,()),(v1,()),((),()),((i64.wrap (v2+1)),()),()),(),(v3,()))) else none else some (.inr (.inl ((((),()),()),(),(v3,()))))
def ybc (x:(yaU).X):=ykm x.1.1.1 x.1.2.1.1 x.1.2.2.2.1.1 x.2.2.1
def ysY (x:(yd0).X):(yaU).X:=(((x.1.1.1,()),(x.1.2.1.1,()),((),()),(0,()),()),(),(x.2.2.1,()))
def ytQ:Code:=(zd7 yjK 64 116).getD .skip
theorem yGq:zd7 yjK 64 29=some (.block 0 (.loop ytQ)):=by kernel_rfl
theorem yG2 (x:(yaU).X):zhu ⟨ypT,28,yvY⟩ 0 ytQ 116 yaU ydV ygV x=ybc x:=by kernel_rfl
def ys4 (x:(yd0).X):Nat:=18446744073709551616
def ykY (x:(yd0).X):Option ((ydV).X ⊕ (ygV).X):=zF ybc (ys4 x) (ysY x)
def ytI:Seg:=⟨yd0,ydV,ygV,ykY⟩
def yG6:Nat→Option Seg:=fun q=>bif Nat.beq q 29 then some ytI else yvY q
theorem yGz:FrOk prog ⟨ypT,28,yG6⟩ yjK:=(yGy).loop (sg:=ytI) yaU ysY (by decide) yGq ybc ys4 (by decide) (fun _=>rfl) (fun x r _ h=>h) yG2
abbrev yjO:List Par:= [.rd tL,.rd tI]
abbrev yp7:List OT:= [⟨false,tL,(.ow .fz)⟩]
def ym2 (a0:List Int) (a1:Int):Option (zaY yp7×zak yjO) :=zkt (ykY (((a0,()),(a1,()),((),()),((),()),()),(),(([]:List Int),()))) (fun y0 =>some ((y0.2.2.1,()),())) (fun y0 =>none)
theorem yID:ConOk prog 245 ⟨yjO,yp7,fun x=>ym2 x.1 x.2.1⟩:=zkI (yGz) func245 ntmps245.symm fun x=>by kernel_rfl
def ygH (a0:List Int) (a1:Int):List Int:=yF4 a0 a1
theorem yHq {α:Type} (p:α→Bool): ∀(l:List α) (s:List α),l.foldl (fun s x=>bif p x then s++ [x]else s) s=s++l.filter p
 | [],s=>by simp
 | x::l,s=>by
  rw[List.foldl_cons,yHq p l,List.filter_cons];cases p x<;>simp
theorem yKP (a0:List Int) (a1:Int) (hk:zjx yjO (a0,a1,())):ym2 a0 a1=(fun n=>some ((n,()),())) (ygH a0 a1):=by
 have hb:a0.length*8≤2^47:=hk.1.1
 have h1:=zkx (step:=ybc) a0 0 (fun i s=>yka a0 a1 i s) (fun s x=>bif x !=a1 then s++ [x]else s) (fun i s=>s.length≤i) (fun s=> .inl (yFN s)) (fun i s hi hs=>by
   constructor
   ·simp only[ybc,yka,ykm,zky (show(i:Int)<a0.length by omega),cond_true,wq ((i:Int)+1) (by omega) (by omega),Int.natCast_add,Int.natCast_one,Int.toNat_natCast,zkR hi,zkS]
    rw[zkF.2 (show(s.length+ [a0.getD i 0].length)*8≤140737488355328 by simp only[List.length_cons,List.length_nil]; omega)];cases(a0.getD i 0 !=a1)<;>rfl
   ·cases(a0.getD i 0 !=a1)
    ·show s.length≤_; omega
    ·simp only[cond_true,List.length_append,List.length_cons,List.length_nil]; omega) (fun s _=>by simp only[ybc,yka,ykm,zk3 (Int.le_refl _),cond_false]) [] (Nat.le_refl _) 18446744073709551616 (by omega)
 unfold ym2 ygH yF4;rw[show ykY (yFR a0 a1 [])=_ from h1,yHq]; rfl
def ywc:Con:=⟨yjO,yp7,fun x=>(fun n=>some ((n,()),())) (ygH x.1 x.2.1)⟩
theorem yLh:ConOk prog 245 ywc:=(yID).mono (fun x r hk h=>(yKP x.1 x.2.1 hk).trans h)
def yPa:Code:=(f225.body).getD .skip
def yPz:Env:=zkw TT [(76,yh0),(82,yw),(160,yfY),(202,yvj),(245,ywc)] [(16832,(.pr .fz .fz))]
theorem yHW:FrOk prog ⟨yPz,55,fun _=>none⟩ yPa:=zkA mixed yc ⟨yn0,yC,ykL,yGf,yLh,trivial⟩
abbrev ylL:List Par:= [.rd tM,.rd tI,.rd tL]
abbrev ysx:List OT:= [⟨false,tM,(.pr (.ow .fz) (.pr (.ow (.pr .fz .fz)) (.pr .fz (.ow .fz))))⟩,⟨false,tB,.fz⟩]
def yoX (a0:dM) (a1:Int) (a2:List Int):Option (zaY ysx×zak ylL) :=let r1:=yar a0;let r2:=yav a0;bif(!(!r2))then bif(!a0.2.2.1)then let r3:=ya a1 0 (i64.wrap ((a0.1.length:Int)-1));bif(!(!r3))then let r4:=ygF a2;bif(!(!r4))then bif(leb 60 (a0.2.1.length:Int))then some ((r1,false,()),()) else bif(zkl ([]:List Int).length a2.length 8)then bif(zkl r1.2.1.length ([(a1,(([]:List Int)++a2))]:List dW).length 32)then let r5:=ygH a0.2.2.2 a1;some (((r1.1,(r1.2.1++([(a1,(([]:List Int)++a2))]:List dW)),r1.2.2.1,r5),true,()),()) else none else none else some ((r1,false,()),()) else some ((r1,false,()),()) else some ((r1,false,()),()) else some ((r1,false,()),())
theorem yLb:ConOk prog 225 ⟨ylL,ysx,fun x=>yoX x.1 x.2.1 x.2.2.1⟩:=zkI (yHW) func225 ntmps225.symm fun x=>by kernel_rfl
def yib (a0:dM) (a1:Int) (a2:List Int):dM×Bool:=yH a0 a1 a2
theorem yNW (a0:dM) (a1:Int) (a2:List Int) (hk:zjx ylL (a0,a1,a2,())):yoX a0 a1 a2=(fun n=>some ((n.1,n.2,()),())) (yib a0 a1 a2):=by
 have hb1:a0.1.length*24≤2^47:=hk.1.1.1;have hb2:a2.length*8≤2^47:=hk.2.2.1.1;unfold yoX yib yH yaV;simp only[yar,yav,yh1 (show a0.1.length≤1152921504606846976 by omega),yEk,ygH,List.nil_append];cases yr a0
 ·rfl
 cases a0.2.2.1
 ·cases inb a1 a0.1.length
  ·rfl
  cases yai a2
  ·rfl
  by_cases h:(a0.2.1.length:Int)<60
  ·rw[zky h,zk1 h,zkF.2 (show(([]:List Int).length+a2.length)*8≤140737488355328 by rw[List.length_nil]; omega),zkF.2 (show(a0.2.1.length+ [(a1,a2)].length)*32≤140737488355328 by simp only[List.length_cons,List.length_nil]; omega)]; rfl
  ·rw[zk3 (by omega),zk2 (by omega)]; rfl
 ·rfl
def yy0:Con:=⟨ylL,ysx,fun x=>(fun n=>some ((n.1,n.2,()),())) (yib x.1 x.2.1 x.2.2.1)⟩
theorem yOI:ConOk prog 225 yy0:=(yLb).mono (fun x r hk h=>(yNW x.1 x.2.1 x.2.2.1 hk).trans h)
def yYh:Code:=(f228.body).getD .skip
def yYj:Env:=zkw TT [] []
theorem yTv:FrOk prog ⟨yYj,31,fun _=>none⟩ yYh:=zkA mixed yc trivial
abbrev yD7:List Par:= [.pt tA (.pr .fz (.pr (.pr .fz .fz) (.pr (.ow (.pr (.ow .fz) (.pr (.ow (.pr .fz .fz)) (.pr .fz (.ow .fz))))) (.pr .fz (.pr .fz (.pr .fz (.pr .fz (.pr .fz (.pr (.ow (.pr .fz .fz)) (.pr .fz (.pr .fz .fz)))))))))))]
abbrev yEa:List OT:= [⟨false,tB,.fz⟩]
def yGi (a0:dA):Option (zaY yEa×zak yD7) :=bif a0.2.2.2.2.2.2.2.2.2.2.1 then some ((false,()),(a0,())) else bif(a0.2.2.2.2.2.2.2.2.2.1==0)then some ((false,()),((a0.1,a0.2.1,a0.2.2.1,a0.2.2.2.1,a0.2.2.2.2.1,a0.2.2.2.2.2.1,a0.2.2.2.2.2.2.1,a0.2.2.2.2.2.2.2.1,a0.2.2.2.2.2.2.2.2.1,(-1),true,a0.2.2.2.2.2.2.2.2.2.2.2),())) else bif(ltb 0 a0.2.2.2.2.2.2.2.2.2.1)then some ((true,()),((a0.1,a0.2.1,a0.2.2.1,a0.2.2.2.1,a0.2.2.2.2.1,a0.2.2.2.2.2.1,a0.2.2.2.2.2.2.1,a0.2.2.2.2.2.2.2.1,a0.2.2.2.2.2.2.2.2.1,(i64.wrap (a0.2.2.2.2.2.2.2.2.2.1-1)),a0.2.2.2.2.2.2.2.2.2.2),())) else some ((true,()),(a0,()))
theorem yWQ:ConOk prog 228 ⟨yD7,yEa,fun x=>yGi x.1⟩:=zkI (yTv) func228 ntmps228.symm fun x=>by kernel_rfl
def ypf (a0:dA):Bool×dA :=bif a0.2.2.2.2.2.2.2.2.2.2.1 then (false,a0) else bif(a0.2.2.2.2.2.2.2.2.2.1==0)then (false,(a0.1,a0.2.1,a0.2.2.1,a0.2.2.2.1,a0.2.2.2.2.1,a0.2.2.2.2.2.1,a0.2.2.2.2.2.2.1,a0.2.2.2.2.2.2.2.1,a0.2.2.2.2.2.2.2.2.1,(-1),true,a0.2.2.2.2.2.2.2.2.2.2.2)) else bif(ltb 0 a0.2.2.2.2.2.2.2.2.2.1)then (true,(a0.1,a0.2.1,a0.2.2.1,a0.2.2.2.1,a0.2.2.2.2.1,a0.2.2.2.2.2.1,a0.2.2.2.2.2.2.1,a0.2.2.2.2.2.2.2.1,a0.2.2.2.2.2.2.2.2.1,(i64.wrap (a0.2.2.2.2.2.2.2.2.2.1-1)),a0.2.2.2.2.2.2.2.2.2.2)) else (true,a0)
def yyb:Con:=⟨yD7,yEa,fun x=>(fun n=>some ((n.1,()),(n.2,()))) (ypf x.1)⟩
theorem yXX (a0:dA):yGi a0=(fun n=>some ((n.1,()),(n.2,()))) (ypf a0):=zkV (p:=fun(n:Bool×dA)=>((n.1,()),(n.2,()))) (zkG (p:=fun(n:Bool×dA)=>((n.1,()),(n.2,()))) rfl (zkG (p:=fun(n:Bool×dA)=>((n.1,()),(n.2,()))) rfl (zkG (p:=fun(n:Bool×dA)=>((n.1,()),(n.2,()))) rfl rfl)))
theorem yII:ConOk prog 228 yyb:=(yWQ).mono (fun x r _ h=>(yXX x.1).trans h)
theorem ySw (a:dA):ypf a=opA a:=by kernel_rfl
def yXn:Code:=(f206.body).getD .skip
def yXz:Env:=zkw TT [(225,yy0),(228,yyb)] []
theorem yQs:FrOk prog ⟨yXz,43,fun _=>none⟩ yXn:=zkA mixed yc ⟨yOI,yII,trivial⟩
abbrev ymt:List Par:= [.pt tA (.pr .fz (.pr (.pr .fz .fz) (.pr (.ow (.pr (.ow .fz) (.pr (.ow (.pr .fz .fz)) (.pr .fz (.ow .fz))))) (.pr .fz (.pr .fz (.pr .fz (.pr .fz (.pr .fz (.pr (.ow (.pr .fz .fz)) (.pr .fz (.pr .fz .fz))))))))))),.rd tI,.rd tI,.rd tL]
abbrev ysz:List OT:= []
def yvL (a0:dA) (a1 a2:Int) (a3:List Int):Option (zaY ysz×zak ymt) :=bif(inb a1 a0.2.2.1.length)then bif(!((((nth a0.2.2.1 a1 ([],[],false,[])).2).2).1))then let r1:=ypf a0;bif(!r1.1)then some ((),(r1.2,())) else bif(inb a1 r1.2.2.2.1.length)then let r2:=yib ((nth r1.2.2.2.1 a1 ([],[],false,[])).1,((nth r1.2.2.2.1 a1 ([],[],false,[])).2).1,(((nth r1.2.2.2.1 a1 ([],[],false,[])).2).2)) a2 a3;bif(inb a1 r1.2.2.2.1.length)then some ((),((r1.2.1,r1.2.2.1,(r1.2.2.2.1.set (a1).toNat r2.1),r1.2.2.2.2),())) else none else none else some ((),(a0,())) else none
theorem yUr:ConOk prog 206 ⟨ymt,ysz,fun x=>yvL x.1 x.2.1 x.2.2.1 x.2.2.2.1⟩:=zkI (yQs) func206 ntmps206.symm fun x=>by kernel_rfl
def ymV (a0:dA) (a1 a2:Int) (a3:List Int):dA:=ycB a0 a1 a2 a3
def yB8 (a0:dA) (a1 a2:Int) (a3:List Int):Bool:=inb a1 a0.2.2.1.length
theorem yWK (a0:dA) (a1 a2:Int) (a3:List Int) (hk:zjx ymt (a0,a1,a2,a3,())) (hq:yB8 a0 a1 a2 a3=true):yvL a0 a1 a2 a3=(fun n=>some ((),(n,()))) (ymV a0 a1 a2 a3):=by
 have hq:inb a1 a0.2.2.1.length=true:=hq;unfold yvL ymV ycB yd2;simp only[ySw,yax,hq,zkX,yib];cases(nth a0.2.2.1 a1 yd).2.2.1<;>cases(opA a0).1<;>rfl
def yeL (a0:dA) (a1 a2:Int) (a3:List Int):Option (zaY ysz×zak ymt):=bif yB8 a0 a1 a2 a3 then(fun n=>some ((),(n,()))) (ymV a0 a1 a2 a3)else none
theorem ykM (a0:dA) (a1 a2:Int) (a3:List Int) (h:yB8 a0 a1 a2 a3=true):yeL a0 a1 a2 a3=(fun n=>some ((),(n,()))) (ymV a0 a1 a2 a3):=by unfold yeL; rw[h]; rfl
def yi8:Con:=⟨ymt,ysz,fun x=>yeL x.1 x.2.1 x.2.2.1 x.2.2.2.1⟩
theorem ypQ:ConOk prog 206 yi8:=(yUr).mono (fun x r hk h=>zkY h (fun hq=>yWK x.1 x.2.1 x.2.2.1 x.2.2.2.1 hk hq))
def yls:Code:=(f224.body).getD .skip
def yrJ:Env:=zkw TT [(76,yh0),(160,yfY)] [(32768,(.pr .fz .fz))]
theorem yHP:FrOk prog ⟨yrJ,40,fun _=>none⟩ yls:=zkA mixed yc ⟨yn0,ykL,trivial⟩
def yyx:Nat→Option Seg:=fun _=>none
def ybj:Shape:=⟨[(2,false,[.ptr 64 0]),(3,false,[.ptr 4224 0]),(4,false,[.int .i64])],[(64,[.nil,.nil,.bool,.nil]),(4224,[.at 800000000,.at 800000001,.bool,.at 800000002])],[(800000000,tL,.fz),(800000001,tW,(.pr .fz .fz)),(800000002,tI,.fz)]⟩
def yeB:Shape:=⟨[(2,false,[.ptr 64 0]),(3,false,[.ptr 4224 0]),(4,false,[.ci .i64 0])],[(64,[.nil,.nil,.bool,.nil]),(4224,[.at 800000000,.at 800000001,.bool,.at 800000002])],[(800000000,tL,.fz),(800000001,tW,(.pr .fz .fz)),(800000002,tI,.fz)]⟩
def yeu:Shape:=⟨[(2,false,[.ptr 64 0]),(3,false,[.ptr 4224 0])],[(64,[.nil,.nil,.bool,.nil]),(4224,[.at 800000000,.at 800000001,.bool,.at 800000002])],[(800000000,tL,.fz),(800000001,tW,(.pr .fz .fz)),(800000002,tI,.fz)]⟩
def yhV:Shape:=⟨[],[],[]⟩
abbrev yk5 (v0:Int) (v1 v2:dM):(ybj).X:=((((),()),((),()),(v0,()),()),(((),(),v1.2.2.1,(),()),((),(),v2.2.2.1,(),()),()),(v2.1,v2.2.1,v2.2.2.2,()))
abbrev yGI (v0 v1:dM):(yeB).X:=((((),()),((),()),((),()),()),(((),(),v0.2.2.1,(),()),((),(),v1.2.2.1,(),()),()),(v1.1,v1.2.1,v1.2.2.2,()))
abbrev yud (v0 v1:dM):(yeu).X:=((((),()),((),()),()),(((),(),v0.2.2.1,(),()),((),(),v1.2.2.1,(),()),()),(v1.1,v1.2.1,v1.2.2.2,()))
def ylj (v0:Int) (v1 v2:Bool) (v3:List (List Int)) (v4:List dW) (v5:List Int):Option ((ybj).X ⊕ ((yeu).X ⊕ (yhV).X)) :=bif(ltb v0 (v4.length:Int))then bif(inb v0 v4.length)then bif(inb v0 v4.length)then bif(inb ((nth v4 v0 (0,[])).1) v3.length)then let r4:=(v3.set ((nth v4 v0 (0,[])).1).toNat ((nth v4 v0 (0,[])).2));some (.inl ((((),()),((),()),((i64.wrap (v0+1)),()),()),(((),(),v1,(),()),((),(),v2,(),()),()),(r4,v4,v5,()))) else none else none else none else some (.inr (.inl ((((),()),((),()),()),(((),(),v1,(),()),((),(),v2,(),()),()),(v3,v4,v5,()))))
def ybA (x:(ybj).X):=ylj x.1.2.2.1.1 x.2.1.1.2.2.1 x.2.1.2.1.2.2.1 x.2.2.1 x.2.2.2.1 x.2.2.2.2.1
def yt2 (x:(yeB).X):(ybj).X:=((((),()),((),()),(0,()),()),(((),(),x.2.1.1.2.2.1,(),()),((),(),x.2.1.2.1.2.2.1,(),()),()),(x.2.2.1,x.2.2.2.1,x.2.2.2.2.1,()))
def yv8:Code:=(zd7 yls 64 244).getD .skip
theorem yHi:zd7 yls 64 61=some (.block 0 (.loop yv8)):=by kernel_rfl
theorem yIT (x:(ybj).X):zhu ⟨yrJ,40,yyx⟩ 0 yv8 244 ybj yeu yhV x=ybA x:=by kernel_rfl
def yua (x:(yeB).X):Nat:=18446744073709551616
def yms (x:(yeB).X):Option ((yeu).X ⊕ (yhV).X):=zF ybA (yua x) (yt2 x)
def yuo:Seg:=⟨yeB,yeu,yhV,yms⟩
def yJq:Nat→Option Seg:=fun q=>bif Nat.beq q 61 then some yuo else yyx q
theorem yHQ:FrOk prog ⟨yrJ,40,yJq⟩ yls:=(yHP).loop (sg:=yuo) ybj yt2 (by decide) yHi ybA yua (by decide) (fun _=>rfl) (fun x r _ h=>h) yIT
abbrev ylH:List Par:= [.rd tM]
abbrev yss:List OT:= [⟨false,tM,(.pr (.ow .fz) (.pr (.ow (.pr .fz .fz)) (.pr .fz (.ow .fz))))⟩]
def yoT (a0:dM):Option (zaY yss×zak ylH) :=let r1:=yar a0;let r2:=yav a0;bif(!(!r2))then bif a0.2.2.1 then some ((r1,()),()) else zkt (yms ((((),()),((),()),((),()),()),(((),(),false,(),()),((),(),r1.2.2.1,(),()),()),(r1.1,r1.2.1,r1.2.2.2,()))) (fun y4 =>some (((y4.2.2.1,([]:List dW),y4.2.1.2.1.2.2.1,y4.2.2.2.2.1),()),())) (fun y4 =>none) else some ((r1,()),())
theorem yK6:ConOk prog 224 ⟨ylH,yss,fun x=>yoT x.1⟩:=zkI (yHQ) func224 ntmps224.symm fun x=>by kernel_rfl
def yh9 (a0:dM):dM:=yq a0
theorem yNR (a0:dM) (hk:zjx ylH (a0,())):yoT a0=(fun n=>some ((n,()),())) (yh9 a0):=by
 have hb2:a0.2.1.length*32≤2^47:=hk.1.2.1.1;unfold yoT yh9 yq;simp only[yar,yav];cases hm:yr a0
 ·rfl
 have h1:yms (yGI yd a0)=some (.inl (yud yd (yi9 (fun _=>true) a0.2.1 a0.1,a0.2))) :=
  zkD (step:=ybA) a0.2.1.length (fun i s=>yk5 i yd (s,a0.2)) (ygB (fun _=>true) a0.2.1) (fun i s=>s.length=a0.1.length) (fun s=> .inl (yud yd (s,a0.2))) (fun i s hi hs=>by
   have hw:=(yXU hm hi).1;refine⟨?_,yzP.trans hs⟩
   simp only[ybA,yk5,ylj,zky (show(i:Int)<a0.2.1.length by omega),cond_true,wq ((i:Int)+1) (by omega) (by omega),Int.natCast_add,Int.natCast_one,Int.toNat_natCast,zkR hi,hs,hw,ygB]) (fun s hs=>by simp only[ybA,yk5,ylj,zk3 (Int.le_refl _),cond_false]) a0.1 rfl _ (by show _<18446744073709551616; omega)
 rw[h1];cases hf:a0.2.2.1
 ·exact congrArg (fun z=>some (((yi9 (fun _=>true) a0.2.1 a0.1,([]:List dW),z,a0.2.2.2),()),())) hf
 ·rfl
def yyX:Con:=⟨ylH,yss,fun x=>(fun n=>some ((n,()),())) (yh9 x.1)⟩
theorem yOF:ConOk prog 224 yyX:=(yK6).mono (fun x r hk h=>(yNR x.1 hk).trans h)
def ypq:Code:=(f208.body).getD .skip
def yxg:Env:=zkw TT [(224,yyX),(228,yyb)] []
theorem yM5:FrOk prog ⟨yxg,39,fun _=>none⟩ ypq:=zkA mixed yc ⟨yOF,yII,trivial⟩
def yCQ:Nat→Option Seg:=fun _=>none
def ydb:Shape:=⟨[(0,false,[.ptr 1000000000 0]),(2,false,[.int .i64])],[(1000000000,[.int .i64,.int .i64,.int .i64,.at 800000000,.int .i64,.int .i64,.int .i64,.int .i64,.int .i64,.at 800000001,.int .i64,.bool,.bool])],[(800000000,tM,(.pr (.ow .fz) (.pr (.ow (.pr .fz .fz)) (.pr .fz (.ow .fz))))),(800000001,tW,(.pr .fz .fz))]⟩
def yhM:Shape:=⟨[(0,false,[.ptr 1000000000 0]),(2,false,[.ci .i64 0])],[(1000000000,[.int .i64,.int .i64,.int .i64,.at 800000000,.int .i64,.int .i64,.int .i64,.int .i64,.int .i64,.at 800000001,.int .i64,.bool,.bool])],[(800000000,tM,(.pr (.ow .fz) (.pr (.ow (.pr .fz .fz)) (.pr .fz (.ow .fz))))),(800000001,tW,(.pr .fz .fz))]⟩
def yhy:Shape:=⟨[],[(1000000000,[.int .i64,.int .i64,.int .i64,.at 800000000,.int .i64,.int .i64,.int .i64,.int .i64,.int .i64,.at 800000001,.int .i64,.bool,.bool])],[(800000000,tM,(.pr (.ow .fz) (.pr (.ow (.pr .fz .fz)) (.pr .fz (.ow .fz))))),(800000001,tW,(.pr .fz .fz))]⟩
def ylX:Shape:=⟨[],[],[]⟩
abbrev yqp (v0:Int) (v1:dA):(ydb).X:=((((),()),(v0,()),()),((v1.1,v1.2.1.1,v1.2.1.2,(),v1.2.2.2.1,v1.2.2.2.2.1,v1.2.2.2.2.2.1,v1.2.2.2.2.2.2.1,v1.2.2.2.2.2.2.2.1,(),v1.2.2.2.2.2.2.2.2.2.1,v1.2.2.2.2.2.2.2.2.2.2.1,v1.2.2.2.2.2.2.2.2.2.2.2,()),()),(v1.2.2.1,v1.2.2.2.2.2.2.2.2.1,()))
abbrev yNs (v0:dA):(yhM).X:=((((),()),((),()),()),((v0.1,v0.2.1.1,v0.2.1.2,(),v0.2.2.2.1,v0.2.2.2.2.1,v0.2.2.2.2.2.1,v0.2.2.2.2.2.2.1,v0.2.2.2.2.2.2.2.1,(),v0.2.2.2.2.2.2.2.2.2.1,v0.2.2.2.2.2.2.2.2.2.2.1,v0.2.2.2.2.2.2.2.2.2.2.2,()),()),(v0.2.2.1,v0.2.2.2.2.2.2.2.2.1,()))
abbrev yBV (v0:dA):(yhy).X:=((),((v0.1,v0.2.1.1,v0.2.1.2,(),v0.2.2.2.1,v0.2.2.2.2.1,v0.2.2.2.2.2.1,v0.2.2.2.2.2.2.1,v0.2.2.2.2.2.2.2.1,(),v0.2.2.2.2.2.2.2.2.2.1,v0.2.2.2.2.2.2.2.2.2.2.1,v0.2.2.2.2.2.2.2.2.2.2.2,()),()),(v0.2.2.1,v0.2.2.2.2.2.2.2.2.1,()))
def yq0 (v0 v1 v2 v3 v4 v5 v6 v7 v8 v9:Int) (v10 v11:Bool) (v12:List dM) (v13:List dW):Option ((ydb).X ⊕ ((yhy).X ⊕ (ylX).X)) :=bif(ltb v0 (v12.length:Int))then bif(inb v0 v12.length)then bif(!((((nth v12 v0 ([],[],false,[])).2).2).1))then let r3:=ypf (v1,(v2,v3),v12,v4,v5,v6,v7,v8,v13,v9,v10,v11);bif r3.1 then bif(inb v0 r3.2.2.2.1.length)then let r4:=yh9 ((nth r3.2.2.2.1 v0 ([],[],false,[])).1,((nth r3.2.2.2.1 v0 ([],[],false,[])).2).1,(((nth r3.2.2.2.1 v0 ([],[],false,[])).2).2));bif(inb v0 r3.2.2.2.1.length)then some (.inl ((((),()),((i64.wrap (v0+1)),()),()),((r3.2.1,r3.2.2.1.1,r3.2.2.1.2,(),r3.2.2.2.2.1,r3.2.2.2.2.2.1,r3.2.2.2.2.2.2.1,r3.2.2.2.2.2.2.2.1,r3.2.2.2.2.2.2.2.2.1,(),r3.2.2.2.2.2.2.2.2.2.2.1,r3.2.2.2.2.2.2.2.2.2.2.2.1,r3.2.2.2.2.2.2.2.2.2.2.2.2,()),()),((r3.2.2.2.1.set (v0).toNat r4),r3.2.2.2.2.2.2.2.2.2.1,()))) else none else none else some (.inl ((((),()),((i64.wrap (v0+1)),()),()),((r3.2.1,r3.2.2.1.1,r3.2.2.1.2,(),r3.2.2.2.2.1,r3.2.2.2.2.2.1,r3.2.2.2.2.2.2.1,r3.2.2.2.2.2.2.2.1,r3.2.2.2.2.2.2.2.2.1,(),r3.2.2.2.2.2.2.2.2.2.2.1,r3.2.2.2.2.2.2.2.2.2.2.2.1,r3.2.2.2.2.2.2.2.2.2.2.2.2,()),()),(r3.2.2.2.1,r3.2.2.2.2.2.2.2.2.2.1,()))) else some (.inl ((((),()),((i64.wrap (v0+1)),()),()),((v1,v2,v3,(),v4,v5,v6,v7,v8,(),v9,v10,v11,()),()),(v12,v13,()))) else none else some (.inr (.inl ((),((v1,v2,v3,(),v4,v5,v6,v7,v8,(),v9,v10,v11,()),()),(v12,v13,()))))
def ydH (x:(ydb).X):=yq0 x.1.2.1.1 x.2.1.1.1 x.2.1.1.2.1 x.2.1.1.2.2.1 x.2.1.1.2.2.2.2.1 x.2.1.1.2.2.2.2.2.1 x.2.1.1.2.2.2.2.2.2.1 x.2.1.1.2.2.2.2.2.2.2.1 x.2.1.1.2.2.2.2.2.2.2.2.1 x.2.1.1.2.2.2.2.2.2.2.2.2.2.1 x.2.1.1.2.2.2.2.2.2.2.2.2.2.2.1 x.2.1.1.2.2.2.2.2.2.2.2.2.2.2.2.1 x.2.2.1 x.2.2.2.1
def yBx (x:(yhM).X):(ydb).X:=((((),()),(0,()),()),((x.2.1.1.1,x.2.1.1.2.1,x.2.1.1.2.2.1,(),x.2.1.1.2.2.2.2.1,x.2.1.1.2.2.2.2.2.1,x.2.1.1.2.2.2.2.2.2.1,x.2.1.1.2.2.2.2.2.2.2.1,x.2.1.1.2.2.2.2.2.2.2.2.1,(),x.2.1.1.2.2.2.2.2.2.2.2.2.2.1,x.2.1.1.2.2.2.2.2.2.2.2.2.2.2.1,x.2.1.1.2.2.2.2.2.2.2.2.2.2.2.2.1,()),()),(x.2.2.1,x.2.2.2.1,()))
def yC4:Code:=(zd7 ypq 64 12).getD .skip
theorem yPP:zd7 ypq 64 3=some (.block 0 (.loop yC4)):=by kernel_rfl
theorem ySt (x:(ydb).X):zhu ⟨yxg,39,yCQ⟩ 0 yC4 12 ydb yhy ylX x=ydH x:=by kernel_rfl
def yBM (x:(yhM).X):Nat:=18446744073709551616
def yrX (x:(yhM).X):Option ((yhy).X ⊕ (ylX).X):=zF ydH (yBM x) (yBx x)
def yCx:Seg:=⟨yhM,yhy,ylX,yrX⟩
def yPn:Nat→Option Seg:=fun q=>bif Nat.beq q 3 then some yCx else yCQ q
theorem yM6:FrOk prog ⟨yxg,39,yPn⟩ ypq:=(yM5).loop (sg:=yCx) ydb yBx (by decide) yPP ydH yBM (by decide) (fun _=>rfl) (fun x r _ h=>h) ySt
abbrev ypD:List Par:= [.pt tA (.pr .fz (.pr (.pr .fz .fz) (.pr (.ow (.pr (.ow .fz) (.pr (.ow (.pr .fz .fz)) (.pr .fz (.ow .fz))))) (.pr .fz (.pr .fz (.pr .fz (.pr .fz (.pr .fz (.pr (.ow (.pr .fz .fz)) (.pr .fz (.pr .fz .fz)))))))))))]
abbrev yx9:List OT:= []
def ytD (a0:dA):Option (zaY yx9×zak ypD) :=zkt (yrX ((((),()),((),()),()),((a0.1,a0.2.1.1,a0.2.1.2,(),a0.2.2.2.1,a0.2.2.2.2.1,a0.2.2.2.2.2.1,a0.2.2.2.2.2.2.1,a0.2.2.2.2.2.2.2.1,(),a0.2.2.2.2.2.2.2.2.2.1,a0.2.2.2.2.2.2.2.2.2.2.1,a0.2.2.2.2.2.2.2.2.2.2.2,()),()),(a0.2.2.1,a0.2.2.2.2.2.2.2.2.1,()))) (fun y4 =>some ((),((y4.2.1.1.1,(y4.2.1.1.2.1,y4.2.1.1.2.2.1),y4.2.2.1,y4.2.1.1.2.2.2.2.1,y4.2.1.1.2.2.2.2.2.1,y4.2.1.1.2.2.2.2.2.2.1,y4.2.1.1.2.2.2.2.2.2.2.1,y4.2.1.1.2.2.2.2.2.2.2.2.1,y4.2.2.2.1,y4.2.1.1.2.2.2.2.2.2.2.2.2.2.1,y4.2.1.1.2.2.2.2.2.2.2.2.2.2.2.1,y4.2.1.1.2.2.2.2.2.2.2.2.2.2.2.2.1),()))) (fun y4 =>none)
theorem yRR:ConOk prog 208 ⟨ypD,yx9,fun x=>ytD x.1⟩:=zkI (yM6) func208 ntmps208.symm fun x=>by kernel_rfl
def ydO (a0:dA):dA:=yy a0
theorem yT7 (a0:dA) (hk:zjx ypD (a0,())):ytD a0=(fun n=>some ((),(n,()))) (ydO a0):=by
 have hb:a0.2.2.1.length*80≤2^47:=hk.1.2.2.1.1
 have h1:yrX (yNs a0)=some (.inl (yBV (yy a0))) :=
  zkD (step:=ydH) a0.2.2.1.length (fun i s=>yqp i s) yI (fun _ s=>s.2.2.1.length=a0.2.2.1.length) (fun s=> .inl (yBV s)) (fun i s hi hs=>⟨by
   simp only[ydH,yqp,yq0,hs,zky (show(i:Int)<a0.2.2.1.length by omega),cond_true,wq ((i:Int)+1) (by omega) (by omega),Int.natCast_add,Int.natCast_one,Int.toNat_natCast,zkR hi,zkX,ySw,yax,yh9,yI,yd2]
   cases(nth s.2.2.1 i yd).2.2.1<;>cases(opA s).1<;>simp only[cond_true,cond_false,Bool.not_true,Bool.not_false,yax,Int.toNat_natCast],(ykU s i).trans hs⟩) (fun s hs=>by simp only[ydH,yqp,yq0,hs,zk3 (Int.le_refl _),cond_false]) a0 rfl _ (by show _<18446744073709551616; omega)
 unfold ytD ydO;rw[h1]; rfl
def yl7:Con:=⟨ypD,yx9,fun x=>(fun n=>some ((),(n,()))) (ydO x.1)⟩
theorem yvx:ConOk prog 208 yl7:=(yRR).mono (fun x r hk h=>(yT7 x.1 hk).trans h)
def ypp:Code:=(f174.body).getD .skip
def yxf:Env:=zkw TT [(144,yor),(206,yi8),(208,yl7)] []
theorem yM3:FrOk prog ⟨yxf,63,fun _=>none⟩ ypp:=zkA mixed yc ⟨yB5,ypQ,yvx,trivial⟩
def yCP:Nat→Option Seg:=fun _=>none
def ycx:Shape:=⟨[(0,false,[.ptr 1000000000 0]),(2,false,[.int .i64])],[(1000000000,[.int .i64,.int .i64,.int .i64,.at 800000000,.int .i64,.int .i64,.int .i64,.int .i64,.int .i64,.at 800000001,.int .i64,.bool,.bool])],[(800000000,tM,(.pr (.ow .fz) (.pr (.ow (.pr .fz .fz)) (.pr .fz (.ow .fz))))),(800000001,tW,(.pr .fz .fz))]⟩
def ygu:Shape:=⟨[(0,false,[.ptr 1000000000 0]),(2,false,[.ci .i64 0])],[(1000000000,[.int .i64,.int .i64,.int .i64,.at 800000000,.int .i64,.int .i64,.int .i64,.int .i64,.int .i64,.at 800000001,.int .i64,.bool,.bool])],[(800000000,tM,(.pr (.ow .fz) (.pr (.ow (.pr .fz .fz)) (.pr .fz (.ow .fz))))),(800000001,tW,(.pr .fz .fz))]⟩
def ygk:Shape:=⟨[(0,false,[.ptr 1000000000 0])],[(1000000000,[.int .i64,.int .i64,.int .i64,.at 800000000,.int .i64,.int .i64,.int .i64,.int .i64,.int .i64,.at 800000001,.int .i64,.bool,.bool])],[(800000000,tM,(.pr (.ow .fz) (.pr (.ow (.pr .fz .fz)) (.pr .fz (.ow .fz))))),(800000001,tW,(.pr .fz .fz))]⟩
def yjY:Shape:=⟨[],[],[]⟩
abbrev yoA (v0:Int) (v1:dA):(ycx).X:=((((),()),(v0,()),()),((v1.1,v1.2.1.1,v1.2.1.2,(),v1.2.2.2.1,v1.2.2.2.2.1,v1.2.2.2.2.2.1,v1.2.2.2.2.2.2.1,v1.2.2.2.2.2.2.2.1,(),v1.2.2.2.2.2.2.2.2.2.1,v1.2.2.2.2.2.2.2.2.2.2.1,v1.2.2.2.2.2.2.2.2.2.2.2,()),()),(v1.2.2.1,v1.2.2.2.2.2.2.2.2.1,()))
abbrev yKG (v0:dA):(ygu).X:=((((),()),((),()),()),((v0.1,v0.2.1.1,v0.2.1.2,(),v0.2.2.2.1,v0.2.2.2.2.1,v0.2.2.2.2.2.1,v0.2.2.2.2.2.2.1,v0.2.2.2.2.2.2.2.1,(),v0.2.2.2.2.2.2.2.2.2.1,v0.2.2.2.2.2.2.2.2.2.2.1,v0.2.2.2.2.2.2.2.2.2.2.2,()),()),(v0.2.2.1,v0.2.2.2.2.2.2.2.2.1,()))
abbrev yzq (v0:dA):(ygk).X:=((((),()),()),((v0.1,v0.2.1.1,v0.2.1.2,(),v0.2.2.2.1,v0.2.2.2.2.1,v0.2.2.2.2.2.1,v0.2.2.2.2.2.2.1,v0.2.2.2.2.2.2.2.1,(),v0.2.2.2.2.2.2.2.2.2.1,v0.2.2.2.2.2.2.2.2.2.2.1,v0.2.2.2.2.2.2.2.2.2.2.2,()),()),(v0.2.2.1,v0.2.2.2.2.2.2.2.2.1,()))
def yo8 (v0 v1 v2 v3 v4 v5 v6 v7 v8 v9:Int) (v10 v11:Bool) (v12:List dM) (v13:List dW):Option ((ycx).X ⊕ ((ygk).X ⊕ (yjY).X)) :=bif(ltb v0 (v12.length:Int))then let r3:=yv (v1,v8,v0,v2,v3,v7,v4,v5);bnd (yeL (v1,(v2,v3),v12,v4,v5,v6,v7,v8,v13,v9,v10,v11) v0 (v8.tmod 2) r3) fun r4 =>some (.inl ((((),()),((i64.wrap (v0+1)),()),()),((r4.2.1.1,r4.2.1.2.1.1,r4.2.1.2.1.2,(),r4.2.1.2.2.2.1,r4.2.1.2.2.2.2.1,r4.2.1.2.2.2.2.2.1,r4.2.1.2.2.2.2.2.2.1,r4.2.1.2.2.2.2.2.2.2.1,(),r4.2.1.2.2.2.2.2.2.2.2.2.1,r4.2.1.2.2.2.2.2.2.2.2.2.2.1,r4.2.1.2.2.2.2.2.2.2.2.2.2.2,()),()),(r4.2.1.2.2.1,r4.2.1.2.2.2.2.2.2.2.2.1,()))) else some (.inr (.inl ((((),()),()),((v1,v2,v3,(),v4,v5,v6,v7,v8,(),v9,v10,v11,()),()),(v12,v13,()))))
def ycW (x:(ycx).X):=yo8 x.1.2.1.1 x.2.1.1.1 x.2.1.1.2.1 x.2.1.1.2.2.1 x.2.1.1.2.2.2.2.1 x.2.1.1.2.2.2.2.2.1 x.2.1.1.2.2.2.2.2.2.1 x.2.1.1.2.2.2.2.2.2.2.1 x.2.1.1.2.2.2.2.2.2.2.2.1 x.2.1.1.2.2.2.2.2.2.2.2.2.2.1 x.2.1.1.2.2.2.2.2.2.2.2.2.2.2.1 x.2.1.1.2.2.2.2.2.2.2.2.2.2.2.2.1 x.2.2.1 x.2.2.2.1
def yzc (x:(ygu).X):(ycx).X:=((((),()),(0,()),()),((x.2.1.1.1,x.2.1.1.2.1,x.2.1.1.2.2.1,(),x.2.1.1.2.2.2.2.1,x.2.1.1.2.2.2.2.2.1,x.2.1.1.2.2.2.2.2.2.1,x.2.1.1.2.2.2.2.2.2.2.1,x.2.1.1.2.2.2.2.2.2.2.2.1,(),x.2.1.1.2.2.2.2.2.2.2.2.2.2.1,x.2.1.1.2.2.2.2.2.2.2.2.2.2.2.1,x.2.1.1.2.2.2.2.2.2.2.2.2.2.2.2.1,()),()),(x.2.2.1,x.2.2.2.1,()))
def yAZ:Code:=(zd7 ypp 64 52).getD .skip
theorem yMe:zd7 ypp 64 13=some (.block 0 (.loop yAZ)):=by kernel_rfl
theorem yOW (x:(ycx).X):zhu ⟨yxf,63,yCP⟩ 0 yAZ 52 ycx ygk yjY x=ycW x:=by kernel_rfl
def yzm (x:(ygu).X):Nat:=18446744073709551616
def yp2 (x:(ygu).X):Option ((ygk).X ⊕ (yjY).X):=zF ycW (yzm x) (yzc x)
def yzG:Seg:=⟨ygu,ygk,yjY,yp2⟩
def yPm:Nat→Option Seg:=fun q=>bif Nat.beq q 13 then some yzG else yCP q
theorem yM4:FrOk prog ⟨yxf,63,yPm⟩ ypp:=(yM3).loop (sg:=yzG) ycx yzc (by decide) yMe ycW yzm (by decide) (fun _=>rfl) (fun x r _ h=>h) yOW
abbrev ypC:List Par:= [.pt tA (.pr .fz (.pr (.pr .fz .fz) (.pr (.ow (.pr (.ow .fz) (.pr (.ow (.pr .fz .fz)) (.pr .fz (.ow .fz))))) (.pr .fz (.pr .fz (.pr .fz (.pr .fz (.pr .fz (.pr (.ow (.pr .fz .fz)) (.pr .fz (.pr .fz .fz)))))))))))]
abbrev yx8:List OT:= []
def ytC (a0:dA):Option (zaY yx8×zak ypC) :=zkt (yp2 ((((),()),((),()),()),((a0.1,a0.2.1.1,a0.2.1.2,(),a0.2.2.2.1,a0.2.2.2.2.1,a0.2.2.2.2.2.1,a0.2.2.2.2.2.2.1,(i64.wrap (a0.2.2.2.2.2.2.2.1+1)),(),a0.2.2.2.2.2.2.2.2.2.1,a0.2.2.2.2.2.2.2.2.2.2.1,a0.2.2.2.2.2.2.2.2.2.2.2,()),()),(a0.2.2.1,a0.2.2.2.2.2.2.2.2.1,()))) (fun y4 =>let r6:=ydO (y4.2.1.1.1,(y4.2.1.1.2.1,y4.2.1.1.2.2.1),y4.2.2.1,y4.2.1.1.2.2.2.2.1,y4.2.1.1.2.2.2.2.2.1,y4.2.1.1.2.2.2.2.2.2.1,y4.2.1.1.2.2.2.2.2.2.2.1,y4.2.1.1.2.2.2.2.2.2.2.2.1,y4.2.2.2.1,y4.2.1.1.2.2.2.2.2.2.2.2.2.2.1,y4.2.1.1.2.2.2.2.2.2.2.2.2.2.2.1,y4.2.1.1.2.2.2.2.2.2.2.2.2.2.2.2.1);some ((),(r6,()))) (fun y4 =>none)
theorem yRQ:ConOk prog 174 ⟨ypC,yx8,fun x=>ytC x.1⟩:=zkI (yM4) func174 ntmps174.symm fun x=>by kernel_rfl
def yaI (a0:dA):dA:=yaa a0
theorem yLE (a:dA) (i:Nat):(yM a i).2.2.1.length=a.2.2.1.length:=yn1 _ _ _ _
theorem yT6 (a0:dA) (hk:zjx ypC (a0,())):ytC a0=(fun n=>some ((),(n,()))) (yaI a0):=by
 have hb:a0.2.2.1.length*80≤2^47:=hk.1.2.2.1.1
 have h1:yp2 (yKG (yV a0))=some (.inl (yzq ((List.range a0.2.2.1.length).foldl yM (yV a0)))) :=
  zkD (step:=ycW) a0.2.2.1.length (fun i s=>yoA i s) yM (fun _ s=>s.2.2.1.length=a0.2.2.1.length) (fun s=> .inl (yzq s)) (fun i s hi hs=>⟨by
   simp only[ycW,yoA,yo8,hs,zky (show(i:Int)<a0.2.2.1.length by omega),cond_true,wq ((i:Int)+1) (by omega) (by omega),Int.natCast_add,Int.natCast_one,Int.toNat_natCast,zkX];rw[ykM s i (s.2.2.2.2.2.2.2.1.tmod 2) (yv (s.1,s.2.2.2.2.2.2.2.1,(i:Int),s.2.1.1,s.2.1.2,s.2.2.2.2.2.2.1,s.2.2.2.1,s.2.2.2.2.1)) (zkR (by rw[hs]; exact hi))]
   rfl,(yLE s i).trans hs⟩) (fun s hs=>by simp only[ycW,yoA,yo8,hs,zk3 (Int.le_refl _),cond_false]) (yV a0) rfl _ (by show _<18446744073709551616; omega)
 unfold ytC yaI yaa;exact(congrArg (fun z=>zkt z _ _) h1).trans rfl
def yl6:Con:=⟨ypC,yx8,fun x=>(fun n=>some ((),(n,()))) (yaI x.1)⟩
theorem yvw:ConOk prog 174 yl6:=(yRQ).mono (fun x r hk h=>(yT6 x.1 hk).trans h)
def ylk:Code:=(f107.body).getD .skip
def yrB:Env:=zkw TT [(139,yhZ),(165,yiI),(172,yyR),(173,yA8)] []
theorem yHr:FrOk prog ⟨yrB,37,fun _=>none⟩ ylk:=zkA mixed yc ⟨yoC,yqr,yOz,yR0,trivial⟩
def yyp:Nat→Option Seg:=fun _=>none
def ybd:Shape:=⟨[(0,false,[.ptr 1000000000 0]),(15,false,[.int .i64]),(16,false,[.int .i64])],[(1000000000,[.int .i64,.int .i64,.int .i64,.at 800000000,.int .i64,.int .i64,.int .i64,.int .i64,.int .i64,.at 800000001,.int .i64,.bool,.bool])],[(800000000,tM,(.pr (.ow (.ow .fz)) (.pr (.ow (.pr .fz (.ow .fz))) (.pr .fz (.ow .fz))))),(800000001,tW,(.pr .fz (.ow .fz)))]⟩
def yev:Shape:=⟨[(0,false,[.ptr 1000000000 0]),(15,false,[.int .i64]),(16,false,[.ci .i64 0])],[(1000000000,[.int .i64,.int .i64,.int .i64,.at 800000000,.int .i64,.int .i64,.int .i64,.int .i64,.int .i64,.at 800000001,.int .i64,.bool,.bool])],[(800000000,tM,(.pr (.ow (.ow .fz)) (.pr (.ow (.pr .fz (.ow .fz))) (.pr .fz (.ow .fz))))),(800000001,tW,(.pr .fz (.ow .fz)))]⟩
def yeo:Shape:=⟨[(0,false,[.ptr 1000000000 0])],[(1000000000,[.int .i64,.int .i64,.int .i64,.at 800000000,.int .i64,.int .i64,.int .i64,.int .i64,.int .i64,.at 800000001,.int .i64,.bool,.bool])],[(800000000,tM,(.pr (.ow (.ow .fz)) (.pr (.ow (.pr .fz (.ow .fz))) (.pr .fz (.ow .fz))))),(800000001,tW,(.pr .fz (.ow .fz)))]⟩
def yeC:Shape:=⟨[(2,false,[.bool])],[(1000000000,[.int .i64,.int .i64,.int .i64,.at 800000000,.int .i64,.int .i64,.int .i64,.int .i64,.int .i64,.at 800000001,.int .i64,.bool,.bool])],[(800000000,tM,(.pr (.ow (.ow .fz)) (.pr (.ow (.pr .fz (.ow .fz))) (.pr .fz (.ow .fz))))),(800000001,tW,(.pr .fz (.ow .fz)))]⟩
abbrev yk0 (v0 v1:Int) (v2:dA):(ybd).X:=((((),()),(v0,()),(v1,()),()),((v2.1,v2.2.1.1,v2.2.1.2,(),v2.2.2.2.1,v2.2.2.2.2.1,v2.2.2.2.2.2.1,v2.2.2.2.2.2.2.1,v2.2.2.2.2.2.2.2.1,(),v2.2.2.2.2.2.2.2.2.2.1,v2.2.2.2.2.2.2.2.2.2.2.1,v2.2.2.2.2.2.2.2.2.2.2.2,()),()),(v2.2.2.1,v2.2.2.2.2.2.2.2.2.1,()))
abbrev yGC (v0:Int) (v1:dA):(yev).X:=((((),()),(v0,()),((),()),()),((v1.1,v1.2.1.1,v1.2.1.2,(),v1.2.2.2.1,v1.2.2.2.2.1,v1.2.2.2.2.2.1,v1.2.2.2.2.2.2.1,v1.2.2.2.2.2.2.2.1,(),v1.2.2.2.2.2.2.2.2.2.1,v1.2.2.2.2.2.2.2.2.2.2.1,v1.2.2.2.2.2.2.2.2.2.2.2,()),()),(v1.2.2.1,v1.2.2.2.2.2.2.2.2.1,()))
abbrev yk6 (v0:dA):(yeo).X:=((((),()),()),((v0.1,v0.2.1.1,v0.2.1.2,(),v0.2.2.2.1,v0.2.2.2.2.1,v0.2.2.2.2.2.1,v0.2.2.2.2.2.2.1,v0.2.2.2.2.2.2.2.1,(),v0.2.2.2.2.2.2.2.2.2.1,v0.2.2.2.2.2.2.2.2.2.2.1,v0.2.2.2.2.2.2.2.2.2.2.2,()),()),(v0.2.2.1,v0.2.2.2.2.2.2.2.2.1,()))
abbrev yk8 (v0:Bool) (v1:dA):(yeC).X:=(((v0,()),()),((v1.1,v1.2.1.1,v1.2.1.2,(),v1.2.2.2.1,v1.2.2.2.2.1,v1.2.2.2.2.2.1,v1.2.2.2.2.2.2.1,v1.2.2.2.2.2.2.2.1,(),v1.2.2.2.2.2.2.2.2.2.1,v1.2.2.2.2.2.2.2.2.2.2.1,v1.2.2.2.2.2.2.2.2.2.2.2,()),()),(v1.2.2.1,v1.2.2.2.2.2.2.2.2.1,()))
def ylc (v0 v1 v2 v3 v4 v5 v6 v7 v8 v9 v10:Int) (v11 v12:Bool) (v13:List dM) (v14:List dW):Option ((ybd).X ⊕ ((yeo).X ⊕ (yeC).X)) :=bif(ltb v1 v0)then let r4:=ynT (v2,(v3,v4),v13,v5,v6,v7,v8,v9,v14,v10,v11,v12) v1;let r5:=yh5 r4;bnd (yec (v2,(v3,v4),v13,v5,v6,v7,v8,v9,v14,v10,v11,v12) v1 (v9.tmod 2) r5) fun r6 =>bif(!r6.1.1)then some (.inr (.inr (((false,()),()),((r6.2.1.1,r6.2.1.2.1.1,r6.2.1.2.1.2,(),r6.2.1.2.2.2.1,r6.2.1.2.2.2.2.1,r6.2.1.2.2.2.2.2.1,r6.2.1.2.2.2.2.2.2.1,r6.2.1.2.2.2.2.2.2.2.1,(),r6.2.1.2.2.2.2.2.2.2.2.2.1,r6.2.1.2.2.2.2.2.2.2.2.2.2.1,r6.2.1.2.2.2.2.2.2.2.2.2.2.2,()),()),(r6.2.1.2.2.1,r6.2.1.2.2.2.2.2.2.2.2.1,())))) else some (.inl ((((),()),(v0,()),((i64.wrap (v1+1)),()),()),((r6.2.1.1,r6.2.1.2.1.1,r6.2.1.2.1.2,(),r6.2.1.2.2.2.1,r6.2.1.2.2.2.2.1,r6.2.1.2.2.2.2.2.1,r6.2.1.2.2.2.2.2.2.1,r6.2.1.2.2.2.2.2.2.2.1,(),r6.2.1.2.2.2.2.2.2.2.2.2.1,r6.2.1.2.2.2.2.2.2.2.2.2.2.1,r6.2.1.2.2.2.2.2.2.2.2.2.2.2,()),()),(r6.2.1.2.2.1,r6.2.1.2.2.2.2.2.2.2.2.1,()))) else some (.inr (.inl ((((),()),()),((v2,v3,v4,(),v5,v6,v7,v8,v9,(),v10,v11,v12,()),()),(v13,v14,()))))
def ybt (x:(ybd).X):=ylc x.1.2.1.1 x.1.2.2.1.1 x.2.1.1.1 x.2.1.1.2.1 x.2.1.1.2.2.1 x.2.1.1.2.2.2.2.1 x.2.1.1.2.2.2.2.2.1 x.2.1.1.2.2.2.2.2.2.1 x.2.1.1.2.2.2.2.2.2.2.1 x.2.1.1.2.2.2.2.2.2.2.2.1 x.2.1.1.2.2.2.2.2.2.2.2.2.2.1 x.2.1.1.2.2.2.2.2.2.2.2.2.2.2.1 x.2.1.1.2.2.2.2.2.2.2.2.2.2.2.2.1 x.2.2.1 x.2.2.2.1
def ytV (x:(yev).X):(ybd).X:=((((),()),(x.1.2.1.1,()),(0,()),()),((x.2.1.1.1,x.2.1.1.2.1,x.2.1.1.2.2.1,(),x.2.1.1.2.2.2.2.1,x.2.1.1.2.2.2.2.2.1,x.2.1.1.2.2.2.2.2.2.1,x.2.1.1.2.2.2.2.2.2.2.1,x.2.1.1.2.2.2.2.2.2.2.2.1,(),x.2.1.1.2.2.2.2.2.2.2.2.2.2.1,x.2.1.1.2.2.2.2.2.2.2.2.2.2.2.1,x.2.1.1.2.2.2.2.2.2.2.2.2.2.2.2.1,()),()),(x.2.2.1,x.2.2.2.1,()))
def yv1:Code:=(zd7 ylk 64 116).getD .skip
theorem yHb:zd7 ylk 64 29=some (.block 0 (.loop yv1)):=by kernel_rfl
theorem yIM (x:(ybd).X):zhu ⟨yrB,37,yyp⟩ 0 yv1 116 ybd yeo yeC x=ybt x:=by kernel_rfl
def yt3 (x:(yev).X):Nat:=18446744073709551616
def yml (x:(yev).X):Option ((yeo).X ⊕ (yeC).X):=zF ybt (yt3 x) (ytV x)
def yuh:Seg:=⟨yev,yeo,yeC,yml⟩
def yJi:Nat→Option Seg:=fun q=>bif Nat.beq q 29 then some yuh else yyp q
theorem yHs:FrOk prog ⟨yrB,37,yJi⟩ ylk:=(yHr).loop (sg:=yuh) ybd ytV (by decide) yHb ybt yt3 (by decide) (fun _=>rfl) (fun x r _ h=>h) yIM
abbrev yhe:List Par:= [.pt tA (.pr .fz (.pr (.pr .fz .fz) (.pr (.ow (.pr (.ow (.ow .fz)) (.pr (.ow (.pr .fz (.ow .fz))) (.pr .fz (.ow .fz))))) (.pr .fz (.pr .fz (.pr .fz (.pr .fz (.pr .fz (.pr (.ow (.pr .fz (.ow .fz))) (.pr .fz (.pr .fz .fz)))))))))))]
abbrev ylO:List OT:= [⟨false,tB,.fz⟩]
def yoF (a0:dA):Option (zaY ylO×zak yhe) :=zkt (yml ((((),()),((a0.2.2.1.length:Int),()),((),()),()),((a0.1,a0.2.1.1,a0.2.1.2,(),a0.2.2.2.1,a0.2.2.2.2.1,a0.2.2.2.2.2.1,a0.2.2.2.2.2.2.1,(i64.wrap (a0.2.2.2.2.2.2.2.1+1)),(),a0.2.2.2.2.2.2.2.2.2.1,a0.2.2.2.2.2.2.2.2.2.2.1,a0.2.2.2.2.2.2.2.2.2.2.2,()),()),(a0.2.2.1,a0.2.2.2.2.2.2.2.2.1,()))) (fun y6 =>bnd (yeW (y6.2.1.1.1,(y6.2.1.1.2.1,y6.2.1.1.2.2.1),y6.2.2.1,y6.2.1.1.2.2.2.2.1,y6.2.1.1.2.2.2.2.2.1,y6.2.1.1.2.2.2.2.2.2.1,y6.2.1.1.2.2.2.2.2.2.2.1,y6.2.1.1.2.2.2.2.2.2.2.2.1,y6.2.2.2.1,y6.2.1.1.2.2.2.2.2.2.2.2.2.2.1,y6.2.1.1.2.2.2.2.2.2.2.2.2.2.2.1,y6.2.1.1.2.2.2.2.2.2.2.2.2.2.2.2.1)) fun r8 =>some ((r8.1.1,()),(r8.2.1,()))) (fun y6 =>some ((y6.1.1.1,()),((y6.2.1.1.1,(y6.2.1.1.2.1,y6.2.1.1.2.2.1),y6.2.2.1,y6.2.1.1.2.2.2.2.1,y6.2.1.1.2.2.2.2.2.1,y6.2.1.1.2.2.2.2.2.2.1,y6.2.1.1.2.2.2.2.2.2.2.1,y6.2.1.1.2.2.2.2.2.2.2.2.1,y6.2.2.2.1,y6.2.1.1.2.2.2.2.2.2.2.2.2.2.1,y6.2.1.1.2.2.2.2.2.2.2.2.2.2.2.1,y6.2.1.1.2.2.2.2.2.2.2.2.2.2.2.2.1),())))
theorem yKQ:ConOk prog 107 ⟨yhe,ylO,fun x=>yoF x.1⟩:=zkI (yHs) func107 ntmps107.symm fun x=>by kernel_rfl
def yl9 (a0:dA):Bool×dA:=(!(yb (yaa a0)),yaa a0)
def yeX (a0:dA):Bool:= !(yb a0)
theorem yXS {a:dA} (i:Nat) (h:yb a=true):yM a i=a:=yqu h _ _ _
theorem yNB (a0:dA) (hk:zjx yhe (a0,())) (hq:yeX a0=true):yoF a0=(fun n=>some ((n.1,()),(n.2,()))) (yl9 a0):=by
 have hb:a0.2.2.1.length*80≤2^47:=hk.1.2.2.1.1;have hd0:yb a0=false:=by simpa [yeX]using hq
 have h1:yml (yGC a0.2.2.1.length (yV a0))=some (bif yb ((List.range a0.2.2.1.length).foldl yM (yV a0))then .inr (yk8 false ((List.range a0.2.2.1.length).foldl yM (yV a0)))else .inl (yk6 ((List.range a0.2.2.1.length).foldl yM (yV a0)))):=by
  have:=zkC (step:=ybt) a0.2.2.1.length (fun i s=>yk0 a0.2.2.1.length i s) (fun i s=>bif yb (yM s i)then(.inr (yM s i):dA ⊕ dA)else .inl (yM s i)) (fun _ s=>s.2.2.1.length=a0.2.2.1.length∧yb s=false) id
   (fun b=>bif yb b then .inr (yk8 false b)else .inl (yk6 b)) (fun i s hi hs=>by
    constructor
    ·simp only[ybt,yk0,ylc,zky (show(i:Int)<a0.2.2.1.length by omega),cond_true,wq ((i:Int)+1) (by omega) (by omega),Int.natCast_add,Int.natCast_one,Int.toNat_natCast,zkX,yYp,ynT]
     rw[yoD s i (s.2.2.2.2.2.2.2.1.tmod 2) (yv (s.1,s.2.2.2.2.2.2.2.1,(i:Int),s.2.1.1,s.2.1.2,s.2.2.2.2.2.2.1,s.2.2.2.1,s.2.2.2.2.1)) (by unfold ycC; rw[zkR (by rw[hs.1]; exact hi),hs.2]; rfl)];simp only[zkH,ycy];rw[show ycB s i (s.2.2.2.2.2.2.2.1.tmod 2) (yv (s.1,s.2.2.2.2.2.2.2.1,(i:Int),s.2.1.1,s.2.1.2,s.2.2.2.2.2.2.1,s.2.2.2.1,s.2.2.2.2.1))=yM s i from rfl];cases hd:yb (yM s i)
     ·rfl
     ·simp only[hd,Bool.not_true,Bool.not_false,cond_true,yk8]
    ·intro s' h
     cases hd:yb (yM s i)
     ·rw[hd]at h
      cases h;exact⟨(yLE s i).trans hs.1,hd⟩
     ·rw[hd]at h; cases h) (fun s hs=>by simp only[ybt,yk0,ylc,hs.2,zk3 (Int.le_refl _),cond_false,id,yk6]) (yV a0) ⟨rfl,hd0⟩ 18446744073709551616 (by omega)
  rw[yBO (fun a i h=>yXS i h),← List.range_eq_range']at this;exact this
 unfold yoF yl9 yaa;refine(congrArg (fun z=>zkt z _ _) h1).trans ?_;cases hd:yb ((List.range a0.2.2.1.length).foldl yM (yV a0))
 ·simp only[cond_false,zkN,zkX]
  rw[yqt _ (by unfold yeY; rw[hd]; rfl)]; rfl
 ·rw[yw7 hd]
  simp only[cond_true,zkO,zkX];rw[hd]; rfl
def ybV (a0:dA):Option (zaY ylO×zak yhe):=bif yeX a0 then(fun n=>some ((n.1,()),(n.2,()))) (yl9 a0)else none
theorem yB7 (a0:dA) (h:yeX a0=true):ybV a0=(fun n=>some ((n.1,()),(n.2,()))) (yl9 a0):=by unfold ybV; rw[h]; rfl
def yon:Con:=⟨yhe,ylO,fun x=>ybV x.1⟩
theorem yB0:ConOk prog 107 yon:=(yKQ).mono (fun x r hk h=>zkY h (fun hq=>yNB x.1 hk hq))
def yLK:Code:=(f99.body).getD .skip
def yL0:Env:=zkw TT [(107,yon),(165,yiI)] []
theorem yGr:FrOk prog ⟨yL0,15,fun _=>none⟩ yLK:=zkA mixed yc ⟨yB0,yqr,trivial⟩
abbrev yf8:List Par:= [.pt tA (.pr .fz (.pr (.pr .fz .fz) (.pr (.ow (.pr (.ow (.ow .fz)) (.pr (.ow (.pr .fz (.ow .fz))) (.pr .fz (.ow .fz))))) (.pr .fz (.pr .fz (.pr .fz (.pr .fz (.pr .fz (.pr (.ow (.pr .fz (.ow .fz))) (.pr .fz (.pr .fz .fz)))))))))))]
abbrev yjP:List OT:= [⟨false,tB,.fz⟩]
def ymZ (a0:dA):Option (zaY yjP×zak yf8) :=bnd (yeW a0) fun r1 =>bif(!r1.1.1)then some ((false,()),(r1.2.1,())) else bnd (ybV (r1.2.1.1,r1.2.1.2.1,r1.2.1.2.2.1,r1.2.1.2.2.2.1,r1.2.1.2.2.2.2.1,r1.2.1.2.2.2.2.2.1,r1.2.1.2.2.2.2.2.1,r1.2.1.2.2.2.2.2.2.2)) fun r2 =>some ((r2.1.1,()),(r2.2.1,()))
theorem yIy:ConOk prog 99 ⟨yf8,yjP,fun x=>ymZ x.1⟩:=zkI (yGr) func99 ntmps99.symm fun x=>by kernel_rfl
def ygD (a0:dA):Bool×dA:=(!(yb (yab a0)),yab a0)
def ykd (a0:dA):Bool:= !(yb a0)
theorem yKK (a0:dA) (hk:zjx yf8 (a0,())) (hq:ykd a0=true):ymZ a0=(fun n=>some ((n.1,()),(n.2,()))) (ygD a0):=by
 unfold ymZ ygD yab;rw[yqt a0 hq];simp only[zkH,yh2];cases hd:yb (yy a0)
 ·have hm:ybV (ydq (yy a0))=some ((!(yb (yaa (ydq (yy a0)))),()),(yaa (ydq (yy a0)),())):=yB7 (ydq (yy a0)) (by unfold yeX; rw[show yb (ydq (yy a0))=yb (yy a0)from rfl,hd]; rfl)
  exact(congrArg (fun z=>bnd z _) hm).trans rfl
 ·simp only[Bool.not_true,Bool.not_false,cond_true]
  rw[hd]; rfl
def ykc (a0:dA):Option (zaY yjP×zak yf8):=bif ykd a0 then(fun n=>some ((n.1,()),(n.2,()))) (ygD a0)else none
theorem yLi (a0:dA) (h:ykd a0=true):ykc a0=(fun n=>some ((n.1,()),(n.2,()))) (ygD a0):=by unfold ykc; rw[h]; rfl
def ywa:Con:=⟨yf8,yjP,fun x=>ykc x.1⟩
theorem yLf:ConOk prog 99 ywa:=(yIy).mono (fun x r hk h=>zkY h (fun hq=>yKK x.1 hk hq))
theorem y0C {α:Type} {c:Bool} (h:c=false) {x y:α}:(bif c then x else y)=y:=by subst h; rfl
theorem y0D {α:Type} {c:Bool} (h:c=true) {x y:α}:(bif c then x else y)=x:=by subst h; rfl
def ySz:Code:=(f61.body).getD .skip
def yS3:Env:=zkw TT [(133,ygy)] []
theorem yJO:FrOk prog ⟨yS3,9,fun _=>none⟩ ySz:=zkA mixed yc ⟨yme,trivial⟩
abbrev yuF:List Par:= [.rd tM]
abbrev yuS:List OT:= [⟨false,tM,(.pr (.ow (.ow .fz)) (.pr (.ow (.pr .fz (.ow .fz))) (.pr .fz (.ow .fz))))⟩]
def yCb (a0:dM):Option (zaY yuS×zak yuF) :=let r1:=yaj a0;some (((r1.1,[],true,r1.2.2.2),()),())
theorem yN2:ConOk prog 61 ⟨yuF,yuS,fun x=>yCb x.1⟩:=zkI (yJO) func61 ntmps61.symm fun x=>by kernel_rfl
def ynQ (a0:dM):dM :=let r1:=yaj a0;(r1.1,[],true,r1.2.2.2)
def yA2:Con:=⟨yuF,yuS,fun x=>(fun n=>some ((n,()),())) (ynQ x.1)⟩
theorem yQO (a0:dM):yCb a0=(fun n=>some ((n,()),())) (ynQ a0):=zkV (p:=fun(n:dM)=>((n,()),())) rfl
theorem yRU:ConOk prog 61 yA2:=(yN2).mono (fun x r _ h=>(yQO x.1).trans h)
def ySE:Code:=(f106.body).getD .skip
def yS8:Env:=zkw TT [(81,yA)] []
theorem yJ2:FrOk prog ⟨yS8,11,fun _=>none⟩ ySE:=zkA mixed yc ⟨yN,trivial⟩
abbrev yuI:List Par:= [.rd tA,.rd tI]
abbrev yu0:List OT:= [⟨false,tB,.fz⟩]
def yCe (a0:dA) (a1:Int):Option (zaY yu0×zak yuI) :=let r1:=yf a1 0 (i64.wrap ((a0.2.2.1.length:Int)-1));some ((r1,()),())
theorem yOb:ConOk prog 106 ⟨yuI,yu0,fun x=>yCe x.1 x.2.1⟩:=zkI (yJ2) func106 ntmps106.symm fun x=>by kernel_rfl
def yf1 (a0:dA) (a1:Int):Bool :=let r1:=yf a1 0 (i64.wrap ((a0.2.2.1.length:Int)-1));r1
def yqa:Con:=⟨yuI,yu0,fun x=>(fun n=>some ((n,()),())) (yf1 x.1 x.2.1)⟩
theorem yQX (a0:dA) (a1:Int):yCe a0 a1=(fun n=>some ((n,()),())) (yf1 a0 a1):=zkV (p:=fun(n:Bool)=>((n,()),())) rfl
theorem yDF:ConOk prog 106 yqa:=(yOb).mono (fun x r _ h=>(yQX x.1 x.2.1).trans h)
def yOZ:Code:=(f39.body).getD .skip
def yPo:Env:=zkw TT [(55,yd7),(61,yA2),(95,yjZ),(106,yqa),(107,yon)] []
theorem yHx:FrOk prog ⟨yPo,64,fun _=>none⟩ yOZ:=zkA mixed yc ⟨yg9,yRU,ytk,yDF,yB0,trivial⟩
abbrev ylw:List Par:= [.rd tA,.rd tI]
abbrev ysf:List OT:= [⟨false,tA,(.pr .fz (.pr (.pr .fz .fz) (.pr (.ow (.pr (.ow (.ow .fz)) (.pr (.ow (.pr .fz (.ow .fz))) (.pr .fz (.ow .fz))))) (.pr .fz (.pr .fz (.pr .fz (.pr .fz (.pr .fz (.pr (.ow (.pr .fz (.ow .fz))) (.pr .fz (.pr .fz .fz)))))))))))⟩]
def yoI (a0:dA) (a1:Int):Option (zaY ysf×zak ylw) :=let r1:=ybs a0;let r2:=yG a0;bif(!(!r2))then let r3:=yf1 a0 a1;bif(!(!r3))then bif(inb a1 a0.2.2.1.length)then bif(((nth a0.2.2.1 a1 ([],[],false,[])).2).2).1 then some ((r1,()),()) else bif(inb a1 a0.2.2.1.length)then let r4:=ynQ ((nth a0.2.2.1 a1 ([],[],false,[])).1,((nth a0.2.2.1 a1 ([],[],false,[])).2).1,(((nth a0.2.2.1 a1 ([],[],false,[])).2).2));bif(inb a1 r1.2.2.1.length)then bif(!(a0.2.2.2.1==(-1)))then bif(a0.2.2.2.1==a1)then bif(!r1.2.2.2.2.2.2.2.2.2.2.1)then bif(!r1.2.2.2.2.2.2.2.2.2.2.2)then bif(ltb r1.2.2.2.2.2.2.2.1 60000)then bnd (ybV (r1.1,r1.2.1,(r1.2.2.1.set (a1).toNat r4),a1,0,r1.2.2.2.2.2)) fun r5 =>some ((r5.2.1,()),()) else some (((r1.1,r1.2.1,(r1.2.2.1.set (a1).toNat r4),a1,0,r1.2.2.2.2.2),()),()) else some (((r1.1,r1.2.1,(r1.2.2.1.set (a1).toNat r4),a1,0,r1.2.2.2.2.2),()),()) else some (((r1.1,r1.2.1,(r1.2.2.1.set (a1).toNat r4),a1,0,r1.2.2.2.2.2),()),()) else bif(!r1.2.2.2.2.2.2.2.2.2.2.1)then some (((r1.1,r1.2.1,(r1.2.2.1.set (a1).toNat r4),r1.2.2.2.1,r1.2.2.2.2.1,r1.2.2.2.2.2.1,r1.2.2.2.2.2.2.1,r1.2.2.2.2.2.2.2.1,r1.2.2.2.2.2.2.2.2.1,r1.2.2.2.2.2.2.2.2.2.1,r1.2.2.2.2.2.2.2.2.2.2.1,true),()),()) else some (((r1.1,r1.2.1,(r1.2.2.1.set (a1).toNat r4),r1.2.2.2.1,r1.2.2.2.2.1,r1.2.2.2.2.2.1,r1.2.2.2.2.2.2.1,r1.2.2.2.2.2.2.2.1,r1.2.2.2.2.2.2.2.2.1,r1.2.2.2.2.2.2.2.2.2.1,r1.2.2.2.2.2.2.2.2.2.2.1,true),()),()) else bif(!r1.2.2.2.2.2.2.2.2.2.2.1)then bif(!r1.2.2.2.2.2.2.2.2.2.2.2)then bif(ltb r1.2.2.2.2.2.2.2.1 60000)then bnd (ybV (r1.1,r1.2.1,(r1.2.2.1.set (a1).toNat r4),a1,0,r1.2.2.2.2.2)) fun r6 =>some ((r6.2.1,()),()) else some (((r1.1,r1.2.1,(r1.2.2.1.set (a1).toNat r4),a1,0,r1.2.2.2.2.2),()),()) else some (((r1.1,r1.2.1,(r1.2.2.1.set (a1).toNat r4),a1,0,r1.2.2.2.2.2),()),()) else some (((r1.1,r1.2.1,(r1.2.2.1.set (a1).toNat r4),a1,0,r1.2.2.2.2.2),()),()) else none else none else none else some ((r1,()),()) else some ((r1,()),())
theorem yKT:ConOk prog 39 ⟨ylw,ysf,fun x=>yoI x.1 x.2.1⟩:=zkI (yHx) func39 ntmps39.symm fun x=>by kernel_rfl
def yeU (a0:dA) (a1:Int):dA:=yvm a0 a1
theorem yNE (a0:dA) (a1:Int) (hk:zjx ylw (a0,a1,())):yoI a0 a1=(fun n=>some ((n,()),())) (yeU a0 a1):=by
 have hb:a0.2.2.1.length*80≤2^47:=hk.1.2.2.1.1;unfold yoI yeU yvm;simp only[ybs,yG,yf1,y9,yh1 (show a0.2.2.1.length≤1152921504606846976 by omega),ynQ,yaj,zkX];cases yP a0
 ·rfl
 cases hi:inb a1 a0.2.2.1.length
 ·rfl
 have hm:yb a0=false→ybV (a0.1,a0.2.1,a0.2.2.1.set a1.toNat ((nth a0.2.2.1 a1 yd).1,[],true,(nth a0.2.2.1 a1 yd).2.2.2),a1,0,a0.2.2.2.2.2)=some ((!(yb (yaa (yL a0 a1))),()),(yaa (yL a0 a1),())):=fun h=>yB7 (yL a0 a1) (by unfold yeX; rw[show yb (yL a0 a1)=yb a0 from rfl,h]; rfl)
 cases(nth a0.2.2.1 a1 yd).2.2.1
 ·unfold yaK
  revert hm;unfold yL ycl yg4 yb;intro hm;cases hd:a0.2.2.2.2.2.2.2.2.2.2.1
  ·rw[hm hd]
   cases(a0.2.2.2.1== -1)<;>cases(a0.2.2.2.1==a1)<;>cases a0.2.2.2.2.2.2.2.2.2.2.2<;>cases ltb a0.2.2.2.2.2.2.2.1 60000<;>first | rfl | simp only[hd,Bool.not_false,Bool.not_true,cond_true,cond_false,Bool.true_and,Bool.or_true,Bool.or_false,Bool.true_or,zkH]
  ·cases(a0.2.2.2.1== -1)<;>cases(a0.2.2.2.1==a1)<;>simp only[hd,Bool.not_false,Bool.not_true,cond_true,cond_false,Bool.false_and,Bool.or_true,Bool.or_false,Bool.true_or]<;>rfl
 ·rfl
def yyO:Con:=⟨ylw,ysf,fun x=>(fun n=>some ((n,()),())) (yeU x.1 x.2.1)⟩
theorem yOw:ConOk prog 39 yyO:=(yKT).mono (fun x r hk h=>(yNE x.1 x.2.1 hk).trans h)
def yVU:Code:=(f178.body).getD .skip
def yWo:Env:=zkw TT [] []
theorem yMX:FrOk prog ⟨yWo,6,fun _=>none⟩ yVU:=zkA mixed yc trivial
abbrev yxA:List Par:= [.rd tG]
abbrev yx5:List OT:= [⟨false,tI,.fz⟩]
def yD0 (a0:dG):Option (zaY yx5×zak yxA) :=some (((i64.wrap (6+a0.2)),()),())
theorem yRL:ConOk prog 178 ⟨yxA,yx5,fun x=>yD0 x.1⟩:=zkI (yMX) func178 ntmps178.symm fun x=>by kernel_rfl
def ycm (a0:dG):Int :=(i64.wrap (6+a0.2))
def yl5:Con:=⟨yxA,yx5,fun x=>(fun n=>some ((n,()),())) (ycm x.1)⟩
theorem yT2 (a0:dG):yD0 a0=(fun n=>some ((n,()),())) (ycm a0):=zkV (p:=fun(n:Int)=>((n,()),())) rfl
theorem yvv:ConOk prog 178 yl5:=(yRL).mono (fun x r _ h=>(yT2 x.1).trans h)
def ypn:Code:=(f151.body).getD .skip
def yxd:Env:=zkw TT [(160,yfY),(178,yl5)] []
theorem yMV:FrOk prog ⟨yxd,51,fun _=>none⟩ ypn:=zkA mixed yc ⟨ykL,yvv,trivial⟩
def yCN:Nat→Option Seg:=fun _=>none
def ycw:Shape:=⟨[(1,false,[.ptr 0 0]),(3,false,[.int .i64])],[(0,[.int .i64,.int .i64,.int .i64,.br tM,.int .i64,.int .i64,.int .i64,.int .i64,.int .i64,.br tW,.int .i64,.bool,.bool])],[]⟩
def ygt:Shape:=⟨[(1,false,[.ptr 0 0]),(3,false,[.ci .i64 0])],[(0,[.int .i64,.int .i64,.int .i64,.br tM,.int .i64,.int .i64,.int .i64,.int .i64,.int .i64,.br tW,.int .i64,.bool,.bool])],[]⟩
def ygj:Shape:=⟨[(1,false,[.ptr 0 0])],[(0,[.int .i64,.int .i64,.int .i64,.br tM,.int .i64,.int .i64,.int .i64,.int .i64,.int .i64,.br tW,.int .i64,.bool,.bool])],[]⟩
def ygx:Shape:=⟨[(2,false,[.bool])],[],[]⟩
abbrev yoz (v0:Int) (v1:dA):(ycw).X:=((((),()),(v0,()),()),((v1.1,v1.2.1.1,v1.2.1.2,v1.2.2.1,v1.2.2.2.1,v1.2.2.2.2.1,v1.2.2.2.2.2.1,v1.2.2.2.2.2.2.1,v1.2.2.2.2.2.2.2.1,v1.2.2.2.2.2.2.2.2.1,v1.2.2.2.2.2.2.2.2.2.1,v1.2.2.2.2.2.2.2.2.2.2.1,v1.2.2.2.2.2.2.2.2.2.2.2,()),()),())
abbrev yKF (v0:dA):(ygt).X:=((((),()),((),()),()),((v0.1,v0.2.1.1,v0.2.1.2,v0.2.2.1,v0.2.2.2.1,v0.2.2.2.2.1,v0.2.2.2.2.2.1,v0.2.2.2.2.2.2.1,v0.2.2.2.2.2.2.2.1,v0.2.2.2.2.2.2.2.2.1,v0.2.2.2.2.2.2.2.2.2.1,v0.2.2.2.2.2.2.2.2.2.2.1,v0.2.2.2.2.2.2.2.2.2.2.2,()),()),())
abbrev yKx (v0:dA):(ygj).X:=((((),()),()),((v0.1,v0.2.1.1,v0.2.1.2,v0.2.2.1,v0.2.2.2.1,v0.2.2.2.2.1,v0.2.2.2.2.2.1,v0.2.2.2.2.2.2.1,v0.2.2.2.2.2.2.2.1,v0.2.2.2.2.2.2.2.2.1,v0.2.2.2.2.2.2.2.2.2.1,v0.2.2.2.2.2.2.2.2.2.2.1,v0.2.2.2.2.2.2.2.2.2.2.2,()),()),())
abbrev yKJ (v0:Bool):(ygx).X:=(((v0,()),()),(),())
def yo7 (v0 v1 v2 v3:Int) (v4:List dM) (v5 v6 v7 v8 v9:Int) (v10:List dW) (v11:Int) (v12 v13:Bool):Option ((ycw).X ⊕ ((ygj).X ⊕ (ygx).X)) :=bif(ltb v0 (v4.length:Int))then bif(inb v0 v4.length)then let r3:=yav ((nth v4 v0 ([],[],false,[])).1,((nth v4 v0 ([],[],false,[])).2).1,(((nth v4 v0 ([],[],false,[])).2).2));bif(!(!r3))then let r4:=ycm (v2,v3);bif(!((((nth v4 v0 ([],[],false,[])).1).length:Int) !=r4))then bif(((nth v4 v0 ([],[],false,[])).2).2).1 then bif(v0 !=v5)then bif(!v13)then some (.inr (.inr (((false,()),()),(),()))) else some (.inl ((((),()),((i64.wrap (v0+1)),()),()),((v1,v2,v3,v4,v5,v6,v7,v8,v9,v10,v11,v12,v13,()),()),())) else some (.inl ((((),()),((i64.wrap (v0+1)),()),()),((v1,v2,v3,v4,v5,v6,v7,v8,v9,v10,v11,v12,v13,()),()),())) else some (.inl ((((),()),((i64.wrap (v0+1)),()),()),((v1,v2,v3,v4,v5,v6,v7,v8,v9,v10,v11,v12,v13,()),()),())) else some (.inr (.inr (((false,()),()),(),()))) else some (.inr (.inr (((false,()),()),(),()))) else none else some (.inr (.inl ((((),()),()),((v1,v2,v3,v4,v5,v6,v7,v8,v9,v10,v11,v12,v13,()),()),())))
def ycV (x:(ycw).X):=yo7 x.1.2.1.1 x.2.1.1.1 x.2.1.1.2.1 x.2.1.1.2.2.1 x.2.1.1.2.2.2.1 x.2.1.1.2.2.2.2.1 x.2.1.1.2.2.2.2.2.1 x.2.1.1.2.2.2.2.2.2.1 x.2.1.1.2.2.2.2.2.2.2.1 x.2.1.1.2.2.2.2.2.2.2.2.1 x.2.1.1.2.2.2.2.2.2.2.2.2.1 x.2.1.1.2.2.2.2.2.2.2.2.2.2.1 x.2.1.1.2.2.2.2.2.2.2.2.2.2.2.1 x.2.1.1.2.2.2.2.2.2.2.2.2.2.2.2.1
def yzb (x:(ygt).X):(ycw).X:=((((),()),(0,()),()),((x.2.1.1.1,x.2.1.1.2.1,x.2.1.1.2.2.1,x.2.1.1.2.2.2.1,x.2.1.1.2.2.2.2.1,x.2.1.1.2.2.2.2.2.1,x.2.1.1.2.2.2.2.2.2.1,x.2.1.1.2.2.2.2.2.2.2.1,x.2.1.1.2.2.2.2.2.2.2.2.1,x.2.1.1.2.2.2.2.2.2.2.2.2.1,x.2.1.1.2.2.2.2.2.2.2.2.2.2.1,x.2.1.1.2.2.2.2.2.2.2.2.2.2.2.1,x.2.1.1.2.2.2.2.2.2.2.2.2.2.2.2.1,()),()),())
def yAY:Code:=(zd7 ypn 64 52).getD .skip
theorem yMd:zd7 ypn 64 13=some (.block 0 (.loop yAY)):=by kernel_rfl
theorem yOV (x:(ycw).X):zhu ⟨yxd,51,yCN⟩ 0 yAY 52 ycw ygj ygx x=ycV x:=by kernel_rfl
def yzl (x:(ygt).X):Nat:=18446744073709551616
def yp1 (x:(ygt).X):Option ((ygj).X ⊕ (ygx).X):=zF ycV (yzl x) (yzb x)
def yzF:Seg:=⟨ygt,ygj,ygx,yp1⟩
def yPk:Nat→Option Seg:=fun q=>bif Nat.beq q 13 then some yzF else yCN q
theorem yMW:FrOk prog ⟨yxd,51,yPk⟩ ypn:=(yMV).loop (sg:=yzF) ycw yzb (by decide) yMd ycV yzl (by decide) (fun _=>rfl) (fun x r _ h=>h) yOV
abbrev ykr:List Par:= [.rd tA]
abbrev ypG:List OT:= [⟨false,tB,.fz⟩]
def ytz (a0:dA):Option (zaY ypG×zak ykr) :=zkt (yp1 ((((),()),((),()),()),((a0.1,a0.2.1.1,a0.2.1.2,a0.2.2.1,a0.2.2.2.1,a0.2.2.2.2.1,a0.2.2.2.2.2.1,a0.2.2.2.2.2.2.1,a0.2.2.2.2.2.2.2.1,a0.2.2.2.2.2.2.2.2.1,a0.2.2.2.2.2.2.2.2.2.1,a0.2.2.2.2.2.2.2.2.2.2.1,a0.2.2.2.2.2.2.2.2.2.2.2,()),()),())) (fun y4 =>some ((((y4.2.1.1.2.2.2.1.length:Int)==y4.2.1.1.2.1),()),())) (fun y4 =>some ((y4.1.1.1,()),()))
theorem yRK:ConOk prog 151 ⟨ykr,ypG,fun x=>ytz x.1⟩:=zkI (yMW) func151 ntmps151.symm fun x=>by kernel_rfl
def ykH (a0:dA):Bool:=ykz a0
def yym (a0:dA):Bool:=ye a0.2.1
theorem yT1 (a0:dA) (hk:zjx ykr (a0,())) (hq:yym a0=true):ytz a0=(fun n=>some ((n,()),())) (ykH a0):=by
 have hb:a0.2.2.1.length*80≤2^47:=hk.1.2.2.1.1;have hg:=yk.1 hq
 have h1:yp1 (yKF a0)=some (bif(List.range a0.2.2.1.length).any (ygC a0)then .inr (yKJ false)else .inl (yKx a0)) :=
  zji (step:=ycV) (fun i=>yoz i a0) a0.2.2.1.length (ygC a0) _ _ (fun i hi=>by
   simp only[ycV,yoz,yo7,zky (show(i:Int)<a0.2.2.1.length by omega),cond_true,wq ((i:Int)+1) (by omega) (by omega),Int.natCast_add,Int.natCast_one,Int.toNat_natCast,zkR hi,zkX,yav,ygC,ycm,wq (6+a0.2.1.2) (by omega) (by omega),yd]
   cases yr (nth a0.2.2.1 i ([],[],false,[]))<;>cases(((nth a0.2.2.1 i ([],[],false,[])).1.length:Int) !=6+a0.2.1.2)<;>cases(nth a0.2.2.1 i ([],[],false,[])).2.2.1<;>cases((i:Int) !=a0.2.2.2.1)<;>cases a0.2.2.2.2.2.2.2.2.2.2.2<;>rfl) (by simp only[ycV,yoz,yo7,zk3 (Int.le_refl _),cond_false]) _ (by show _<18446744073709551616; omega)
 unfold ytz ykH ykz;rw[h1];cases(List.range a0.2.2.1.length).any (ygC a0)<;>rfl
def ypO (a0:dA):Option (zaY ypG×zak ykr):=bif yym a0 then(fun n=>some ((n,()),())) (ykH a0)else none
theorem yUT (a0:dA) (h:yym a0=true):ypO a0=(fun n=>some ((n,()),())) (ykH a0):=by unfold ypO; rw[h]; rfl
def yDl:Con:=⟨ykr,ypG,fun x=>ypO x.1⟩
theorem yUL:ConOk prog 151 yDl:=(yRK).mono (fun x r hk h=>zkY h (fun hq=>yT1 x.1 hk hq))
def yXh:Code:=(f78.body).getD .skip
def yXt:Env:=zkw TT [(82,yw),(150,yfX),(151,yDl),(152,yBh)] []
theorem yQc:FrOk prog ⟨yXt,78,fun _=>none⟩ yXh:=zkA mixed yc ⟨yC,ykK,yUL,ySa,trivial⟩
abbrev yr6:List Par:= [.rd tA]
abbrev yAC:List OT:= [⟨false,tB,.fz⟩]
def yvH (a0:dA):Option (zaY yAC×zak yr6) :=let r1:=ye a0.2.1;bif(!(!r1))then let r2:=ya a0.1 1 60000;bif(!(!r2))then bnd (ypO a0) fun r3 =>bif(!(!r3.1.1))then bnd (ynY a0) fun r4 =>bif(!r4.1.1)then some ((false,()),()) else let r5:=ya a0.2.2.2.1 (-1) (i64.wrap (a0.2.1.1-1));bif(!(!r5))then let r6:=ya a0.2.2.2.2.1 0 a0.2.1.2;bif(!(!r6))then bif(a0.2.2.2.1==(-1))then bif(a0.2.2.2.2.1 !=0)then some ((false,()),()) else let r7:=ya a0.2.2.2.2.2.2.1 0 60000;bif r7 then let r8:=ya a0.2.2.2.2.2.1 a0.2.2.2.2.2.2.1 60000;bif r8 then bif(leb a0.2.2.2.2.2.1 (i64.wrap (a0.2.2.2.2.2.2.1+4)))then let r9:=ya a0.2.2.2.2.2.2.2.1 0 60000;bif r9 then let r10:=ya a0.2.2.2.2.2.2.2.2.2.1 (-1) 1000;some ((r10,()),()) else some ((false,()),()) else some ((false,()),()) else some ((false,()),()) else some ((false,()),()) else let r11:=ya a0.2.2.2.2.2.2.1 0 60000;bif r11 then let r12:=ya a0.2.2.2.2.2.1 a0.2.2.2.2.2.2.1 60000;bif r12 then bif(leb a0.2.2.2.2.2.1 (i64.wrap (a0.2.2.2.2.2.2.1+4)))then let r13:=ya a0.2.2.2.2.2.2.2.1 0 60000;bif r13 then let r14:=ya a0.2.2.2.2.2.2.2.2.2.1 (-1) 1000;some ((r14,()),()) else some ((false,()),()) else some ((false,()),()) else some ((false,()),()) else some ((false,()),()) else some ((false,()),()) else some ((false,()),()) else some ((false,()),()) else some ((false,()),()) else some ((false,()),())
theorem yUh:ConOk prog 78 ⟨yr6,yAC,fun x=>yvH x.1⟩:=zkI (yQc) func78 ntmps78.symm fun x=>by kernel_rfl
def yci (a0:dA):Bool:=yP a0
theorem yWC (a0:dA) (hk:zjx yr6 (a0,())):yvH a0=(fun n=>some ((n,()),())) (yci a0):=by
 unfold yvH yci yP;simp only[ybR];cases hg:ye a0.2.1
 ·rfl
 have hg2:=yk.1 hg;rw[yUT a0 hg,ySf a0 hg,wq (a0.2.1.1-1) (by omega) (by omega)];simp only[zkH,ykH,yjo,Bool.not_not,cond_true];cases(leb 1 a0.1&&leb a0.1 60000)
 ·rfl
 cases ykz a0
 ·rfl
 cases yaz a0.2.1 a0.2.2.2.2.2.2.2.2.1
 ·rfl
 cases(leb (-1) a0.2.2.2.1&&leb a0.2.2.2.1 (a0.2.1.1-1))
 ·rfl
 cases(leb 0 a0.2.2.2.2.1&&leb a0.2.2.2.2.1 a0.2.1.2)
 ·rfl
 have ht:(leb 0 a0.2.2.2.2.2.2.1&&leb a0.2.2.2.2.2.2.1 60000)=true→i64.wrap (a0.2.2.2.2.2.2.1+4)=a0.2.2.2.2.2.2.1+4:=fun h=>by
  rw[Bool.and_eq_true,zj7,zj7]at h;exact wr (by omega) (by omega)
 cases hT:(leb 0 a0.2.2.2.2.2.2.1&&leb a0.2.2.2.2.2.2.1 60000)
 ·cases(a0.2.2.2.1== -1)<;>cases(a0.2.2.2.2.1 !=0)<;>rfl
 rw[ht hT];cases(leb a0.2.2.2.2.2.2.1 a0.2.2.2.2.2.1&&leb a0.2.2.2.2.2.1 60000)
 ·cases(a0.2.2.2.1== -1)<;>cases(a0.2.2.2.2.1 !=0)<;>rfl
 cases leb a0.2.2.2.2.2.1 (a0.2.2.2.2.2.2.1+4)
 ·cases(a0.2.2.2.1== -1)<;>cases(a0.2.2.2.2.1 !=0)<;>rfl
 cases(leb 0 a0.2.2.2.2.2.2.2.1&&leb a0.2.2.2.2.2.2.2.1 60000)<;>cases(a0.2.2.2.1== -1)<;>cases(a0.2.2.2.2.1 !=0)<;>rfl
def yvi:Con:=⟨yr6,yAC,fun x=>(fun n=>some ((n,()),())) (yci x.1)⟩
theorem yGe:ConOk prog 78 yvi:=(yUh).mono (fun x r hk h=>(yWC x.1 hk).trans h)
def yd4:Code:=(f44.body).getD .skip
def yiQ:Env:=zkw TT [(78,yvi),(82,yw),(113,ydl)] []
theorem yJ8:FrOk prog ⟨yiQ,68,fun _=>none⟩ yd4:=zkA mixed yc ⟨yGe,yC,yf4,trivial⟩
def yz7:Nat→Option Seg:=fun _=>none
def yaS:Shape:=⟨[(1,false,[.int .i64]),(2,false,[.ptr 0 0]),(5,false,[.int .i64]),(6,false,[.int .i64])],[(0,[.int .i64,.int .i64,.int .i64,.br tM,.int .i64,.int .i64,.int .i64,.int .i64,.int .i64,.br tW,.int .i64,.bool,.bool])],[]⟩
def ydY:Shape:=⟨[(1,false,[.int .i64]),(2,false,[.ptr 0 0]),(5,false,[.int .i64]),(6,false,[.ci .i64 0])],[(0,[.int .i64,.int .i64,.int .i64,.br tM,.int .i64,.int .i64,.int .i64,.int .i64,.int .i64,.br tW,.int .i64,.bool,.bool])],[]⟩
def ydT:Shape:=⟨[(1,false,[.int .i64]),(2,false,[.ptr 0 0]),(5,false,[.int .i64])],[(0,[.int .i64,.int .i64,.int .i64,.br tM,.int .i64,.int .i64,.int .i64,.int .i64,.int .i64,.br tW,.int .i64,.bool,.bool])],[]⟩
def yd1:Shape:=⟨[(4,false,[.bool])],[],[]⟩
abbrev yj8 (v0 v1 v2:Int) (v3:dA):(yaS).X:=(((v0,()),((),()),(v1,()),(v2,()),()),((v3.1,v3.2.1.1,v3.2.1.2,v3.2.2.1,v3.2.2.2.1,v3.2.2.2.2.1,v3.2.2.2.2.2.1,v3.2.2.2.2.2.2.1,v3.2.2.2.2.2.2.2.1,v3.2.2.2.2.2.2.2.2.1,v3.2.2.2.2.2.2.2.2.2.1,v3.2.2.2.2.2.2.2.2.2.2.1,v3.2.2.2.2.2.2.2.2.2.2.2,()),()),())
abbrev ytd (v0 v1:Int) (v2:dA):(ydY).X:=(((v0,()),((),()),(v1,()),((),()),()),((v2.1,v2.2.1.1,v2.2.1.2,v2.2.2.1,v2.2.2.2.1,v2.2.2.2.2.1,v2.2.2.2.2.2.1,v2.2.2.2.2.2.2.1,v2.2.2.2.2.2.2.2.1,v2.2.2.2.2.2.2.2.2.1,v2.2.2.2.2.2.2.2.2.2.1,v2.2.2.2.2.2.2.2.2.2.2.1,v2.2.2.2.2.2.2.2.2.2.2.2,()),()),())
abbrev ytc (v0 v1:Int) (v2:dA):(ydT).X:=(((v0,()),((),()),(v1,()),()),((v2.1,v2.2.1.1,v2.2.1.2,v2.2.2.1,v2.2.2.2.1,v2.2.2.2.2.1,v2.2.2.2.2.2.1,v2.2.2.2.2.2.2.1,v2.2.2.2.2.2.2.2.1,v2.2.2.2.2.2.2.2.2.1,v2.2.2.2.2.2.2.2.2.2.1,v2.2.2.2.2.2.2.2.2.2.2.1,v2.2.2.2.2.2.2.2.2.2.2.2,()),()),())
abbrev yte (v0:Bool):(yd1).X:=(((v0,()),()),(),())
def ykk (v0 v1 v2 v3 v4 v5:Int) (v6:List dM) (v7 v8 v9 v10 v11:Int) (v12:List dW) (v13:Int) (v14 v15:Bool):Option ((yaS).X ⊕ ((ydT).X ⊕ (yd1).X)) :=bif(inb v1 v6.length)then bif(ltb v2 (((((nth v6 v1 ([],[],false,[])).2).2).2).length:Int))then bif(v1 !=v0)then bif(inb v1 v6.length)then bif(inb v2 ((((nth v6 v1 ([],[],false,[])).2).2).2).length)then let r4:=yaH 0;bif(leb r4 (nth ((((nth v6 v1 ([],[],false,[])).2).2).2) v2 0))then some (.inr (.inr (((false,()),()),(),()))) else some (.inl (((v0,()),((),()),(v1,()),((i64.wrap (v2+1)),()),()),((v3,v4,v5,v6,v7,v8,v9,v10,v11,v12,v13,v14,v15,()),()),())) else none else none else some (.inl (((v0,()),((),()),(v1,()),((i64.wrap (v2+1)),()),()),((v3,v4,v5,v6,v7,v8,v9,v10,v11,v12,v13,v14,v15,()),()),())) else some (.inr (.inl (((v0,()),((),()),(v1,()),()),((v3,v4,v5,v6,v7,v8,v9,v10,v11,v12,v13,v14,v15,()),()),()))) else none
def yba (x:(yaS).X):=ykk x.1.1.1 x.1.2.2.1.1 x.1.2.2.2.1.1 x.2.1.1.1 x.2.1.1.2.1 x.2.1.1.2.2.1 x.2.1.1.2.2.2.1 x.2.1.1.2.2.2.2.1 x.2.1.1.2.2.2.2.2.1 x.2.1.1.2.2.2.2.2.2.1 x.2.1.1.2.2.2.2.2.2.2.1 x.2.1.1.2.2.2.2.2.2.2.2.1 x.2.1.1.2.2.2.2.2.2.2.2.2.1 x.2.1.1.2.2.2.2.2.2.2.2.2.2.1 x.2.1.1.2.2.2.2.2.2.2.2.2.2.2.1 x.2.1.1.2.2.2.2.2.2.2.2.2.2.2.2.1
def ysW (x:(ydY).X):(yaS).X:=(((x.1.1.1,()),((),()),(x.1.2.2.1.1,()),(0,()),()),((x.2.1.1.1,x.2.1.1.2.1,x.2.1.1.2.2.1,x.2.1.1.2.2.2.1,x.2.1.1.2.2.2.2.1,x.2.1.1.2.2.2.2.2.1,x.2.1.1.2.2.2.2.2.2.1,x.2.1.1.2.2.2.2.2.2.2.1,x.2.1.1.2.2.2.2.2.2.2.2.1,x.2.1.1.2.2.2.2.2.2.2.2.2.1,x.2.1.1.2.2.2.2.2.2.2.2.2.2.1,x.2.1.1.2.2.2.2.2.2.2.2.2.2.2.1,x.2.1.1.2.2.2.2.2.2.2.2.2.2.2.2.1,()),()),())
def ytO:Code:=(zd7 yd4 64 7460).getD .skip
theorem yGo:zd7 yd4 64 1865=some (.block 2 (.loop ytO)):=by kernel_rfl
theorem yG0 (x:(yaS).X):zhu ⟨yiQ,68,yz7⟩ 2 ytO 7460 yaS ydT yd1 x=yba x:=by kernel_rfl
def ys2 (x:(ydY).X):Nat:=18446744073709551616
def ygP (x:(ydY).X):Option ((ydT).X ⊕ (yd1).X):=zF yba (ys2 x) (ysW x)
def ytG:Seg:=⟨ydY,ydT,yd1,ygP⟩
def ypS:Nat→Option Seg:=fun q=>bif Nat.beq q 1865 then some ytG else yz7 q
theorem yJ9:FrOk prog ⟨yiQ,68,ypS⟩ yd4:=(yJ8).loop (sg:=ytG) yaS ysW (by decide) yGo yba ys2 (by decide) (fun _=>rfl) (fun x r _ h=>h) yG0
def ybL:Shape:=⟨[(1,false,[.int .i64]),(2,false,[.ptr 0 0]),(5,false,[.int .i64])],[(0,[.int .i64,.int .i64,.int .i64,.br tM,.int .i64,.int .i64,.int .i64,.int .i64,.int .i64,.br tW,.int .i64,.bool,.bool])],[]⟩
def yfw:Shape:=⟨[(1,false,[.int .i64]),(2,false,[.ptr 0 0]),(5,false,[.ci .i64 0])],[(0,[.int .i64,.int .i64,.int .i64,.br tM,.int .i64,.int .i64,.int .i64,.int .i64,.int .i64,.br tW,.int .i64,.bool,.bool])],[]⟩
def yfk:Shape:=⟨[],[],[]⟩
def yfE:Shape:=⟨[(4,false,[.bool])],[],[]⟩
abbrev ymP (v0 v1:Int) (v2:dA):(ybL).X:=(((v0,()),((),()),(v1,()),()),((v2.1,v2.2.1.1,v2.2.1.2,v2.2.2.1,v2.2.2.2.1,v2.2.2.2.2.1,v2.2.2.2.2.2.1,v2.2.2.2.2.2.2.1,v2.2.2.2.2.2.2.2.1,v2.2.2.2.2.2.2.2.2.1,v2.2.2.2.2.2.2.2.2.2.1,v2.2.2.2.2.2.2.2.2.2.2.1,v2.2.2.2.2.2.2.2.2.2.2.2,()),()),())
abbrev yIj (v0:Int) (v1:dA):(yfw).X:=(((v0,()),((),()),((),()),()),((v1.1,v1.2.1.1,v1.2.1.2,v1.2.2.1,v1.2.2.2.1,v1.2.2.2.2.1,v1.2.2.2.2.2.1,v1.2.2.2.2.2.2.1,v1.2.2.2.2.2.2.2.1,v1.2.2.2.2.2.2.2.2.1,v1.2.2.2.2.2.2.2.2.2.1,v1.2.2.2.2.2.2.2.2.2.2.1,v1.2.2.2.2.2.2.2.2.2.2.2,()),()),())
abbrev yH8  :(yfk).X:=((),(),())
abbrev yIq (v0:Bool):(yfE).X:=(((v0,()),()),(),())
def ynd (v0 v1 v2 v3 v4:Int) (v5:List dM) (v6 v7 v8 v9 v10:Int) (v11:List dW) (v12:Int) (v13 v14:Bool):Option ((ybL).X ⊕ ((yfk).X ⊕ (yfE).X)) :=bif(ltb v1 (v5.length:Int))then zkt (ygP (((v0,()),((),()),(v1,()),((),()),()),((v2,v3,v4,v5,v6,v7,v8,v9,v10,v11,v12,v13,v14,()),()),())) (fun y5 =>some (.inl (((y5.1.1.1,()),((),()),((i64.wrap (y5.1.2.2.1.1+1)),()),()),((y5.2.1.1.1,y5.2.1.1.2.1,y5.2.1.1.2.2.1,y5.2.1.1.2.2.2.1,y5.2.1.1.2.2.2.2.1,y5.2.1.1.2.2.2.2.2.1,y5.2.1.1.2.2.2.2.2.2.1,y5.2.1.1.2.2.2.2.2.2.2.1,y5.2.1.1.2.2.2.2.2.2.2.2.1,y5.2.1.1.2.2.2.2.2.2.2.2.2.1,y5.2.1.1.2.2.2.2.2.2.2.2.2.2.1,y5.2.1.1.2.2.2.2.2.2.2.2.2.2.2.1,y5.2.1.1.2.2.2.2.2.2.2.2.2.2.2.2.1,()),()),()))) (fun y5 =>some (.inr (.inr (((y5.1.1.1,()),()),(),())))) else some (.inr (.inl ((),(),())))
def yb7 (x:(ybL).X):=ynd x.1.1.1 x.1.2.2.1.1 x.2.1.1.1 x.2.1.1.2.1 x.2.1.1.2.2.1 x.2.1.1.2.2.2.1 x.2.1.1.2.2.2.2.1 x.2.1.1.2.2.2.2.2.1 x.2.1.1.2.2.2.2.2.2.1 x.2.1.1.2.2.2.2.2.2.2.1 x.2.1.1.2.2.2.2.2.2.2.2.1 x.2.1.1.2.2.2.2.2.2.2.2.2.1 x.2.1.1.2.2.2.2.2.2.2.2.2.2.1 x.2.1.1.2.2.2.2.2.2.2.2.2.2.2.1 x.2.1.1.2.2.2.2.2.2.2.2.2.2.2.2.1
def ywm (x:(yfw).X):(ybL).X:=(((x.1.1.1,()),((),()),(0,()),()),((x.2.1.1.1,x.2.1.1.2.1,x.2.1.1.2.2.1,x.2.1.1.2.2.2.1,x.2.1.1.2.2.2.2.1,x.2.1.1.2.2.2.2.2.1,x.2.1.1.2.2.2.2.2.2.1,x.2.1.1.2.2.2.2.2.2.2.1,x.2.1.1.2.2.2.2.2.2.2.2.1,x.2.1.1.2.2.2.2.2.2.2.2.2.1,x.2.1.1.2.2.2.2.2.2.2.2.2.2.1,x.2.1.1.2.2.2.2.2.2.2.2.2.2.2.1,x.2.1.1.2.2.2.2.2.2.2.2.2.2.2.2.1,()),()),())
def yyI:Code:=(zd7 yd4 64 116).getD .skip
theorem yJF:zd7 yd4 64 29=some (.block 0 (.loop yyI)):=by kernel_rfl
theorem yLt (x:(ybL).X):zhu ⟨yiQ,68,ypS⟩ 0 yyI 116 ybL yfk yfE x=yb7 x:=by kernel_rfl
def ywB (x:(yfw).X):Nat:=18446744073709551616
def yiu (x:(yfw).X):Option ((yfk).X ⊕ (yfE).X):=zF yb7 (ywB x) (ywm x)
def yw2:Seg:=⟨yfw,yfk,yfE,yiu⟩
def yLV:Nat→Option Seg:=fun q=>bif Nat.beq q 29 then some yw2 else ypS q
theorem yKa:FrOk prog ⟨yiQ,68,yLV⟩ yd4:=(yJ9).loop (sg:=yw2) ybL ywm (by decide) yJF yb7 ywB (by decide) (fun _=>rfl) (fun x r _ h=>h) yLt
abbrev ynC:List Par:= [.rd tA,.rd tI]
abbrev yu5:List OT:= [⟨false,tB,.fz⟩]
def yqF (a0:dA) (a1:Int):Option (zaY yu5×zak ynC) :=let r1:=yci a0;bif(!(!r1))then bif(!a0.2.2.2.2.2.2.2.2.2.2.2)then let r2:=ya a1 0 (i64.wrap ((a0.2.2.1.length:Int)-1));bif(!(!r2))then bif(a0.2.2.2.1 !=(-1))then bif(a0.2.2.2.1 !=a1)then some ((false,()),()) else zkt (yiu (((a1,()),((),()),((),()),()),((a0.1,a0.2.1.1,a0.2.1.2,a0.2.2.1,a0.2.2.2.1,a0.2.2.2.2.1,a0.2.2.2.2.2.1,a0.2.2.2.2.2.2.1,a0.2.2.2.2.2.2.2.1,a0.2.2.2.2.2.2.2.2.1,a0.2.2.2.2.2.2.2.2.2.1,a0.2.2.2.2.2.2.2.2.2.2.1,a0.2.2.2.2.2.2.2.2.2.2.2,()),()),())) (fun y6 =>some ((true,()),())) (fun y6 =>some ((y6.1.1.1,()),())) else zkt (yiu (((a1,()),((),()),((),()),()),((a0.1,a0.2.1.1,a0.2.1.2,a0.2.2.1,a0.2.2.2.1,a0.2.2.2.2.1,a0.2.2.2.2.2.1,a0.2.2.2.2.2.2.1,a0.2.2.2.2.2.2.2.1,a0.2.2.2.2.2.2.2.2.1,a0.2.2.2.2.2.2.2.2.2.1,a0.2.2.2.2.2.2.2.2.2.2.1,a0.2.2.2.2.2.2.2.2.2.2.2,()),()),())) (fun y7 =>some ((true,()),())) (fun y7 =>some ((y7.1.1.1,()),())) else some ((false,()),()) else some ((false,()),()) else some ((false,()),())
theorem yOg:ConOk prog 44 ⟨ynC,yu5,fun x=>yqF x.1 x.2.1⟩:=zkI (yKa) func44 ntmps44.symm fun x=>by kernel_rfl
def ygO (m:dM):Bool:=m.2.2.2.any (fun n=>leb 6 n)
def yEE (a:dA) (m:Int):Bool:=(List.range a.2.2.1.length).all (fun(i:Nat)=>(i:Int)==m|| !(ygO (nth a.2.2.1 i yd)))
def yaL (a0:dA) (a1:Int):Bool:=yP a0&&(!a0.2.2.2.2.2.2.2.2.2.2.2&&(inb a1 a0.2.2.1.length&&((a0.2.2.2.1== -1||a0.2.2.2.1==a1)&&yEE a0 a1)))
theorem yQ2 (a0:dA) (a1:Int) (hk:zjx ynC (a0,a1,())):yqF a0 a1=(fun n=>some ((n,()),())) (yaL a0 a1):=by
 have hb:a0.2.2.1.length*80≤2^47:=hk.1.2.2.1.1
 have h0: ∀i:Nat,i<a0.2.2.1.length→ygP (ytd a1 i a0)=some (bif(i:Int)==a1|| !(ygO (nth a0.2.2.1 i yd))then .inl (ytc a1 i a0)else .inr (yte false)):=fun k hk2=>by
  have hb2:(nth a0.2.2.1 k yd).2.2.2.length*8≤2^47:=yvr (P:=fun x:dM=>x.2.2.2.length*8≤2^47) (zkR hk2) (fun x hx=>(hk.1.2.2.1.2 x hx).2.2.2.1)
  have:=zj9 (step:=yba) (nth a0.2.2.1 k yd).2.2.2 0 (fun i=>yj8 a1 k i a0) (fun n=>(k:Int)==a1|| !(leb 6 n)) (.inl (ytc a1 k a0)) (.inr (yte false)) (fun i hi=>by
   unfold yd at hi hb2;simp only[yba,yj8,ykk,zky (show(i:Int)<(nth a0.2.2.1 k ([],[],false,[])).2.2.2.length by omega),cond_true,wq ((i:Int)+1) (by omega) (by omega),Int.natCast_add,Int.natCast_one,Int.toNat_natCast,zkR hk2,zkR hi,yd,yed,show yQ 0=6 from rfl,bne];rw[zkS (nth a0.2.2.1 k ([],[],false,[])).2.2.2 i]
   cases((k:Int)==a1)<;>cases leb 6 ((nth a0.2.2.1 k ([],[],false,[])).2.2.2.getD i 0)<;>rfl) (by
   simp only[yba,yj8,ykk,zkR hk2,yd,zk3 (Int.le_refl _),cond_false,cond_true]) 18446744073709551616 (by omega)
  rw[show ygP (ytd a1 k a0)=_ from this];congr 2;unfold ygO;cases((k:Int)==a1)
  ·simp[List.all_eq_not_any_not]
  ·simp
 have h1:yiu (yIj a1 a0)=some (bif(List.range a0.2.2.1.length).any (fun(i:Nat)=> !((i:Int)==a1|| !(ygO (nth a0.2.2.1 i yd))))then .inr (yIq false)else .inl yH8) :=
  zji (step:=yb7) (fun i=>ymP a1 i a0) a0.2.2.1.length (fun(i:Nat)=> !((i:Int)==a1|| !(ygO (nth a0.2.2.1 i yd)))) _ _ (fun i hi=>by
   simp only[yb7,ymP,ynd,zky (show(i:Int)<a0.2.2.1.length by omega),cond_true,wq ((i:Int)+1) (by omega) (by omega),Int.natCast_add,Int.natCast_one,Int.toNat_natCast,h0 i hi];cases((i:Int)==a1|| !(ygO (nth a0.2.2.1 i yd)))
   ·rfl
   ·simp only[cond_true,zkN,wq ((i:Int)+1) (by omega) (by omega)]; rfl) (by simp only[yb7,ymP,ynd,zk3 (Int.le_refl _),cond_false]) _ (by show _<18446744073709551616; omega)
 unfold yqF yaL yEE yci;rw[yh1 (show a0.2.2.1.length≤1152921504606846976 by omega),h1,List.all_eq_not_any_not];simp only[bne];cases yP a0
 ·rfl
 cases a0.2.2.2.2.2.2.2.2.2.2.2
 ·cases inb a1 a0.2.2.1.length
  ·rfl
  ·cases(a0.2.2.2.1== -1)<;>cases(a0.2.2.2.1==a1)<;>cases((List.range a0.2.2.1.length).any (fun(i:Nat)=> !((i:Int)==a1|| !(ygO (nth a0.2.2.1 i yd)))))<;>rfl
 ·rfl
def yA9:Con:=⟨ynC,yu5,fun x=>(fun n=>some ((n,()),())) (yaL x.1 x.2.1)⟩
theorem yR2:ConOk prog 44 yA9:=(yOg).mono (fun x r hk h=>(yQ2 x.1 x.2.1 hk).trans h)
def ylq:Code:=(f114.body).getD .skip
def yrH:Env:=zkw TT [(111,yl1)] []
theorem yHL:FrOk prog ⟨yrH,16,fun _=>none⟩ ylq:=zkA mixed yc ⟨yvs,trivial⟩
def yyv:Nat→Option Seg:=fun _=>none
def ybi:Shape:=⟨[(6,false,[.br tI]),(7,false,[.int .i64]),(8,false,[.int .i64])],[],[]⟩
def yeA:Shape:=⟨[(6,false,[.br tI]),(7,false,[.int .i64]),(8,false,[.ci .i64 0])],[],[]⟩
def yet:Shape:=⟨[],[],[]⟩
def yeF:Shape:=⟨[(2,false,[.bool])],[],[]⟩
abbrev yk4 (v0:List Int) (v1 v2:Int):(ybi).X:=(((v0,()),(v1,()),(v2,()),()),(),())
abbrev yGH (v0:List Int) (v1:Int):(yeA).X:=(((v0,()),(v1,()),((),()),()),(),())
abbrev yGB  :(yet).X:=((),(),())
abbrev yGK (v0:Bool):(yeF).X:=(((v0,()),()),(),())
def ylh (v0:List Int) (v1 v2:Int):Option ((ybi).X ⊕ ((yet).X ⊕ (yeF).X)) :=bif(ltb v2 v1)then bif(inb v2 v0.length)then let r2:=yg7 0;bif(leb r2 (nth v0 v2 0))then some (.inr (.inr (((true,()),()),(),()))) else some (.inl (((v0,()),(v1,()),((i64.wrap (v2+1)),()),()),(),())) else none else some (.inr (.inl ((),(),())))
def yby (x:(ybi).X):=ylh x.1.1.1 x.1.2.1.1 x.1.2.2.1.1
def yt0 (x:(yeA).X):(ybi).X:=(((x.1.1.1,()),(x.1.2.1.1,()),(0,()),()),(),())
def yv6:Code:=(zd7 ylq 64 52).getD .skip
theorem yHg:zd7 ylq 64 13=some (.block 0 (.loop yv6)):=by kernel_rfl
theorem yIR (x:(ybi).X):zhu ⟨yrH,16,yyv⟩ 0 yv6 52 ybi yet yeF x=yby x:=by kernel_rfl
def yt8 (x:(yeA).X):Nat:=18446744073709551616
def ymq (x:(yeA).X):Option ((yet).X ⊕ (yeF).X):=zF yby (yt8 x) (yt0 x)
def yum:Seg:=⟨yeA,yet,yeF,ymq⟩
def yJo:Nat→Option Seg:=fun q=>bif Nat.beq q 13 then some yum else yyv q
theorem yHM:FrOk prog ⟨yrH,16,yJo⟩ ylq:=(yHL).loop (sg:=yum) ybi yt0 (by decide) yHg yby yt8 (by decide) (fun _=>rfl) (fun x r _ h=>h) yIR
abbrev ylF:List Par:= [.rd tM]
abbrev ysq:List OT:= [⟨false,tB,.fz⟩]
def yoR (a0:dM):Option (zaY ysq×zak ylF) :=zkt (ymq (((a0.2.2.2,()),((a0.2.2.2.length:Int),()),((),()),()),(),())) (fun y2 =>some ((false,()),())) (fun y2 =>some ((y2.1.1.1,()),()))
theorem yK4:ConOk prog 114 ⟨ylF,ysq,fun x=>yoR x.1⟩:=zkI (yHM) func114 ntmps114.symm fun x=>by kernel_rfl
def yh8 (a0:dM):Bool:=ygO a0
theorem yNP (a0:dM) (hk:zjx ylF (a0,())):yoR a0=(fun n=>some ((n,()),())) (yh8 a0):=by
 have hb:a0.2.2.2.length*8≤2^47:=hk.1.2.2.2.1
 have h1:ymq (yGH a0.2.2.2 a0.2.2.2.length)=some (bif a0.2.2.2.all (fun n=> !(leb 6 n))then .inl yGB else .inr (yGK true)) :=
  zj9 (step:=yby) a0.2.2.2 0 (fun i=>yk4 a0.2.2.2 a0.2.2.2.length i) _ _ _ (fun i hi=>by
   simp only[yby,yk4,ylh,zky (show(i:Int)<a0.2.2.2.length by omega),cond_true,wq ((i:Int)+1) (by omega) (by omega),Int.natCast_add,Int.natCast_one,Int.toNat_natCast,zkR hi,zkS,yvo,show yQ 0=6 from rfl]
   cases leb 6 (a0.2.2.2.getD i 0)<;>rfl) (by simp only[yby,yk4,ylh,zk3 (Int.le_refl _),cond_false]) _ (by show _<18446744073709551616; omega)
 unfold yoR yh8 ygO;rw[h1,List.all_eq_not_any_not];simp only[Bool.not_not];cases a0.2.2.2.any (fun n=>leb 6 n)<;>rfl
def yyV:Con:=⟨ylF,ysq,fun x=>(fun n=>some ((n,()),())) (yh8 x.1)⟩
theorem yOD:ConOk prog 114 yyV:=(yK4).mono (fun x r hk h=>(yNP x.1 hk).trans h)
def ynj:Code:=(f43.body).getD .skip
def yut:Env:=zkw TT [(55,yd7),(106,yqa),(114,yyV)] []
theorem yJK:FrOk prog ⟨yut,47,fun _=>none⟩ ynj:=zkA mixed yc ⟨yg9,yDF,yOD,trivial⟩
def yzY:Nat→Option Seg:=fun _=>none
def ybD:Shape:=⟨[(1,false,[.int .i64]),(32,false,[.br tM]),(33,false,[.int .i64]),(34,false,[.int .i64])],[],[]⟩
def yfo:Shape:=⟨[(1,false,[.int .i64]),(32,false,[.br tM]),(33,false,[.int .i64]),(34,false,[.ci .i64 0])],[],[]⟩
def yfc:Shape:=⟨[],[],[]⟩
def yfB:Shape:=⟨[(4,false,[.bool])],[],[]⟩
abbrev ymH (v0:Int) (v1:List dM) (v2 v3:Int):(ybD).X:=(((v0,()),(v1,()),(v2,()),(v3,()),()),(),())
abbrev yIb (v0:Int) (v1:List dM) (v2:Int):(yfo).X:=(((v0,()),(v1,()),(v2,()),((),()),()),(),())
abbrev yH5  :(yfc).X:=((),(),())
abbrev yIn (v0:Bool):(yfB).X:=(((v0,()),()),(),())
def ym4 (v0:Int) (v1:List dM) (v2 v3:Int):Option ((ybD).X ⊕ ((yfc).X ⊕ (yfB).X)) :=bif(ltb v3 v2)then bif(inb v3 v1.length)then bif(v3 !=v0)then let r4:=yh8 ((nth v1 v3 ([],[],false,[])).1,((nth v1 v3 ([],[],false,[])).2).1,(((nth v1 v3 ([],[],false,[])).2).2));bif r4 then some (.inr (.inr (((false,()),()),(),()))) else some (.inl (((v0,()),(v1,()),(v2,()),((i64.wrap (v3+1)),()),()),(),())) else some (.inl (((v0,()),(v1,()),(v2,()),((i64.wrap (v3+1)),()),()),(),())) else none else some (.inr (.inl ((),(),())))
def ybY (x:(ybD).X):=ym4 x.1.1.1 x.1.2.1.1 x.1.2.2.1.1 x.1.2.2.2.1.1
def ywd (x:(yfo).X):(ybD).X:=(((x.1.1.1,()),(x.1.2.1.1,()),(x.1.2.2.1.1,()),(0,()),()),(),())
def yyz:Code:=(zd7 ynj 64 116).getD .skip
theorem yJw:zd7 ynj 64 29=some (.block 0 (.loop yyz)):=by kernel_rfl
theorem yLk (x:(ybD).X):zhu ⟨yut,47,yzY⟩ 0 yyz 116 ybD yfc yfB x=ybY x:=by kernel_rfl
def yws (x:(yfo).X):Nat:=18446744073709551616
def yit (x:(yfo).X):Option ((yfc).X ⊕ (yfB).X):=zF ybY (yws x) (ywd x)
def ywT:Seg:=⟨yfo,yfc,yfB,yit⟩
def yLO:Nat→Option Seg:=fun q=>bif Nat.beq q 29 then some ywT else yzY q
theorem yJL:FrOk prog ⟨yut,47,yLO⟩ ynj:=(yJK).loop (sg:=ywT) ybD ywd (by decide) yJw ybY yws (by decide) (fun _=>rfl) (fun x r _ h=>h) yLk
abbrev ynt:List Par:= [.rd tA,.rd tI]
abbrev yuQ:List OT:= [⟨false,tB,.fz⟩]
def yqv (a0:dA) (a1:Int):Option (zaY yuQ×zak ynt) :=let r1:=yG a0;bif(!(!r1))then let r2:=yf1 a0 a1;bif(!(!r2))then bif(!a0.2.2.2.2.2.2.2.2.2.2.2)then bif(a0.2.2.2.1 !=(-1))then bif(a0.2.2.2.1 !=a1)then some ((false,()),()) else zkt (yit (((a1,()),(a0.2.2.1,()),((a0.2.2.1.length:Int),()),((),()),()),(),())) (fun y4 =>some ((true,()),())) (fun y4 =>some ((y4.1.1.1,()),())) else zkt (yit (((a1,()),(a0.2.2.1,()),((a0.2.2.1.length:Int),()),((),()),()),(),())) (fun y5 =>some ((true,()),())) (fun y5 =>some ((y5.1.1.1,()),())) else some ((false,()),()) else some ((false,()),()) else some ((false,()),())
theorem yN0:ConOk prog 43 ⟨ynt,yuQ,fun x=>yqv x.1 x.2.1⟩:=zkI (yJL) func43 ntmps43.symm fun x=>by kernel_rfl
def yea (a0:dA) (a1:Int):Bool:=yaL a0 a1
theorem yQM (a0:dA) (a1:Int) (hk:zjx ynt (a0,a1,())):yqv a0 a1=(fun n=>some ((n,()),())) (yea a0 a1):=by
 have hb:a0.2.2.1.length*80≤2^47:=hk.1.2.2.1.1
 have h1:yit (yIb a1 a0.2.2.1 a0.2.2.1.length)=some (bif(List.range a0.2.2.1.length).any (fun(i:Nat)=> !((i:Int)==a1|| !(ygO (nth a0.2.2.1 i yd))))then .inr (yIn false)else .inl yH5) :=
  zji (step:=ybY) (fun i=>ymH a1 a0.2.2.1 a0.2.2.1.length i) a0.2.2.1.length (fun(i:Nat)=> !((i:Int)==a1|| !(ygO (nth a0.2.2.1 i yd)))) _ _ (fun i hi=>by
   simp only[ybY,ymH,ym4,zky (show(i:Int)<a0.2.2.1.length by omega),cond_true,wq ((i:Int)+1) (by omega) (by omega),Int.natCast_add,Int.natCast_one,Int.toNat_natCast,zkR hi,zkX,yh8,yd,bne]
   cases((i:Int)==a1)<;>cases ygO (nth a0.2.2.1 i ([],[],false,[]))<;>rfl) (by simp only[ybY,ymH,ym4,zk3 (Int.le_refl _),cond_false]) _ (by show _<18446744073709551616; omega)
 unfold yqv yea yaL yEE yG yf1;rw[y9,yh1 (show a0.2.2.1.length≤1152921504606846976 by omega),h1,List.all_eq_not_any_not];simp only[bne];cases yP a0
 ·rfl
 cases inb a1 a0.2.2.1.length
 ·cases a0.2.2.2.2.2.2.2.2.2.2.2<;>rfl
 cases a0.2.2.2.2.2.2.2.2.2.2.2
 ·cases(a0.2.2.2.1== -1)<;>cases(a0.2.2.2.1==a1)<;>cases((List.range a0.2.2.1.length).any (fun(i:Nat)=> !((i:Int)==a1|| !(ygO (nth a0.2.2.1 i yd)))))<;>rfl
 ·rfl
def yA0:Con:=⟨ynt,yuQ,fun x=>(fun n=>some ((n,()),())) (yea x.1 x.2.1)⟩
theorem yRS:ConOk prog 43 yA0:=(yN0).mono (fun x r hk h=>(yQM x.1 x.2.1 hk).trans h)
def ylr:Code:=(f49.body).getD .skip
def yrI:Env:=zkw TT [] []
theorem yHN:FrOk prog ⟨yrI,26,fun _=>none⟩ ylr:=zkA mixed yc trivial
def yyw:Nat→Option Seg:=fun _=>none
def ycD:Shape:=⟨[(0,false,[.br tI]),(1,false,[.br tI]),(5,false,[.int .i64])],[],[]⟩
def yhF:Shape:=⟨[(0,false,[.br tI]),(1,false,[.br tI]),(5,false,[.ci .i64 0])],[],[]⟩
def yhr:Shape:=⟨[],[],[]⟩
def yhU:Shape:=⟨[(4,false,[.bool])],[],[]⟩
def yli (v0 v1:List Int) (v2:Int):Option ((ycD).X ⊕ ((yhr).X ⊕ (yhU).X)) :=bif(ltb v2 (v0.length:Int))then bif(inb v2 v0.length)then bif(inb v2 v1.length)then bif((nth v0 v2 0) !=(nth v1 v2 0))then some (.inr (.inr (((false,()),()),(),()))) else some (.inl (((v0,()),(v1,()),((i64.wrap (v2+1)),()),()),(),())) else none else none else some (.inr (.inl ((),(),())))
def ybz (x:(ycD).X):=yli x.1.1.1 x.1.2.1.1 x.1.2.2.1.1
def yt1 (x:(yhF).X):(ycD).X:=(((x.1.1.1,()),(x.1.2.1.1,()),(0,()),()),(),())
def yv7:Code:=(zd7 ylr 64 116).getD .skip
theorem yHh:zd7 ylr 64 29=some (.block 0 (.loop yv7)):=by kernel_rfl
theorem yIS (x:(ycD).X):zhu ⟨yrI,26,yyw⟩ 0 yv7 116 ycD yhr yhU x=ybz x:=by kernel_rfl
def yt9 (x:(yhF).X):Nat:=18446744073709551616
def ymr (x:(yhF).X):Option ((yhr).X ⊕ (yhU).X):=zF ybz (yt9 x) (yt1 x)
def yun:Seg:=⟨yhF,yhr,yhU,ymr⟩
def yJp:Nat→Option Seg:=fun q=>bif Nat.beq q 29 then some yun else yyw q
theorem yHO:FrOk prog ⟨yrI,26,yJp⟩ ylr:=(yHN).loop (sg:=yun) ycD yt1 (by decide) yHh ybz yt9 (by decide) (fun _=>rfl) (fun x r _ h=>h) yIS
abbrev ylG:List Par:= [.rd tL,.rd tL]
abbrev ysr:List OT:= [⟨false,tB,.fz⟩]
def yoS (a0 a1:List Int):Option (zaY ysr×zak ylG) :=bif((a0.length:Int) !=(a1.length:Int))then some ((false,()),()) else zkt (ymr (((a0,()),(a1,()),((),()),()),(),())) (fun y0 =>some ((true,()),())) (fun y0 =>some ((y0.1.1.1,()),()))
theorem yK5:ConOk prog 49 ⟨ylG,ysr,fun x=>yoS x.1 x.2.1⟩:=zkI (yHO) func49 ntmps49.symm fun x=>by kernel_rfl
def ydo (a0 a1:List Int):Bool:=decide (a0=a1)
theorem yNQ (a0 a1:List Int) (hk:zjx ylG (a0,a1,())):yoS a0 a1=(fun n=>some ((n,()),())) (ydo a0 a1):=by
 have hb:a0.length*8≤2^47:=hk.1.1
 have hl:a0.length=a1.length→ymr (((a0,()),(a1,()),((),()),()),(),())=some (bif(List.range a0.length).any (fun i=>a0.getD i 0 !=a1.getD i 0)then .inr (((false,()),()),(),())else .inl ((),(),())):=fun hL =>
  zji (step:=ybz) (fun i=>(((a0,()),(a1,()),((i:Int),()),()),(),())) a0.length (fun i=>a0.getD i 0 !=a1.getD i 0) _ _ (fun i hi=>by
   simp only[ybz,yli,zkR hi,zkR (hL ▸ hi),zkS,zky (show(i:Int)<a0.length by omega),cond_true,wq ((i:Int)+1) (by omega) (by omega),Int.natCast_add,Int.natCast_one]
   cases(a0.getD i 0 !=a1.getD i 0)<;>rfl) (by simp only[ybz,yli,zk3 (Int.le_refl _),cond_false]) _ (by show _<18446744073709551616; omega)
 unfold yoS ydo;by_cases h:a0.length=a1.length
 ·rw[show((a0.length:Int) !=(a1.length:Int))=false by simp[h],zkZ,hl h]
  by_cases e:a0=a1
  ·subst e
   have:(List.range a0.length).any (fun i=>a0.getD i 0 !=a0.getD i 0)=false:=by simp
   rw[this,decide_eq_true rfl];rfl
  ·have:(List.range a0.length).any (fun i=>a0.getD i 0 !=a1.getD i 0)=true:=by
    rcases Bool.eq_false_or_eq_true ((List.range a0.length).any (fun i=>a0.getD i 0 !=a1.getD i 0))with h2 | h2
    ·exact h2
    ·refine absurd (List.ext_getElem h fun i h3 h4=> ?_) e
     rw[List.any_eq_false]at h2;have:=h2 i (List.mem_range.2 h3);simpa [h3,h4]using this
   rw[this,decide_eq_false e];rfl
 ·rw[show((a0.length:Int) !=(a1.length:Int))=true from bne_iff_ne.2 (by omega),zk0,decide_eq_false (fun e=>h (congrArg _ e))]
theorem yW7 (a:List Int):ydo a a=true:=by unfold ydo; simp
def yyW:Con:=⟨ylG,ysr,fun x=>(fun n=>some ((n,()),())) (ydo x.1 x.2.1)⟩
theorem yOE:ConOk prog 49 yyW:=(yK5).mono (fun x r hk h=>(yNQ x.1 x.2.1 hk).trans h)
def yVw:Code:=(f51.body).getD .skip
def yV0:Env:=zkw TT [(123,yfW)] []
theorem yMj:FrOk prog ⟨yV0,12,fun _=>none⟩ yVw:=zkA mixed yc ⟨ykJ,trivial⟩
abbrev yxi:List Par:= [.rd tG]
abbrev yxD:List OT:= [⟨false,tI,.fz⟩]
def yDM (a0:dG):Option (zaY yxD×zak yxi) :=let r1:=ybm a0;bif(!r1)then some ((0,()),()) else some (((i64.wrap (a0.2*(i64.wrap (a0.1-1)))),()),())
theorem yRg:ConOk prog 51 ⟨yxi,yxD,fun x=>yDM x.1⟩:=zkI (yMj) func51 ntmps51.symm fun x=>by kernel_rfl
def yg6 (a0:dG):Int :=let r1:=ybm a0;bif(!r1)then 0 else (i64.wrap (a0.2*(i64.wrap (a0.1-1))))
def ysH:Con:=⟨yxi,yxD,fun x=>(fun n=>some ((n,()),())) (yg6 x.1)⟩
theorem yTB (a0:dG):yDM a0=(fun n=>some ((n,()),())) (yg6 a0):=zkV (p:=fun(n:Int)=>((n,()),())) (zkG (p:=fun(n:Int)=>((n,()),())) rfl rfl)
theorem yE6:ConOk prog 51 ysH:=(yRg).mono (fun x r _ h=>(yTB x.1).trans h)
def yVJ:Code:=(f119.body).getD .skip
def yWd:Env:=zkw TT [(150,yfX)] []
theorem yMB:FrOk prog ⟨yWd,12,fun _=>none⟩ yVJ:=zkA mixed yc ⟨ykK,trivial⟩
abbrev yxr:List Par:= [.rd tG]
abbrev yxR:List OT:= [⟨false,tI,.fz⟩]
def yDV (a0:dG):Option (zaY yxR×zak yxr) :=let r1:=ye a0;bif(!r1)then some ((0,()),()) else some (((i64.wrap (a0.2*(i64.wrap (a0.1-1)))),()),())
theorem yRv:ConOk prog 119 ⟨yxr,yxR,fun x=>yDV x.1⟩:=zkI (yMB) func119 ntmps119.symm fun x=>by kernel_rfl
def yh (a0:dG):Int :=let r1:=ye a0;bif(!r1)then 0 else (i64.wrap (a0.2*(i64.wrap (a0.1-1))))
def yl4:Con:=⟨yxr,yxR,fun x=>(fun n=>some ((n,()),())) (yh x.1)⟩
theorem yTQ (a0:dG):yDV a0=(fun n=>some ((n,()),())) (yh a0):=zkV (p:=fun(n:Int)=>((n,()),())) (zkG (p:=fun(n:Int)=>((n,()),())) rfl rfl)
theorem yvu:ConOk prog 119 yl4:=(yRv).mono (fun x r _ h=>(yTQ x.1).trans h)
theorem yFq (a:Int×Int):0≤yh a∧yh a≤32:=by
 unfold yh;cases h:ye a
 ·simp
 ·obtain⟨⟨h1,h2⟩,h3,h4⟩:=yk.1 h
  have h5:0≤a.2*(a.1-1):=Int.mul_nonneg (by omega) (by omega);have h6:a.2*(a.1-1)≤8*4:=Int.mul_le_mul h4 (by omega) (by omega) (by omega);simp only[Bool.not_true,cond_false,wq (a.1-1) (by omega) (by omega),wq (a.2*(a.1-1)) (by omega) (by omega)];omega
theorem yvQ {a:Int×Int} (h:ye a=true):yh a=a.2*(a.1-1):=by
 unfold yh;obtain⟨⟨h1,h2⟩,h3,h4⟩:=yk.1 h;have h5:0≤a.2*(a.1-1):=Int.mul_nonneg (by omega) (by omega);have h6:a.2*(a.1-1)≤8*4:=Int.mul_le_mul h4 (by omega) (by omega) (by omega);simp only[h,Bool.not_true,cond_false,wq (a.1-1) (by omega) (by omega),wq (a.2*(a.1-1)) (by omega) (by omega)]
def yx (l:List dW) (s:Int):Int:=yW (fun e:dW=>e.1==s) l
def ybQ (g:dG) (b:Int):Bool:=leb 0 b&&leb b (yh g-1)
def yD (g:dG) (b:Int):Int:=bif ybQ g b then b.tdiv (g.1-1)else -1
def ybr (g:dG) (b:Int):Int:=bif ybQ g b then b.tmod (g.1-1)else -1
theorem yjE {g:dG} {b:Int} (h:ybQ g b=true):ye g=true∧(0≤b.tdiv (g.1-1)∧b.tdiv (g.1-1)≤g.2-1)∧(0≤b.tmod (g.1-1)∧b.tmod (g.1-1)≤g.1-2):=by
 simp only[ybQ,Bool.and_eq_true,zj7]at h;cases hg:ye g
 ·have:yh g=0:=by unfold yh; rw[hg]; rfl
  omega
 ·rw[yvQ hg]at h
  have h2:=yk.1 hg;rw[Int.tdiv_eq_ediv_of_nonneg h.1,Int.tmod_eq_emod_of_nonneg h.1];have h3:=Int.ediv_lt_of_lt_mul (show 0<g.1-1 by omega) (show b<g.2*(g.1-1)by omega);have h4:=Int.ediv_nonneg h.1 (show 0≤g.1-1 by omega);have h5:=Int.emod_nonneg b (show g.1-1≠0 by omega);have h6:=Int.emod_lt_of_pos b (show 0<g.1-1 by omega);exact⟨rfl,⟨h4,by omega⟩,h5,by omega⟩
theorem ykT {g:dG} {b:Int} (h:ybQ g b=true):yX g (yD g b)=true:=by
 obtain⟨h1,h2,_⟩:=yjE h;unfold yD;rw[h,cond_true,yaq];exact⟨h1,h2⟩
def ybk (a:dA) (b:Int):Int:=bif !(yP a)then 1 else bif a.2.2.2.2.2.2.2.2.2.2.1 then 6 else bif ybQ a.2.1 b then 0 else 2
def yz (a:dA) (s:Int):List Int×Bool:=bif leb 0 (yx a.2.2.2.2.2.2.2.2.1 s)then((nth a.2.2.2.2.2.2.2.2.1 (yx a.2.2.2.2.2.2.2.2.1 s) (0,[])).2,true)else bif a.2.2.2.2.2.2.2.2.2.2.2 then([],false)else ynO a s
def ydm (a:dA) (b:Int):Int×Int:=bif ybk a b !=0 then(0,ybk a b)else bif(yz a (yD a.2.1 b)).2 then(nth (yz a (yD a.2.1 b)).1 (ybr a.2.1 b) 0,0)else(0,5)
theorem yU5 {a:dA} {b:Int} (h:ybk a b=0):yP a=true∧ybQ a.2.1 b=true∧a.2.2.2.2.2.2.2.2.2.2.1=false:=by
 unfold ybk at h;cases ha:yP a
 ·rw[ha]at h; exact absurd (show(1:Int)=0 from h) (by decide)
 ·rw[ha]at h
  cases hd:a.2.2.2.2.2.2.2.2.2.2.1
  ·rw[hd]at h
   cases hb:ybQ a.2.1 b
   ·rw[hb]at h; exact absurd (show(2:Int)=0 from h) (by decide)
   ·exact⟨rfl,rfl,rfl⟩
  ·rw[hd]at h; exact absurd (show(6:Int)=0 from h) (by decide)
theorem yZ4 {a:dA} (h:yP a=true) {i:Nat} (hi:i<a.2.2.2.2.2.2.2.2.1.length):(0≤(nth a.2.2.2.2.2.2.2.2.1 i (0,[])).1∧(nth a.2.2.2.2.2.2.2.2.1 i (0,[])).1≤a.2.1.2-1)∧((nth a.2.2.2.2.2.2.2.2.1 i (0,[])).2.length:Int)=a.2.1.1-1∧(nth a.2.2.2.2.2.2.2.2.1 i (0,[])).2.all isW=true∧(0<i→(nth a.2.2.2.2.2.2.2.2.1 ((i-1:Nat):Int) (0,[])).1<(nth a.2.2.2.2.2.2.2.2.1 i (0,[])).1):=by
 have h1:yaz a.2.1 a.2.2.2.2.2.2.2.2.1=true:=by simp only[yP,Bool.and_eq_true]at h; exact h.2.2.2.1
 simp only[yaz,Bool.not_eq_true',List.any_eq_false,List.mem_range]at h1;have h2:=h1 i hi;simp only[yg3,Bool.not_eq_true,Bool.or_eq_false_iff,Bool.not_eq_false',bne_eq_false_iff_eq,Bool.and_eq_true,Bool.and_eq_false_iff,decide_eq_false_iff_not,zj7]at h2;refine⟨h2.1,h2.2.1,h2.2.2.1,fun h0=> ?_⟩;rcases h2.2.2.2 with h3 | h3
 ·exact absurd h0 h3
 ·have:=mt zk2 (by rw[h3]; simp: ¬leb (nth a.2.2.2.2.2.2.2.2.1 i (0,[])).1 (nth a.2.2.2.2.2.2.2.2.1 ((i-1:Nat):Int) (0,[])).1=true)
  omega
theorem ykS {a:dA} {s:Int} (h:yP a=true) (hs:yX a.2.1 s=true) (h2:(yz a s).2=true):((yz a s).1.length:Int)=a.2.1.1-1:=by
 have hg:=yk.1 (yfU h);unfold yz at h2 ⊢;cases hk:leb 0 (yx a.2.2.2.2.2.2.2.2.1 s)
 ·rw[hk]at h2
  simp only[cond_false]at h2 ⊢;cases hb:a.2.2.2.2.2.2.2.2.2.2.2
  ·rw[hb]at h2
   simp only[cond_false]at h2 ⊢;unfold ynO at h2 ⊢;cases hw:(yJ a s).2
   ·rw[hw]at h2; cases h2
   ·simp only[cond_true,List.length_map,List.length_range]; omega
  ·rw[hb]at h2; cases h2
 ·have h3:=zj6.1 (yj4 (d:=((0,[]):dW)) hk).1
  have:=(yZ4 h (i:=(yx a.2.2.2.2.2.2.2.2.1 s).toNat) (by unfold yx; omega)).2.1;rw[show(((yx a.2.2.2.2.2.2.2.2.1 s).toNat:Nat):Int)=yx a.2.2.2.2.2.2.2.2.1 s by have:=zj7.1 hk; omega]at this;exact this
theorem yXB (g:dG) (b:Int):ya b 0 (i64.wrap (yh g-1))=ybQ g b:=by
 have:=yFq g;rw[wr (by omega) (by omega),ybR]; rfl
def yBj (a:dA):List Int:=bif(List.range (yh a.2.1).toNat).all (fun(b:Nat)=> !((ydm a b).2 !=0))then(List.range (yh a.2.1).toNat).map (fun(b:Nat)=>(ydm a b).1)else[]
theorem yEY (a:Int×Int):yg6 a=yh a:=by kernel_rfl
end
end Go.Tf
