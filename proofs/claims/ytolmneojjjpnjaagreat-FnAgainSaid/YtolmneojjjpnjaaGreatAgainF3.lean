/- Functions of the program, and what they come to. -/
import Derived.Test.YtolmneojjjpnjaaGreatAgainF2
namespace Go.Tf
noncomputable section
open Go.Proofs Go.Proofs.Tryz
set_option synthInstance.maxHeartbeats 400000
set_option synthInstance.maxSize 10000
set_option linter.unusedVariables false
set_option linter.unusedSimpArgs false
set_option maxRecDepth 100000
section
def ydT:Code:=(f76.body).getD .skip
def yhW:Env:=zj0 TT [] [(21056,.fz),(21120,.fz),(37952,(.pr .fz .fz)),(38016,(.pr .fz .fz))]
theorem yRd:FrOk prog ⟨yhW,60,fun _=>none⟩ ydT:=zj4 yc yd trivial
def yEP:Nat→Option Seg:=fun _=>none
def ycp:Shape:=⟨[(1,false,[.ptr 0 0]),(2,false,[.ptr 64 0]),(3,false,[.ptr 4544 0]),(4,false,[.int .i64])],[(0,[.br tL,.br tW,.bool,.br tI]),(64,[.nil,.nil,.bool,.nil]),(4544,[.at 800000001,.nil,.bool,.at 800000000])],[(800000001,tL,.fz),(800000000,tI,.fz)]⟩
def yhm:Shape:=⟨[(1,false,[.ptr 0 0]),(2,false,[.ptr 64 0]),(3,false,[.ptr 4544 0]),(4,false,[.ci .i64 0])],[(0,[.br tL,.br tW,.bool,.br tI]),(64,[.nil,.nil,.bool,.nil]),(4544,[.at 800000001,.nil,.bool,.at 800000000])],[(800000001,tL,.fz),(800000000,tI,.fz)]⟩
def yhb:Shape:=⟨[(1,false,[.ptr 0 0]),(2,false,[.ptr 64 0]),(3,false,[.ptr 4544 0])],[(0,[.br tL,.br tW,.bool,.br tI]),(64,[.nil,.nil,.bool,.nil]),(4544,[.at 800000000,.nil,.bool,.at 800000001])],[(800000000,tL,.fz),(800000001,tI,.fz)]⟩
def ymi:Shape:=⟨[],[],[]⟩
abbrev yso (v0:Int) (v1 v2 v3:dM):(ycp).X:=((((),()),((),()),((),()),(v0,()),()),((v1.1,v1.2.1,v1.2.2.1,v1.2.2.2,()),((),(),v2.2.2.1,(),()),((),(),v3.2.2.1,(),()),()),(v3.1,v3.2.2.2,()))
abbrev yOO (v0 v1 v2:dM):(yhm).X:=((((),()),((),()),((),()),((),()),()),((v0.1,v0.2.1,v0.2.2.1,v0.2.2.2,()),((),(),v1.2.2.1,(),()),((),(),v2.2.2.1,(),()),()),(v2.1,v2.2.2.2,()))
abbrev yBE (v0 v1 v2:dM):(yhb).X:=((((),()),((),()),((),()),()),((v0.1,v0.2.1,v0.2.2.1,v0.2.2.2,()),((),(),v1.2.2.1,(),()),((),(),v2.2.2.1,(),()),()),(v2.1,v2.2.2.2,()))
def ysH (v0:Int) (v1:List (List Int)) (v2:List dW) (v3:Bool) (v4:List Int) (v5 v6:Bool) (v7:List (List Int)) (v8:List Int):Option ((ycp).X ⊕ ((yhb).X ⊕ (ymi).X)) :=
 bif(ltb v0 (v1.length:Int))then
 bif(inb v0 v1.length)then
 bif(zjO ([]:List Int).length (nth v1 v0 []).length 8)then
 bif(zjO v7.length ([(([]:List Int)++(nth v1 v0 []))]:List (List Int)).length 24)then
 some (.inl ((((),()),((),()),((),()),((IntKind.i64.wrap (v0+1)),()),()),((v1,v2,v3,v4,()),((),(),v5,(),()),((),(),v6,(),()),()),((v7++([(([]:List Int)++(nth v1 v0 []))]:List (List Int))),v8,())))
 else none
 else none
 else none
 else
 some (.inr (.inl ((((),()),((),()),((),()),()),((v1,v2,v3,v4,()),((),(),v5,(),()),((),(),v6,(),()),()),(v7,v8,()))))
def ycT (x:(ycp).X):=ysH x.1.2.2.2.1.1 x.2.1.1.1 x.2.1.1.2.1 x.2.1.1.2.2.1 x.2.1.1.2.2.2.1 x.2.1.2.1.2.2.1 x.2.1.2.2.1.2.2.1 x.2.2.1 x.2.2.2.1
def yBm (x:(yhm).X):(ycp).X:=((((),()),((),()),((),()),(0,()),()),((x.2.1.1.1,x.2.1.1.2.1,x.2.1.1.2.2.1,x.2.1.1.2.2.2.1,()),((),(),x.2.1.2.1.2.2.1,(),()),((),(),x.2.1.2.2.1.2.2.1,(),()),()),(x.2.2.1,x.2.2.2.1,()))
def yCS:Code:=(zef ydT 64 116).getD .skip
theorem yQo:zef ydT 64 29=some (.block 0 (.loop yCS)):=by kernel_rfl
theorem yTi (x:(ycp).X):zg0 ⟨yhW,60,yEP⟩ 0 yCS 116 ycp yhb ymi x=ycT x:=by kernel_rfl
def yBx (x:(yhm).X):Nat:=18446744073709551616
def yt6 (x:(yhm).X):Option ((yhb).X ⊕ (ymi).X):=zz ycT (yBx x) (yBm x)
def yBN:Seg:=⟨yhm,yhb,ymi,yt6⟩
def yvk:Nat→Option Seg:=fun q=>bif Nat.beq q 29 then some yBN else yEP q
theorem yRe:FrOk prog ⟨yhW,60,yvk⟩ ydT:=(yRd).loop (sg:=yBN) ycp yBm (by decide) yQo ycT yBx (by decide) (fun _=>rfl) (fun x r _ h=>h) yTi
def ycq:Shape:=⟨[(1,false,[.ptr 0 0]),(2,false,[.ptr 64 0]),(3,false,[.ptr 4544 0]),(5,false,[.int .i64])],[(0,[.br tL,.br tW,.bool,.br tI]),(64,[.nil,.nil,.bool,.nil]),(4544,[.at 800000000,.at 800000002,.bool,.at 800000001])],[(800000000,tL,.fz),(800000002,tW,(.pr .fz .fz)),(800000001,tI,.fz)]⟩
def yhn:Shape:=⟨[(1,false,[.ptr 0 0]),(2,false,[.ptr 64 0]),(3,false,[.ptr 4544 0]),(5,false,[.ci .i64 0])],[(0,[.br tL,.br tW,.bool,.br tI]),(64,[.nil,.nil,.bool,.nil]),(4544,[.at 800000000,.at 800000002,.bool,.at 800000001])],[(800000000,tL,.fz),(800000002,tW,(.pr .fz .fz)),(800000001,tI,.fz)]⟩
def yhc:Shape:=⟨[(2,false,[.ptr 64 0]),(3,false,[.ptr 4544 0])],[(64,[.nil,.nil,.bool,.nil]),(4544,[.at 800000000,.at 800000001,.bool,.at 800000002])],[(800000000,tL,.fz),(800000001,tW,(.pr .fz .fz)),(800000002,tI,.fz)]⟩
def ymj:Shape:=⟨[],[],[]⟩
abbrev ysp (v0:Int) (v1 v2 v3:dM):(ycq).X:=((((),()),((),()),((),()),(v0,()),()),((v1.1,v1.2.1,v1.2.2.1,v1.2.2.2,()),((),(),v2.2.2.1,(),()),((),(),v3.2.2.1,(),()),()),(v3.1,v3.2.1,v3.2.2.2,()))
abbrev yOP (v0 v1 v2:dM):(yhn).X:=((((),()),((),()),((),()),((),()),()),((v0.1,v0.2.1,v0.2.2.1,v0.2.2.2,()),((),(),v1.2.2.1,(),()),((),(),v2.2.2.1,(),()),()),(v2.1,v2.2.1,v2.2.2.2,()))
abbrev yBF (v0 v1:dM):(yhc).X:=((((),()),((),()),()),(((),(),v0.2.2.1,(),()),((),(),v1.2.2.1,(),()),()),(v1.1,v1.2.1,v1.2.2.2,()))
def ysI (v0:Int) (v1:List (List Int)) (v2:List dW) (v3:Bool) (v4:List Int) (v5 v6:Bool) (v7:List (List Int)) (v8:List dW) (v9:List Int):Option ((ycq).X ⊕ ((yhc).X ⊕ (ymj).X)) :=
 bif(ltb v0 (v2.length:Int))then
 bif(inb v0 v2.length)then
 bif(inb v0 v2.length)then
 bif(zjO ([]:List Int).length ((nth v2 v0 (0,[])).2).length 8)then
 bif(zjO v8.length ([((nth v2 v0 (0,[])).1,(([]:List Int)++((nth v2 v0 (0,[])).2)))]:List dW).length 32)then
 some (.inl ((((),()),((),()),((),()),((IntKind.i64.wrap (v0+1)),()),()),((v1,v2,v3,v4,()),((),(),v5,(),()),((),(),v6,(),()),()),(v7,(v8++([((nth v2 v0 (0,[])).1,(([]:List Int)++((nth v2 v0 (0,[])).2)))]:List dW)),v9,())))
 else none
 else none
 else none
 else none
 else
 some (.inr (.inl ((((),()),((),()),()),(((),(),v5,(),()),((),(),v6,(),()),()),(v7,v8,v9,()))))
def ycU (x:(ycq).X):=ysI x.1.2.2.2.1.1 x.2.1.1.1 x.2.1.1.2.1 x.2.1.1.2.2.1 x.2.1.1.2.2.2.1 x.2.1.2.1.2.2.1 x.2.1.2.2.1.2.2.1 x.2.2.1 x.2.2.2.1 x.2.2.2.2.1
def yBn (x:(yhn).X):(ycq).X:=((((),()),((),()),((),()),(0,()),()),((x.2.1.1.1,x.2.1.1.2.1,x.2.1.1.2.2.1,x.2.1.1.2.2.2.1,()),((),(),x.2.1.2.1.2.2.1,(),()),((),(),x.2.1.2.2.1.2.2.1,(),()),()),(x.2.2.1,x.2.2.2.1,x.2.2.2.2.1,()))
def yCT:Code:=(zef ydT 64 244).getD .skip
theorem yQp:zef ydT 64 61=some (.block 2 (.loop yCT)):=by kernel_rfl
theorem yTj (x:(ycq).X):zg0 ⟨yhW,60,yvk⟩ 2 yCT 244 ycq yhc ymj x=ycU x:=by kernel_rfl
def yBy (x:(yhn).X):Nat:=18446744073709551616
def yt7 (x:(yhn).X):Option ((yhc).X ⊕ (ymj).X):=zz ycU (yBy x) (yBn x)
def yBO:Seg:=⟨yhn,yhc,ymj,yt7⟩
def yEQ:Nat→Option Seg:=fun q=>bif Nat.beq q 61 then some yBO else yvk q
theorem yRf:FrOk prog ⟨yhW,60,yEQ⟩ ydT:=(yRe).loop (sg:=yBO) ycq yBn (by decide) yQp ycU yBy (by decide) (fun _=>rfl) (fun x r _ h=>h) yTj
abbrev yh8:List Par:= [.rd tM]
abbrev ytF:List OT:= [⟨false,tM,(.pr (.ow .fz) (.pr (.ow (.pr .fz .fz)) (.pr .fz (.ow .fz))))⟩]
def ypz (a0:dM):Option (ResD ytF×MutD yh8) :=
 bif(zjO ([]:List Int).length a0.2.2.2.length 8)then
 zjW (yt6 ((((),()),((),()),((),()),((),()),()),((a0.1,a0.2.1,a0.2.2.1,a0.2.2.2,()),((),(),false,(),()),((),(),a0.2.2.1,(),()),()),([],(([]:List Int)++a0.2.2.2),()))) (fun y0 =>
 zjW (yt7 ((((),()),((),()),((),()),((),()),()),((y0.2.1.1.1,y0.2.1.1.2.1,y0.2.1.1.2.2.1,y0.2.1.1.2.2.2.1,()),((),(),y0.2.1.2.1.2.2.1,(),()),((),(),y0.2.1.2.2.1.2.2.1,(),()),()),(y0.2.2.1,[],y0.2.2.2.1,()))) (fun y1 =>
 some (((y1.2.2.1,y1.2.2.2.1,y1.2.1.2.1.2.2.1,y1.2.2.2.2.1),()),())) (fun y1 =>
 none)) (fun y0 =>
 none)
 else none
theorem y0X (x:InD yh8):zju ⟨yhW,60,yEQ⟩ f76.results.toList ydT yh8 ytF x=ypz x.1:=by kernel_rfl
theorem yWu:ConOk prog 76 ⟨yh8,ytF,fun x=>ypz x.1⟩:=zjZ (yRf) func76 (by kernel_rfl) (by kernel_rfl) ntmps76.symm (by decide) (fun x r h=>(y0X x).trans h)
def yaj (a0:dM):dM:=a0
theorem yYM (a0:dM) (hk:zi0 yh8 (a0,())):ypz a0=(fun n=>some ((n,()),())) (yaj a0):=by
 have hb1:a0.1.length*24≤2^47:=hk.1.1.1;have hb2:a0.2.1.length*32≤2^47:=hk.1.2.1.1;have hb3:a0.2.2.2.length*8≤2^47:=hk.1.2.2.2.1;have hs: ∀i,i<a0.1.length→(a0.1.getD i []).length*8≤2^47:=fun i hi=>by rw[zkb hi]; exact(hk.1.1.2 _ (List.getElem_mem hi)).1
 have hc: ∀i,i<a0.2.1.length→(a0.2.1.getD i (0,[])).2.length*8≤2^47:=fun i hi=>by rw[zkb hi]; exact(hk.1.2.1.2 _ (List.getElem_mem hi)).2.1
 have h1:yt6 (yOO a0 noMem ([],[],a0.2.2.1,a0.2.2.2))=some (.inl (yBE a0 noMem (a0.1,[],a0.2.2.1,a0.2.2.2))):=by
  have:=zj1 (step:=ycT) a0.1 [] (fun i s=>yso i a0 noMem (s,[],a0.2.2.1,a0.2.2.2)) (fun s x=>s++ [x]) (fun i s=>s.length=i) (fun s=> .inl (yBE a0 noMem (s,[],a0.2.2.1,a0.2.2.2))) (fun i s hi hs2=>⟨by
   have:=hs i hi;simp only[ycT,yso,ysH,zj2 (show(i:Int)<a0.1.length by omega),cond_true,wr (show -9223372036854775808≤(i:Int)+1 by omega) (by omega),Int.natCast_add,Int.natCast_one,Int.toNat_natCast,zkj hi,zkk,List.nil_append]
   rw[zj8.2 (show(([]:List Int).length+(a0.1.getD i []).length)*8≤140737488355328 by rw[List.length_nil]; omega),zj8.2 (show(s.length+ [a0.1.getD i []].length)*24≤140737488355328 by simp only[List.length_cons,List.length_nil]; omega)]; rfl,by simp[hs2]⟩) (fun s _=>by simp only[ycT,yso,ysH,zkv (Int.le_refl _),cond_false]) [] rfl 18446744073709551616 (by omega)
  rw[yyb]at this;exact this
 have h2:yt7 (yOP a0 noMem (a0.1,[],a0.2.2.1,a0.2.2.2))=some (.inl (yBF noMem a0)):=by
  have:=zj1 (step:=ycU) a0.2.1 (0,[]) (fun i s=>ysp i a0 noMem (a0.1,s,a0.2.2.1,a0.2.2.2)) (fun s x=>s++ [x]) (fun i s=>s.length=i) (fun s=> .inl (yBF noMem (a0.1,s,a0.2.2.1,a0.2.2.2))) (fun i s hi hs2=>⟨by
   have:=hc i hi;simp only[ycU,ysp,ysI,zj2 (show(i:Int)<a0.2.1.length by omega),cond_true,wr (show -9223372036854775808≤(i:Int)+1 by omega) (by omega),Int.natCast_add,Int.natCast_one,Int.toNat_natCast,zkj hi,zkk,List.nil_append,zkp]
   rw[zj8.2 (show(([]:List Int).length+(a0.2.1.getD i (0,[])).2.length)*8≤140737488355328 by rw[List.length_nil]; omega),zj8.2 (show(s.length+ [a0.2.1.getD i (0,[])].length)*32≤140737488355328 by simp only[List.length_cons,List.length_nil]; omega)]; rfl,by simp[hs2]⟩) (fun s _=>by simp only[ycU,ysp,ysI,zkv (Int.le_refl _),cond_false]) [] rfl 18446744073709551616 (by omega)
  rw[yyb]at this;exact this
 unfold ypz yaj;rw[zj8.2 (show(([]:List Int).length+a0.2.2.2.length)*8≤140737488355328 by rw[List.length_nil]; omega)];simp only[cond_true,List.nil_append,h1,zkf,h2]
def yjq:Con:=⟨yh8,ytF,fun x=>(fun n=>some ((n,()),())) (yaj x.1)⟩
theorem yrI:ConOk prog 76 yjq:=(yWu).mono (fun x r hk h=>(yYM x.1 hk).trans h)
end
section
def yKW:Code:=(f202.body).getD .skip
def yLb:Env:=zj0 TT [(200,yhA)] []
theorem yU5:FrOk prog ⟨yLb,10,fun _=>none⟩ yKW:=zj4 yc yd ⟨ypm,trivial⟩
def yXv:Nat→Option Seg:=fun _=>none
abbrev yp7:List Par:= [.rd tL]
abbrev yvY:List OT:= [⟨false,tB,.fz⟩]
def yyx (a0:List Int):Option (ResD yvY×MutD yp7) :=
 bif(leb (a0.length:Int) 12)then
 let r1:=yU a0
 some ((r1,()),())
 else
 some ((false,()),())
theorem y2k (x:InD yp7):zju ⟨yLb,10,yXv⟩ f202.results.toList yKW yp7 yvY x=yyx x.1:=by kernel_rfl
theorem yY9:ConOk prog 202 ⟨yp7,yvY,fun x=>yyx x.1⟩:=zjZ (yU5) func202 (by kernel_rfl) (by kernel_rfl) ntmps202.symm (by decide) (fun x r h=>(y2k x).trans h)
def yhE (a0:List Int):Bool :=
 bif(leb (a0.length:Int) 12)then
 let r1:=yU a0
 r1
 else
 false
def yx8:Con:=⟨yp7,yvY,fun x=>(fun n=>some ((n,()),())) (yhE x.1)⟩
theorem y1o (a0:List Int):yyx a0=(fun n=>some ((n,()),())) (yhE a0):=zkn (p:=fun(n:Bool)=>((n,()),())) (zj9 (p:=fun(n:Bool)=>((n,()),())) rfl rfl)
theorem yJ1:ConOk prog 202 yx8:=(yY9).mono (fun x r _ h=>(y1o x.1).trans h)
theorem yGz:yhE=yaa:=funext fun s=>by
 unfold yhE yaa yU;rw[show yai=isW from funext fun x=>by unfold yai; rw[ycf]; rfl]
 cases leb (s.length:Int) 12<;>rfl
end
section
def ya9:Code:=(f160.body).getD .skip
def yeQ:Env:=zj0 TT [(82,yw),(202,yx8)] []
theorem yU0:FrOk prog ⟨yeQ,91,fun _=>none⟩ ya9:=zj4 yc yd ⟨yD,yJ1,trivial⟩
def yGZ:Nat→Option Seg:=fun _=>none
def yda:Shape:=⟨[(1,false,[.ptr 0 0]),(3,false,[.int .i64]),(4,false,[.int .i64])],[(0,[.br tL,.br tW,.bool,.br tI])],[]⟩
def yiV:Shape:=⟨[(1,false,[.ptr 0 0]),(3,false,[.int .i64]),(4,false,[.ci .i64 0])],[(0,[.br tL,.br tW,.bool,.br tI])],[]⟩
def yiG:Shape:=⟨[(1,false,[.ptr 0 0]),(3,false,[.int .i64])],[(0,[.br tL,.br tW,.bool,.br tI])],[]⟩
def yjl:Shape:=⟨[(2,false,[.bool])],[],[]⟩
abbrev yup (v0 v1:Int) (v2:dM):(yda).X:=((((),()),(v0,()),(v1,()),()),((v2.1,v2.2.1,v2.2.2.1,v2.2.2.2,()),()),())
abbrev yRN (v0:Int) (v1:dM):(yiV).X:=((((),()),(v0,()),((),()),()),((v1.1,v1.2.1,v1.2.2.1,v1.2.2.2,()),()),())
abbrev yRD (v0:Int) (v1:dM):(yiG).X:=((((),()),(v0,()),()),((v1.1,v1.2.1,v1.2.2.1,v1.2.2.2,()),()),())
abbrev yR0 (v0:Bool):(yjl).X:=(((v0,()),()),(),())
def yuL (v0 v1:Int) (v2:List (List Int)) (v3:List dW) (v4:Bool) (v5:List Int):Option ((yda).X ⊕ ((yiG).X ⊕ (yjl).X)) :=
 bif(ltb v1 v0)then
 bif(inb v1 v2.length)then
 let r2:=yhE (nth v2 v1 [])
 bif(!r2)then
 some (.inr (.inr (((false,()),()),(),())))
 else
 some (.inl ((((),()),(v0,()),((IntKind.i64.wrap (v1+1)),()),()),((v2,v3,v4,v5,()),()),()))
 else none
 else
 some (.inr (.inl ((((),()),(v0,()),()),((v2,v3,v4,v5,()),()),())))
def ydK (x:(yda).X):=yuL x.1.2.1.1 x.1.2.2.1.1 x.2.1.1.1 x.2.1.1.2.1 x.2.1.1.2.2.1 x.2.1.1.2.2.2.1
def yDl (x:(yiV).X):(yda).X:=((((),()),(x.1.2.1.1,()),(0,()),()),((x.2.1.1.1,x.2.1.1.2.1,x.2.1.1.2.2.1,x.2.1.1.2.2.2.1,()),()),())
def yFs:Code:=(zef ya9 64 116).getD .skip
theorem yT3:zef ya9 64 29=some (.block 0 (.loop yFs)):=by kernel_rfl
theorem yW8 (x:(yda).X):zg0 ⟨yeQ,91,yGZ⟩ 0 yFs 116 yda yiG yjl x=ydK x:=by kernel_rfl
def yDB (x:(yiV).X):Nat:=18446744073709551616
def yvB (x:(yiV).X):Option ((yiG).X ⊕ (yjl).X):=zz ydK (yDB x) (yDl x)
def yEa:Seg:=⟨yiV,yiG,yjl,yvB⟩
def yxZ:Nat→Option Seg:=fun q=>bif Nat.beq q 29 then some yEa else yGZ q
theorem yU1:FrOk prog ⟨yeQ,91,yxZ⟩ ya9:=(yU0).loop (sg:=yEa) yda yDl (by decide) yT3 ydK yDB (by decide) (fun _=>rfl) (fun x r _ h=>h) yW8
def ydb:Shape:=⟨[(1,false,[.ptr 0 0]),(3,false,[.int .i64]),(5,false,[.int .i64])],[(0,[.br tL,.br tW,.bool,.br tI])],[]⟩
def yiW:Shape:=⟨[(1,false,[.ptr 0 0]),(3,false,[.int .i64]),(5,false,[.ci .i64 0])],[(0,[.br tL,.br tW,.bool,.br tI])],[]⟩
def yiH:Shape:=⟨[(1,false,[.ptr 0 0]),(3,false,[.int .i64])],[(0,[.br tL,.br tW,.bool,.br tI])],[]⟩
def yjm:Shape:=⟨[(2,false,[.bool])],[],[]⟩
abbrev yuq (v0 v1:Int) (v2:dM):(ydb).X:=((((),()),(v0,()),(v1,()),()),((v2.1,v2.2.1,v2.2.2.1,v2.2.2.2,()),()),())
abbrev yRO (v0:Int) (v1:dM):(yiW).X:=((((),()),(v0,()),((),()),()),((v1.1,v1.2.1,v1.2.2.1,v1.2.2.2,()),()),())
abbrev yRE (v0:Int) (v1:dM):(yiH).X:=((((),()),(v0,()),()),((v1.1,v1.2.1,v1.2.2.1,v1.2.2.2,()),()),())
abbrev yR1 (v0:Bool):(yjm).X:=(((v0,()),()),(),())
def yuM (v0 v1:Int) (v2:List (List Int)) (v3:List dW) (v4:Bool) (v5:List Int):Option ((ydb).X ⊕ ((yiH).X ⊕ (yjm).X)) :=
 bif(ltb v1 (v3.length:Int))then
 bif(inb v1 v3.length)then
 let r6:=ya ((nth v3 v1 (0,[])).1) 0 (IntKind.i64.wrap (v0-1))
 bif(!(!r6))then
 bif(inb v1 v3.length)then
 let r7:=yhE ((nth v3 v1 (0,[])).2)
 bif(!r7)then
 some (.inr (.inr (((false,()),()),(),())))
 else
 some (.inl ((((),()),(v0,()),((IntKind.i64.wrap (v1+1)),()),()),((v2,v3,v4,v5,()),()),()))
 else none
 else
 some (.inr (.inr (((false,()),()),(),())))
 else none
 else
 some (.inr (.inl ((((),()),(v0,()),()),((v2,v3,v4,v5,()),()),())))
def ydL (x:(ydb).X):=yuM x.1.2.1.1 x.1.2.2.1.1 x.2.1.1.1 x.2.1.1.2.1 x.2.1.1.2.2.1 x.2.1.1.2.2.2.1
def yDm (x:(yiW).X):(ydb).X:=((((),()),(x.1.2.1.1,()),(0,()),()),((x.2.1.1.1,x.2.1.1.2.1,x.2.1.1.2.2.1,x.2.1.1.2.2.2.1,()),()),())
def yFt:Code:=(zef ya9 64 244).getD .skip
theorem yT4:zef ya9 64 61=some (.block 2 (.loop yFt)):=by kernel_rfl
theorem yW9 (x:(ydb).X):zg0 ⟨yeQ,91,yxZ⟩ 2 yFt 244 ydb yiH yjm x=ydL x:=by kernel_rfl
def yDC (x:(yiW).X):Nat:=18446744073709551616
def yvC (x:(yiW).X):Option ((yiH).X ⊕ (yjm).X):=zz ydL (yDC x) (yDm x)
def yEb:Seg:=⟨yiW,yiH,yjm,yvC⟩
def yx0:Nat→Option Seg:=fun q=>bif Nat.beq q 61 then some yEb else yxZ q
theorem yU2:FrOk prog ⟨yeQ,91,yx0⟩ ya9:=(yU1).loop (sg:=yEb) ydb yDm (by decide) yT4 ydL yDC (by decide) (fun _=>rfl) (fun x r _ h=>h) yW9
def yco:Shape:=⟨[(1,false,[.ptr 0 0]),(3,false,[.int .i64]),(6,false,[.int .i64])],[(0,[.br tL,.br tW,.bool,.br tI])],[]⟩
def yhl:Shape:=⟨[(1,false,[.ptr 0 0]),(3,false,[.int .i64]),(6,false,[.ci .i64 0])],[(0,[.br tL,.br tW,.bool,.br tI])],[]⟩
def yha:Shape:=⟨[(1,false,[.ptr 0 0]),(3,false,[.int .i64])],[(0,[.br tL,.br tW,.bool,.br tI])],[]⟩
def yhx:Shape:=⟨[(2,false,[.bool])],[],[]⟩
abbrev ysn (v0 v1:Int) (v2:dM):(yco).X:=((((),()),(v0,()),(v1,()),()),((v2.1,v2.2.1,v2.2.2.1,v2.2.2.2,()),()),())
abbrev yON (v0:Int) (v1:dM):(yhl).X:=((((),()),(v0,()),((),()),()),((v1.1,v1.2.1,v1.2.2.1,v1.2.2.2,()),()),())
abbrev yOG (v0:Int) (v1:dM):(yha).X:=((((),()),(v0,()),()),((v1.1,v1.2.1,v1.2.2.1,v1.2.2.2,()),()),())
abbrev yOU (v0:Bool):(yhx).X:=(((v0,()),()),(),())
def ysG (v0 v1:Int) (v2:List (List Int)) (v3:List dW) (v4:Bool) (v5:List Int):Option ((yco).X ⊕ ((yha).X ⊕ (yhx).X)) :=
 bif(ltb v1 (v5.length:Int))then
 bif(inb v1 v5.length)then
 let r10:=ya (nth v5 v1 0) 0 (IntKind.i64.wrap (v0-1))
 bif(!(!r10))then
 bif(ltb 0 v1)then
 bif(inb (IntKind.i64.wrap (v1-1)) v5.length)then
 bif(inb v1 v5.length)then
 bif(leb (nth v5 v1 0) (nth v5 (IntKind.i64.wrap (v1-1)) 0))then
 some (.inr (.inr (((false,()),()),(),())))
 else
 some (.inl ((((),()),(v0,()),((IntKind.i64.wrap (v1+1)),()),()),((v2,v3,v4,v5,()),()),()))
 else none
 else none
 else
 some (.inl ((((),()),(v0,()),((IntKind.i64.wrap (v1+1)),()),()),((v2,v3,v4,v5,()),()),()))
 else
 some (.inr (.inr (((false,()),()),(),())))
 else none
 else
 some (.inr (.inl ((((),()),(v0,()),()),((v2,v3,v4,v5,()),()),())))
def ycS (x:(yco).X):=ysG x.1.2.1.1 x.1.2.2.1.1 x.2.1.1.1 x.2.1.1.2.1 x.2.1.1.2.2.1 x.2.1.1.2.2.2.1
def yBl (x:(yhl).X):(yco).X:=((((),()),(x.1.2.1.1,()),(0,()),()),((x.2.1.1.1,x.2.1.1.2.1,x.2.1.1.2.2.1,x.2.1.1.2.2.2.1,()),()),())
def yCR:Code:=(zef ya9 64 500).getD .skip
theorem yQn:zef ya9 64 125=some (.block 4 (.loop yCR)):=by kernel_rfl
theorem yTh (x:(yco).X):zg0 ⟨yeQ,91,yx0⟩ 4 yCR 500 yco yha yhx x=ycS x:=by kernel_rfl
def yBw (x:(yhl).X):Nat:=18446744073709551616
def yt5 (x:(yhl).X):Option ((yha).X ⊕ (yhx).X):=zz ycS (yBw x) (yBl x)
def yBM:Seg:=⟨yhl,yha,yhx,yt5⟩
def yG0:Nat→Option Seg:=fun q=>bif Nat.beq q 125 then some yBM else yx0 q
theorem yU3:FrOk prog ⟨yeQ,91,yG0⟩ ya9:=(yU2).loop (sg:=yBM) yco yBl (by decide) yQn ycS yBw (by decide) (fun _=>rfl) (fun x r _ h=>h) yTh
abbrev yk1:List Par:= [.rd tM]
abbrev yvW:List OT:= [⟨false,tB,.fz⟩]
def yrR (a0:dM):Option (ResD yvW×MutD yk1) :=
 zjW (yvB ((((),()),((a0.1.length:Int),()),((),()),()),((a0.1,a0.2.1,a0.2.2.1,a0.2.2.2,()),()),())) (fun y2 =>
 zjW (yvC ((((),()),(y2.1.2.1.1,()),((),()),()),((y2.2.1.1.1,y2.2.1.1.2.1,y2.2.1.1.2.2.1,y2.2.1.1.2.2.2.1,()),()),())) (fun y7 =>
 zjW (yt5 ((((),()),(y7.1.2.1.1,()),((),()),()),((y7.2.1.1.1,y7.2.1.1.2.1,y7.2.1.1.2.2.1,y7.2.1.1.2.2.2.1,()),()),())) (fun y10 =>
 let r12:=ya y10.1.2.1.1 1 20
 bif r12 then
 some (((leb (y10.2.1.1.2.1.length:Int) 60),()),())
 else
 some ((false,()),())) (fun y10 =>
 some ((y10.1.1.1,()),()))) (fun y7 =>
 some ((y7.1.1.1,()),()))) (fun y2 =>
 some ((y2.1.1.1,()),()))
theorem y2i (x:InD yk1):zju ⟨yeQ,91,yG0⟩ f160.results.toList ya9 yk1 yvW x=yrR x.1:=by kernel_rfl
theorem yY7:ConOk prog 160 ⟨yk1,yvW,fun x=>yrR x.1⟩:=zjZ (yU3) func160 (by kernel_rfl) (by kernel_rfl) ntmps160.symm (by decide) (fun x r h=>(y2i x).trans h)
def yao (a0:dM):Bool:=memOk a0
theorem y1m (a0:dM) (hk:zi0 yk1 (a0,())):yrR a0=(fun n=>some ((n,()),())) (yao a0):=by
 have hb1:a0.1.length*24≤2^47:=hk.1.1.1;have hb2:a0.2.1.length*32≤2^47:=hk.1.2.1.1;have hb3:a0.2.2.2.length*8≤2^47:=hk.1.2.2.2.1
 have h1:yvB (yRN a0.1.length a0)=some (bif a0.1.all yaa then .inl (yRD a0.1.length a0)else .inr (yR0 false)) :=
  zjD (step:=ydK) a0.1 [] (fun i=>yup a0.1.length i a0) yaa _ _ (fun i hi=>by
   simp only[ydK,yup,yuL,zj2 (show(i:Int)<a0.1.length by omega),cond_true,wr (show -9223372036854775808≤(i:Int)+1 by omega) (by omega),Int.natCast_add,Int.natCast_one,Int.toNat_natCast,zkj hi,zkk,yGz]
   cases yaa (a0.1.getD i [])<;>rfl) (by simp only[ydK,yup,yuL,zkv (Int.le_refl _),cond_false]) _ (by show _<18446744073709551616; omega)
 have h2:yvC (yRO a0.1.length a0)=some (bif a0.2.1.all (yuT a0.1.length)then .inl (yRE a0.1.length a0)else .inr (yR1 false)) :=
  zjD (step:=ydL) a0.2.1 (0,[]) (fun i=>yuq a0.1.length i a0) (yuT a0.1.length) _ _ (fun i hi=>by
   simp only[ydL,yuq,yuM,zj2 (show(i:Int)<a0.2.1.length by omega),cond_true,wr (show -9223372036854775808≤(i:Int)+1 by omega) (by omega),Int.natCast_add,Int.natCast_one,Int.toNat_natCast,zkj hi,zkk,yGz,yqk (show a0.1.length≤1152921504606846976 by omega),yuT]
   cases inb (a0.2.1.getD i (0,[])).1 a0.1.length<;>cases yaa (a0.2.1.getD i (0,[])).2<;>rfl) (by simp only[ydL,yuq,yuM,zkv (Int.le_refl _),cond_false]) _ (by show _<18446744073709551616; omega)
 have h3:yt5 (yON a0.1.length a0)=some (bif(List.range a0.2.2.2.length).any (yFk a0.1.length a0.2.2.2)then .inr (yOU false)else .inl (yOG a0.1.length a0)) :=
  ziM (step:=ycS) (fun i=>ysn a0.1.length i a0) a0.2.2.2.length (yFk a0.1.length a0.2.2.2) _ _ (fun i hi=>by
   simp only[ycS,ysn,ysG,zj2 (show(i:Int)<a0.2.2.2.length by omega),cond_true,wr (show -9223372036854775808≤(i:Int)+1 by omega) (by omega),Int.natCast_add,Int.natCast_one,Int.toNat_natCast,zkj hi,zkk,yqk (show a0.1.length≤1152921504606846976 by omega),yFk];rcases Nat.eq_zero_or_pos i with rfl | h0
   ·cases inb (a0.2.2.2.getD 0 0) a0.1.length<;>rfl
   ·rw[show IntKind.i64.wrap ((i:Int)-1)=((i-1:Nat):Int)by rw[wr (by omega) (by omega)]; omega,zkj (show i-1<a0.2.2.2.length by omega),zkk,zj2 (show(0:Int)<i by omega),decide_eq_true h0]
    cases inb (a0.2.2.2.getD i 0) a0.1.length<;>cases leb (a0.2.2.2.getD i 0) (a0.2.2.2.getD (i-1) 0)<;>rfl) (by simp only[ycS,ysn,ysG,zkv (Int.le_refl _),cond_false]) _ (by show _<18446744073709551616; omega)
 unfold yrR yao memOk;rw[h1]
 cases a0.1.all yaa
 ·rfl
 simp only[cond_true,zkf,h2]
 cases a0.2.1.all (yuT a0.1.length)
 ·rfl
 simp only[cond_true,zkf,h3,yZT,ycf]
 cases yrs a0.1.length a0.2.2.2
 ·rfl
 simp only[Bool.not_true,cond_false,zkf]
 cases leb 1 (a0.1.length:Int)<;>cases leb (a0.1.length:Int) 20<;>rfl
def ygR:Con:=⟨yk1,yvW,fun x=>(fun n=>some ((n,()),())) (yao x.1)⟩
theorem ynS:ConOk prog 160 ygR:=(yY7).mono (fun x r hk h=>(y1m x.1 hk).trans h)
end
section
def yg0:Code:=(f245.body).getD .skip
def yl9:Env:=zj0 TT [] []
theorem yKn:FrOk prog ⟨yl9,28,fun _=>none⟩ yg0:=zj4 yc yd trivial
def yyS:Nat→Option Seg:=fun _=>none
def yaQ:Shape:=⟨[(0,false,[.br tI]),(1,false,[.int .i64]),(5,false,[.at 800000000]),(6,false,[.int .i64])],[],[(800000000,tI,.fz)]⟩
def yef:Shape:=⟨[(0,false,[.br tI]),(1,false,[.int .i64]),(5,false,[.at 800000000]),(6,false,[.ci .i64 0])],[],[(800000000,tI,.fz)]⟩
def yd9:Shape:=⟨[(5,false,[.at 800000000])],[],[(800000000,tI,.fz)]⟩
def yhQ:Shape:=⟨[],[],[]⟩
abbrev ymv (v0:List Int) (v1 v2:Int) (v3:List Int):(yaQ).X:=(((v0,()),(v1,()),((),()),(v2,()),()),(),(v3,()))
abbrev yIC (v0:List Int) (v1:Int) (v2:List Int):(yef).X:=(((v0,()),(v1,()),((),()),((),()),()),(),(v2,()))
abbrev yIw (v0:List Int):(yd9).X:=((((),()),()),(),(v0,()))
def ym1 (v0:List Int) (v1 v2:Int) (v3:List Int):Option ((yaQ).X ⊕ ((yd9).X ⊕ (yhQ).X)) :=
 bif(ltb v2 (v0.length:Int))then
 bif(inb v2 v0.length)then
 bif((nth v0 v2 0) !=v1)then
 bif(inb v2 v0.length)then
 bif(zjO v3.length ([(nth v0 v2 0)]:List Int).length 8)then
 some (.inl (((v0,()),(v1,()),((),()),((IntKind.i64.wrap (v2+1)),()),()),(),((v3++([(nth v0 v2 0)]:List Int)),())))
 else none
 else none
 else
 some (.inl (((v0,()),(v1,()),((),()),((IntKind.i64.wrap (v2+1)),()),()),(),(v3,())))
 else none
 else
 some (.inr (.inl ((((),()),()),(),(v3,()))))
def ya6 (x:(yaQ).X):=ym1 x.1.1.1 x.1.2.1.1 x.1.2.2.2.1.1 x.2.2.1
def ywq (x:(yef).X):(yaQ).X:=(((x.1.1.1,()),(x.1.2.1.1,()),((),()),(0,()),()),(),(x.2.2.1,()))
def yxo:Code:=(zef yg0 64 116).getD .skip
theorem yKe:zef yg0 64 29=some (.block 0 (.loop yxo)):=by kernel_rfl
theorem yKO (x:(yaQ).X):zg0 ⟨yl9,28,yyS⟩ 0 yxo 116 yaQ yd9 yhQ x=ya6 x:=by kernel_rfl
def ywy (x:(yef).X):Nat:=18446744073709551616
def yn6 (x:(yef).X):Option ((yd9).X ⊕ (yhQ).X):=zz ya6 (ywy x) (ywq x)
def yxc:Seg:=⟨yef,yd9,yhQ,yn6⟩
def yyT:Nat→Option Seg:=fun q=>bif Nat.beq q 29 then some yxc else yyS q
theorem yKo:FrOk prog ⟨yl9,28,yyT⟩ yg0:=(yKn).loop (sg:=yxc) yaQ ywq (by decide) yKe ya6 ywy (by decide) (fun _=>rfl) (fun x r _ h=>h) yKO
abbrev yeo:List Par:= [.rd tL,.rd tI]
abbrev ymf:List OT:= [⟨false,tL,(.ow .fz)⟩]
def yjO (a0:List Int) (a1:Int):Option (ResD ymf×MutD yeo) :=
 zjW (yn6 (((a0,()),(a1,()),((),()),((),()),()),(),(([]:List Int),()))) (fun y0 =>
 some ((y0.2.2.1,()),())) (fun y0 =>
 none)
theorem yQD (x:InD yeo):zju ⟨yl9,28,yyT⟩ f245.results.toList yg0 yeo ymf x=yjO x.1 x.2.1:=by kernel_rfl
theorem yML:ConOk prog 245 ⟨yeo,ymf,fun x=>yjO x.1 x.2.1⟩:=zjZ (yKo) func245 (by kernel_rfl) (by kernel_rfl) ntmps245.symm (by decide) (fun x r h=>(yQD x).trans h)
def yhG (a0:List Int) (a1:Int):List Int:=yIL a0 a1
theorem yLz {α:Type} (p:α→Bool): ∀(l:List α) (s:List α),l.foldl (fun s x=>bif p x then s++ [x]else s) s=s++l.filter p
 | [],s=>by simp
 | x::l,s=>by
  rw[List.foldl_cons,yLz p l,List.filter_cons]
  cases p x<;>simp
theorem yO1 (a0:List Int) (a1:Int) (hk:zi0 yeo (a0,a1,())):yjO a0 a1=(fun n=>some ((n,()),())) (yhG a0 a1):=by
 have hb:a0.length*8≤2^47:=hk.1.1
 have h1:=zj1 (step:=ya6) a0 0 (fun i s=>ymv a0 a1 i s) (fun s x=>bif x !=a1 then s++ [x]else s) (fun i s=>s.length≤i) (fun s=> .inl (yIw s)) (fun i s hi hs=>by
   constructor
   ·simp only[ya6,ymv,ym1,zj2 (show(i:Int)<a0.length by omega),cond_true,wr (show -9223372036854775808≤(i:Int)+1 by omega) (by omega),Int.natCast_add,Int.natCast_one,Int.toNat_natCast,zkj hi,zkk]
    rw[zj8.2 (show(s.length+ [a0.getD i 0].length)*8≤140737488355328 by simp only[List.length_cons,List.length_nil]; omega)]
    cases(a0.getD i 0 !=a1)<;>rfl
   ·cases(a0.getD i 0 !=a1)
    ·show s.length≤_; omega
    ·simp only[cond_true,List.length_append,List.length_cons,List.length_nil]; omega) (fun s _=>by simp only[ya6,ymv,ym1,zkv (Int.le_refl _),cond_false]) [] (Nat.le_refl _) 18446744073709551616 (by omega)
 unfold yjO yhG yIL;rw[show yn6 (yIC a0 a1 [])=_ from h1,yLz]; rfl
def yza:Con:=⟨yeo,ymf,fun x=>(fun n=>some ((n,()),())) (yhG x.1 x.2.1)⟩
theorem yPu:ConOk prog 245 yza:=(yML).mono (fun x r hk h=>(yO1 x.1 x.2.1 hk).trans h)
end
section
def yED:Code:=(f225.body).getD .skip
def yFf:Env:=zj0 TT [(76,yjq),(82,yw),(160,ygR),(202,yx8),(245,yza)] [(16832,(.pr .fz .fz))]
theorem yL3:FrOk prog ⟨yFf,55,fun _=>none⟩ yED:=zj4 yc yd ⟨yrI,yD,ynS,yJ1,yPu,trivial⟩
def yNC:Nat→Option Seg:=fun _=>none
abbrev yfz:List Par:= [.rd tM,.rd tI,.rd tL]
abbrev yoY:List OT:= [⟨false,tM,(.pr (.ow .fz) (.pr (.ow (.pr .fz .fz)) (.pr .fz (.ow .fz))))⟩,⟨false,tB,.fz⟩]
def ykz (a0:dM) (a1:Int) (a2:List Int):Option (ResD yoY×MutD yfz) :=
 let r1:=yaj a0
 let r2:=yao a0
 bif(!(!r2))then
 bif(!a0.2.2.1)then
 let r3:=ya a1 0 (IntKind.i64.wrap ((a0.1.length:Int)-1))
 bif(!(!r3))then
 let r4:=yhE a2
 bif(!(!r4))then
 bif(leb 60 (a0.2.1.length:Int))then
 some ((r1,false,()),())
 else
 bif(zjO ([]:List Int).length a2.length 8)then
 bif(zjO r1.2.1.length ([(a1,(([]:List Int)++a2))]:List dW).length 32)then
 let r5:=yhG a0.2.2.2 a1
 some (((r1.1,(r1.2.1++([(a1,(([]:List Int)++a2))]:List dW)),r1.2.2.1,r5),true,()),())
 else none
 else none
 else
 some ((r1,false,()),())
 else
 some ((r1,false,()),())
 else
 some ((r1,false,()),())
 else
 some ((r1,false,()),())
theorem yUB (x:InD yfz):zju ⟨yFf,55,yNC⟩ f225.results.toList yED yfz yoY x=ykz x.1 x.2.1 x.2.2.1:=by kernel_rfl
theorem yPm:ConOk prog 225 ⟨yfz,yoY,fun x=>ykz x.1 x.2.1 x.2.2.1⟩:=zjZ (yL3) func225 (by kernel_rfl) (by kernel_rfl) ntmps225.symm (by decide) (fun x r h=>(yUB x).trans h)
def yjD (a0:dM) (a1:Int) (a2:List Int):dM×Bool:=yE a0 a1 a2
theorem ySm (a0:dM) (a1:Int) (a2:List Int) (hk:zi0 yfz (a0,a1,a2,())):ykz a0 a1 a2=(fun n=>some ((n.1,n.2,()),())) (yjD a0 a1 a2):=by
 have hb1:a0.1.length*24≤2^47:=hk.1.1.1;have hb2:a2.length*8≤2^47:=hk.2.2.1.1;unfold ykz yjD yE yaR;simp only[yaj,yao,yqk (show a0.1.length≤1152921504606846976 by omega),yGz,yhG,List.nil_append]
 cases memOk a0
 ·rfl
 cases a0.2.2.1
 ·cases inb a1 a0.1.length
  ·rfl
  cases yaa a2
  ·rfl
  by_cases h:(a0.2.1.length:Int)<60
  ·rw[zj2 h,zkt h,zj8.2 (show(([]:List Int).length+a2.length)*8≤140737488355328 by rw[List.length_nil]; omega),zj8.2 (show(a0.2.1.length+ [(a1,a2)].length)*32≤140737488355328 by simp only[List.length_cons,List.length_nil]; omega)]; rfl
  ·rw[zkv (by omega),zku (by omega)]; rfl
 ·rfl
def yBd:Con:=⟨yfz,yoY,fun x=>(fun n=>some ((n.1,n.2,()),())) (yjD x.1 x.2.1 x.2.2.1)⟩
theorem yS5:ConOk prog 225 yBd:=(yPm).mono (fun x r hk h=>(ySm x.1 x.2.1 x.2.2.1 hk).trans h)
end
section
def yPM:Code:=(f228.body).getD .skip
def yPO:Env:=zj0 TT [] []
theorem yYh:FrOk prog ⟨yPO,31,fun _=>none⟩ yPM:=zj4 yc yd trivial
def y0u:Nat→Option Seg:=fun _=>none
abbrev ysQ:List Par:= [.pt tA (.pr .fz (.pr (.pr .fz .fz) (.pr (.ow (.pr (.ow .fz) (.pr (.ow (.pr .fz .fz)) (.pr .fz (.ow .fz))))) (.pr .fz (.pr .fz (.pr .fz (.pr .fz (.pr .fz (.pr (.ow (.pr .fz .fz)) (.pr .fz (.pr .fz .fz)))))))))))]
abbrev yyJ:List OT:= [⟨false,tB,.fz⟩]
def yAl (a0:dA):Option (ResD yyJ×MutD ysQ) :=
 bif a0.2.2.2.2.2.2.2.2.2.2.1 then
 some ((false,()),(a0,()))
 else
 bif(a0.2.2.2.2.2.2.2.2.2.1==0)then
 some ((false,()),((a0.1,a0.2.1,a0.2.2.1,a0.2.2.2.1,a0.2.2.2.2.1,a0.2.2.2.2.2.1,a0.2.2.2.2.2.2.1,a0.2.2.2.2.2.2.2.1,a0.2.2.2.2.2.2.2.2.1,(-1),true,a0.2.2.2.2.2.2.2.2.2.2.2),()))
 else
 bif(ltb 0 a0.2.2.2.2.2.2.2.2.2.1)then
 some ((true,()),((a0.1,a0.2.1,a0.2.2.1,a0.2.2.2.1,a0.2.2.2.2.1,a0.2.2.2.2.2.1,a0.2.2.2.2.2.2.1,a0.2.2.2.2.2.2.2.1,a0.2.2.2.2.2.2.2.2.1,(IntKind.i64.wrap (a0.2.2.2.2.2.2.2.2.2.1-1)),a0.2.2.2.2.2.2.2.2.2.2),()))
 else
 some ((true,()),(a0,()))
theorem y3c (x:InD ysQ):zju ⟨yPO,31,y0u⟩ f228.results.toList yPM ysQ yyJ x=yAl x.1:=by kernel_rfl
theorem y1A:ConOk prog 228 ⟨ysQ,yyJ,fun x=>yAl x.1⟩:=zjZ (yYh) func228 (by kernel_rfl) (by kernel_rfl) ntmps228.symm (by decide) (fun x r h=>(y3c x).trans h)
def ys2 (a0:dA):Bool×dA :=
 bif a0.2.2.2.2.2.2.2.2.2.2.1 then
 (false,a0)
 else
 bif(a0.2.2.2.2.2.2.2.2.2.1==0)then
 (false,(a0.1,a0.2.1,a0.2.2.1,a0.2.2.2.1,a0.2.2.2.2.1,a0.2.2.2.2.2.1,a0.2.2.2.2.2.2.1,a0.2.2.2.2.2.2.2.1,a0.2.2.2.2.2.2.2.2.1,(-1),true,a0.2.2.2.2.2.2.2.2.2.2.2))
 else
 bif(ltb 0 a0.2.2.2.2.2.2.2.2.2.1)then
 (true,(a0.1,a0.2.1,a0.2.2.1,a0.2.2.2.1,a0.2.2.2.2.1,a0.2.2.2.2.2.1,a0.2.2.2.2.2.2.1,a0.2.2.2.2.2.2.2.1,a0.2.2.2.2.2.2.2.2.1,(IntKind.i64.wrap (a0.2.2.2.2.2.2.2.2.2.1-1)),a0.2.2.2.2.2.2.2.2.2.2))
 else
 (true,a0)
def yz7:Con:=⟨ysQ,yyJ,fun x=>(fun n=>some ((n.1,()),(n.2,()))) (ys2 x.1)⟩
theorem y2O (a0:dA):yAl a0=(fun n=>some ((n.1,()),(n.2,()))) (ys2 a0):=zkn (p:=fun(n:Bool×dA)=>((n.1,()),(n.2,()))) (zj9 (p:=fun(n:Bool×dA)=>((n.1,()),(n.2,()))) rfl (zj9 (p:=fun(n:Bool×dA)=>((n.1,()),(n.2,()))) rfl (zj9 (p:=fun(n:Bool×dA)=>((n.1,()),(n.2,()))) rfl rfl)))
theorem yMP:ConOk prog 228 yz7:=(y1A).mono (fun x r _ h=>(y2O x.1).trans h)
theorem yXk (a:dA):ys2 a=opA a:=by kernel_rfl
end
section
def yKZ:Code:=(f206.body).getD .skip
def yLe:Env:=zj0 TT [(225,yBd),(228,yz7)] []
theorem yVe:FrOk prog ⟨yLe,43,fun _=>none⟩ yKZ:=zj4 yc yd ⟨yS5,yMP,trivial⟩
def yXy:Nat→Option Seg:=fun _=>none
abbrev yg2:List Par:= [.pt tA (.pr .fz (.pr (.pr .fz .fz) (.pr (.ow (.pr (.ow .fz) (.pr (.ow (.pr .fz .fz)) (.pr .fz (.ow .fz))))) (.pr .fz (.pr .fz (.pr .fz (.pr .fz (.pr .fz (.pr (.ow (.pr .fz .fz)) (.pr .fz (.pr .fz .fz))))))))))),.rd tI,.rd tI,.rd tL]
abbrev yqb:List OT:= []
def yrU (a0:dA) (a1 a2:Int) (a3:List Int):Option (ResD yqb×MutD yg2) :=
 bif(inb a1 a0.2.2.1.length)then
 bif(!((((nth a0.2.2.1 a1 ([],[],false,[])).2).2).1))then
 let r1:=ys2 a0
 bif(!r1.1)then
 some ((),(r1.2,()))
 else
 bif(inb a1 r1.2.2.2.1.length)then
 let r2:=yjD ((nth r1.2.2.2.1 a1 ([],[],false,[])).1,((nth r1.2.2.2.1 a1 ([],[],false,[])).2).1,(((nth r1.2.2.2.1 a1 ([],[],false,[])).2).2)) a2 a3
 bif(inb a1 r1.2.2.2.1.length)then
 some ((),((r1.2.1,r1.2.2.1,(r1.2.2.2.1.set (a1).toNat r2.1),r1.2.2.2.2),()))
 else none
 else none
 else
 some ((),(a0,()))
 else none
theorem y2q (x:InD yg2):zju ⟨yLe,43,yXy⟩ f206.results.toList yKZ yg2 yqb x=yrU x.1 x.2.1 x.2.2.1 x.2.2.2.1:=by kernel_rfl
theorem yZf:ConOk prog 206 ⟨yg2,yqb,fun x=>yrU x.1 x.2.1 x.2.2.1 x.2.2.2.1⟩:=zjZ (yVe) func206 (by kernel_rfl) (by kernel_rfl) ntmps206.symm (by decide) (fun x r h=>(y2q x).trans h)
def yqB (a0:dA) (a1 a2:Int) (a3:List Int):dA:=yaZ a0 a1 a2 a3
def yD0 (a0:dA) (a1 a2:Int) (a3:List Int):Bool:=inb a1 a0.2.2.1.length
theorem y1s (a0:dA) (a1 a2:Int) (a3:List Int) (hk:zi0 yg2 (a0,a1,a2,a3,())) (hq:yD0 a0 a1 a2 a3=true):yrU a0 a1 a2 a3=(fun n=>some ((),(n,()))) (yqB a0 a1 a2 a3):=by
 have hq:inb a1 a0.2.2.1.length=true:=hq;unfold yrU yqB yaZ setMem;simp only[yXk,yap,hq,zkp,yjD]
 cases(nth a0.2.2.1 a1 noMem).2.2.1<;>cases(opA a0).1<;>rfl
def yfe (a0:dA) (a1 a2:Int) (a3:List Int):Option (ResD yqb×MutD yg2):=bif yD0 a0 a1 a2 a3 then(fun n=>some ((),(n,()))) (yqB a0 a1 a2 a3)else none
theorem ynT (a0:dA) (a1 a2:Int) (a3:List Int) (h:yD0 a0 a1 a2 a3=true):yfe a0 a1 a2 a3=(fun n=>some ((),(n,()))) (yqB a0 a1 a2 a3):=by unfold yfe; rw[h]; rfl
def ylw:Con:=⟨yg2,yqb,fun x=>yfe x.1 x.2.1 x.2.2.1 x.2.2.2.1⟩
theorem ytT:ConOk prog 206 ylw:=(yZf).mono (fun x r hk h=>zkq h (fun hq=>y1s x.1 x.2.1 x.2.2.1 x.2.2.2.1 hk hq))
end
section
def yin:Code:=(f224.body).getD .skip
def yoB:Env:=zj0 TT [(76,yjq),(160,ygR)] [(32768,(.pr .fz .fz))]
theorem yLW:FrOk prog ⟨yoB,40,fun _=>none⟩ yin:=zj4 yc yd ⟨yrI,ynS,trivial⟩
def yAC:Nat→Option Seg:=fun _=>none
def ybg:Shape:=⟨[(2,false,[.ptr 64 0]),(3,false,[.ptr 4224 0]),(4,false,[.int .i64])],[(64,[.nil,.nil,.bool,.nil]),(4224,[.at 800000000,.at 800000001,.bool,.at 800000002])],[(800000000,tL,.fz),(800000001,tW,(.pr .fz .fz)),(800000002,tI,.fz)]⟩
def ye5:Shape:=⟨[(2,false,[.ptr 64 0]),(3,false,[.ptr 4224 0]),(4,false,[.ci .i64 0])],[(64,[.nil,.nil,.bool,.nil]),(4224,[.at 800000000,.at 800000001,.bool,.at 800000002])],[(800000000,tL,.fz),(800000001,tW,(.pr .fz .fz)),(800000002,tI,.fz)]⟩
def yeX:Shape:=⟨[(2,false,[.ptr 64 0]),(3,false,[.ptr 4224 0])],[(64,[.nil,.nil,.bool,.nil]),(4224,[.at 800000000,.at 800000001,.bool,.at 800000002])],[(800000000,tL,.fz),(800000001,tW,(.pr .fz .fz)),(800000002,tI,.fz)]⟩
def yjk:Shape:=⟨[],[],[]⟩
abbrev yoe (v0:Int) (v1 v2:dM):(ybg).X:=((((),()),((),()),(v0,()),()),(((),(),v1.2.2.1,(),()),((),(),v2.2.2.1,(),()),()),(v2.1,v2.2.1,v2.2.2.2,()))
abbrev yKx (v0 v1:dM):(ye5).X:=((((),()),((),()),((),()),()),(((),(),v0.2.2.1,(),()),((),(),v1.2.2.1,(),()),()),(v1.1,v1.2.1,v1.2.2.2,()))
abbrev yxN (v0 v1:dM):(yeX).X:=((((),()),((),()),()),(((),(),v0.2.2.1,(),()),((),(),v1.2.2.1,(),()),()),(v1.1,v1.2.1,v1.2.2.2,()))
def yot (v0:Int) (v1 v2:Bool) (v3:List (List Int)) (v4:List dW) (v5:List Int):Option ((ybg).X ⊕ ((yeX).X ⊕ (yjk).X)) :=
 bif(ltb v0 (v4.length:Int))then
 bif(inb v0 v4.length)then
 bif(inb v0 v4.length)then
 bif(inb ((nth v4 v0 (0,[])).1) v3.length)then
 let r4:=(v3.set ((nth v4 v0 (0,[])).1).toNat ((nth v4 v0 (0,[])).2))
 some (.inl ((((),()),((),()),((IntKind.i64.wrap (v0+1)),()),()),(((),(),v1,(),()),((),(),v2,(),()),()),(r4,v4,v5,())))
 else none
 else none
 else none
 else
 some (.inr (.inl ((((),()),((),()),()),(((),(),v1,(),()),((),(),v2,(),()),()),(v3,v4,v5,()))))
def ybw (x:(ybg).X):=yot x.1.2.2.1.1 x.2.1.1.2.2.1 x.2.1.2.1.2.2.1 x.2.2.1 x.2.2.2.1 x.2.2.2.2.1
def yxz (x:(ye5).X):(ybg).X:=((((),()),((),()),(0,()),()),(((),(),x.2.1.1.2.2.1,(),()),((),(),x.2.1.2.1.2.2.1,(),()),()),(x.2.2.1,x.2.2.2.1,x.2.2.2.2.1,()))
def yy4:Code:=(zef yin 64 244).getD .skip
theorem yLn:zef yin 64 61=some (.block 0 (.loop yy4)):=by kernel_rfl
theorem yM1 (x:(ybg).X):zg0 ⟨yoB,40,yAC⟩ 0 yy4 244 ybg yeX yjk x=ybw x:=by kernel_rfl
def yxI (x:(ye5).X):Nat:=18446744073709551616
def ypZ (x:(ye5).X):Option ((yeX).X ⊕ (yjk).X):=zz ybw (yxI x) (yxz x)
def yxV:Seg:=⟨ye5,yeX,yjk,ypZ⟩
def yAD:Nat→Option Seg:=fun q=>bif Nat.beq q 61 then some yxV else yAC q
theorem yLX:FrOk prog ⟨yoB,40,yAD⟩ yin:=(yLW).loop (sg:=yxV) ybg yxz (by decide) yLn ybw yxI (by decide) (fun _=>rfl) (fun x r _ h=>h) yM1
abbrev yfv:List Par:= [.rd tM]
abbrev yoT:List OT:= [⟨false,tM,(.pr (.ow .fz) (.pr (.ow (.pr .fz .fz)) (.pr .fz (.ow .fz))))⟩]
def ykv (a0:dM):Option (ResD yoT×MutD yfv) :=
 let r1:=yaj a0
 let r2:=yao a0
 bif(!(!r2))then
 bif a0.2.2.1 then
 some ((r1,()),())
 else
 zjW (ypZ ((((),()),((),()),((),()),()),(((),(),false,(),()),((),(),r1.2.2.1,(),()),()),(r1.1,r1.2.1,r1.2.2.2,()))) (fun y4 =>
 some (((y4.2.2.1,([]:List dW),y4.2.1.2.1.2.2.1,y4.2.2.2.2.1),()),())) (fun y4 =>
 none)
 else
 some ((r1,()),())
theorem yUw (x:InD yfv):zju ⟨yoB,40,yAD⟩ f224.results.toList yin yfv yoT x=ykv x.1:=by kernel_rfl
theorem yPh:ConOk prog 224 ⟨yfv,yoT,fun x=>ykv x.1⟩:=zjZ (yLX) func224 (by kernel_rfl) (by kernel_rfl) ntmps224.symm (by decide) (fun x r h=>(yUw x).trans h)
def yjB (a0:dM):dM:=ym a0
theorem ySh (a0:dM) (hk:zi0 yfv (a0,())):ykv a0=(fun n=>some ((n,()),())) (yjB a0):=by
 have hb2:a0.2.1.length*32≤2^47:=hk.1.2.1.1;unfold ykv yjB ym;simp only[yaj,yao]
 cases hm:memOk a0
 ·rfl
 have h1:ypZ (yKx noMem a0)=some (.inl (yxN noMem (ygS (fun _=>true) a0.2.1 a0.1,a0.2))) :=
  zj6 (step:=ybw) a0.2.1.length (fun i s=>yoe i noMem (s,a0.2)) (yfa (fun _=>true) a0.2.1) (fun i s=>s.length=a0.1.length) (fun s=> .inl (yxN noMem (s,a0.2))) (fun i s hi hs=>by
   have hw:=(yRy hm hi).1;refine⟨?_,ywC.trans hs⟩
   simp only[ybw,yoe,yot,zj2 (show(i:Int)<a0.2.1.length by omega),cond_true,wr (show -9223372036854775808≤(i:Int)+1 by omega) (by omega),Int.natCast_add,Int.natCast_one,Int.toNat_natCast,zkj hi,hs,hw,yfa]) (fun s hs=>by simp only[ybw,yoe,yot,zkv (Int.le_refl _),cond_false]) a0.1 rfl _ (by show _<18446744073709551616; omega)
 rw[h1]
 cases hf:a0.2.2.1
 ·exact congrArg (fun z=>some (((ygS (fun _=>true) a0.2.1 a0.1,([]:List dW),z,a0.2.2.2),()),())) hf
 ·rfl
def yBa:Con:=⟨yfv,yoT,fun x=>(fun n=>some ((n,()),())) (yjB x.1)⟩
theorem yS2:ConOk prog 224 yBa:=(yPh).mono (fun x r hk h=>(ySh x.1 hk).trans h)
end
section
def ynb:Code:=(f208.body).getD .skip
def ytd:Env:=zj0 TT [(224,yBa),(228,yz7)] []
theorem yRu:FrOk prog ⟨ytd,39,fun _=>none⟩ ynb:=zj4 yc yd ⟨yS2,yMP,trivial⟩
def yE1:Nat→Option Seg:=fun _=>none
def ydg:Shape:=⟨[(0,false,[.ptr 1000000000 0]),(2,false,[.int .i64])],[(1000000000,[.int .i64,.int .i64,.int .i64,.at 800000000,.int .i64,.int .i64,.int .i64,.int .i64,.int .i64,.at 800000001,.int .i64,.bool,.bool])],[(800000000,tM,(.pr (.ow .fz) (.pr (.ow (.pr .fz .fz)) (.pr .fz (.ow .fz))))),(800000001,tW,(.pr .fz .fz))]⟩
def yi1:Shape:=⟨[(0,false,[.ptr 1000000000 0]),(2,false,[.ci .i64 0])],[(1000000000,[.int .i64,.int .i64,.int .i64,.at 800000000,.int .i64,.int .i64,.int .i64,.int .i64,.int .i64,.at 800000001,.int .i64,.bool,.bool])],[(800000000,tM,(.pr (.ow .fz) (.pr (.ow (.pr .fz .fz)) (.pr .fz (.ow .fz))))),(800000001,tW,(.pr .fz .fz))]⟩
def yiM:Shape:=⟨[],[(1000000000,[.int .i64,.int .i64,.int .i64,.at 800000000,.int .i64,.int .i64,.int .i64,.int .i64,.int .i64,.at 800000001,.int .i64,.bool,.bool])],[(800000000,tM,(.pr (.ow .fz) (.pr (.ow (.pr .fz .fz)) (.pr .fz (.ow .fz))))),(800000001,tW,(.pr .fz .fz))]⟩
def yo6:Shape:=⟨[],[],[]⟩
abbrev yuv (v0:Int) (v1:dA):(ydg).X:=((((),()),(v0,()),()),((v1.1,v1.2.1.1,v1.2.1.2,(),v1.2.2.2.1,v1.2.2.2.2.1,v1.2.2.2.2.2.1,v1.2.2.2.2.2.2.1,v1.2.2.2.2.2.2.2.1,(),v1.2.2.2.2.2.2.2.2.2.1,v1.2.2.2.2.2.2.2.2.2.2.1,v1.2.2.2.2.2.2.2.2.2.2.2,()),()),(v1.2.2.1,v1.2.2.2.2.2.2.2.2.1,()))
abbrev yRT (v0:dA):(yi1).X:=((((),()),((),()),()),((v0.1,v0.2.1.1,v0.2.1.2,(),v0.2.2.2.1,v0.2.2.2.2.1,v0.2.2.2.2.2.1,v0.2.2.2.2.2.2.1,v0.2.2.2.2.2.2.2.1,(),v0.2.2.2.2.2.2.2.2.2.1,v0.2.2.2.2.2.2.2.2.2.2.1,v0.2.2.2.2.2.2.2.2.2.2.2,()),()),(v0.2.2.1,v0.2.2.2.2.2.2.2.2.1,()))
abbrev yDQ (v0:dA):(yiM).X:=((),((v0.1,v0.2.1.1,v0.2.1.2,(),v0.2.2.2.1,v0.2.2.2.2.1,v0.2.2.2.2.2.1,v0.2.2.2.2.2.2.1,v0.2.2.2.2.2.2.2.1,(),v0.2.2.2.2.2.2.2.2.2.1,v0.2.2.2.2.2.2.2.2.2.2.1,v0.2.2.2.2.2.2.2.2.2.2.2,()),()),(v0.2.2.1,v0.2.2.2.2.2.2.2.2.1,()))
def yuR (v0 v1 v2 v3 v4 v5 v6 v7 v8 v9:Int) (v10 v11:Bool) (v12:List dM) (v13:List dW):Option ((ydg).X ⊕ ((yiM).X ⊕ (yo6).X)) :=
 bif(ltb v0 (v12.length:Int))then
 bif(inb v0 v12.length)then
 bif(!((((nth v12 v0 ([],[],false,[])).2).2).1))then
 let r3:=ys2 (v1,(v2,v3),v12,v4,v5,v6,v7,v8,v13,v9,v10,v11)
 bif r3.1 then
 bif(inb v0 r3.2.2.2.1.length)then
 let r4:=yjB ((nth r3.2.2.2.1 v0 ([],[],false,[])).1,((nth r3.2.2.2.1 v0 ([],[],false,[])).2).1,(((nth r3.2.2.2.1 v0 ([],[],false,[])).2).2))
 bif(inb v0 r3.2.2.2.1.length)then
 some (.inl ((((),()),((IntKind.i64.wrap (v0+1)),()),()),((r3.2.1,r3.2.2.1.1,r3.2.2.1.2,(),r3.2.2.2.2.1,r3.2.2.2.2.2.1,r3.2.2.2.2.2.2.1,r3.2.2.2.2.2.2.2.1,r3.2.2.2.2.2.2.2.2.1,(),r3.2.2.2.2.2.2.2.2.2.2.1,r3.2.2.2.2.2.2.2.2.2.2.2.1,r3.2.2.2.2.2.2.2.2.2.2.2.2,()),()),((r3.2.2.2.1.set (v0).toNat r4),r3.2.2.2.2.2.2.2.2.2.1,())))
 else none
 else none
 else
 some (.inl ((((),()),((IntKind.i64.wrap (v0+1)),()),()),((r3.2.1,r3.2.2.1.1,r3.2.2.1.2,(),r3.2.2.2.2.1,r3.2.2.2.2.2.1,r3.2.2.2.2.2.2.1,r3.2.2.2.2.2.2.2.1,r3.2.2.2.2.2.2.2.2.1,(),r3.2.2.2.2.2.2.2.2.2.2.1,r3.2.2.2.2.2.2.2.2.2.2.2.1,r3.2.2.2.2.2.2.2.2.2.2.2.2,()),()),(r3.2.2.2.1,r3.2.2.2.2.2.2.2.2.2.1,())))
 else
 some (.inl ((((),()),((IntKind.i64.wrap (v0+1)),()),()),((v1,v2,v3,(),v4,v5,v6,v7,v8,(),v9,v10,v11,()),()),(v12,v13,())))
 else none
 else
 some (.inr (.inl ((),((v1,v2,v3,(),v4,v5,v6,v7,v8,(),v9,v10,v11,()),()),(v12,v13,()))))
def ydQ (x:(ydg).X):=yuR x.1.2.1.1 x.2.1.1.1 x.2.1.1.2.1 x.2.1.1.2.2.1 x.2.1.1.2.2.2.2.1 x.2.1.1.2.2.2.2.2.1 x.2.1.1.2.2.2.2.2.2.1 x.2.1.1.2.2.2.2.2.2.2.1 x.2.1.1.2.2.2.2.2.2.2.2.1 x.2.1.1.2.2.2.2.2.2.2.2.2.2.1 x.2.1.1.2.2.2.2.2.2.2.2.2.2.2.1 x.2.1.1.2.2.2.2.2.2.2.2.2.2.2.2.1 x.2.2.1 x.2.2.2.1
def yDs (x:(yi1).X):(ydg).X:=((((),()),(0,()),()),((x.2.1.1.1,x.2.1.1.2.1,x.2.1.1.2.2.1,(),x.2.1.1.2.2.2.2.1,x.2.1.1.2.2.2.2.2.1,x.2.1.1.2.2.2.2.2.2.1,x.2.1.1.2.2.2.2.2.2.2.1,x.2.1.1.2.2.2.2.2.2.2.2.1,(),x.2.1.1.2.2.2.2.2.2.2.2.2.2.1,x.2.1.1.2.2.2.2.2.2.2.2.2.2.2.1,x.2.1.1.2.2.2.2.2.2.2.2.2.2.2.2.1,()),()),(x.2.2.1,x.2.2.2.1,()))
def yFz:Code:=(zef ynb 64 12).getD .skip
theorem yUa:zef ynb 64 3=some (.block 0 (.loop yFz)):=by kernel_rfl
theorem yXf (x:(ydg).X):zg0 ⟨ytd,39,yE1⟩ 0 yFz 12 ydg yiM yo6 x=ydQ x:=by kernel_rfl
def yDI (x:(yi1).X):Nat:=18446744073709551616
def yvI (x:(yi1).X):Option ((yiM).X ⊕ (yo6).X):=zz ydQ (yDI x) (yDs x)
def yEh:Seg:=⟨yi1,yiM,yo6,yvI⟩
def yE2:Nat→Option Seg:=fun q=>bif Nat.beq q 3 then some yEh else yE1 q
theorem yRv:FrOk prog ⟨ytd,39,yE2⟩ ynb:=(yRu).loop (sg:=yEh) ydg yDs (by decide) yUa ydQ yDI (by decide) (fun _=>rfl) (fun x r _ h=>h) yXf
abbrev yib:List Par:= [.pt tA (.pr .fz (.pr (.pr .fz .fz) (.pr (.ow (.pr (.ow .fz) (.pr (.ow (.pr .fz .fz)) (.pr .fz (.ow .fz))))) (.pr .fz (.pr .fz (.pr .fz (.pr .fz (.pr .fz (.pr (.ow (.pr .fz .fz)) (.pr .fz (.pr .fz .fz)))))))))))]
abbrev ytL:List OT:= []
def ypF (a0:dA):Option (ResD ytL×MutD yib) :=
 zjW (yvI ((((),()),((),()),()),((a0.1,a0.2.1.1,a0.2.1.2,(),a0.2.2.2.1,a0.2.2.2.2.1,a0.2.2.2.2.2.1,a0.2.2.2.2.2.2.1,a0.2.2.2.2.2.2.2.1,(),a0.2.2.2.2.2.2.2.2.2.1,a0.2.2.2.2.2.2.2.2.2.2.1,a0.2.2.2.2.2.2.2.2.2.2.2,()),()),(a0.2.2.1,a0.2.2.2.2.2.2.2.2.1,()))) (fun y4 =>
 some ((),((y4.2.1.1.1,(y4.2.1.1.2.1,y4.2.1.1.2.2.1),y4.2.2.1,y4.2.1.1.2.2.2.2.1,y4.2.1.1.2.2.2.2.2.1,y4.2.1.1.2.2.2.2.2.2.1,y4.2.1.1.2.2.2.2.2.2.2.1,y4.2.1.1.2.2.2.2.2.2.2.2.1,y4.2.2.2.1,y4.2.1.1.2.2.2.2.2.2.2.2.2.2.1,y4.2.1.1.2.2.2.2.2.2.2.2.2.2.2.1,y4.2.1.1.2.2.2.2.2.2.2.2.2.2.2.2.1),()))) (fun y4 =>
 none)
theorem y07 (x:InD yib):zju ⟨ytd,39,yE2⟩ f208.results.toList ynb yib ytL x=ypF x.1:=by kernel_rfl
theorem yWE:ConOk prog 208 ⟨yib,ytL,fun x=>ypF x.1⟩:=zjZ (yRv) func208 (by kernel_rfl) (by kernel_rfl) ntmps208.symm (by decide) (fun x r h=>(y07 x).trans h)
def ydY (a0:dA):dA:=yb a0
theorem yYU (a0:dA) (hk:zi0 yib (a0,())):ypF a0=(fun n=>some ((),(n,()))) (ydY a0):=by
 have hb:a0.2.2.1.length*80≤2^47:=hk.1.2.2.1.1
 have h1:yvI (yRT a0)=some (.inl (yDQ (yb a0))) :=
  zj6 (step:=ydQ) a0.2.2.1.length (fun i s=>yuv i s) yF (fun _ s=>s.2.2.1.length=a0.2.2.1.length) (fun s=> .inl (yDQ s)) (fun i s hi hs=>⟨by
   simp only[ydQ,yuv,yuR,hs,zj2 (show(i:Int)<a0.2.2.1.length by omega),cond_true,wr (show -9223372036854775808≤(i:Int)+1 by omega) (by omega),Int.natCast_add,Int.natCast_one,Int.toNat_natCast,zkj hi,zkp,yXk,yap,yjB,yF,setMem]
   cases(nth s.2.2.1 i noMem).2.2.1<;>cases(opA s).1<;>simp only[cond_true,cond_false,Bool.not_true,Bool.not_false,yap,Int.toNat_natCast],(yn0 s i).trans hs⟩) (fun s hs=>by simp only[ydQ,yuv,yuR,hs,zkv (Int.le_refl _),cond_false]) a0 rfl _ (by show _<18446744073709551616; omega)
 unfold ypF ydY;rw[h1]; rfl
def ypf:Con:=⟨yib,ytL,fun x=>(fun n=>some ((),(n,()))) (ydY x.1)⟩
theorem yyl:ConOk prog 208 ypf:=(yWE).mono (fun x r hk h=>(yYU x.1 hk).trans h)
end
section
def yna:Code:=(f174.body).getD .skip
def ytc:Env:=zj0 TT [(144,ysi),(206,ylw),(208,ypf)] []
theorem yRs:FrOk prog ⟨ytc,63,fun _=>none⟩ yna:=zj4 yc yd ⟨yDY,ytT,yyl,trivial⟩
def yEZ:Nat→Option Seg:=fun _=>none
def ycu:Shape:=⟨[(0,false,[.ptr 1000000000 0]),(2,false,[.int .i64])],[(1000000000,[.int .i64,.int .i64,.int .i64,.at 800000000,.int .i64,.int .i64,.int .i64,.int .i64,.int .i64,.at 800000001,.int .i64,.bool,.bool])],[(800000000,tM,(.pr (.ow .fz) (.pr (.ow (.pr .fz .fz)) (.pr .fz (.ow .fz))))),(800000001,tW,(.pr .fz .fz))]⟩
def yhr:Shape:=⟨[(0,false,[.ptr 1000000000 0]),(2,false,[.ci .i64 0])],[(1000000000,[.int .i64,.int .i64,.int .i64,.at 800000000,.int .i64,.int .i64,.int .i64,.int .i64,.int .i64,.at 800000001,.int .i64,.bool,.bool])],[(800000000,tM,(.pr (.ow .fz) (.pr (.ow (.pr .fz .fz)) (.pr .fz (.ow .fz))))),(800000001,tW,(.pr .fz .fz))]⟩
def yhg:Shape:=⟨[(0,false,[.ptr 1000000000 0])],[(1000000000,[.int .i64,.int .i64,.int .i64,.at 800000000,.int .i64,.int .i64,.int .i64,.int .i64,.int .i64,.at 800000001,.int .i64,.bool,.bool])],[(800000000,tM,(.pr (.ow .fz) (.pr (.ow (.pr .fz .fz)) (.pr .fz (.ow .fz))))),(800000001,tW,(.pr .fz .fz))]⟩
def ymm:Shape:=⟨[],[],[]⟩
abbrev yss (v0:Int) (v1:dA):(ycu).X:=((((),()),(v0,()),()),((v1.1,v1.2.1.1,v1.2.1.2,(),v1.2.2.2.1,v1.2.2.2.2.1,v1.2.2.2.2.2.1,v1.2.2.2.2.2.2.1,v1.2.2.2.2.2.2.2.1,(),v1.2.2.2.2.2.2.2.2.2.1,v1.2.2.2.2.2.2.2.2.2.2.1,v1.2.2.2.2.2.2.2.2.2.2.2,()),()),(v1.2.2.1,v1.2.2.2.2.2.2.2.2.1,()))
abbrev yOS (v0:dA):(yhr).X:=((((),()),((),()),()),((v0.1,v0.2.1.1,v0.2.1.2,(),v0.2.2.2.1,v0.2.2.2.2.1,v0.2.2.2.2.2.1,v0.2.2.2.2.2.2.1,v0.2.2.2.2.2.2.2.1,(),v0.2.2.2.2.2.2.2.2.2.1,v0.2.2.2.2.2.2.2.2.2.2.1,v0.2.2.2.2.2.2.2.2.2.2.2,()),()),(v0.2.2.1,v0.2.2.2.2.2.2.2.2.1,()))
abbrev yBG (v0:dA):(yhg).X:=((((),()),()),((v0.1,v0.2.1.1,v0.2.1.2,(),v0.2.2.2.1,v0.2.2.2.2.1,v0.2.2.2.2.2.1,v0.2.2.2.2.2.2.1,v0.2.2.2.2.2.2.2.1,(),v0.2.2.2.2.2.2.2.2.2.1,v0.2.2.2.2.2.2.2.2.2.2.1,v0.2.2.2.2.2.2.2.2.2.2.2,()),()),(v0.2.2.1,v0.2.2.2.2.2.2.2.2.1,()))
def ysL (v0 v1 v2 v3 v4 v5 v6 v7 v8 v9:Int) (v10 v11:Bool) (v12:List dM) (v13:List dW):Option ((ycu).X ⊕ ((yhg).X ⊕ (ymm).X)) :=
 bif(ltb v0 (v12.length:Int))then
 let r3:=n_spec_PutSuper (v1,v8,v0,v2,v3,v7,v4,v5)
 bnd (yfe (v1,(v2,v3),v12,v4,v5,v6,v7,v8,v13,v9,v10,v11) v0 (v8.tmod 2) r3) fun r4 =>
 some (.inl ((((),()),((IntKind.i64.wrap (v0+1)),()),()),((r4.2.1.1,r4.2.1.2.1.1,r4.2.1.2.1.2,(),r4.2.1.2.2.2.1,r4.2.1.2.2.2.2.1,r4.2.1.2.2.2.2.2.1,r4.2.1.2.2.2.2.2.2.1,r4.2.1.2.2.2.2.2.2.2.1,(),r4.2.1.2.2.2.2.2.2.2.2.2.1,r4.2.1.2.2.2.2.2.2.2.2.2.2.1,r4.2.1.2.2.2.2.2.2.2.2.2.2.2,()),()),(r4.2.1.2.2.1,r4.2.1.2.2.2.2.2.2.2.2.1,())))
 else
 some (.inr (.inl ((((),()),()),((v1,v2,v3,(),v4,v5,v6,v7,v8,(),v9,v10,v11,()),()),(v12,v13,()))))
def ycX (x:(ycu).X):=ysL x.1.2.1.1 x.2.1.1.1 x.2.1.1.2.1 x.2.1.1.2.2.1 x.2.1.1.2.2.2.2.1 x.2.1.1.2.2.2.2.2.1 x.2.1.1.2.2.2.2.2.2.1 x.2.1.1.2.2.2.2.2.2.2.1 x.2.1.1.2.2.2.2.2.2.2.2.1 x.2.1.1.2.2.2.2.2.2.2.2.2.2.1 x.2.1.1.2.2.2.2.2.2.2.2.2.2.2.1 x.2.1.1.2.2.2.2.2.2.2.2.2.2.2.2.1 x.2.2.1 x.2.2.2.1
def yBr (x:(yhr).X):(ycu).X:=((((),()),(0,()),()),((x.2.1.1.1,x.2.1.1.2.1,x.2.1.1.2.2.1,(),x.2.1.1.2.2.2.2.1,x.2.1.1.2.2.2.2.2.1,x.2.1.1.2.2.2.2.2.2.1,x.2.1.1.2.2.2.2.2.2.2.1,x.2.1.1.2.2.2.2.2.2.2.2.1,(),x.2.1.1.2.2.2.2.2.2.2.2.2.2.1,x.2.1.1.2.2.2.2.2.2.2.2.2.2.2.1,x.2.1.1.2.2.2.2.2.2.2.2.2.2.2.2.1,()),()),(x.2.2.1,x.2.2.2.1,()))
def yCX:Code:=(zef yna 64 52).getD .skip
theorem yQt:zef yna 64 13=some (.block 0 (.loop yCX)):=by kernel_rfl
theorem yTn (x:(ycu).X):zg0 ⟨ytc,63,yEZ⟩ 0 yCX 52 ycu yhg ymm x=ycX x:=by kernel_rfl
def yBC (x:(yhr).X):Nat:=18446744073709551616
def yua (x:(yhr).X):Option ((yhg).X ⊕ (ymm).X):=zz ycX (yBC x) (yBr x)
def yBS:Seg:=⟨yhr,yhg,ymm,yua⟩
def yE0:Nat→Option Seg:=fun q=>bif Nat.beq q 13 then some yBS else yEZ q
theorem yRt:FrOk prog ⟨ytc,63,yE0⟩ yna:=(yRs).loop (sg:=yBS) ycu yBr (by decide) yQt ycX yBC (by decide) (fun _=>rfl) (fun x r _ h=>h) yTn
abbrev yia:List Par:= [.pt tA (.pr .fz (.pr (.pr .fz .fz) (.pr (.ow (.pr (.ow .fz) (.pr (.ow (.pr .fz .fz)) (.pr .fz (.ow .fz))))) (.pr .fz (.pr .fz (.pr .fz (.pr .fz (.pr .fz (.pr (.ow (.pr .fz .fz)) (.pr .fz (.pr .fz .fz)))))))))))]
abbrev ytK:List OT:= []
def ypE (a0:dA):Option (ResD ytK×MutD yia) :=
 zjW (yua ((((),()),((),()),()),((a0.1,a0.2.1.1,a0.2.1.2,(),a0.2.2.2.1,a0.2.2.2.2.1,a0.2.2.2.2.2.1,a0.2.2.2.2.2.2.1,(IntKind.i64.wrap (a0.2.2.2.2.2.2.2.1+1)),(),a0.2.2.2.2.2.2.2.2.2.1,a0.2.2.2.2.2.2.2.2.2.2.1,a0.2.2.2.2.2.2.2.2.2.2.2,()),()),(a0.2.2.1,a0.2.2.2.2.2.2.2.2.1,()))) (fun y4 =>
 let r6:=ydY (y4.2.1.1.1,(y4.2.1.1.2.1,y4.2.1.1.2.2.1),y4.2.2.1,y4.2.1.1.2.2.2.2.1,y4.2.1.1.2.2.2.2.2.1,y4.2.1.1.2.2.2.2.2.2.1,y4.2.1.1.2.2.2.2.2.2.2.1,y4.2.1.1.2.2.2.2.2.2.2.2.1,y4.2.2.2.1,y4.2.1.1.2.2.2.2.2.2.2.2.2.2.1,y4.2.1.1.2.2.2.2.2.2.2.2.2.2.2.1,y4.2.1.1.2.2.2.2.2.2.2.2.2.2.2.2.1)
 some ((),(r6,()))) (fun y4 =>
 none)
theorem y06 (x:InD yia):zju ⟨ytc,63,yE0⟩ f174.results.toList yna yia ytK x=ypE x.1:=by kernel_rfl
theorem yWD:ConOk prog 174 ⟨yia,ytK,fun x=>ypE x.1⟩:=zjZ (yRt) func174 (by kernel_rfl) (by kernel_rfl) ntmps174.symm (by decide) (fun x r h=>(y06 x).trans h)
def yaE (a0:dA):dA:=markA a0
theorem yPW (a:dA) (i:Nat):(yH a i).2.2.1.length=a.2.2.1.length:=yrJ _ _ _ _
theorem yYT (a0:dA) (hk:zi0 yia (a0,())):ypE a0=(fun n=>some ((),(n,()))) (yaE a0):=by
 have hb:a0.2.2.1.length*80≤2^47:=hk.1.2.2.1.1
 have h1:yua (yOS (yW a0))=some (.inl (yBG ((List.range a0.2.2.1.length).foldl yH (yW a0)))) :=
  zj6 (step:=ycX) a0.2.2.1.length (fun i s=>yss i s) yH (fun _ s=>s.2.2.1.length=a0.2.2.1.length) (fun s=> .inl (yBG s)) (fun i s hi hs=>⟨by
   simp only[ycX,yss,ysL,hs,zj2 (show(i:Int)<a0.2.2.1.length by omega),cond_true,wr (show -9223372036854775808≤(i:Int)+1 by omega) (by omega),Int.natCast_add,Int.natCast_one,Int.toNat_natCast,zkp];rw[ynT s i (s.2.2.2.2.2.2.2.1.tmod 2) (n_spec_PutSuper (s.1,s.2.2.2.2.2.2.2.1,(i:Int),s.2.1.1,s.2.1.2,s.2.2.2.2.2.2.1,s.2.2.2.1,s.2.2.2.2.1)) (zkj (by rw[hs]; exact hi))]
   rfl,(yPW s i).trans hs⟩) (fun s hs=>by simp only[ycX,yss,ysL,hs,zkv (Int.le_refl _),cond_false]) (yW a0) rfl _ (by show _<18446744073709551616; omega)
 unfold ypE yaE markA;exact(congrArg (fun z=>zjW z _ _) h1).trans rfl
def ype:Con:=⟨yia,ytK,fun x=>(fun n=>some ((),(n,()))) (yaE x.1)⟩
theorem yyk:ConOk prog 174 ype:=(yWD).mono (fun x r hk h=>(yYT x.1 hk).trans h)
end
section
def yii:Code:=(f107.body).getD .skip
def yow:Env:=zj0 TT [(139,yjp),(165,ykd),(172,yA4),(173,yC4)] []
theorem yLA:FrOk prog ⟨yow,37,fun _=>none⟩ yii:=zj4 yc yd ⟨ysv,yux,ySW,yWL,trivial⟩
def yAq:Nat→Option Seg:=fun _=>none
def yba:Shape:=⟨[(0,false,[.ptr 1000000000 0]),(15,false,[.int .i64]),(16,false,[.int .i64])],[(1000000000,[.int .i64,.int .i64,.int .i64,.at 800000000,.int .i64,.int .i64,.int .i64,.int .i64,.int .i64,.at 800000001,.int .i64,.bool,.bool])],[(800000000,tM,(.pr (.ow (.ow .fz)) (.pr (.ow (.pr .fz (.ow .fz))) (.pr .fz (.ow .fz))))),(800000001,tW,(.pr .fz (.ow .fz)))]⟩
def yeZ:Shape:=⟨[(0,false,[.ptr 1000000000 0]),(15,false,[.int .i64]),(16,false,[.ci .i64 0])],[(1000000000,[.int .i64,.int .i64,.int .i64,.at 800000000,.int .i64,.int .i64,.int .i64,.int .i64,.int .i64,.at 800000001,.int .i64,.bool,.bool])],[(800000000,tM,(.pr (.ow (.ow .fz)) (.pr (.ow (.pr .fz (.ow .fz))) (.pr .fz (.ow .fz))))),(800000001,tW,(.pr .fz (.ow .fz)))]⟩
def yeR:Shape:=⟨[(0,false,[.ptr 1000000000 0])],[(1000000000,[.int .i64,.int .i64,.int .i64,.at 800000000,.int .i64,.int .i64,.int .i64,.int .i64,.int .i64,.at 800000001,.int .i64,.bool,.bool])],[(800000000,tM,(.pr (.ow (.ow .fz)) (.pr (.ow (.pr .fz (.ow .fz))) (.pr .fz (.ow .fz))))),(800000001,tW,(.pr .fz (.ow .fz)))]⟩
def ye7:Shape:=⟨[(2,false,[.bool])],[(1000000000,[.int .i64,.int .i64,.int .i64,.at 800000000,.int .i64,.int .i64,.int .i64,.int .i64,.int .i64,.at 800000001,.int .i64,.bool,.bool])],[(800000000,tM,(.pr (.ow (.ow .fz)) (.pr (.ow (.pr .fz (.ow .fz))) (.pr .fz (.ow .fz))))),(800000001,tW,(.pr .fz (.ow .fz)))]⟩
abbrev yn9 (v0 v1:Int) (v2:dA):(yba).X:=((((),()),(v0,()),(v1,()),()),((v2.1,v2.2.1.1,v2.2.1.2,(),v2.2.2.2.1,v2.2.2.2.2.1,v2.2.2.2.2.2.1,v2.2.2.2.2.2.2.1,v2.2.2.2.2.2.2.2.1,(),v2.2.2.2.2.2.2.2.2.2.1,v2.2.2.2.2.2.2.2.2.2.2.1,v2.2.2.2.2.2.2.2.2.2.2.2,()),()),(v2.2.2.1,v2.2.2.2.2.2.2.2.2.1,()))
abbrev yKr (v0:Int) (v1:dA):(yeZ).X:=((((),()),(v0,()),((),()),()),((v1.1,v1.2.1.1,v1.2.1.2,(),v1.2.2.2.1,v1.2.2.2.2.1,v1.2.2.2.2.2.1,v1.2.2.2.2.2.2.1,v1.2.2.2.2.2.2.2.1,(),v1.2.2.2.2.2.2.2.2.2.1,v1.2.2.2.2.2.2.2.2.2.2.1,v1.2.2.2.2.2.2.2.2.2.2.2,()),()),(v1.2.2.1,v1.2.2.2.2.2.2.2.2.1,()))
abbrev yof (v0:dA):(yeR).X:=((((),()),()),((v0.1,v0.2.1.1,v0.2.1.2,(),v0.2.2.2.1,v0.2.2.2.2.1,v0.2.2.2.2.2.1,v0.2.2.2.2.2.2.1,v0.2.2.2.2.2.2.2.1,(),v0.2.2.2.2.2.2.2.2.2.1,v0.2.2.2.2.2.2.2.2.2.2.1,v0.2.2.2.2.2.2.2.2.2.2.2,()),()),(v0.2.2.1,v0.2.2.2.2.2.2.2.2.1,()))
abbrev yoh (v0:Bool) (v1:dA):(ye7).X:=(((v0,()),()),((v1.1,v1.2.1.1,v1.2.1.2,(),v1.2.2.2.1,v1.2.2.2.2.1,v1.2.2.2.2.2.1,v1.2.2.2.2.2.2.1,v1.2.2.2.2.2.2.2.1,(),v1.2.2.2.2.2.2.2.2.2.1,v1.2.2.2.2.2.2.2.2.2.2.1,v1.2.2.2.2.2.2.2.2.2.2.2,()),()),(v1.2.2.1,v1.2.2.2.2.2.2.2.2.1,()))
def yom (v0 v1 v2 v3 v4 v5 v6 v7 v8 v9 v10:Int) (v11 v12:Bool) (v13:List dM) (v14:List dW):Option ((yba).X ⊕ ((yeR).X ⊕ (ye7).X)) :=
 bif(ltb v1 v0)then
 let r4:=yry (v2,(v3,v4),v13,v5,v6,v7,v8,v9,v14,v10,v11,v12) v1
 let r5:=yjz r4
 bnd (yeC (v2,(v3,v4),v13,v5,v6,v7,v8,v9,v14,v10,v11,v12) v1 (v9.tmod 2) r5) fun r6 =>
 bif(!r6.1.1)then
 some (.inr (.inr (((false,()),()),((r6.2.1.1,r6.2.1.2.1.1,r6.2.1.2.1.2,(),r6.2.1.2.2.2.1,r6.2.1.2.2.2.2.1,r6.2.1.2.2.2.2.2.1,r6.2.1.2.2.2.2.2.2.1,r6.2.1.2.2.2.2.2.2.2.1,(),r6.2.1.2.2.2.2.2.2.2.2.2.1,r6.2.1.2.2.2.2.2.2.2.2.2.2.1,r6.2.1.2.2.2.2.2.2.2.2.2.2.2,()),()),(r6.2.1.2.2.1,r6.2.1.2.2.2.2.2.2.2.2.1,()))))
 else
 some (.inl ((((),()),(v0,()),((IntKind.i64.wrap (v1+1)),()),()),((r6.2.1.1,r6.2.1.2.1.1,r6.2.1.2.1.2,(),r6.2.1.2.2.2.1,r6.2.1.2.2.2.2.1,r6.2.1.2.2.2.2.2.1,r6.2.1.2.2.2.2.2.2.1,r6.2.1.2.2.2.2.2.2.2.1,(),r6.2.1.2.2.2.2.2.2.2.2.2.1,r6.2.1.2.2.2.2.2.2.2.2.2.2.1,r6.2.1.2.2.2.2.2.2.2.2.2.2.2,()),()),(r6.2.1.2.2.1,r6.2.1.2.2.2.2.2.2.2.2.1,())))
 else
 some (.inr (.inl ((((),()),()),((v2,v3,v4,(),v5,v6,v7,v8,v9,(),v10,v11,v12,()),()),(v13,v14,()))))
def ybp (x:(yba).X):=yom x.1.2.1.1 x.1.2.2.1.1 x.2.1.1.1 x.2.1.1.2.1 x.2.1.1.2.2.1 x.2.1.1.2.2.2.2.1 x.2.1.1.2.2.2.2.2.1 x.2.1.1.2.2.2.2.2.2.1 x.2.1.1.2.2.2.2.2.2.2.1 x.2.1.1.2.2.2.2.2.2.2.2.1 x.2.1.1.2.2.2.2.2.2.2.2.2.2.1 x.2.1.1.2.2.2.2.2.2.2.2.2.2.2.1 x.2.1.1.2.2.2.2.2.2.2.2.2.2.2.2.1 x.2.2.1 x.2.2.2.1
def yxs (x:(yeZ).X):(yba).X:=((((),()),(x.1.2.1.1,()),(0,()),()),((x.2.1.1.1,x.2.1.1.2.1,x.2.1.1.2.2.1,(),x.2.1.1.2.2.2.2.1,x.2.1.1.2.2.2.2.2.1,x.2.1.1.2.2.2.2.2.2.1,x.2.1.1.2.2.2.2.2.2.2.1,x.2.1.1.2.2.2.2.2.2.2.2.1,(),x.2.1.1.2.2.2.2.2.2.2.2.2.2.1,x.2.1.1.2.2.2.2.2.2.2.2.2.2.2.1,x.2.1.1.2.2.2.2.2.2.2.2.2.2.2.2.1,()),()),(x.2.2.1,x.2.2.2.1,()))
def yyX:Code:=(zef yii 64 116).getD .skip
theorem yLg:zef yii 64 29=some (.block 0 (.loop yyX)):=by kernel_rfl
theorem yMU (x:(yba).X):zg0 ⟨yow,37,yAq⟩ 0 yyX 116 yba yeR ye7 x=ybp x:=by kernel_rfl
def yxB (x:(yeZ).X):Nat:=18446744073709551616
def ypT (x:(yeZ).X):Option ((yeR).X ⊕ (ye7).X):=zz ybp (yxB x) (yxs x)
def yxO:Seg:=⟨yeZ,yeR,ye7,ypT⟩
def yAr:Nat→Option Seg:=fun q=>bif Nat.beq q 29 then some yxO else yAq q
theorem yLB:FrOk prog ⟨yow,37,yAr⟩ yii:=(yLA).loop (sg:=yxO) yba yxs (by decide) yLg ybp yxB (by decide) (fun _=>rfl) (fun x r _ h=>h) yMU
abbrev yc0:List Par:= [.pt tA (.pr .fz (.pr (.pr .fz .fz) (.pr (.ow (.pr (.ow (.ow .fz)) (.pr (.ow (.pr .fz (.ow .fz))) (.pr .fz (.ow .fz))))) (.pr .fz (.pr .fz (.pr .fz (.pr .fz (.pr .fz (.pr (.ow (.pr .fz (.ow .fz))) (.pr .fz (.pr .fz .fz)))))))))))]
abbrev yi3:List OT:= [⟨false,tB,.fz⟩]
def ykj (a0:dA):Option (ResD yi3×MutD yc0) :=
 zjW (ypT ((((),()),((a0.2.2.1.length:Int),()),((),()),()),((a0.1,a0.2.1.1,a0.2.1.2,(),a0.2.2.2.1,a0.2.2.2.2.1,a0.2.2.2.2.2.1,a0.2.2.2.2.2.2.1,(IntKind.i64.wrap (a0.2.2.2.2.2.2.2.1+1)),(),a0.2.2.2.2.2.2.2.2.2.1,a0.2.2.2.2.2.2.2.2.2.2.1,a0.2.2.2.2.2.2.2.2.2.2.2,()),()),(a0.2.2.1,a0.2.2.2.2.2.2.2.2.1,()))) (fun y6 =>
 bnd (yfH (y6.2.1.1.1,(y6.2.1.1.2.1,y6.2.1.1.2.2.1),y6.2.2.1,y6.2.1.1.2.2.2.2.1,y6.2.1.1.2.2.2.2.2.1,y6.2.1.1.2.2.2.2.2.2.1,y6.2.1.1.2.2.2.2.2.2.2.1,y6.2.1.1.2.2.2.2.2.2.2.2.1,y6.2.2.2.1,y6.2.1.1.2.2.2.2.2.2.2.2.2.2.1,y6.2.1.1.2.2.2.2.2.2.2.2.2.2.2.1,y6.2.1.1.2.2.2.2.2.2.2.2.2.2.2.2.1)) fun r8 =>
 some ((r8.1.1,()),(r8.2.1,()))) (fun y6 =>
 some ((y6.1.1.1,()),((y6.2.1.1.1,(y6.2.1.1.2.1,y6.2.1.1.2.2.1),y6.2.2.1,y6.2.1.1.2.2.2.2.1,y6.2.1.1.2.2.2.2.2.1,y6.2.1.1.2.2.2.2.2.2.1,y6.2.1.1.2.2.2.2.2.2.2.1,y6.2.1.1.2.2.2.2.2.2.2.2.1,y6.2.2.2.1,y6.2.1.1.2.2.2.2.2.2.2.2.2.2.1,y6.2.1.1.2.2.2.2.2.2.2.2.2.2.2.1,y6.2.1.1.2.2.2.2.2.2.2.2.2.2.2.2.1),())))
theorem yUh (x:InD yc0):zju ⟨yow,37,yAr⟩ f107.results.toList yii yc0 yi3 x=ykj x.1:=by kernel_rfl
theorem yO2:ConOk prog 107 ⟨yc0,yi3,fun x=>ykj x.1⟩:=zjZ (yLB) func107 (by kernel_rfl) (by kernel_rfl) ntmps107.symm (by decide) (fun x r h=>(yUh x).trans h)
def yph (a0:dA):Bool×dA:=(!(downA (markA a0)),markA a0)
def yjI (a0:dA):Bool:= !(downA a0)
theorem y2G {a:dA} (i:Nat) (h:downA a=true):yH a i=a:=yqD h _ _ _
theorem yR3 (a0:dA) (hk:zi0 yc0 (a0,())) (hq:yjI a0=true):ykj a0=(fun n=>some ((n.1,()),(n.2,()))) (yph a0):=by
 have hb:a0.2.2.1.length*80≤2^47:=hk.1.2.2.1.1;have hd0:downA a0=false:=by simpa [yjI]using hq
 have h1:ypT (yKr a0.2.2.1.length (yW a0))=some (bif downA ((List.range a0.2.2.1.length).foldl yH (yW a0))then .inr (yoh false ((List.range a0.2.2.1.length).foldl yH (yW a0)))else .inl (yof ((List.range a0.2.2.1.length).foldl yH (yW a0)))):=by
  have:=zj5 (step:=ybp) a0.2.2.1.length (fun i s=>yn9 a0.2.2.1.length i s) (fun i s=>bif downA (yH s i)then(.inr (yH s i):dA ⊕ dA)else .inl (yH s i)) (fun _ s=>s.2.2.1.length=a0.2.2.1.length∧downA s=false) id
   (fun b=>bif downA b then .inr (yoh false b)else .inl (yof b)) (fun i s hi hs=>by
    constructor
    ·simp only[ybp,yn9,yom,zj2 (show(i:Int)<a0.2.2.1.length by omega),cond_true,wr (show -9223372036854775808≤(i:Int)+1 by omega) (by omega),Int.natCast_add,Int.natCast_one,Int.toNat_natCast,zkp,y3g,yry]
     rw[ysw s i (s.2.2.2.2.2.2.2.1.tmod 2) (n_spec_PutSuper (s.1,s.2.2.2.2.2.2.2.1,(i:Int),s.2.1.1,s.2.1.2,s.2.2.2.2.2.2.1,s.2.2.2.1,s.2.2.2.2.1)) (by unfold ycy; rw[zkj (by rw[hs.1]; exact hi),hs.2]; rfl)];simp only[zka,ycw];rw[show yaZ s i (s.2.2.2.2.2.2.2.1.tmod 2) (n_spec_PutSuper (s.1,s.2.2.2.2.2.2.2.1,(i:Int),s.2.1.1,s.2.1.2,s.2.2.2.2.2.2.1,s.2.2.2.1,s.2.2.2.2.1))=yH s i from rfl]
     cases hd:downA (yH s i)
     ·rfl
     ·simp only[hd,Bool.not_true,Bool.not_false,cond_true,yoh]
    ·intro s' h
     cases hd:downA (yH s i)
     ·rw[hd]at h
      cases h
      exact⟨(yPW s i).trans hs.1,hd⟩
     ·rw[hd]at h; cases h) (fun s hs=>by simp only[ybp,yn9,yom,hs.2,zkv (Int.le_refl _),cond_false,id,yof]) (yW a0) ⟨rfl,hd0⟩ 18446744073709551616 (by omega)
  rw[yDK (fun a i h=>y2G i h),← List.range_eq_range']at this;exact this
 unfold ykj yph markA;refine(congrArg (fun z=>zjW z _ _) h1).trans ?_
 cases hd:downA ((List.range a0.2.2.1.length).foldl yH (yW a0))
 ·simp only[cond_false,zkf,zkp]
  rw[yuy _ (by unfold yfI; rw[hd]; rfl)]; rfl
 ·rw[yvd hd]
  simp only[cond_true,zkg,zkp];rw[hd]; rfl
def yjG (a0:dA):Option (ResD yi3×MutD yc0):=bif yjI a0 then(fun n=>some ((n.1,()),(n.2,()))) (yph a0)else none
theorem yS9 (a0:dA) (h:yjI a0=true):yjG a0=(fun n=>some ((n.1,()),(n.2,()))) (yph a0):=by unfold yjG; rw[h]; rfl
def yAZ:Con:=⟨yc0,yi3,fun x=>yjG x.1⟩
theorem ySR:ConOk prog 107 yAZ:=(yO2).mono (fun x r hk h=>zkq h (fun hq=>yR3 x.1 hk hq))
end
section
def yCa:Code:=(f99.body).getD .skip
def yCD:Env:=zj0 TT [(107,yAZ),(165,ykd)] []
theorem yKf:FrOk prog ⟨yCD,15,fun _=>none⟩ yCa:=zj4 yc yd ⟨ySR,yux,trivial⟩
def yK1:Nat→Option Seg:=fun _=>none
abbrev ych:List Par:= [.pt tA (.pr .fz (.pr (.pr .fz .fz) (.pr (.ow (.pr (.ow (.ow .fz)) (.pr (.ow (.pr .fz (.ow .fz))) (.pr .fz (.ow .fz))))) (.pr .fz (.pr .fz (.pr .fz (.pr .fz (.pr .fz (.pr (.ow (.pr .fz (.ow .fz))) (.pr .fz (.pr .fz .fz)))))))))))]
abbrev yhs:List OT:= [⟨false,tB,.fz⟩]
def yjK (a0:dA):Option (ResD yhs×MutD ych) :=
 bnd (yfH a0) fun r1 =>
 bif(!r1.1.1)then
 some ((false,()),(r1.2.1,()))
 else
 bnd (yjG (r1.2.1.1,r1.2.1.2.1,r1.2.1.2.2.1,r1.2.1.2.2.2.1,r1.2.1.2.2.2.2.1,r1.2.1.2.2.2.2.2.1,r1.2.1.2.2.2.2.2.1,r1.2.1.2.2.2.2.2.2.2)) fun r2 =>
 some ((r2.1.1,()),(r2.2.1,()))
theorem yQy (x:InD ych):zju ⟨yCD,15,yK1⟩ f99.results.toList yCa ych yhs x=yjK x.1:=by kernel_rfl
theorem yMG:ConOk prog 99 ⟨ych,yhs,fun x=>yjK x.1⟩:=zjZ (yKf) func99 (by kernel_rfl) (by kernel_rfl) ntmps99.symm (by decide) (fun x r h=>(yQy x).trans h)
def ymw (a0:dA):Bool×dA:=(!(downA (checkA a0)),checkA a0)
def ymz (a0:dA):Bool:= !(downA a0)
theorem yOW (a0:dA) (hk:zi0 ych (a0,())) (hq:ymz a0=true):yjK a0=(fun n=>some ((n.1,()),(n.2,()))) (ymw a0):=by
 unfold yjK ymw checkA;rw[yuy a0 hq];simp only[zka,yjv]
 cases hd:downA (yb a0)
 ·have hm:yjG (yB (yb a0))=some ((!(downA (markA (yB (yb a0)))),()),(markA (yB (yb a0)),())):=yS9 (yB (yb a0)) (by unfold yjI; rw[show downA (yB (yb a0))=downA (yb a0)from rfl,hd]; rfl)
  exact(congrArg (fun z=>bnd z _) hm).trans rfl
 ·simp only[Bool.not_true,Bool.not_false,cond_true]
  rw[hd]; rfl
def ymy (a0:dA):Option (ResD yhs×MutD ych):=bif ymz a0 then(fun n=>some ((n.1,()),(n.2,()))) (ymw a0)else none
theorem yPv (a0:dA) (h:ymz a0=true):ymy a0=(fun n=>some ((n.1,()),(n.2,()))) (ymw a0):=by unfold ymy; rw[h]; rfl
def yy7:Con:=⟨ych,yhs,fun x=>ymy x.1⟩
theorem yPr:ConOk prog 99 yy7:=(yMG).mono (fun x r hk h=>zkq h (fun hq=>yOW x.1 hk hq))
end
section
def ym4:Code:=(f28.body).getD .skip
def ys6:Env:=zj0 TT [(23,yC0),(95,yuc),(96,yA6),(97,yxp),(98,yy8),(99,yy7)] []
theorem yQO:FrOk prog ⟨ys6,50,fun _=>none⟩ ym4:=zj4 yc yd ⟨yWH,yGd,ySY,yMM,yPs,yPr,trivial⟩
def yEJ:Nat→Option Seg:=fun _=>none
def yck:Shape:=⟨[(2,false,[.ptr 64 0]),(3,false,[.ptr 4224 0]),(16,false,[.int .i64])],[(64,[.int .i64,.int .i64,.int .i64,.nil,.int .i64,.int .i64,.int .i64,.int .i64,.int .i64,.nil,.int .i64,.bool,.bool]),(4224,[.int .i64,.int .i64,.int .i64,.at 800000000,.int .i64,.int .i64,.int .i64,.int .i64,.int .i64,.at 800000001,.int .i64,.bool,.bool])],[(800000000,tM,(.pr (.ow (.ow .fz)) (.pr (.ow (.pr .fz (.ow .fz))) (.pr .fz (.ow .fz))))),(800000001,tW,(.pr .fz (.ow .fz)))]⟩
def yhh:Shape:=⟨[(2,false,[.ptr 64 0]),(3,false,[.ptr 4224 0]),(16,false,[.ci .i64 0])],[(64,[.int .i64,.int .i64,.int .i64,.nil,.int .i64,.int .i64,.int .i64,.int .i64,.int .i64,.nil,.int .i64,.bool,.bool]),(4224,[.int .i64,.int .i64,.int .i64,.at 800000000,.int .i64,.int .i64,.int .i64,.int .i64,.int .i64,.at 800000001,.int .i64,.bool,.bool])],[(800000000,tM,(.pr (.ow (.ow .fz)) (.pr (.ow (.pr .fz (.ow .fz))) (.pr .fz (.ow .fz))))),(800000001,tW,(.pr .fz (.ow .fz)))]⟩
def yg6:Shape:=⟨[(2,false,[.ptr 64 0]),(3,false,[.ptr 4224 0])],[(64,[.int .i64,.int .i64,.int .i64,.nil,.int .i64,.int .i64,.int .i64,.int .i64,.int .i64,.nil,.int .i64,.bool,.bool]),(4224,[.int .i64,.int .i64,.int .i64,.at 800000000,.int .i64,.int .i64,.int .i64,.int .i64,.int .i64,.at 800000001,.int .i64,.bool,.bool])],[(800000000,tM,(.pr (.ow (.ow .fz)) (.pr (.ow (.pr .fz (.ow .fz))) (.pr .fz (.ow .fz))))),(800000001,tW,(.pr .fz (.ow .fz)))]⟩
def yhv:Shape:=⟨[(2,false,[.ptr 64 0])],[(64,[.int .i64,.int .i64,.int .i64,.at 800000000,.int .i64,.int .i64,.int .i64,.int .i64,.int .i64,.at 800000001,.int .i64,.bool,.bool])],[(800000000,tM,(.pr (.ow (.ow .fz)) (.pr (.ow (.pr .fz (.ow .fz))) (.pr .fz (.ow .fz))))),(800000001,tW,(.pr .fz (.ow .fz)))]⟩
abbrev ysk (v0:Int) (v1 v2:dA):(yck).X:=((((),()),((),()),(v0,()),()),((v1.1,v1.2.1.1,v1.2.1.2,(),v1.2.2.2.1,v1.2.2.2.2.1,v1.2.2.2.2.2.1,v1.2.2.2.2.2.2.1,v1.2.2.2.2.2.2.2.1,(),v1.2.2.2.2.2.2.2.2.2.1,v1.2.2.2.2.2.2.2.2.2.2.1,v1.2.2.2.2.2.2.2.2.2.2.2,()),(v2.1,v2.2.1.1,v2.2.1.2,(),v2.2.2.2.1,v2.2.2.2.2.1,v2.2.2.2.2.2.1,v2.2.2.2.2.2.2.1,v2.2.2.2.2.2.2.2.1,(),v2.2.2.2.2.2.2.2.2.2.1,v2.2.2.2.2.2.2.2.2.2.2.1,v2.2.2.2.2.2.2.2.2.2.2.2,()),()),(v2.2.2.1,v2.2.2.2.2.2.2.2.2.1,()))
abbrev yOJ (v0 v1:dA):(yhh).X:=((((),()),((),()),((),()),()),((v0.1,v0.2.1.1,v0.2.1.2,(),v0.2.2.2.1,v0.2.2.2.2.1,v0.2.2.2.2.2.1,v0.2.2.2.2.2.2.1,v0.2.2.2.2.2.2.2.1,(),v0.2.2.2.2.2.2.2.2.2.1,v0.2.2.2.2.2.2.2.2.2.2.1,v0.2.2.2.2.2.2.2.2.2.2.2,()),(v1.1,v1.2.1.1,v1.2.1.2,(),v1.2.2.2.1,v1.2.2.2.2.1,v1.2.2.2.2.2.1,v1.2.2.2.2.2.2.1,v1.2.2.2.2.2.2.2.1,(),v1.2.2.2.2.2.2.2.2.2.1,v1.2.2.2.2.2.2.2.2.2.2.1,v1.2.2.2.2.2.2.2.2.2.2.2,()),()),(v1.2.2.1,v1.2.2.2.2.2.2.2.2.1,()))
abbrev yOD (v0 v1:dA):(yg6).X:=((((),()),((),()),()),((v0.1,v0.2.1.1,v0.2.1.2,(),v0.2.2.2.1,v0.2.2.2.2.1,v0.2.2.2.2.2.1,v0.2.2.2.2.2.2.1,v0.2.2.2.2.2.2.2.1,(),v0.2.2.2.2.2.2.2.2.2.1,v0.2.2.2.2.2.2.2.2.2.2.1,v0.2.2.2.2.2.2.2.2.2.2.2,()),(v1.1,v1.2.1.1,v1.2.1.2,(),v1.2.2.2.1,v1.2.2.2.2.1,v1.2.2.2.2.2.1,v1.2.2.2.2.2.2.1,v1.2.2.2.2.2.2.2.1,(),v1.2.2.2.2.2.2.2.2.2.1,v1.2.2.2.2.2.2.2.2.2.2.1,v1.2.2.2.2.2.2.2.2.2.2.2,()),()),(v1.2.2.1,v1.2.2.2.2.2.2.2.2.1,()))
abbrev ysu (v0:dA):(yhv).X:=((((),()),()),((v0.1,v0.2.1.1,v0.2.1.2,(),v0.2.2.2.1,v0.2.2.2.2.1,v0.2.2.2.2.2.1,v0.2.2.2.2.2.2.1,v0.2.2.2.2.2.2.2.1,(),v0.2.2.2.2.2.2.2.2.2.1,v0.2.2.2.2.2.2.2.2.2.2.1,v0.2.2.2.2.2.2.2.2.2.2.2,()),()),(v0.2.2.1,v0.2.2.2.2.2.2.2.2.1,()))
def ysC (v0 v1 v2 v3 v4 v5 v6 v7 v8 v9:Int) (v10 v11:Bool) (v12 v13 v14 v15 v16 v17 v18 v19 v20:Int) (v21 v22:Bool) (v23:List dM) (v24:List dW):Option ((yck).X ⊕ ((yg6).X ⊕ (yhv).X)) :=
 bif(ltb v0 4)then
 bnd (yrE (v12,(v13,v14),v23,v15,v16,v17,v18,v19,v24,v20,v21,v22) v17) fun r6 =>
 bif(!(!r6.1.2.1))then
 bif(leb 60000 v17)then
 some (.inr (.inl ((((),()),((),()),()),((v1,v2,v3,(),v4,v5,v6,v7,v8,(),v9,v10,v11,()),(v12,v13,v14,(),v15,v16,v17,v18,v19,(),v20,v21,v22,()),()),(v23,v24,()))))
 else
 bnd (ygv (v12,(v13,v14),v23,v15,v16,v17,v18,v19,v24,v20,v21,v22) r6.1.1) fun r7 =>
 bif(!r7.1.1)then
 some (.inr (.inr ((((),()),()),((r7.2.1.1,r7.2.1.2.1.1,r7.2.1.2.1.2,(),r7.2.1.2.2.2.1,r7.2.1.2.2.2.2.1,r7.2.1.2.2.2.2.2.1,r7.2.1.2.2.2.2.2.2.1,r7.2.1.2.2.2.2.2.2.2.1,(),r7.2.1.2.2.2.2.2.2.2.2.2.1,r7.2.1.2.2.2.2.2.2.2.2.2.2.1,r7.2.1.2.2.2.2.2.2.2.2.2.2.2,()),()),(r7.2.1.2.2.1,r7.2.1.2.2.2.2.2.2.2.2.1,()))))
 else
 bnd (yhI (r7.2.1.1,r7.2.1.2.1,r7.2.1.2.2.1,r7.2.1.2.2.2.1,r7.2.1.2.2.2.2.1,(IntKind.i64.wrap (r7.2.1.2.2.2.2.2.1+1)),r7.2.1.2.2.2.2.2.2) r6.1.1.2.1 r6.1.1.2.2) fun r8 =>
 bif(!r8.1.1)then
 some (.inr (.inr ((((),()),()),((r8.2.1.1,r8.2.1.2.1.1,r8.2.1.2.1.2,(),r8.2.1.2.2.2.1,r8.2.1.2.2.2.2.1,r8.2.1.2.2.2.2.2.1,r8.2.1.2.2.2.2.2.2.1,r8.2.1.2.2.2.2.2.2.2.1,(),r8.2.1.2.2.2.2.2.2.2.2.2.1,r8.2.1.2.2.2.2.2.2.2.2.2.2.1,r8.2.1.2.2.2.2.2.2.2.2.2.2.2,()),()),(r8.2.1.2.2.1,r8.2.1.2.2.2.2.2.2.2.2.1,()))))
 else
 some (.inl ((((),()),((),()),((IntKind.i64.wrap (v0+1)),()),()),((v1,v2,v3,(),v4,v5,v6,v7,v8,(),v9,v10,v11,()),(r8.2.1.1,r8.2.1.2.1.1,r8.2.1.2.1.2,(),r8.2.1.2.2.2.1,r8.2.1.2.2.2.2.1,r8.2.1.2.2.2.2.2.1,r8.2.1.2.2.2.2.2.2.1,r8.2.1.2.2.2.2.2.2.2.1,(),r8.2.1.2.2.2.2.2.2.2.2.2.1,r8.2.1.2.2.2.2.2.2.2.2.2.2.1,r8.2.1.2.2.2.2.2.2.2.2.2.2.2,()),()),(r8.2.1.2.2.1,r8.2.1.2.2.2.2.2.2.2.2.1,())))
 else
 some (.inr (.inl ((((),()),((),()),()),((v1,v2,v3,(),v4,v5,v6,v7,v8,(),v9,v10,v11,()),(v12,v13,v14,(),v15,v16,v17,v18,v19,(),v20,v21,v22,()),()),(v23,v24,()))))
 else
 some (.inr (.inl ((((),()),((),()),()),((v1,v2,v3,(),v4,v5,v6,v7,v8,(),v9,v10,v11,()),(v12,v13,v14,(),v15,v16,v17,v18,v19,(),v20,v21,v22,()),()),(v23,v24,()))))
def ycO (x:(yck).X):=ysC x.1.2.2.1.1 x.2.1.1.1 x.2.1.1.2.1 x.2.1.1.2.2.1 x.2.1.1.2.2.2.2.1 x.2.1.1.2.2.2.2.2.1 x.2.1.1.2.2.2.2.2.2.1 x.2.1.1.2.2.2.2.2.2.2.1 x.2.1.1.2.2.2.2.2.2.2.2.1 x.2.1.1.2.2.2.2.2.2.2.2.2.2.1 x.2.1.1.2.2.2.2.2.2.2.2.2.2.2.1 x.2.1.1.2.2.2.2.2.2.2.2.2.2.2.2.1 x.2.1.2.1.1 x.2.1.2.1.2.1 x.2.1.2.1.2.2.1 x.2.1.2.1.2.2.2.2.1 x.2.1.2.1.2.2.2.2.2.1 x.2.1.2.1.2.2.2.2.2.2.1 x.2.1.2.1.2.2.2.2.2.2.2.1 x.2.1.2.1.2.2.2.2.2.2.2.2.1 x.2.1.2.1.2.2.2.2.2.2.2.2.2.2.1 x.2.1.2.1.2.2.2.2.2.2.2.2.2.2.2.1 x.2.1.2.1.2.2.2.2.2.2.2.2.2.2.2.2.1 x.2.2.1 x.2.2.2.1
def yBh (x:(yhh).X):(yck).X:=((((),()),((),()),(0,()),()),((x.2.1.1.1,x.2.1.1.2.1,x.2.1.1.2.2.1,(),x.2.1.1.2.2.2.2.1,x.2.1.1.2.2.2.2.2.1,x.2.1.1.2.2.2.2.2.2.1,x.2.1.1.2.2.2.2.2.2.2.1,x.2.1.1.2.2.2.2.2.2.2.2.1,(),x.2.1.1.2.2.2.2.2.2.2.2.2.2.1,x.2.1.1.2.2.2.2.2.2.2.2.2.2.2.1,x.2.1.1.2.2.2.2.2.2.2.2.2.2.2.2.1,()),(x.2.1.2.1.1,x.2.1.2.1.2.1,x.2.1.2.1.2.2.1,(),x.2.1.2.1.2.2.2.2.1,x.2.1.2.1.2.2.2.2.2.1,x.2.1.2.1.2.2.2.2.2.2.1,x.2.1.2.1.2.2.2.2.2.2.2.1,x.2.1.2.1.2.2.2.2.2.2.2.2.1,(),x.2.1.2.1.2.2.2.2.2.2.2.2.2.2.1,x.2.1.2.1.2.2.2.2.2.2.2.2.2.2.2.1,x.2.1.2.1.2.2.2.2.2.2.2.2.2.2.2.2.1,()),()),(x.2.2.1,x.2.2.2.1,()))
def yCN:Code:=(zef ym4 64 244).getD .skip
theorem yQj:zef ym4 64 61=some (.block 0 (.loop yCN)):=by kernel_rfl
theorem yTd (x:(yck).X):zg0 ⟨ys6,50,yEJ⟩ 0 yCN 244 yck yg6 yhv x=ycO x:=by kernel_rfl
def yBs (x:(yhh).X):Nat:=18446744073709551616
def yt1 (x:(yhh).X):Option ((yg6).X ⊕ (yhv).X):=zz ycO (yBs x) (yBh x)
def yBI:Seg:=⟨yhh,yg6,yhv,yt1⟩
def yEK:Nat→Option Seg:=fun q=>bif Nat.beq q 61 then some yBI else yEJ q
theorem yQP:FrOk prog ⟨ys6,50,yEK⟩ ym4:=(yQO).loop (sg:=yBI) yck yBh (by decide) yQj ycO yBs (by decide) (fun _=>rfl) (fun x r _ h=>h) yTd
abbrev yh2:List Par:= [.rd tA]
abbrev ytl:List OT:= [⟨false,tA,(.pr .fz (.pr (.pr .fz .fz) (.pr (.ow (.pr (.ow (.ow .fz)) (.pr (.ow (.pr .fz (.ow .fz))) (.pr .fz (.ow .fz))))) (.pr .fz (.pr .fz (.pr .fz (.pr .fz (.pr .fz (.pr (.ow (.pr .fz (.ow .fz))) (.pr .fz (.pr .fz .fz)))))))))))⟩]
def yps (a0:dA):Option (ResD ytl×MutD yh2) :=
 let r1:=yeA a0
 let r2:=yds a0
 bif(!(!r2))then
 bif a0.2.2.2.2.2.2.2.2.2.2.2 then
 some ((r1,()),())
 else
 zjW (yt1 ((((),()),((),()),((),()),()),((0,0,0,(),0,0,0,0,0,(),0,false,false,()),(r1.1,r1.2.1.1,r1.2.1.2,(),r1.2.2.2.1,r1.2.2.2.2.1,r1.2.2.2.2.2.1,r1.2.2.2.2.2.2.1,r1.2.2.2.2.2.2.2.1,(),r1.2.2.2.2.2.2.2.2.2.1,r1.2.2.2.2.2.2.2.2.2.2.1,r1.2.2.2.2.2.2.2.2.2.2.2,()),()),(r1.2.2.1,r1.2.2.2.2.2.2.2.2.1,()))) (fun y8 =>
 bnd (ymy (y8.2.1.2.1.1,(y8.2.1.2.1.2.1,y8.2.1.2.1.2.2.1),y8.2.2.1,y8.2.1.2.1.2.2.2.2.1,y8.2.1.2.1.2.2.2.2.2.1,y8.2.1.2.1.2.2.2.2.2.2.1,y8.2.1.2.1.2.2.2.2.2.2.2.1,y8.2.1.2.1.2.2.2.2.2.2.2.2.1,y8.2.2.2.1,y8.2.1.2.1.2.2.2.2.2.2.2.2.2.2.1,y8.2.1.2.1.2.2.2.2.2.2.2.2.2.2.2.1,y8.2.1.2.1.2.2.2.2.2.2.2.2.2.2.2.2.1)) fun r10 =>
 some ((r10.2.1,()),())) (fun y8 =>
 some (((y8.2.1.1.1,(y8.2.1.1.2.1,y8.2.1.1.2.2.1),y8.2.2.1,y8.2.1.1.2.2.2.2.1,y8.2.1.1.2.2.2.2.2.1,y8.2.1.1.2.2.2.2.2.2.1,y8.2.1.1.2.2.2.2.2.2.2.1,y8.2.1.1.2.2.2.2.2.2.2.2.1,y8.2.2.2.1,y8.2.1.1.2.2.2.2.2.2.2.2.2.2.1,y8.2.1.1.2.2.2.2.2.2.2.2.2.2.2.1,y8.2.1.1.2.2.2.2.2.2.2.2.2.2.2.2.1),()),()))
 else
 some ((r1,()),())
theorem y0C (x:InD yh2):zju ⟨ys6,50,yEK⟩ f28.results.toList ym4 yh2 ytl x=yps x.1:=by kernel_rfl
theorem yV9:ConOk prog 28 ⟨yh2,ytl,fun x=>yps x.1⟩:=zjZ (yQP) func28 (by kernel_rfl) (by kernel_rfl) ntmps28.symm (by decide) (fun x r h=>(y0C x).trans h)
def yie (a0:dA):dA:=ynV a0
theorem y5M {α:Type} {c:Bool} (h:c=false) {x y:α}:(bif c then x else y)=y:=by subst h; rfl
theorem yXF {α:Type} {c:Bool} (h:c=true) {x y:α}:(bif c then x else y)=x:=by subst h; rfl
theorem yYu (a0:dA) (hk:zi0 yh2 (a0,())):yps a0=(fun n=>some ((n,()),())) (yie a0):=by
 unfold yps yie;simp only[yeA]
 cases hm:(yR a0&&(!(downA a0)&&(!a0.2.2.2.2.2.2.2.2.2.2.2&&ltb a0.2.2.2.2.2.2.2.1 60000)))
 ·have hr:ynV a0=a0:=by unfold ynV; rw[hm]; rfl
  rw[hr]
  cases hmk:yds a0
  ·rfl
  ·have:a0.2.2.2.2.2.2.2.2.2.2.2=true:=by
    unfold yds at hmk;simp only[yam]at hmk;unfold downA at hm
    revert hm hmk
    cases yR a0<;>cases a0.2.2.2.2.2.2.2.2.2.2.1<;>cases ltb a0.2.2.2.2.2.2.2.1 60000<;>cases a0.2.2.2.2.2.2.2.2.2.2.2<;>decide
   rw[yXF (by rfl),yXF this]
 ·have hr:ynV a0=yM5 a0:=by unfold ynV; rw[hm]; rfl
  rw[hr];simp only[Bool.and_eq_true,Bool.not_eq_true']at hm;obtain⟨ha,hdn,hbr,hlt⟩:=hm
  have hmk:yds a0=true:=by
   unfold yds;simp only[yam,ha,show a0.2.2.2.2.2.2.2.2.2.2.1=false from hdn,hlt]; rfl
  rw[hmk,yXF (by rfl),y5M hbr];have hgo:n_spec_GeoOk a0.2.1=true:=yuW ha;have hle:=yLp ha
  have h1:=zj5 (step:=ycO) 4 (fun i s=>ysk i yae s) ysB (fun _ s=>s.2.1=a0.2.1∧s.2.2.1.length=a0.2.2.1.length∧downA s=false) .inl
   (fun b=>match b with | .inl x=> .inl (yOD yae x) | .inr x=> .inr (ysu x)) (fun i s hi hs=>by
    constructor
    ·simp only[ycO,ysk,ysC,zj2 (show(i:Int)<4 by omega),cond_true,wr (show -9223372036854775808≤(i:Int)+1 by omega) (by omega),Int.natCast_add,Int.natCast_one,Int.toNat_natCast,zkp]
     rw[yWW s s.2.2.2.2.2.1 (by unfold yrK; rw[hs.1,hgo]; rfl)];simp only[zka,ylE];unfold ysB
     cases hf:(yac s s.2.2.2.2.2.1).2
     ·rfl
     ·cases leb 60000 s.2.2.2.2.2.1
      ·have ho:=y5U (a:=s) (q:=s.2.2.2.2.2.1) (by rw[hs.1]; exact hgo) hf
       have hr:ygv s (yac s s.2.2.2.2.2.1).1=some ((!(downA (yhU s)),()),(yhU s,())):=yMR _ _ (by unfold ygw; rw[hs.2.2]; rfl)
       have hd:downA (yhU s)=false→yhI (yu (yhU s)) (yac s s.2.2.2.2.2.1).1.2.1 (yac s s.2.2.2.2.2.1).1.2.2=some ((!(downA (ylX s)),()),(ylX s,())):=fun hd1=>yPw _ _ _ (by
         unfold yhK;simp only[Bool.and_eq_true,beq_iff_eq,Bool.not_eq_true'];rw[show(yu (yhU s)).2.1=s.2.1 from y2W s]
         exact⟨hd1,ho.1,ho.2,by rw[show(yu (yhU s)).2.2.1.length=s.2.2.1.length from yNm s _,hs.2.1,hle,hs.1]⟩)
       rw[hr];generalize ylX s=R2 at hd ⊢;generalize yhU s=R1 at hd ⊢;generalize yac s s.2.2.2.2.2.1=F at hd ⊢;unfold yu at hd;simp only[Bool.not_true,Bool.not_false,cond_true,cond_false,Bool.or_self,zka]
       cases hd1:downA R1
       ·simp only[Bool.not_true,Bool.not_false,cond_true,cond_false,hd hd1,zka]
        cases hd2:downA R2
        ·rfl
        ·simp only[hd2,Bool.not_true,Bool.not_false,cond_true,ysu]
       ·simp only[hd1,Bool.not_true,Bool.not_false,cond_true,ysu]
      ·rfl
    ·intro s' h
     unfold ysB at h
     cases hc:(!(yac s s.2.2.2.2.2.1).2||leb 60000 s.2.2.2.2.2.1)
     ·rw[hc]at h
      cases hd1:downA (yhU s)
      ·rw[hd1]at h
       cases hd2:downA (ylX s)
       ·rw[hd2]at h
        simp only[cond_false,Sum.inl.injEq]at h;subst h;exact⟨(y5u s).trans hs.1,(y5v s).trans hs.2.1,hd2⟩
       ·rw[hd2]at h; cases h
      ·rw[hd1]at h; cases h
     ·rw[hc]at h; cases h) (fun s hs=>by simp only[ycO,ysk,ysC]; rfl) a0 ⟨rfl,rfl,hdn⟩ 18446744073709551616 (by omega)
  have hdo: ∀b,goE ysB .inl 4 0 a0= .inl b→downA b=false:=fun b hb=>y2X 4 0 a0 b hdn hb
  refine(congrArg (fun z=>zjW z _ _) (show yt1 (yOJ yae a0)=_ from h1)).trans ?_;unfold yM5
  cases hg:goE ysB .inl 4 0 a0 with
  | inl b =>
   simp only[zkf,zkp];rw[yPv b (by unfold ymz; rw[hdo b hg]; rfl)]; rfl
  | inr b=>rfl
def yFF:Con:=⟨yh2,ytl,fun x=>(fun n=>some ((n,()),())) (yie x.1)⟩
theorem yZn:ConOk prog 28 yFF:=(yV9).mono (fun x r hk h=>(yYu x.1 hk).trans h)
end
section
def ykE:Code:=(f103.body).getD .skip
def yqX:Env:=zj0 TT [(81,yz),(127,yex),(133,yhz),(158,yaK)] []
theorem yN0:FrOk prog ⟨yqX,45,fun _=>none⟩ ykE:=zj4 yc yd ⟨yI,yih,ypl,ycx,trivial⟩
def yCf:Nat→Option Seg:=fun _=>none
def ybd:Shape:=⟨[(1,false,[.int .i64]),(4,false,[.ptr 64 0]),(5,false,[.ptr 4224 0]),(18,false,[.br tW]),(19,false,[.int .i64]),(20,false,[.int .i64])],[(64,[.nil,.nil,.bool,.nil]),(4224,[.at 800000000,.at 800000001,.bool,.at 800000002])],[(800000000,tL,(.ow .fz)),(800000001,tW,(.pr .fz (.ow .fz))),(800000002,tI,.fz)]⟩
def ye2:Shape:=⟨[(1,false,[.int .i64]),(4,false,[.ptr 64 0]),(5,false,[.ptr 4224 0]),(18,false,[.br tW]),(19,false,[.int .i64]),(20,false,[.int .i64])],[(64,[.nil,.nil,.bool,.nil]),(4224,[.at 800000000,.at 800000001,.bool,.at 800000002])],[(800000000,tL,(.ow .fz)),(800000001,tW,(.pr .fz (.ow .fz))),(800000002,tI,.fz)]⟩
def yeU:Shape:=⟨[(4,false,[.ptr 64 0]),(5,false,[.ptr 4224 0])],[(64,[.nil,.nil,.bool,.nil]),(4224,[.at 800000000,.at 800000001,.bool,.at 800000002])],[(800000000,tL,(.ow .fz)),(800000001,tW,(.pr .fz (.ow .fz))),(800000002,tI,.fz)]⟩
def yjc:Shape:=⟨[],[],[]⟩
abbrev yob (v0:Int) (v1:List dW) (v2 v3:Int) (v4 v5:dM):(ybd).X:=(((v0,()),((),()),((),()),(v1,()),(v2,()),(v3,()),()),(((),(),v4.2.2.1,(),()),((),(),v5.2.2.1,(),()),()),(v5.1,v5.2.1,v5.2.2.2,()))
abbrev yKu (v0:Int) (v1:List dW) (v2 v3:Int) (v4 v5:dM):(ye2).X:=(((v0,()),((),()),((),()),(v1,()),(v2,()),(v3,()),()),(((),(),v4.2.2.1,(),()),((),(),v5.2.2.1,(),()),()),(v5.1,v5.2.1,v5.2.2.2,()))
abbrev yxL (v0 v1:dM):(yeU).X:=((((),()),((),()),()),(((),(),v0.2.2.1,(),()),((),(),v1.2.2.1,(),()),()),(v1.1,v1.2.1,v1.2.2.2,()))
def yop (v0:Int) (v1:List dW) (v2 v3:Int) (v4 v5:Bool) (v6:List (List Int)) (v7:List dW) (v8:List Int):Option ((ybd).X ⊕ ((yeU).X ⊕ (yjc).X)) :=
 bif(ltb v3 v2)then
 bif(inb v3 v1.length)then
 bif(ltb v3 20)then
 bif(leb 0 v3)then
 bif((IntKind.i64.wrap ((BitVec.ofInt IntKind.i64.bits (v0.fdiv (2^(min (v3).toNat IntKind.i64.bits))) &&& BitVec.ofInt IntKind.i64.bits 1).toNat:Int))==1)then
 let r5:=yo ((nth v1 v3 (0,[])).2)
 bif(inb ((nth v1 v3 (0,[])).1) v6.length)then
 some (.inl (((v0,()),((),()),((),()),(v1,()),(v2,()),((IntKind.i64.wrap (v3+1)),()),()),(((),(),v4,(),()),((),(),v5,(),()),()),((v6.set ((nth v1 v3 (0,[])).1).toNat r5),v7,v8,())))
 else none
 else
 some (.inl (((v0,()),((),()),((),()),(v1,()),(v2,()),((IntKind.i64.wrap (v3+1)),()),()),(((),(),v4,(),()),((),(),v5,(),()),()),(v6,v7,v8,())))
 else none
 else
 some (.inl (((v0,()),((),()),((),()),(v1,()),(v2,()),((IntKind.i64.wrap (v3+1)),()),()),(((),(),v4,(),()),((),(),v5,(),()),()),(v6,v7,v8,())))
 else none
 else
 some (.inr (.inl ((((),()),((),()),()),(((),(),v4,(),()),((),(),v5,(),()),()),(v6,v7,v8,()))))
def ybs (x:(ybd).X):=yop x.1.1.1 x.1.2.2.2.1.1 x.1.2.2.2.2.1.1 x.1.2.2.2.2.2.1.1 x.2.1.1.2.2.1 x.2.1.2.1.2.2.1 x.2.2.1 x.2.2.2.1 x.2.2.2.2.1
def yxv (x:(ye2).X):(ybd).X:=(((x.1.1.1,()),((),()),((),()),(x.1.2.2.2.1.1,()),(x.1.2.2.2.2.1.1,()),(x.1.2.2.2.2.2.1.1,()),()),(((),(),x.2.1.1.2.2.1,(),()),((),(),x.2.1.2.1.2.2.1,(),()),()),(x.2.2.1,x.2.2.2.1,x.2.2.2.2.1,()))
def yy0:Code:=(zef ykE 64 500).getD .skip
theorem yLj:zef ykE 64 125=some (.block 0 (.loop yy0)):=by kernel_rfl
theorem yMX (x:(ybd).X):zg0 ⟨yqX,45,yCf⟩ 0 yy0 500 ybd yeU yjc x=ybs x:=by kernel_rfl
def yxE (x:(ye2).X):Nat:=18446744073709551616
def yis (x:(ye2).X):Option ((yeU).X ⊕ (yjc).X):=zz ybs (yxE x) (yxv x)
def yxR:Seg:=⟨ye2,yeU,yjc,yis⟩
def yCg:Nat→Option Seg:=fun q=>bif Nat.beq q 125 then some yxR else yCf q
theorem yN1:FrOk prog ⟨yqX,45,yCg⟩ ykE:=(yN0).loop (sg:=yxR) ybd yxv (by decide) yLj ybs yxE (by decide) (fun _=>rfl) (fun x r _ h=>h) yMX
abbrev ygG:List Par:= [.rd tM,.rd tI]
abbrev yq9:List OT:= [⟨false,tM,(.pr (.ow (.ow .fz)) (.pr (.ow (.pr .fz (.ow .fz))) (.pr .fz (.ow .fz))))⟩]
def ymB (a0:dM) (a1:Int):Option (ResD yq9×MutD ygG) :=
 let r1:=yan a0
 let r2:=yZ a0
 bif(!r2)then
 some ((r1,()),())
 else
 let r3:=ye a1 0 1048575
 bif(!r3)then
 zjW (yis (((0,()),((),()),((),()),(a0.2.1,()),((a0.2.1.length:Int),()),(0,()),()),(((),(),false,(),()),((),(),r1.2.2.1,(),()),()),(r1.1,r1.2.1,r1.2.2.2,()))) (fun y5 =>
 some (((y5.2.2.1,[],y5.2.1.2.1.2.2.1,y5.2.2.2.2.1),()),())) (fun y5 =>
 none)
 else
 zjW (yis (((a1,()),((),()),((),()),(a0.2.1,()),((a0.2.1.length:Int),()),(0,()),()),(((),(),false,(),()),((),(),r1.2.2.1,(),()),()),(r1.1,r1.2.1,r1.2.2.2,()))) (fun y6 =>
 some (((y6.2.2.1,[],y6.2.1.2.1.2.2.1,y6.2.2.2.2.1),()),())) (fun y6 =>
 none)
theorem yXL (x:InD ygG):zju ⟨yqX,45,yCg⟩ f103.results.toList ykE ygG yq9 x=ymB x.1 x.2.1:=by kernel_rfl
theorem ySr:ConOk prog 103 ⟨ygG,yq9,fun x=>ymB x.1 x.2.1⟩:=zjZ (yN1) func103 (by kernel_rfl) (by kernel_rfl) ntmps103.symm (by decide) (fun x r h=>(yXL x).trans h)
def ygT (a0:dM) (a1:Int):dM:=ydA a0 a1
theorem yVE (a0:dM) (a1:Int) (hk:zi0 ygG (a0,a1,())):ymB a0 a1=(fun n=>some ((n,()),())) (ygT a0 a1):=by
 have hb2:a0.2.1.length*32≤2^47:=hk.1.2.1.1;unfold ymB ygT ydA;simp only[yan,yZ,y9,ycf]
 cases hm:memOk a0
 ·rfl
 have h1: ∀k,yis (yKu k a0.2.1 a0.2.1.length 0 noMem a0)=some (.inl (yxL noMem (ygS (fun i=>decide (i<20)&&yNc k i) a0.2.1 a0.1,a0.2))):=fun k =>
  zj6 (step:=ybs) a0.2.1.length (fun i s=>yob k a0.2.1 a0.2.1.length i noMem (s,a0.2)) (yfa (fun i=>decide (i<20)&&yNc k i) a0.2.1) (fun i s=>s.length=a0.1.length) (fun s=> .inl (yxL noMem (s,a0.2))) (fun i s hi hs=>by
   have hw:=(yRy hm hi).1;refine⟨?_,ywC.trans hs⟩;simp only[ybs,yob,yop,zj2 (show(i:Int)<a0.2.1.length by omega),cond_true,wr (show -9223372036854775808≤(i:Int)+1 by omega) (by omega),Int.natCast_add,Int.natCast_one,Int.toNat_natCast,zku (show(0:Int)≤i by omega),zkj hi,hs,hw,yfa,yo];rw[show yNc k i=(IntKind.i64.wrap ((BitVec.ofInt IntKind.i64.bits (k.fdiv (2^(min i IntKind.i64.bits))) &&& BitVec.ofInt IntKind.i64.bits 1).toNat:Int)==1)from rfl]
   by_cases h20:i<20
   ·rw[zj2 (show(i:Int)<20 by omega),decide_eq_true h20]
    cases(IntKind.i64.wrap ((BitVec.ofInt IntKind.i64.bits (k.fdiv (2^(min i IntKind.i64.bits))) &&& BitVec.ofInt IntKind.i64.bits 1).toNat:Int)==1)<;>rfl
   ·rw[zkv (show(20:Int)≤i by omega),decide_eq_false h20]; rfl) (fun s hs=>by simp only[ybs,yob,yop,zkv (Int.le_refl _),cond_false]) a0.1 rfl _ (by show _<18446744073709551616; omega)
 unfold yVo;rw[h1 0,h1 a1]
 cases(leb 0 a1&&leb a1 1048575)<;>rfl
def yCZ:Con:=⟨ygG,yq9,fun x=>(fun n=>some ((n,()),())) (ygT x.1 x.2.1)⟩
theorem yWG:ConOk prog 103 yCZ:=(ySr).mono (fun x r hk h=>(yVE x.1 x.2.1 hk).trans h)
end
section
def ysN:Code:=(f32.body).getD .skip
def yyE:Env:=zj0 TT [(103,yCZ)] []
theorem yYe:FrOk prog ⟨yyE,33,fun _=>none⟩ ysN:=zj4 yc yd ⟨yWG,trivial⟩
def yJp:Nat→Option Seg:=fun _=>none
def yeu:Shape:=⟨[(1,false,[.br tI]),(5,false,[.at 800000000]),(10,false,[.br tM]),(11,false,[.int .i64]),(12,false,[.int .i64])],[],[(800000000,tM,(.pr (.ow (.ow .fz)) (.pr (.ow (.pr .fz (.ow .fz))) (.pr .fz (.ow .fz)))))]⟩
def ylf:Shape:=⟨[(1,false,[.br tI]),(5,false,[.at 800000000]),(10,false,[.br tM]),(11,false,[.int .i64]),(12,false,[.ci .i64 0])],[],[(800000000,tM,(.pr (.ow (.ow .fz)) (.pr (.ow (.pr .fz (.ow .fz))) (.pr .fz (.ow .fz)))))]⟩
def ylb:Shape:=⟨[(5,false,[.at 800000000])],[],[(800000000,tM,(.pr (.ow (.ow .fz)) (.pr (.ow (.pr .fz (.ow .fz))) (.pr .fz (.ow .fz)))))]⟩
def yrr:Shape:=⟨[],[],[]⟩
abbrev ywE (v0:List Int) (v1:List dM) (v2 v3:Int) (v4:List dM):(yeu).X:=(((v0,()),((),()),(v1,()),(v2,()),(v3,()),()),(),(v4,()))
abbrev yVx (v0:List Int) (v1:List dM) (v2:Int) (v3:List dM):(ylf).X:=(((v0,()),((),()),(v1,()),(v2,()),((),()),()),(),(v3,()))
abbrev yGa (v0:List dM):(ylb).X:=((((),()),()),(),(v0,()))
def yxe (v0:List Int) (v1:List dM) (v2 v3:Int) (v4:List dM):Option ((yeu).X ⊕ ((ylb).X ⊕ (yrr).X)) :=
 bif(ltb v3 v2)then
 bif(inb v3 v1.length)then
 bif(ltb v3 (v0.length:Int))then
 bif(inb v3 v0.length)then
 let r3:=ygT ((nth v1 v3 ([],[],false,[])).1,((nth v1 v3 ([],[],false,[])).2).1,(((nth v1 v3 ([],[],false,[])).2).2)) (nth v0 v3 0)
 bif(zjO v4.length ([r3]:List dM).length 80)then
 some (.inl (((v0,()),((),()),(v1,()),(v2,()),((IntKind.i64.wrap (v3+1)),()),()),(),((v4++([r3]:List dM)),())))
 else none
 else none
 else
 let r4:=ygT ((nth v1 v3 ([],[],false,[])).1,((nth v1 v3 ([],[],false,[])).2).1,(((nth v1 v3 ([],[],false,[])).2).2)) 0
 bif(zjO v4.length ([r4]:List dM).length 80)then
 some (.inl (((v0,()),((),()),(v1,()),(v2,()),((IntKind.i64.wrap (v3+1)),()),()),(),((v4++([r4]:List dM)),())))
 else none
 else none
 else
 some (.inr (.inl ((((),()),()),(),(v4,()))))
def yeF (x:(yeu).X):=yxe x.1.1.1 x.1.2.2.1.1 x.1.2.2.2.1.1 x.1.2.2.2.2.1.1 x.2.2.1
def yFY (x:(ylf).X):(yeu).X:=(((x.1.1.1,()),((),()),(x.1.2.2.1.1,()),(x.1.2.2.2.1.1,()),(0,()),()),(),(x.2.2.1,()))
def yHy:Code:=(zef ysN 64 116).getD .skip
theorem yXB:zef ysN 64 29=some (.block 0 (.loop yHy)):=by kernel_rfl
theorem yZK (x:(yeu).X):zg0 ⟨yyE,33,yJp⟩ 0 yHy 116 yeu ylb yrr x=yeF x:=by kernel_rfl
def yF2 (x:(ylf).X):Nat:=18446744073709551616
def yx2 (x:(ylf).X):Option ((ylb).X ⊕ (yrr).X):=zz yeF (yF2 x) (yFY x)
def yGk:Seg:=⟨ylf,ylb,yrr,yx2⟩
def yJq:Nat→Option Seg:=fun q=>bif Nat.beq q 29 then some yGk else yJp q
theorem yYf:FrOk prog ⟨yyE,33,yJq⟩ ysN:=(yYe).loop (sg:=yGk) yeu yFY (by decide) yXB yeF yF2 (by decide) (fun _=>rfl) (fun x r _ h=>h) yZK
abbrev ynY:List Par:= [.rd tMs,.rd tL]
abbrev yyH:List OT:= [⟨false,tMs,(.ow (.pr (.ow (.ow .fz)) (.pr (.ow (.pr .fz (.ow .fz))) (.pr .fz (.ow .fz)))))⟩]
def ytV (a0:List dM) (a1:List Int):Option (ResD yyH×MutD ynY) :=
 zjW (yx2 (((a1,()),((),()),(a0,()),((a0.length:Int),()),((),()),()),(),(([]:List dM),()))) (fun y4 =>
 some ((y4.2.2.1,()),())) (fun y4 =>
 none)
theorem y3a (x:InD ynY):zju ⟨yyE,33,yJq⟩ f32.results.toList ysN ynY yyH x=ytV x.1 x.2.1:=by kernel_rfl
theorem y1y:ConOk prog 32 ⟨ynY,yyH,fun x=>ytV x.1 x.2.1⟩:=zjZ (yYf) func32 (by kernel_rfl) (by kernel_rfl) ntmps32.symm (by decide) (fun x r h=>(y3a x).trans h)
def ys1 (a0:List dM) (a1:List Int):List dM:=yJ a0 a1
theorem y2M (a0:List dM) (a1:List Int) (hk:zi0 ynY (a0,a1,())):ytV a0 a1=(fun n=>some ((n,()),())) (ys1 a0 a1):=by
 have hb:a0.length*80≤2^47:=hk.1.1
 have h1:yx2 (yVx a1 a0 a0.length [])=some (.inl (yGa ((List.range a0.length).foldl (fun s (i:Nat)=>s++ [ydA (nth a0 i noMem) (yMb a1 i)]) []))) :=
  zj6 (step:=yeF) a0.length (fun i s=>ywE a1 a0 a0.length i s) (fun s (i:Nat)=>s++ [ydA (nth a0 i noMem) (yMb a1 i)]) (fun i s=>s.length=i) (fun s=> .inl (yGa s)) (fun i s hi hs=>⟨by
   simp only[yeF,ywE,yxe,zj2 (show(i:Int)<a0.length by omega),cond_true,wr (show -9223372036854775808≤(i:Int)+1 by omega) (by omega),Int.natCast_add,Int.natCast_one,Int.toNat_natCast,zkj hi,zkp,ygT,yMb];rw[zj8.2 (show(s.length+ [ydA (nth a0 i ([],[],false,[])) (nth a1 i 0)].length)*80≤140737488355328 by simp only[List.length_cons,List.length_nil]; omega),zj8.2 (show(s.length+ [ydA (nth a0 i ([],[],false,[])) 0].length)*80≤140737488355328 by simp only[List.length_cons,List.length_nil]; omega)]
   by_cases h:i<a1.length
   ·rw[zj2 (show(i:Int)<a1.length by omega),zkj h,decide_eq_true h]; rfl
   ·rw[zkv (show(a1.length:Int)≤i by omega),decide_eq_false h]; rfl,by simp[hs]⟩) (fun s hs=>by simp only[yeF,ywE,yxe,zkv (Int.le_refl _),cond_false]) [] rfl _ (by show _<18446744073709551616; omega)
 unfold ytV ys1 yJ;rw[h1,yrv]; rfl
def yJW:Con:=⟨ynY,yyH,fun x=>(fun n=>some ((n,()),())) (ys1 x.1 x.2.1)⟩
theorem y2S:ConOk prog 32 yJW:=(y1y).mono (fun x r hk h=>(y2M x.1 x.2.1 hk).trans h)
end
section
def yGB:Code:=(f19.body).getD .skip
def yHd:Env:=zj0 TT [(16,yA0),(28,yFF),(32,yJW),(81,yz)] []
theorem yN6:FrOk prog ⟨yHd,29,fun _=>none⟩ yGB:=zj4 yc yd ⟨ySS,yZn,y2S,yI,trivial⟩
def yP4:Nat→Option Seg:=fun _=>none
abbrev ygI:List Par:= [.rd tMs,.rd tL,.rd tI,.rd tI]
abbrev yrb:List OT:= [⟨false,tA,(.pr .fz (.pr (.pr .fz .fz) (.pr (.ow (.pr (.ow (.ow .fz)) (.pr (.ow (.pr .fz (.ow .fz))) (.pr .fz (.ow .fz))))) (.pr .fz (.pr .fz (.pr .fz (.pr .fz (.pr .fz (.pr (.ow (.pr .fz (.ow .fz))) (.pr .fz (.pr .fz .fz)))))))))))⟩,⟨false,tB,.fz⟩]
def ymE (a0:List dM) (a1:List Int) (a2 a3:Int):Option (ResD yrb×MutD ygI) :=
 let r1:=ys1 a0 a1
 let r2:=yjw r1 a2
 bif(!r2.2)then
 some (((0,(0,0),[],0,0,0,0,0,[],0,false,false),false,()),())
 else
 let r3:=ye a3 (-1) 1000
 bif r3 then
 let r4:=yie (r2.1.1,r2.1.2.1,r2.1.2.2.1,r2.1.2.2.2.1,r2.1.2.2.2.2.1,r2.1.2.2.2.2.2.1,r2.1.2.2.2.2.2.2.1,r2.1.2.2.2.2.2.2.2.1,r2.1.2.2.2.2.2.2.2.2.1,a3,r2.1.2.2.2.2.2.2.2.2.2.2)
 some ((r4,true,()),())
 else
 let r5:=yie r2.1
 some ((r5,true,()),())
theorem yXO (x:InD ygI):zju ⟨yHd,29,yP4⟩ f19.results.toList yGB ygI yrb x=ymE x.1 x.2.1 x.2.2.1 x.2.2.2.1:=by kernel_rfl
theorem ySu:ConOk prog 19 ⟨ygI,yrb,fun x=>ymE x.1 x.2.1 x.2.2.1 x.2.2.2.1⟩:=zjZ (yN6) func19 (by kernel_rfl) (by kernel_rfl) ntmps19.symm (by decide) (fun x r h=>(yXO x).trans h)
def ycK (a0:List dM) (a1:List Int) (a2 a3:Int):dA×Bool:=ymU a0 a1 a2 a3
theorem yVH (a0:List dM) (a1:List Int) (a2 a3:Int) (hk:zi0 ygI (a0,a1,a2,a3,())):ymE a0 a1 a2 a3=(fun n=>some ((n.1,n.2,()),())) (ycK a0 a1 a2 a3):=by
 unfold ymE ycK ymU;simp only[ys1,yjw,y9,ycf,yie]
 cases h:(yfP (yJ a0 a1) a2).2
 ·rfl
 ·cases(leb (-1) a3&&leb a3 1000)<;>rfl
def yC1:Con:=⟨ygI,yrb,fun x=>(fun n=>some ((n.1,n.2,()),())) (ycK x.1 x.2.1 x.2.2.1 x.2.2.2.1)⟩
theorem yWI:ConOk prog 19 yC1:=(ySu).mono (fun x r hk h=>(yVH x.1 x.2.1 x.2.2.1 x.2.2.2.1 hk).trans h)
end
section
def yEt:Code:=(f34.body).getD .skip
def yE5:Env:=zj0 TT [(55,ylu),(95,yuc)] []
theorem yLL:FrOk prog ⟨yE5,11,fun _=>none⟩ yEt:=zj4 yc yd ⟨ytR,yGd,trivial⟩
def yNs:Nat→Option Seg:=fun _=>none
abbrev yfp:List Par:= [.rd tA]
abbrev yoK:List OT:= [⟨false,tA,(.pr .fz (.pr (.pr .fz .fz) (.pr (.ow (.pr (.ow (.ow .fz)) (.pr (.ow (.pr .fz (.ow .fz))) (.pr .fz (.ow .fz))))) (.pr .fz (.pr .fz (.pr .fz (.pr .fz (.pr .fz (.pr (.ow (.pr .fz (.ow .fz))) (.pr .fz (.pr .fz .fz)))))))))))⟩]
def ykp (a0:dA):Option (ResD yoK×MutD yfp) :=
 let r1:=yeA a0
 let r2:=yam a0
 bif r2 then
 some (((r1.1,r1.2.1,r1.2.2.1,r1.2.2.2.1,r1.2.2.2.2.1,r1.2.2.2.2.2.1,r1.2.2.2.2.2.2.1,r1.2.2.2.2.2.2.2.1,r1.2.2.2.2.2.2.2.2.1,(-1),true,r1.2.2.2.2.2.2.2.2.2.2.2),()),())
 else
 some ((r1,()),())
theorem yUn (x:InD yfp):zju ⟨yE5,11,yNs⟩ f34.results.toList yEt yfp yoK x=ykp x.1:=by kernel_rfl
theorem yO8:ConOk prog 34 ⟨yfp,yoK,fun x=>ykp x.1⟩:=zjZ (yLL) func34 (by kernel_rfl) (by kernel_rfl) ntmps34.symm (by decide) (fun x r h=>(yUn x).trans h)
def ybP (a0:dA):dA:=bif yR a0 then y6M a0 else a0
theorem yR9 (a0:dA) (hk:zi0 yfp (a0,())):ykp a0=(fun n=>some ((n,()),())) (ybP a0):=by
 unfold ykp ybP yam yeA
 cases yR a0<;>rfl
def yA3:Con:=⟨yfp,yoK,fun x=>(fun n=>some ((n,()),())) (ybP x.1)⟩
theorem ySV:ConOk prog 34 yA3:=(yO8).mono (fun x r hk h=>(yR9 x.1 hk).trans h)
end
section
def yI7:Code:=(f141.body).getD .skip
def yJF:Env:=zj0 TT [(87,ymn),(111,yv9),(168,ywb)] []
theorem yQW:FrOk prog ⟨yJF,38,fun _=>none⟩ yI7:=zj4 yc yd ⟨ywP,yH0,yH2,trivial⟩
def yTG:Nat→Option Seg:=fun _=>none
abbrev yfL:List Par:= [.rd tA,.rd tI,.rd tI]
abbrev ynv:List OT:= [⟨false,tI,.fz⟩,⟨false,tB,.fz⟩]
def ypt (a0:dA) (a1 a2:Int):Option (ResD ynv×MutD yfL) :=
 bif(inb a1 a0.2.2.1.length)then
 let r1:=ynF a2
 let r2:=ybo ((nth a0.2.2.1 a1 ([],[],false,[])).1,((nth a0.2.2.1 a1 ([],[],false,[])).2).1,(((nth a0.2.2.1 a1 ([],[],false,[])).2).2)) r1
 let r3:=yfT a0 a1 a2
 bif(!(!r3))then
 bif(!(!r2.2))then
 bif((r2.1.length:Int) !=1)then
 some ((0,false,()),())
 else
 bif(inb 0 r2.1.length)then
 some (((nth r2.1 0 0),true,()),())
 else none
 else
 some ((0,false,()),())
 else
 some ((0,false,()),())
 else none
theorem y0J (x:InD yfL):zju ⟨yJF,38,yTG⟩ f141.results.toList yI7 yfL ynv x=ypt x.1 x.2.1 x.2.2.1:=by kernel_rfl
theorem yWg:ConOk prog 141 ⟨yfL,ynv,fun x=>ypt x.1 x.2.1 x.2.2.1⟩:=zjZ (yQW) func141 (by kernel_rfl) (by kernel_rfl) ntmps141.symm (by decide) (fun x r h=>(y0J x).trans h)
def yif (a0:dA) (a1 a2:Int):Int×Bool:=(yjV a0 a1 a2,yn a0 a1 a2)
def yAg (a0:dA) (a1 a2:Int):Bool:=inb a1 a0.2.2.1.length
theorem yYB (a0:dA) (a1 a2:Int) (hk:zi0 yfL (a0,a1,a2,())) (hq:yAg a0 a1 a2=true):ypt a0 a1 a2=(fun n=>some ((n.1,n.2,()),())) (yif a0 a1 a2):=by
 unfold ypt yif yjV yfT;simp only[zkp,yHV,ybo];rw[show yn a0 a1 a2=(yb9 a0 a1 a2&&((ycY a0 a1 a2).2&&((ycY a0 a1 a2).1.length:Int)==1))from rfl];rw[show yy (nth a0.2.2.1 a1 ([],[],false,[])) (dataAt a2)=ycY a0 a1 a2 from rfl];rw[show inb a1 a0.2.2.1.length=true from hq]
 cases hl:yb9 a0 a1 a2
 ·rfl
 ·cases(ycY a0 a1 a2).2
  ·rfl
  ·rw[bne]
   cases h1:(((ycY a0 a1 a2).1.length:Int)==1)
   ·rfl
   ·rw[show inb 0 (ycY a0 a1 a2).1.length=true from zjA.2 (by have:=beq_iff_eq.1 h1; omega)]; rfl
def ynQ (a0:dA) (a1 a2:Int):Option (ResD ynv×MutD yfL):=bif yAg a0 a1 a2 then(fun n=>some ((n.1,n.2,()),())) (yif a0 a1 a2)else none
theorem yIa (a0:dA) (a1 a2:Int) (h:yAg a0 a1 a2=true):ynQ a0 a1 a2=(fun n=>some ((n.1,n.2,()),())) (yif a0 a1 a2):=by unfold ynQ; rw[h]; rfl
def ywf:Con:=⟨yfL,ynv,fun x=>ynQ x.1 x.2.1 x.2.2.1⟩
theorem yH5:ConOk prog 141 ywf:=(yWg).mono (fun x r hk h=>zkq h (fun hq=>yYB x.1 x.2.1 x.2.2.1 hk hq))
end
section
def ypI:Code:=(f122.body).getD .skip
def yvn:Env:=zj0 TT [(141,ywf),(185,yrt)] []
theorem yUU:FrOk prog ⟨yvn,33,fun _=>none⟩ ypI:=zj4 yc yd ⟨yH5,yAe,trivial⟩
def yGV:Nat→Option Seg:=fun _=>none
def yc8:Shape:=⟨[(1,false,[.int .i64]),(2,false,[.ptr 0 0]),(6,false,[.at 800000000]),(13,false,[.int .i64]),(14,false,[.int .i64])],[(0,[.int .i64,.int .i64,.int .i64,.br tM,.int .i64,.int .i64,.int .i64,.int .i64,.int .i64,.br tW,.int .i64,.bool,.bool])],[(800000000,tI,.fz)]⟩
def yiS:Shape:=⟨[(1,false,[.int .i64]),(2,false,[.ptr 0 0]),(6,false,[.at 800000000]),(13,false,[.int .i64]),(14,false,[.ci .i64 0])],[(0,[.int .i64,.int .i64,.int .i64,.br tM,.int .i64,.int .i64,.int .i64,.int .i64,.int .i64,.br tW,.int .i64,.bool,.bool])],[(800000000,tI,.fz)]⟩
def yiD:Shape:=⟨[(6,false,[.at 800000000])],[],[(800000000,tI,.fz)]⟩
def yjh:Shape:=⟨[(4,false,[.int .i64]),(5,false,[.bool])],[],[]⟩
abbrev yun (v0 v1 v2:Int) (v3:dA) (v4:List Int):(yc8).X:=(((v0,()),((),()),((),()),(v1,()),(v2,()),()),((v3.1,v3.2.1.1,v3.2.1.2,v3.2.2.1,v3.2.2.2.1,v3.2.2.2.2.1,v3.2.2.2.2.2.1,v3.2.2.2.2.2.2.1,v3.2.2.2.2.2.2.2.1,v3.2.2.2.2.2.2.2.2.1,v3.2.2.2.2.2.2.2.2.2.1,v3.2.2.2.2.2.2.2.2.2.2.1,v3.2.2.2.2.2.2.2.2.2.2.2,()),()),(v4,()))
abbrev yRL (v0 v1:Int) (v2:dA) (v3:List Int):(yiS).X:=(((v0,()),((),()),((),()),(v1,()),((),()),()),((v2.1,v2.2.1.1,v2.2.1.2,v2.2.2.1,v2.2.2.2.1,v2.2.2.2.2.1,v2.2.2.2.2.2.1,v2.2.2.2.2.2.2.1,v2.2.2.2.2.2.2.2.1,v2.2.2.2.2.2.2.2.2.1,v2.2.2.2.2.2.2.2.2.2.1,v2.2.2.2.2.2.2.2.2.2.2.1,v2.2.2.2.2.2.2.2.2.2.2.2,()),()),(v3,()))
abbrev yDL (v0:List Int):(yiD).X:=((((),()),()),(),(v0,()))
abbrev yRZ (v0:Int) (v1:Bool):(yjh).X:=(((v0,()),(v1,()),()),(),())
def yuJ (v0 v1 v2 v3 v4 v5:Int) (v6:List dM) (v7 v8 v9 v10 v11:Int) (v12:List dW) (v13:Int) (v14 v15:Bool) (v16:List Int):Option ((yc8).X ⊕ ((yiD).X ⊕ (yjh).X)) :=
 bif(ltb v2 v1)then
 bnd (ynQ (v3,(v4,v5),v6,v7,v8,v9,v10,v11,v12,v13,v14,v15) v2 v0) fun r2 =>
 bif(!r2.1.2.1)then
 some (.inr (.inr (((0,()),(false,()),()),(),())))
 else
 bif(zjO v16.length ([r2.1.1]:List Int).length 8)then
 some (.inl (((v0,()),((),()),((),()),(v1,()),((IntKind.i64.wrap (v2+1)),()),()),((v3,v4,v5,v6,v7,v8,v9,v10,v11,v12,v13,v14,v15,()),()),((v16++([r2.1.1]:List Int)),())))
 else none
 else
 some (.inr (.inl ((((),()),()),(),(v16,()))))
def ydI (x:(yc8).X):=yuJ x.1.1.1 x.1.2.2.2.1.1 x.1.2.2.2.2.1.1 x.2.1.1.1 x.2.1.1.2.1 x.2.1.1.2.2.1 x.2.1.1.2.2.2.1 x.2.1.1.2.2.2.2.1 x.2.1.1.2.2.2.2.2.1 x.2.1.1.2.2.2.2.2.2.1 x.2.1.1.2.2.2.2.2.2.2.1 x.2.1.1.2.2.2.2.2.2.2.2.1 x.2.1.1.2.2.2.2.2.2.2.2.2.1 x.2.1.1.2.2.2.2.2.2.2.2.2.2.1 x.2.1.1.2.2.2.2.2.2.2.2.2.2.2.1 x.2.1.1.2.2.2.2.2.2.2.2.2.2.2.2.1 x.2.2.1
def yDj (x:(yiS).X):(yc8).X:=(((x.1.1.1,()),((),()),((),()),(x.1.2.2.2.1.1,()),(0,()),()),((x.2.1.1.1,x.2.1.1.2.1,x.2.1.1.2.2.1,x.2.1.1.2.2.2.1,x.2.1.1.2.2.2.2.1,x.2.1.1.2.2.2.2.2.1,x.2.1.1.2.2.2.2.2.2.1,x.2.1.1.2.2.2.2.2.2.2.1,x.2.1.1.2.2.2.2.2.2.2.2.1,x.2.1.1.2.2.2.2.2.2.2.2.2.1,x.2.1.1.2.2.2.2.2.2.2.2.2.2.1,x.2.1.1.2.2.2.2.2.2.2.2.2.2.2.1,x.2.1.1.2.2.2.2.2.2.2.2.2.2.2.2.1,()),()),(x.2.2.1,()))
def yFq:Code:=(zef ypI 64 116).getD .skip
theorem yT1:zef ypI 64 29=some (.block 0 (.loop yFq)):=by kernel_rfl
theorem yW6 (x:(yc8).X):zg0 ⟨yvn,33,yGV⟩ 0 yFq 116 yc8 yiD yjh x=ydI x:=by kernel_rfl
def yDz (x:(yiS).X):Nat:=18446744073709551616
def yvz (x:(yiS).X):Option ((yiD).X ⊕ (yjh).X):=zz ydI (yDz x) (yDj x)
def yD8:Seg:=⟨yiS,yiD,yjh,yvz⟩
def yGW:Nat→Option Seg:=fun q=>bif Nat.beq q 29 then some yD8 else yGV q
theorem yUV:FrOk prog ⟨yvn,33,yGW⟩ ypI:=(yUU).loop (sg:=yD8) yc8 yDj (by decide) yT1 ydI yDz (by decide) (fun _=>rfl) (fun x r _ h=>h) yW6
abbrev ykV:List Par:= [.rd tA,.rd tI]
abbrev yvS:List OT:= [⟨false,tI,.fz⟩,⟨false,tB,.fz⟩]
def yrO (a0:dA) (a1:Int):Option (ResD yvS×MutD ykV) :=
 zjW (yvz (((a1,()),((),()),((),()),((a0.2.2.1.length:Int),()),((),()),()),((a0.1,a0.2.1.1,a0.2.1.2,a0.2.2.1,a0.2.2.2.1,a0.2.2.2.2.1,a0.2.2.2.2.2.1,a0.2.2.2.2.2.2.1,a0.2.2.2.2.2.2.2.1,a0.2.2.2.2.2.2.2.2.1,a0.2.2.2.2.2.2.2.2.2.1,a0.2.2.2.2.2.2.2.2.2.2.1,a0.2.2.2.2.2.2.2.2.2.2.2,()),()),(([]:List Int),()))) (fun y2 =>
 let r4:=ycb y2.2.2.1
 some ((r4,true,()),())) (fun y2 =>
 some ((y2.1.1.1,y2.1.2.1.1,()),()))
theorem y2e (x:InD ykV):zju ⟨yvn,33,yGW⟩ f122.results.toList ypI ykV yvS x=yrO x.1 x.2.1:=by kernel_rfl
theorem yY3:ConOk prog 122 ⟨ykV,yvS,fun x=>yrO x.1 x.2.1⟩:=zjZ (yUV) func122 (by kernel_rfl) (by kernel_rfl) ntmps122.symm (by decide) (fun x r h=>(y2e x).trans h)
def yqA (a0:dA) (a1:Int):Int×Bool:=ytZ a0 a1
theorem y1i (a0:dA) (a1:Int) (hk:zi0 ykV (a0,a1,())):yrO a0 a1=(fun n=>some ((n.1,n.2,()),())) (yqA a0 a1):=by
 have hb:a0.2.2.1.length*80≤2^47:=hk.1.2.2.1.1
 have h1:yvz (yRL a1 a0.2.2.1.length a0 [])=some (bif yCL a0 a1 then .inl (yDL ((List.range a0.2.2.1.length).foldl (fun n (i:Nat)=>n++ [yjV a0 i a1]) []))else .inr (yRZ 0 false)) :=
  zhq (step:=ydI) a0.2.2.1.length (fun i s=>yun a1 a0.2.2.1.length i a0 s) (fun(i:Nat)=>yn a0 i a1) (fun n (i:Nat)=>n++ [yjV a0 i a1]) (fun i s=>s.length=i) (fun s=> .inl (yDL s)) _ (fun i s hi hs=>⟨by
   simp only[ydI,yun,yuJ,zj2 (show(i:Int)<a0.2.2.1.length by omega),cond_true,wr (show -9223372036854775808≤(i:Int)+1 by omega) (by omega),Int.natCast_add,Int.natCast_one,Int.toNat_natCast,zkp,yIa a0 i a1 (zkj hi),yif,zka];rw[show zjO s.length ([yjV a0 i a1]:List Int).length 8=true from zj8.2 (by simp only[List.length_cons,List.length_nil]; omega)]
   cases yn a0 i a1<;>rfl,fun _=>by simp[hs]⟩) (fun s _=>by simp only[ydI,yun,yuJ,zkv (Int.le_refl _),cond_false]) [] rfl _ (by show _<18446744073709551616; omega)
 unfold yrO yqA ytZ ycb;rw[h1,yrv,List.nil_append]
 cases yCL a0 a1<;>rfl
def yHD:Con:=⟨ykV,yvS,fun x=>(fun n=>some ((n.1,n.2,()),())) (yqA x.1 x.2.1)⟩
theorem y1E:ConOk prog 122 yHD:=(yY3).mono (fun x r hk h=>(y1i x.1 x.2.1 hk).trans h)
end
section
def ysM:Code:=(f48.body).getD .skip
def yyD:Env:=zj0 TT [(122,yHD)] []
theorem yYc:FrOk prog ⟨yyD,28,fun _=>none⟩ ysM:=zj4 yc yd ⟨y1E,trivial⟩
def yJn:Nat→Option Seg:=fun _=>none
def yet:Shape:=⟨[(1,false,[.ptr 0 0]),(3,false,[.int .i64])],[(0,[.int .i64,.int .i64,.int .i64,.br tM,.int .i64,.int .i64,.int .i64,.int .i64,.int .i64,.br tW,.int .i64,.bool,.bool])],[]⟩
def yle:Shape:=⟨[(1,false,[.ptr 0 0]),(3,false,[.ci .i64 0])],[(0,[.int .i64,.int .i64,.int .i64,.br tM,.int .i64,.int .i64,.int .i64,.int .i64,.int .i64,.br tW,.int .i64,.bool,.bool])],[]⟩
def yla:Shape:=⟨[],[],[]⟩
def ylq:Shape:=⟨[(2,false,[.bool])],[],[]⟩
abbrev ywD (v0:Int) (v1:dA):(yet).X:=((((),()),(v0,()),()),((v1.1,v1.2.1.1,v1.2.1.2,v1.2.2.1,v1.2.2.2.1,v1.2.2.2.2.1,v1.2.2.2.2.2.1,v1.2.2.2.2.2.2.1,v1.2.2.2.2.2.2.2.1,v1.2.2.2.2.2.2.2.2.1,v1.2.2.2.2.2.2.2.2.2.1,v1.2.2.2.2.2.2.2.2.2.2.1,v1.2.2.2.2.2.2.2.2.2.2.2,()),()),())
abbrev yVw (v0:dA):(yle).X:=((((),()),((),()),()),((v0.1,v0.2.1.1,v0.2.1.2,v0.2.2.1,v0.2.2.2.1,v0.2.2.2.2.1,v0.2.2.2.2.2.1,v0.2.2.2.2.2.2.1,v0.2.2.2.2.2.2.2.1,v0.2.2.2.2.2.2.2.2.1,v0.2.2.2.2.2.2.2.2.2.1,v0.2.2.2.2.2.2.2.2.2.2.1,v0.2.2.2.2.2.2.2.2.2.2.2,()),()),())
abbrev yVt  :(yla).X:=((),(),())
abbrev yVA (v0:Bool):(ylq).X:=(((v0,()),()),(),())
def yxd (v0 v1 v2 v3:Int) (v4:List dM) (v5 v6 v7 v8 v9:Int) (v10:List dW) (v11:Int) (v12 v13:Bool):Option ((yet).X ⊕ ((yla).X ⊕ (ylq).X)) :=
 bif(ltb v0 v3)then
 bif(ltb v0 20)then
 let r2:=yqA (v1,(v2,v3),v4,v5,v6,v7,v8,v9,v10,v11,v12,v13) v0
 bif r2.2 then
 bif(r2.1 !=0)then
 some (.inr (.inr (((false,()),()),(),())))
 else
 some (.inl ((((),()),((IntKind.i64.wrap (v0+1)),()),()),((v1,v2,v3,v4,v5,v6,v7,v8,v9,v10,v11,v12,v13,()),()),()))
 else
 some (.inl ((((),()),((IntKind.i64.wrap (v0+1)),()),()),((v1,v2,v3,v4,v5,v6,v7,v8,v9,v10,v11,v12,v13,()),()),()))
 else
 some (.inr (.inl ((),(),())))
 else
 some (.inr (.inl ((),(),())))
def yeE (x:(yet).X):=yxd x.1.2.1.1 x.2.1.1.1 x.2.1.1.2.1 x.2.1.1.2.2.1 x.2.1.1.2.2.2.1 x.2.1.1.2.2.2.2.1 x.2.1.1.2.2.2.2.2.1 x.2.1.1.2.2.2.2.2.2.1 x.2.1.1.2.2.2.2.2.2.2.1 x.2.1.1.2.2.2.2.2.2.2.2.1 x.2.1.1.2.2.2.2.2.2.2.2.2.1 x.2.1.1.2.2.2.2.2.2.2.2.2.2.1 x.2.1.1.2.2.2.2.2.2.2.2.2.2.2.1 x.2.1.1.2.2.2.2.2.2.2.2.2.2.2.2.1
def yFX (x:(yle).X):(yet).X:=((((),()),(0,()),()),((x.2.1.1.1,x.2.1.1.2.1,x.2.1.1.2.2.1,x.2.1.1.2.2.2.1,x.2.1.1.2.2.2.2.1,x.2.1.1.2.2.2.2.2.1,x.2.1.1.2.2.2.2.2.2.1,x.2.1.1.2.2.2.2.2.2.2.1,x.2.1.1.2.2.2.2.2.2.2.2.1,x.2.1.1.2.2.2.2.2.2.2.2.2.1,x.2.1.1.2.2.2.2.2.2.2.2.2.2.1,x.2.1.1.2.2.2.2.2.2.2.2.2.2.2.1,x.2.1.1.2.2.2.2.2.2.2.2.2.2.2.2.1,()),()),())
def yHx:Code:=(zef ysM 64 52).getD .skip
theorem yXA:zef ysM 64 13=some (.block 0 (.loop yHx)):=by kernel_rfl
theorem yZJ (x:(yet).X):zg0 ⟨yyD,28,yJn⟩ 0 yHx 52 yet yla ylq x=yeE x:=by kernel_rfl
def yF1 (x:(yle).X):Nat:=18446744073709551616
def yx1 (x:(yle).X):Option ((yla).X ⊕ (ylq).X):=zz yeE (yF1 x) (yFX x)
def yGj:Seg:=⟨yle,yla,ylq,yx1⟩
def yJo:Nat→Option Seg:=fun q=>bif Nat.beq q 13 then some yGj else yJn q
theorem yYd:FrOk prog ⟨yyD,28,yJo⟩ ysM:=(yYc).loop (sg:=yGj) yet yFX (by decide) yXA yeE yF1 (by decide) (fun _=>rfl) (fun x r _ h=>h) yZJ
abbrev ynX:List Par:= [.rd tA]
abbrev yyG:List OT:= [⟨false,tB,.fz⟩]
def ytU (a0:dA):Option (ResD yyG×MutD ynX) :=
 zjW (yx1 ((((),()),((),()),()),((a0.1,a0.2.1.1,a0.2.1.2,a0.2.2.1,a0.2.2.2.1,a0.2.2.2.2.1,a0.2.2.2.2.2.1,a0.2.2.2.2.2.2.1,a0.2.2.2.2.2.2.2.1,a0.2.2.2.2.2.2.2.2.1,a0.2.2.2.2.2.2.2.2.2.1,a0.2.2.2.2.2.2.2.2.2.2.1,a0.2.2.2.2.2.2.2.2.2.2.2,()),()),())) (fun y2 =>
 some ((true,()),())) (fun y2 =>
 some ((y2.1.1.1,()),()))
theorem y29 (x:InD ynX):zju ⟨yyD,28,yJo⟩ f48.results.toList ysM ynX yyG x=ytU x.1:=by kernel_rfl
theorem y1x:ConOk prog 48 ⟨ynX,yyG,fun x=>ytU x.1⟩:=zjZ (yYd) func48 (by kernel_rfl) (by kernel_rfl) ntmps48.symm (by decide) (fun x r h=>(y29 x).trans h)
def yeM (a0:dA):Bool:=y1T a0
theorem y2L (a0:dA) (hk:zi0 ynX (a0,())):ytU a0=(fun n=>some ((n,()),())) (yeM a0):=by
 have h1:yx1 (yVw a0)=some (bif(List.range (min a0.2.1.2.toNat 20)).any (fun(s:Nat)=>(ytZ a0 s).2&&(ytZ a0 s).1 !=0)then .inr (yVA false)else .inl yVt) :=
  ziM (step:=yeE) (fun i=>ywD i a0) (min a0.2.1.2.toNat 20) _ _ _ (fun i hi=>by
   simp only[yeE,ywD,yxd,zj2 (show(i:Int)<a0.2.1.2 by omega),cond_true,wr (show -9223372036854775808≤(i:Int)+1 by omega) (by omega),Int.natCast_add,Int.natCast_one,Int.toNat_natCast,zj2 (show(i:Int)<20 by omega),zkp,yqA]
   cases(ytZ a0 i).2<;>cases((ytZ a0 i).1 !=0)<;>rfl) (by
   simp only[yeE,ywD,yxd]
   by_cases h:a0.2.1.2≤((min a0.2.1.2.toNat 20:Nat):Int)
   ·rw[zkv h]; rfl
   ·rw[zj2 (by omega),zkv (show(20:Int)≤((min a0.2.1.2.toNat 20:Nat):Int)by omega)]; rfl) _ (by show _<18446744073709551616; omega)
 unfold ytU yeM y1T;rw[h1,List.all_eq_not_any_not]; simp only[Bool.not_not]
 cases(List.range (min a0.2.1.2.toNat 20)).any (fun(s:Nat)=>(ytZ a0 s).2&&(ytZ a0 s).1 !=0)<;>rfl
def yJV:Con:=⟨ynX,yyG,fun x=>(fun n=>some ((n,()),())) (yeM x.1)⟩
theorem y2R:ConOk prog 48 yJV:=(y1x).mono (fun x r hk h=>(y2L x.1 hk).trans h)
end
end
end Go.Tf
