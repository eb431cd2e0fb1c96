/- Functions of the program, and what they come to. -/
import Derived.Test.YtgmadfpnljibhaaGreatBlocksBentF3
namespace Go.Tf
noncomputable section
open Go.Proofs
set_option synthInstance.maxHeartbeats 400000
set_option synthInstance.maxSize 10000
set_option linter.unusedVariables false
set_option linter.unusedSimpArgs false
set_option maxRecDepth 100000
section
def ycW:Code:=(Tryz.f219.body).getD .skip
def yhl:Env:=zj3 TT [(200,yaS)] []
theorem yQv:FrOk Tryz.prog ⟨yhl,49,fun _=>none⟩ ycW:=zj7 yb yc ⟨ycT,trivial⟩
def yDN:Nat→Option Seg:=fun _=>none
def ybX:Shape:=⟨[(1,false,[.ptr 0 0]),(2,false,[.ptr 64 0]),(3,false,[.ptr 4480 0]),(15,false,[.br tL]),(16,false,[.int .i64]),(17,false,[.int .i64])],[(0,[.br tL,.br tW,.bool,.br tI]),(64,[.nil,.nil,.bool,.nil]),(4480,[.at 800000001,.nil,.bool,.at 800000000])],[(800000001,tL,(.ow .fz)),(800000000,tI,.fz)]⟩
def ygP:Shape:=⟨[(1,false,[.ptr 0 0]),(2,false,[.ptr 64 0]),(3,false,[.ptr 4480 0]),(15,false,[.br tL]),(16,false,[.int .i64]),(17,false,[.ci .i64 0])],[(0,[.br tL,.br tW,.bool,.br tI]),(64,[.nil,.nil,.bool,.nil]),(4480,[.at 800000001,.nil,.bool,.at 800000000])],[(800000001,tL,(.ow .fz)),(800000000,tI,.fz)]⟩
def ygD:Shape:=⟨[(1,false,[.ptr 0 0]),(2,false,[.ptr 64 0]),(3,false,[.ptr 4480 0])],[(0,[.br tL,.br tW,.bool,.br tI]),(64,[.nil,.nil,.bool,.nil]),(4480,[.at 800000000,.nil,.bool,.at 800000001])],[(800000000,tL,(.ow .fz)),(800000001,tI,.fz)]⟩
def yk2:Shape:=⟨[],[],[]⟩
abbrev yrz (v0:List (List Int)) (v1 v2:Int) (v3 v4 v5:dM):(ybX).X:=((((),()),((),()),((),()),(v0,()),(v1,()),(v2,()),()),((v3.1,v3.2.1,v3.2.2.1,v3.2.2.2,()),((),(),v4.2.2.1,(),()),((),(),v5.2.2.1,(),()),()),(v5.1,v5.2.2.2,()))
abbrev yOW (v0:List (List Int)) (v1:Int) (v2 v3 v4:dM):(ygP).X:=((((),()),((),()),((),()),(v0,()),(v1,()),((),()),()),((v2.1,v2.2.1,v2.2.2.1,v2.2.2.2,()),((),(),v3.2.2.1,(),()),((),(),v4.2.2.1,(),()),()),(v4.1,v4.2.2.2,()))
abbrev yA7 (v0 v1 v2:dM):(ygD).X:=((((),()),((),()),((),()),()),((v0.1,v0.2.1,v0.2.2.1,v0.2.2.2,()),((),(),v1.2.2.1,(),()),((),(),v2.2.2.1,(),()),()),(v2.1,v2.2.2.2,()))
def yrR (v0:List (List Int)) (v1 v2:Int) (v3:List (List Int)) (v4:List dW) (v5:Bool) (v6:List Int) (v7 v8:Bool) (v9:List (List Int)) (v10:List Int):Option ((ybX).X ⊕ ((ygD).X ⊕ (yk2).X)) :=
 bif (ltb v2 v1) then
 bif (inb v2 v0.length) then
 let r4:=yl (nth v0 v2 [])
 bif (zjR v9.length ([r4]:List (List Int)).length 24) then
 some (.inl ((((),()),((),()),((),()),(v0,()),(v1,()),((IntKind.i64.wrap (v2+1)),()),()),((v3,v4,v5,v6,()),((),(),v7,(),()),((),(),v8,(),()),()),((v9++([r4]:List (List Int))),v10,())))
 else none
 else none
 else
 some (.inr (.inl ((((),()),((),()),((),()),()),((v3,v4,v5,v6,()),((),(),v7,(),()),((),(),v8,(),()),()),(v9,v10,()))))
def ycf (x:(ybX).X):=yrR x.1.2.2.2.1.1 x.1.2.2.2.2.1.1 x.1.2.2.2.2.2.1.1 x.2.1.1.1 x.2.1.1.2.1 x.2.1.1.2.2.1 x.2.1.1.2.2.2.1 x.2.1.2.1.2.2.1 x.2.1.2.2.1.2.2.1 x.2.2.1 x.2.2.2.1
def yAF (x:(ygP).X):(ybX).X:=((((),()),((),()),((),()),(x.1.2.2.2.1.1,()),(x.1.2.2.2.2.1.1,()),(0,()),()),((x.2.1.1.1,x.2.1.1.2.1,x.2.1.1.2.2.1,x.2.1.1.2.2.2.1,()),((),(),x.2.1.2.1.2.2.1,(),()),((),(),x.2.1.2.2.1.2.2.1,(),()),()),(x.2.2.1,x.2.2.2.1,()))
def yCi:Code:=(zdD ycW 64 116).getD .skip
theorem yP9:zdD ycW 64 29=some (.block 0 (.loop yCi)):=by kernel_rfl
theorem yR4 (x:(ybX).X):zg0 ⟨yhl,49,yDN⟩ 0 yCi 116 ybX ygD yk2 x=ycf x:=by kernel_rfl
def yAU (x:(ygP).X):Nat:=18446744073709551616
def ys0 (x:(ygP).X):Option ((ygD).X ⊕ (yk2).X):=zz ycf (yAU x) (yAF x)
def yBk:Seg:=⟨ygP,ygD,yk2,ys0⟩
def yu3:Nat→Option Seg:=fun q=>bif Nat.beq q 29 then some yBk else yDN q
theorem yQw:FrOk Tryz.prog ⟨yhl,49,yu3⟩ ycW:=(yQv).loop (sg:=yBk) ybX yAF (by decide) yP9 ycf yAU (by decide) (fun _=>rfl) (fun x r _ h=>h) yR4
def ybY:Shape:=⟨[(2,false,[.ptr 64 0]),(3,false,[.ptr 4480 0]),(30,false,[.br tW]),(31,false,[.int .i64]),(32,false,[.int .i64])],[(64,[.nil,.nil,.bool,.nil]),(4480,[.at 800000000,.at 800000002,.bool,.at 800000001])],[(800000000,tL,(.ow .fz)),(800000002,tW,(.pr .fz (.ow .fz))),(800000001,tI,.fz)]⟩
def ygQ:Shape:=⟨[(2,false,[.ptr 64 0]),(3,false,[.ptr 4480 0]),(30,false,[.br tW]),(31,false,[.int .i64]),(32,false,[.ci .i64 0])],[(64,[.nil,.nil,.bool,.nil]),(4480,[.at 800000000,.at 800000002,.bool,.at 800000001])],[(800000000,tL,(.ow .fz)),(800000002,tW,(.pr .fz (.ow .fz))),(800000001,tI,.fz)]⟩
def ygE:Shape:=⟨[(2,false,[.ptr 64 0]),(3,false,[.ptr 4480 0])],[(64,[.nil,.nil,.bool,.nil]),(4480,[.at 800000000,.at 800000001,.bool,.at 800000002])],[(800000000,tL,(.ow .fz)),(800000001,tW,(.pr .fz (.ow .fz))),(800000002,tI,.fz)]⟩
def yk3:Shape:=⟨[],[],[]⟩
abbrev yrA (v0:List dW) (v1 v2:Int) (v3 v4:dM):(ybY).X:=((((),()),((),()),(v0,()),(v1,()),(v2,()),()),(((),(),v3.2.2.1,(),()),((),(),v4.2.2.1,(),()),()),(v4.1,v4.2.1,v4.2.2.2,()))
abbrev yOX (v0:List dW) (v1:Int) (v2 v3:dM):(ygQ).X:=((((),()),((),()),(v0,()),(v1,()),((),()),()),(((),(),v2.2.2.1,(),()),((),(),v3.2.2.1,(),()),()),(v3.1,v3.2.1,v3.2.2.2,()))
abbrev yA8 (v0 v1:dM):(ygE).X:=((((),()),((),()),()),(((),(),v0.2.2.1,(),()),((),(),v1.2.2.1,(),()),()),(v1.1,v1.2.1,v1.2.2.2,()))
def yrS (v0:List dW) (v1 v2:Int) (v3 v4:Bool) (v5:List (List Int)) (v6:List dW) (v7:List Int):Option ((ybY).X ⊕ ((ygE).X ⊕ (yk3).X)) :=
 bif (ltb v2 v1) then
 bif (inb v2 v0.length) then
 let r8:=yl ((nth v0 v2 (0,[])).2)
 bif (zjR v6.length ([((nth v0 v2 (0,[])).1,r8)]:List dW).length 32) then
 some (.inl ((((),()),((),()),(v0,()),(v1,()),((IntKind.i64.wrap (v2+1)),()),()),(((),(),v3,(),()),((),(),v4,(),()),()),(v5,(v6++([((nth v0 v2 (0,[])).1,r8)]:List dW)),v7,())))
 else none
 else none
 else
 some (.inr (.inl ((((),()),((),()),()),(((),(),v3,(),()),((),(),v4,(),()),()),(v5,v6,v7,()))))
def ycg (x:(ybY).X):=yrS x.1.2.2.1.1 x.1.2.2.2.1.1 x.1.2.2.2.2.1.1 x.2.1.1.2.2.1 x.2.1.2.1.2.2.1 x.2.2.1 x.2.2.2.1 x.2.2.2.2.1
def yAG (x:(ygQ).X):(ybY).X:=((((),()),((),()),(x.1.2.2.1.1,()),(x.1.2.2.2.1.1,()),(0,()),()),(((),(),x.2.1.1.2.2.1,(),()),((),(),x.2.1.2.1.2.2.1,(),()),()),(x.2.2.1,x.2.2.2.1,x.2.2.2.2.1,()))
def yCj:Code:=(zdD ycW 64 244).getD .skip
theorem yQa:zdD ycW 64 61=some (.block 2 (.loop yCj)):=by kernel_rfl
theorem yR5 (x:(ybY).X):zg0 ⟨yhl,49,yu3⟩ 2 yCj 244 ybY ygE yk3 x=ycg x:=by kernel_rfl
def yAV (x:(ygQ).X):Nat:=18446744073709551616
def ys1 (x:(ygQ).X):Option ((ygE).X ⊕ (yk3).X):=zz ycg (yAV x) (yAG x)
def yBl:Seg:=⟨ygQ,ygE,yk3,ys1⟩
def yDO:Nat→Option Seg:=fun q=>bif Nat.beq q 61 then some yBl else yu3 q
theorem yQx:FrOk Tryz.prog ⟨yhl,49,yDO⟩ ycW:=(yQw).loop (sg:=yBl) ybY yAG (by decide) yQa ycg yAV (by decide) (fun _=>rfl) (fun x r _ h=>h) yR5
abbrev yhq:List Par:= [.rd tM]
abbrev ysf:List OT:= [⟨false,tM,(.pr (.ow (.ow .fz)) (.pr (.ow (.pr .fz (.ow .fz))) (.pr .fz (.ow .fz))))⟩]
def ynA (a0:dM):Option (ResD ysf×MutD yhq) :=
 let r1:=yl a0.2.2.2
 zjZ (ys0 ((((),()),((),()),((),()),(a0.1,()),((a0.1.length:Int),()),((),()),()),((a0.1,a0.2.1,a0.2.2.1,a0.2.2.2,()),((),(),false,(),()),((),(),a0.2.2.1,(),()),()),([],r1,()))) (fun y4 =>
 zjZ (ys1 ((((),()),((),()),(y4.2.1.1.2.1,()),((y4.2.1.1.2.1.length:Int),()),((),()),()),(((),(),y4.2.1.2.1.2.2.1,(),()),((),(),y4.2.1.2.2.1.2.2.1,(),()),()),(y4.2.2.1,[],y4.2.2.2.1,()))) (fun y8 =>
 some (((y8.2.2.1,y8.2.2.2.1,y8.2.1.2.1.2.2.1,y8.2.2.2.2.1),()),())) (fun y8 =>
 none)) (fun y4 =>
 none)
theorem y0m (x:InD yhq):zjx ⟨yhl,49,yDO⟩ Tryz.f219.results.toList ycW yhq ysf x=ynA x.1:=by kernel_rfl
theorem yUW:ConOk Tryz.prog 219 ⟨yhq,ysf,fun x=>ynA x.1⟩:=zj2 (yQx) Tryz.func219 (by kernel_rfl) (by kernel_rfl) Tryz.ntmps219.symm (by decide) (fun x r h=>(y0m x).trans h)
def ybF (a0:dM):dM:=a0
theorem yYj (a0:dM) (hk:zi2 yhq (a0,())):ynA a0=(fun n=>some ((n,()),())) (ybF a0):=by
 have hb1:a0.1.length * 24≤2 ^ 47:=hk.1.1.1
 have hb2:a0.2.1.length * 32≤2 ^ 47:=hk.1.2.1.1
 have h1:ys0 (yOW a0.1 a0.1.length a0 noMem ([],[],a0.2.2.1,a0.2.2.2))=some (.inl (yA7 a0 noMem (a0.1,[],a0.2.2.1,a0.2.2.2))):=by
  have:=zj4 (step:=ycf) a0.1 [] (fun i s=>yrz a0.1 a0.1.length i a0 noMem (s,[],a0.2.2.1,a0.2.2.2)) (fun s x=>s++ [x]) (fun i s=>s.length=i) (fun s=> .inl (yA7 a0 noMem (s,[],a0.2.2.1,a0.2.2.2))) (fun i s hi hs2=>⟨by
   simp only [ycf,yrz,yrR,zj5 (show (i:Int) < a0.1.length by omega),cond_true,wr (show -9223372036854775808≤(i:Int)+1 by omega) (by omega),Int.natCast_add,Int.natCast_one,Int.toNat_natCast,zkm hi,zkn,yl]
   rw [zkb.2 (show (s.length+ [a0.1.getD i []].length) * 24≤140737488355328 by simp only [List.length_cons,List.length_nil]; omega)]; rfl,by simp [hs2]⟩) (fun s _=>by simp only [ycf,yrz,yrR,zky (Int.le_refl _),cond_false]) [] rfl 18446744073709551616 (by omega)
  rw [yvo]at this
  exact this
 have h2:ys1 (yOX a0.2.1 a0.2.1.length noMem (a0.1,[],a0.2.2.1,a0.2.2.2))=some (.inl (yA8 noMem a0)):=by
  have:=zj4 (step:=ycg) a0.2.1 (0,[]) (fun i s=>yrA a0.2.1 a0.2.1.length i noMem (a0.1,s,a0.2.2.1,a0.2.2.2)) (fun s x=>s++ [x]) (fun i s=>s.length=i) (fun s=> .inl (yA8 noMem (a0.1,s,a0.2.2.1,a0.2.2.2))) (fun i s hi hs2=>⟨by
   simp only [ycg,yrA,yrS,zj5 (show (i:Int) < a0.2.1.length by omega),cond_true,wr (show -9223372036854775808≤(i:Int)+1 by omega) (by omega),Int.natCast_add,Int.natCast_one,Int.toNat_natCast,zkm hi,zkn,yl,zks]
   rw [zkb.2 (show (s.length+ [a0.2.1.getD i (0,[])].length) * 32≤140737488355328 by simp only [List.length_cons,List.length_nil]; omega)]; rfl,by simp [hs2]⟩) (fun s _=>by simp only [ycg,yrA,yrS,zky (Int.le_refl _),cond_false]) [] rfl 18446744073709551616 (by omega)
  rw [yvo]at this
  exact this
 unfold ynA ybF
 simp only [yl,h1,zki,h2]
def ynj:Con:=⟨yhq,ysf,fun x=>(fun n=>some ((n,()),())) (ybF x.1)⟩
theorem yx4:ConOk Tryz.prog 219 ynj:=(yUW).mono (fun x r hk h=>(yYj x.1 hk).trans h)
end
section
def yji:Code:=(Tryz.f143.body).getD .skip
def ypw:Env:=zj3 TT [(219,ynj)] []
theorem yOn:FrOk Tryz.prog ⟨ypw,20,fun _=>none⟩ yji:=zj7 yb yc ⟨yx4,trivial⟩
def yB1:Nat→Option Seg:=fun _=>none
def ybp:Shape:=⟨[(3,false,[.at 800000000]),(7,false,[.br tM]),(8,false,[.int .i64]),(9,false,[.int .i64])],[],[(800000000,tM,(.pr (.ow (.ow .fz)) (.pr (.ow (.pr .fz (.ow .fz))) (.pr .fz (.ow .fz)))))]⟩
def yfA:Shape:=⟨[(3,false,[.at 800000000]),(7,false,[.br tM]),(8,false,[.int .i64]),(9,false,[.ci .i64 0])],[],[(800000000,tM,(.pr (.ow (.ow .fz)) (.pr (.ow (.pr .fz (.ow .fz))) (.pr .fz (.ow .fz)))))]⟩
def yfs:Shape:=⟨[(3,false,[.at 800000000])],[],[(800000000,tM,(.pr (.ow (.ow .fz)) (.pr (.ow (.pr .fz (.ow .fz))) (.pr .fz (.ow .fz)))))]⟩
def ykf:Shape:=⟨[],[],[]⟩
abbrev yo6 (v0:List dM) (v1 v2:Int) (v3:List dM):(ybp).X:=((((),()),(v0,()),(v1,()),(v2,()),()),(),(v3,()))
abbrev yMF (v0:List dM) (v1:Int) (v2:List dM):(yfA).X:=((((),()),(v0,()),(v1,()),((),()),()),(),(v2,()))
abbrev yMz (v0:List dM):(yfs).X:=((((),()),()),(),(v0,()))
def ypl (v0:List dM) (v1 v2:Int) (v3:List dM):Option ((ybp).X ⊕ ((yfs).X ⊕ (ykf).X)) :=
 bif (ltb v2 v1) then
 bif (inb v2 v0.length) then
 let r2:=ybF ((nth v0 v2 ([],[],false,[])).1,((nth v0 v2 ([],[],false,[])).2).1,(((nth v0 v2 ([],[],false,[])).2).2))
 bif (zjR v3.length ([r2]:List dM).length 80) then
 some (.inl ((((),()),(v0,()),(v1,()),((IntKind.i64.wrap (v2+1)),()),()),(),((v3++([r2]:List dM)),())))
 else none
 else none
 else
 some (.inr (.inl ((((),()),()),(),(v3,()))))
def ybM (x:(ybp).X):=ypl x.1.2.1.1 x.1.2.2.1.1 x.1.2.2.2.1.1 x.2.2.1
def yyW (x:(yfA).X):(ybp).X:=((((),()),(x.1.2.1.1,()),(x.1.2.2.1.1,()),(0,()),()),(),(x.2.2.1,()))
def yAr:Code:=(zdD yji 64 116).getD .skip
theorem yNM:zdD yji 64 29=some (.block 0 (.loop yAr)):=by kernel_rfl
theorem yPx (x:(ybp).X):zg0 ⟨ypw,20,yB1⟩ 0 yAr 116 ybp yfs ykf x=ybM x:=by kernel_rfl
def yy5 (x:(yfA).X):Nat:=18446744073709551616
def yqZ (x:(yfA).X):Option ((yfs).X ⊕ (ykf).X):=zz ybM (yy5 x) (yyW x)
def yzj:Seg:=⟨yfA,yfs,ykf,yqZ⟩
def yB2:Nat→Option Seg:=fun q=>bif Nat.beq q 29 then some yzj else yB1 q
theorem yOo:FrOk Tryz.prog ⟨ypw,20,yB2⟩ yji:=(yOn).loop (sg:=yzj) ybp yyW (by decide) yNM ybM yy5 (by decide) (fun _=>rfl) (fun x r _ h=>h) yPx
abbrev yfW:List Par:= [.rd tMs]
abbrev ypM:List OT:= [⟨false,tMs,(.ow (.pr (.ow (.ow .fz)) (.pr (.ow (.pr .fz (.ow .fz))) (.pr .fz (.ow .fz)))))⟩]
def ylq (a0:List dM):Option (ResD ypM×MutD yfW) :=
 zjZ (yqZ ((((),()),(a0,()),((a0.length:Int),()),((),()),()),(),(([]:List dM),()))) (fun y2 =>
 some ((y2.2.2.1,()),())) (fun y2 =>
 none)
theorem yW0 (x:InD yfW):zjx ⟨ypw,20,yB2⟩ Tryz.f143.results.toList yji yfW ypM x=ylq x.1:=by kernel_rfl
theorem yRE:ConOk Tryz.prog 143 ⟨yfW,ypM,fun x=>ylq x.1⟩:=zj2 (yOo) Tryz.func143 (by kernel_rfl) (by kernel_rfl) Tryz.ntmps143.symm (by decide) (fun x r h=>(yW0 x).trans h)
def yqj (a0:List dM):List dM:=a0
theorem yUD (a0:List dM) (hk:zi2 yfW (a0,())):ylq a0=(fun n=>some ((n,()),())) (yqj a0):=by
 have hb:a0.length * 80≤2 ^ 47:=hk.1.1
 have h1:=zj4 (step:=ybM) a0 noMem (fun i s=>yo6 a0 a0.length i s) (fun s x=>s++ [x]) (fun i s=>s.length=i) (fun s=> .inl (yMz s)) (fun i s hi hs=>⟨by
   simp only [ybM,yo6,ypl,zj5 (show (i:Int) < a0.length by omega),cond_true,wr (show -9223372036854775808≤(i:Int)+1 by omega) (by omega),Int.natCast_add,Int.natCast_one,Int.toNat_natCast,zkm hi,zkn,ybF,zks]
   rw [zkb.2 (show (s.length+ [a0.getD i ([],[],false,[])].length) * 80≤140737488355328 by simp only [List.length_cons,List.length_nil]; omega)]; rfl,by simp [hs]⟩) (fun s hs=>by simp only [ybM,yo6,ypl,zky (Int.le_refl _),cond_false]) [] rfl 18446744073709551616 (by omega)
 rw [yvo]at h1
 unfold ylq yqj
 rw [show yqZ (yMF a0 a0.length [])=_ from h1]; rfl
def yCA:Con:=⟨yfW,ypM,fun x=>(fun n=>some ((n,()),())) (yqj x.1)⟩
theorem yVq:ConOk Tryz.prog 143 yCA:=(yRE).mono (fun x r hk h=>(yUD x.1 hk).trans h)
end
section
def ylE:Code:=(Tryz.f98.body).getD .skip
def yr4:Env:=zj3 TT [(143,yCA),(200,yaS)] []
theorem yQt:FrOk Tryz.prog ⟨yr4,31,fun _=>none⟩ ylE:=zj7 yb yc ⟨yVq,ycT,trivial⟩
def yDL:Nat→Option Seg:=fun _=>none
def ybW:Shape:=⟨[(1,false,[.ptr 0 0]),(2,false,[.ptr 64 0]),(3,false,[.at 800000000]),(8,false,[.br tW]),(9,false,[.int .i64]),(10,false,[.int .i64])],[(0,[.int .i64,.int .i64,.int .i64,.br tM,.int .i64,.int .i64,.int .i64,.int .i64,.int .i64,.br tW,.int .i64,.bool,.bool]),(64,[.int .i64,.int .i64,.int .i64,.nil,.int .i64,.int .i64,.int .i64,.int .i64,.int .i64,.nil,.int .i64,.bool,.bool])],[(800000000,tW,(.pr .fz (.ow .fz)))]⟩
def ygO:Shape:=⟨[(1,false,[.ptr 0 0]),(2,false,[.ptr 64 0]),(3,false,[.at 800000000]),(8,false,[.br tW]),(9,false,[.int .i64]),(10,false,[.ci .i64 0])],[(0,[.int .i64,.int .i64,.int .i64,.br tM,.int .i64,.int .i64,.int .i64,.int .i64,.int .i64,.br tW,.int .i64,.bool,.bool]),(64,[.int .i64,.int .i64,.int .i64,.nil,.int .i64,.int .i64,.int .i64,.int .i64,.int .i64,.nil,.int .i64,.bool,.bool])],[(800000000,tW,(.pr .fz (.ow .fz)))]⟩
def ygC:Shape:=⟨[(1,false,[.ptr 0 0]),(2,false,[.ptr 64 0]),(3,false,[.at 800000000])],[(0,[.int .i64,.int .i64,.int .i64,.br tM,.int .i64,.int .i64,.int .i64,.int .i64,.int .i64,.br tW,.int .i64,.bool,.bool]),(64,[.int .i64,.int .i64,.int .i64,.nil,.int .i64,.int .i64,.int .i64,.int .i64,.int .i64,.nil,.int .i64,.bool,.bool])],[(800000000,tW,(.pr .fz (.ow .fz)))]⟩
def yk1:Shape:=⟨[],[],[]⟩
abbrev yry (v0:List dW) (v1 v2:Int) (v3 v4:dA) (v5:List dW):(ybW).X:=((((),()),((),()),((),()),(v0,()),(v1,()),(v2,()),()),((v3.1,v3.2.1.1,v3.2.1.2,v3.2.2.1,v3.2.2.2.1,v3.2.2.2.2.1,v3.2.2.2.2.2.1,v3.2.2.2.2.2.2.1,v3.2.2.2.2.2.2.2.1,v3.2.2.2.2.2.2.2.2.1,v3.2.2.2.2.2.2.2.2.2.1,v3.2.2.2.2.2.2.2.2.2.2.1,v3.2.2.2.2.2.2.2.2.2.2.2,()),(v4.1,v4.2.1.1,v4.2.1.2,(),v4.2.2.2.1,v4.2.2.2.2.1,v4.2.2.2.2.2.1,v4.2.2.2.2.2.2.1,v4.2.2.2.2.2.2.2.1,(),v4.2.2.2.2.2.2.2.2.2.1,v4.2.2.2.2.2.2.2.2.2.2.1,v4.2.2.2.2.2.2.2.2.2.2.2,()),()),(v5,()))
abbrev yOV (v0:List dW) (v1:Int) (v2 v3:dA) (v4:List dW):(ygO).X:=((((),()),((),()),((),()),(v0,()),(v1,()),((),()),()),((v2.1,v2.2.1.1,v2.2.1.2,v2.2.2.1,v2.2.2.2.1,v2.2.2.2.2.1,v2.2.2.2.2.2.1,v2.2.2.2.2.2.2.1,v2.2.2.2.2.2.2.2.1,v2.2.2.2.2.2.2.2.2.1,v2.2.2.2.2.2.2.2.2.2.1,v2.2.2.2.2.2.2.2.2.2.2.1,v2.2.2.2.2.2.2.2.2.2.2.2,()),(v3.1,v3.2.1.1,v3.2.1.2,(),v3.2.2.2.1,v3.2.2.2.2.1,v3.2.2.2.2.2.1,v3.2.2.2.2.2.2.1,v3.2.2.2.2.2.2.2.1,(),v3.2.2.2.2.2.2.2.2.2.1,v3.2.2.2.2.2.2.2.2.2.2.1,v3.2.2.2.2.2.2.2.2.2.2.2,()),()),(v4,()))
abbrev yOO (v0 v1:dA) (v2:List dW):(ygC).X:=((((),()),((),()),((),()),()),((v0.1,v0.2.1.1,v0.2.1.2,v0.2.2.1,v0.2.2.2.1,v0.2.2.2.2.1,v0.2.2.2.2.2.1,v0.2.2.2.2.2.2.1,v0.2.2.2.2.2.2.2.1,v0.2.2.2.2.2.2.2.2.1,v0.2.2.2.2.2.2.2.2.2.1,v0.2.2.2.2.2.2.2.2.2.2.1,v0.2.2.2.2.2.2.2.2.2.2.2,()),(v1.1,v1.2.1.1,v1.2.1.2,(),v1.2.2.2.1,v1.2.2.2.2.1,v1.2.2.2.2.2.1,v1.2.2.2.2.2.2.1,v1.2.2.2.2.2.2.2.1,(),v1.2.2.2.2.2.2.2.2.2.1,v1.2.2.2.2.2.2.2.2.2.2.1,v1.2.2.2.2.2.2.2.2.2.2.2,()),()),(v2,()))
def yrQ (v0:List dW) (v1 v2 v3 v4 v5:Int) (v6:List dM) (v7 v8 v9 v10 v11:Int) (v12:List dW) (v13:Int) (v14 v15:Bool) (v16 v17 v18 v19 v20 v21 v22 v23 v24:Int) (v25 v26:Bool) (v27:List dW):Option ((ybW).X ⊕ ((ygC).X ⊕ (yk1).X)) :=
 bif (ltb v2 v1) then
 bif (inb v2 v0.length) then
 let r2:=yl ((nth v0 v2 (0,[])).2)
 bif (zjR v27.length ([((nth v0 v2 (0,[])).1,r2)]:List dW).length 32) then
 some (.inl ((((),()),((),()),((),()),(v0,()),(v1,()),((IntKind.i64.wrap (v2+1)),()),()),((v3,v4,v5,v6,v7,v8,v9,v10,v11,v12,v13,v14,v15,()),(v16,v17,v18,(),v19,v20,v21,v22,v23,(),v24,v25,v26,()),()),((v27++([((nth v0 v2 (0,[])).1,r2)]:List dW)),())))
 else none
 else none
 else
 some (.inr (.inl ((((),()),((),()),((),()),()),((v3,v4,v5,v6,v7,v8,v9,v10,v11,v12,v13,v14,v15,()),(v16,v17,v18,(),v19,v20,v21,v22,v23,(),v24,v25,v26,()),()),(v27,()))))
def yce (x:(ybW).X):=yrQ x.1.2.2.2.1.1 x.1.2.2.2.2.1.1 x.1.2.2.2.2.2.1.1 x.2.1.1.1 x.2.1.1.2.1 x.2.1.1.2.2.1 x.2.1.1.2.2.2.1 x.2.1.1.2.2.2.2.1 x.2.1.1.2.2.2.2.2.1 x.2.1.1.2.2.2.2.2.2.1 x.2.1.1.2.2.2.2.2.2.2.1 x.2.1.1.2.2.2.2.2.2.2.2.1 x.2.1.1.2.2.2.2.2.2.2.2.2.1 x.2.1.1.2.2.2.2.2.2.2.2.2.2.1 x.2.1.1.2.2.2.2.2.2.2.2.2.2.2.1 x.2.1.1.2.2.2.2.2.2.2.2.2.2.2.2.1 x.2.1.2.1.1 x.2.1.2.1.2.1 x.2.1.2.1.2.2.1 x.2.1.2.1.2.2.2.2.1 x.2.1.2.1.2.2.2.2.2.1 x.2.1.2.1.2.2.2.2.2.2.1 x.2.1.2.1.2.2.2.2.2.2.2.1 x.2.1.2.1.2.2.2.2.2.2.2.2.1 x.2.1.2.1.2.2.2.2.2.2.2.2.2.2.1 x.2.1.2.1.2.2.2.2.2.2.2.2.2.2.2.1 x.2.1.2.1.2.2.2.2.2.2.2.2.2.2.2.2.1 x.2.2.1
def yAE (x:(ygO).X):(ybW).X:=((((),()),((),()),((),()),(x.1.2.2.2.1.1,()),(x.1.2.2.2.2.1.1,()),(0,()),()),((x.2.1.1.1,x.2.1.1.2.1,x.2.1.1.2.2.1,x.2.1.1.2.2.2.1,x.2.1.1.2.2.2.2.1,x.2.1.1.2.2.2.2.2.1,x.2.1.1.2.2.2.2.2.2.1,x.2.1.1.2.2.2.2.2.2.2.1,x.2.1.1.2.2.2.2.2.2.2.2.1,x.2.1.1.2.2.2.2.2.2.2.2.2.1,x.2.1.1.2.2.2.2.2.2.2.2.2.2.1,x.2.1.1.2.2.2.2.2.2.2.2.2.2.2.1,x.2.1.1.2.2.2.2.2.2.2.2.2.2.2.2.1,()),(x.2.1.2.1.1,x.2.1.2.1.2.1,x.2.1.2.1.2.2.1,(),x.2.1.2.1.2.2.2.2.1,x.2.1.2.1.2.2.2.2.2.1,x.2.1.2.1.2.2.2.2.2.2.1,x.2.1.2.1.2.2.2.2.2.2.2.1,x.2.1.2.1.2.2.2.2.2.2.2.2.1,(),x.2.1.2.1.2.2.2.2.2.2.2.2.2.2.1,x.2.1.2.1.2.2.2.2.2.2.2.2.2.2.2.1,x.2.1.2.1.2.2.2.2.2.2.2.2.2.2.2.2.1,()),()),(x.2.2.1,()))
def yCh:Code:=(zdD ylE 64 116).getD .skip
theorem yP8:zdD ylE 64 29=some (.block 0 (.loop yCh)):=by kernel_rfl
theorem yR3 (x:(ybW).X):zg0 ⟨yr4,31,yDL⟩ 0 yCh 116 ybW ygC yk1 x=yce x:=by kernel_rfl
def yAT (x:(ygO).X):Nat:=18446744073709551616
def ysZ (x:(ygO).X):Option ((ygC).X ⊕ (yk1).X):=zz yce (yAT x) (yAE x)
def yBj:Seg:=⟨ygO,ygC,yk1,ysZ⟩
def yDM:Nat→Option Seg:=fun q=>bif Nat.beq q 29 then some yBj else yDL q
theorem yQu:FrOk Tryz.prog ⟨yr4,31,yDM⟩ ylE:=(yQt).loop (sg:=yBj) ybW yAE (by decide) yP8 yce yAT (by decide) (fun _=>rfl) (fun x r _ h=>h) yR3
abbrev yhp:List Par:= [.rd tA]
abbrev yse:List OT:= [⟨false,tA,(.pr .fz (.pr (.pr .fz .fz) (.pr (.ow (.pr (.ow (.ow .fz)) (.pr (.ow (.pr .fz (.ow .fz))) (.pr .fz (.ow .fz))))) (.pr .fz (.pr .fz (.pr .fz (.pr .fz (.pr .fz (.pr (.ow (.pr .fz (.ow .fz))) (.pr .fz (.pr .fz .fz)))))))))))⟩]
def ynz (a0:dA):Option (ResD yse×MutD yhp) :=
 zjZ (ysZ ((((),()),((),()),((),()),(a0.2.2.2.2.2.2.2.2.1,()),((a0.2.2.2.2.2.2.2.2.1.length:Int),()),((),()),()),((a0.1,a0.2.1.1,a0.2.1.2,a0.2.2.1,a0.2.2.2.1,a0.2.2.2.2.1,a0.2.2.2.2.2.1,a0.2.2.2.2.2.2.1,a0.2.2.2.2.2.2.2.1,a0.2.2.2.2.2.2.2.2.1,a0.2.2.2.2.2.2.2.2.2.1,a0.2.2.2.2.2.2.2.2.2.2.1,a0.2.2.2.2.2.2.2.2.2.2.2,()),(0,0,0,(),0,0,0,0,0,(),0,false,false,()),()),(([]:List dW),()))) (fun y2 =>
 let r4:=yqj y2.2.1.1.2.2.2.1
 some (((y2.2.1.1.1,(y2.2.1.1.2.1,y2.2.1.1.2.2.1),r4,y2.2.1.1.2.2.2.2.1,y2.2.1.1.2.2.2.2.2.1,y2.2.1.1.2.2.2.2.2.2.1,y2.2.1.1.2.2.2.2.2.2.2.1,y2.2.1.1.2.2.2.2.2.2.2.2.1,y2.2.2.1,y2.2.1.1.2.2.2.2.2.2.2.2.2.2.1,y2.2.1.1.2.2.2.2.2.2.2.2.2.2.2.1,y2.2.1.1.2.2.2.2.2.2.2.2.2.2.2.2.1),()),())) (fun y2 =>
 none)
theorem y0l (x:InD yhp):zjx ⟨yr4,31,yDM⟩ Tryz.f98.results.toList ylE yhp yse x=ynz x.1:=by kernel_rfl
theorem yUV:ConOk Tryz.prog 98 ⟨yhp,yse,fun x=>ynz x.1⟩:=zj2 (yQu) Tryz.func98 (by kernel_rfl) (by kernel_rfl) Tryz.ntmps98.symm (by decide) (fun x r h=>(y0l x).trans h)
def yC (a0:dA):dA:=a0
theorem yYi (a0:dA) (hk:zi2 yhp (a0,())):ynz a0=(fun n=>some ((n,()),())) (yC a0):=by
 have hb:a0.2.2.2.2.2.2.2.2.1.length * 32≤2 ^ 47:=hk.1.2.2.2.2.2.2.2.2.1.1
 have h1:=zj4 (step:=yce) a0.2.2.2.2.2.2.2.2.1 (0,[]) (fun i s=>yry a0.2.2.2.2.2.2.2.2.1 a0.2.2.2.2.2.2.2.2.1.length i a0 yaC s) (fun s x=>s++ [x]) (fun i s=>s.length=i) (fun s=> .inl (yOO a0 yaC s)) (fun i s hi hs=>⟨by
   simp only [yce,yry,yrQ,zj5 (show (i:Int) < a0.2.2.2.2.2.2.2.2.1.length by omega),cond_true,wr (show -9223372036854775808≤(i:Int)+1 by omega) (by omega),Int.natCast_add,Int.natCast_one,Int.toNat_natCast,zkm hi,zkn,yl,zks]
   rw [zkb.2 (show (s.length+ [a0.2.2.2.2.2.2.2.2.1.getD i (0,[])].length) * 32≤140737488355328 by simp only [List.length_cons,List.length_nil]; omega)]; rfl,by simp [hs]⟩) (fun s hs=>by simp only [yce,yry,yrQ,zky (Int.le_refl _),cond_false]) [] rfl 18446744073709551616 (by omega)
 rw [yvo]at h1
 unfold ynz yC
 rw [show ysZ (yOV a0.2.2.2.2.2.2.2.2.1 a0.2.2.2.2.2.2.2.2.1.length a0 yaC [])=_ from h1]; rfl
def yil:Con:=⟨yhp,yse,fun x=>(fun n=>some ((n,()),())) (yC x.1)⟩
theorem yql:ConOk Tryz.prog 98 yil:=(yUV).mono (fun x r hk h=>(yYi x.1 hk).trans h)
end
section
def yK4:Code:=(Tryz.f102.body).getD .skip
def yLB:Env:=zj3 TT [] []
theorem yTc:FrOk Tryz.prog ⟨yLB,4,fun _=>none⟩ yK4:=zj7 yb yc trivial
def yV0:Nat→Option Seg:=fun _=>none
abbrev yn6:List Par:= [.rd tB]
abbrev yum:List OT:= [⟨false,tI,.fz⟩]
def yye (a0:Bool):Option (ResD yum×MutD yn6) :=
 bif a0 then
 some ((0,()),())
 else
 some ((6,()),())
theorem y25 (x:InD yn6):zjx ⟨yLB,4,yV0⟩ Tryz.f102.results.toList yK4 yn6 yum x=yye x.1:=by kernel_rfl
theorem yYL:ConOk Tryz.prog 102 ⟨yn6,yum,fun x=>yye x.1⟩:=zj2 (yTc) Tryz.func102 (by kernel_rfl) (by kernel_rfl) Tryz.ntmps102.symm (by decide) (fun x r h=>(y25 x).trans h)
def yuQ (a0:Bool):Int :=
 bif a0 then
 0
 else
 6
def yHl:Con:=⟨yn6,yum,fun x=>(fun n=>some ((n,()),())) (yuQ x.1)⟩
theorem y0Z (a0:Bool):yye a0=(fun n=>some ((n,()),())) (yuQ a0):=zkq (p:=fun (n:Int)=>((n,()),())) (zkc (p:=fun (n:Int)=>((n,()),())) rfl rfl)
theorem y1Z:ConOk Tryz.prog 102 yHl:=(yYL).mono (fun x r _ h=>(y0Z x.1).trans h)
end
section
def yLa:Code:=(Tryz.f121.body).getD .skip
def yLH:Env:=zj3 TT [(134,yhx)] []
theorem yTl:FrOk Tryz.prog ⟨yLH,12,fun _=>none⟩ yLa:=zj7 yb yc ⟨yoN,trivial⟩
def yV6:Nat→Option Seg:=fun _=>none
abbrev yob:List Par:= [.rd tG]
abbrev yus:List OT:= [⟨false,tI,.fz⟩]
def yyj (a0:dG):Option (ResD yus×MutD yob) :=
 let r1:=yg a0
 bif (!r1) then
 some ((0,()),())
 else
 some (((IntKind.i64.wrap (a0.2 * (IntKind.i64.wrap (a0.1 - 1)))),()),())
theorem y3c (x:InD yob):zjx ⟨yLH,12,yV6⟩ Tryz.f121.results.toList yLa yob yus x=yyj x.1:=by kernel_rfl
theorem yYS:ConOk Tryz.prog 121 ⟨yob,yus,fun x=>yyj x.1⟩:=zj2 (yTl) Tryz.func121 (by kernel_rfl) (by kernel_rfl) Tryz.ntmps121.symm (by decide) (fun x r h=>(y3c x).trans h)
def ym (a0:dG):Int :=
 let r1:=yg a0
 bif (!r1) then
 0
 else
 (IntKind.i64.wrap (a0.2 * (IntKind.i64.wrap (a0.1 - 1))))
def ykp:Con:=⟨yob,yus,fun x=>(fun n=>some ((n,()),())) (ym x.1)⟩
theorem y06 (a0:dG):yyj a0=(fun n=>some ((n,()),())) (ym a0):=zkq (p:=fun (n:Int)=>((n,()),())) (zkc (p:=fun (n:Int)=>((n,()),())) rfl rfl)
theorem ysG:ConOk Tryz.prog 121 ykp:=(yYS).mono (fun x r _ h=>(y06 x.1).trans h)
theorem y2t (a:Int×Int):0≤ym a∧ym a≤32:=by
 unfold ym
 cases h:yg a
 ·simp
 ·obtain ⟨⟨h1,h2⟩,h3,h4⟩:=yk.1 h
  have h5:0≤a.2 * (a.1 - 1):=Int.mul_nonneg (by omega) (by omega)
  have h6:a.2 * (a.1 - 1)≤8 * 4:=Int.mul_le_mul h4 (by omega) (by omega) (by omega)
  simp only [Bool.not_true,cond_false,wr (show -9223372036854775808≤a.1 - 1 by omega) (by omega),wr (show -9223372036854775808≤a.2 * (a.1 - 1) by omega) (by omega)]
  omega
theorem yJ6 {a:Int×Int} (h:yg a=true):ym a=a.2 * (a.1 - 1):=by
 unfold ym
 obtain ⟨⟨h1,h2⟩,h3,h4⟩:=yk.1 h
 have h5:0≤a.2 * (a.1 - 1):=Int.mul_nonneg (by omega) (by omega)
 have h6:a.2 * (a.1 - 1)≤8 * 4:=Int.mul_le_mul h4 (by omega) (by omega) (by omega)
 simp only [h,Bool.not_true,cond_false,wr (show -9223372036854775808≤a.1 - 1 by omega) (by omega),wr (show -9223372036854775808≤a.2 * (a.1 - 1) by omega) (by omega)]
def yo (l:List dW) (s:Int):Int:=yL (fun e:dW=>e.1==s) l
def blkOk (g:dG) (b:Int):Bool:=leb 0 b&&leb b (ym g - 1)
def yB (g:dG) (b:Int):Int:=bif blkOk g b then b.tdiv (g.1 - 1) else -1
def yaq (g:dG) (b:Int):Int:=bif blkOk g b then b.tmod (g.1 - 1) else -1
theorem ykn {g:dG} {b:Int} (h:blkOk g b=true):yg g=true∧(0≤b.tdiv (g.1 - 1)∧b.tdiv (g.1 - 1)≤g.2 - 1)∧(0≤b.tmod (g.1 - 1)∧b.tmod (g.1 - 1)≤g.1 - 2):=by
 simp only [blkOk,Bool.and_eq_true,zjE]at h
 cases hg:yg g
 ·have:ym g=0:=by unfold ym; rw [hg]; rfl
  omega
 ·rw [yJ6 hg]at h
  have h2:=yk.1 hg
  rw [Int.tdiv_eq_ediv_of_nonneg h.1,Int.tmod_eq_emod_of_nonneg h.1]
  have h3:=Int.ediv_lt_of_lt_mul (show 0 < g.1 - 1 by omega) (show b < g.2 * (g.1 - 1) by omega)
  have h4:=Int.ediv_nonneg h.1 (show 0≤g.1 - 1 by omega)
  have h5:=Int.emod_nonneg b (show g.1 - 1≠0 by omega)
  have h6:=Int.emod_lt_of_pos b (show 0 < g.1 - 1 by omega)
  exact ⟨rfl,⟨h4,by omega⟩,h5,by omega⟩
theorem yt3 {g:dG} {b:Int} (h:blkOk g b=true):yP g (yB g b)=true:=by
 obtain ⟨h1,h2,_⟩:=ykn h
 unfold yB
 rw [h,cond_true,yca]
 exact ⟨h1,h2⟩
def yau (a:dA) (b:Int):Int:=bif !(yx a) then 1 else bif a.2.2.2.2.2.2.2.2.2.2.1 then 6 else bif blkOk a.2.1 b then 0 else 2
def yI (a:dA) (s:Int):List Int×Bool:=bif leb 0 (yo a.2.2.2.2.2.2.2.2.1 s) then ((nth a.2.2.2.2.2.2.2.2.1 (yo a.2.2.2.2.2.2.2.2.1 s) (0,[])).2,true) else bif a.2.2.2.2.2.2.2.2.2.2.2 then ([],false) else yHA a s
def yKp (a:dA) (b:Int):Int×Int:=bif yau a b !=0 then (0,yau a b) else bif (yI a (yB a.2.1 b)).2 then (nth (yI a (yB a.2.1 b)).1 (yaq a.2.1 b) 0,0) else (0,5)
theorem yAw {a:dA} {b:Int} (h:yau a b=0):yx a=true∧blkOk a.2.1 b=true∧a.2.2.2.2.2.2.2.2.2.2.1=false:=by
 unfold yau at h
 cases ha:yx a
 ·rw [ha]at h; exact absurd (show (1:Int)=0 from h) (by decide)
 ·rw [ha]at h
  cases hd:a.2.2.2.2.2.2.2.2.2.2.1
  ·rw [hd]at h
   cases hb:blkOk a.2.1 b
   ·rw [hb]at h; exact absurd (show (2:Int)=0 from h) (by decide)
   ·exact ⟨rfl,rfl,rfl⟩
  ·rw [hd]at h; exact absurd (show (6:Int)=0 from h) (by decide)
theorem y6U {a:dA} (h:yx a=true) {i:Nat} (hi:i < a.2.2.2.2.2.2.2.2.1.length):(0≤(nth a.2.2.2.2.2.2.2.2.1 i (0,[])).1∧(nth a.2.2.2.2.2.2.2.2.1 i (0,[])).1≤a.2.1.2 - 1)∧((nth a.2.2.2.2.2.2.2.2.1 i (0,[])).2.length:Int)=a.2.1.1 - 1∧(nth a.2.2.2.2.2.2.2.2.1 i (0,[])).2.all isW=true∧(0 < i→(nth a.2.2.2.2.2.2.2.2.1 ((i - 1:Nat):Int) (0,[])).1 < (nth a.2.2.2.2.2.2.2.2.1 i (0,[])).1):=by
 have h1:yaK a.2.1 a.2.2.2.2.2.2.2.2.1=true:=by simp only [yx,Bool.and_eq_true]at h; exact h.2.2.2.1
 simp only [yaK,Bool.not_eq_true',List.any_eq_false,List.mem_range]at h1
 have h2:=h1 i hi
 simp only [yi7,Bool.not_eq_true,Bool.or_eq_false_iff,Bool.not_eq_false',bne_eq_false_iff_eq,Bool.and_eq_true,Bool.and_eq_false_iff,decide_eq_false_iff_not,zjE]at h2
 refine ⟨h2.1,h2.2.1,h2.2.2.1,fun h0=> ?_⟩
 rcases h2.2.2.2 with h3 | h3
 ·exact absurd h0 h3
 ·have:=mt zkx (by rw [h3]; simp: ¬ leb (nth a.2.2.2.2.2.2.2.2.1 i (0,[])).1 (nth a.2.2.2.2.2.2.2.2.1 ((i - 1:Nat):Int) (0,[])).1=true)
  omega
theorem yoT {a:dA} {s:Int} (h:yx a=true) (hs:yP a.2.1 s=true) (h2:(yI a s).2=true):((yI a s).1.length:Int)=a.2.1.1 - 1:=by
 have hg:=yk.1 (yR h)
 unfold yI at h2 ⊢
 cases hk:leb 0 (yo a.2.2.2.2.2.2.2.2.1 s)
 ·rw [hk]at h2
  simp only [cond_false]at h2 ⊢
  cases hb:a.2.2.2.2.2.2.2.2.2.2.2
  ·rw [hb]at h2
   simp only [cond_false]at h2 ⊢
   unfold yHA at h2 ⊢
   cases hw:(yal a s).2
   ·rw [hw]at h2; cases h2
   ·simp only [cond_true,List.length_map,List.length_range]; omega
  ·rw [hb]at h2; cases h2
 ·have h3:=zjD.1 (yno (d:=((0,[]):dW)) hk).1
  have:=(y6U h (i:=(yo a.2.2.2.2.2.2.2.2.1 s).toNat) (by unfold yo; omega)).2.1
  rw [show (((yo a.2.2.2.2.2.2.2.2.1 s).toNat:Nat):Int)=yo a.2.2.2.2.2.2.2.2.1 s by have:=zjE.1 hk; omega]at this
  exact this
theorem yWF (g:dG) (b:Int):ya b 0 (IntKind.i64.wrap (ym g - 1))=blkOk g b:=by
 have:=y2t g
 rw [wr (by omega) (by omega),ybE]; rfl
end
section
def yIk:Code:=(Tryz.f226.body).getD .skip
def yI5:Env:=zj3 TT [(134,yhx),(135,yn)] []
theorem yQO:FrOk Tryz.prog ⟨yI5,60,fun _=>none⟩ yIk:=zj7 yb yc ⟨yoN,yu,trivial⟩
def ySy:Nat→Option Seg:=fun _=>none
abbrev yl1:List Par:= [.rd tS]
abbrev ysq:List OT:= [⟨false,tB,.fz⟩]
def yvL (a0:dS):Option (ResD ysq×MutD yl1) :=
 let r1:=yg (a0.2.2.2.1,a0.2.2.2.2.1)
 bif (!(!r1)) then
 let r2:=ya a0.1 1 60000
 bif (!(!r2)) then
 let r3:=ya a0.2.1 0 60000
 bif (!(!r3)) then
 let r4:=ya a0.2.2.1 0 (IntKind.i64.wrap (a0.2.2.2.1 - 1))
 bif (!(!r4)) then
 let r5:=ya a0.2.2.2.2.2.1 0 60000
 bif (!r5) then
 some ((false,()),())
 else
 let r6:=ya a0.2.2.2.2.2.2.1 (-1) (IntKind.i64.wrap (a0.2.2.2.1 - 1))
 bif r6 then
 let r7:=ya a0.2.2.2.2.2.2.2 0 a0.2.2.2.2.1
 bif r7 then
 bif (!(leb 0 a0.2.2.2.2.2.2.1)) then
 some (((a0.2.2.2.2.2.2.2==0),()),())
 else
 some ((true,()),())
 else
 some ((false,()),())
 else
 some ((false,()),())
 else
 some ((false,()),())
 else
 some ((false,()),())
 else
 some ((false,()),())
 else
 some ((false,()),())
theorem y0y (x:InD yl1):zjx ⟨yI5,60,ySy⟩ Tryz.f226.results.toList yIk yl1 ysq x=yvL x.1:=by kernel_rfl
theorem yU8:ConOk Tryz.prog 226 ⟨yl1,ysq,fun x=>yvL x.1⟩:=zj2 (yQO) Tryz.func226 (by kernel_rfl) (by kernel_rfl) Tryz.ntmps226.symm (by decide) (fun x r h=>(y0y x).trans h)
def ybG (a0:dS):Bool :=
 let r1:=yg (a0.2.2.2.1,a0.2.2.2.2.1)
 bif (!(!r1)) then
 let r2:=ya a0.1 1 60000
 bif (!(!r2)) then
 let r3:=ya a0.2.1 0 60000
 bif (!(!r3)) then
 let r4:=ya a0.2.2.1 0 (IntKind.i64.wrap (a0.2.2.2.1 - 1))
 bif (!(!r4)) then
 let r5:=ya a0.2.2.2.2.2.1 0 60000
 bif (!r5) then
 false
 else
 let r6:=ya a0.2.2.2.2.2.2.1 (-1) (IntKind.i64.wrap (a0.2.2.2.1 - 1))
 bif r6 then
 let r7:=ya a0.2.2.2.2.2.2.2 0 a0.2.2.2.2.1
 bif r7 then
 bif (!(leb 0 a0.2.2.2.2.2.2.1)) then
 (a0.2.2.2.2.2.2.2==0)
 else
 true
 else
 false
 else
 false
 else
 false
 else
 false
 else
 false
 else
 false
def yEw:Con:=⟨yl1,ysq,fun x=>(fun n=>some ((n,()),())) (ybG x.1)⟩
theorem yYt (a0:dS):yvL a0=(fun n=>some ((n,()),())) (ybG a0):=zkq (p:=fun (n:Bool)=>((n,()),())) (zkc (p:=fun (n:Bool)=>((n,()),())) (zkc (p:=fun (n:Bool)=>((n,()),())) (zkc (p:=fun (n:Bool)=>((n,()),())) (zkc (p:=fun (n:Bool)=>((n,()),())) (zkc (p:=fun (n:Bool)=>((n,()),())) rfl (zkc (p:=fun (n:Bool)=>((n,()),())) (zkc (p:=fun (n:Bool)=>((n,()),())) (zkc (p:=fun (n:Bool)=>((n,()),())) rfl rfl) rfl) rfl)) rfl) rfl) rfl) rfl)
theorem yZt:ConOk Tryz.prog 226 yEw:=(yU8).mono (fun x r _ h=>(yYt x.1).trans h)
theorem y5C {s:dS}:ybG s=true↔yg (s.2.2.2.1,s.2.2.2.2.1)=true∧(1≤s.1∧s.1≤60000)∧(0≤s.2.1∧s.2.1≤60000)∧(0≤s.2.2.1∧s.2.2.1≤s.2.2.2.1 - 1)∧(0≤s.2.2.2.2.2.1∧s.2.2.2.2.2.1≤60000)∧(-1≤s.2.2.2.2.2.2.1∧s.2.2.2.2.2.2.1≤s.2.2.2.1 - 1)∧(0≤s.2.2.2.2.2.2.2∧s.2.2.2.2.2.2.2≤s.2.2.2.2.1)∧(0≤s.2.2.2.2.2.2.1∨s.2.2.2.2.2.2.2=0):=by
 unfold ybG
 cases hg:yg (s.2.2.2.1,s.2.2.2.2.1)
 ·simp
 have hg2:=yk.1 hg
 simp only at hg2
 rw [wr (show -9223372036854775808≤s.2.2.2.1 - 1 by omega) (by omega)]
 simp only [Bool.not_not,cond_true,true_and]
 simp only [← yxS]
 cases ya s.1 1 60000
 ·simp
 cases ya s.2.1 0 60000
 ·simp
 cases ya s.2.2.1 0 (s.2.2.2.1 - 1)
 ·simp
 cases ya s.2.2.2.2.2.1 0 60000
 ·simp
 cases ya s.2.2.2.2.2.2.1 (-1) (s.2.2.2.1 - 1)
 ·simp
 cases ya s.2.2.2.2.2.2.2 0 s.2.2.2.2.1
 ·simp
 cases hl:leb 0 s.2.2.2.2.2.2.1
 ·have:=mt zkx (by rw [hl]; simp: ¬ leb 0 s.2.2.2.2.2.2.1=true)
  simp [this]
 ·simp [zjE.1 hl]
end
end
end Go.Tf
