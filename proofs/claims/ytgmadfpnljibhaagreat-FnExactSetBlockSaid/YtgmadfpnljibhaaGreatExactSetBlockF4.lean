/- Functions of the program, and what they come to. -/
import Derived.Test.YtgmadfpnljibhaaGreatExactSetBlockF3
namespace Go.Tf
noncomputable section
open Go.Proofs
set_option synthInstance.maxHeartbeats 400000
set_option synthInstance.maxSize 10000
set_option linter.unusedVariables false
set_option linter.unusedSimpArgs false
set_option maxRecDepth 100000
section
def ybj:Code:=(Tryz.f219.body).getD .skip
def yee:Env:=zki TT [(200,yd2)] []
theorem yE7:FrOk Tryz.prog ⟨yee,49,fun _=>none⟩ ybj:=zkp yb yc ⟨yi5,trivial⟩
def yv3:Nat→Option Seg:=fun _=>none
def yaE:Shape:=⟨[(1,false,[.ptr 0 0]),(2,false,[.ptr 64 0]),(3,false,[.ptr 4480 0]),(15,false,[.br tL]),(16,false,[.int .i64]),(17,false,[.int .i64])],[(0,[.br tL,.br tW,.bool,.br tI]),(64,[.nil,.nil,.bool,.nil]),(4480,[.at 800000001,.nil,.bool,.at 800000000])],[(800000001,tL,(.ow .fz)),(800000000,tI,.fz)]⟩
def ydS:Shape:=⟨[(1,false,[.ptr 0 0]),(2,false,[.ptr 64 0]),(3,false,[.ptr 4480 0]),(15,false,[.br tL]),(16,false,[.int .i64]),(17,false,[.ci .i64 0])],[(0,[.br tL,.br tW,.bool,.br tI]),(64,[.nil,.nil,.bool,.nil]),(4480,[.at 800000001,.nil,.bool,.at 800000000])],[(800000001,tL,(.ow .fz)),(800000000,tI,.fz)]⟩
def ydI:Shape:=⟨[(1,false,[.ptr 0 0]),(2,false,[.ptr 64 0]),(3,false,[.ptr 4480 0])],[(0,[.br tL,.br tW,.bool,.br tI]),(64,[.nil,.nil,.bool,.nil]),(4480,[.at 800000000,.nil,.bool,.at 800000001])],[(800000000,tL,(.ow .fz)),(800000001,tI,.fz)]⟩
def yg9:Shape:=⟨[],[],[]⟩
abbrev yl2 (v0:List (List Int)) (v1 v2:Int) (v3 v4 v5:dM):(yaE).X:=((((),()),((),()),((),()),(v0,()),(v1,()),(v2,()),()),((v3.1,v3.2.1,v3.2.2.1,v3.2.2.2,()),((),(),v4.2.2.1,(),()),((),(),v5.2.2.1,(),()),()),(v5.1,v5.2.2.2,()))
abbrev yD6 (v0:List (List Int)) (v1:Int) (v2 v3 v4:dM):(ydS).X:=((((),()),((),()),((),()),(v0,()),(v1,()),((),()),()),((v2.1,v2.2.1,v2.2.2.1,v2.2.2.2,()),((),(),v3.2.2.1,(),()),((),(),v4.2.2.1,(),()),()),(v4.1,v4.2.2.2,()))
abbrev ytI (v0 v1 v2:dM):(ydI).X:=((((),()),((),()),((),()),()),((v0.1,v0.2.1,v0.2.2.1,v0.2.2.2,()),((),(),v1.2.2.1,(),()),((),(),v2.2.2.1,(),()),()),(v2.1,v2.2.2.2,()))
def ymm (v0:List (List Int)) (v1 v2:Int) (v3:List (List Int)) (v4:List dW) (v5:Bool) (v6:List Int) (v7 v8:Bool) (v9:List (List Int)) (v10:List Int):Option ((yaE).X ⊕ ((ydI).X ⊕ (yg9).X)) :=
 bif (ltb v2 v1) then
 bif (inb v2 v0.length) then
 let r4:=yk (nth v0 v2 [])
 bif (zj4 v9.length ([r4]:List (List Int)).length 24) then
 some (.inl ((((),()),((),()),((),()),(v0,()),(v1,()),((IntKind.i64.wrap (v2+1)),()),()),((v3,v4,v5,v6,()),((),(),v7,(),()),((),(),v8,(),()),()),((v9++([r4]:List (List Int))),v10,())))
 else none
 else none
 else
 some (.inr (.inl ((((),()),((),()),((),()),()),((v3,v4,v5,v6,()),((),(),v7,(),()),((),(),v8,(),()),()),(v9,v10,()))))
def yaU (x:(yaE).X):=ymm x.1.2.2.2.1.1 x.1.2.2.2.2.1.1 x.1.2.2.2.2.2.1.1 x.2.1.1.1 x.2.1.1.2.1 x.2.1.1.2.2.1 x.2.1.1.2.2.2.1 x.2.1.2.1.2.2.1 x.2.1.2.2.1.2.2.1 x.2.2.1 x.2.2.2.1
def ys9 (x:(ydS).X):(yaE).X:=((((),()),((),()),((),()),(x.1.2.2.2.1.1,()),(x.1.2.2.2.2.1.1,()),(0,()),()),((x.2.1.1.1,x.2.1.1.2.1,x.2.1.1.2.2.1,x.2.1.1.2.2.2.1,()),((),(),x.2.1.2.1.2.2.1,(),()),((),(),x.2.1.2.2.1.2.2.1,(),()),()),(x.2.2.1,x.2.2.2.1,()))
def yuz:Code:=(zdI ybj 64 116).getD .skip
theorem yEN:zdI ybj 64 29=some (.block 0 (.loop yuz)):=by kernel_rfl
theorem yGi (x:(yaE).X):zg7 ⟨yee,49,yv3⟩ 0 yuz 116 yaE ydI yg9 x=yaU x:=by kernel_rfl
def ytr (x:(ydS).X):Nat:=18446744073709551616
def yny (x:(ydS).X):Option ((ydI).X ⊕ (yg9).X):=zr yaU (ytr x) (ys9 x)
def ytP:Seg:=⟨ydS,ydI,yg9,yny⟩
def ypi:Nat→Option Seg:=fun q=>bif Nat.beq q 29 then some ytP else yv3 q
theorem yE8:FrOk Tryz.prog ⟨yee,49,ypi⟩ ybj:=(yE7).loop (sg:=ytP) yaE ys9 (by decide) yEN yaU ytr (by decide) (fun _=>rfl) (fun x r _ h=>h) yGi
def yaF:Shape:=⟨[(2,false,[.ptr 64 0]),(3,false,[.ptr 4480 0]),(30,false,[.br tW]),(31,false,[.int .i64]),(32,false,[.int .i64])],[(64,[.nil,.nil,.bool,.nil]),(4480,[.at 800000000,.at 800000002,.bool,.at 800000001])],[(800000000,tL,(.ow .fz)),(800000002,tW,(.pr .fz (.ow .fz))),(800000001,tI,.fz)]⟩
def ydT:Shape:=⟨[(2,false,[.ptr 64 0]),(3,false,[.ptr 4480 0]),(30,false,[.br tW]),(31,false,[.int .i64]),(32,false,[.ci .i64 0])],[(64,[.nil,.nil,.bool,.nil]),(4480,[.at 800000000,.at 800000002,.bool,.at 800000001])],[(800000000,tL,(.ow .fz)),(800000002,tW,(.pr .fz (.ow .fz))),(800000001,tI,.fz)]⟩
def ydJ:Shape:=⟨[(2,false,[.ptr 64 0]),(3,false,[.ptr 4480 0])],[(64,[.nil,.nil,.bool,.nil]),(4480,[.at 800000000,.at 800000001,.bool,.at 800000002])],[(800000000,tL,(.ow .fz)),(800000001,tW,(.pr .fz (.ow .fz))),(800000002,tI,.fz)]⟩
def yha:Shape:=⟨[],[],[]⟩
abbrev yl3 (v0:List dW) (v1 v2:Int) (v3 v4:dM):(yaF).X:=((((),()),((),()),(v0,()),(v1,()),(v2,()),()),(((),(),v3.2.2.1,(),()),((),(),v4.2.2.1,(),()),()),(v4.1,v4.2.1,v4.2.2.2,()))
abbrev yD7 (v0:List dW) (v1:Int) (v2 v3:dM):(ydT).X:=((((),()),((),()),(v0,()),(v1,()),((),()),()),(((),(),v2.2.2.1,(),()),((),(),v3.2.2.1,(),()),()),(v3.1,v3.2.1,v3.2.2.2,()))
abbrev ytJ (v0 v1:dM):(ydJ).X:=((((),()),((),()),()),(((),(),v0.2.2.1,(),()),((),(),v1.2.2.1,(),()),()),(v1.1,v1.2.1,v1.2.2.2,()))
def ymn (v0:List dW) (v1 v2:Int) (v3 v4:Bool) (v5:List (List Int)) (v6:List dW) (v7:List Int):Option ((yaF).X ⊕ ((ydJ).X ⊕ (yha).X)) :=
 bif (ltb v2 v1) then
 bif (inb v2 v0.length) then
 let r8:=yk ((nth v0 v2 (0,[])).2)
 bif (zj4 v6.length ([((nth v0 v2 (0,[])).1,r8)]:List dW).length 32) then
 some (.inl ((((),()),((),()),(v0,()),(v1,()),((IntKind.i64.wrap (v2+1)),()),()),(((),(),v3,(),()),((),(),v4,(),()),()),(v5,(v6++([((nth v0 v2 (0,[])).1,r8)]:List dW)),v7,())))
 else none
 else none
 else
 some (.inr (.inl ((((),()),((),()),()),(((),(),v3,(),()),((),(),v4,(),()),()),(v5,v6,v7,()))))
def yaV (x:(yaF).X):=ymn x.1.2.2.1.1 x.1.2.2.2.1.1 x.1.2.2.2.2.1.1 x.2.1.1.2.2.1 x.2.1.2.1.2.2.1 x.2.2.1 x.2.2.2.1 x.2.2.2.2.1
def yta (x:(ydT).X):(yaF).X:=((((),()),((),()),(x.1.2.2.1.1,()),(x.1.2.2.2.1.1,()),(0,()),()),(((),(),x.2.1.1.2.2.1,(),()),((),(),x.2.1.2.1.2.2.1,(),()),()),(x.2.2.1,x.2.2.2.1,x.2.2.2.2.1,()))
def yuA:Code:=(zdI ybj 64 244).getD .skip
theorem yEO:zdI ybj 64 61=some (.block 2 (.loop yuA)):=by kernel_rfl
theorem yGj (x:(yaF).X):zg7 ⟨yee,49,ypi⟩ 2 yuA 244 yaF ydJ yha x=yaV x:=by kernel_rfl
def yts (x:(ydT).X):Nat:=18446744073709551616
def ynz (x:(ydT).X):Option ((ydJ).X ⊕ (yha).X):=zr yaV (yts x) (yta x)
def ytQ:Seg:=⟨ydT,ydJ,yha,ynz⟩
def yv4:Nat→Option Seg:=fun q=>bif Nat.beq q 61 then some ytQ else ypi q
theorem yE9:FrOk Tryz.prog ⟨yee,49,yv4⟩ ybj:=(yE8).loop (sg:=ytQ) yaF yta (by decide) yEO yaV yts (by decide) (fun _=>rfl) (fun x r _ h=>h) yGj
abbrev yei:List Par:= [.rd tM]
abbrev ymR:List OT:= [⟨false,tM,(.pr (.ow (.ow .fz)) (.pr (.ow (.pr .fz (.ow .fz))) (.pr .fz (.ow .fz))))⟩]
def yjb (a0:dM):Option (ResD ymR×MutD yei) :=
 let r1:=yk a0.2.2.2
 zjw (yny ((((),()),((),()),((),()),(a0.1,()),((a0.1.length:Int),()),((),()),()),((a0.1,a0.2.1,a0.2.2.1,a0.2.2.2,()),((),(),false,(),()),((),(),a0.2.2.1,(),()),()),([],r1,()))) (fun y4 =>
 zjw (ynz ((((),()),((),()),(y4.2.1.1.2.1,()),((y4.2.1.1.2.1.length:Int),()),((),()),()),(((),(),y4.2.1.2.1.2.2.1,(),()),((),(),y4.2.1.2.2.1.2.2.1,(),()),()),(y4.2.2.1,[],y4.2.2.2.1,()))) (fun y8 =>
 some (((y8.2.2.1,y8.2.2.2.1,y8.2.1.2.1.2.2.1,y8.2.2.2.2.1),()),())) (fun y8 =>
 none)) (fun y4 =>
 none)
theorem yNp (x:InD yei):zjH ⟨yee,49,yv4⟩ Tryz.f219.results.toList ybj yei ymR x=yjb x.1:=by kernel_rfl
theorem yIN:ConOk Tryz.prog 219 ⟨yei,ymR,fun x=>yjb x.1⟩:=zkh (yE9) Tryz.func219 (by kernel_rfl) (by kernel_rfl) Tryz.ntmps219.symm (by decide) (fun x r h=>(yNp x).trans h)
def yim (a0:dM):dM:=a0
theorem yLs (a0:dM) (hk:zi9 yei (a0,())):yjb a0=(fun n=>some ((n,()),())) (yim a0):=by
 have hb1:a0.1.length * 24≤2 ^ 47:=hk.1.1.1
 have hb2:a0.2.1.length * 32≤2 ^ 47:=hk.1.2.1.1
 have h1:yny (yD6 a0.1 a0.1.length a0 yf ([],[],a0.2.2.1,a0.2.2.2))=some (.inl (ytI a0 yf (a0.1,[],a0.2.2.1,a0.2.2.2))):=by
  have:=zkk (step:=yaU) a0.1 [] (fun i s=>yl2 a0.1 a0.1.length i a0 yf (s,[],a0.2.2.1,a0.2.2.2)) (fun s x=>s++ [x]) (fun i s=>s.length=i) (fun s=> .inl (ytI a0 yf (s,[],a0.2.2.1,a0.2.2.2))) (fun i s hi hs2=>⟨by
   simp only [yaU,yl2,ymm,zjI (show (i:Int) < a0.1.length by omega),cond_true,wr (show -9223372036854775808≤(i:Int)+1 by omega) (by omega),Int.natCast_add,Int.natCast_one,Int.toNat_natCast,zkO hi,zjW,yk]
   rw [zkw.2 (show (s.length+ [a0.1.getD i []].length) * 24≤140737488355328 by simp only [List.length_cons,List.length_nil]; omega)]; rfl,by simp [hs2]⟩) (fun s _=>by simp only [yaU,yl2,ymm,zkm (Int.le_refl _),cond_false]) [] rfl 18446744073709551616 (by omega)
  rw [ypA]at this
  exact this
 have h2:ynz (yD7 a0.2.1 a0.2.1.length yf (a0.1,[],a0.2.2.1,a0.2.2.2))=some (.inl (ytJ yf a0)):=by
  have:=zkk (step:=yaV) a0.2.1 (0,[]) (fun i s=>yl3 a0.2.1 a0.2.1.length i yf (a0.1,s,a0.2.2.1,a0.2.2.2)) (fun s x=>s++ [x]) (fun i s=>s.length=i) (fun s=> .inl (ytJ yf (a0.1,s,a0.2.2.1,a0.2.2.2))) (fun i s hi hs2=>⟨by
   simp only [yaV,yl3,ymn,zjI (show (i:Int) < a0.2.1.length by omega),cond_true,wr (show -9223372036854775808≤(i:Int)+1 by omega) (by omega),Int.natCast_add,Int.natCast_one,Int.toNat_natCast,zkO hi,zjW,yk,zkV]
   rw [zkw.2 (show (s.length+ [a0.2.1.getD i (0,[])].length) * 32≤140737488355328 by simp only [List.length_cons,List.length_nil]; omega)]; rfl,by simp [hs2]⟩) (fun s _=>by simp only [yaV,yl3,ymn,zkm (Int.le_refl _),cond_false]) [] rfl 18446744073709551616 (by omega)
  rw [ypA]at this
  exact this
 unfold yjb yim
 simp only [yk,h1,zkJ,h2]
def ywO:Con:=⟨yei,ymR,fun x=>(fun n=>some ((n,()),())) (yim x.1)⟩
theorem yMn:ConOk Tryz.prog 219 ywO:=(yIN).mono (fun x r hk h=>(yLs x.1 hk).trans h)
end
section
def yfz:Code:=(Tryz.f143.body).getD .skip
def ykp:Env:=zki TT [(219,ywO)] []
theorem yDA:FrOk Tryz.prog ⟨ykp,20,fun _=>none⟩ yfz:=zkp yb yc ⟨yMn,trivial⟩
def yui:Nat→Option Seg:=fun _=>none
def yam:Shape:=⟨[(3,false,[.at 800000000]),(7,false,[.br tM]),(8,false,[.int .i64]),(9,false,[.int .i64])],[],[(800000000,tM,(.pr (.ow (.ow .fz)) (.pr (.ow (.pr .fz (.ow .fz))) (.pr .fz (.ow .fz)))))]⟩
def ycX:Shape:=⟨[(3,false,[.at 800000000]),(7,false,[.br tM]),(8,false,[.int .i64]),(9,false,[.ci .i64 0])],[],[(800000000,tM,(.pr (.ow (.ow .fz)) (.pr (.ow (.pr .fz (.ow .fz))) (.pr .fz (.ow .fz)))))]⟩
def ycW:Shape:=⟨[(3,false,[.at 800000000])],[],[(800000000,tM,(.pr (.ow (.ow .fz)) (.pr (.ow (.pr .fz (.ow .fz))) (.pr .fz (.ow .fz)))))]⟩
def ygn:Shape:=⟨[],[],[]⟩
abbrev ykg (v0:List dM) (v1 v2:Int) (v3:List dM):(yam).X:=((((),()),(v0,()),(v1,()),(v2,()),()),(),(v3,()))
abbrev yCt (v0:List dM) (v1:Int) (v2:List dM):(ycX).X:=((((),()),(v0,()),(v1,()),((),()),()),(),(v2,()))
abbrev yCs (v0:List dM):(ycW).X:=((((),()),()),(),(v0,()))
def ykh (v0:List dM) (v1 v2:Int) (v3:List dM):Option ((yam).X ⊕ ((ycW).X ⊕ (ygn).X)) :=
 bif (ltb v2 v1) then
 bif (inb v2 v0.length) then
 let r2:=yim ((nth v0 v2 ([],[],false,[])).1,((nth v0 v2 ([],[],false,[])).2).1,(((nth v0 v2 ([],[],false,[])).2).2))
 bif (zj4 v3.length ([r2]:List dM).length 80) then
 some (.inl ((((),()),(v0,()),(v1,()),((IntKind.i64.wrap (v2+1)),()),()),(),((v3++([r2]:List dM)),())))
 else none
 else none
 else
 some (.inr (.inl ((((),()),()),(),(v3,()))))
def yat (x:(yam).X):=ykh x.1.2.1.1 x.1.2.2.1.1 x.1.2.2.2.1.1 x.2.2.1
def yrM (x:(ycX).X):(yam).X:=((((),()),(x.1.2.1.1,()),(x.1.2.2.1.1,()),(0,()),()),(),(x.2.2.1,()))
def ysW:Code:=(zdI yfz 64 116).getD .skip
theorem yDg:zdI yfz 64 29=some (.block 0 (.loop ysW)):=by kernel_rfl
theorem yEl (x:(yam).X):zg7 ⟨ykp,20,yui⟩ 0 ysW 116 yam ycW ygn x=yat x:=by kernel_rfl
def yrT (x:(ycX).X):Nat:=18446744073709551616
def ylx (x:(ycX).X):Option ((ycW).X ⊕ (ygn).X):=zr yat (yrT x) (yrM x)
def yr0:Seg:=⟨ycX,ycW,ygn,ylx⟩
def yuj:Nat→Option Seg:=fun q=>bif Nat.beq q 29 then some yr0 else yui q
theorem yDB:FrOk Tryz.prog ⟨ykp,20,yuj⟩ yfz:=(yDA).loop (sg:=yr0) yam yrM (by decide) yDg yat yrT (by decide) (fun _=>rfl) (fun x r _ h=>h) yEl
abbrev ydc:List Par:= [.rd tMs]
abbrev ykG:List OT:= [⟨false,tMs,(.ow (.pr (.ow (.ow .fz)) (.pr (.ow (.pr .fz (.ow .fz))) (.pr .fz (.ow .fz)))))⟩]
def yhs (a0:List dM):Option (ResD ykG×MutD ydc) :=
 zjw (ylx ((((),()),(a0,()),((a0.length:Int),()),((),()),()),(),(([]:List dM),()))) (fun y2 =>
 some ((y2.2.2.1,()),())) (fun y2 =>
 none)
theorem yKl (x:InD ydc):zjH ⟨ykp,20,yuj⟩ Tryz.f143.results.toList yfz ydc ykG x=yhs x.1:=by kernel_rfl
theorem yFY:ConOk Tryz.prog 143 ⟨ydc,ykG,fun x=>yhs x.1⟩:=zkh (yDB) Tryz.func143 (by kernel_rfl) (by kernel_rfl) Tryz.ntmps143.symm (by decide) (fun x r h=>(yKl x).trans h)
def yk0 (a0:List dM):List dM:=a0
theorem yIw (a0:List dM) (hk:zi9 ydc (a0,())):yhs a0=(fun n=>some ((n,()),())) (yk0 a0):=by
 have hb:a0.length * 80≤2 ^ 47:=hk.1.1
 have h1:=zkk (step:=yat) a0 yf (fun i s=>ykg a0 a0.length i s) (fun s x=>s++ [x]) (fun i s=>s.length=i) (fun s=> .inl (yCs s)) (fun i s hi hs=>⟨by
   simp only [yat,ykg,ykh,zjI (show (i:Int) < a0.length by omega),cond_true,wr (show -9223372036854775808≤(i:Int)+1 by omega) (by omega),Int.natCast_add,Int.natCast_one,Int.toNat_natCast,zkO hi,zjW,yim,zkV]
   rw [zkw.2 (show (s.length+ [a0.getD i ([],[],false,[])].length) * 80≤140737488355328 by simp only [List.length_cons,List.length_nil]; omega)]; rfl,by simp [hs]⟩) (fun s hs=>by simp only [yat,ykg,ykh,zkm (Int.le_refl _),cond_false]) [] rfl 18446744073709551616 (by omega)
 rw [ypA]at h1
 unfold yhs yk0
 rw [show ylx (yCt a0 a0.length [])=_ from h1]; rfl
def yuQ:Con:=⟨ydc,ykG,fun x=>(fun n=>some ((n,()),())) (yk0 x.1)⟩
theorem yI9:ConOk Tryz.prog 143 yuQ:=(yFY).mono (fun x r hk h=>(yIw x.1 hk).trans h)
end
section
def yhF:Code:=(Tryz.f98.body).getD .skip
def ymC:Env:=zki TT [(143,yuQ),(200,yd2)] []
theorem yE5:FrOk Tryz.prog ⟨ymC,31,fun _=>none⟩ yhF:=zkp yb yc ⟨yI9,yi5,trivial⟩
def yv1:Nat→Option Seg:=fun _=>none
def yaD:Shape:=⟨[(1,false,[.ptr 0 0]),(2,false,[.ptr 64 0]),(3,false,[.at 800000000]),(8,false,[.br tW]),(9,false,[.int .i64]),(10,false,[.int .i64])],[(0,[.int .i64,.int .i64,.int .i64,.br tM,.int .i64,.int .i64,.int .i64,.int .i64,.int .i64,.br tW,.int .i64,.bool,.bool]),(64,[.int .i64,.int .i64,.int .i64,.nil,.int .i64,.int .i64,.int .i64,.int .i64,.int .i64,.nil,.int .i64,.bool,.bool])],[(800000000,tW,(.pr .fz (.ow .fz)))]⟩
def ydR:Shape:=⟨[(1,false,[.ptr 0 0]),(2,false,[.ptr 64 0]),(3,false,[.at 800000000]),(8,false,[.br tW]),(9,false,[.int .i64]),(10,false,[.ci .i64 0])],[(0,[.int .i64,.int .i64,.int .i64,.br tM,.int .i64,.int .i64,.int .i64,.int .i64,.int .i64,.br tW,.int .i64,.bool,.bool]),(64,[.int .i64,.int .i64,.int .i64,.nil,.int .i64,.int .i64,.int .i64,.int .i64,.int .i64,.nil,.int .i64,.bool,.bool])],[(800000000,tW,(.pr .fz (.ow .fz)))]⟩
def ydH:Shape:=⟨[(1,false,[.ptr 0 0]),(2,false,[.ptr 64 0]),(3,false,[.at 800000000])],[(0,[.int .i64,.int .i64,.int .i64,.br tM,.int .i64,.int .i64,.int .i64,.int .i64,.int .i64,.br tW,.int .i64,.bool,.bool]),(64,[.int .i64,.int .i64,.int .i64,.nil,.int .i64,.int .i64,.int .i64,.int .i64,.int .i64,.nil,.int .i64,.bool,.bool])],[(800000000,tW,(.pr .fz (.ow .fz)))]⟩
def yg8:Shape:=⟨[],[],[]⟩
abbrev yl1 (v0:List dW) (v1 v2:Int) (v3 v4:dA) (v5:List dW):(yaD).X:=((((),()),((),()),((),()),(v0,()),(v1,()),(v2,()),()),((v3.1,v3.2.1.1,v3.2.1.2,v3.2.2.1,v3.2.2.2.1,v3.2.2.2.2.1,v3.2.2.2.2.2.1,v3.2.2.2.2.2.2.1,v3.2.2.2.2.2.2.2.1,v3.2.2.2.2.2.2.2.2.1,v3.2.2.2.2.2.2.2.2.2.1,v3.2.2.2.2.2.2.2.2.2.2.1,v3.2.2.2.2.2.2.2.2.2.2.2,()),(v4.1,v4.2.1.1,v4.2.1.2,(),v4.2.2.2.1,v4.2.2.2.2.1,v4.2.2.2.2.2.1,v4.2.2.2.2.2.2.1,v4.2.2.2.2.2.2.2.1,(),v4.2.2.2.2.2.2.2.2.2.1,v4.2.2.2.2.2.2.2.2.2.2.1,v4.2.2.2.2.2.2.2.2.2.2.2,()),()),(v5,()))
abbrev yD5 (v0:List dW) (v1:Int) (v2 v3:dA) (v4:List dW):(ydR).X:=((((),()),((),()),((),()),(v0,()),(v1,()),((),()),()),((v2.1,v2.2.1.1,v2.2.1.2,v2.2.2.1,v2.2.2.2.1,v2.2.2.2.2.1,v2.2.2.2.2.2.1,v2.2.2.2.2.2.2.1,v2.2.2.2.2.2.2.2.1,v2.2.2.2.2.2.2.2.2.1,v2.2.2.2.2.2.2.2.2.2.1,v2.2.2.2.2.2.2.2.2.2.2.1,v2.2.2.2.2.2.2.2.2.2.2.2,()),(v3.1,v3.2.1.1,v3.2.1.2,(),v3.2.2.2.1,v3.2.2.2.2.1,v3.2.2.2.2.2.1,v3.2.2.2.2.2.2.1,v3.2.2.2.2.2.2.2.1,(),v3.2.2.2.2.2.2.2.2.2.1,v3.2.2.2.2.2.2.2.2.2.2.1,v3.2.2.2.2.2.2.2.2.2.2.2,()),()),(v4,()))
abbrev yDY (v0 v1:dA) (v2:List dW):(ydH).X:=((((),()),((),()),((),()),()),((v0.1,v0.2.1.1,v0.2.1.2,v0.2.2.1,v0.2.2.2.1,v0.2.2.2.2.1,v0.2.2.2.2.2.1,v0.2.2.2.2.2.2.1,v0.2.2.2.2.2.2.2.1,v0.2.2.2.2.2.2.2.2.1,v0.2.2.2.2.2.2.2.2.2.1,v0.2.2.2.2.2.2.2.2.2.2.1,v0.2.2.2.2.2.2.2.2.2.2.2,()),(v1.1,v1.2.1.1,v1.2.1.2,(),v1.2.2.2.1,v1.2.2.2.2.1,v1.2.2.2.2.2.1,v1.2.2.2.2.2.2.1,v1.2.2.2.2.2.2.2.1,(),v1.2.2.2.2.2.2.2.2.2.1,v1.2.2.2.2.2.2.2.2.2.2.1,v1.2.2.2.2.2.2.2.2.2.2.2,()),()),(v2,()))
def yml (v0:List dW) (v1 v2 v3 v4 v5:Int) (v6:List dM) (v7 v8 v9 v10 v11:Int) (v12:List dW) (v13:Int) (v14 v15:Bool) (v16 v17 v18 v19 v20 v21 v22 v23 v24:Int) (v25 v26:Bool) (v27:List dW):Option ((yaD).X ⊕ ((ydH).X ⊕ (yg8).X)) :=
 bif (ltb v2 v1) then
 bif (inb v2 v0.length) then
 let r2:=yk ((nth v0 v2 (0,[])).2)
 bif (zj4 v27.length ([((nth v0 v2 (0,[])).1,r2)]:List dW).length 32) then
 some (.inl ((((),()),((),()),((),()),(v0,()),(v1,()),((IntKind.i64.wrap (v2+1)),()),()),((v3,v4,v5,v6,v7,v8,v9,v10,v11,v12,v13,v14,v15,()),(v16,v17,v18,(),v19,v20,v21,v22,v23,(),v24,v25,v26,()),()),((v27++([((nth v0 v2 (0,[])).1,r2)]:List dW)),())))
 else none
 else none
 else
 some (.inr (.inl ((((),()),((),()),((),()),()),((v3,v4,v5,v6,v7,v8,v9,v10,v11,v12,v13,v14,v15,()),(v16,v17,v18,(),v19,v20,v21,v22,v23,(),v24,v25,v26,()),()),(v27,()))))
def yaT (x:(yaD).X):=yml x.1.2.2.2.1.1 x.1.2.2.2.2.1.1 x.1.2.2.2.2.2.1.1 x.2.1.1.1 x.2.1.1.2.1 x.2.1.1.2.2.1 x.2.1.1.2.2.2.1 x.2.1.1.2.2.2.2.1 x.2.1.1.2.2.2.2.2.1 x.2.1.1.2.2.2.2.2.2.1 x.2.1.1.2.2.2.2.2.2.2.1 x.2.1.1.2.2.2.2.2.2.2.2.1 x.2.1.1.2.2.2.2.2.2.2.2.2.1 x.2.1.1.2.2.2.2.2.2.2.2.2.2.1 x.2.1.1.2.2.2.2.2.2.2.2.2.2.2.1 x.2.1.1.2.2.2.2.2.2.2.2.2.2.2.2.1 x.2.1.2.1.1 x.2.1.2.1.2.1 x.2.1.2.1.2.2.1 x.2.1.2.1.2.2.2.2.1 x.2.1.2.1.2.2.2.2.2.1 x.2.1.2.1.2.2.2.2.2.2.1 x.2.1.2.1.2.2.2.2.2.2.2.1 x.2.1.2.1.2.2.2.2.2.2.2.2.1 x.2.1.2.1.2.2.2.2.2.2.2.2.2.2.1 x.2.1.2.1.2.2.2.2.2.2.2.2.2.2.2.1 x.2.1.2.1.2.2.2.2.2.2.2.2.2.2.2.2.1 x.2.2.1
def ys8 (x:(ydR).X):(yaD).X:=((((),()),((),()),((),()),(x.1.2.2.2.1.1,()),(x.1.2.2.2.2.1.1,()),(0,()),()),((x.2.1.1.1,x.2.1.1.2.1,x.2.1.1.2.2.1,x.2.1.1.2.2.2.1,x.2.1.1.2.2.2.2.1,x.2.1.1.2.2.2.2.2.1,x.2.1.1.2.2.2.2.2.2.1,x.2.1.1.2.2.2.2.2.2.2.1,x.2.1.1.2.2.2.2.2.2.2.2.1,x.2.1.1.2.2.2.2.2.2.2.2.2.1,x.2.1.1.2.2.2.2.2.2.2.2.2.2.1,x.2.1.1.2.2.2.2.2.2.2.2.2.2.2.1,x.2.1.1.2.2.2.2.2.2.2.2.2.2.2.2.1,()),(x.2.1.2.1.1,x.2.1.2.1.2.1,x.2.1.2.1.2.2.1,(),x.2.1.2.1.2.2.2.2.1,x.2.1.2.1.2.2.2.2.2.1,x.2.1.2.1.2.2.2.2.2.2.1,x.2.1.2.1.2.2.2.2.2.2.2.1,x.2.1.2.1.2.2.2.2.2.2.2.2.1,(),x.2.1.2.1.2.2.2.2.2.2.2.2.2.2.1,x.2.1.2.1.2.2.2.2.2.2.2.2.2.2.2.1,x.2.1.2.1.2.2.2.2.2.2.2.2.2.2.2.2.1,()),()),(x.2.2.1,()))
def yuy:Code:=(zdI yhF 64 116).getD .skip
theorem yEM:zdI yhF 64 29=some (.block 0 (.loop yuy)):=by kernel_rfl
theorem yGh (x:(yaD).X):zg7 ⟨ymC,31,yv1⟩ 0 yuy 116 yaD ydH yg8 x=yaT x:=by kernel_rfl
def ytq (x:(ydR).X):Nat:=18446744073709551616
def ynx (x:(ydR).X):Option ((ydH).X ⊕ (yg8).X):=zr yaT (ytq x) (ys8 x)
def ytO:Seg:=⟨ydR,ydH,yg8,ynx⟩
def yv2:Nat→Option Seg:=fun q=>bif Nat.beq q 29 then some ytO else yv1 q
theorem yE6:FrOk Tryz.prog ⟨ymC,31,yv2⟩ yhF:=(yE5).loop (sg:=ytO) yaD ys8 (by decide) yEM yaT ytq (by decide) (fun _=>rfl) (fun x r _ h=>h) yGh
abbrev yeh:List Par:= [.rd tA]
abbrev ymQ:List OT:= [⟨false,tA,(.pr .fz (.pr (.pr .fz .fz) (.pr (.ow (.pr (.ow (.ow .fz)) (.pr (.ow (.pr .fz (.ow .fz))) (.pr .fz (.ow .fz))))) (.pr .fz (.pr .fz (.pr .fz (.pr .fz (.pr .fz (.pr (.ow (.pr .fz (.ow .fz))) (.pr .fz (.pr .fz .fz)))))))))))⟩]
def yja (a0:dA):Option (ResD ymQ×MutD yeh) :=
 zjw (ynx ((((),()),((),()),((),()),(a0.2.2.2.2.2.2.2.2.1,()),((a0.2.2.2.2.2.2.2.2.1.length:Int),()),((),()),()),((a0.1,a0.2.1.1,a0.2.1.2,a0.2.2.1,a0.2.2.2.1,a0.2.2.2.2.1,a0.2.2.2.2.2.1,a0.2.2.2.2.2.2.1,a0.2.2.2.2.2.2.2.1,a0.2.2.2.2.2.2.2.2.1,a0.2.2.2.2.2.2.2.2.2.1,a0.2.2.2.2.2.2.2.2.2.2.1,a0.2.2.2.2.2.2.2.2.2.2.2,()),(0,0,0,(),0,0,0,0,0,(),0,false,false,()),()),(([]:List dW),()))) (fun y2 =>
 let r4:=yk0 y2.2.1.1.2.2.2.1
 some (((y2.2.1.1.1,(y2.2.1.1.2.1,y2.2.1.1.2.2.1),r4,y2.2.1.1.2.2.2.2.1,y2.2.1.1.2.2.2.2.2.1,y2.2.1.1.2.2.2.2.2.2.1,y2.2.1.1.2.2.2.2.2.2.2.1,y2.2.1.1.2.2.2.2.2.2.2.2.1,y2.2.2.1,y2.2.1.1.2.2.2.2.2.2.2.2.2.2.1,y2.2.1.1.2.2.2.2.2.2.2.2.2.2.2.1,y2.2.1.1.2.2.2.2.2.2.2.2.2.2.2.2.1),()),())) (fun y2 =>
 none)
theorem yNo (x:InD yeh):zjH ⟨ymC,31,yv2⟩ Tryz.f98.results.toList yhF yeh ymQ x=yja x.1:=by kernel_rfl
theorem yIM:ConOk Tryz.prog 98 ⟨yeh,ymQ,fun x=>yja x.1⟩:=zkh (yE6) Tryz.func98 (by kernel_rfl) (by kernel_rfl) Tryz.ntmps98.symm (by decide) (fun x r h=>(yNo x).trans h)
def yil (a0:dA):dA:=a0
theorem yLr (a0:dA) (hk:zi9 yeh (a0,())):yja a0=(fun n=>some ((n,()),())) (yil a0):=by
 have hb:a0.2.2.2.2.2.2.2.2.1.length * 32≤2 ^ 47:=hk.1.2.2.2.2.2.2.2.2.1.1
 have h1:=zkk (step:=yaT) a0.2.2.2.2.2.2.2.2.1 (0,[]) (fun i s=>yl1 a0.2.2.2.2.2.2.2.2.1 a0.2.2.2.2.2.2.2.2.1.length i a0 yk1 s) (fun s x=>s++ [x]) (fun i s=>s.length=i) (fun s=> .inl (yDY a0 yk1 s)) (fun i s hi hs=>⟨by
   simp only [yaT,yl1,yml,zjI (show (i:Int) < a0.2.2.2.2.2.2.2.2.1.length by omega),cond_true,wr (show -9223372036854775808≤(i:Int)+1 by omega) (by omega),Int.natCast_add,Int.natCast_one,Int.toNat_natCast,zkO hi,zjW,yk,zkV]
   rw [zkw.2 (show (s.length+ [a0.2.2.2.2.2.2.2.2.1.getD i (0,[])].length) * 32≤140737488355328 by simp only [List.length_cons,List.length_nil]; omega)]; rfl,by simp [hs]⟩) (fun s hs=>by simp only [yaT,yl1,yml,zkm (Int.le_refl _),cond_false]) [] rfl 18446744073709551616 (by omega)
 rw [ypA]at h1
 unfold yja yil
 rw [show ynx (yD5 a0.2.2.2.2.2.2.2.2.1 a0.2.2.2.2.2.2.2.2.1.length a0 yk1 [])=_ from h1]; rfl
def ywN:Con:=⟨yeh,ymQ,fun x=>(fun n=>some ((n,()),())) (yil x.1)⟩
theorem yMm:ConOk Tryz.prog 98 ywN:=(yIM).mono (fun x r hk h=>(yLr x.1 hk).trans h)
end
section
def yBs:Code:=(Tryz.f120.body).getD .skip
def yBP:Env:=zki TT [(122,ym7)] []
theorem yHe:FrOk Tryz.prog ⟨yBP,12,fun _=>none⟩ yBs:=zkp yb yc ⟨yt6,trivial⟩
def yJC:Nat→Option Seg:=fun _=>none
abbrev yjC:List Par:= [.rd tG]
abbrev yoE:List OT:= [⟨false,tI,.fz⟩]
def yrs (a0:dG):Option (ResD yoE×MutD yjC) :=
 let r1:=yc1 a0
 bif (!r1) then
 some ((0,()),())
 else
 some (((IntKind.i64.wrap (a0.2 * (IntKind.i64.wrap (a0.1 - 1)))),()),())
theorem yPK (x:InD yjC):zjH ⟨yBP,12,yJC⟩ Tryz.f120.results.toList yBs yjC yoE x=yrs x.1:=by kernel_rfl
theorem yLL:ConOk Tryz.prog 120 ⟨yjC,yoE,fun x=>yrs x.1⟩:=zkh (yHe) Tryz.func120 (by kernel_rfl) (by kernel_rfl) Tryz.ntmps120.symm (by decide) (fun x r h=>(yPK x).trans h)
def yjY (a0:dG):Int :=
 let r1:=yc1 a0
 bif (!r1) then
 0
 else
 (IntKind.i64.wrap (a0.2 * (IntKind.i64.wrap (a0.1 - 1))))
def yy3:Con:=⟨yjC,yoE,fun x=>(fun n=>some ((n,()),())) (yjY x.1)⟩
theorem yNV (a0:dG):yrs a0=(fun n=>some ((n,()),())) (yjY a0):=zkS (p:=fun (n:Int)=>((n,()),())) (zkx (p:=fun (n:Int)=>((n,()),())) rfl rfl)
theorem yOX:ConOk Tryz.prog 120 yy3:=(yLL).mono (fun x r _ h=>(yNV x.1).trans h)
end
section
def yBD:Code:=(Tryz.f121.body).getD .skip
def yB0:Env:=zki TT [(134,yif)] []
theorem yHH:FrOk Tryz.prog ⟨yB0,12,fun _=>none⟩ yBD:=zkp yb yc ⟨ypg,trivial⟩
def yJN:Nat→Option Seg:=fun _=>none
abbrev yjK:List Par:= [.rd tG]
abbrev yoX:List OT:= [⟨false,tI,.fz⟩]
def yrA (a0:dG):Option (ResD yoX×MutD yjK) :=
 let r1:=yd a0
 bif (!r1) then
 some ((0,()),())
 else
 some (((IntKind.i64.wrap (a0.2 * (IntKind.i64.wrap (a0.1 - 1)))),()),())
theorem yP4 (x:InD yjK):zjH ⟨yB0,12,yJN⟩ Tryz.f121.results.toList yBD yjK yoX x=yrA x.1:=by kernel_rfl
theorem yL5:ConOk Tryz.prog 121 ⟨yjK,yoX,fun x=>yrA x.1⟩:=zkh (yHH) Tryz.func121 (by kernel_rfl) (by kernel_rfl) Tryz.ntmps121.symm (by decide) (fun x r h=>(yP4 x).trans h)
def yn (a0:dG):Int :=
 let r1:=yd a0
 bif (!r1) then
 0
 else
 (IntKind.i64.wrap (a0.2 * (IntKind.i64.wrap (a0.1 - 1))))
def ykZ:Con:=⟨yjK,yoX,fun x=>(fun n=>some ((n,()),())) (yn x.1)⟩
theorem yOf (a0:dG):yrA a0=(fun n=>some ((n,()),())) (yn a0):=zkS (p:=fun (n:Int)=>((n,()),())) (zkx (p:=fun (n:Int)=>((n,()),())) rfl rfl)
theorem ysi:ConOk Tryz.prog 121 ykZ:=(yL5).mono (fun x r _ h=>(yOf x.1).trans h)
theorem yPr (a:Int×Int):0≤yn a∧yn a≤32:=by
 unfold yn
 cases h:yd a
 ·simp
 ·obtain ⟨⟨h1,h2⟩,h3,h4⟩:=yo.1 h
  have h5:0≤a.2 * (a.1 - 1):=Int.mul_nonneg (by omega) (by omega)
  have h6:a.2 * (a.1 - 1)≤8 * 4:=Int.mul_le_mul h4 (by omega) (by omega) (by omega)
  simp only [Bool.not_true,cond_false,wr (show -9223372036854775808≤a.1 - 1 by omega) (by omega),wr (show -9223372036854775808≤a.2 * (a.1 - 1) by omega) (by omega)]
  omega
theorem yPq {a:Int×Int} (h:yd a=true):yn a=a.2 * (a.1 - 1):=by
 unfold yn
 obtain ⟨⟨h1,h2⟩,h3,h4⟩:=yo.1 h
 have h5:0≤a.2 * (a.1 - 1):=Int.mul_nonneg (by omega) (by omega)
 have h6:a.2 * (a.1 - 1)≤8 * 4:=Int.mul_le_mul h4 (by omega) (by omega) (by omega)
 simp only [h,Bool.not_true,cond_false,wr (show -9223372036854775808≤a.1 - 1 by omega) (by omega),wr (show -9223372036854775808≤a.2 * (a.1 - 1) by omega) (by omega)]
def yN (l:List dW) (s:Int):Int:=yJ (fun e:dW=>e.1==s) l
def ygx (g:dG) (b:Int):Bool:=leb 0 b&&leb b (yn g - 1)
def yB (g:dG) (b:Int):Int:=bif ygx g b then b.tdiv (g.1 - 1) else -1
def ycd (g:dG) (b:Int):Int:=bif ygx g b then b.tmod (g.1 - 1) else -1
theorem ylW {g:dG} {b:Int} (h:ygx g b=true):yd g=true∧(0≤b.tdiv (g.1 - 1)∧b.tdiv (g.1 - 1)≤g.2 - 1)∧(0≤b.tmod (g.1 - 1)∧b.tmod (g.1 - 1)≤g.1 - 2):=by
 simp only [ygx,Bool.and_eq_true,zjQ]at h
 cases hg:yd g
 ·have:yn g=0:=by unfold yn; rw [hg]; rfl
  omega
 ·rw [yPq hg]at h
  have h2:=yo.1 hg
  rw [Int.tdiv_eq_ediv_of_nonneg h.1,Int.tmod_eq_emod_of_nonneg h.1]
  have h3:=Int.ediv_lt_of_lt_mul (show 0 < g.1 - 1 by omega) (show b < g.2 * (g.1 - 1) by omega)
  have h4:=Int.ediv_nonneg h.1 (show 0≤g.1 - 1 by omega)
  have h5:=Int.emod_nonneg b (show g.1 - 1≠0 by omega)
  have h6:=Int.emod_lt_of_pos b (show 0 < g.1 - 1 by omega)
  exact ⟨rfl,⟨h4,by omega⟩,h5,by omega⟩
theorem yzO {g:dG} {b:Int} (h:ygx g b=true):yaO g (yB g b)=true:=by
 obtain ⟨h1,h2,_⟩:=ylW h
 unfold yB
 rw [h,cond_true,ygK]
 exact ⟨h1,h2⟩
def yan (a:dA) (b:Int):Int:=bif !(yI a) then 1 else bif a.2.2.2.2.2.2.2.2.2.2.1 then 6 else bif ygx a.2.1 b then 0 else 2
def yM (a:dA) (s:Int):List Int×Bool:=bif leb 0 (yN a.2.2.2.2.2.2.2.2.1 s) then ((nth a.2.2.2.2.2.2.2.2.1 (yN a.2.2.2.2.2.2.2.2.1 s) (0,[])).2,true) else bif a.2.2.2.2.2.2.2.2.2.2.2 then ([],false) else yzr a s
def yUv (a:dA) (b:Int):Int×Int:=bif yan a b !=0 then (0,yan a b) else bif (yM a (yB a.2.1 b)).2 then (nth (yM a (yB a.2.1 b)).1 (ycd a.2.1 b) 0,0) else (0,5)
theorem yDo {a:dA} {b:Int} (h:yan a b=0):yI a=true∧ygx a.2.1 b=true∧a.2.2.2.2.2.2.2.2.2.2.1=false:=by
 unfold yan at h
 cases ha:yI a
 ·rw [ha]at h; exact absurd (show (1:Int)=0 from h) (by decide)
 ·rw [ha]at h
  cases hd:a.2.2.2.2.2.2.2.2.2.2.1
  ·rw [hd]at h
   cases hb:ygx a.2.1 b
   ·rw [hb]at h; exact absurd (show (2:Int)=0 from h) (by decide)
   ·exact ⟨rfl,rfl,rfl⟩
  ·rw [hd]at h; exact absurd (show (6:Int)=0 from h) (by decide)
theorem ySY {a:dA} (h:yI a=true) {i:Nat} (hi:i < a.2.2.2.2.2.2.2.2.1.length):(0≤(nth a.2.2.2.2.2.2.2.2.1 i (0,[])).1∧(nth a.2.2.2.2.2.2.2.2.1 i (0,[])).1≤a.2.1.2 - 1)∧((nth a.2.2.2.2.2.2.2.2.1 i (0,[])).2.length:Int)=a.2.1.1 - 1∧(nth a.2.2.2.2.2.2.2.2.1 i (0,[])).2.all isW=true∧(0 < i→(nth a.2.2.2.2.2.2.2.2.1 ((i - 1:Nat):Int) (0,[])).1 < (nth a.2.2.2.2.2.2.2.2.1 i (0,[])).1):=by
 have h1:yar a.2.1 a.2.2.2.2.2.2.2.2.1=true:=by simp only [yI,Bool.and_eq_true]at h; exact h.2.2.2.1
 simp only [yar,Bool.not_eq_true',List.any_eq_false,List.mem_range]at h1
 have h2:=h1 i hi
 simp only [yfu,Bool.not_eq_true,Bool.or_eq_false_iff,Bool.not_eq_false',bne_eq_false_iff_eq,Bool.and_eq_true,Bool.and_eq_false_iff,decide_eq_false_iff_not,zjQ]at h2
 refine ⟨h2.1,h2.2.1,h2.2.2.1,fun h0=> ?_⟩
 rcases h2.2.2.2 with h3 | h3
 ·exact absurd h0 h3
 ·have:=mt zk0 (by rw [h3]; simp: ¬ leb (nth a.2.2.2.2.2.2.2.2.1 i (0,[])).1 (nth a.2.2.2.2.2.2.2.2.1 ((i - 1:Nat):Int) (0,[])).1=true)
  omega
theorem yuf {a:dA} {s:Int} (h:yI a=true) (hs:yaO a.2.1 s=true) (h2:(yM a s).2=true):((yM a s).1.length:Int)=a.2.1.1 - 1:=by
 have hg:=yo.1 (ycY h)
 unfold yM at h2 ⊢
 cases hk:leb 0 (yN a.2.2.2.2.2.2.2.2.1 s)
 ·rw [hk]at h2
  simp only [cond_false]at h2 ⊢
  cases hb:a.2.2.2.2.2.2.2.2.2.2.2
  ·rw [hb]at h2
   simp only [cond_false]at h2 ⊢
   unfold yzr at h2 ⊢
   cases hw:(yaA a s).2
   ·rw [hw]at h2; cases h2
   ·simp only [cond_true,List.length_map,List.length_range]; omega
  ·rw [hb]at h2; cases h2
 ·have h3:=zjP.1 (yBi (d:=((0,[]):dW)) hk).1
  have:=(ySY h (i:=(yN a.2.2.2.2.2.2.2.2.1 s).toNat) (by unfold yN; omega)).2.1
  rw [show (((yN a.2.2.2.2.2.2.2.2.1 s).toNat:Nat):Int)=yN a.2.2.2.2.2.2.2.2.1 s by have:=zjQ.1 hk; omega]at this
  exact this
theorem yKb (g:dG) (b:Int):ya b 0 (IntKind.i64.wrap (yn g - 1))=ygx g b:=by
 have:=yPr g
 rw [wr (by omega) (by omega),ydr]; rfl
theorem yNR (a:Int×Int):yjY a=yn a:=by kernel_rfl
end
section
def yzW:Code:=(Tryz.f226.body).getD .skip
def yAo:Env:=zki TT [(134,yif),(135,yl)] []
theorem yFw:FrOk Tryz.prog ⟨yAo,60,fun _=>none⟩ yzW:=zkp yb yc ⟨ypg,yv,trivial⟩
def yGS:Nat→Option Seg:=fun _=>none
abbrev yh7:List Par:= [.rd tS]
abbrev ym5:List OT:= [⟨false,tB,.fz⟩]
def ypP (a0:dS):Option (ResD ym5×MutD yh7) :=
 let r1:=yd (a0.2.2.2.1,a0.2.2.2.2.1)
 bif (!(!r1)) then
 let r2:=ya a0.1 1 60000
 bif (!(!r2)) then
 let r3:=ya a0.2.1 0 60000
 bif (!(!r3)) then
 let r4:=ya a0.2.2.1 0 (IntKind.i64.wrap (a0.2.2.2.1 - 1))
 bif (!(!r4)) then
 let r5:=ya a0.2.2.2.2.2.1 0 60000
 bif (!r5) then
 some ((false,()),())
 else
 let r6:=ya a0.2.2.2.2.2.2.1 (-1) (IntKind.i64.wrap (a0.2.2.2.1 - 1))
 bif r6 then
 let r7:=ya a0.2.2.2.2.2.2.2 0 a0.2.2.2.2.1
 bif r7 then
 bif (!(leb 0 a0.2.2.2.2.2.2.1)) then
 some (((a0.2.2.2.2.2.2.2==0),()),())
 else
 some ((true,()),())
 else
 some ((false,()),())
 else
 some ((false,()),())
 else
 some ((false,()),())
 else
 some ((false,()),())
 else
 some ((false,()),())
 else
 some ((false,()),())
theorem yNE (x:InD yh7):zjH ⟨yAo,60,yGS⟩ Tryz.f226.results.toList yzW yh7 ym5 x=ypP x.1:=by kernel_rfl
theorem yI2:ConOk Tryz.prog 226 ⟨yh7,ym5,fun x=>ypP x.1⟩:=zkh (yFw) Tryz.func226 (by kernel_rfl) (by kernel_rfl) Tryz.ntmps226.symm (by decide) (fun x r h=>(yNE x).trans h)
def ynb (a0:dS):Bool :=
 let r1:=yd (a0.2.2.2.1,a0.2.2.2.2.1)
 bif (!(!r1)) then
 let r2:=ya a0.1 1 60000
 bif (!(!r2)) then
 let r3:=ya a0.2.1 0 60000
 bif (!(!r3)) then
 let r4:=ya a0.2.2.1 0 (IntKind.i64.wrap (a0.2.2.2.1 - 1))
 bif (!(!r4)) then
 let r5:=ya a0.2.2.2.2.2.1 0 60000
 bif (!r5) then
 false
 else
 let r6:=ya a0.2.2.2.2.2.2.1 (-1) (IntKind.i64.wrap (a0.2.2.2.1 - 1))
 bif r6 then
 let r7:=ya a0.2.2.2.2.2.2.2 0 a0.2.2.2.2.1
 bif r7 then
 bif (!(leb 0 a0.2.2.2.2.2.2.1)) then
 (a0.2.2.2.2.2.2.2==0)
 else
 true
 else
 false
 else
 false
 else
 false
 else
 false
 else
 false
 else
 false
def yw3:Con:=⟨yh7,ym5,fun x=>(fun n=>some ((n,()),())) (ynb x.1)⟩
theorem yLH (a0:dS):ypP a0=(fun n=>some ((n,()),())) (ynb a0):=zkS (p:=fun (n:Bool)=>((n,()),())) (zkx (p:=fun (n:Bool)=>((n,()),())) (zkx (p:=fun (n:Bool)=>((n,()),())) (zkx (p:=fun (n:Bool)=>((n,()),())) (zkx (p:=fun (n:Bool)=>((n,()),())) (zkx (p:=fun (n:Bool)=>((n,()),())) rfl (zkx (p:=fun (n:Bool)=>((n,()),())) (zkx (p:=fun (n:Bool)=>((n,()),())) (zkx (p:=fun (n:Bool)=>((n,()),())) rfl rfl) rfl) rfl)) rfl) rfl) rfl) rfl)
theorem yMB:ConOk Tryz.prog 226 yw3:=(yI2).mono (fun x r _ h=>(yLH x.1).trans h)
end
end
end Go.Tf
