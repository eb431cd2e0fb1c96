/- What a law's row hands over reads as data; and a law whose contract says true has its row. -/
import Derived.Test.YtolmneojjjpnjaaGreatTf5
import Derived.ProofKit
import Derived.SizedLaws
import Derived.DataShut
namespace Go.Tf
open Go.ChangeShapes Go.WideShapes Go.ChangeAt Go.RowKit
set_option linter.unusedVariables false
set_option linter.unusedSimpArgs false
def tyB (P:Program):Ty→Nat→List (Nat×TypeId)→Bool
 | .int k,o,[(p,t)]=>p==o&&P.cellsOf t==1&&(match P.underlying t with | some (.int k')=>decide (k'=k) | _=>false)
 | .bool,o,[(p,t)]=>p==o&&P.cellsOf t==1&&(match P.underlying t with | some .bool=>true | _=>false)
 | .sl u,o,[(p,t)]=>p==o&&P.cellsOf t==1&&(match P.underlying t with | some (.slice e)=>P.bytesOf e==u.bytes&&Nat.blt 0 u.size&&P.cellsOf e==u.size&&tyB P u 0 [(0,e)] | _=>false)
 | .st _ u,o,[(p,t)]=>p==o&&P.cellsOf t==u.size&&(match P.underlying t with | some (.struct fs)=>tyB P u 0 (fs.toList.map fun f=>(f.offset,f.type)) | _=>false)
 | .pr a b,o,f::g::fs=>tyB P a o [f]&&tyB P b (o+a.size) (g::fs)
 | _,_,_=>false
theorem zcI {P:Program} {T:Ty} {o p:Nat} {t:TypeId} (h:tyB P T o [(p,t)]=true):p=o∧P.cellsOf t=T.size:=by
 cases T<;>simp only[tyB,Bool.and_eq_true,beq_iff_eq,Bool.false_eq_true]at h
 all_goals exact⟨h.1.1,h.1.2⟩
section
variable {H:Type} {enc:TypeId×Value→H} {P:Program} {w:World}
theorem zfj (b o i:Nat):(⟨b,o,none⟩:Addr).add i=⟨b,o+i,none⟩:=by
 unfold Addr.add;by_cases h:i=0
 ·subst h; rfl
 ·rw[if_neg h]
theorem zfl {a:Addr} {n:Nat} {cs:List Value} (h:w.cells? 0 a n=some cs) (hn:0<n): ∃b o,a=⟨b,o,none⟩∧b<w.heap.size∧zh (hp w) b o n=some cs:=by
 unfold World.cells? at h;rw[if_pos (Nat.zero_le _)]at h;have hl:cs.length=n:=by simpa using mapM_some_length h
 have hg: ∀i,i<n→w.cell? (a.add i)=cs[i]? :=fun i hi=>mapM_some_get h i i (by simp[hi])
 have h0:=hg 0 hn;rw[show a.add 0=a by simp[Addr.add],List.getElem?_eq_getElem (by omega)]at h0;obtain⟨b,o,sp⟩:=a
 have hs:sp=none∧b<w.heap.size:=by
  unfold World.cell? at h0;dsimp only at h0;split at h0
  ·rename_i c t fr hh
   refine⟨?_,?_⟩
   ·cases sp
    ·rfl
    ·simp at h0
   ·exact(Array.getElem?_eq_some_iff.1 hh).1
  ·simp at h0
 obtain⟨rfl,hb⟩:=hs;refine⟨b,o,rfl,hb,?_⟩;rw[← hl]
 exact zap cs o fun j hj=>by
  have:=hg j (by omega);rw[zfj,zb1]at this;exact this
theorem zio {w':World} {a:Addr} {n:Nat} (hn:0<n) {cs:List Value} (h:w.cells? 0 a n=some cs) (hk: ∀b,b<w.heap.size→hp w' b=hp w b):w'.cells? 0 a n=some cs:=by
 obtain⟨b,o,rfl,hb,_⟩:=zfl h hn;unfold World.cells? at h ⊢;refine mapM_carry h fun i x _ _ e=> ?_
 rw[zfj,zb1]at e ⊢;unfold zL at e ⊢;rw[hk b hb];exact e
def One (H:Type) (enc:TypeId×Value→H) (P:Program) (w:World) (T:Ty) (t:TypeId):Prop :=∀(fuel:Nat) (cs:List Value) (d:DataW H) (ps:List MemPlace),DataW.trod enc P w 0 (fun _=>true) true fuel t cs=some (d,ps)→(∀n∈d.weights P t,n≤reachBytes) → cs.length=T.size∧(∃x,Rd (hp w) (fun b=>b<w.heap.size) T x cs) ∧ ∀(w':World) (sp:Nat→Bool),(∀b,b<w.heap.size→hp w' b=hp w b)→(∀p∈ps,sp p.block=true)→DataW.trod enc P w' 0 sp true fuel t cs=some (d,ps)
def Row (H:Type) (enc:TypeId×Value→H) (P:Program) (w:World) (T:Ty) (o:Nat) (fs:List (Nat×TypeId)):Prop :=∀(fuel:Nat) (cs:List Value) (xs:List (DataW H×List MemPlace)),cs.length=o+T.size → fs.mapM (fun f=>DataW.trod enc P w 0 (fun _=>true) true fuel f.2 ((cs.drop f.1).take (P.cellsOf f.2)))=some xs→(∀n∈DataW.weightsEach P (fs.map (·.2)) (xs.map (·.1)),n≤reachBytes) → (∃x,Rd (hp w) (fun b=>b<w.heap.size) T x (cs.drop o)) ∧ ∀(w':World) (sp:Nat→Bool),(∀b,b<w.heap.size→hp w' b=hp w b)→(∀p∈xs.flatMap (·.2),sp p.block=true) → fs.mapM (fun f=>DataW.trod enc P w' 0 sp true fuel f.2 ((cs.drop f.1).take (P.cellsOf f.2)))=some xs
theorem Row.of_one {T:Ty} {o:Nat} {t:TypeId} (hc:P.cellsOf t=T.size) (h:One H enc P w T t):Row H enc P w T o [(o,t)]:=by
 intro fuel cs xs hl hm hw;have e:(cs.drop o).take (P.cellsOf t)=cs.drop o:=List.take_of_length_le (by rw[List.length_drop]; omega);simp only[List.mapM_cons,List.mapM_nil,e,Option.pure_def,Option.bind_eq_bind,Option.bind_eq_some_iff,Option.some.injEq]at hm;obtain⟨⟨d,ps⟩,h1,_,rfl,rfl⟩:=hm;obtain⟨_,hx,hk⟩:=h fuel _ d ps h1 (fun n hn=>hw n (by simp[DataW.weightsEach,hn]));refine⟨hx,fun w' sp hh hp=> ?_⟩;have:=hk w' sp hh (fun p hp'=>hp p (by simp[hp']));simp only[List.mapM_cons,List.mapM_nil,e,this];rfl
theorem Row.at0 {T:Ty} {e:TypeId} (h:Row H enc P w T 0 [(0,e)]) (hc:P.cellsOf e=T.size) {fuel:Nat} {cs:List Value} {d:DataW H} {ps:List MemPlace} (hl:cs.length=T.size)
  (he:DataW.trod enc P w 0 (fun _=>true) true fuel e cs=some (d,ps)) (hw: ∀n∈d.weights P e,n≤reachBytes) :
  (∃x,Rd (hp w) (fun b=>b<w.heap.size) T x cs) ∧
  ∀(w':World) (sp:Nat→Bool),(∀b,b<w.heap.size→hp w' b=hp w b)→(∀p∈ps,sp p.block=true)→DataW.trod enc P w' 0 sp true fuel e cs=some (d,ps):=by
 have et:(cs.drop 0).take (P.cellsOf e)=cs:=by rw[List.drop_zero]; exact List.take_of_length_le (by omega)
 obtain⟨hx,hk⟩:=h fuel cs [(d,ps)] (by omega) (by simp only[List.mapM_cons,List.mapM_nil,et,he]; rfl) (by simpa [DataW.weightsEach]using hw);refine⟨by rw[List.drop_zero]at hx; exact hx,fun w' sp hh hp=> ?_⟩;have:=hk w' sp hh (by simpa using hp);simp only[List.mapM_cons,List.mapM_nil,et,Option.pure_def,Option.bind_eq_bind,Option.bind_eq_some_iff,Option.some.injEq]at this;obtain⟨y,h1,_,rfl,h2⟩:=this;simp only[List.cons.injEq,and_true]at h2;rw[h1,h2]
theorem zcn {e:TypeId}: ∀{l:List (DataW H)} {d:DataW H} {n:Nat},d∈l→n∈d.weights P e→n∈DataW.weightsAll P e l
 | x::l,d,n,h,hn=>by
  simp only[DataW.weightsAll,List.mem_append];rcases List.mem_cons.1 h with rfl | h
  ·exact Or.inl hn
  ·exact Or.inr (zcn h hn)
theorem zgi {a:Addr} {n:Nat} {cs:List Value} (h:w.cells? 0 a n=some cs):cs.length=n:=by
 unfold World.cells? at h;rw[if_pos (Nat.zero_le _)]at h;simpa using mapM_some_length h
theorem zg3 {T:Ty} {b o:Nat}: ∀(n:Nat),(∀i,i<n→ ∃cs,zh (hp w) b (o+i*T.size) T.size=some cs∧ ∃x,Rd (hp w) (fun b=>b<w.heap.size) T x cs) →
  ∃l:List T.D,l.length=n∧ ∀i x,l[i]? =some x→ ∃vs,zh (hp w) b (o+i*T.size) T.size=some vs∧Rd (hp w) (fun b=>b<w.heap.size) T x vs
 | 0,_=>⟨[],rfl,fun i x h=>by simp at h⟩
 | n+1,h=>by
  obtain⟨l,hl,hx⟩:=zg3 n (fun i hi=>h i (by omega));obtain⟨cs,hc,x,hr⟩:=h n (by omega);refine⟨l++ [x],by simp[hl],fun i y hy=> ?_⟩;by_cases hi:i<n
  ·rw[List.getElem?_append_left (by omega)]at hy
   exact hx i y hy
  ·have:i=n:=by
    have:=(List.getElem?_eq_some_iff.1 hy).1;simp[hl]at this;omega
   subst this;rw[List.getElem?_append_right (by omega),hl,Nat.sub_self]at hy;simp only[List.getElem?_cons_zero,Option.some.injEq]at hy;subst hy;exact⟨cs,hc,hr⟩
theorem zdB: ∀(T:Ty) (o:Nat) (fs:List (Nat×TypeId)),tyB P T o fs=true→Row H enc P w T o fs
 | .int k,o,[(p,t)],h=>by
  obtain⟨rfl,hc⟩:=zcI h;refine Row.of_one hc fun fuel cs d ps he hw=> ?_
  simp only[tyB,Bool.and_eq_true]at h
  have hu:P.underlying t=some (.int k):=by
   have:=h.2;split at this
   ·rename_i k' e; rw[e,of_decide_eq_true this]
   ·simp at this
  cases fuel with
  | zero=>simp[DataW.trod]at he
  | succ fuel =>
   have key: ∃n,cs= [.int k n]∧(Lit.int k n).wf=true∧d= .lit (.int k n)∧ps= []:=by
    unfold DataW.trod at he;rw[hu]at he;split at he<;>simp_all
   obtain⟨n,rfl,hf,rfl,rfl⟩:=key;refine⟨rfl,⟨n,rfl,by simpa [Lit.wf,zaw]using hf⟩,fun w' sp _ _=> ?_⟩;unfold DataW.trod; rw[hu]; simp[hf]
 | .bool,o,[(p,t)],h=>by
  obtain⟨rfl,hc⟩:=zcI h;refine Row.of_one hc fun fuel cs d ps he hw=> ?_
  simp only[tyB,Bool.and_eq_true]at h
  have hu:P.underlying t=some .bool:=by
   have:=h.2;split at this
   ·rename_i e; rw[e]
   ·simp at this
  cases fuel with
  | zero=>simp[DataW.trod]at he
  | succ fuel =>
   have key: ∃n,cs= [.bool n]∧d= .lit (.bool n)∧ps= []:=by
    unfold DataW.trod at he;rw[hu]at he;split at he<;>simp_all
   obtain⟨n,rfl,rfl,rfl⟩:=key;refine⟨rfl,⟨n,rfl⟩,fun w' sp _ _=> ?_⟩;unfold DataW.trod; rw[hu]
 | .st n u,o,[(p,t)],h=>by
  obtain⟨rfl,hc⟩:=zcI h;refine Row.of_one hc fun fuel cs d ps he hw=> ?_
  simp only[tyB,Bool.and_eq_true]at h
  have hu: ∃fs,P.underlying t=some (.struct fs)∧tyB P u 0 (fs.toList.map fun f=>(f.offset,f.type))=true:=by
   have:=h.2;split at this
   ·rename_i fs e; exact⟨fs,e,this⟩
   ·simp at this
  obtain⟨fs,hu,hT⟩:=hu;have IH:=zdB u 0 _ hT;cases fuel with
  | zero=>simp[DataW.trod]at he
  | succ fuel =>
   unfold DataW.trod at he;rw[hu]at he;simp only[Option.map_eq_some_iff]at he;split at he
   ·rename_i hL
    rw[hc]at hL;simp only[Option.map_eq_some_iff,Prod.mk.injEq]at he;obtain⟨xs,hm,rfl,rfl⟩:=he
    have hm':(fs.toList.map fun f=>(f.offset,f.type)).mapM (fun f=>DataW.trod enc P w 0 (fun _=>true) true fuel f.2 ((cs.drop f.1).take (P.cellsOf f.2)))=some xs:=by
     rw[List.mapM_map]; exact hm
    obtain⟨hx,hk⟩:=IH fuel cs xs (by rw[Nat.zero_add]; exact hL) hm' (fun n hn=>hw n (by
     simp only[DataW.weights,hu]
     simpa [List.map_map,Function.comp_def]using hn))
    refine⟨hL,by rw[List.drop_zero]at hx; exact hx,fun w' sp hh hp=> ?_⟩;have:=hk w' sp hh hp;rw[List.mapM_map]at this;unfold DataW.trod;rw[hu];simp only[if_pos (show cs.length=P.cellsOf t by rw[hc]; exact hL)];rw[show(fs.toList.mapM fun f=>DataW.trod enc P w' 0 sp true fuel f.type ((cs.drop f.offset).take (P.cellsOf f.type)))=some xs from this];rfl
   ·simp at he
 | .sl u,o,[(p,t)],h=>by
  obtain⟨rfl,hc⟩:=zcI h;refine Row.of_one hc fun fuel cs d ps he hw=> ?_
  simp only[tyB,Bool.and_eq_true]at h
  have hu: ∃e,P.underlying t=some (.slice e)∧P.bytesOf e=u.bytes∧0<u.size∧P.cellsOf e=u.size∧tyB P u 0 [(0,e)]=true:=by
   have:=h.2;split at this
   ·rename_i e he
    simp only[Bool.and_eq_true,beq_iff_eq,Nat.blt,Nat.ble_eq]at this;exact⟨e,he,this.1.1.1,this.1.1.2,this.1.2,this.2⟩
   ·simp at this
  obtain⟨e,hu,hby,hz,hce,hT⟩:=hu;have IH:=zdB u 0 _ hT;rcases DataW.trod_slice hu he with⟨rfl,e2⟩ | ⟨a,len,cap,elems,rest,m,rfl,rfl,e2,_,hlc,hcm,hel,hE,hR,_⟩
  ·simp only[Prod.mk.injEq]at e2
   obtain⟨rfl,rfl⟩:=e2;refine⟨rfl,⟨[],none,0,rfl,by simp,Nat.le_refl _,Or.inl rfl⟩,fun w' sp _ _=> ?_⟩;cases fuel with
   | zero=>simp[DataW.trod]at he
   | succ fuel=>unfold DataW.trod; rw[hu]; rfl
  ·simp only[Prod.mk.injEq]at e2
   obtain⟨rfl,rfl⟩:=e2;obtain⟨hrl,hR⟩:=hR rfl
   have hall: ∀i,i<cap→ ∃cs y,w.cells? 0 (a.add (i*u.size)) u.size=some cs∧(elems++rest)[i]? =some y∧DataW.trod enc P w 0 (fun _=>true) true m e cs=some y:=by
    intro i hi
    have:(w.cells? 0 (a.add (i*P.cellsOf e)) (P.cellsOf e)).bind (DataW.trod enc P w 0 (fun _=>true) true m e)=(elems++rest)[i]? :=by
     by_cases hil:i<len
     ·rw[List.getElem?_append_left (by omega)]; exact hE i hil
     ·rw[List.getElem?_append_right (by omega),hel]
      have:=hR (i-len) (by omega);rw[show len+(i-len)=i by omega]at this;exact this
    have hlen:i<(elems++rest).length:=by rw[List.length_append]; omega
    rw[List.getElem?_eq_getElem hlen]at this;obtain⟨cs,h1,h2⟩:=Option.bind_eq_some_iff.1 this;rw[hce]at h1;exact⟨cs,_,h1,List.getElem?_eq_getElem hlen,h2⟩
   have hwt: ∀y∈elems++rest,∀n∈y.1.weights P e,n≤reachBytes:=by
    intro y hy n hn;refine hw n ?_;simp only[DataW.weights,hu,List.mem_cons,List.mem_append];rcases List.mem_append.1 hy with hy | hy
    ·exact Or.inr (Or.inl (zcn (List.mem_map_of_mem hy) hn))
    ·exact Or.inr (Or.inr (zcn (List.mem_map_of_mem hy) hn))
   have hby2:(elems.length+rest.length)*u.bytes≤reachBytes:=by
    refine hw _ ?_;simp only[DataW.weights,hu,List.mem_cons,List.length_map,hby,true_or]
   refine⟨rfl,?_,fun w' sp hh hp=> ?_⟩
   ·by_cases h0:len=0
    ·subst h0
     exact⟨[],some a,cap,rfl,by simp,hlc,Or.inl rfl⟩
    ·obtain⟨cs0,_,hc0,_,_⟩:=hall 0 (by omega)
     rw[Nat.zero_mul,show a.add 0=a by simp[Addr.add]]at hc0;obtain⟨b,o,rfl,hb,_⟩:=zfl hc0 hz
     obtain⟨l,hl,hx⟩:=zg3 (T:=u) (b:=b) (o:=o) len (fun i hi=>by
      obtain⟨cs,y,h1,h2,h3⟩:=hall i (by omega);rw[zfj]at h1;obtain⟨b',o',e',_,hcs⟩:=zfl h1 hz;injection e' with e1 e2;subst e1; subst e2;obtain⟨d,ps⟩:=y
      exact⟨cs,hcs,(IH.at0 hce (zgi h1) h3 (hwt _ (List.mem_of_getElem? h2))).1⟩)
     refine⟨l,some ⟨b,o,none⟩,cap,by rw[hl],?_,by rw[hl]; exact hlc,Or.inr ⟨b,o,rfl,hb,hx⟩⟩;have:l.length*u.bytes≤(elems.length+rest.length)*u.bytes:=Nat.mul_le_mul_right _ (by omega);have:=reachBytes_lt;omega
   ·have hsp: ∀i y,i<cap→(elems++rest)[i]? =some y→(w'.cells? 0 (a.add (i*P.cellsOf e)) (P.cellsOf e)).bind (DataW.trod enc P w' 0 sp true m e)=some y:=by
     intro i y hi hy;obtain⟨cs,y',h1,h2,h3⟩:=hall i hi;rw[hy]at h2;injection h2 with h2;subst h2;rw[hce,zio hz h1 hh,Option.bind_some];obtain⟨d,ps⟩:=y;refine(IH.at0 hce (zgi h1) h3 (hwt _ (List.mem_of_getElem? hy))).2 w' sp hh fun p hp'=>hp p ?_
     rw[List.mem_append];exact Or.inr (List.mem_flatMap.2 ⟨_,List.mem_of_getElem? hy,hp'⟩)
    have m1:(List.range len).mapM (fun i=>(w'.cells? 0 (a.add (i*P.cellsOf e)) (P.cellsOf e)).bind (DataW.trod enc P w' 0 sp true m e))=some elems:=by
     refine mapM_some_of_get _ _ (by simp[hel]) fun i x hx=> ?_
     have hi:i<len:=by simpa using(List.getElem?_eq_some_iff.1 hx).1
     have:x=i:=by simpa [hi]using hx.symm
     subst this;rw[List.getElem?_eq_getElem (by omega)];exact hsp x _ (by omega) (by rw[List.getElem?_append_left (by omega),List.getElem?_eq_getElem (by omega)])
    have m2:(if sp a.block=true then(List.range (cap-len)).mapM (fun j=>(w'.cells? 0 (a.add ((len+j)*P.cellsOf e)) (P.cellsOf e)).bind (DataW.trod enc P w' 0 sp true m e))else some [])=some rest:=by
     by_cases h0:cap=len
     ·have:rest= []:=List.length_eq_zero_iff.1 (by omega)
      subst this;simp[h0]
     ·rw[if_pos]
      ·refine mapM_some_of_get _ _ (by simp[hrl]) fun i x hx=> ?_
       have hi:i<cap-len:=by simpa using(List.getElem?_eq_some_iff.1 hx).1
       have:x=i:=by simpa [hi]using hx.symm
       subst this;rw[List.getElem?_eq_getElem (by omega)];exact hsp (len+x) _ (by omega) (by rw[List.getElem?_append_right (by omega),hel,Nat.add_sub_cancel_left,List.getElem?_eq_getElem (by omega)])
      ·refine hp (.cell a.block (a.off+0)) (List.mem_append.2 (Or.inl ?_))
       unfold MemPlace.row;refine List.mem_map.2 ⟨0,List.mem_range.2 (Nat.mul_pos (by omega) (by omega)),rfl⟩
    unfold DataW.trod;rw[hu];simp only[if_pos (show 0≤a.block∧len≤cap∧cap≤maxLen from⟨Nat.zero_le _,hlc,hcm⟩)];rw[m1,Option.bind_some,m2];rfl
 | .pr a b,o,f::g::fs,h=>by
  simp only[tyB,Bool.and_eq_true]at h;obtain⟨p,t⟩:=f;obtain⟨h0,hc⟩:=zcI h.1;subst h0;have I1:=zdB a p [(p,t)] h.1;have I2:=zdB b (p+a.size) (g::fs) h.2;intro fuel cs xs hl hm hw;simp only[Ty.size]at hl;rw[List.mapM_cons]at hm;simp only[Option.pure_def,Option.bind_eq_bind,Option.bind_eq_some_iff,Option.some.injEq]at hm;obtain⟨y,h1,ys,h2,rfl⟩:=hm
  have e1:((cs.take (p+a.size)).drop p).take (P.cellsOf t)=(cs.drop p).take (P.cellsOf t):=by
   rw[List.drop_take,hc,List.take_take]; congr 1; omega
  obtain⟨⟨x1,r1⟩,k1⟩:=I1 fuel (cs.take (p+a.size)) [y] (by rw[List.length_take]; omega) (by simp only[List.mapM_cons,List.mapM_nil,e1,h1]; rfl)
   (fun n hn=>hw n (by
    simp only[DataW.weightsEach,List.map_cons,List.map_nil,List.append_nil,List.mem_append]at hn ⊢
    exact Or.inl hn))
  obtain⟨⟨x2,r2⟩,k2⟩:=I2 fuel cs ys (by omega) h2 (fun n hn=>hw n (by
    simp only[List.map_cons,DataW.weightsEach,List.mem_append]at hn ⊢
    exact Or.inr hn))
  refine⟨⟨(x1,x2),_,_,?_,r1,r2⟩,fun w' sp hh hp=> ?_⟩
  ·rw[List.drop_take,show p+a.size-p=a.size by omega,← List.drop_drop,List.take_append_drop]
  ·have q1:=k1 w' sp hh (fun q hq=>hp q (by
    simp only[List.flatMap_cons,List.flatMap_nil,List.append_nil,List.mem_append]at hq ⊢
    exact Or.inl hq))
   have q2:=k2 w' sp hh (fun q hq=>hp q (by
    simp only[List.flatMap_cons,List.mem_append]
    exact Or.inr hq))
   simp only[List.mapM_cons,List.mapM_nil,e1,Option.pure_def,Option.bind_eq_bind,Option.bind_eq_some_iff,Option.some.injEq,List.cons.injEq,and_true]at q1;obtain⟨z,q1,_,rfl,rfl,_⟩:=q1;rw[List.mapM_cons];simp only[q1,q2];rfl
 | .int _,_,[],h=>by simp[tyB]at h
 | .int _,_,_::_::_,h=>by simp[tyB]at h
 | .bool,_,[],h=>by simp[tyB]at h
 | .bool,_,_::_::_,h=>by simp[tyB]at h
 | .st _ _,_,[],h=>by simp[tyB]at h
 | .st _ _,_,_::_::_,h=>by simp[tyB]at h
 | .sl _,_,[],h=>by simp[tyB]at h
 | .sl _,_,_::_::_,h=>by simp[tyB]at h
 | .pr _ _,_,[],h=>by simp[tyB]at h
 | .pr _ _,_,[_],h=>by simp[tyB]at h
def zcm (P:Program):List Ty→List TypeId→Bool
 | [],[]=>true
 | T::Ts,t::ts=>tyB P T 0 [(0,t)]&&zcm P Ts ts
 | _,_=>false
theorem zkq {v:Value} {cs:List Value} {T:Ty} {t:TypeId} {Z:Nat→Prop} {x:T.D} {base:Nat} (ht:tyB P T 0 [(0,t)]=true) (hv:Value.okWide P w .any base t v) (hc:v.cells.toList=cs) (hr:Rd (hp w) Z T x cs):v=zaj T cs:=by
 subst hc
 have scalar:(∀c,v≠ .agg c)→T.isSt=false→v=zaj T v.cells.toList:=by
  intro hn hT;unfold zaj;rw[hT];cases v<;>first | rfl | exact absurd rfl (hn _)
 cases T with
 | pr a b=>simp[tyB]at ht
 | st n u =>
  simp only[tyB,Bool.and_eq_true]at ht
  have hu: ∃fs,P.underlying t=some (.struct fs):=by
   have:=ht.2;split at this
   ·rename_i fs e; exact⟨fs,e⟩
   ·simp at this
  obtain⟨fs,hu⟩:=hu;unfold Value.okWide at hv;rw[hu]at hv;obtain⟨cs,rfl,_⟩:=hv;simp[zaj,Value.cells,Ty.isSt]
 | int k =>
  refine scalar (fun c e=> ?_) rfl;subst e;simp only[tyB,Bool.and_eq_true]at ht;have:=ht.2;split at this
  ·rename_i k' e
   simp[Value.okWide,e,Cell.okWide,Cell.ok]at hv
  ·simp at this
 | bool =>
  refine scalar (fun c e=> ?_) rfl;subst e;simp only[tyB,Bool.and_eq_true]at ht;have:=ht.2;split at this
  ·rename_i e
   simp[Value.okWide,e,Cell.okWide,Cell.ok]at hv
  ·simp at this
 | sl u =>
  refine scalar (fun c e=> ?_) rfl;subst e;simp only[tyB,Bool.and_eq_true]at ht;have:=ht.2;split at this
  ·rename_i e he
   simp[Value.okWide,he,Cell.okWide,Cell.ok]at hv
  ·simp at this
theorem zf7: ∀{Ts:List Ty} {ts:List TypeId} {vs:List Value} {ds:List (DataW H)} {ps:List MemPlace},zcm P Ts ts=true→DataW.TrodAll enc P w 0 (fun _=>true) true ts vs ds ps →
  (∀(j:Nat) t v,ts[j]? =some t→vs[j]? =some v→ ∃base,Value.okWide P w .any base t v)→(∀n∈DataW.weightsEach P ts ds,n≤reachBytes) →
  (∃x:InD (Ts.map .rd),ArgsOk (hp w) (fun b=>b<w.heap.size) (fun _=>False) (Ts.map .rd) x vs (Ts.map fun _=> []))∧vs.length=ts.length∧ds.length=ts.length ∧
  ∀(w':World) (sp:Nat→Bool),(∀b,b<w.heap.size→hp w' b=hp w b)→(∀p∈ps,sp p.block=true)→DataW.TrodAll enc P w' 0 sp true ts vs ds ps
 | [],[],[],[],ps,_,h,_,_=>⟨⟨(),trivial⟩,rfl,rfl,fun _ _ _ _=>h⟩
 | T::Ts,t::ts,v::vs,d::ds,ps,ht,h,hv,hw=>by
  obtain⟨p,q,⟨fuel,h1⟩,h2,rfl⟩:=h;simp only[zcm,Bool.and_eq_true]at ht;obtain⟨hp0,hc⟩:=zcI ht.1
  have hl:v.cells.toList.length=T.size:=by
   obtain⟨base,hv0⟩:=hv 0 t v rfl rfl;have:=zdB (H:=H) (enc:=enc) (w:=w) T 0 _ ht.1;have ht1:=ht.1;cases T with
   | pr a b=>simp[tyB]at ht1
   | st n u =>
    simp only[tyB,Bool.and_eq_true]at ht1
    have hu: ∃fs,P.underlying t=some (.struct fs):=by
     have:=ht1.2;split at this
     ·rename_i fs e; exact⟨fs,e⟩
     ·simp at this
    obtain⟨fs,hu⟩:=hu;unfold Value.okWide at hv0;rw[hu]at hv0;obtain⟨cs,rfl,hs,_⟩:=hv0;rw[← hc];simpa [Value.cells]using hs
   | int k =>
    have: ∀c,v≠ .agg c:=fun c e=>by
     subst e;simp only[tyB,Bool.and_eq_true]at ht1;have:=ht1.2;split at this
     ·rename_i k' e; simp[Value.okWide,e,Cell.okWide,Cell.ok]at hv0
     ·simp at this
    cases v<;>first | rfl | exact absurd rfl (this _)
   | bool =>
    have: ∀c,v≠ .agg c:=fun c e=>by
     subst e;simp only[tyB,Bool.and_eq_true]at ht1;have:=ht1.2;split at this
     ·rename_i e; simp[Value.okWide,e,Cell.okWide,Cell.ok]at hv0
     ·simp at this
    cases v<;>first | rfl | exact absurd rfl (this _)
   | sl u =>
    have: ∀c,v≠ .agg c:=fun c e=>by
     subst e;simp only[tyB,Bool.and_eq_true]at ht1;have:=ht1.2;split at this
     ·rename_i e he; simp[Value.okWide,he,Cell.okWide,Cell.ok]at hv0
     ·simp at this
    cases v<;>first | rfl | exact absurd rfl (this _)
  obtain⟨⟨x,hx⟩,hk⟩:=(zdB (H:=H) (enc:=enc) (w:=w) T 0 _ ht.1).at0 hc hl h1 (fun n hn=>hw n (by simp only[DataW.weightsEach,List.mem_append]; exact Or.inl hn));obtain⟨⟨xs,hxs⟩,l1,l2,hks⟩:=zf7 ht.2 h2 (fun j t v h1 h2=>hv (j+1) t v h1 h2) (fun n hn=>hw n (by simp only[DataW.weightsEach,List.mem_append]; exact Or.inr hn));refine⟨⟨(x,xs),⟨v.cells.toList,?_,Rd.keep (fun _ _=>rfl) (fun b hb=>Or.inl hb) hx⟩,rfl,hxs⟩,by simp[l1],by simp[l2],fun w' sp hh hp=>⟨p,q,⟨fuel,hk w' sp hh fun r hr=>hp r (List.mem_append.2 (.inl hr))⟩,hks w' sp hh fun r hr=>hp r (List.mem_append.2 (.inr hr)),rfl⟩⟩;obtain⟨base,hv0⟩:=hv 0 t v rfl rfl;exact zkq ht.1 hv0 rfl hx
 | [],_::_,_,_,_,h,_,_,_=>by simp[zcm]at h
 | _::_,[],_,_,_,h,_,_,_=>by simp[zcm]at h
 | [],[],_::_,_,_,_,h,_,_=>by cases h
 | [],[],[],_::_,_,_,h,_,_=>by cases h
 | _::_,_::_,[],_,_,_,h,_,_=>by cases h
 | _::_,_::_,_::_,[],_,_,h,_,_=>by cases h
theorem zcZ {us:List TypeId} {es:List (DataW H)}: ∀{ts:List TypeId} {ds:List (DataW H)},ds.length=ts.length→ ∀n∈DataW.weightsEach P ts ds,n∈DataW.weightsEach P (ts++us) (ds++es)
 | [],[],_,n,h=>by simp[DataW.weightsEach]at h
 | t::ts,d::ds,hl,n,h=>by
  simp only[DataW.weightsEach,List.cons_append,List.mem_append]at h ⊢;exact h.imp id (zcZ (by simpa using hl) n)
 | [],_::_,hl,_,_=>by simp at hl
 | _::_,[],hl,_,_=>by simp at hl
theorem zdl {base:Nat} {sp:Nat→Bool} {held:Bool}: ∀{ts:List TypeId} {vs:List Value} {ds:List (DataW H)} {ps:List MemPlace},DataW.TrodAll enc P w base sp held ts vs ds ps→ds.length=ts.length
 | [],[],[],_,_=>rfl
 | _::_,_::_,_::_,_,h=>by
  obtain⟨_,_,_,h2,_⟩:=h;simp[zdl h2]
 | [],_::_,_,_,h=>by cases h
 | [],[],_::_,_,h=>by cases h
 | _::_,[],_,_,h=>by cases h
 | _::_,_::_,[],_,h=>by cases h
theorem zhf {f:FuncId} {fn:Func} {s:ChangeSpec} {ins:List Par} {n:Nat} {F:InD ins→Option (zaY [⟨false,.bool,.fz⟩]×zak ins)} (hc:ConOk P f ⟨ins,[⟨false,.bool,.fz⟩],F⟩)
  {x:InD ins} {args:Array Value} {fs0:List (List Nat)} (hx:ArgsOk (hp w) (fun b=>b<w.heap.size) (fun _=>False) ins x args.toList fs0) (hfl:fs0.flatten= []) {m:zak ins} (hm:F x=some ((true,()),m))
  {tb:TypeId} (hr:fn.resultTypes= #[tb]) (hb:P.underlying tb=some .bool) (hs:s.vars= [])
  (hfn: ∀ds:List (DataW H),ds.length=n→s.fn H ds={ results:= [.lit (.bool true)],args:=ds })
  {ds:List (DataW H)} {before:List MemPlace} (hlen:ds.length=n) (hW':DataW.Whole enc P fn.params.toList s.vars false w args.toList ds [] before)
  (hk: ∀(w':World) (sp:Nat→Bool),(∀b,b<w.heap.size→hp w' b=hp w b)→(∀p∈before,sp p.block=true)→DataW.TrodAll enc P w' 0 sp true fn.params.toList args.toList ds before) :
  Calls P f args w fun e W'=> ∃v,e= .returned v∧s.post enc P fn false true false false w args v W':=by
 have:=hc.run w _ _ x args.toList _ _ hx hm (fun b hb=>hb.resolve_right (fun h=>h)) (by rw[hfl]; exact List.nodup_nil) (fun b hb=>by rw[hfl]at hb; cases hb);rw[Array.toArray_toList]at this;refine this.mono fun e W' hd=> ?_
 obtain⟨vs,Z',fs,ms,rfl,hio,hsz,hsame,_,_,hres,_⟩:=hd;have hh: ∀b,b<w.heap.size→hp W' b=hp w b:=fun b hb=>hsame b hb (by rw[hfl]; exact fun h=>by cases h)
 have hv:vs= [.bool true]:=by
  rcases vs with _ | ⟨v,vs⟩
  ·cases hres
  ·rcases fs with _ | ⟨f,fs⟩
   ·cases hres
   ·obtain⟨⟨cs,rfl,ho⟩,h2⟩:=hres
    have:cs= [.bool true]:=ho.1;subst this;rcases vs with _ | ⟨v2,vs⟩
    ·rfl
    ·cases h2
 subst hv;refine⟨.bool true,rfl,ds,[],before,[],before,[],hW',?_,?_,?_,?_,fun h=>by cases h⟩
 ·rw[List.append_nil,hfn _ hlen,hr]
  exact⟨[],[],shut_bool hb true,trodAll_mk0,rfl⟩
 ·rw[List.append_nil,hfn _ hlen]
  exact hk W' _ hh fun r hr=>by
   have:=hW'.lt r hr;simpa using this
 ·rw[List.append_nil,hs,hfn _ hlen]
  rfl
 ·injection hio with h1 h2
  refine⟨h1,h2,fun i hi=> ?_⟩;have:=hh i hi;unfold hp at this;rw[this,Array.getElem?_eq_getElem hi];cases w.heap[i]with
  | cells c t fr=>exact⟨rfl,rfl,rfl,fun _ _=>rfl⟩
  | map es clock=>exact Or.inr ⟨rfl,rfl⟩
  | _=>rfl
theorem zkB {f:FuncId} {fn:Func} {s:ChangeSpec} {Ts:List Ty} {F:InD (Ts.map .rd)→Option (zaY [⟨false,.bool,.fz⟩]×zak (Ts.map .rd))} (hc:ConOk P f ⟨Ts.map .rd,[⟨false,.bool,.fz⟩],F⟩)
  (hF: ∀x,∃m,F x=some ((true,()),m)) (ht:zcm P Ts fn.params.toList=true) {tb:TypeId} (hr:fn.resultTypes= #[tb]) (hb:P.underlying tb=some .bool) (hs:s.vars= [])
  (hfn: ∀ds:List (DataW H),ds.length=Ts.length→s.fn H ds={ results:= [.lit (.bool true)],args:=ds }) {us:List TypeId}
  {args:Array Value} {ds gs:List (DataW H)} {before:List MemPlace} (hval: ∀(j:Nat) t v,fn.params[j]? =some t→args[j]? =some v→ ∃base,Value.okWide P w .any base t v)
  (hW:DataW.Whole enc P fn.params.toList s.vars false w args.toList ds gs before) (hw:(DataW.weightsEach P (fn.params.toList++us) (ds++gs)).all (· ≤reachBytes)=true) :
  Calls P f args w fun e W'=> ∃v,e= .returned v∧s.post enc P fn false true false false w args v W':=by
 have hW':=hW;obtain⟨p,q,hA,hV,hpq,hz,hn⟩:=hW;rw[hs]at hV
 have hg:gs= []∧q= []:=by
  cases gs with
  | nil=>exact⟨rfl,hV⟩
  | cons a l=>cases hV
 obtain⟨rfl,rfl⟩:=hg;have hpb:p=before:=by rw[hpq,List.append_nil]
 subst hpb
 have hw': ∀n∈DataW.weightsEach P fn.params.toList ds,n≤reachBytes:=fun n hn=>by
  have:=List.all_eq_true.1 hw n (zcZ (zdl hA) n hn);simpa using this
 obtain⟨⟨x,hx⟩,l1,l2,hk⟩:=zf7 ht hA (fun j t v h1 h2=>hval j t v (by simpa using h1) (by simpa using h2)) hw';obtain⟨m,hm⟩:=hF x
 have hlen: ∀(Ts:List Ty) (ts:List TypeId),zcm P Ts ts=true→Ts.length=ts.length:=by
  intro Ts
  induction Ts with
  | nil=>intro ts h; cases ts with
   | nil=>rfl
   | cons=>simp[zcm]at h
  | cons T Ts ih=>intro ts h; cases ts with
   | nil=>simp[zcm]at h
   | cons t ts=>simp only[zcm,Bool.and_eq_true]at h; simp[ih ts h.2]
 have hfl:(Ts.map fun _=>([]:List Nat)).flatten= []:=by simp
 exact zhf hc hx hfl hm hr hb hs hfn (by rw[l2]; exact(hlen _ _ ht).symm) hW' hk
theorem zkK {f:FuncId} {fn:Func} {s:ChangeSpec} {u:Ty} {F:InD [.kp (.sl u) .fz]→Option (zaY [⟨false,.bool,.fz⟩]×zak [.kp (.sl u) .fz])} (hc:ConOk P f ⟨[.kp (.sl u) .fz],[⟨false,.bool,.fz⟩],F⟩)
  (hF: ∀x,∃m,F x=some ((true,()),m)) (ht:zcm P [.sl u] fn.params.toList=true) {tb:TypeId} (hr:fn.resultTypes= #[tb]) (hb:P.underlying tb=some .bool) (hs:s.vars= [])
  (hfn: ∀ds:List (DataW H),ds.length=1→s.fn H ds={ results:= [.lit (.bool true)],args:=ds }) {us:List TypeId}
  {args:Array Value} {ds gs:List (DataW H)} {before:List MemPlace} (hval: ∀(j:Nat) t v,fn.params[j]? =some t→args[j]? =some v→ ∃base,Value.okWide P w .any base t v)
  (hW:DataW.Whole enc P fn.params.toList s.vars false w args.toList ds gs before) (hw:(DataW.weightsEach P (fn.params.toList++us) (ds++gs)).all (· ≤reachBytes)=true) :
  Calls P f args w fun e W'=> ∃v,e= .returned v∧s.post enc P fn false true false false w args v W':=by
 have hW':=hW;obtain⟨p,q,hA,hV,hpq,hz,hn⟩:=hW;rw[hs]at hV
 have hg:gs= []∧q= []:=by
  cases gs with
  | nil=>exact⟨rfl,hV⟩
  | cons a l=>cases hV
 obtain⟨rfl,rfl⟩:=hg;have hpb:p=before:=by rw[hpq,List.append_nil]
 subst hpb
 have hw': ∀n∈DataW.weightsEach P fn.params.toList ds,n≤reachBytes:=fun n hn=>by
  have:=List.all_eq_true.1 hw n (zcZ (zdl hA) n hn);simpa using this
 obtain⟨⟨x,hx⟩,l1,l2,hk⟩:=zf7 ht hA (fun j t v h1 h2=>hval j t v (by simpa using h1) (by simpa using h2)) hw'
 have hp1:fn.params.toList.length=1:=by
  cases h:fn.params.toList with
  | nil=>rw[h]at ht; simp[zcm]at ht
  | cons t ts=>rw[h]at ht; cases ts with
   | nil=>rfl
   | cons=>simp[zcm]at ht
 have hx2:ArgsOk (hp w) (fun b=>b<w.heap.size) (fun _=>False) [.kp (.sl u) .fz] x args.toList [[]]:=by
  cases hA:args.toList with
  | nil=>rw[hA,hp1]at l1; simp at l1
  | cons v vs =>
   rw[hA]at hx;obtain⟨⟨cs,e,hr⟩,_,h3⟩:=hx;exact⟨⟨cs,e,Rd.keep (fun _ _=>rfl) (fun b hb=>hb.resolve_right (fun h=>h)) hr,rfl⟩,h3⟩
 obtain⟨m,hm⟩:=hF x;exact zhf hc hx2 rfl hm hr hb hs hfn (by rw[l2]; exact hp1) hW' hk
end
end Go.Tf
