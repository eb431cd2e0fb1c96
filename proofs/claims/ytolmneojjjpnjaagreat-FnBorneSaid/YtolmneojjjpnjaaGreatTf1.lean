/- A symbolic executor over the model, proved sound: part 1. -/
import Derived.Orders
import Derived.Laws.Entries
import Derived.Laws.StructEq
namespace Go.Tf
set_option linter.unusedVariables false
set_option linter.unusedSimpArgs false
inductive Ty where
 | int (k:IntKind)
 | bool
 | sl (t:Ty)
 | pr (a b:Ty)
 | st (n:Nat) (t:Ty)
@[reducible] def Ty.D:Ty→Type
 | .int _=>Int
 | .bool=>Bool
 | .sl t=>List t.D
 | .pr a b=>a.D×b.D
 | .st _ t=>t.D
def Ty.dflt:(t:Ty)→t.D
 | .int _=>(0:Int)
 | .bool=>false
 | .sl _=> []
 | .pr a b=>(a.dflt,b.dflt)
 | .st _ t=>t.dflt
def Ty.size:Ty→Nat
 | .int _=>1
 | .bool=>1
 | .sl _=>1
 | .pr a b=>a.size+b.size
 | .st _ t=>t.size
def Ty.bytes:Ty→Nat
 | .int k=>k.bits / 8
 | .bool=>1
 | .sl _=>24
 | .pr a b=>a.bytes+b.bytes
 | .st n _=>n
def zb5:(a b:IntKind)→Option (PLift (a=b))
 | .i8,.i8=>some ⟨rfl⟩ | .i16,.i16=>some ⟨rfl⟩ | .i32,.i32=>some ⟨rfl⟩ | .i64,.i64=>some ⟨rfl⟩
 | .u8,.u8=>some ⟨rfl⟩ | .u16,.u16=>some ⟨rfl⟩ | .u32,.u32=>some ⟨rfl⟩ | .u64,.u64=>some ⟨rfl⟩
 | _,_=>none
def Ty.eq:(a b:Ty)→Option (PLift (a=b))
 | .int k,.int j=>match zb5 k j with | some ⟨h⟩=>some ⟨h ▸ rfl⟩ | none=>none
 | .bool,.bool=>some ⟨rfl⟩
 | .sl a,.sl b=>match a.eq b with | some ⟨h⟩=>some ⟨h ▸ rfl⟩ | none=>none
 | .pr a b,.pr c d=>match a.eq c,b.eq d with | some ⟨h⟩,some ⟨g⟩=>some ⟨h ▸ g ▸ rfl⟩ | _,_=>none
 | .st n a,.st m b=>if h:n=m then(match a.eq b with | some ⟨g⟩=>some ⟨h ▸ g ▸ rfl⟩ | none=>none)else none
 | _,_=>none
inductive LD where
 | int (k:IntKind) (n:Int)
 | bool (b:Bool)
 | sl (t:Ty) (l:List t.D)
def Ty.flat:(t:Ty)→t.D→List LD
 | .int k,n=> [.int k n]
 | .bool,b=> [.bool b]
 | .sl t,l=> [.sl t l]
 | .pr a b,x=>a.flat x.1++b.flat x.2
 | .st _ t,x=>t.flat x
theorem zao: ∀(t:Ty) (x:t.D),(t.flat x).length=t.size
 | .int _,_=>rfl
 | .bool,_=>rfl
 | .sl _,_=>rfl
 | .pr a b,x=>by simp[Ty.flat,Ty.size,zao a,zao b]
 | .st _ t,x=>zao t x
def Ty.unflat:(t:Ty)→List LD→Option (t.D×List LD)
 | .int k,r=>match r with
  | .int j n::r=>(match zb5 j k with | some _=>some (n,r) | none=>none)
  | _=>none
 | .bool,r=>match r with
  | .bool b::r=>some (b,r)
  | _=>none
 | .sl t,r=>match r with
  | .sl u l::r=>(match Ty.eq u t with | some ⟨h⟩=>some (h ▸ l,r) | none=>none)
  | _=>none
 | .pr a b,r=>match a.unflat r with
  | some (x,r)=>(match b.unflat r with | some (y,r)=>some ((x,y),r) | none=>none)
  | none=>none
 | .st _ t,r=>t.unflat r
theorem zaD: ∀(t:Ty) (r:List LD) (x:t.D) (r':List LD),t.unflat r=some (x,r')→r=t.flat x++r'
 | .int k,r,x,r',h=>by
  simp only[Ty.unflat]at h;split at h
  ·split at h
   ·rename_i e _; obtain⟨e⟩:=e; subst e; simp at h; obtain⟨rfl,rfl⟩:=h; rfl
   ·simp at h
  ·simp at h
 | .bool,r,x,r',h=>by
  simp only[Ty.unflat]at h;split at h
  ·simp at h; obtain⟨rfl,rfl⟩:=h; rfl
  ·simp at h
 | .sl t,r,x,r',h=>by
  simp only[Ty.unflat]at h;split at h
  ·split at h
   ·rename_i e _; subst e; simp at h; obtain⟨rfl,rfl⟩:=h; rfl
   ·simp at h
  ·simp at h
 | .pr a b,r,x,r',h=>by
  simp only[Ty.unflat]at h;split at h
  ·rename_i y r1 h1
   split at h
   ·rename_i z r2 h2
    simp at h;obtain⟨rfl,rfl⟩:=h;rw[zaD a _ _ _ h1,zaD b _ _ _ h2];simp[Ty.flat]
   ·simp at h
  ·simp at h
 | .st _ t,r,x,r',h=>zaD t r x r' h
abbrev za:=Nat→Option Obj
def hp (w:World):za:=fun b=>w.heap[b]?
def zL (h:za) (b o:Nat):Option Value :=
 match h b with
 | some (.cells c _ _)=>c[o]?
 | _=>none
theorem zb1 (w:World) (b o:Nat):w.cell? ⟨b,o,none⟩=zL (hp w) b o:=by
 unfold World.cell? zL hp;dsimp only;split<;>simp_all
def zh (h:za) (b o:Nat):Nat→Option (List Value)
 | 0=>some []
 | n+1=>match zL h b o,zh h b (o+1) n with
  | some v,some r=>some (v::r)
  | _,_=>none
theorem zax {h h':za} {b:Nat} (e:h' b=h b): ∀n o,zh h' b o n=zh h b o n
 | 0,_=>rfl
 | n+1,o=>by simp only[zh,zL,e,zax e n (o+1)]
theorem zaA {h:za} {b:Nat}: ∀{n o:Nat} {vs:List Value},zh h b o n=some vs→vs.length=n
 | 0,_,_,e=>by simp[zh]at e; simp[e]
 | n+1,o,vs,e=>by
  simp only[zh]at e;split at e
  ·rename_i v r h1 h2
   simp at e; subst e;simp[zaA h2]
  ·simp at e
theorem zab {h:za} {b:Nat}: ∀{n o:Nat} {vs:List Value},zh h b o n=some vs→ ∀j,j<n→vs[j]? =zL h b (o+j)
 | 0,_,_,_,j,hj=>by omega
 | n+1,o,vs,e,j,hj=>by
  simp only[zh]at e;split at e
  ·rename_i v r h1 h2
   simp at e; subst e;cases j with
   | zero=>simp[h1]
   | succ j=>simp only[List.getElem?_cons_succ]; rw[zab h2 j (by omega)]; congr 1; omega
  ·simp at e
theorem zap {h:za} {b:Nat}: ∀(vs:List Value) (o:Nat),(∀j,j<vs.length→zL h b (o+j)=vs[j]?)→zh h b o vs.length=some vs
 | [],_,_=>rfl
 | v::r,o,e=>by
  have h0:=e 0 (by simp);have h1:=zap r (o+1) (fun j hj=>by have:=e (j+1) (by simpa using hj); simp at this; rw[← this]; congr 1; omega);simp at h0;simp[zh,h0,h1]
def zaw (k:IntKind) (n:Int):Prop:=k.min≤n∧n≤k.max
def Rd (h:za) (Z:Nat→Prop):(t:Ty)→t.D→List Value→Prop
 | .int k,n,cs=>cs= [.int k n]∧zaw k n
 | .bool,b,cs=>cs= [.bool b]
 | .sl t,l,cs=> ∃a cap,cs= [.slice a l.length cap]∧l.length*t.bytes≤2^47∧l.length≤cap ∧
   (l= []∨ ∃b o,a=some ⟨b,o,none⟩∧Z b∧ ∀i x,l[i]? =some x→ ∃vs,zh h b (o+i*t.size) t.size=some vs∧Rd h Z t x vs)
 | .pr a b,x,cs=> ∃c1 c2,cs=c1++c2∧Rd h Z a x.1 c1∧Rd h Z b x.2 c2
 | .st _ t,x,cs=>Rd h Z t x cs
theorem Rd.len {h:za} {Z:Nat→Prop}: ∀{t:Ty} {x:t.D} {cs:List Value},Rd h Z t x cs→cs.length=t.size
 | .int _,_,_,e=>by obtain⟨rfl,_⟩:=e; rfl
 | .bool,_,_,e=>by simp only[Rd]at e; subst e; rfl
 | .sl _,_,_,e=>by obtain⟨a,cap,rfl,_⟩:=e; rfl
 | .pr a b,_,_,e=>by obtain⟨c1,c2,rfl,h1,h2⟩:=e; simp[Ty.size,Rd.len h1,Rd.len h2]
 | .st _ t,_,_,e=>Rd.len (t:=t) e
theorem Rd.keep {h h':za} {Z Z':Nat→Prop} (hk: ∀b,Z b→h' b=h b) (hz: ∀b,Z b→Z' b) :
  ∀{t:Ty} {x:t.D} {cs:List Value},Rd h Z t x cs→Rd h' Z' t x cs
 | .int _,_,_,e=>e
 | .bool,_,_,e=>e
 | .sl t,l,_,e=>by
  obtain⟨a,cap,rfl,hb,hc,e⟩:=e;refine⟨a,cap,rfl,hb,hc,e.imp id ?_⟩
  rintro⟨b,o,rfl,hZ,e⟩
  refine⟨b,o,rfl,hz b hZ,fun i x hx=> ?_⟩;obtain⟨vs,h1,h2⟩:=e i x hx;exact⟨vs,by rw[zax (hk b hZ)]; exact h1,Rd.keep hk hz h2⟩
 | .pr a b,_,_,e=>by
  obtain⟨c1,c2,rfl,h1,h2⟩:=e;exact⟨c1,c2,rfl,Rd.keep hk hz h1,Rd.keep hk hz h2⟩
 | .st _ t,_,_,e=>Rd.keep (t:=t) hk hz e
def RdL (h:za) (Z:Nat→Prop):LD→Value→Prop
 | .int k n,v=>Rd h Z (.int k) n [v]
 | .bool b,v=>Rd h Z .bool b [v]
 | .sl t l,v=>Rd h Z (.sl t) l [v]
def RdLs (h:za) (Z:Nat→Prop):List LD→List Value→Prop
 | [],[]=>True
 | d::ds,v::vs=>RdL h Z d v∧RdLs h Z ds vs
 | _,_=>False
theorem RdLs.append {h:za} {Z:Nat→Prop}: ∀{a b:List LD} {c d:List Value},RdLs h Z a c→RdLs h Z b d→RdLs h Z (a++b) (c++d)
 | [],_,[],_,_,h2=>h2
 | x::a,b,v::c,d,h1,h2=>⟨h1.1,RdLs.append h1.2 h2⟩
theorem RdLs.split {h:za} {Z:Nat→Prop}: ∀{a b:List LD} {cs:List Value},RdLs h Z (a++b) cs→ ∃c d,cs=c++d∧RdLs h Z a c∧RdLs h Z b d
 | [],b,cs,e=>⟨[],cs,rfl,trivial,e⟩
 | x::a,b,v::cs,e=>by
  obtain⟨c,d,rfl,h1,h2⟩:=RdLs.split (a:=a) e.2;exact⟨v::c,d,rfl,⟨e.1,h1⟩,h2⟩
theorem RdLs.len {h:za} {Z:Nat→Prop}: ∀{a:List LD} {cs:List Value},RdLs h Z a cs→cs.length=a.length
 | [],[],_=>rfl
 | _::a,_::cs,e=>by simp[RdLs.len e.2]
theorem RdLs.get {h:za} {Z:Nat→Prop}: ∀{a:List LD} {cs:List Value},RdLs h Z a cs→ ∀{j:Nat} {d:LD},a[j]? =some d→ ∃v,cs[j]? =some v∧RdL h Z d v
 | _::a,v::cs,e,0,d,hd=>by simp at hd; subst hd; exact⟨v,rfl,e.1⟩
 | _::a,_::cs,e,j+1,d,hd=>by simpa using RdLs.get e.2 (j:=j) (by simpa using hd)
theorem zbw {h:za} {Z:Nat→Prop}: ∀{t:Ty} {x:t.D} {cs:List Value},Rd h Z t x cs↔RdLs h Z (t.flat x) cs
 | .int k,n,cs=>by
  constructor
  ·rintro⟨rfl,hf⟩; exact⟨⟨rfl,hf⟩,trivial⟩
  ·intro e; match cs,e with | [v],e=>exact e.1
 | .bool,n,cs=>by
  constructor
  ·intro e; simp only[Rd]at e; subst e; exact⟨rfl,trivial⟩
  ·intro e; match cs,e with | [v],e=>exact e.1
 | .sl t,l,cs=>by
  constructor
  ·intro e; obtain⟨a,cap,rfl,_⟩:=id e; exact⟨e,trivial⟩
  ·intro e; match cs,e with | [v],e=>exact e.1
 | .pr a b,x,cs=>by
  constructor
  ·rintro⟨c1,c2,rfl,h1,h2⟩; exact RdLs.append (zbw.1 h1) (zbw.1 h2)
  ·intro e; obtain⟨c,d,rfl,h1,h2⟩:=RdLs.split e; exact⟨c,d,rfl,zbw.2 h1,zbw.2 h2⟩
 | .st _ t,x,cs=>zbw (t:=t)
inductive Ann where
 | fz
 | ow (a:Ann)
 | pr (a b:Ann)
def Ann.beq:Ann→Ann→Bool
 | .fz,.fz=>true
 | .ow a,.ow b=>a.beq b
 | .pr a b,.pr c d=>a.beq c&&b.beq d
 | _,_=>false
theorem Ann.eq_of_beq: ∀{a b:Ann},a.beq b=true→a=b
 | .fz,.fz,_=>rfl
 | .ow a,.ow b,h=>by rw[Ann.eq_of_beq (a:=a) (b:=b) h]
 | .pr a b,.pr c d,h=>by
  simp only[Ann.beq,Bool.and_eq_true]at h;rw[Ann.eq_of_beq h.1,Ann.eq_of_beq h.2]
def Ann.fst:Ann→Ann | .pr a _=>a | _=> .fz
def Ann.snd:Ann→Ann | .pr _ b=>b | _=> .fz
def Ann.flat:Ann→Ty→List Ann
 | a,.pr t u=>a.fst.flat t++a.snd.flat u
 | a,.st _ t=>a.flat t
 | a,_=> [a]
def Own (h:za) (Z:Nat→Prop):(t:Ty)→Ann→t.D→List Value→List Nat→Prop
  | .int k,_,n,cs,fp=>Rd h Z (.int k) n cs∧fp= []
  | .bool,_,b,cs,fp=>Rd h Z .bool b cs∧fp= []
  | .sl t,.ow a,l,cs,fp=> ∃hd cap,cs= [.slice hd l.length cap]∧l.length*t.bytes≤2^47∧l.length≤cap ∧
      ((l= []∧hd=none∧cap=0∧fp= []) ∨
       ∃(b o:Nat) (c:Array Value) (T:TypeId) (fps:List (List Nat)),hd=some ⟨b,o,none⟩∧h b=some (.cells c T (0,0))∧o+cap*t.size≤c.size∧fp=b::fps.flatten∧fps.length=l.length ∧
        ∀i x,l[i]? =some x→ ∃vs f,fps[i]? =some f∧zh h b (o+i*t.size) t.size=some vs∧Own h Z t a x vs f)
  | .sl t,_,l,cs,fp=>Rd h Z (.sl t) l cs∧fp= []
  | .pr t u,a,x,cs,fp=> ∃c1 c2 f1 f2,cs=c1++c2∧fp=f1++f2∧Own h Z t a.fst x.1 c1 f1∧Own h Z u a.snd x.2 c2 f2
  | .st _ t,a,x,cs,fp=>Own h Z t a x cs fp
theorem Own.keep {h h':za} {Z Z':Nat→Prop} (hk: ∀b,Z b→h' b=h b) (hz: ∀b,Z b→Z' b) :
  ∀{t:Ty} {a:Ann} {x:t.D} {cs:List Value} {fp:List Nat},(∀b∈fp,h' b=h b)→Own h Z t a x cs fp→Own h' Z' t a x cs fp
 | .int _,_,_,_,_,_,e=>⟨Rd.keep hk hz e.1,e.2⟩
 | .bool,_,_,_,_,_,e=>⟨Rd.keep hk hz e.1,e.2⟩
 | .sl t,.fz,_,_,_,_,e=>⟨Rd.keep hk hz e.1,e.2⟩
 | .sl t,.pr _ _,_,_,_,_,e=>⟨Rd.keep hk hz e.1,e.2⟩
 | .sl t,.ow a,l,_,fp,hf,e=>by
  obtain⟨hd,cap,rfl,hb,hc,e⟩:=e;refine⟨hd,cap,rfl,hb,hc,e.imp id ?_⟩
  rintro⟨b,o,c,T,fps,rfl,hB,hcap,rfl,hlen,e⟩
  refine⟨b,o,c,T,fps,rfl,by rw[hf b (by simp)]; exact hB,hcap,rfl,hlen,fun i x hx=> ?_⟩;obtain⟨vs,f,h1,h2,h3⟩:=e i x hx;refine⟨vs,f,h1,by rw[zax (hf b (by simp))]; exact h2,Own.keep hk hz (fun b' hb'=>hf b' ?_) h3⟩;exact List.mem_cons_of_mem _ (List.mem_flatten.2 ⟨f,List.mem_of_getElem? h1,hb'⟩)
 | .pr t u,a,_,_,_,hf,e=>by
  obtain⟨c1,c2,f1,f2,rfl,rfl,h1,h2⟩:=e;exact⟨c1,c2,f1,f2,rfl,rfl,Own.keep hk hz (fun b hb=>hf b (by simp[hb])) h1,Own.keep hk hz (fun b hb=>hf b (by simp[hb])) h2⟩
 | .st _ t,a,_,_,_,hf,e=>Own.keep (t:=t) (a:=a) hk hz hf e
theorem Own.rd {h:za} {Z Z':Nat→Prop} (hz: ∀b,Z b→Z' b) :
  ∀{t:Ty} {a:Ann} {x:t.D} {cs:List Value} {fp:List Nat},(∀b∈fp,Z' b)→Own h Z t a x cs fp→Rd h Z' t x cs
 | .int _,_,_,_,_,_,e=>Rd.keep (fun _ _=>rfl) hz e.1
 | .bool,_,_,_,_,_,e=>Rd.keep (fun _ _=>rfl) hz e.1
 | .sl t,.fz,_,_,_,_,e=>Rd.keep (fun _ _=>rfl) hz e.1
 | .sl t,.pr _ _,_,_,_,_,e=>Rd.keep (fun _ _=>rfl) hz e.1
 | .sl t,.ow a,l,_,fp,hf,e=>by
  obtain⟨hd,cap,rfl,hb,hc,e⟩:=e;refine⟨hd,cap,rfl,hb,hc,?_⟩;rcases e with⟨rfl,_⟩ | ⟨b,o,c,T,fps,rfl,hB,hcap,rfl,hlen,e⟩
  ·exact .inl rfl
  ·refine .inr ⟨b,o,rfl,hf b (by simp),fun i x hx=> ?_⟩
   obtain⟨vs,f,h1,h2,h3⟩:=e i x hx;exact⟨vs,h2,Own.rd hz (fun b' hb'=>hf b' (List.mem_cons_of_mem _ (List.mem_flatten.2 ⟨f,List.mem_of_getElem? h1,hb'⟩))) h3⟩
 | .pr t u,a,_,_,_,hf,e=>by
  obtain⟨c1,c2,f1,f2,rfl,rfl,h1,h2⟩:=e;exact⟨c1,c2,rfl,Own.rd hz (fun b hb=>hf b (by simp[hb])) h1,Own.rd hz (fun b hb=>hf b (by simp[hb])) h2⟩
 | .st _ t,a,_,_,_,hf,e=>Own.rd (t:=t) (a:=a) hz hf e
theorem Own.len {h:za} {Z:Nat→Prop} {t:Ty} {a:Ann} {x:t.D} {cs:List Value} {fp:List Nat} (e:Own h Z t a x cs fp):cs.length=t.size :=Rd.len (Own.rd (Z':=fun b=>Z b∨b∈fp) (fun _ h=> .inl h) (fun _ h=> .inr h) e)
def OwnL (h:za) (Z:Nat→Prop):LD→Ann→Value→List Nat→Prop
 | .int k n,a,v,fp=>Own h Z (.int k) a n [v] fp
 | .bool b,a,v,fp=>Own h Z .bool a b [v] fp
 | .sl t l,a,v,fp=>Own h Z (.sl t) a l [v] fp
def OwnLs (h:za) (Z:Nat→Prop):List LD→List Ann→List Value→List (List Nat)→Prop
 | [],[],[],[]=>True
 | d::ds,a::as,v::vs,f::fs=>OwnL h Z d a v f∧OwnLs h Z ds as vs fs
 | _,_,_,_=>False
theorem OwnLs.append {h:za} {Z:Nat→Prop}: ∀{a b:List LD} {aa ab:List Ann} {c d:List Value} {f g:List (List Nat)},
  OwnLs h Z a aa c f→OwnLs h Z b ab d g→OwnLs h Z (a++b) (aa++ab) (c++d) (f++g)
 | [],_,[],_,[],_,[],_,_,h2=>h2
 | _::a,_,_::aa,_,_::c,_,_::f,_,h1,h2=>⟨h1.1,OwnLs.append h1.2 h2⟩
theorem OwnLs.split {h:za} {Z:Nat→Prop}: ∀{a b:List LD} {aa ab:List Ann} {cs:List Value} {fs:List (List Nat)},a.length=aa.length →
  OwnLs h Z (a++b) (aa++ab) cs fs→ ∃c d f g,cs=c++d∧fs=f++g∧OwnLs h Z a aa c f∧OwnLs h Z b ab d g
 | [],_,[],_,cs,fs,_,e=>⟨[],cs,[],fs,rfl,rfl,trivial,e⟩
 | x::a,b,y::aa,ab,v::cs,f::fs,hl,e=>by
  obtain⟨c,d,f',g,rfl,rfl,h1,h2⟩:=OwnLs.split (a:=a) (aa:=aa) (by simpa using hl) e.2;exact⟨v::c,d,f::f',g,rfl,rfl,⟨e.1,h1⟩,h2⟩
 | [],_,_::_,_,_,_,hl,_=>by simp at hl
 | _::_,_,[],_,_,_,hl,_=>by simp at hl
theorem OwnLs.get {h:za} {Z:Nat→Prop}: ∀{ds:List LD} {as:List Ann} {vs:List Value} {fs:List (List Nat)},OwnLs h Z ds as vs fs →
  ∀{j:Nat} {d:LD} {a:Ann},ds[j]? =some d→as[j]? =some a→ ∃v f,vs[j]? =some v∧fs[j]? =some f∧OwnL h Z d a v f
 | _::_,_::_,v::_,f::_,e,0,_,_,hd,ha=>by simp at hd ha; subst hd ha; exact⟨v,f,rfl,rfl,e.1⟩
 | _::_,_::_,_::_,_::_,e,j+1,_,_,hd,ha=>by simpa using OwnLs.get e.2 (j:=j) (by simpa using hd) (by simpa using ha)
theorem OwnLs.len {h:za} {Z:Nat→Prop}: ∀{ds:List LD} {as:List Ann} {vs:List Value} {fs:List (List Nat)},OwnLs h Z ds as vs fs →
  as.length=ds.length∧vs.length=ds.length∧fs.length=ds.length
 | [],[],[],[],_=>⟨rfl,rfl,rfl⟩
 | _::_,_::_,_::_,_::_,e=>by
  obtain⟨h1,h2,h3⟩:=OwnLs.len e.2;simp[h1,h2,h3]
theorem OwnLs.set {h:za} {Z:Nat→Prop}: ∀{ds:List LD} {as:List Ann} {vs:List Value} {fs:List (List Nat)},OwnLs h Z ds as vs fs →
  ∀{j:Nat} {d:LD} {a:Ann} {v:Value} {f:List Nat},as[j]? =some a→OwnL h Z d a v f→OwnLs h Z (ds.set j d) as (vs.set j v) (fs.set j f)
 | [],[],[],[],_,_,_,_,_,_,ha,_=>by simp at ha
 | _::_,_::_,_::_,_::_,e,0,_,_,_,_,ha,o=>by simp at ha; subst ha; exact⟨o,e.2⟩
 | _::_,_::_,_::_,_::_,e,j+1,_,_,_,_,ha,o=>⟨e.1,OwnLs.set e.2 (by simpa using ha) o⟩
theorem zbB: ∀(t:Ty) (a:Ann),(a.flat t).length=t.size
 | .int _,a=>by cases a<;>rfl
 | .bool,a=>by cases a<;>rfl
 | .sl _,a=>by cases a<;>rfl
 | .pr t u,a=>by simp[Ann.flat,Ty.size,zbB t,zbB u]
 | .st _ t,a=>by simp[Ann.flat,Ty.size,zbB t]
theorem OwnLs.one {h:za} {Z:Nat→Prop} {d:LD} {a:Ann}: ∀{cs:List Value} {fs:List (List Nat)},OwnLs h Z [d] [a] cs fs→ ∃v f,cs= [v]∧fs= [f]∧OwnL h Z d a v f
 | [v],[f],e=>⟨v,f,rfl,rfl,e.1⟩
 | [],_,e=>e.elim
 | [_],[],e=>e.elim
 | [_],_::_::_,e=>e.2.elim
 | _::_::_,[],e=>e.elim
 | _::_::_,[_],e=>e.2.elim
 | _::_::_,_::_::_,e=>e.2.elim
theorem zE {h:za} {Z:Nat→Prop}: ∀{t:Ty} {a:Ann} {x:t.D} {cs:List Value} {fp:List Nat},
  Own h Z t a x cs fp↔ ∃fs,fp=fs.flatten∧OwnLs h Z (t.flat x) (a.flat t) cs fs
 | .int k,a,n,cs,fp=>by
  have ha:a.flat (.int k)= [a]:=by cases a<;>rfl
  rw[ha];constructor
  ·rintro⟨⟨rfl,hf⟩,rfl⟩; exact⟨[[]],rfl,⟨⟨rfl,hf⟩,rfl⟩,trivial⟩
  ·rintro⟨fs,rfl,e⟩; obtain⟨v,f,rfl,rfl,e2⟩:=OwnLs.one e; simpa using(show Own h Z _ a n [v] f from e2)
 | .bool,a,n,cs,fp=>by
  have ha:a.flat .bool= [a]:=by cases a<;>rfl
  rw[ha];constructor
  ·rintro⟨e,rfl⟩; simp only[Rd]at e; subst e; exact⟨[[]],rfl,⟨rfl,rfl⟩,trivial⟩
  ·rintro⟨fs,rfl,e⟩; obtain⟨v,f,rfl,rfl,e2⟩:=OwnLs.one e; simpa using(show Own h Z _ a n [v] f from e2)
 | .sl t,a,n,cs,fp=>by
  have ha:a.flat (.sl t)= [a]:=by cases a<;>rfl
  rw[ha];constructor
  ·intro e
   have hl:=Own.len e
   match cs,hl with | [v],_=>exact⟨[fp],by simp,e,trivial⟩
  ·rintro⟨fs,rfl,e⟩; obtain⟨v,f,rfl,rfl,e2⟩:=OwnLs.one e; simpa using(show Own h Z _ a n [v] f from e2)
 | .pr t u,a,x,cs,fp=>by
  constructor
  ·rintro⟨c1,c2,f1,f2,rfl,rfl,h1,h2⟩
   obtain⟨g1,rfl,e1⟩:=zE.1 h1;obtain⟨g2,rfl,e2⟩:=zE.1 h2;exact⟨g1++g2,by simp,OwnLs.append e1 e2⟩
  ·rintro⟨fs,rfl,e⟩
   obtain⟨c,d,f,g,rfl,rfl,h1,h2⟩:=OwnLs.split (by rw[zao,zbB]) e;exact⟨c,d,f.flatten,g.flatten,rfl,by simp,zE.2 ⟨_,rfl,h1⟩,zE.2 ⟨_,rfl,h2⟩⟩
 | .st _ t,a,x,cs,fp=>zE (t:=t) (a:=a)
structure Pk where
 t:Ty
 a:Ann
 l:List t.D
abbrev zcy:=List (Int×Nat)
def Pk.to (p:Pk) (i:Int) (j:Nat):Option Pk :=
 match(p.t.flat (p.l.getD i.toNat p.t.dflt))[j]?,(p.a.flat p.t)[j]? with
 | some (.sl t l),some (.ow a)=>some ⟨t,a,l⟩
 | _,_=>none
inductive C where
 | int (k:IntKind) (n:Int)
 | bool (b:Bool)
 | nil
 | fz (t:Ty) (l:List t.D)
 | br (t:Ty) (l:List t.D)
 | at (k:Nat)
 | vw (k ver:Nat) (lo hi:Int)
 | nd (k ver:Nat) (p:zcy) (q:Pk)
 | ptr (k off:Nat)
 | ef (z:Bool) (t:Ty) (x:t.D) (off:Nat)
 | eo (k ver:Nat) (p:zcy) (q:Pk) (i:Int) (off:Nat)
 | fn (f:FuncId) (cap:List (Nat×Nat))
 | fx (f:FuncId) (t:Ty) (x:t.D)
 | junk
inductive V where
 | c (x:C)
 | agg (cs:List C)
 | tup (vs:List (Bool×List C))
 | junk
structure Entry where
 pk:Pk
 ver:Nat
structure Sh where
 boxes:Nat→Option (List C)
 regs:Nat→Option Entry
structure St where
 nt:Nat
 tmps:Nat→V
 sh:Sh
 used:Nat→Bool
structure Gh where
 Z:Nat→Prop
 R:Nat→Prop
 bx:Nat→Nat
 hd:Nat→Value
 fp:Nat→List Nat
def zR:Value→Prop
 | .agg _=>False
 | .tuple _=>False
 | _=>True
def At (h:za):Pk→Value→zcy→Pk→Value→Prop
 | p,v,[],q,u=>q=p∧u=v
 | p,v,(i,j)::r,q,u=> ∃(b o len cap:Nat) (p1:Pk) (v1:Value),v= .slice (some ⟨b,o,none⟩) len cap∧0≤i∧i.toNat<p.l.length ∧
   p.to i j=some p1∧zL h b (o+i.toNat*p.t.size+j)=some v1∧At h p1 v1 r q u
def CRel (s:Sh) (g:Gh) (h:za):C→Value→Prop
 | .int k n,v=>v= .int k n∧zaw k n
 | .bool b,v=>v= .bool b
 | .nil,v=>v= .slice none 0 0
 | .fz t l,v=>Rd h g.Z (.sl t) l [v]
 | .br t l,v=>Rd h (fun b=>g.Z b∨g.R b) (.sl t) l [v]
 | .at k,v=>zR v∧ ∀e,s.regs k=some e→v=g.hd k
 | .vw k ver lo hi,v=>zR v∧ ∀e,s.regs k=some e→ver≤e.ver∧(e.ver=ver→0≤lo∧lo≤hi∧hi≤e.pk.l.length ∧
   ∃(a:Option Addr) (len cap:Nat),g.hd k= .slice a len cap∧v= .slice (if cap=lo.toNat then a else a.map (·.add (lo.toNat*e.pk.t.size))) (hi-lo).toNat (cap-lo.toNat))
 | .nd k ver p q,v=>zR v∧ ∀e,s.regs k=some e→ver≤e.ver∧(e.ver=ver→At h e.pk (g.hd k) p q v)
 | .ptr k off,v=>zR v∧ ∀c,s.boxes k=some c→v= .pointer (some ⟨g.bx k,off,none⟩)
 | .ef z t x off,v=>zR v∧ ∃(b o:Nat) (vs:List Value),v= .pointer (some ⟨b,o+off,none⟩)∧(g.Z b∨(z=false∧g.R b))∧zh h b o t.size=some vs ∧
   Rd h (fun b=>g.Z b∨(z=false∧g.R b)) t x vs
 | .eo k ver p q i off,v=>zR v∧ ∀e,s.regs k=some e→ver≤e.ver∧(e.ver=ver→ ∃(b o len cap:Nat),0≤i∧i.toNat<q.l.length ∧
   At h e.pk (g.hd k) p q (.slice (some ⟨b,o,none⟩) len cap)∧v= .pointer (some ⟨b,o+i.toNat*q.t.size+off,none⟩))
 | .fn f cap,v=>zR v∧ ∃vs:List Value,v= .func (.func f) #[] vs.toArray∧vs.length=cap.length ∧
   ∀(j k off:Nat),cap[j]? =some (k,off)→ ∀c,s.boxes k=some c→vs[j]? =some (Value.pointer (some ⟨g.bx k,off,none⟩))
 | .fx f t x,v=>zR v∧ ∃(b o:Nat) (vs:List Value),v= .func (.func f) #[] #[.pointer (some ⟨b,o,none⟩)]∧(g.Z b∨g.R b)∧zh h b o t.size=some vs ∧
   Rd h (fun b=>g.Z b∨g.R b) t x vs
 | .junk,v=>zR v
theorem zca {h:za} {Z:Nat→Prop} {t:Ty} {l:List t.D} {v:Value} (e:Rd h Z (.sl t) l [v]):zR v:=by
 obtain⟨a,cap,e,_⟩:=e;simp at e; subst e; trivial
theorem CRel.cell {s:Sh} {g:Gh} {h:za}: ∀{c:C} {v:Value},CRel s g h c v→zR v
 | .int _ _,_,e=>by rw[e.1]; trivial
 | .bool _,_,e=>by simp only[CRel]at e; rw[e]; trivial
 | .nil,_,e=>by simp only[CRel]at e; rw[e]; trivial
 | .fz _ _,_,e=>zca e
 | .br _ _,_,e=>zca e
 | .at _,_,e=>e.1
 | .vw _ _ _ _,_,e=>e.1
 | .nd _ _ _ _,_,e=>e.1
 | .ptr _ _,_,e=>e.1
 | .ef _ _ _ _,_,e=>e.1
 | .eo _ _ _ _ _ _,_,e=>e.1
 | .fn _ _,_,e=>e.1
 | .fx _ _ _,_,e=>e.1
 | .junk,_,e=>e
def CRels (s:Sh) (g:Gh) (h:za):List C→List Value→Prop
 | [],[]=>True
 | c::cs,v::vs=>CRel s g h c v∧CRels s g h cs vs
 | _,_=>False
def VRel1 (s:Sh) (g:Gh) (h:za):Bool×List C→Value→Prop
 | (true,cs),v=> ∃vs:List Value,v= .agg vs.toArray∧CRels s g h cs vs
 | (false,[c]),v=>CRel s g h c v
 | (false,_),_=>False
def VRel1s (s:Sh) (g:Gh) (h:za):List (Bool×List C)→List Value→Prop
 | [],[]=>True
 | c::cs,v::vs=>VRel1 s g h c v∧VRel1s s g h cs vs
 | _,_=>False
def VRel (s:Sh) (g:Gh) (h:za):V→Value→Prop
 | .c x,v=>CRel s g h x v
 | .agg cs,v=> ∃vs:List Value,v= .agg vs.toArray∧CRels s g h cs vs
 | .tup ps,v=> ∃vs:List Value,v= .tuple vs.toArray∧VRel1s s g h ps vs
 | .junk,_=>True
def C.refs:C→List Nat
 | .at k=> [k]
 | .vw k _ _ _=> [k]
 | .nd k _ _ _=> [k]
 | .ptr k _=> [k]
 | .eo k _ _ _ _ _=> [k]
 | .fn _ cap=>cap.map (·.1)
 | _=> []
def V.refs:V→List Nat
 | .c x=>x.refs
 | .agg cs=>cs.flatMap C.refs
 | .tup ps=>ps.flatMap fun p=>p.2.flatMap C.refs
 | .junk=> []
structure KeyOk (s s':Sh) (g g':Gh) (h h':za) (k:Nat):Prop where
 box: ∀c',s'.boxes k=some c'→(∃c,s.boxes k=some c)∧g'.bx k=g.bx k
 reg: ∀e',s'.regs k=some e'→ ∃e,s.regs k=some e∧g'.hd k=g.hd k∧e.ver≤e'.ver∧(e'.ver=e.ver→e'=e∧ ∀b∈g.fp k,h' b=h b)
structure Over (g g':Gh) (h h':za):Prop where
 z: ∀b,g.Z b→g'.Z b
 r: ∀b,g.R b→g'.R b
 hz: ∀b,g.Z b→h' b=h b
 hr: ∀b,g.R b→h' b=h b
theorem Over.refl (g:Gh) (h:za):Over g g h h:=⟨fun _ h=>h,fun _ h=>h,fun _ _=>rfl,fun _ _=>rfl⟩
theorem Own.elem {h:za} {Z:Nat→Prop} {t:Ty} {a:Ann} {l:List t.D} {v:Value} {fp:List Nat} (e:Own h Z (.sl t) (.ow a) l [v] fp)
  {i:Nat} (hi:i<l.length): ∃b o cap c T fps vs f,v= .slice (some ⟨b,o,none⟩) l.length cap∧h b=some (.cells c T (0,0))∧o+cap*t.size≤c.size ∧
   l.length≤cap∧fp=b::List.flatten fps∧fps.length=l.length∧fps[i]? =some f∧zh h b (o+i*t.size) t.size=some vs∧Own h Z t a (l.getD i t.dflt) vs f:=by
 obtain⟨hd,cap,hv,hb,hc,e⟩:=e;simp at hv; subst hv;rcases e with⟨rfl,_⟩ | ⟨b,o,c,T,fps,rfl,hB,hcap,rfl,hlen,e⟩
 ·simp at hi
 ·obtain⟨vs,f,h1,h2,h3⟩:=e i l[i] (by simp[hi])
  refine⟨b,o,cap,c,T,fps,vs,f,rfl,hB,hcap,hc,rfl,hlen,h1,h2,?_⟩;have:l.getD i t.dflt=l[i]:=by simp[List.getD,hi]
  rw[this]; exact h3
theorem zT {fps:List (List Nat)} {i:Nat} {f:List Nat} (h:fps[i]? =some f) {b:Nat} (hb:b∈f):b∈fps.flatten :=List.mem_flatten.2 ⟨f,List.mem_of_getElem? h,hb⟩
theorem zcT {h:za} {Z:Nat→Prop}: ∀{r:zcy} {p q:Pk} {v u:Value} {fp:List Nat},Own h Z (.sl p.t) (.ow p.a) p.l [v] fp→At h p v r q u →
  ∃fq,(∀b∈fq,b∈fp)∧Own h Z (.sl q.t) (.ow q.a) q.l [u] fq
 | [],p,q,v,u,fp,e,ha=>by obtain⟨rfl,rfl⟩:=ha; exact⟨fp,fun _ h=>h,e⟩
 | (i,j)::r,p,q,v,u,fp,e,ha=>by
  obtain⟨b,o,len,cap,p1,v1,rfl,h0,hi,hto,hc,ha⟩:=ha;obtain⟨b',o',cap',c,T,fps,vs,f,hv,hB,hcap,hlc,rfl,hlen,hf,hcs,he⟩:=Own.elem e hi;simp at hv; obtain⟨⟨rfl,rfl⟩,rfl,rfl⟩:=hv;obtain⟨fs,rfl,he2⟩:=zE.1 he;unfold Pk.to at hto;split at hto
  ·rename_i t l a hd han
   simp at hto; subst hto;obtain⟨v',f',hv',hf',ho⟩:=OwnLs.get he2 hd han
   have hj:j<p.t.size:=by
    have:=(List.getElem?_eq_some_iff.1 hd).1;rw[zao]at this; exact this
   rw[zab hcs j hj]at hv';rw[hc]at hv'; simp at hv'; subst hv';obtain⟨fq,hsub,hq⟩:=zcT (p:=⟨t,a,l⟩) ho ha;exact⟨fq,fun b hb=>List.mem_cons_of_mem _ (zT hf (zT hf' (hsub b hb))),hq⟩
  ·simp at hto
theorem At.keep {h h':za} {Z:Nat→Prop}: ∀{r:zcy} {p q:Pk} {v u:Value} {fp:List Nat},Own h Z (.sl p.t) (.ow p.a) p.l [v] fp→(∀b∈fp,h' b=h b) →
  At h p v r q u→At h' p v r q u
 | [],p,q,v,u,fp,e,hk,ha=>ha
 | (i,j)::r,p,q,v,u,fp,e,hk,ha=>by
  obtain⟨b,o,len,cap,p1,v1,rfl,h0,hi,hto,hc,ha⟩:=ha;obtain⟨b',o',cap',c,T,fps,vs,f,hv,hB,hcap,hlc,rfl,hlen,hf,hcs,he⟩:=Own.elem e hi;simp at hv; obtain⟨⟨rfl,rfl⟩,rfl,rfl⟩:=hv;have hb:h' b=h b:=hk b (by simp);refine⟨b,o,_,_,p1,v1,rfl,h0,hi,hto,by unfold zL; rw[hb]; exact hc,?_⟩;obtain⟨fs,rfl,he2⟩:=zE.1 he;unfold Pk.to at hto;split at hto
  ·rename_i t l a hd han
   simp at hto; subst hto;obtain⟨v',f',hv',hf',ho⟩:=OwnLs.get he2 hd han
   have hj:j<p.t.size:=by
    have:=(List.getElem?_eq_some_iff.1 hd).1;rw[zao]at this; exact this
   rw[zab hcs j hj]at hv';rw[hc]at hv'; simp at hv'; subst hv';exact At.keep (p:=⟨t,a,l⟩) ho (fun b hb=>hk b (List.mem_cons_of_mem _ (zT hf (zT hf' hb)))) ha
  ·simp at hto
theorem CRel.over {s s':Sh} {g g':Gh} {h h':za} (ho:Over g g' h h') (hreg: ∀k e,s.regs k=some e→Own h g.Z (.sl e.pk.t) (.ow e.pk.a) e.pk.l [g.hd k] (g.fp k)) :
  ∀{c:C} {v:Value},(∀k∈c.refs,KeyOk s s' g g' h h' k)→CRel s g h c v→CRel s' g' h' c v
 | .int _ _,_,_,e=>e
 | .bool _,_,_,e=>e
 | .nil,_,_,e=>e
 | .fz _ _,_,_,e=>Rd.keep ho.hz ho.z e
 | .br _ _,_,_,e=>Rd.keep (fun b hb=>hb.elim (ho.hz b) (ho.hr b)) (fun b hb=>hb.imp (ho.z b) (ho.r b)) e
 | .at k,_,hk,e=>⟨e.1,fun e' he'=>by
   obtain⟨e0,h0,hd,_⟩:=(hk k (by simp[C.refs])).reg e' he'
   rw[hd]; exact e.2 e0 h0⟩
 | .vw k ver lo hi,_,hk,e=>⟨e.1,fun e' he'=>by
   obtain⟨e0,h0,hd,hle,hsame⟩:=(hk k (by simp[C.refs])).reg e' he';obtain⟨hv,e⟩:=e.2 e0 h0;refine⟨by omega,fun hv'=> ?_⟩;obtain⟨rfl,_⟩:=hsame (by omega)
   rw[hd]; exact e hv'⟩
 | .nd k ver p q,_,hk,e=>⟨e.1,fun e' he'=>by
   obtain⟨e0,h0,hd,hle,hsame⟩:=(hk k (by simp[C.refs])).reg e' he';obtain⟨hv,e⟩:=e.2 e0 h0;refine⟨by omega,fun hv'=> ?_⟩;obtain⟨rfl,hf⟩:=hsame (by omega)
   rw[hd]; exact At.keep (hreg k _ h0) hf (e hv')⟩
 | .ptr k off,_,hk,e=>⟨e.1,fun c' hc'=>by
   obtain⟨⟨c0,h0⟩,hb⟩:=(hk k (by simp[C.refs])).box c' hc'
   rw[hb]; exact e.2 c0 h0⟩
 | .ef z t x off,_,_,e=>by
  obtain⟨hc,b,o,vs,rfl,hZ,hcs,hr⟩:=e;have hb:h' b=h b:=hZ.elim (ho.hz b) (fun hh=>ho.hr b hh.2);refine⟨hc,b,o,vs,rfl,hZ.imp (ho.z b) (fun hh=>⟨hh.1,ho.r b hh.2⟩),by rw[zax hb]; exact hcs,?_⟩;exact Rd.keep (fun b hb=>hb.elim (ho.hz b) (fun hh=>ho.hr b hh.2)) (fun b hb=>hb.imp (ho.z b) (fun hh=>⟨hh.1,ho.r b hh.2⟩)) hr
 | .eo k ver p q i off,_,hk,e=>⟨e.1,fun e' he'=>by
   obtain⟨e0,h0,hd,hle,hsame⟩:=(hk k (by simp[C.refs])).reg e' he';obtain⟨hv,e⟩:=e.2 e0 h0;refine⟨by omega,fun hv'=> ?_⟩;obtain⟨rfl,hf⟩:=hsame (by omega);obtain⟨b,o,len,cap,h1,h2,h3,h4⟩:=e hv'
   exact⟨b,o,len,cap,h1,h2,by rw[hd]; exact At.keep (hreg k _ h0) hf h3,h4⟩⟩
 | .fn f cap,_,hk,e=>by
  obtain⟨hc,vs,rfl,hl,e⟩:=e;refine⟨hc,vs,rfl,hl,fun j k off hj c' hc'=> ?_⟩;obtain⟨⟨c0,h0⟩,hb⟩:=(hk k (by simp only[C.refs,List.mem_map]; exact⟨_,List.mem_of_getElem? hj,rfl⟩)).box c' hc';rw[hb]; exact e j k off hj c0 h0
 | .fx f t x,_,_,e=>by
  obtain⟨hc,b,o,vs,rfl,hZ,hcs,hr⟩:=e;have hb:h' b=h b:=hZ.elim (ho.hz b) (ho.hr b);exact⟨hc,b,o,vs,rfl,hZ.imp (ho.z b) (ho.r b),by rw[zax hb]; exact hcs,Rd.keep (fun b hb=>hb.elim (ho.hz b) (ho.hr b)) (fun b hb=>hb.imp (ho.z b) (ho.r b)) hr⟩
 | .junk,_,_,e=>e
def zg {α:Type} (f:Nat→α) (d:Nat) (v:α):Nat→α:=fun i=>bif Nat.beq i d then v else f i
theorem zx {α:Type} (f:Nat→α) (d:Nat) (v:α):zg f d v d=v:=by simp[zg]
theorem zt {α:Type} (f:Nat→α) {d i:Nat} (v:α) (h:i≠d):zg f d v i=f i:=by
 have:Nat.beq i d=false:=by
  cases hb:Nat.beq i d with
  | false=>rfl
  | true=>exact absurd (Nat.eq_of_beq_eq_true hb) h
 simp[zg,this]
theorem zJ {α:Type} (f:Nat→α) (d:Nat) (v:α) (i:Nat):zg f d v i=if i=d then v else f i:=by
 by_cases h:i=d
 ·subst h; simp[zx]
 ·simp[zt _ _ h,h]
section
variable {s s':Sh} {g g':Gh} {h h':za}
theorem CRels.over (ho:Over g g' h h') (hreg: ∀k e,s.regs k=some e→Own h g.Z (.sl e.pk.t) (.ow e.pk.a) e.pk.l [g.hd k] (g.fp k)) :
  ∀{cs:List C} {vs:List Value},(∀c∈cs,∀k∈c.refs,KeyOk s s' g g' h h' k)→CRels s g h cs vs→CRels s' g' h' cs vs
 | [],[],_,_=>trivial
 | c::cs,v::vs,hk,e=>⟨CRel.over ho hreg (hk c (by simp)) e.1,CRels.over ho hreg (fun c hc=>hk c (by simp[hc])) e.2⟩
theorem VRel1s.over (ho:Over g g' h h') (hreg: ∀k e,s.regs k=some e→Own h g.Z (.sl e.pk.t) (.ow e.pk.a) e.pk.l [g.hd k] (g.fp k)) :
  ∀{cs:List (Bool×List C)} {vs:List Value},(∀p∈cs,∀c∈p.2,∀k∈c.refs,KeyOk s s' g g' h h' k)→VRel1s s g h cs vs→VRel1s s' g' h' cs vs
 | [],[],_,_=>trivial
 | (true,l)::cs,v::vs,hk,e=>by
  obtain⟨⟨us,rfl,e1⟩,e2⟩:=e;exact⟨⟨us,rfl,CRels.over ho hreg (hk (true,l) (by simp)) e1⟩,VRel1s.over ho hreg (fun p hp=>hk p (by simp[hp])) e2⟩
 | (false,[c])::cs,v::vs,hk,e=>⟨CRel.over ho hreg (hk (false,[c]) (by simp) c (by simp)) e.1,VRel1s.over ho hreg (fun p hp=>hk p (by simp[hp])) e.2⟩
 | (false,[])::cs,v::vs,hk,e=>e.1.elim
 | (false,_::_::_)::cs,v::vs,hk,e=>e.1.elim
theorem VRel.over (ho:Over g g' h h') (hreg: ∀k e,s.regs k=some e→Own h g.Z (.sl e.pk.t) (.ow e.pk.a) e.pk.l [g.hd k] (g.fp k)) :
  ∀{x:V} {v:Value},(∀k∈x.refs,KeyOk s s' g g' h h' k)→VRel s g h x v→VRel s' g' h' x v
 | .c x,v,hk,e=>CRel.over (c:=x) ho hreg hk e
 | .agg cs,v,hk,e=>by
  obtain⟨vs,rfl,e⟩:=e;exact⟨vs,rfl,CRels.over ho hreg (fun c hc k hk'=>hk k (List.mem_flatMap.2 ⟨c,hc,hk'⟩)) e⟩
 | .tup ps,v,hk,e=>by
  obtain⟨vs,rfl,e⟩:=e;exact⟨vs,rfl,VRel1s.over ho hreg (fun p hp c hc k hk'=>hk k (List.mem_flatMap.2 ⟨p,hp,List.mem_flatMap.2 ⟨c,hc,hk'⟩⟩)) e⟩
 | .junk,v,hk,e=>trivial
end
inductive Who where
 | box (k:Nat)
 | reg (k:Nat)
 | ext
def zu (s:Sh) (g:Gh) (X:List Nat):Who→Nat→Prop
 | .box k,b=>(∃cs,s.boxes k=some cs)∧g.bx k=b
 | .reg k,b=>(∃e,s.regs k=some e)∧b∈g.fp k
 | .ext,b=>b∈X
structure Mine (n0:Nat) (M:Nat→Prop) (g:Gh) (sz b:Nat):Prop where
 z: ¬g.Z b
 r: ¬g.R b
 m:n0≤b∨M b
 s:b<sz
structure Home where
 h:za
 z:Nat→Prop
 hdr:Nat→Option Value:=fun _=>none
 blk:Nat→Option Nat:=fun _=>none
 io:Os×Array (Nat×ByteArray)
def zby (w:World):Os×Array (Nat×ByteArray):=(w.os,w.output)
structure Rel (n0:Nat) (M:Nat→Prop) (h0:Home) (s:St) (g:Gh) (X:List Nat) (a:Act) (w:World):Prop where
 sz:a.tmps.size=s.nt
 df:a.defers= []
 tm: ∀i v,a.tmps[i]? =some v→VRel s.sh g (hp w) (s.tmps i) v
 bx: ∀k cs,s.sh.boxes k=some cs→ ∃c T,hp w (g.bx k)=some (.cells c T (0,0))∧CRels s.sh g (hp w) cs c.toList
 rg: ∀k e,s.sh.regs k=some e→Own (hp w) g.Z (.sl e.pk.t) (.ow e.pk.a) e.pk.l [g.hd k] (g.fp k)
 ub: ∀k cs,s.sh.boxes k=some cs→s.used k=true
 ur: ∀k e,s.sh.regs k=some e→s.used k=true
 ut: ∀i k,k∈(s.tmps i).refs→s.used k=true
 uc: ∀k cs,s.sh.boxes k=some cs→ ∀c∈cs,∀j∈c.refs,s.used j=true
 zs: ∀b,g.Z b∨g.R b→b<w.heap.size
 mine: ∀o b,zu s.sh g X o b→Mine n0 M g w.heap.size b
 uniq: ∀o o' b,zu s.sh g X o b→zu s.sh g X o' b→o=o'
 nd: ∀k e,s.sh.regs k=some e→(g.fp k).Nodup
 nx:X.Nodup
 nn:n0≤w.heap.size
 fr: ∀b,b<n0→ ¬M b→hp w b=h0.h b
 zn: ∀b,g.Z b→h0.z b∨n0≤b∨M b
 zl: ∀b,h0.z b→g.Z b
 hh: ∀k e v,s.sh.regs k=some e→h0.hdr k=some v→g.hd k=v
 hb: ∀k cs b,s.sh.boxes k=some cs→h0.blk k=some b→g.bx k=b
 dz: ∀k,k<1000000000→h0.hdr k=none∧h0.blk k=none
 hi: ∀k,s.used k=false→h0.hdr k=none∧h0.blk k=none
 io:zby w=h0.io
section
variable {n0:Nat} {M:Nat→Prop} {h0:Home} {s:St} {g:Gh} {X:List Nat} {a:Act} {w:World}
def St.put (s:St) (d:Nat) (v:V):St:={ s with tmps:=zg s.tmps d v }
def St.putO (s:St) (d:Option Nat) (v:V):St:=match d with | some d=>s.put d v | none=>s
theorem Rel.put (r:Rel n0 M h0 s g X a w) {d:Nat} {v:V} {x:Value} (hv:VRel s.sh g (hp w) v x) (hu: ∀k∈v.refs,s.used k=true) :
  Rel n0 M h0 (s.put d v) g X (a.put (some d) x) w where
 sz:=by simp[Act.put,r.sz,St.put]
 df:=r.df
 tm:=by
  intro i u hi;simp only[Act.put,Array.getElem?_setIfInBounds]at hi;show VRel s.sh g (hp w) (zg s.tmps d v i) u;rw[zJ];by_cases hid:d=i
  ·subst hid
   simp only[if_true]at hi ⊢;split at hi
   ·simp at hi; subst hi; exact hv
   ·simp at hi
  ·rw[if_neg hid]at hi
   rw[if_neg (Ne.symm hid)];exact r.tm i u hi
 bx:=r.bx
 rg:=r.rg
 ub:=r.ub
 ur:=r.ur
 ut:=by
  intro i k hk;change k∈(zg s.tmps d v i).refs at hk;rw[zJ]at hk;split at hk
  ·exact hu k hk
  ·exact r.ut i k hk
 uc:=r.uc
 zs:=r.zs
 mine:=r.mine
 uniq:=r.uniq
 nd:=r.nd
 nx:=r.nx
 nn:=r.nn
 fr:=r.fr
 zn:=r.zn
 zl:=r.zl
 hh:=r.hh
 hb:=r.hb
 dz:=r.dz
 hi:=r.hi
 io:=r.io
theorem Rel.putO (r:Rel n0 M h0 s g X a w) {d:Option Nat} {v:V} {x:Value} (hv:VRel s.sh g (hp w) v x) (hu: ∀k∈v.refs,s.used k=true) :
  Rel n0 M h0 (s.putO d v) g X (a.put d x) w:=by
 cases d with
 | none=>exact r
 | some d=>exact r.put hv hu
theorem Rel.drawn (r:Rel n0 M h0 s g X a w) {w':World} (h:w'.heap=w.heap) (hio:zby w'=zby w:=by exact rfl):Rel n0 M h0 s g X a w':=by
  have e:hp w'=hp w:=by unfold hp; rw[h]
  exact{ sz:=r.sz,df:=r.df,tm:=by rw[e]; exact r.tm,bx:=by rw[e]; exact r.bx,rg:=by rw[e]; exact r.rg,ub:=r.ub,ur:=r.ur,ut:=r.ut,uc:=r.uc,
          zs:=by rw[h]; exact r.zs,mine:=by rw[h]; exact r.mine,uniq:=r.uniq,nd:=r.nd,nx:=r.nx,nn:=by rw[h]; exact r.nn,fr:=by rw[e]; exact r.fr,zn:=r.zn,zl:=r.zl,hh:=r.hh,hb:=r.hb,dz:=r.dz,hi:=r.hi,io:=hio.trans r.io }
theorem Rel.forget (r:Rel n0 M h0 s g X a w) (tmps:Nat→V) (sh:Sh)
    (ht: ∀i,tmps i=s.tmps i∨tmps i= .junk) (hb: ∀k cs,sh.boxes k=some cs→s.sh.boxes k=some cs) (hr: ∀k e,sh.regs k=some e→s.sh.regs k=some e) :
    Rel n0 M h0 { s with tmps,sh } g X a w:=by
  have key: ∀k,KeyOk s.sh sh g g (hp w) (hp w) k:=fun k =>
    ⟨fun c' hc=>⟨⟨c',hb k c' hc⟩,rfl⟩,fun e' he=>⟨e',hr k e' he,rfl,Nat.le_refl _,fun _=>⟨rfl,fun _ _=>rfl⟩⟩⟩
  have holds: ∀o b,zu sh g X o b→zu s.sh g X o b:=by
    intro o b hh;cases o with
    | box k=>obtain⟨⟨cs,h1⟩,h2⟩:=hh; exact⟨⟨cs,hb _ _ h1⟩,h2⟩
    | reg k=>obtain⟨⟨cs,h1⟩,h2⟩:=hh; exact⟨⟨cs,hr _ _ h1⟩,h2⟩
    | ext=>exact hh
  exact{
    sz:=r.sz,df:=r.df
    tm:=by
      intro i v hv;show VRel sh g (hp w) (tmps i) v;rcases ht i with e | e
      · rw[e]; exact VRel.over (Over.refl g _) r.rg (fun k _=>key k) (r.tm i v hv)
      · rw[e]; trivial
    bx:=by
      intro k cs hk;obtain⟨c,T,h1,h2⟩:=r.bx k cs (hb k cs hk);exact⟨c,T,h1,CRels.over (Over.refl g _) r.rg (fun c _ k _=>key k) h2⟩
    rg:=fun k e he=>r.rg k e (hr k e he)
    ub:=fun k cs hk=>r.ub k cs (hb k cs hk)
    ur:=fun k e he=>r.ur k e (hr k e he)
    ut:=by
      intro i k hk;change k∈(tmps i).refs at hk;rcases ht i with e | e
      · rw[e]at hk; exact r.ut i k hk
      · rw[e]at hk; simp[V.refs]at hk
    uc:=fun k cs hk=>r.uc k cs (hb k cs hk)
    zs:=r.zs
    mine:=fun o b hh=>r.mine o b (holds o b hh)
    uniq:=fun o o' b h1 h2=>r.uniq o o' b (holds o b h1) (holds o' b h2)
    nd:=fun k e he=>r.nd k e (hr k e he)
    nx:=r.nx
    nn:=r.nn
    fr:=r.fr
    zn:=r.zn
    zl:=r.zl
    hh:=fun k e v he hv=>r.hh k e v (hr k e he) hv
    hb:=fun k cs b hc hv=>r.hb k cs b (hb k cs hc) hv
    dz:=r.dz
    hi:=r.hi
    io:=r.io }
end
section
variable {n0:Nat} {M:Nat→Prop} {h0:Home} {s:St} {g:Gh} {X:List Nat} {a:Act} {w:World}
theorem zbu {f:Nat→Bool} {k j:Nat} (h:f j=true):zg f k true j=true:=by
 rw[zJ]; split
 ·rfl
 ·exact h
theorem Rel.changeG (r:Rel n0 M h0 s g X a w) {sh':Sh} {used':Nat→Bool} {g':Gh} {X':List Nat} {w':World}
  (ov:Over g g' (hp w) (hp w')) (hsz:w.heap.size≤w'.heap.size)
  (kk: ∀k,s.used k=true→KeyOk s.sh sh' g g' (hp w) (hp w') k) (hu: ∀k,s.used k=true→used' k=true)
  (hbx: ∀k cs,sh'.boxes k=some cs→used' k=true∧(∀c∈cs,∀j∈c.refs,used' j=true) ∧
   ∃c T,hp w' (g'.bx k)=some (.cells c T (0,0))∧CRels sh' g' (hp w') cs c.toList)
  (hrg: ∀k e,sh'.regs k=some e→used' k=true∧(g'.fp k).Nodup∧Own (hp w') g'.Z (.sl e.pk.t) (.ow e.pk.a) e.pk.l [g'.hd k] (g'.fp k))
  (hz: ∀b,g'.Z b∨g'.R b→b<w'.heap.size) (hm: ∀o b,zu sh' g' X' o b→Mine n0 M g' w'.heap.size b)
  (hq: ∀o o' b,zu sh' g' X' o b→zu sh' g' X' o' b→o=o') (hx:X'.Nodup)
  (hf: ∀b,b<n0→ ¬M b→hp w' b=hp w b) (hzn: ∀b,g'.Z b→g.Z b∨n0≤b∨M b:=by exact fun _ h=> .inl h)
  (hnew:(∀k e v,s.used k=false→sh'.regs k=some e→h0.hdr k=some v→g'.hd k=v)∧(∀k cs b,s.used k=false→sh'.boxes k=some cs→h0.blk k=some b→g'.bx k=b)) (hio:zby w'=zby w:=by exact rfl):Rel n0 M h0 { s with sh:=sh',used:=used' } g' X' a w' where
 sz:=r.sz
 df:=r.df
 tm:=fun i v hv=>VRel.over ov r.rg (fun k hk=>kk k (r.ut i k hk)) (r.tm i v hv)
 bx:=fun k cs hk=>(hbx k cs hk).2.2
 rg:=fun k e he=>(hrg k e he).2.2
 ub:=fun k cs hk=>(hbx k cs hk).1
 ur:=fun k e he=>(hrg k e he).1
 ut:=fun i k hk=>hu k (r.ut i k hk)
 uc:=fun k cs hk=>(hbx k cs hk).2.1
 zs:=hz
 mine:=hm
 uniq:=hq
 nd:=fun k e he=>(hrg k e he).2.1
 nx:=hx
 nn:=Nat.le_trans r.nn hsz
 fr:=fun b hb hM=>by rw[hf b hb hM]; exact r.fr b hb hM
 zn:=fun b hb=>(hzn b hb).elim (r.zn b) .inr
 zl:=fun b hb=>ov.z b (r.zl b hb)
 hh:=fun k e v he hv=>by
  cases hk:s.used k with
  | false=>exact hnew.1 k e v hk he hv
  | true =>
   obtain⟨e0,h1,h2,_⟩:=(kk k hk).reg e he;rw[h2]; exact r.hh k e0 v h1 hv
 hb:=fun k cs b hc hv=>by
  cases hk:s.used k with
  | false=>exact hnew.2 k cs b hk hc hv
  | true =>
   obtain⟨⟨c0,h1⟩,h2⟩:=(kk k hk).box cs hc;rw[h2]; exact r.hb k c0 b h1 hv
 dz:=r.dz
 io:=hio.trans r.io
 hi:=fun k hk=>r.hi k (by cases h:s.used k with | false=>rfl | true=>have h9:=hu k h; exact absurd (h9.symm.trans hk) (by simp))
theorem Rel.change (r:Rel n0 M h0 s g X a w) {sh':Sh} {used':Nat→Bool} {g':Gh} {X':List Nat} {w':World}
  (ov:Over g g' (hp w) (hp w')) (hsz:w.heap.size≤w'.heap.size)
  (kk: ∀k,s.used k=true→KeyOk s.sh sh' g g' (hp w) (hp w') k) (hu: ∀k,s.used k=true→used' k=true)
  (hbx: ∀k cs,sh'.boxes k=some cs→used' k=true∧(∀c∈cs,∀j∈c.refs,used' j=true) ∧
   ∃c T,hp w' (g'.bx k)=some (.cells c T (0,0))∧CRels sh' g' (hp w') cs c.toList)
  (hrg: ∀k e,sh'.regs k=some e→used' k=true∧(g'.fp k).Nodup∧Own (hp w') g'.Z (.sl e.pk.t) (.ow e.pk.a) e.pk.l [g'.hd k] (g'.fp k))
  (hz: ∀b,g'.Z b∨g'.R b→b<w'.heap.size) (hm: ∀o b,zu sh' g' X' o b→Mine n0 M g' w'.heap.size b)
  (hq: ∀o o' b,zu sh' g' X' o b→zu sh' g' X' o' b→o=o') (hx:X'.Nodup)
  (hf: ∀b,b<n0→ ¬M b→hp w' b=hp w b) (hzn: ∀b,g'.Z b→g.Z b∨n0≤b∨M b:=by exact fun _ h=> .inl h)
  (hu2: ∀k,used' k=true→s.used k=true:=by exact fun _ h=>h) (hio:zby w'=zby w:=by exact rfl):Rel n0 M h0 { s with sh:=sh',used:=used' } g' X' a w' :=
 r.changeG ov hsz kk hu hbx hrg hz hm hq hx hf hzn ⟨fun k e v hk he _=>by have:=hu2 k (hrg k e he).1; rw[hk]at this; simp at this,
  fun k cs b hk hc _=>by have:=hu2 k (hbx k cs hc).1; rw[hk]at this; simp at this⟩ hio
theorem Rel.box_over (r:Rel n0 M h0 s g X a w) {sh':Sh} {g':Gh} {h':za} (ov:Over g g' (hp w) h')
  (kk: ∀k,s.used k=true→KeyOk s.sh sh' g g' (hp w) h' k) {k:Nat} {cs:List C} (hk:s.sh.boxes k=some cs) (hb:g'.bx k=g.bx k) (hh:h' (g.bx k)=hp w (g.bx k)) :
  ∃c T,h' (g'.bx k)=some (.cells c T (0,0))∧CRels sh' g' h' cs c.toList:=by
 obtain⟨c,T,h1,h2⟩:=r.bx k cs hk;exact⟨c,T,by rw[hb,hh]; exact h1,CRels.over ov r.rg (fun c hc j hj=>kk j (r.uc k cs hk c hc j hj)) h2⟩
def World.push (w:World) (o:Obj):World:={ w with heap:=w.heap.push o }
theorem zar {w:World} {o:Obj} {b:Nat} (h:b<w.heap.size):hp (World.push w o) b=hp w b:=by
 unfold hp World.push;simp only[Array.getElem?_push];rw[if_neg (by omega)]
theorem zcr {w:World} {o:Obj}:hp (World.push w o) w.heap.size=some o:=by
 unfold hp World.push;simp
theorem zc9 {w:World} {o:Obj}:(World.push w o).heap.size=w.heap.size+1:=by simp[World.push]
theorem Rel.push (r:Rel n0 M h0 s g X a w) (o:Obj):Rel n0 M h0 s g (w.heap.size::X) a (World.push w o):=by
 have ov:Over g g (hp w) (hp (World.push w o)) :=
  ⟨fun _ h=>h,fun _ h=>h,fun b hb=>zar (r.zs b (.inl hb)),fun b hb=>zar (r.zs b (.inr hb))⟩
 have fpk: ∀k e,s.sh.regs k=some e→ ∀b∈g.fp k,hp (World.push w o) b=hp w b:=fun k e he b hb =>
  zar (r.mine (.reg k) b ⟨⟨e,he⟩,hb⟩).s
 have kk: ∀k,s.used k=true→KeyOk s.sh s.sh g g (hp w) (hp (World.push w o)) k:=fun k _ =>
  ⟨fun c' hc=>⟨⟨c',hc⟩,rfl⟩,fun e' he=>⟨e',he,rfl,Nat.le_refl _,fun _=>⟨rfl,fpk k e' he⟩⟩⟩
 have old: ∀o' b,zu s.sh g (w.heap.size::X) o' b→b≠w.heap.size→zu s.sh g X o' b:=by
  intro o' b h hb;cases o' with
  | box k=>exact h
  | reg k=>exact h
  | ext=>exact(List.mem_cons.1 h).resolve_left hb
 have new: ∀o',zu s.sh g (w.heap.size::X) o' w.heap.size→o'= .ext:=by
  intro o' h;cases o' with
  | box k=>have:=(r.mine (.box k) _ h).s; omega
  | reg k=>have:=(r.mine (.reg k) _ h).s; omega
  | ext=>rfl
 refine r.change ov (by rw[zc9]; omega) kk (fun _ h=>h) ?_ ?_ ?_ ?_ ?_ ?_ ?_
 ·intro k cs hk
  exact⟨r.ub k cs hk,r.uc k cs hk,r.box_over ov kk hk rfl (zar (r.mine (.box k) _ ⟨⟨cs,hk⟩,rfl⟩).s)⟩
 ·intro k e he
  exact⟨r.ur k e he,r.nd k e he,Own.keep ov.hz ov.z (fpk k e he) (r.rg k e he)⟩
 ·intro b hb
  have:=r.zs b hb;rw[zc9]; omega
 ·intro o' b hh
  by_cases hb:b=w.heap.size
  ·subst hb
   refine⟨fun hz=> ?_,fun hz=> ?_,.inl r.nn,by rw[zc9]; omega⟩
   ·have:=r.zs _ (.inl hz); omega
   ·have:=r.zs _ (.inr hz); omega
  ·have m:=r.mine o' b (old o' b hh hb)
   exact⟨m.z,m.r,m.m,by rw[zc9]; have:=m.s; omega⟩
 ·intro o1 o2 b h1 h2
  by_cases hb:b=w.heap.size
  ·subst hb; rw[new o1 h1,new o2 h2]
  ·exact r.uniq o1 o2 b (old o1 b h1 hb) (old o2 b h2 hb)
 ·refine List.nodup_cons.2 ⟨fun hm=> ?_,r.nx⟩
  have:=(r.mine .ext _ hm).s; omega
 ·intro b hb _
  have:=r.nn;exact zar (by omega)
theorem Rel.claim (r:Rel n0 M h0 s g X a w) {k:Nat} (hk:s.used k=false) {pk:Pk} {v:Value} {fp X':List Nat}
  (hp':List.Perm X (fp++X')) (ho:Own (hp w) g.Z (.sl pk.t) (.ow pk.a) pk.l [v] fp) :
  Rel n0 M h0 { s with sh:={ s.sh with regs:=zg s.sh.regs k (some ⟨pk,0⟩) },used:=zg s.used k true } { g with hd:=zg g.hd k v,fp:=zg g.fp k fp } X' a w:=by
 have nk: ∀j,s.used j=true→j≠k:=fun j hj e=>by subst e; rw[hk]at hj; simp at hj
 have hnd:(fp++X').Nodup:=hp'.nodup_iff.1 r.nx;have hmem: ∀b,b∈fp∨b∈X'→b∈X:=fun b hb=>hp'.mem_iff.2 (List.mem_append.2 hb)
 have ov:Over g { g with hd:=zg g.hd k v,fp:=zg g.fp k fp } (hp w) (hp w):=⟨fun _ h=>h,fun _ h=>h,fun _ _=>rfl,fun _ _=>rfl⟩
 have kk: ∀j,s.used j=true→KeyOk s.sh { s.sh with regs:=zg s.sh.regs k (some ⟨pk,0⟩) } g { g with hd:=zg g.hd k v,fp:=zg g.fp k fp } (hp w) (hp w) j:=by
  intro j hj;refine⟨fun c' hc=>⟨⟨c',hc⟩,rfl⟩,fun e' he=> ?_⟩;change zg s.sh.regs k (some ⟨pk,0⟩) j=some e' at he;rw[zt _ _ (nk j hj)]at he;exact⟨e',he,zt _ _ (nk j hj),Nat.le_refl _,fun _=>⟨rfl,fun _ _=>rfl⟩⟩
 have hold: ∀o b,zu { s.sh with regs:=zg s.sh.regs k (some ⟨pk,0⟩) } { g with hd:=zg g.hd k v,fp:=zg g.fp k fp } X' o b →
   (o= .reg k∧b∈fp)∨(o≠ .reg k∧(o= .ext→b∈X')∧zu s.sh g X o b):=by
  intro o b hh;cases o with
  | box j=>exact .inr ⟨by simp,by simp,hh⟩
  | reg j =>
   obtain⟨⟨e,he⟩,hb⟩:=hh;by_cases hj:j=k
   ·subst hj
    change b∈zg g.fp j fp j at hb;rw[zx]at hb;exact .inl ⟨rfl,hb⟩
   ·change zg s.sh.regs k (some ⟨pk,0⟩) j=some e at he
    change b∈zg g.fp k fp j at hb;rw[zt _ _ hj]at he hb;exact .inr ⟨by simp[hj],by simp,⟨e,he⟩,hb⟩
  | ext=>exact .inr ⟨by simp,fun _=>hh,hmem b (.inr hh)⟩
 refine r.changeG ov (Nat.le_refl _) kk ?_ ?_ ?_ r.zs ?_ ?_ ?_ (fun _ _ _=>rfl) (fun _ h=> .inl h) ⟨fun j e u hj he hu=> ?_,fun j cs b hj hc hb=>absurd (r.ub j cs hc) (by rw[hj]; simp)⟩
 case' refine_7 =>
  by_cases hjk:j=k
  ·subst hjk
   show zg g.hd j v j=u;rw[(r.hi j hk).1]at hu; simp at hu
  ·change zg s.sh.regs k (some ⟨pk,0⟩) j=some e at he
   rw[zt _ _ hjk]at he;exact absurd (r.ur j e he) (by rw[hj]; simp)
 ·intro j hj
  exact zbu (hj)
 ·intro j cs hj
  refine⟨?_,?_,r.box_over ov kk hj rfl rfl⟩
  ·exact zbu (r.ub j cs hj)
  ·intro c hc i hi
   exact zbu (r.uc j cs hj c hc i hi)
 ·intro j e he
  change zg s.sh.regs k (some ⟨pk,0⟩) j=some e at he;show zg s.used k true j=true∧(zg g.fp k fp j).Nodup∧Own (hp w) g.Z (.sl e.pk.t) (.ow e.pk.a) e.pk.l [zg g.hd k v j] (zg g.fp k fp j);by_cases hj:j=k
  ·subst hj
   rw[zx]at he;simp at he; subst he;rw[zx,zx,zx];exact⟨rfl,(List.nodup_append.1 hnd).1,ho⟩
  ·rw[zt _ _ hj]at he
   rw[zt _ _ hj,zt _ _ hj,zt _ _ hj];exact⟨r.ur j e he,r.nd j e he,r.rg j e he⟩
 ·intro o b hh
  rcases hold o b hh with⟨rfl,hb⟩ | ⟨_,_,hh⟩
  ·have m:=r.mine .ext b (hmem b (.inl hb)); exact⟨m.z,m.r,m.m,m.s⟩
  ·have m:=r.mine o b hh; exact⟨m.z,m.r,m.m,m.s⟩
 ·intro o1 o2 b h1 h2
  rcases hold o1 b h1 with⟨rfl,hb1⟩ | ⟨n1,x1,h1⟩<;>rcases hold o2 b h2 with⟨rfl,hb2⟩ | ⟨n2,x2,h2⟩
  ·rfl
  ·have:=r.uniq .ext o2 b (hmem b (.inl hb1)) h2
   subst this;exact absurd rfl ((List.nodup_append.1 hnd).2.2 b hb1 b (x2 rfl))
  ·have:=r.uniq .ext o1 b (hmem b (.inl hb2)) h1
   subst this;exact absurd rfl ((List.nodup_append.1 hnd).2.2 b hb2 b (x1 rfl))
  ·exact r.uniq o1 o2 b h1 h2
 ·exact(List.nodup_append.1 hnd).2.1
theorem Rel.claimBox (r:Rel n0 M h0 s g X a w) {k:Nat} (hk:s.used k=false) {cs:List C} {b:Nat} {c:Array Value} {T:TypeId} {X':List Nat}
  (hX:X=b::X') (hb:hp w b=some (.cells c T (0,0))) (hc:CRels s.sh g (hp w) cs c.toList) (hu: ∀x∈cs,∀j∈x.refs,s.used j=true) :
  Rel n0 M h0 { s with sh:={ s.sh with boxes:=zg s.sh.boxes k (some cs) },used:=zg s.used k true } { g with bx:=zg g.bx k b } X' a w:=by
 subst hX;have nk: ∀j,s.used j=true→j≠k:=fun j hj e=>by subst e; rw[hk]at hj; simp at hj
 have ov:Over g { g with bx:=zg g.bx k b } (hp w) (hp w):=⟨fun _ h=>h,fun _ h=>h,fun _ _=>rfl,fun _ _=>rfl⟩
 have kk: ∀j,s.used j=true→KeyOk s.sh { s.sh with boxes:=zg s.sh.boxes k (some cs) } g { g with bx:=zg g.bx k b } (hp w) (hp w) j:=by
  intro j hj;refine⟨fun c' hc=> ?_,fun e' he=>⟨e',he,rfl,Nat.le_refl _,fun _=>⟨rfl,fun _ _=>rfl⟩⟩⟩;change zg s.sh.boxes k (some cs) j=some c' at hc;rw[zt _ _ (nk j hj)]at hc;exact⟨⟨c',hc⟩,zt _ _ (nk j hj)⟩
 have hold: ∀o x,zu { s.sh with boxes:=zg s.sh.boxes k (some cs) } { g with bx:=zg g.bx k b } X' o x →
   (o= .box k∧x=b)∨(o≠ .box k∧(o= .ext→x∈X')∧zu s.sh g (b::X') o x):=by
  intro o x hh;cases o with
  | reg j=>exact .inr ⟨by simp,by simp,hh⟩
  | box j =>
   obtain⟨⟨e,he⟩,hx⟩:=hh;by_cases hj:j=k
   ·subst hj
    change zg g.bx j b j=x at hx;rw[zx]at hx;exact .inl ⟨rfl,hx.symm⟩
   ·change zg s.sh.boxes k (some cs) j=some e at he
    change zg g.bx k b j=x at hx;rw[zt _ _ hj]at he hx;exact .inr ⟨by simp[hj],by simp,⟨e,he⟩,hx⟩
  | ext=>exact .inr ⟨by simp,fun _=>hh,List.mem_cons_of_mem _ hh⟩
 have hnd:=List.nodup_cons.1 r.nx;refine r.changeG ov (Nat.le_refl _) kk ?_ ?_ ?_ r.zs ?_ ?_ hnd.2 (fun _ _ _=>rfl) (fun _ h=> .inl h) ⟨fun j e u hj he hu=>absurd (r.ur j e he) (by rw[hj]; simp),fun j cs' b' hj hc hb'=> ?_⟩
 case' refine_6 =>
  by_cases hjk:j=k
  ·subst hjk
   show zg g.bx j b j=b';rw[(r.hi j hk).2]at hb'; simp at hb'
  ·change zg s.sh.boxes k (some cs) j=some cs' at hc
   rw[zt _ _ hjk]at hc;exact absurd (r.ub j cs' hc) (by rw[hj]; simp)
 ·intro j hj
  exact zbu (hj)
 ·intro j cs' hj
  change zg s.sh.boxes k (some cs) j=some cs' at hj;by_cases hjk:j=k
  ·subst hjk
   rw[zx]at hj; simp at hj; subst hj;refine⟨zx _ _ _,fun x hx i hi=> ?_,c,T,?_,?_⟩
   ·exact zbu (hu x hx i hi)
   ·show hp w (zg g.bx j b j)=_
    rw[zx]; exact hb
   ·exact CRels.over ov r.rg (fun x hx i hi=>kk i (hu x hx i hi)) hc
  ·rw[zt _ _ hjk]at hj
   refine⟨by rw[zt _ _ hjk]; exact r.ub j cs' hj,fun x hx i hi=> ?_,r.box_over ov kk hj (zt _ _ hjk) rfl⟩;exact zbu (r.uc j cs' hj x hx i hi)
 ·intro j e he
  refine⟨?_,r.nd j e he,r.rg j e he⟩;exact zbu (r.ur j e he)
 ·intro o x hh
  rcases hold o x hh with⟨rfl,rfl⟩ | ⟨_,_,hh⟩
  ·have m:=r.mine .ext x (List.mem_cons_self ..); exact⟨m.z,m.r,m.m,m.s⟩
  ·have m:=r.mine o x hh; exact⟨m.z,m.r,m.m,m.s⟩
 ·intro o1 o2 x h1 h2
  rcases hold o1 x h1 with⟨rfl,hb1⟩ | ⟨n1,x1,h1⟩<;>rcases hold o2 x h2 with⟨rfl,hb2⟩ | ⟨n2,x2,h2⟩
  ·rfl
  ·subst hb1
   have:=r.uniq .ext o2 x (List.mem_cons_self ..) h2;subst this;exact absurd (x2 rfl) hnd.1
  ·subst hb2
   have:=r.uniq .ext o1 x (List.mem_cons_self ..) h1;subst this;exact absurd (x1 rfl) hnd.1
  ·exact r.uniq o1 o2 x h1 h2
theorem Rel.drop (r:Rel n0 M h0 s g X a w) {k:Nat} {e:Entry} (hk:s.sh.regs k=some e) :
  Rel n0 M h0 { s with sh:={ s.sh with regs:=zg s.sh.regs k none } } g (g.fp k++X) a w:=by
 have kk: ∀j,s.used j=true→KeyOk s.sh { s.sh with regs:=zg s.sh.regs k none } g g (hp w) (hp w) j:=by
  intro j hj;refine⟨fun c' hc=>⟨⟨c',hc⟩,rfl⟩,fun e' he=> ?_⟩;change zg s.sh.regs k none j=some e' at he;rw[zJ]at he;split at he
  ·simp at he
  ·exact⟨e',he,rfl,Nat.le_refl _,fun _=>⟨rfl,fun _ _=>rfl⟩⟩
 have hold: ∀o b,zu { s.sh with regs:=zg s.sh.regs k none } g (g.fp k++X) o b→(o= .ext∧b∈g.fp k)∨(o≠ .reg k∧zu s.sh g X o b):=by
  intro o b hh;cases o with
  | box j=>exact .inr ⟨by simp,hh⟩
  | reg j =>
   obtain⟨⟨e,he⟩,hb⟩:=hh;change zg s.sh.regs k none j=some e at he;rw[zJ]at he;split at he
   ·simp at he
   ·exact .inr ⟨by simp[*],⟨e,he⟩,hb⟩
  | ext=>exact(List.mem_append.1 hh).elim (fun h=> .inl ⟨rfl,h⟩) (fun h=> .inr ⟨by simp,h⟩)
 refine r.change (Over.refl g _) (Nat.le_refl _) kk (fun _ h=>h) ?_ ?_ r.zs ?_ ?_ ?_ (fun _ _ _=>rfl)
 ·intro j cs hj
  exact⟨r.ub j cs hj,r.uc j cs hj,r.box_over (Over.refl g _) kk hj rfl rfl⟩
 ·intro j e he
  change zg s.sh.regs k none j=some e at he;rw[zJ]at he;split at he
  ·simp at he
  ·exact⟨r.ur j e he,r.nd j e he,r.rg j e he⟩
 ·intro o b hh
  rcases hold o b hh with⟨rfl,hb⟩ | ⟨_,hh⟩
  ·exact r.mine (.reg k) b ⟨⟨e,hk⟩,hb⟩
  ·exact r.mine o b hh
 ·intro o1 o2 b h1 h2
  rcases hold o1 b h1 with⟨rfl,hb1⟩ | ⟨n1,h1⟩<;>rcases hold o2 b h2 with⟨rfl,hb2⟩ | ⟨n2,h2⟩
  ·rfl
  ·exact absurd (r.uniq (.reg k) o2 b ⟨⟨e,hk⟩,hb1⟩ h2).symm n2
  ·exact absurd (r.uniq (.reg k) o1 b ⟨⟨e,hk⟩,hb2⟩ h1).symm n1
  ·exact r.uniq o1 o2 b h1 h2
 ·refine List.nodup_append.2 ⟨r.nd k e hk,r.nx,?_⟩
  rintro x hx y hy rfl
  have:=r.uniq (.reg k) .ext x ⟨⟨e,hk⟩,hx⟩ hy;simp at this
theorem Rel.freeze (r:Rel n0 M h0 s g X a w) {fp X':List Nat} (hp':List.Perm X (fp++X')) :
  Rel n0 M h0 s { g with Z:=fun b=>g.Z b∨b∈fp } X' a w:=by
 have hnd:(fp++X').Nodup:=hp'.nodup_iff.1 r.nx;have hmem: ∀b,b∈fp∨b∈X'→b∈X:=fun b hb=>hp'.mem_iff.2 (List.mem_append.2 hb)
 have ov:Over g { g with Z:=fun b=>g.Z b∨b∈fp } (hp w) (hp w):=⟨fun _ h=> .inl h,fun _ h=>h,fun _ _=>rfl,fun _ _=>rfl⟩
 have kk: ∀j,s.used j=true→KeyOk s.sh s.sh g { g with Z:=fun b=>g.Z b∨b∈fp } (hp w) (hp w) j:=fun j _ =>
  ⟨fun c' hc=>⟨⟨c',hc⟩,rfl⟩,fun e' he=>⟨e',he,rfl,Nat.le_refl _,fun _=>⟨rfl,fun _ _=>rfl⟩⟩⟩
 have hold: ∀o b,zu s.sh { g with Z:=fun b=>g.Z b∨b∈fp } X' o b→zu s.sh g X o b∧b∉fp:=by
  intro o b hh;cases o with
  | box j=>exact⟨hh,fun hb=>by have:=r.uniq (.box j) .ext b hh (hmem b (.inl hb)); simp at this⟩
  | reg j=>exact⟨hh,fun hb=>by have:=r.uniq (.reg j) .ext b hh (hmem b (.inl hb)); simp at this⟩
  | ext=>exact⟨hmem b (.inr hh),fun hb=>(List.nodup_append.1 hnd).2.2 b hb b hh rfl⟩
 have:=r.change (sh':=s.sh) (used':=s.used) (X':=X') ov (Nat.le_refl _) kk (fun _ h=>h) ?_ ?_ ?_ ?_ ?_ (List.nodup_append.1 hnd).2.1 (fun _ _ _=>rfl) (fun b hb=>hb.imp id (fun hb=>(r.mine .ext b (hmem b (.inl hb))).m))
 ·exact this
 ·intro j cs hj
  exact⟨r.ub j cs hj,r.uc j cs hj,r.box_over ov kk hj rfl rfl⟩
 ·intro j e he
  exact⟨r.ur j e he,r.nd j e he,Own.keep ov.hz ov.z (fun _ _=>rfl) (r.rg j e he)⟩
 ·intro b hb
  rcases hb with(hb | hb) | hb
  ·exact r.zs b (.inl hb)
  ·exact(r.mine .ext b (hmem b (.inl hb))).s
  ·exact r.zs b (.inr hb)
 ·intro o b hh
  obtain⟨hh,hb⟩:=hold o b hh;have m:=r.mine o b hh;exact⟨fun hz=>hz.elim m.z hb,m.r,m.m,m.s⟩
 ·intro o1 o2 b h1 h2
  exact r.uniq o1 o2 b (hold o1 b h1).1 (hold o2 b h2).1
theorem Rel.dropExt (r:Rel n0 M h0 s g X a w) {fp X':List Nat} (hp':List.Perm X (fp++X')):Rel n0 M h0 s g X' a w:=by
  have hnd:(fp++X').Nodup:=hp'.nodup_iff.1 r.nx;have hmem: ∀b,b∈X'→b∈X:=fun b hb=>hp'.mem_iff.2 (List.mem_append.2 (.inr hb))
  have hold: ∀o b,zu s.sh g X' o b→zu s.sh g X o b:=by
    intro o b hh;cases o with
    | box j=>exact hh
    | reg j=>exact hh
    | ext=>exact hmem b hh
  exact{ r with
    mine:=fun o b hh=>r.mine o b (hold o b hh)
    uniq:=fun o1 o2 b h1 h2=>r.uniq o1 o2 b (hold o1 b h1) (hold o2 b h2)
    nx:=(List.nodup_append.1 hnd).2.1 }
end
section
variable {n0:Nat} {M:Nat→Prop} {h0:Home} {s:St} {g:Gh} {X:List Nat} {a:Act} {w:World}
def World.setBlk (w:World) (b:Nat) (c:Array Value) (T:TypeId):World:={ w with heap:=w.heap.setIfInBounds b (.cells c T (0,0)) }
theorem zbp {b b':Nat} {c:Array Value} {T:TypeId} (h:b'≠b):hp (World.setBlk w b c T) b'=hp w b':=by
 unfold hp World.setBlk;simp only[Array.getElem?_setIfInBounds];rw[if_neg (Ne.symm h)]
theorem zbo {b:Nat} {c:Array Value} {T:TypeId} (h:b<w.heap.size):hp (World.setBlk w b c T) b=some (.cells c T (0,0)):=by
 unfold hp World.setBlk;simp[h]
theorem zaX {b:Nat} {c:Array Value} {T:TypeId}:(World.setBlk w b c T).heap.size=w.heap.size:=by simp[World.setBlk]
theorem Rel.storeBox (r:Rel n0 M h0 s g X a w) {k:Nat} {cs ds:List C} {c c':Array Value} {T:TypeId} (hk:s.sh.boxes k=some cs)
  (hb:hp w (g.bx k)=some (.cells c T (0,0))) (hc:CRels s.sh g (hp w) ds c'.toList) (hu: ∀x∈ds,∀j∈x.refs,s.used j=true) :
  Rel n0 M h0 { s with sh:={ s.sh with boxes:=zg s.sh.boxes k (some ds) } } g X a (World.setBlk w (g.bx k) c' T):=by
 have mk:=r.mine (.box k) (g.bx k) ⟨⟨cs,hk⟩,rfl⟩;have oth: ∀b,b≠g.bx k→hp (World.setBlk w (g.bx k) c' T) b=hp w b:=fun b hb=>zbp hb
 have ov:Over g g (hp w) (hp (World.setBlk w (g.bx k) c' T)) :=
  ⟨fun _ h=>h,fun _ h=>h,fun b hz=>oth b (fun e=>mk.z (e ▸ hz)),fun b hz=>oth b (fun e=>mk.r (e ▸ hz))⟩
 have fpk: ∀j e,s.sh.regs j=some e→ ∀b∈g.fp j,hp (World.setBlk w (g.bx k) c' T) b=hp w b:=by
  intro j e he b hb;refine oth b (fun eq=> ?_);have:=r.uniq (.reg j) (.box k) b ⟨⟨e,he⟩,hb⟩ ⟨⟨cs,hk⟩,eq.symm⟩;simp at this
 have kk: ∀j,s.used j=true→KeyOk s.sh { s.sh with boxes:=zg s.sh.boxes k (some ds) } g g (hp w) (hp (World.setBlk w (g.bx k) c' T)) j:=by
  intro j _;refine⟨fun x hx=> ?_,fun e he=>⟨e,he,rfl,Nat.le_refl _,fun _=>⟨rfl,fpk j e he⟩⟩⟩;change zg s.sh.boxes k (some ds) j=some x at hx;rw[zJ]at hx;split at hx
  ·rename_i e; subst e; exact⟨⟨cs,hk⟩,rfl⟩
  ·exact⟨⟨x,hx⟩,rfl⟩
 have hold: ∀o b,zu { s.sh with boxes:=zg s.sh.boxes k (some ds) } g X o b→zu s.sh g X o b:=by
  intro o b hh;cases o with
  | box j =>
   obtain⟨⟨x,hx⟩,hb2⟩:=hh;change zg s.sh.boxes k (some ds) j=some x at hx;rw[zJ]at hx;split at hx
   ·rename_i e; subst e; exact⟨⟨cs,hk⟩,hb2⟩
   ·exact⟨⟨x,hx⟩,hb2⟩
  | reg j=>exact hh
  | ext=>exact hh
 refine r.change ov (by rw[zaX]; exact Nat.le_refl _) kk (fun _ h=>h) ?_ ?_ ?_ ?_ ?_ r.nx ?_
 ·intro j x hx
  change zg s.sh.boxes k (some ds) j=some x at hx;by_cases hjk:j=k
  ·subst hjk
   rw[zx]at hx; simp at hx; subst hx;exact⟨r.ub j cs hk,hu,c',T,zbo mk.s,CRels.over ov r.rg (fun x hx i hi=>kk i (hu x hx i hi)) hc⟩
  ·rw[zt _ _ hjk]at hx
   refine⟨r.ub j x hx,r.uc j x hx,r.box_over ov kk hx rfl (oth _ (fun e=>hjk ?_))⟩;have:=r.uniq (.box j) (.box k) (g.bx j) ⟨⟨x,hx⟩,rfl⟩ ⟨⟨cs,hk⟩,e.symm⟩;simpa using this
 ·intro j e he
  exact⟨r.ur j e he,r.nd j e he,Own.keep ov.hz ov.z (fpk j e he) (r.rg j e he)⟩
 ·intro b hb; rw[zaX]; exact r.zs b hb
 ·intro o b hh
  have m:=r.mine o b (hold o b hh);exact⟨m.z,m.r,m.m,by rw[zaX]; exact m.s⟩
 ·intro o1 o2 b h1 h2
  exact r.uniq o1 o2 b (hold o1 b h1) (hold o2 b h2)
 ·intro b hb hM
  refine oth b (fun e=> ?_);subst e;rcases mk.m with h | h
  ·omega
  ·exact hM h
theorem Rel.modReg (r:Rel n0 M h0 s g X a w) {k:Nat} {e:Entry} (hk:s.sh.regs k=some e) {w':World} {l':List e.pk.t.D} {fp' X':List Nat}
  (hsz:w'.heap.size=w.heap.size) (hsame: ∀b,b∉g.fp k→b∉X→hp w' b=hp w b) (hpm:List.Perm (g.fp k++X) (fp'++X'))
  (ho:Own (hp w') g.Z (.sl e.pk.t) (.ow e.pk.a) l' [g.hd k] fp') (hio:zby w'=zby w:=by exact rfl) :
  Rel n0 M h0 { s with sh:={ s.sh with regs:=zg s.sh.regs k (some ⟨{ e.pk with l:=l' },e.ver+1⟩) } } { g with fp:=zg g.fp k fp' } X' a w':=by
 have own0: ∀b,(b∈g.fp k∨b∈X)→Mine n0 M g w.heap.size b:=fun b hb=>hb.elim (fun h=>r.mine (.reg k) b ⟨⟨e,hk⟩,h⟩) (fun h=>r.mine .ext b h)
 have oth: ∀b,¬(b∈g.fp k∨b∈X)→hp w' b=hp w b:=fun b hb=>hsame b (fun h=>hb (.inl h)) (fun h=>hb (.inr h))
 have hnd0:(g.fp k++X).Nodup:=List.nodup_append.2 ⟨r.nd k e hk,r.nx,by
  rintro x hx y hy rfl
  have:=r.uniq (.reg k) .ext x ⟨⟨e,hk⟩,hx⟩ hy
  simp at this⟩
 have hnd:(fp'++X').Nodup:=hpm.nodup_iff.1 hnd0;have hmem: ∀b,(b∈fp'∨b∈X')→(b∈g.fp k∨b∈X):=fun b hb=>List.mem_append.1 (hpm.mem_iff.2 (List.mem_append.2 hb))
 have ov:Over g { g with fp:=zg g.fp k fp' } (hp w) (hp w') :=
  ⟨fun _ h=>h,fun _ h=>h,fun b hz=>oth b (fun h=>(own0 b h).z hz),fun b hz=>oth b (fun h=>(own0 b h).r hz)⟩
 have whose: ∀j,j≠k→ ∀e',s.sh.regs j=some e'→ ∀b∈g.fp j,¬(b∈g.fp k∨b∈X):=by
  intro j hj e' he' b hb h;rcases h with h | h
  ·have:=r.uniq (.reg j) (.reg k) b ⟨⟨e',he'⟩,hb⟩ ⟨⟨e,hk⟩,h⟩
   simp at this; exact hj this
  ·have:=r.uniq (.reg j) .ext b ⟨⟨e',he'⟩,hb⟩ h
   simp at this
 have whoseB: ∀j cs,s.sh.boxes j=some cs→ ¬(g.bx j∈g.fp k∨g.bx j∈X):=by
  intro j cs hj h;rcases h with h | h
  ·have:=r.uniq (.box j) (.reg k) _ ⟨⟨cs,hj⟩,rfl⟩ ⟨⟨e,hk⟩,h⟩
   simp at this
  ·have:=r.uniq (.box j) .ext _ ⟨⟨cs,hj⟩,rfl⟩ h
   simp at this
 have kk: ∀j,s.used j=true→KeyOk s.sh { s.sh with regs:=zg s.sh.regs k (some ⟨{ e.pk with l:=l' },e.ver+1⟩) } g { g with fp:=zg g.fp k fp' } (hp w) (hp w') j:=by
  intro j _;refine⟨fun x hx=>⟨⟨x,hx⟩,rfl⟩,fun e' he'=> ?_⟩;change zg s.sh.regs k _ j=some e' at he';by_cases hjk:j=k
  ·subst hjk
   rw[zx]at he'; simp at he'; subst he';exact⟨e,hk,rfl,Nat.le_succ _,fun h=>absurd h (by simp)⟩
  ·rw[zt _ _ hjk]at he'
   exact⟨e',he',rfl,Nat.le_refl _,fun _=>⟨rfl,fun b hb=>oth b (whose j hjk e' he' b hb)⟩⟩
 have hold: ∀o b,zu { s.sh with regs:=zg s.sh.regs k (some ⟨{ e.pk with l:=l' },e.ver+1⟩) } { g with fp:=zg g.fp k fp' } X' o b →
   (o= .reg k∧b∈fp')∨(o= .ext∧b∈X')∨(o≠ .reg k∧o≠ .ext∧zu s.sh g X o b):=by
  intro o b hh;cases o with
  | box j=>exact .inr (.inr ⟨by simp,by simp,hh⟩)
  | reg j =>
   obtain⟨⟨x,hx⟩,hb⟩:=hh;change zg s.sh.regs k _ j=some x at hx;change b∈zg g.fp k fp' j at hb;by_cases hjk:j=k
   ·subst hjk; rw[zx]at hb; exact .inl ⟨rfl,hb⟩
   ·rw[zt _ _ hjk]at hx hb
    exact .inr (.inr ⟨by simp[hjk],by simp,⟨x,hx⟩,hb⟩)
  | ext=>exact .inr (.inl ⟨rfl,hh⟩)
 have hold': ∀o b,zu { s.sh with regs:=zg s.sh.regs k (some ⟨{ e.pk with l:=l' },e.ver+1⟩) } { g with fp:=zg g.fp k fp' } X' o b→ ∃o',zu s.sh g X o' b:=by
  intro o b hh;rcases hold o b hh with⟨_,h⟩ | ⟨_,h⟩ | ⟨_,_,h⟩
  ·rcases hmem b (.inl h)with h | h
   ·exact⟨.reg k,⟨e,hk⟩,h⟩
   ·exact⟨.ext,h⟩
  ·rcases hmem b (.inr h)with h | h
   ·exact⟨.reg k,⟨e,hk⟩,h⟩
   ·exact⟨.ext,h⟩
  ·exact⟨o,h⟩
 have other: ∀o b,o≠ .reg k→o≠ .ext→zu s.sh g X o b→ ¬(b∈fp'∨b∈X'):=by
  intro o b h1 h2 hh h;rcases hmem b h with h | h
  ·exact h1 (r.uniq o (.reg k) b hh ⟨⟨e,hk⟩,h⟩)
  ·exact h2 (r.uniq o .ext b hh h)
 refine r.change ov (by omega) kk (fun _ h=>h) ?_ ?_ ?_ ?_ ?_ (List.nodup_append.1 hnd).2.1 ?_ (hio:=hio)
 ·intro j x hx
  exact⟨r.ub j x hx,r.uc j x hx,r.box_over ov kk hx rfl (oth _ (whoseB j x hx))⟩
 ·intro j e' he'
  change zg s.sh.regs k _ j=some e' at he';show s.used j=true∧(zg g.fp k fp' j).Nodup∧Own (hp w') g.Z (.sl e'.pk.t) (.ow e'.pk.a) e'.pk.l [g.hd j] (zg g.fp k fp' j);by_cases hjk:j=k
  ·subst hjk
   rw[zx]at he'; simp at he'; subst he';rw[zx];exact⟨r.ur j e hk,(List.nodup_append.1 hnd).1,ho⟩
  ·rw[zt _ _ hjk]at he'
   rw[zt _ _ hjk];exact⟨r.ur j e' he',r.nd j e' he',Own.keep ov.hz ov.z (fun b hb=>oth b (whose j hjk e' he' b hb)) (r.rg j e' he')⟩
 ·intro b hb; rw[hsz]; exact r.zs b hb
 ·intro o b hh
  obtain⟨o',ho'⟩:=hold' o b hh;have m:=r.mine o' b ho';exact⟨m.z,m.r,m.m,by rw[hsz]; exact m.s⟩
 ·intro o1 o2 b h1 h2
  rcases hold o1 b h1 with⟨rfl,hb1⟩ | ⟨rfl,hb1⟩ | ⟨n1,n1',g1⟩<;>rcases hold o2 b h2 with⟨rfl,hb2⟩ | ⟨rfl,hb2⟩ | ⟨n2,n2',g2⟩
  ·rfl
  ·exact absurd rfl ((List.nodup_append.1 hnd).2.2 b hb1 b hb2)
  ·exact absurd (.inl hb1) (other o2 b n2 n2' g2)
  ·exact absurd rfl ((List.nodup_append.1 hnd).2.2 b hb2 b hb1)
  ·rfl
  ·exact absurd (.inr hb1) (other o2 b n2 n2' g2)
  ·exact absurd (.inl hb2) (other o1 b n1 n1' g1)
  ·exact absurd (.inr hb2) (other o1 b n1 n1' g1)
  ·exact r.uniq o1 o2 b g1 g2
 ·intro b hb hM
  refine oth b (fun h=> ?_);rcases(own0 b h).m with h | h
  ·omega
  ·exact hM h
end
theorem zaO (b o n:Nat):Addr.add ⟨b,o,none⟩ n=⟨b,o+n,none⟩:=by
 unfold Addr.add;split
 ·subst_vars; rfl
 ·rfl
section
variable {P:Program} {w:World}
theorem zee {b o:Nat} {v:Value} (h:zL (hp w) b o=some v):(load ⟨b,o,none⟩).run P w= .ok v w:=by
 have hc:w.cell? ⟨b,o,none⟩=some v:=by rw[zb1]; exact h
 simp[load,Sem.run,hc]
theorem zcA {b o:Nat}: ∀(n i:Nat) (vs:List Value) (acc:Array Value),zh (hp w) b (o+i) n=some vs →
  (loadCellsFrom ⟨b,o,none⟩ i n acc).run P w= .ok (acc++vs.toArray) w
 | 0,i,vs,acc,h=>by simp[zh]at h; subst h; simp[loadCellsFrom]
 | n+1,i,vs,acc,h=>by
  simp only[zh]at h;split at h
  ·rename_i v r h1 h2
   simp at h; subst h;have ih:=zcA n (i+1) r (acc.push v) (by rw[← Nat.add_assoc]; exact h2);simp only[loadCellsFrom,Sem.run_bind,zaO,zee h1,Result.andThen_ok,ih];simp
  ·simp at h
theorem zed {b o n:Nat} {vs:List Value} (h:zh (hp w) b o n=some vs):(loadCells ⟨b,o,none⟩ n).run P w= .ok vs.toArray w:=by
 unfold loadCells;rw[zcA n 0 vs #[] (by simpa using h)];simp
def zi (c:Array Value) (o:Nat):List Value→Array Value
 | []=>c
 | v::vs=>zi (c.setIfInBounds o v) (o+1) vs
theorem za3: ∀(vs:List Value) (c:Array Value) (o:Nat),(zi c o vs).size=c.size
 | [],_,_=>rfl
 | v::vs,c,o=>by simp[zi,za3 vs]
theorem zah: ∀(vs:List Value) (c:Array Value) (o j:Nat),o+vs.length≤c.size →
  (zi c o vs)[j]? =if o≤j∧j<o+vs.length then vs[j-o]? else c[j]?
 | [],c,o,j,_=>by simp[zi]; intro h1 h2; omega
 | v::vs,c,o,j,h=>by
  simp only[List.length_cons]at h ⊢;rw[zi,zah vs _ (o+1) j (by simp; omega)];by_cases h1:o+1≤j∧j<o+1+vs.length
  ·rw[if_pos h1,if_pos (by omega)]
   have:j-o=(j-(o+1))+1:=by omega
   rw[this]; simp
  ·rw[if_neg h1,Array.getElem?_setIfInBounds]
   by_cases h2:o=j
   ·subst h2
    rw[if_pos rfl,if_pos (by omega),if_pos (by omega)];simp
   ·rw[if_neg h2,if_neg (by omega)]
theorem ziE {v:Value} (h:zR v):v.oneCell'=true:=by
 cases v<;>first | rfl | exact h.elim
theorem zbx {b o:Nat} {T:TypeId}: ∀(vs:List Value) (i:Nat) (w:World) (c:Array Value),hp w b=some (.cells c T (0,0))→o+i+vs.length≤c.size →
  (∀v∈vs,zR v)→(storeCells ⟨b,o,none⟩ vs i).run P w= .ok () (World.setBlk w b (zi c (o+i) vs) T)
 | [],i,w,c,hb,_,_=>by
  have hb':w.heap[b]? =some (.cells c T (0,0)):=hb
  have:World.setBlk w b c T=w:=by
   unfold World.setBlk
   have:w.heap.setIfInBounds b (.cells c T (0,0))=w.heap:=by
    apply Array.ext_getElem?;intro j;rw[Array.getElem?_setIfInBounds];split
    ·subst_vars
     split
     ·exact hb'.symm
     ·rename_i hn; rw[Array.getElem?_eq_none (by omega)]
    ·rfl
   rw[this]
  simp[storeCells,zi,this]
 | v::vs,i,w,c,hb,hl,hc=>by
  simp only[List.length_cons]at hl;have hb':w.heap[b]? =some (.cells c T (0,0)):=hb;have hlt:o+i<c.size:=by omega
  have hcell:w.cell? ⟨b,o+i,none⟩=some c[o+i]:=by
   rw[zb1]; unfold zL; rw[hb]; simp[hlt]
  have hfr:w.frozen? ⟨b,o+i,none⟩=false:=by
   unfold World.frozen?;simp[hb']
  have hset:w.setCell ⟨b,o+i,none⟩ v=World.setBlk w b (c.setIfInBounds (o+i) v) T:=by
   unfold World.setCell World.setBlk;congr 1;apply Array.ext_getElem?;intro j;rw[Array.getElem?_modify,Array.getElem?_setIfInBounds];by_cases hj:b=j
   ·subst hj
    have hlt2:b<w.heap.size:=(Array.getElem?_eq_some_iff.1 hb').1;have hg:w.heap[b]=Obj.cells c T (0,0):=by rw[Array.getElem?_eq_getElem hlt2]at hb'; simpa using hb'
    simp[hlt2,hg]
   ·simp[hj]
  have hsz:b<w.heap.size:=(Array.getElem?_eq_some_iff.1 hb').1
  have ih:=zbx (o:=o) vs (i+1) (World.setBlk w b (c.setIfInBounds (o+i) v) T) (c.setIfInBounds (o+i) v) (zbo hsz) (by simp; omega)
   (fun u hu=>hc u (by simp[hu]))
  have hst:(store ⟨b,o+i,none⟩ v).run P w= .ok () (World.setBlk w b (c.setIfInBounds (o+i) v) T):=by
   rw[run_store P w _ v _ (ziE (hc v (by simp))),hcell];simp[hfr,hset]
  have h2:World.setBlk (World.setBlk w b (c.setIfInBounds (o+i) v) T) b (zi (c.setIfInBounds (o+i) v) (o+(i+1)) vs) T =
    World.setBlk w b (zi c (o+i) (v::vs)) T:=by
   unfold World.setBlk;simp[zi,Nat.add_assoc]
  simp only[storeCells,Sem.run_bind,zaO,hst,Result.andThen_ok,ih,h2]
theorem zcF {T:TypeId} {c:Array Value}:(newRow T c).run P w= .ok ⟨w.heap.size,0,none⟩ (World.push w (.cells c T)):=by
 simp[newRow,World.push]
end
section
variable {n0:Nat} {M:Nat→Prop} {h0:Home} {s:St} {g:Gh} {X:List Nat} {a:Act} {w:World}
def zeO (g:Gh) (X:List Nat) (kr:Nat→Bool) (w w':World) (b:Nat):Prop :=(w.heap.size≤b∧b<w'.heap.size)∨b∈X∨ ∃j,kr j=true∧b∈g.fp j
def zb6 (sh:Sh) (kr kb:Nat→Bool) (ne:Nat→Entry) (nb:Nat→List C):Sh :={ boxes:=fun j=>bif kb j then some (nb j)else sh.boxes j,regs:=fun j=>bif kr j then some (ne j)else sh.regs j }
theorem Rel.call (r:Rel n0 M h0 s g X a w) {w':World} {Z':Nat→Prop} {kr kb:Nat→Bool} {ne:Nat→Entry} {nb:Nat→List C} {nf:Nat→List Nat} {X':List Nat}
  (hsz:w.heap.size≤w'.heap.size)
  (hsame: ∀b,b<w.heap.size→b∉X→(∀j,kr j=true→b∉g.fp j)→(∀j,kb j=true→b≠g.bx j)→hp w' b=hp w b)
  (hZ: ∀b,g.Z b→Z' b) (hZ2: ∀b,Z' b→b<w'.heap.size) (hZ3: ∀b,Z' b→g.Z b∨zeO g X kr w w' b)
  (hR: ∀j,kr j=true→ ∃e,s.sh.regs j=some e∧e.ver<(ne j).ver∧(nf j).Nodup∧Own (hp w') Z' (.sl (ne j).pk.t) (.ow (ne j).pk.a) (ne j).pk.l [g.hd j] (nf j))
  (hB: ∀j,kb j=true→(∃cs,s.sh.boxes j=some cs)∧(∀c∈nb j,c.refs= [])∧ ¬Z' (g.bx j) ∧
   ∃c T,hp w' (g.bx j)=some (.cells c T (0,0))∧ ∀s' g' h',CRels s' g' h' (nb j) c.toList)
  (hnf: ∀j,kr j=true→ ∀b∈nf j,zeO g X kr w w' b∧ ¬Z' b)
  (hnf2: ∀i j,kr i=true→kr j=true→ ∀b,b∈nf i→b∈nf j→i=j)
  (hX: ∀b∈X',zeO g X kr w w' b∧ ¬Z' b) (hX2: ∀j,kr j=true→ ∀b∈nf j,b∉X') (hXn:X'.Nodup)
  (hkr: ∀j,kr j=false→ ∀e,s.sh.regs j=some e→ ∀b∈g.fp j,¬Z' b) (hkb: ∀j cs,s.sh.boxes j=some cs→ ¬Z' (g.bx j)) (hio:zby w'=zby w:=by exact rfl) :
  Rel n0 M h0 { s with sh:=zb6 s.sh kr kb ne nb } { g with Z:=Z',fp:=fun j=>bif kr j then nf j else g.fp j } X' a w':=by
 have av: ∀b,zeO g X kr w w' b→(¬g.R b∧(n0≤b∨M b)∧b<w'.heap.size):=by
  intro b hb;rcases hb with⟨h1,h2⟩ | h | ⟨j,hj,h⟩
  ·refine⟨fun hr=> ?_,.inl (Nat.le_trans r.nn h1),h2⟩
   have:=r.zs b (.inr hr); omega
  ·have m:=r.mine .ext b h
   exact⟨m.r,m.m,by have:=m.s; omega⟩
  ·obtain⟨e,he,_⟩:=hR j hj
   have m:=r.mine (.reg j) b ⟨⟨e,he⟩,h⟩;exact⟨m.r,m.m,by have:=m.s; omega⟩
 have sameZ: ∀b,g.Z b∨g.R b→hp w' b=hp w b:=by
  intro b hz;have nz: ∀o,zu s.sh g X o b→False:=fun o hh=>(hz.elim (r.mine o b hh).z (r.mine o b hh).r)
  refine hsame b (r.zs b hz) (fun h=>nz .ext h) (fun j hj h=> ?_) (fun j hj h=> ?_)
  ·obtain⟨e,he,_⟩:=hR j hj; exact nz (.reg j) ⟨⟨e,he⟩,h⟩
  ·obtain⟨⟨cs,hc⟩,_⟩:=hB j hj; exact nz (.box j) ⟨⟨cs,hc⟩,h.symm⟩
 have sameR: ∀j e,kr j=false→s.sh.regs j=some e→ ∀b∈g.fp j,hp w' b=hp w b:=by
  intro j e hj he b hb;have hh:zu s.sh g X (.reg j) b:=⟨⟨e,he⟩,hb⟩;refine hsame b (r.mine _ b hh).s (fun h=> ?_) (fun i hi h=> ?_) (fun i hi h=> ?_)
  ·have:=r.uniq _ .ext b hh h; simp at this
  ·obtain⟨e',he',_⟩:=hR i hi
   have:=r.uniq _ (.reg i) b hh ⟨⟨e',he'⟩,h⟩;simp at this; subst this; rw[hj]at hi; simp at hi
  ·obtain⟨⟨cs,hc⟩,_⟩:=hB i hi
   have:=r.uniq _ (.box i) b hh ⟨⟨cs,hc⟩,h.symm⟩;simp at this
 have sameB: ∀j cs,kb j=false→s.sh.boxes j=some cs→hp w' (g.bx j)=hp w (g.bx j):=by
  intro j cs hj hc;have hh:zu s.sh g X (.box j) (g.bx j):=⟨⟨cs,hc⟩,rfl⟩;refine hsame _ (r.mine _ _ hh).s (fun h=> ?_) (fun i hi h=> ?_) (fun i hi h=> ?_)
  ·have:=r.uniq _ .ext _ hh h; simp at this
  ·obtain⟨e',he',_⟩:=hR i hi
   have:=r.uniq _ (.reg i) _ hh ⟨⟨e',he'⟩,h⟩;simp at this
  ·obtain⟨⟨cs',hc'⟩,_⟩:=hB i hi
   have:=r.uniq _ (.box i) _ hh ⟨⟨cs',hc'⟩,h.symm⟩;simp at this; subst this; rw[hj]at hi; simp at hi
 have ov:Over g { g with Z:=Z',fp:=fun j=>bif kr j then nf j else g.fp j } (hp w) (hp w') :=
  ⟨hZ,fun _ h=>h,fun b hz=>sameZ b (.inl hz),fun b hz=>sameZ b (.inr hz)⟩
 have kk: ∀j,s.used j=true→KeyOk s.sh (zb6 s.sh kr kb ne nb) g { g with Z:=Z',fp:=fun j=>bif kr j then nf j else g.fp j } (hp w) (hp w') j:=by
  intro j _;refine⟨fun x hx=> ?_,fun e' he'=> ?_⟩
  ·change (bif kb j then some (nb j)else s.sh.boxes j)=some x at hx
   cases hb:kb j with
   | true=>exact⟨(hB j hb).1,rfl⟩
   | false=>rw[hb]at hx; exact⟨⟨x,hx⟩,rfl⟩
  ·change (bif kr j then some (ne j)else s.sh.regs j)=some e' at he'
   cases hj:kr j with
   | true =>
    rw[hj]at he'; simp at he'; subst he';obtain⟨e,he,hv,_⟩:=hR j hj;exact⟨e,he,rfl,Nat.le_of_lt hv,fun h=>by omega⟩
   | false =>
    rw[hj]at he';exact⟨e',he',rfl,Nat.le_refl _,fun _=>⟨rfl,sameR j e' hj he'⟩⟩
 have hold: ∀o b,zu (zb6 s.sh kr kb ne nb) { g with Z:=Z',fp:=fun j=>bif kr j then nf j else g.fp j } X' o b →
   (∃j,o= .reg j∧kr j=true∧b∈nf j)∨(o= .ext∧b∈X')∨(o≠ .ext∧(∀j,o= .reg j→kr j=false)∧zu s.sh g X o b):=by
  intro o b hh;cases o with
  | box j =>
   obtain⟨⟨x,hx⟩,hb⟩:=hh;change (bif kb j then some (nb j)else s.sh.boxes j)=some x at hx;refine .inr (.inr ⟨by simp,by simp,?_,hb⟩);cases hj:kb j with
   | true=>exact(hB j hj).1
   | false=>rw[hj]at hx; exact⟨x,hx⟩
  | reg j =>
   obtain⟨⟨x,hx⟩,hb⟩:=hh;change (bif kr j then some (ne j)else s.sh.regs j)=some x at hx;change b∈(bif kr j then nf j else g.fp j)at hb;cases hj:kr j with
   | true=>rw[hj]at hb; exact .inl ⟨j,rfl,hj,hb⟩
   | false =>
    rw[hj]at hx hb;exact .inr (.inr ⟨by simp,fun i hi=>by simp at hi; subst hi; exact hj,⟨x,hx⟩,hb⟩)
  | ext=>exact .inr (.inl ⟨rfl,hh⟩)
 have avHold: ∀o b,o≠ .ext→(∀j,o= .reg j→kr j=false)→zu s.sh g X o b→ ¬zeO g X kr w w' b:=by
  intro o b h1 h2 hh hav;rcases hav with⟨h3,_⟩ | h3 | ⟨j,hj,h3⟩
  ·have:=(r.mine o b hh).s; omega
  ·exact h1 (r.uniq o .ext b hh h3)
  ·obtain⟨e,he,_⟩:=hR j hj
   have:=r.uniq o (.reg j) b hh ⟨⟨e,he⟩,h3⟩;have h4:=h2 j this;rw[hj]at h4; simp at h4
 refine r.change ov hsz kk (fun _ h=>h) ?_ ?_ ?_ ?_ ?_ hXn ?_ (fun b hb=>(hZ3 b hb).imp id (fun hb=>(av b hb).2.1)) (hio:=hio)
 ·intro j x hx
  change (bif kb j then some (nb j)else s.sh.boxes j)=some x at hx;cases hj:kb j with
  | true =>
   rw[hj]at hx; simp at hx; subst hx;obtain⟨⟨cs,hcs⟩,href,_,c,T,hc,hcr⟩:=hB j hj;exact⟨r.ub j cs hcs,fun c hc i hi=>by rw[href c hc]at hi; simp at hi,c,T,hc,hcr _ _ _⟩
  | false =>
   rw[hj]at hx;exact⟨r.ub j x hx,r.uc j x hx,r.box_over ov kk hx rfl (sameB j x hj hx)⟩
 ·intro j e' he'
  change (bif kr j then some (ne j)else s.sh.regs j)=some e' at he';show s.used j=true∧(bif kr j then nf j else g.fp j).Nodup∧Own (hp w') Z' (.sl e'.pk.t) (.ow e'.pk.a) e'.pk.l [g.hd j] (bif kr j then nf j else g.fp j);cases hj:kr j with
  | true =>
   rw[hj]at he'; simp at he'; subst he';obtain⟨e,he,hv,hn,ho⟩:=hR j hj;exact⟨r.ur j e he,hn,ho⟩
  | false =>
   rw[hj]at he';exact⟨r.ur j e' he',r.nd j e' he',Own.keep ov.hz ov.z (sameR j e' hj he') (r.rg j e' he')⟩
 ·intro b hb
  rcases hb with hb | hb
  ·exact hZ2 b hb
  ·have:=r.zs b (.inr hb); omega
 ·intro o b hh
  rcases hold o b hh with⟨j,rfl,hj,hb⟩ | ⟨rfl,hb⟩ | ⟨h1,h2,hh⟩
  ·obtain⟨h3,h4⟩:=hnf j hj b hb
   obtain⟨h5,h6,h7⟩:=av b h3;exact⟨h4,h5,h6,h7⟩
  ·obtain⟨h3,h4⟩:=hX b hb
   obtain⟨h5,h6,h7⟩:=av b h3;exact⟨h4,h5,h6,h7⟩
  ·have m:=r.mine o b hh
   refine⟨fun hz=> ?_,m.r,m.m,by have:=m.s; omega⟩;rcases hZ3 b hz with hz | hz
   ·exact m.z hz
   ·exact avHold o b h1 h2 hh hz
 ·intro o1 o2 b h1 h2
  rcases hold o1 b h1 with⟨i,rfl,hi,hb1⟩ | ⟨rfl,hb1⟩ | ⟨n1,k1,g1⟩<;>rcases hold o2 b h2 with⟨j,rfl,hj,hb2⟩ | ⟨rfl,hb2⟩ | ⟨n2,k2,g2⟩
  ·rw[hnf2 i j hi hj b hb1 hb2]
  ·exact absurd hb2 (hX2 i hi b hb1)
  ·exact absurd (hnf i hi b hb1).1 (avHold o2 b n2 k2 g2)
  ·exact absurd hb1 (hX2 j hj b hb2)
  ·rfl
  ·exact absurd (hX b hb1).1 (avHold o2 b n2 k2 g2)
  ·exact absurd (hnf j hj b hb2).1 (avHold o1 b n1 k1 g1)
  ·exact absurd (hX b hb2).1 (avHold o1 b n1 k1 g1)
  ·exact r.uniq o1 o2 b g1 g2
 ·intro b hb hM
  refine hsame b (by have:=r.nn; omega) (fun h=> ?_) (fun j hj h=> ?_) (fun j hj h=> ?_)
  ·rcases(r.mine .ext b h).m with h | h
   ·omega
   ·exact hM h
  ·obtain⟨e,he,_⟩:=hR j hj
   rcases(r.mine (.reg j) b ⟨⟨e,he⟩,h⟩).m with h | h
   ·omega
   ·exact hM h
  ·obtain⟨⟨cs,hcs⟩,_⟩:=hB j hj
   rcases(r.mine (.box j) b ⟨⟨cs,hcs⟩,h.symm⟩).m with h | h
   ·omega
   ·exact hM h
end
structure TI where
 ty:Ty
 fs:List (Nat×Nat×Bool):= []
 el:Nat:=0
 eqs:Bool:=false
def Ty.isSt:Ty→Bool
 | .st _ _=>true
 | _=>false
def Ty.scalar:Ty→Bool
 | .int _=>true
 | .bool=>true
 | _=>false
def Ty.leaves:Ty→List Ty
 | .pr a b=>a.leaves++b.leaves
 | .st _ t=>t.leaves
 | t=> [t]
inductive Par where
 | rd (t:Ty)
 | kp (t:Ty) (a:Ann)
 | mt (t:Ty) (a:Ann)
 | pt (t:Ty) (a:Ann)
 | fn (f:FuncId) (t:Ty)
 | rp (t:Ty)
def Par.ty:Par→Ty
 | .rd t=>t
 | .kp t _=>t
 | .mt t _=>t
 | .pt t _=>t
 | .fn _ t=>t
 | .rp t=>t
structure OT where
 pt:Bool
 t:Ty
 a:Ann
@[reducible] def InD:List Par→Type
 | []=>Unit
 | p::ps=>p.ty.D×InD ps
@[reducible] def zaY:List OT→Type
 | []=>Unit
 | p::ps=>p.t.D×zaY ps
@[reducible] def zak:List Par→Type
 | []=>Unit
 | .rd _::ps=>zak ps
 | .kp _ _::ps=>zak ps
 | .fn _ _::ps=>zak ps
 | .rp _::ps=>zak ps
 | .mt t _::ps=>t.D×zak ps
 | .pt t _::ps=>t.D×zak ps
structure Con where
 ins:List Par
 outs:List OT
 F:InD ins→Option (zaY outs×zak ins)
structure Env where
 TT:Nat→Option TI
 G:FuncId→Option Con
 an:Nat→Option Ann
def zdO (k:IntKind) (n:Int):Bool:=decide (k.min≤n)&&decide (n≤k.max)
def zeN:Value→Option C
 | .int k n=>bif zdO k n then some (.int k n)else none
 | .bool b=>some (.bool b)
 | .slice none 0 0=>some .nil
 | _=>none
def zeV:List Value→Option (List C)
 | []=>some []
 | v::vs=>match zeN v,zeV vs with
  | some c,some cs=>some (c::cs)
  | _,_=>none
def ziL:Option C→V
 | some c=> .c c
 | none=> .junk
def zhF:Value→V
 | .agg cs=>match zeV cs.toList with
  | some cs=> .agg cs
  | none=> .junk
 | v=>ziL (zeN v)
def ze (s:St):Operand→V
 | .tmp t=>bif Nat.blt t s.nt then s.tmps t else .junk
 | .const v=>zhF v
 | .func f=> .c (.fn f [])
 | .global _=> .junk
def zas:V→Option (List C)
 | .c x=>some [x]
 | .agg cs=>some cs
 | _=>none
def zv (agg:Bool) (cs:List C):V:=bif agg then .agg cs else match cs with | [c]=> .c c | _=> .junk
def zaG:Ty→List C
 | .int k=> [.int k 0]
 | .bool=> [.bool false]
 | .sl _=> [.nil]
 | .pr a b=>zaG a++zaG b
 | .st _ t=>zaG t
def rdC (sh:Sh) (t:Ty):C→Option LD
 | .int k n=>some (.int k n)
 | .bool b=>some (.bool b)
 | .nil=>match t with
  | .sl u=>some (.sl u [])
  | _=>none
 | .fz u l=>some (.sl u l)
 | .br u l=>some (.sl u l)
 | .at k=>match sh.regs k with
  | some e=>some (.sl e.pk.t e.pk.l)
  | none=>none
 | .nd k ver _ q=>match sh.regs k with
  | some e=>bif Nat.beq e.ver ver then some (.sl q.t q.l)else none
  | none=>none
 | .vw k ver lo hi=>match sh.regs k with
  | some e=>bif Nat.beq e.ver ver then some (.sl e.pk.t ((e.pk.l.drop lo.toNat).take (hi-lo).toNat))else none
  | none=>none
 | _=>none
def zdj (sh:Sh):List Ty→List C→Option (List LD)
 | [],[]=>some []
 | t::ts,c::cs=>match rdC sh t c,zdj sh ts cs with
  | some d,some ds=>some (d::ds)
  | _,_=>none
 | _,_=>none
def rdT (sh:Sh) (t:Ty) (cs:List C):Option t.D :=
 match zdj sh t.leaves cs with
 | some ds=>match t.unflat ds with
  | some (x,[])=>some x
  | _=>none
 | none=>none
def wkB:Ann→Ann→Bool
 | _,.fz=>true
 | .ow a,.ow b=>wkB a b
 | .pr a b,.pr c d=>wkB a c&&wkB b d
 | _,_=>false
def mvC (sh:Sh) (a:Ann) (t:Ty):C→Option (LD×Sh)
 | .int k n=>some (.int k n,sh)
 | .bool b=>some (.bool b,sh)
 | .nil=>match t with
  | .sl u=>some (.sl u [],sh)
  | _=>none
 | .fz u l=>match a with
  | .ow _=>none
  | _=>some (.sl u l,sh)
 | .at k=>match sh.regs k with
  | some e=>match a with
   | .ow a'=>bif wkB e.pk.a a' then some (.sl e.pk.t e.pk.l,{ sh with regs:=zg sh.regs k none })else none
   | _=>some (.sl e.pk.t e.pk.l,{ sh with regs:=zg sh.regs k none })
  | none=>none
 | .vw k ver lo hi=>match sh.regs k with
  | some e=>bif Nat.beq e.ver ver then(match a with
   | .ow a'=>bif wkB e.pk.a a' then some (.sl e.pk.t ((e.pk.l.drop lo.toNat).take (hi-lo).toNat),{ sh with regs:=zg sh.regs k none })else none
   | _=>some (.sl e.pk.t ((e.pk.l.drop lo.toNat).take (hi-lo).toNat),{ sh with regs:=zg sh.regs k none }))else none
  | none=>none
 | _=>none
def zaF (sh:Sh):List Ann→List Ty→List C→Option (List LD×Sh)
 | [],[],[]=>some ([],sh)
 | a::as,t::ts,c::cs=>match mvC sh a t c with
  | some (d,sh)=>match zaF sh as ts cs with
   | some (ds,sh)=>some (d::ds,sh)
   | none=>none
  | none=>none
 | _,_,_=>none
def mvT (sh:Sh) (t:Ty) (a:Ann) (cs:List C):Option (t.D×Sh) :=
 match zaF sh (a.flat t) t.leaves cs with
 | some (ds,sh)=>match t.unflat ds with
  | some (x,[])=>some (x,sh)
  | _=>none
 | none=>none
def ldC (z:Bool):LD→C
 | .int k n=> .int k n
 | .bool b=> .bool b
 | .sl t l=>bif z then .fz t l else .br t l
def ldO (k ver:Nat) (p:zcy) (i:Int) (j:Nat):List LD→List Ann→List C
 | .int k' n::ds,_::as=> .int k' n::ldO k ver p i (j+1) ds as
 | .bool b::ds,_::as=> .bool b::ldO k ver p i (j+1) ds as
 | .sl t l::ds,.ow a::as=> .nd k ver (p++ [(i,j)]) ⟨t,a,l⟩::ldO k ver p i (j+1) ds as
 | .sl t l::ds,_::as=> .fz t l::ldO k ver p i (j+1) ds as
 | _,_=> []
def zam (sh:Sh) (n:Nat):C→Option (List C)
 | .ptr k off=>match sh.boxes k with
  | some cs=>some ((cs.drop off).take n)
  | none=>none
 | .ef z t x off=>some ((((t.flat x).drop off).take n).map (ldC z))
 | .eo k ver p q i off=>match sh.regs k with
  | some e=>bif Nat.beq e.ver ver then
    some (ldO k ver p i off (((q.t.flat (q.l.getD i.toNat q.t.dflt)).drop off).take n) (((q.a.flat q.t).drop off).take n))
   else none
  | none=>none
 | _=>none
def zI {α:Type} (cs:List α) (off:Nat) (ds:List α):List α:=cs.take off++ds++cs.drop (off+ds.length)
def Pk.put (p:Pk):zcy→Pk→Option (List p.t.D)
 | [],q=>match Ty.eq q.t p.t with
  | some ⟨h⟩=>some (h ▸ q.l)
  | none=>none
 | (i,j)::r,q=>match p.to i j with
  | some c=>match c.put r q with
   | some l=>match p.t.unflat ((p.t.flat (p.l.getD i.toNat p.t.dflt)).set j (.sl c.t l))with
    | some (x,[])=>some (p.l.set i.toNat x)
    | _=>none
   | none=>none
  | none=>none
def zX (s:St) (addr:C) (ds:List C):Option St :=
 match addr with
 | .ptr k off=>match s.sh.boxes k with
  | some cs=>bif Nat.ble (off+ds.length) cs.length then some { s with sh:={ s.sh with boxes:=zg s.sh.boxes k (some (zI cs off ds)) } }else none
  | none=>none
 | .eo k ver p q i off=>match zaF s.sh (((q.a.flat q.t).drop off).take ds.length) ((q.t.leaves.drop off).take ds.length) ds with
  | some (lds,sh)=>match sh.regs k with
   | some e=>bif Nat.beq e.ver ver then
     match q.t.unflat (zI (q.t.flat (q.l.getD i.toNat q.t.dflt)) off lds)with
     | some (x,[])=>match e.pk.put p ⟨q.t,q.a,q.l.set i.toNat x⟩with
      | some l=>some { s with sh:={ sh with regs:=zg sh.regs k (some ⟨{ e.pk with l:=l },ver+1⟩) } }
      | none=>none
     | _=>none
    else none
   | none=>none
  | none=>none
 | _=>none
def zac (sh:Sh) (c:C) (i:Int):Option (Bool×Nat×C) :=
 match c with
 | .fz t l=>some (decide (0≤i)&&decide (i<l.length),t.size,.ef true t (l.getD i.toNat t.dflt) 0)
 | .br t l=>some (decide (0≤i)&&decide (i<l.length),t.size,.ef false t (l.getD i.toNat t.dflt) 0)
 | .at k=>match sh.regs k with
  | some e=>some (decide (0≤i)&&decide (i<e.pk.l.length),e.pk.t.size,.eo k e.ver [] e.pk i 0)
  | none=>none
 | .nd k ver p q=>match sh.regs k with
  | some e=>bif Nat.beq e.ver ver then some (decide (0≤i)&&decide (i<q.l.length),q.t.size,.eo k ver p q i 0)else none
  | none=>none
 | _=>none
def zai (sh:Sh):C→Option Int
 | .nil=>some 0
 | .fz _ l=>some l.length
 | .br _ l=>some l.length
 | .at k=>match sh.regs k with
  | some e=>some e.pk.l.length
  | none=>none
 | .nd k ver _ q=>match sh.regs k with
  | some e=>bif Nat.beq e.ver ver then some q.l.length else none
  | none=>none
 | .vw k ver lo hi=>match sh.regs k with
  | some e=>bif Nat.beq e.ver ver then some (hi-lo)else none
  | none=>none
 | _=>none
def zat (o:Nat):C→Option C
 | .ptr k off=>some (.ptr k (off+o))
 | .ef z t x off=>some (.ef z t x (off+o))
 | .eo k ver p q i off=>some (.eo k ver p q i (off+o))
 | _=>none
def zfT (b:Bool):V→V→V
 | .c (.bool x),.c (.bool y)=> .c (.bool (bif b then x else y))
 | x,y=>bif b then x else y
def zgF (op:BinOp) (k:IntKind) (x y:Int):Option Int :=
 match op with
 | .and=>some (k.wrap (BitVec.ofInt k.bits x &&& BitVec.ofInt k.bits y).toNat)
 | .or=>some (k.wrap (BitVec.ofInt k.bits x ||| BitVec.ofInt k.bits y).toNat)
 | .xor=>some (k.wrap (BitVec.ofInt k.bits x ^^^ BitVec.ofInt k.bits y).toNat)
 | _=>none
def zii (op:BinOp):C→C→Option (Bool×C)
 | .int k x,.int j y=>match op with
  | .shl=>some (decide (0≤y),.int k (k.wrap (x*2^(min y.toNat k.bits))))
  | .shr=>some (decide (0≤y),.int k (x.fdiv (2^(min y.toNat k.bits))))
  | op=>match zb5 k j with
   | some _=>match op with
    | .add=>some (true,.int k (k.wrap (x+y)))
    | .sub=>some (true,.int k (k.wrap (x-y)))
    | .mul=>some (true,.int k (k.wrap (x*y)))
    | .quo=>some (y !=0,.int k (k.wrap (x.tdiv y)))
    | .rem=>some (y !=0,.int k (x.tmod y))
    | .eql=>some (true,.bool (x==y))
    | .neq=>some (true,.bool (x !=y))
    | .lss=>some (true,.bool (x<y))
    | .leq=>some (true,.bool (x≤y))
    | .gtr=>some (true,.bool (x>y))
    | .geq=>some (true,.bool (x ≥ y))
    | op=>match zgF op k x y with
     | some z=>some (true,.int k z)
     | none=>none
   | none=>none
 | .bool x,.bool y=>match op with
  | .eql=>some (true,.bool (x==y))
  | .neq=>some (true,.bool (!(x==y)))
  | _=>none
 | _,_=>none
theorem zaS {h:za} {b o N:Nat} {vs:List Value} (e:zh h b o N=some vs) {off n:Nat} (hn:off+n≤N) :
  zh h b (o+off) n=some ((vs.drop off).take n):=by
 have hl:=zaA e;have hl2:((vs.drop off).take n).length=n:=by simp; omega
 have:=zap (h:=h) (b:=b) ((vs.drop off).take n) (o+off) (fun j hj=>by
  rw[hl2]at hj;rw[List.getElem?_take,if_pos (by omega),List.getElem?_drop,zab e (off+j) (by omega)]
  congr 1; omega)
 rw[hl2]at this; exact this
theorem RdLs.drop {h:za} {Z:Nat→Prop}: ∀(n:Nat) {ds:List LD} {vs:List Value},RdLs h Z ds vs→RdLs h Z (ds.drop n) (vs.drop n)
 | 0,_,_,e=>e
 | n+1,[],[],e=>e
 | n+1,_::ds,_::vs,e=>RdLs.drop n e.2
theorem RdLs.take {h:za} {Z:Nat→Prop}: ∀(n:Nat) {ds:List LD} {vs:List Value},RdLs h Z ds vs→RdLs h Z (ds.take n) (vs.take n)
 | 0,_,_,_=>trivial
 | n+1,[],[],e=>e
 | n+1,_::ds,_::vs,e=>⟨e.1,RdLs.take n e.2⟩
theorem CRels.drop {s:Sh} {g:Gh} {h:za}: ∀(n:Nat) {ds:List C} {vs:List Value},CRels s g h ds vs→CRels s g h (ds.drop n) (vs.drop n)
 | 0,_,_,e=>e
 | n+1,[],[],e=>e
 | n+1,_::ds,_::vs,e=>CRels.drop n e.2
theorem CRels.take {s:Sh} {g:Gh} {h:za}: ∀(n:Nat) {ds:List C} {vs:List Value},CRels s g h ds vs→CRels s g h (ds.take n) (vs.take n)
 | 0,_,_,_=>trivial
 | n+1,[],[],e=>e
 | n+1,_::ds,_::vs,e=>⟨e.1,CRels.take n e.2⟩
theorem CRels.len {s:Sh} {g:Gh} {h:za}: ∀{ds:List C} {vs:List Value},CRels s g h ds vs→vs.length=ds.length
 | [],[],_=>rfl
 | _::ds,_::vs,e=>by simp[CRels.len e.2]
theorem CRels.append {s:Sh} {g:Gh} {h:za}: ∀{a b:List C} {c d:List Value},CRels s g h a c→CRels s g h b d→CRels s g h (a++b) (c++d)
 | [],_,[],_,_,h2=>h2
 | _::a,b,_::c,d,h1,h2=>⟨h1.1,CRels.append h1.2 h2⟩
theorem CRels.cells {s:Sh} {g:Gh} {h:za}: ∀{cs:List C} {vs:List Value},CRels s g h cs vs→ ∀v∈vs,zR v
 | [],[],_,v,hv=>by simp at hv
 | _::cs,_::vs,e,v,hv=>(List.mem_cons.1 hv).elim (fun h=>h ▸ e.1.cell) (fun h=>CRels.cells e.2 v h)
theorem CRels.get {s:Sh} {g:Gh} {h:za}: ∀{cs:List C} {vs:List Value},CRels s g h cs vs→ ∀{j:Nat} {c:C},cs[j]? =some c→ ∃v,vs[j]? =some v∧CRel s g h c v
 | _::cs,v::vs,e,0,c,hc=>by simp at hc; subst hc; exact⟨v,rfl,e.1⟩
 | _::cs,_::vs,e,j+1,c,hc=>by simpa using CRels.get e.2 (j:=j) (by simpa using hc)
theorem OwnLs.drop {h:za} {Z:Nat→Prop}: ∀(n:Nat) {ds:List LD} {as:List Ann} {vs:List Value} {fs:List (List Nat)},OwnLs h Z ds as vs fs →
  OwnLs h Z (ds.drop n) (as.drop n) (vs.drop n) (fs.drop n)
 | 0,_,_,_,_,e=>e
 | n+1,[],[],[],[],e=>e
 | n+1,_::_,_::_,_::_,_::_,e=>OwnLs.drop n e.2
theorem OwnLs.take {h:za} {Z:Nat→Prop}: ∀(n:Nat) {ds:List LD} {as:List Ann} {vs:List Value} {fs:List (List Nat)},OwnLs h Z ds as vs fs →
  OwnLs h Z (ds.take n) (as.take n) (vs.take n) (fs.take n)
 | 0,_,_,_,_,e=>trivial
 | n+1,[],[],[],[],e=>e
 | n+1,_::_,_::_,_::_,_::_,e=>⟨e.1,OwnLs.take n e.2⟩
theorem zh9 {k:IntKind} {n:Int} (h:zdO k n=true):zaw k n:=by
 unfold zdO at h;simp at h; exact h
theorem zf0 {s:Sh} {g:Gh} {h:za} {v:Value} {c:C} (e:zeN v=some c):CRel s g h c v∧c.refs= []:=by
 unfold zeN at e;split at e
 ·rename_i k n
  cases hf:zdO k n with
  | true=>rw[hf]at e; simp at e; subst e; exact⟨⟨rfl,zh9 hf⟩,rfl⟩
  | false=>rw[hf]at e; simp at e
 ·simp at e; subst e; exact⟨rfl,rfl⟩
 ·simp at e; subst e; exact⟨rfl,rfl⟩
 ·simp at e
theorem zfi {s:Sh} {g:Gh} {h:za}: ∀{vs:List Value} {cs:List C},zeV vs=some cs→CRels s g h cs vs∧ ∀c∈cs,c.refs= []
 | [],cs,e=>by simp[zeV]at e; subst e; exact⟨trivial,by simp⟩
 | v::vs,cs,e=>by
  simp only[zeV]at e;split at e
  ·rename_i c cs' h1 h2
   simp at e; subst e;obtain⟨e1,r1⟩:=zf0 (s:=s) (g:=g) (h:=h) h1;obtain⟨e2,r2⟩:=zfi (s:=s) (g:=g) (h:=h) h2;exact⟨⟨e1,e2⟩,fun x hx=>(List.mem_cons.1 hx).elim (fun hh=>hh ▸ r1) (r2 x)⟩
  ·simp at e
theorem ziV {s:Sh} {g:Gh} {h:za} (v:Value):VRel s g h (zhF v) v∧(zhF v).refs= []:=by
 have one: ∀v:Value,VRel s g h (ziL (zeN v)) v∧(ziL (zeN v)).refs= []:=by
  intro v;cases hc:zeN v with
  | some c=>exact zf0 hc
  | none=>exact⟨trivial,rfl⟩
 have key: ∀v:Value,(∀cs,v≠ .agg cs)→zhF v=ziL (zeN v):=by
  intro v hv
  cases v<;>first
   | rfl
   | exact absurd rfl (hv _)
 by_cases hv: ∃cs,v= .agg cs
 ·obtain⟨cs,rfl⟩:=hv
  simp only[zhF];cases hc:zeV cs.toList with
  | some xs =>
   obtain⟨h1,h2⟩:=zfi (s:=s) (g:=g) (h:=h) hc;refine⟨⟨cs.toList,by simp,h1⟩,?_⟩;simp only[V.refs];rw[List.flatMap_eq_nil_iff]; exact h2
  | none=>exact⟨trivial,rfl⟩
 ·rw[key v (fun cs e=>hv ⟨cs,e⟩)]; exact one v
section
variable {n0:Nat} {M:Nat→Prop} {h0:Home} {s:St} {g:Gh} {X:List Nat} {a:Act} {w:World}
theorem zf (r:Rel n0 M h0 s g X a w) (x:Operand):VRel s.sh g (hp w) (ze s x) (a.eval x)∧ ∀k∈(ze s x).refs,s.used k=true:=by
 cases x with
 | tmp t =>
  simp only[ze,Act.eval];cases hb:Nat.blt t s.nt with
  | true =>
   have hlt:t<s.nt:=by simpa [Nat.blt_eq]using hb
   have hlt2:t<a.tmps.size:=by rw[r.sz]; exact hlt
   refine⟨?_,fun k hk=>r.ut t k hk⟩;have:=r.tm t a.tmps[t] (by simp[hlt2]);simpa [Array.getD,hlt2]using this
  | false=>exact⟨trivial,by simp[V.refs]⟩
 | const v =>
  obtain⟨h1,h2⟩:=ziV (s:=s.sh) (g:=g) (h:=hp w) v;exact⟨h1,by simp only[ze]; rw[h2]; simp⟩
 | func f=>exact⟨⟨trivial,[],rfl,rfl,by simp⟩,by simp[ze,V.refs,C.refs]⟩
 | global _=>exact⟨trivial,by simp[ze,V.refs]⟩
theorem zb2 {sh:Sh} {h:za} {v:V} {u:Value} {cs:List C} (e:zas v=some cs) (hv:VRel sh g h v u) :
  CRels sh g h cs u.cells.toList∧(∀c∈cs,∀k∈c.refs,k∈v.refs):=by
 cases v with
 | c x =>
  simp[zas]at e; subst e;have hc:=CRel.cell hv;refine⟨?_,fun c hc k hk=>by simp at hc; subst hc; exact hk⟩
  cases u<;>first
   | exact⟨hv,trivial⟩
   | exact hc.elim
 | agg xs =>
  simp[zas]at e; subst e;obtain⟨vs,rfl,hv⟩:=hv;exact⟨by simpa [Value.cells]using hv,fun c hc k hk=>List.mem_flatMap.2 ⟨c,hc,hk⟩⟩
 | tup _=>simp[zas]at e
 | junk=>simp[zas]at e
theorem zbP {sh:Sh} {h:za} {ag:Bool} {cs:List C} {vs:List Value} (hv:CRels sh g h cs vs) :
  VRel sh g h (zv ag cs) (bif ag then .agg vs.toArray else vs.headD undef)∧ ∀k∈(zv ag cs).refs,∃c∈cs,k∈c.refs:=by
 unfold zv;cases ag with
 | true=>exact⟨⟨vs,rfl,hv⟩,fun k hk=>by simpa [V.refs,List.mem_flatMap]using hk⟩
 | false =>
  match cs,vs,hv with
  | [c],[v],hv=>exact⟨hv.1,fun k hk=>⟨c,by simp,hk⟩⟩
  | [],_,_=>exact⟨trivial,by simp[V.refs]⟩
  | _::_::_,_,_=>exact⟨trivial,by simp[V.refs]⟩
def Now (g:Gh) (sh:Sh) (b:Nat):Prop:=g.Z b∨g.R b∨ ∃k e,sh.regs k=some e∧b∈g.fp k
theorem zbM {h:za} {Z:Nat→Prop} {t:Ty}:Rd h Z (.sl t) [] [.slice none 0 0] :=
 ⟨none,0,rfl,by simp,by simp,.inl rfl⟩
theorem Rd.sub {h:za} {Z:Nat→Prop} {t:Ty} {l:List t.D} {v:Value} (e:Rd h Z (.sl t) l [v]) {lo hi:Nat} (h1:lo≤hi) (h2:hi≤l.length)
  {b o len cap c2:Nat} {a2:Option Addr} (hv:v= .slice (some ⟨b,o,none⟩) len cap) (hc:hi-lo≤c2) (ha:lo<hi→a2=some ⟨b,o+lo*t.size,none⟩) :
  Rd h Z (.sl t) ((l.drop lo).take (hi-lo)) [.slice a2 (hi-lo) c2]:=by
 obtain⟨a',cap',hv',hb,hcap,e⟩:=e;simp at hv'; subst hv';simp at hv; obtain⟨rfl,rfl,rfl⟩:=hv;have hlen:((l.drop lo).take (hi-lo)).length=hi-lo:=by simp; omega
 refine⟨a2,c2,by rw[hlen],?_,by rw[hlen]; exact hc,?_⟩
 ·rw[hlen]
  exact Nat.le_trans (Nat.mul_le_mul_right _ (by omega)) hb
 ·by_cases hlt:lo<hi
  ·rcases e with rfl | ⟨b',o',hbo,hZ,e⟩
   ·simp at h2; omega
   ·simp at hbo; obtain⟨rfl,rfl⟩:=hbo
    refine .inr ⟨b,o+lo*t.size,ha hlt,hZ,fun i x hx=> ?_⟩;rw[List.getElem?_take]at hx;split at hx
    ·rw[List.getElem?_drop]at hx
     obtain⟨vs,h3,h4⟩:=e (lo+i) x hx;refine⟨vs,?_,h4⟩;rw[← h3]; congr 1;rw[Nat.add_mul]; omega
    ·simp at hx
  ·left
   have:hi-lo=0:=by omega
   rw[this]; simp
theorem zhG {h:za} {Z:Nat→Prop} {t:Ty} {an:Ann} {l:List t.D} {hd:Value} {fp:List Nat} (ho:Own h Z (.sl t) (.ow an) l [hd] fp) {lo hi:Int} (h0:0≤lo) (h1:lo≤hi) (h2:hi≤l.length)
  {a:Option Addr} {len cap:Nat} {v:Value} (hh:hd= .slice a len cap) (hv:v= .slice (if cap=lo.toNat then a else a.map (·.add (lo.toNat*t.size))) (hi-lo).toNat (cap-lo.toNat)) :
  ∃(a':Option Addr) (c':Nat),v= .slice a' (hi-lo).toNat c'∧(hi-lo).toNat≤c' ∧
   ∀(b o len c:Nat),hd= .slice (some ⟨b,o,none⟩) len c→lo<hi→a'=some ⟨b,o+lo.toNat*t.size,none⟩:=by
 obtain⟨a0,cap0,hd0,_,hc,_⟩:=ho;simp at hd0;rw[hd0]at hh; simp at hh; obtain⟨rfl,rfl,rfl⟩:=hh;refine⟨_,_,hv,by omega,fun b o len c e hlt=> ?_⟩;rw[hd0]at e; simp at e; obtain⟨rfl,rfl,rfl⟩:=e;rw[if_neg (by omega)];simp[zaO]
theorem zjl (r:Rel n0 M h0 s g X a w) {t:Ty} {c:C} {d:LD} {v:Value} (e:rdC s.sh t c=some d) (hv:CRel s.sh g (hp w) c v) :
  RdL (hp w) (Now g s.sh) d v:=by
 cases c with
 | int k n=>simp[rdC]at e; subst e; obtain⟨rfl,hf⟩:=hv; exact⟨rfl,hf⟩
 | bool b=>simp[rdC]at e; subst e; simp only[CRel]at hv; subst hv; exact rfl
 | nil =>
  simp only[rdC]at e;split at e
  ·simp at e; subst e; simp only[CRel]at hv; subst hv; exact zbM
  ·simp at e
 | fz u l=>simp[rdC]at e; subst e; exact Rd.keep (fun _ _=>rfl) (fun b h=> .inl h) hv
 | br u l=>simp[rdC]at e; subst e; exact Rd.keep (fun _ _=>rfl) (fun b h=>h.elim .inl (fun h=> .inr (.inl h))) hv
 | «at» k =>
  simp only[rdC]at e;split at e
  ·rename_i en hen
   simp at e; subst e;have:=hv.2 en hen;subst this;exact Own.rd (fun b h=> .inl h) (fun b hb=> .inr (.inr ⟨k,en,hen,hb⟩)) (r.rg k en hen)
  ·simp at e
 | nd k ver p q =>
  simp only[rdC]at e;split at e
  ·rename_i en hen
   cases hb:Nat.beq en.ver ver with
   | true =>
    rw[hb]at e; simp at e; subst e;obtain⟨_,hat⟩:=hv.2 en hen;obtain⟨fq,hsub,ho⟩:=zcT (r.rg k en hen) (hat (Nat.eq_of_beq_eq_true hb));exact Own.rd (fun b h=> .inl h) (fun b hb=> .inr (.inr ⟨k,en,hen,hsub b hb⟩)) ho
   | false=>rw[hb]at e; simp at e
  ·simp at e
 | vw k ver lo hi =>
  simp only[rdC]at e;split at e
  ·rename_i en hen
   cases hb:Nat.beq en.ver ver with
   | true =>
    rw[hb]at e; simp at e; subst e;obtain⟨_,hat⟩:=hv.2 en hen;obtain⟨h1,h2,h3,aa,ll,cc,hh,hv'⟩:=hat (Nat.eq_of_beq_eq_true hb);obtain⟨a2,c2,rfl,hc2,ha⟩:=zhG (r.rg k en hen) h1 h2 h3 hh hv'
    have hrd:Rd (hp w) (Now g s.sh) (.sl en.pk.t) en.pk.l [g.hd k] :=
     Own.rd (fun b h=> .inl h) (fun b hb=> .inr (.inr ⟨k,en,hen,hb⟩)) (r.rg k en hen)
    have hn:(hi-lo).toNat=hi.toNat-lo.toNat:=by omega
    rw[hn]at hc2 ⊢;obtain⟨hdA,hcap,hhd,hbnd,hlc,hcase⟩:=id hrd;simp at hhd;rcases hcase with hnil | ⟨b,o,rfl,_,_⟩
    ·rw[hnil]at h3
     simp at h3;have hz:hi.toNat-lo.toNat=0:=by omega
     rw[hz];show Rd (hp w) (Now g s.sh) (.sl en.pk.t) (List.take 0 (List.drop lo.toNat en.pk.l)) _;rw[List.take_zero];exact⟨a2,c2,by simp,by simp,by simp,.inl rfl⟩
    ·exact Rd.sub hrd (by omega) (by omega) hhd hc2 (fun hlt=>ha b o _ _ hhd (by omega))
   | false=>rw[hb]at e; simp at e
  ·simp at e
 | ptr _ _=>simp[rdC]at e
 | ef _ _ _ _=>simp[rdC]at e
 | eo _ _ _ _ _ _=>simp[rdC]at e
 | fn _ _=>simp[rdC]at e
 | fx _ _ _=>simp[rdC]at e
 | junk=>simp[rdC]at e
theorem zfV (r:Rel n0 M h0 s g X a w): ∀{ts:List Ty} {cs:List C} {ds:List LD} {vs:List Value},zdj s.sh ts cs=some ds→CRels s.sh g (hp w) cs vs →
  RdLs (hp w) (Now g s.sh) ds vs
 | [],[],ds,[],e,hv=>by simp[zdj]at e; subst e; trivial
 | t::ts,c::cs,ds,v::vs,e,hv=>by
  simp only[zdj]at e;split at e
  ·rename_i d ds' h1 h2
   simp at e; subst e;exact⟨zjl r h1 hv.1,zfV r h2 hv.2⟩
  ·simp at e
 | [],_::_,_,_,e,_=>by simp[zdj]at e
 | _::_,[],_,_,e,_=>by simp[zdj]at e
theorem zgu (r:Rel n0 M h0 s g X a w) {t:Ty} {cs:List C} {x:t.D} {vs:List Value} (e:rdT s.sh t cs=some x) (hv:CRels s.sh g (hp w) cs vs) :
  Rd (hp w) (Now g s.sh) t x vs:=by
 unfold rdT at e;split at e
 ·rename_i ds h1
  split at e
  ·rename_i y h2
   simp at e; subst e;have:=zaD _ _ _ _ h2;simp at this; subst this;exact zbw.2 (zfV r h1 hv)
  ·simp at e
 ·simp at e
end
theorem zjQ (A B C:List Nat):List.Perm (A++B++C) (B++(A++C)):=by
 rw[List.perm_iff_count]; intro x; simp only[List.count_append]; omega
theorem zhP (fps:List (List Nat)) {lo hi:Nat} (h1:lo≤hi):fps.flatten.Perm (((fps.drop lo).take (hi-lo)).flatten++((fps.take lo).flatten++(fps.drop hi).flatten)):=by
 have e:fps=fps.take lo++((fps.drop lo).take (hi-lo)++fps.drop hi):=by
  conv=>lhs; rw[← List.take_append_drop lo fps,← List.take_append_drop (hi-lo) (fps.drop lo),List.drop_drop,show lo+(hi-lo)=hi by omega]
 have e2:fps.flatten=(fps.take lo).flatten++((fps.drop lo).take (hi-lo)).flatten++(fps.drop hi).flatten:=by
  conv=>lhs; rw[e]
  simp only[List.flatten_append,List.append_assoc]
 rw[e2];exact zjQ _ _ _
theorem zke {h:za} {Z:Nat→Prop} {t:Ty} {an:Ann} {l:List t.D} {ad:Option Addr} {len cap:Nat} {fp:List Nat} (ho:Own h Z (.sl t) (.ow an) l [.slice ad len cap] fp) {lo hi:Nat} (h1:lo≤hi) (h2:hi≤l.length) :
  ∃fq rest,fp.Perm (fq++rest)∧Own h Z (.sl t) (.ow an) ((l.drop lo).take (hi-lo)) [.slice (if cap=lo then ad else ad.map (·.add (lo*t.size))) (hi-lo) (cap-lo)] fq:=by
 have hlen:((l.drop lo).take (hi-lo)).length=hi-lo:=by simp; omega
 obtain⟨hd,cap',hv,hb,hc,e⟩:=ho;simp at hv; obtain⟨rfl,rfl,rfl⟩:=hv
 have hb':((l.drop lo).take (hi-lo)).length*t.bytes≤2^47:=by
  rw[hlen]; exact Nat.le_trans (Nat.mul_le_mul_right _ (by omega)) hb
 rcases e with⟨rfl,rfl,rfl,rfl⟩ | ⟨b,o,c,T,fps,rfl,hB,hcap,rfl,hlen2,e⟩
 ·simp at h2
  subst h2;have:lo=0:=by omega
  subst this;exact⟨[],[],.refl _,none,0,by simp,by simp,by simp,.inl ⟨by simp,rfl,rfl,rfl⟩⟩
 ·have p:=zhP fps h1
  refine⟨b::((fps.drop lo).take (hi-lo)).flatten,(fps.take lo).flatten++(fps.drop hi).flatten,by simpa using List.Perm.cons b p,_,_,by rw[hlen],hb',by rw[hlen]; omega,.inr ⟨b,(if cap=lo then o else o+lo*t.size),c,T,(fps.drop lo).take (hi-lo),?_,hB,?_,rfl,?_,fun i x hx=> ?_⟩⟩
  ·split<;>simp[zaO]
  ·split
   ·rename_i h; subst h; simp; exact Nat.le_trans (Nat.le_add_right _ _) hcap
   ·refine Nat.le_trans ?_ hcap
    rw[Nat.sub_mul];have:=Nat.mul_le_mul_right t.size (show lo≤cap by omega);omega
  ·simp; omega
  ·rw[List.getElem?_take]at hx
   split at hx
   ·rw[List.getElem?_drop]at hx
    obtain⟨vs,f,h3,h4,h5⟩:=e (lo+i) x hx;refine⟨vs,f,?_,?_,h5⟩
    ·rw[List.getElem?_take,if_pos (by assumption),List.getElem?_drop]; exact h3
    ·rw[if_neg (by omega),← h4]; congr 1
     rw[Nat.add_mul]; omega
   ·simp at hx
theorem zki: ∀{a b:Ann},wkB a b=true→wkB a.fst b.fst=true∧wkB a.snd b.snd=true
 | a,.fz,_=>by cases a<;>simp[Ann.fst,Ann.snd,wkB]
 | .ow _,.ow _,_=>by simp[Ann.fst,Ann.snd,wkB]
 | .pr a b,.pr c d,h=>by simpa [Ann.fst,Ann.snd,wkB]using h
 | .fz,.ow _,h=>by simp[wkB]at h
 | .fz,.pr _ _,h=>by simp[wkB]at h
 | .ow _,.pr _ _,h=>by simp[wkB]at h
 | .pr _ _,.ow _,h=>by simp[wkB]at h
theorem zgr {α:Type} (Q:Nat→α→List Nat→List Nat→List Nat→Prop): ∀(l:List α) (fps:List (List Nat)) (j:Nat),fps.length=l.length→(∀i x,l[i]? =some x→ ∃f q r,fps[i]? =some f∧f.Perm (q++r)∧Q (j+i) x f q r) →
  ∃qs rs:List (List Nat),qs.length=l.length∧rs.length=l.length∧fps.flatten.Perm (qs.flatten++rs.flatten)∧ ∀i x,l[i]? =some x→ ∃f q r,fps[i]? =some f∧qs[i]? =some q∧rs[i]? =some r∧Q (j+i) x f q r
 | [],fps,j,hl,_=>⟨[],[],rfl,rfl,by
   have:fps= []:=by simpa using hl
   subst this; simp,fun i x hx=>by simp at hx⟩
 | y::l,[],j,hl,_=>by simp at hl
 | y::l,f0::fps,j,hl,h=>by
  obtain⟨f,q,r,h1,h2,h3⟩:=h 0 y rfl;simp at h1; subst h1
  obtain⟨qs,rs,e1,e2,e3,e4⟩:=zgr Q l fps (j+1) (by simpa using hl) (fun i x hx=>by
   obtain⟨f,q,r,g1,g2,g3⟩:=h (i+1) x (by simpa using hx)
   exact⟨f,q,r,by simpa using g1,g2,by rw[show j+1+i=j+(i+1)by omega]; exact g3⟩)
  refine⟨q::qs,r::rs,by simp[e1],by simp[e2],?_,fun i x hx=> ?_⟩
  ·simp only[List.flatten_cons]
   rw[List.perm_iff_count]at h2 e3 ⊢;intro z;have a1:=h2 z;have a2:=e3 z;simp only[List.count_append]at a1 a2 ⊢;omega
  ·cases i with
   | zero=>simp at hx; subst hx; exact⟨f0,q,r,rfl,rfl,rfl,h3⟩
   | succ i =>
    obtain⟨f,q',r',g1,g2,g3,g4⟩:=e4 i x (by simpa using hx);exact⟨f,q',r',by simpa using g1,by simpa using g2,by simpa using g3,by rw[show j+(i+1)=j+1+i by omega]; exact g4⟩
theorem zeC {h:za} {Z:Nat→Prop}: ∀{t:Ty} {a b:Ann} {x:t.D} {cs:List Value} {fp:List Nat},wkB a b=true→Own h Z t a x cs fp →
  ∃fq rest,fp.Perm (fq++rest)∧Own h (fun i=>Z i∨i∈rest) t b x cs fq
 | .int _,_,_,_,_,_,_,e=>by obtain⟨h1,rfl⟩:=e; exact⟨[],[],.refl _,Rd.keep (fun _ _=>rfl) (fun _ h=> .inl h) h1,rfl⟩
 | .bool,_,_,_,_,_,_,e=>by obtain⟨h1,rfl⟩:=e; exact⟨[],[],.refl _,Rd.keep (fun _ _=>rfl) (fun _ h=> .inl h) h1,rfl⟩
 | .st _ t,a,b,_,_,_,hw,e=>zeC (t:=t) (a:=a) (b:=b) hw e
 | .pr t u,a,b,x,_,_,hw,e=>by
  obtain⟨c1,c2,f1,f2,rfl,rfl,h1,h2⟩:=e;obtain⟨w1,w2⟩:=zki hw;obtain⟨q1,r1,p1,o1⟩:=zeC (t:=t) w1 h1;obtain⟨q2,r2,p2,o2⟩:=zeC (t:=u) w2 h2;refine⟨q1++q2,r1++r2,?_,c1,c2,q1,q2,rfl,rfl,Own.keep (fun _ _=>rfl) (fun i hi=>hi.imp id (fun h=>List.mem_append.2 (.inl h))) (fun _ _=>rfl) o1,Own.keep (fun _ _=>rfl) (fun i hi=>hi.imp id (fun h=>List.mem_append.2 (.inr h))) (fun _ _=>rfl) o2⟩;rw[List.perm_iff_count]at p1 p2 ⊢;intro z;have a1:=p1 z;have a2:=p2 z;simp only[List.count_append]at a1 a2 ⊢;omega
 | .sl t,a,b,l,cs,fp,hw,e=>by
  have toRd:(∀b',b≠ .ow b')→ ∃fq rest,fp.Perm (fq++rest)∧Own h (fun i=>Z i∨i∈rest) (.sl t) b l cs fq:=by
   intro hb;have:=Own.rd (Z':=fun i=>Z i∨i∈fp) (fun _ h=> .inl h) (fun _ h=> .inr h) e;refine⟨[],fp,.refl _,?_⟩;cases b with
   | ow b'=>exact absurd rfl (hb b')
   | fz=>exact⟨this,rfl⟩
   | pr _ _=>exact⟨this,rfl⟩
  cases b with
  | fz=>exact toRd (by simp)
  | pr _ _=>exact toRd (by simp)
  | ow b' =>
   cases a with
   | fz=>simp[wkB]at hw
   | pr _ _=>simp[wkB]at hw
   | ow a' =>
    obtain⟨hd,cap,rfl,hb,hc,e⟩:=e;rcases e with⟨rfl,rfl,rfl,rfl⟩ | ⟨b,o,c,T,fps,rfl,hB,hcap,rfl,hlen,e⟩
    ·exact⟨[],[],.refl _,none,0,rfl,by simp,by simp,.inl ⟨rfl,rfl,rfl,rfl⟩⟩
    ·obtain⟨qs,rs,e1,e2,e3,e4⟩:=zgr (fun i x f q r=> ∃vs,zh h b (o+i*t.size) t.size=some vs∧Own h (fun i=>Z i∨i∈r) t b' x vs q) l fps 0 hlen (fun i x hx=>by
      obtain⟨vs,f,h1,h2,h3⟩:=e i x hx;obtain⟨q,r,h4,h5⟩:=zeC (t:=t) (a:=a') (b:=b') hw h3
      exact⟨f,q,r,h1,h4,vs,by simpa using h2,h5⟩)
     refine⟨b::qs.flatten,rs.flatten,by simpa using List.Perm.cons b e3,some ⟨b,o,none⟩,cap,rfl,hb,hc,.inr ⟨b,o,c,T,qs,rfl,hB,hcap,rfl,by rw[e1],fun i x hx=> ?_⟩⟩;obtain⟨f,q,r,h1,h2,h3,vs,h4,h5⟩:=e4 i x hx;exact⟨vs,q,h2,by simpa using h4,Own.keep (fun _ _=>rfl) (fun i hi=>hi.imp id (fun hh=>List.mem_flatten.2 ⟨r,List.mem_of_getElem? h3,hh⟩)) (fun _ _=>rfl) h5⟩
section
variable {n0:Nat} {M:Nat→Prop} {h0:Home} {s:St} {g:Gh} {X:List Nat} {a:Act} {w:World}
theorem zgb {sh sh':Sh} {an:Ann} {t:Ty} {c:C} {d:LD} (e:mvC sh an t c=some (d,sh')) :
  sh'.boxes=sh.boxes∧ ∀k e,sh'.regs k=some e→sh.regs k=some e:=by
 have triv:sh'=sh→sh'.boxes=sh.boxes∧ ∀k e,sh'.regs k=some e→sh.regs k=some e:=by rintro rfl; exact⟨rfl,fun _ _ h=>h⟩
 have dr: ∀k,sh'={ sh with regs:=zg sh.regs k none }→sh'.boxes=sh.boxes∧ ∀k e,sh'.regs k=some e→sh.regs k=some e:=by
  rintro k rfl
  refine⟨rfl,fun j e he=> ?_⟩;change zg sh.regs k none j=some e at he;rw[zJ]at he;split at he
  ·simp at he
  ·exact he
 cases c with
 | int k n=>simp[mvC]at e; exact triv e.2.symm
 | bool b=>simp[mvC]at e; exact triv e.2.symm
 | nil=>simp only[mvC]at e; split at e<;>simp at e; exact triv e.2.symm
 | fz u l=>simp only[mvC]at e; split at e<;>simp at e; exact triv e.2.symm
 | «at» k =>
  simp only[mvC]at e;split at e
  ·split at e
   ·rename_i en _ _ a'
    cases hb:wkB en.pk.a a' with
    | true=>rw[hb]at e; simp at e; exact dr k e.2.symm
    | false=>rw[hb]at e; simp at e
   ·simp at e; exact dr k e.2.symm
  ·simp at e
 | vw k ver lo hi =>
  simp only[mvC]at e;split at e
  ·rename_i en _
   cases hb0:Nat.beq en.ver ver with
   | false=>rw[hb0]at e; simp at e
   | true =>
    rw[hb0]at e; simp only[cond_true]at e;split at e
    ·rename_i a'
     cases hb:wkB en.pk.a a' with
     | true=>rw[hb]at e; simp at e; exact dr k e.2.symm
     | false=>rw[hb]at e; simp at e
    ·simp at e; exact dr k e.2.symm
  ·simp at e
 | br _ _=>simp[mvC]at e
 | nd _ _ _ _=>simp[mvC]at e
 | ptr _ _=>simp[mvC]at e
 | ef _ _ _ _=>simp[mvC]at e
 | eo _ _ _ _ _ _=>simp[mvC]at e
 | fn _ _=>simp[mvC]at e
 | fx _ _ _=>simp[mvC]at e
 | junk=>simp[mvC]at e
theorem zaB {sh sh':Sh} {Z':Nat→Prop} {h:za} (hb:sh'.boxes=sh.boxes) (hr: ∀k e,sh'.regs k=some e→sh.regs k=some e) (k:Nat) :
  KeyOk sh sh' g { g with Z:=Z' } h h k :=
 ⟨fun c' hc=>⟨⟨c',by rw[← hb]; exact hc⟩,rfl⟩,fun e' he=>⟨e',hr k e' he,rfl,Nat.le_refl _,fun _=>⟨rfl,fun _ _=>rfl⟩⟩⟩
theorem zbK {Z':Nat→Prop} {h:za} (hz: ∀b,g.Z b→Z' b):Over g { g with Z:=Z' } h h:=⟨hz,fun _ h=>h,fun _ _=>rfl,fun _ _=>rfl⟩
theorem zc8 {h:za} {Z:Nat→Prop} {t:Ty} {an:Ann} {l:List t.D} {v:Value} (hn: ∀a',an≠ .ow a') (e:Rd h Z (.sl t) l [v]):Own h Z (.sl t) an l [v] []:=by
 cases an with
 | ow a'=>exact absurd rfl (hn a')
 | fz=>exact⟨e,rfl⟩
 | pr _ _=>exact⟨e,rfl⟩
theorem Rel.dropWk (r:Rel n0 M h0 s g X a w) {k:Nat} {en:Entry} (hen:s.sh.regs k=some en) {an:Ann} (hw:wkB en.pk.a an=true) {l':List en.pk.t.D} {v:Value} {fq rest:List Nat}
  (hp':(g.fp k).Perm (fq++rest)) (ho:Own (hp w) g.Z (.sl en.pk.t) (.ow en.pk.a) l' [v] fq) :
  ∃Z' f X',(∀b,g.Z b→Z' b)∧Rel n0 M h0 { s with sh:={ s.sh with regs:=zg s.sh.regs k none } } { g with Z:=Z' } X' a w∧X'.Perm (f++X)∧Own (hp w) Z' (.sl en.pk.t) (.ow an) l' [v] f:=by
 obtain⟨f,r2,p2,o2⟩:=zeC (t:= .sl en.pk.t) (a:= .ow en.pk.a) (b:= .ow an) (show wkB en.pk.a an=true from hw) ho;have r1:=r.drop hen
 have r3:=r1.freeze (fp:=r2) (X':=f++(rest++X)) (by
  rw[List.perm_iff_count]at hp' p2 ⊢;intro z;have a1:=hp' z;have a2:=p2 z;simp only[List.count_append]at a1 a2 ⊢
  omega)
 have r4:=r3.dropExt (fp:=rest) (X':=f++X) (by
  rw[List.perm_iff_count];intro z;simp only[List.count_append]
  omega)
 exact⟨_,f,f++X,fun _ h=> .inl h,r4,.refl _,o2⟩
theorem zex (r:Rel n0 M h0 s g X a w) {an:Ann} {t:Ty} {c:C} {d:LD} {sh':Sh} {v:Value} (e:mvC s.sh an t c=some (d,sh')) (hv:CRel s.sh g (hp w) c v) :
  ∃Z' f X',(∀b,g.Z b→Z' b)∧Rel n0 M h0 { s with sh:=sh' } { g with Z:=Z' } X' a w∧X'.Perm (f++X)∧OwnL (hp w) Z' d an v f:=by
 cases c with
 | int k n=>simp[mvC]at e; obtain⟨rfl,rfl⟩:=e; exact⟨g.Z,[],X,fun _ h=>h,r,.refl _,⟨by obtain⟨rfl,hf⟩:=hv; exact⟨rfl,hf⟩,rfl⟩⟩
 | bool b=>simp[mvC]at e; obtain⟨rfl,rfl⟩:=e; exact⟨g.Z,[],X,fun _ h=>h,r,.refl _,⟨by simp only[CRel]at hv; subst hv; rfl,rfl⟩⟩
 | nil =>
  simp only[mvC]at e;split at e
  ·simp at e; obtain⟨rfl,rfl⟩:=e
   simp only[CRel]at hv; subst hv;refine⟨g.Z,[],X,fun _ h=>h,r,.refl _,?_⟩;cases an with
   | ow a'=>exact⟨none,0,rfl,by simp,by simp,.inl ⟨rfl,rfl,rfl,rfl⟩⟩
   | fz=>exact⟨zbM,rfl⟩
   | pr _ _=>exact⟨zbM,rfl⟩
  ·simp at e
 | fz u l =>
  simp only[mvC]at e;split at e
  ·simp at e
  ·rename_i hn
   simp at e; obtain⟨rfl,rfl⟩:=e;exact⟨g.Z,[],X,fun _ h=>h,r,.refl _,zc8 (fun a' h=>hn a' h) hv⟩
 | «at» k =>
  simp only[mvC]at e;split at e
  ·rename_i en hen
   have hv2:=hv.2 en hen;subst hv2;have r':=r.drop hen;split at e
   ·rename_i a'
    cases hb:wkB en.pk.a a' with
    | true =>
     rw[hb]at e; simp at e; obtain⟨rfl,rfl⟩:=e;exact r.dropWk hen hb (fq:=g.fp k) (rest:= []) (by simp) (r.rg k en hen)
    | false=>rw[hb]at e; simp at e
   ·rename_i hn
    simp at e; obtain⟨rfl,rfl⟩:=e;refine⟨fun b=>g.Z b∨b∈g.fp k,[],X,fun _ h=> .inl h,r'.freeze (.refl _),.refl _,zc8 (fun a' h=>hn a' h) ?_⟩;exact Own.rd (fun b h=> .inl h) (fun b hb=> .inr hb) (r.rg k en hen)
  ·simp at e
 | vw k ver lo hi =>
  simp only[mvC]at e;split at e
  ·rename_i en hen
   cases hb0:Nat.beq en.ver ver with
   | false=>rw[hb0]at e; simp at e
   | true =>
    rw[hb0]at e; simp only[cond_true]at e;obtain⟨h1,h2,h3,ad,len,cap,hh,rfl⟩:=(hv.2 en hen).2 (Nat.eq_of_beq_eq_true hb0);have ho:=r.rg k en hen;rw[hh]at ho;obtain⟨fq,rest,p1,o1⟩:=zke ho (lo:=lo.toNat) (hi:=hi.toNat) (by omega) (by omega);have hn:hi.toNat-lo.toNat=(hi-lo).toNat:=by omega
    rw[hn]at o1;split at e
    ·rename_i a'
     cases hb:wkB en.pk.a a' with
     | true =>
      rw[hb]at e; simp only[cond_true,Option.some.injEq,Prod.mk.injEq]at e; obtain⟨rfl,rfl⟩:=e;exact r.dropWk hen hb p1 o1
     | false=>rw[hb]at e; simp at e
    ·rename_i hnn
     simp only[Option.some.injEq,Prod.mk.injEq]at e; obtain⟨rfl,rfl⟩:=e;refine⟨fun b=>g.Z b∨b∈g.fp k,[],X,fun _ h=> .inl h,(r.drop hen).freeze (.refl _),.refl _,zc8 (fun a' h=>hnn a' h) ?_⟩;exact Own.rd (fun b h=> .inl h) (fun b hb=> .inr (p1.mem_iff.2 (List.mem_append.2 (.inl hb)))) o1
  ·simp at e
 | br _ _=>simp[mvC]at e
 | nd _ _ _ _=>simp[mvC]at e
 | ptr _ _=>simp[mvC]at e
 | ef _ _ _ _=>simp[mvC]at e
 | eo _ _ _ _ _ _=>simp[mvC]at e
 | fn _ _=>simp[mvC]at e
 | fx _ _ _=>simp[mvC]at e
 | junk=>simp[mvC]at e
theorem OwnL.keep {h h':za} {Z Z':Nat→Prop} (hk: ∀b,Z b→h' b=h b) (hz: ∀b,Z b→Z' b) {d:LD} {an:Ann} {v:Value} {f:List Nat}
  (hf: ∀b∈f,h' b=h b) (e:OwnL h Z d an v f):OwnL h' Z' d an v f:=by
 cases d with
 | int k n=>exact Own.keep hk hz hf e
 | bool b=>exact Own.keep hk hz hf e
 | sl t l=>exact Own.keep hk hz hf e
theorem OwnLs.keep {h h':za} {Z Z':Nat→Prop} (hk: ∀b,Z b→h' b=h b) (hz: ∀b,Z b→Z' b): ∀{ds:List LD} {as:List Ann} {vs:List Value} {fs:List (List Nat)},
  (∀b∈fs.flatten,h' b=h b)→OwnLs h Z ds as vs fs→OwnLs h' Z' ds as vs fs
 | [],[],[],[],_,_=>trivial
 | _::_,_::_,_::_,_::_,hf,e=>⟨OwnL.keep hk hz (fun b hb=>hf b (by simp[hb])) e.1,OwnLs.keep hk hz (fun b hb=>hf b (by simp only[List.flatten_cons,List.mem_append]; exact .inr hb)) e.2⟩
theorem zfs: ∀{as:List Ann} {ts:List Ty} {cs:List C} {sh sh':Sh} {ds:List LD},zaF sh as ts cs=some (ds,sh') →
  sh'.boxes=sh.boxes∧ ∀k e,sh'.regs k=some e→sh.regs k=some e
 | [],[],[],sh,sh',ds,e=>by simp[zaF]at e; obtain⟨_,rfl⟩:=e; exact⟨rfl,fun _ _ h=>h⟩
 | an::as,t::ts,c::cs,sh,sh',ds,e=>by
  simp only[zaF]at e;split at e
  ·rename_i d sh1 h1
   split at e
   ·rename_i ds2 sh2 h2
    simp at e; obtain⟨rfl,rfl⟩:=e;obtain⟨b1,r1⟩:=zgb h1;obtain⟨b2,r2⟩:=zfs h2;exact⟨b2.trans b1,fun k e he=>r1 k e (r2 k e he)⟩
   ·simp at e
  ·simp at e
 | [],_::_,_,_,_,_,e=>by simp[zaF]at e
 | [],[],_::_,_,_,_,e=>by simp[zaF]at e
 | _::_,[],_,_,_,_,e=>by simp[zaF]at e
 | _::_,_::_,[],_,_,_,e=>by simp[zaF]at e
theorem zdU: ∀{as:List Ann} {ts:List Ty} {cs:List C} {s:St} {g:Gh} {X:List Nat} {sh':Sh} {ds:List LD} {vs:List Value},
  Rel n0 M h0 s g X a w→zaF s.sh as ts cs=some (ds,sh')→CRels s.sh g (hp w) cs vs →
  ∃Z' fs X',(∀b,g.Z b→Z' b)∧Rel n0 M h0 { s with sh:=sh' } { g with Z:=Z' } X' a w∧X'.Perm (fs.flatten++X)∧OwnLs (hp w) Z' ds as vs fs
 | [],[],[],s,g,X,sh',ds,[],r,e,hv=>by
  simp[zaF]at e; obtain⟨rfl,rfl⟩:=e;exact⟨g.Z,[],X,fun _ h=>h,r,.refl _,trivial⟩
 | an::as,t::ts,c::cs,s,g,X,sh',ds,v::vs,r,e,hv=>by
  simp only[zaF]at e;split at e
  ·rename_i d sh1 h1
   split at e
   ·rename_i ds2 sh2 h2
    simp at e; obtain⟨rfl,rfl⟩:=e;obtain⟨Z1,f,X1,hz1,r1,p1,o1⟩:=zex r h1 hv.1;obtain⟨hb,hr⟩:=zgb h1;have hv2:CRels sh1 { g with Z:=Z1 } (hp w) cs vs:=CRels.over (zbK hz1) r.rg (fun c _ k _=>zaB hb hr k) hv.2;obtain⟨Z2,fs,X2,hz2,r2,p2,o2⟩:=zdU r1 h2 hv2;refine⟨Z2,f::fs,X2,fun b h=>hz2 b (hz1 b h),r2,?_,OwnL.keep (fun _ _=>rfl) hz2 (fun _ _=>rfl) o1,o2⟩;refine p2.trans ?_;simp only[List.flatten_cons];refine(List.Perm.append_left _ p1).trans ?_;rw[← List.append_assoc];exact List.Perm.append_right _ List.perm_append_comm
   ·simp at e
  ·simp at e
 | [],_::_,_,_,_,_,_,_,_,_,e,_=>by simp[zaF]at e
 | [],[],_::_,_,_,_,_,_,_,_,e,_=>by simp[zaF]at e
 | _::_,[],_,_,_,_,_,_,_,_,e,_=>by simp[zaF]at e
 | _::_,_::_,[],_,_,_,_,_,_,_,e,_=>by simp[zaF]at e
theorem zbr (r:Rel n0 M h0 s g X a w) {t:Ty} {an:Ann} {cs:List C} {x:t.D} {sh':Sh} {vs:List Value} (e:mvT s.sh t an cs=some (x,sh')) (hv:CRels s.sh g (hp w) cs vs) :
  ∃Z' f X',(∀b,g.Z b→Z' b)∧Rel n0 M h0 { s with sh:=sh' } { g with Z:=Z' } X' a w∧X'.Perm (f++X)∧Own (hp w) Z' t an x vs f:=by
 unfold mvT at e;split at e
 ·rename_i ds sh1 h1
  split at e
  ·rename_i y h2
   simp at e; obtain⟨rfl,rfl⟩:=e;have:=zaD _ _ _ _ h2;simp at this; subst this;obtain⟨Z',fs,X',hz,r',hp',ho⟩:=zdU r h1 hv;exact⟨Z',fs.flatten,X',hz,r',hp',zE.2 ⟨fs,rfl,ho⟩⟩
  ·simp at e
 ·simp at e
theorem zbe {sh sh':Sh} {t:Ty} {an:Ann} {cs:List C} {x:t.D} (e:mvT sh t an cs=some (x,sh')) :
  sh'.boxes=sh.boxes∧ ∀k e,sh'.regs k=some e→sh.regs k=some e:=by
 unfold mvT at e;split at e
 ·rename_i ds sh1 h1
  split at e
  ·simp at e; obtain⟨_,rfl⟩:=e; exact zfs h1
  ·simp at e
 ·simp at e
theorem zjc {sh:Sh} {h:za} {z:Bool} {d:LD} {v:Value} (e:RdL h (fun b=>g.Z b∨(z=false∧g.R b)) d v):CRel sh g h (ldC z d) v∧(ldC z d).refs= []:=by
 cases d with
 | int k n=>obtain⟨e1,hf⟩:=e; simp at e1; subst e1; exact⟨⟨rfl,hf⟩,rfl⟩
 | bool b=>simp only[RdL,Rd]at e; simp at e; subst e; exact⟨rfl,rfl⟩
 | sl t l =>
  cases z with
  | true=>exact⟨Rd.keep (fun _ _=>rfl) (fun b hb=>hb.elim id (fun hh=>by simp at hh)) e,rfl⟩
  | false=>exact⟨Rd.keep (fun _ _=>rfl) (fun b hb=>hb.imp id (fun hh=>hh.2)) e,rfl⟩
theorem zdP {sh:Sh} {h:za} {z:Bool}: ∀{ds:List LD} {vs:List Value},RdLs h (fun b=>g.Z b∨(z=false∧g.R b)) ds vs →
  CRels sh g h (ds.map (ldC z)) vs∧ ∀c∈ds.map (ldC z),c.refs= []
 | [],[],_=>⟨trivial,by simp⟩
 | d::ds,v::vs,e=>by
  obtain⟨h1,r1⟩:=zjc (g:=g) (sh:=sh) e.1;obtain⟨h2,r2⟩:=zdP (sh:=sh) e.2;refine⟨⟨h1,h2⟩,fun c hc=> ?_⟩;simp only[List.map_cons,List.mem_cons]at hc;exact hc.elim (fun hh=>hh ▸ r1) (r2 c)
theorem At.append {h:za}: ∀{r1 r2:zcy} {p q q2:Pk} {v u u2:Value},At h p v r1 q u→At h q u r2 q2 u2→At h p v (r1++r2) q2 u2
 | [],_,_,_,_,_,_,_,e1,e2=>by obtain⟨rfl,rfl⟩:=e1; exact e2
 | (i,j)::r1,_,_,_,_,_,_,_,e1,e2=>by
  obtain⟨b,o,len,cap,p1,v1,h1,h2,h3,h4,h5,h6⟩:=e1;exact⟨b,o,len,cap,p1,v1,h1,h2,h3,h4,h5,At.append h6 e2⟩
theorem zgq {sh:Sh} {h:za} {k ver:Nat} {p:zcy} {i:Int} {en:Entry} {q:Pk} {b o len cap:Nat} (hen:sh.regs k=some en) (hver:en.ver=ver)
  (hat:At h en.pk (g.hd k) p q (.slice (some ⟨b,o,none⟩) len cap)) (h0:0≤i) (hi:i.toNat<q.l.length) :
  ∀(ds:List LD) (as:List Ann) (vs:List Value) (fs:List (List Nat)) (j:Nat),OwnLs h g.Z ds as vs fs →
   (∀m d,ds[m]? =some d→(q.t.flat (q.l.getD i.toNat q.t.dflt))[j+m]? =some d)→(∀m x,as[m]? =some x→(q.a.flat q.t)[j+m]? =some x) →
   (∀m v,vs[m]? =some v→zL h b (o+i.toNat*q.t.size+(j+m))=some v) →
   CRels sh g h (ldO k ver p i j ds as) vs∧ ∀c∈ldO k ver p i j ds as,∀x∈c.refs,x=k
 | [],[],[],[],j,_,_,_,_=>⟨trivial,by simp[ldO]⟩
 | d::ds,an::as,v::vs,f::fs,j,e,hd,ha,hc=>by
  obtain⟨e1,e2⟩:=e
  obtain⟨i2,r2⟩:=zgq hen hver hat h0 hi ds as vs fs (j+1) e2
   (fun m d hm=>by have:=hd (m+1) d (by simpa using hm); rwa[show j+(m+1)=j+1+m by omega]at this)
   (fun m x hm=>by have:=ha (m+1) x (by simpa using hm); rwa[show j+(m+1)=j+1+m by omega]at this)
   (fun m v hm=>by have:=hc (m+1) v (by simpa using hm); rwa[show j+(m+1)=j+1+m by omega]at this)
  have hd0:=hd 0 d rfl;have ha0:=ha 0 an rfl;have hc0:=hc 0 v rfl;simp only[Nat.add_zero]at hd0 ha0 hc0;cases d with
  | int k' n =>
   refine⟨⟨?_,i2⟩,?_⟩
   ·obtain⟨⟨e1,hf⟩,_⟩:=e1; simp at e1; subst e1; exact⟨rfl,hf⟩
   ·intro c hm x hx
    simp only[ldO,List.mem_cons]at hm;rcases hm with rfl | hm
    ·simp[C.refs]at hx
    ·exact r2 c hm x hx
  | bool b' =>
   refine⟨⟨?_,i2⟩,?_⟩
   ·obtain⟨e1,_⟩:=e1; simp only[Rd]at e1; simp at e1; exact e1
   ·intro c hm x hx
    simp only[ldO,List.mem_cons]at hm;rcases hm with rfl | hm
    ·simp[C.refs]at hx
    ·exact r2 c hm x hx
  | sl t l =>
   cases an with
   | ow a' =>
    refine⟨⟨⟨zca (Own.rd (Z':=fun b=>g.Z b∨b∈f) (fun b h=> .inl h) (fun b h=> .inr h) e1),fun e' he'=> ?_⟩,i2⟩,?_⟩
    ·rw[hen]at he'; simp at he'; subst he'
     refine⟨by omega,fun _=>At.append hat ?_⟩;refine⟨b,o,len,cap,⟨t,a',l⟩,v,rfl,h0,hi,?_,hc0,rfl,rfl⟩;unfold Pk.to;rw[hd0,ha0]
    ·intro c hm x hx
     simp only[ldO,List.mem_cons]at hm;rcases hm with rfl | hm
     ·simpa [C.refs]using hx
     ·exact r2 c hm x hx
   | fz =>
    refine⟨⟨e1.1,i2⟩,?_⟩;intro c hm x hx;simp only[ldO,List.mem_cons]at hm;rcases hm with rfl | hm
    ·simp[C.refs]at hx
    ·exact r2 c hm x hx
   | pr _ _ =>
    refine⟨⟨e1.1,i2⟩,?_⟩;intro c hm x hx;simp only[ldO,List.mem_cons]at hm;rcases hm with rfl | hm
    ·simp[C.refs]at hx
    ·exact r2 c hm x hx
theorem ze9 (r:Rel n0 M h0 s g X a w) {n:Nat} {c:C} {cs:List C} {v:Value} (e:zam s.sh n c=some cs) (hl:cs.length=n) (hn:0<n) (hv:CRel s.sh g (hp w) c v)
  (hu: ∀k∈c.refs,s.used k=true) :
  ∃b o vs,v= .pointer (some ⟨b,o,none⟩)∧zh (hp w) b o n=some vs∧CRels s.sh g (hp w) cs vs∧ ∀c∈cs,∀k∈c.refs,s.used k=true:=by
 cases c with
 | ptr k off =>
  simp only[zam]at e;split at e
  ·rename_i cs0 hk
   simp at e; subst e;obtain⟨c,T,hb,hcr⟩:=r.bx k cs0 hk;have hlen:=CRels.len hcr;have hle:off+n≤cs0.length:=by simp at hl; omega
   refine⟨g.bx k,off,(c.toList.drop off).take n,hv.2 _ hk,?_,CRels.take n (CRels.drop off hcr),?_⟩
   ·have hN:zh (hp w) (g.bx k) 0 c.toList.length=some c.toList:=by
     refine zap _ _ (fun j hj=> ?_);unfold zL;rw[hb];simp
    have:=zaS hN (off:=off) (n:=n) (by omega);simpa using this
   ·intro x hx k' hk'
    exact r.uc k cs0 hk x (List.mem_of_mem_drop (List.mem_of_mem_take hx)) k' hk'
  ·simp at e
 | ef z t x off =>
  simp only[zam]at e;simp only[Option.some.injEq]at e;subst e;obtain⟨_,b,o,vs,rfl,hZ,hcs,hr⟩:=hv;have hfl:=zbw.1 hr
  have hle:off+n≤t.size:=by
   have:=zao t x;simp at hl; omega
  obtain⟨h1,h2⟩:=zdP (g:=g) (sh:=s.sh) (RdLs.take n (RdLs.drop off hfl));exact⟨b,o+off,_,rfl,zaS hcs hle,h1,fun c hc k hk=>by rw[h2 c hc]at hk; simp at hk⟩
 | eo k ver p q i off =>
  simp only[zam]at e;split at e
  ·rename_i en hen
   cases hb:Nat.beq en.ver ver with
   | true =>
    rw[hb]at e;simp only[cond_true,Option.some.injEq]at e;subst e;have hver:=Nat.eq_of_beq_eq_true hb;obtain⟨_,hat⟩:=hv.2 en hen;obtain⟨b,o,len,cap,h0,hi,hat2,rfl⟩:=hat hver;obtain⟨fq,hsub,ho⟩:=zcT (r.rg k en hen) hat2;obtain⟨b',o',cap',c,T,fps,vs,f,hv',hB,hcap,hlc,rfl,hlen,hf,hcs,he⟩:=Own.elem ho hi;simp at hv'; obtain⟨⟨rfl,rfl⟩,rfl,rfl⟩:=hv';obtain⟨fs,rfl,he2⟩:=zE.1 he;have hsz:=zao q.t (q.l.getD i.toNat q.t.dflt);have hol:=OwnLs.take n (OwnLs.drop off he2)
    have hle:off+n≤q.t.size:=by
     have l1: ∀(ds:List LD) (as:List Ann) (j:Nat),(ldO k ver p i j ds as).length≤ds.length:=by
      intro ds
      induction ds with
      | nil=>intro as j; simp[ldO]
      | cons d ds ih =>
       intro as j;cases as with
       | nil=>cases d<;>simp[ldO]
       | cons x as =>
        have:=ih as (j+1);cases d<;>try (cases x)<;>simp[ldO]<;>omega
        all_goals (simp[ldO]; omega)
     have:=l1 (((q.t.flat (q.l.getD i.toNat q.t.dflt)).drop off).take n) (((q.a.flat q.t).drop off).take n) off;rw[hl,List.length_take,List.length_drop,hsz]at this; omega
    have hcs2:=zaS hcs (off:=off) (n:=n) hle
    obtain⟨h1,h2⟩:=zgq (g:=g) (sh:=s.sh) hen hver hat2 h0 hi _ _ _ _ off hol
     (fun m d hm=>by
      rw[List.getElem?_take]at hm;split at hm
      ·rw[List.getElem?_drop]at hm; exact hm
      ·cases hm)
     (fun m d hm=>by
      rw[List.getElem?_take]at hm;split at hm
      ·rw[List.getElem?_drop]at hm; exact hm
      ·cases hm)
     (fun m v hm=>by
      have hmn:m<n:=by
       have:=(List.getElem?_eq_some_iff.1 hm).1;simp at this; omega
      rw[← hm,zab hcs2 m hmn]; congr 1; omega)
    exact⟨b,o+i.toNat*q.t.size+off,_,rfl,hcs2,h1,fun c hc x hx=>by rw[h2 c hc x hx]; exact r.ur k en hen⟩
   | false=>rw[hb]at e; simp at e
  ·simp at e
 | int _ _=>simp[zam]at e
 | bool _=>simp[zam]at e
 | nil=>simp[zam]at e
 | fz _ _=>simp[zam]at e
 | br _ _=>simp[zam]at e
 | «at» _=>simp[zam]at e
 | vw _ _ _ _=>simp[zam]at e
 | nd _ _ _ _=>simp[zam]at e
 | fn _ _=>simp[zam]at e
 | fx _ _ _=>simp[zam]at e
 | junk=>simp[zam]at e
end
theorem zbO {fs:List (List Nat)} {i:Nat} {f:List Nat} (h:fs[i]? =some f):fs.flatten=(fs.take i).flatten++f++(fs.drop (i+1)).flatten:=by
 have hi:=(List.getElem?_eq_some_iff.1 h).1;have he:=(List.getElem?_eq_some_iff.1 h).2
 conv=>lhs; rw[← List.take_append_drop i fs,List.drop_eq_getElem_cons hi,he]
 simp
theorem zdg {fs:List (List Nat)} {i:Nat} {f:List Nat} (hi:i<fs.length):(fs.set i f).flatten=(fs.take i).flatten++f++(fs.drop (i+1)).flatten:=by
 have h:(fs.set i f)[i]? =some f:=by simp[hi]
 rw[zbO h];simp[List.take_set_of_le,List.drop_set]
theorem zfq {fs:List (List Nat)} {i j:Nat} {f:List Nat} (h:fs[j]? =some f) (hji:j<i) {b:Nat} (hb:b∈f):b∈(fs.take i).flatten:=by
 refine List.mem_flatten.2 ⟨f,?_,hb⟩;refine List.mem_of_getElem? (i:=j) ?_;rw[List.getElem?_take,if_pos hji]; exact h
theorem zfp {fs:List (List Nat)} {i j:Nat} {f:List Nat} (h:fs[j]? =some f) (hij:i≤j) {b:Nat} (hb:b∈f):b∈(fs.drop i).flatten:=by
 refine List.mem_flatten.2 ⟨f,?_,hb⟩;refine List.mem_of_getElem? (i:=j-i) ?_;rw[List.getElem?_drop,show i+(j-i)=j by omega]; exact h
theorem OwnLs.keepSet {h h':za} {Z Z2:Nat→Prop} (hz: ∀b,Z b→h' b=h b) (hzz: ∀b,Z b→Z2 b): ∀{ds:List LD} {as:List Ann} {vs:List Value} {fs:List (List Nat)} {j:Nat} {d:LD} {an:Ann} {v:Value} {f:List Nat},
  OwnLs h Z ds as vs fs→as[j]? =some an→vs[j]? =some v→OwnL h' Z2 d an v f→(∀b∈(fs.take j).flatten,h' b=h b)→(∀b∈(fs.drop (j+1)).flatten,h' b=h b) →
  OwnLs h' Z2 (ds.set j d) as vs (fs.set j f)
 | [],[],[],[],j,_,_,_,_,_,ha,_,_,_,_=>by simp at ha
 | _::_,_::_,_::_,_::_,0,d,an,v,f,e,ha,hv,o,_,h2=>by
  simp at ha hv; subst ha hv;exact⟨o,OwnLs.keep hz hzz (by simpa using h2) e.2⟩
 | _::_,_::_,_::_,_::_,j+1,d,an,v,f,e,ha,hv,o,h1,h2=>by
  refine⟨OwnL.keep hz hzz (fun b hb=>h1 b (by simp[hb])) e.1,?_⟩;exact OwnLs.keepSet hz hzz e.2 (by simpa using ha) (by simpa using hv) o (fun b hb=>h1 b (by simp only[List.take_succ_cons,List.flatten_cons,List.mem_append]; exact .inr hb)) (by simpa using h2)
theorem zeB {h h':za} {Z:Nat→Prop} {t:Ty} {a:Ann} {l:List t.D} {b o cap:Nat} {c':Array Value} {T:TypeId} {fps:List (List Nat)} {i:Nat} {x:t.D} {vs:List Value} {f:List Nat}
  (hbnd:l.length*t.bytes≤2^47) (hlc:l.length≤cap) (hB:h' b=some (.cells c' T (0,0))) (hcap:o+cap*t.size≤c'.size) (hlen:fps.length=l.length) (hi:i<l.length)
  (hold: ∀j y,j≠i→l[j]? =some y→ ∃us g,fps[j]? =some g∧zh h' b (o+j*t.size) t.size=some us∧Own h' Z t a y us g)
  (hnew:zh h' b (o+i*t.size) t.size=some vs) (ho:Own h' Z t a x vs f) :
  Own h' Z (.sl t) (.ow a) (l.set i x) [.slice (some ⟨b,o,none⟩) l.length cap] (b::(fps.set i f).flatten):=by
 refine⟨_,cap,by rw[List.length_set],by simpa using hbnd,by simpa using hlc,.inr ⟨b,o,c',T,fps.set i f,rfl,hB,hcap,rfl,by simpa using hlen,fun j y hj=> ?_⟩⟩;rw[List.getElem?_set]at hj;split at hj
 ·rename_i hij
  subst hij;simp at hj; subst hj;exact⟨vs,f,by rw[List.getElem?_set]; simp[hlen,hi],hnew,ho⟩
 ·rename_i hij
  obtain⟨us,g,h1,h2,h3⟩:=hold j y (Ne.symm hij) hj;exact⟨us,g,by rw[List.getElem?_set,if_neg hij]; exact h1,h2,h3⟩
theorem zgs {h:za} {Z:Nat→Prop} {t:Ty} {a:Ann} {l:List t.D} {b o len cap:Nat} {fp:List Nat}
  (e:Own h Z (.sl t) (.ow a) l [.slice (some ⟨b,o,none⟩) len cap] fp) :
  len=l.length∧l.length*t.bytes≤2^47∧l.length≤cap∧ ∃c T fps,h b=some (.cells c T (0,0))∧o+cap*t.size≤c.size∧fp=b::List.flatten fps∧fps.length=l.length ∧
   ∀i x,l[i]? =some x→ ∃vs f,fps[i]? =some f∧zh h b (o+i*t.size) t.size=some vs∧Own h Z t a x vs f:=by
 obtain⟨hd,cap',hv,hb,hc,e⟩:=e;simp at hv; obtain⟨rfl,rfl,rfl⟩:=hv;rcases e with⟨_,hn,_⟩ | ⟨b',o',c,T,fps,hbo,hB,hcap,rfl,hlen,e⟩
 ·simp at hn
 ·simp at hbo; obtain⟨rfl,rfl⟩:=hbo
  exact⟨rfl,hb,hc,c,T,fps,hB,hcap,rfl,hlen,e⟩
theorem Ty.eq_cast {a b:Ty} {h:a=b} (l:List a.D):(h ▸ l:List b.D).length=l.length:=by subst h; rfl
theorem zdZ {h:za} {Z:Nat→Prop}: ∀{r:zcy} {p q:Pk} {v u:Value} {fp:List Nat},Own h Z (.sl p.t) (.ow p.a) p.l [v] fp→At h p v r q u →
  ∃fq pre post,fp=pre++fq++post∧Own h Z (.sl q.t) (.ow q.a) q.l [u] fq ∧
   ∀(h':za) (Z2:Nat→Prop) (l2:List q.t.D) (fq':List Nat) (l':List p.t.D),(∀b,Z b→Z2 b)→(∀b,Z b→h' b=h b)→(∀b∈pre,h' b=h b)→(∀b∈post,h' b=h b) →
    Own h' Z2 (.sl q.t) (.ow q.a) l2 [u] fq'→p.put r ⟨q.t,q.a,l2⟩=some l'→Own h' Z2 (.sl p.t) (.ow p.a) l' [v] (pre++fq'++post)
 | [],p,q,v,u,fp,e,ha=>by
  obtain⟨rfl,rfl⟩:=ha;refine⟨fp,[],[],by simp,e,fun h' Z2 l2 fq' l' _ _ _ _ ho hput=> ?_⟩;simp only[Pk.put]at hput;split at hput
  ·simp at hput; subst hput
   simpa using ho
  ·simp at hput
 | (i,j)::r,p,q,v,u,fp,e,ha=>by
  obtain⟨b,o,len,cap,p1,v1,rfl,h0,hi,hto,hc,ha⟩:=ha;obtain⟨rfl,hbnd,hlc,c,T,fps,hB,hcap,rfl,hlen,hel⟩:=zgs e;obtain⟨vs,f,hf,hcs,he⟩:=hel i.toNat p.l[i.toNat] (by simp[hi]);have hgd:p.l.getD i.toNat p.t.dflt=p.l[i.toNat]:=by simp[List.getD,hi]
  obtain⟨fs,rfl,he2⟩:=zE.1 he;have hto0:=hto;unfold Pk.to at hto;split at hto
  ·rename_i t l a hd han
   simp at hto; subst hto;rw[hgd]at hd;obtain⟨v',f',hv',hf',ho⟩:=OwnLs.get he2 hd han
   have hj:j<p.t.size:=by
    have:=(List.getElem?_eq_some_iff.1 hd).1;rw[zao]at this; exact this
   have hvj:vs[j]? =some v1:=by rw[zab hcs j hj]; exact hc
   rw[hvj]at hv'; simp at hv'; subst hv';obtain⟨fq,pre,post,rfl,hoq,hset⟩:=zdZ (p:=⟨t,a,l⟩) ho ha;refine⟨fq,b::((fps.take i.toNat).flatten++((fs.take j).flatten++pre)),post++(fs.drop (j+1)).flatten++(fps.drop (i.toNat+1)).flatten,?_,hoq,?_⟩
   ·rw[zbO hf,zbO hf']; simp
   ·intro h' Z2 l2 fq' l' hzz hz hpre hpost hoq' hput
    simp only[Pk.put]at hput;rw[hto0]at hput;simp only at hput;split at hput
    ·rename_i lc hlc2
     split at hput
     ·rename_i x hun
      simp at hput; subst hput;have hx:=zaD _ _ _ _ hun;simp only[List.append_nil]at hx;rw[hgd]at hx;have hsub:=hset h' Z2 l2 fq' lc hzz hz (fun b hb=>hpre b (by simp[hb])) (fun b hb=>hpost b (by simp[hb])) hoq' hlc2;have hb:h' b=h b:=hpre b (by simp);have hcs':zh h' b (o+i.toNat*p.t.size) p.t.size=some vs:=by rw[zax hb]; exact hcs
      have hnew:Own h' Z2 p.t p.a x vs (fs.set j (pre++fq'++post)).flatten:=by
       refine zE.2 ⟨_,rfl,?_⟩;rw[← hx];refine OwnLs.keepSet hz hzz he2 han hvj hsub (fun b hb=>hpre b (by simp[hb])) (fun b hb=>hpost b (by simp[hb]))
      have hfl:(fs.set j (pre++fq'++post)).flatten=(fs.take j).flatten++(pre++fq'++post)++(fs.drop (j+1)).flatten :=
       zdg (List.getElem?_eq_some_iff.1 hf').1
      have:=zeB (h:=h) (i:=i.toNat) (x:=x) (vs:=vs) (f:=(fs.set j (pre++fq'++post)).flatten) hbnd hlc (by rw[hb]; exact hB) hcap hlen hi (fun m y hm hy=>by
       obtain⟨us,g,h1,h2,h3⟩:=hel m y hy;refine⟨us,g,h1,by rw[zax hb]; exact h2,Own.keep hz hzz (fun b2 hb2=> ?_) h3⟩;by_cases hmi:m<i.toNat
       ·exact hpre b2 (by simp only[List.mem_cons,List.mem_append]; exact .inr (.inl (zfq h1 hmi hb2)))
       ·exact hpost b2 (by simp only[List.mem_append]; exact .inr (zfp h1 (by omega) hb2))) hcs' hnew
      have hfl2:(fps.set i.toNat (fs.set j (pre++fq'++post)).flatten).flatten=(fps.take i.toNat).flatten++(fs.set j (pre++fq'++post)).flatten++(fps.drop (i.toNat+1)).flatten :=
       zdg (by rw[hlen]; exact hi)
      rw[hfl2,hfl]at this;simpa using this
     ·simp at hput
    ·simp at hput
  ·simp at hto
theorem zcl {c:Array Value} {o:Nat} {vs:List Value} (h:o+vs.length≤c.size):(zi c o vs).toList=zI c.toList o vs:=by
 apply List.ext_getElem?;intro j;unfold zI;rw[Array.getElem?_toList,zah vs c o j h];by_cases h1:j<o
 ·rw[if_neg (by omega),List.append_assoc,List.getElem?_append_left (by simp; omega),List.getElem?_take,if_pos h1,Array.getElem?_toList]
 ·by_cases h2:j<o+vs.length
  ·rw[if_pos (by omega),List.append_assoc,List.getElem?_append_right (by simp; omega),List.getElem?_append_left (by simp; omega)]
   congr 1; simp; omega
  ·rw[if_neg (by omega),List.getElem?_append_right (by simp; omega),List.getElem?_drop,Array.getElem?_toList]
   congr 1; simp; omega
theorem ziP {α:Type} {cs ds:List α} {o:Nat} (h:o+ds.length≤cs.length):(zI cs o ds).length=cs.length:=by
 unfold zI; simp; omega
theorem CRels.splice {s:Sh} {g:Gh} {h:za} {cs ds:List C} {us vs:List Value} {o:Nat} (h1:CRels s g h cs us) (h2:CRels s g h ds vs) :
  CRels s g h (zI cs o ds) (zI us o vs):=by
 unfold Tf.zI;rw[← CRels.len h2];exact CRels.append (CRels.append (CRels.take o h1) h2) (CRels.drop _ h1)
theorem OwnLs.splice {h:za} {Z:Nat→Prop} {ds es:List LD} {as:List Ann} {us vs:List Value} {fs gs:List (List Nat)} {o:Nat}
  (h1:OwnLs h Z ds as us fs) (h2:OwnLs h Z es ((as.drop o).take es.length) vs gs):OwnLs h Z (zI ds o es) as (zI us o vs) (zI fs o gs):=by
 unfold Tf.zI;obtain⟨l1,l2,l3⟩:=OwnLs.len h2;rw[l2,l3]
 have e:as=as.take o++(as.drop o).take es.length++as.drop (o+es.length):=by
  rw[List.append_assoc,← List.drop_drop,List.take_append_drop,List.take_append_drop]
 have:=OwnLs.append (OwnLs.append (OwnLs.take o h1) h2) (OwnLs.drop (o+es.length) h1);rw[← e]at this;exact this
section
variable {n0:Nat} {M:Nat→Prop} {h0:Home} {s:St} {g:Gh} {X:List Nat} {a:Act} {w:World}
theorem zhA (r:Rel n0 M h0 s g X a w) {addr:C} {ds:List C} {s':St} {v:Value} {vs:List Value} (e:zX s addr ds=some s') (hn:0<ds.length)
  (hv:CRel s.sh g (hp w) addr v) (hds:CRels s.sh g (hp w) ds vs) (hu: ∀c∈ds,∀k∈c.refs,s.used k=true) :
  ∃b o c T g' X',v= .pointer (some ⟨b,o,none⟩)∧hp w b=some (.cells c T (0,0))∧o+vs.length≤c.size∧Rel n0 M h0 s' g' X' a (World.setBlk w b (zi c o vs) T):=by
 have hvl:=CRels.len hds;cases addr with
 | ptr k off =>
  simp only[zX]at e;split at e
  ·rename_i cs hk
   cases hb:Nat.ble (off+ds.length) cs.length with
   | true =>
    rw[hb]at e; simp at e; subst e;have hle:off+ds.length≤cs.length:=Nat.le_of_ble_eq_true hb;obtain⟨c,T,hbx,hcr⟩:=r.bx k cs hk;have hcl:=CRels.len hcr;have hfit:off+vs.length≤c.size:=by simp at hcl; omega
    refine⟨g.bx k,off,c,T,g,X,hv.2 _ hk,hbx,hfit,?_⟩;refine r.storeBox hk hbx ?_ ?_
    ·rw[zcl hfit]; exact CRels.splice hcr hds
    ·intro x hx j hj
     unfold zI at hx;simp only[List.mem_append]at hx;rcases hx with(hx | hx) | hx
     ·exact r.uc k cs hk x (List.mem_of_mem_take hx) j hj
     ·exact hu x hx j hj
     ·exact r.uc k cs hk x (List.mem_of_mem_drop hx) j hj
   | false=>rw[hb]at e; simp at e
  ·simp at e
 | eo k ver p q i off =>
  simp only[zX]at e;split at e
  ·rename_i lds sh1 hmv
   split at e
   ·rename_i en hen
    cases hb:Nat.beq en.ver ver with
    | true =>
     rw[hb]at e;simp only[cond_true]at e;split at e
     ·rename_i x hun
      split at e
      ·rename_i l' hput
       simp at e; subst e;have hver:=Nat.eq_of_beq_eq_true hb;obtain⟨Z1,fs,X1,hz1,r1,hpm,hol⟩:=zdU r hmv hds;obtain⟨_,hsub⟩:=zfs hmv;obtain⟨_,hat⟩:=hv.2 en (hsub k en hen);obtain⟨b,o,len,cap,hi0,hi,hat2,rfl⟩:=hat hver;have hrg:=r1.rg k en hen;obtain⟨fq,pre,post,hfp,hoq,hset⟩:=zdZ hrg hat2;obtain⟨rfl,hbnd,hlc,c,T,fps,hB,hcap,rfl,hlen,hel⟩:=zgs hoq;obtain⟨us,f,hf,hcs,he⟩:=hel i.toNat q.l[i.toNat] (by simp[hi]);have hgd:q.l.getD i.toNat q.t.dflt=q.l[i.toNat]:=by simp[List.getD,hi]
       obtain⟨fe,rfl,he2⟩:=zE.1 he;rw[hgd]at hun;have hx:=zaD _ _ _ _ hun;simp only[List.append_nil]at hx;obtain⟨la,lv,lf⟩:=OwnLs.len hol;have hdl:ds.length=lds.length:=by omega
       have hsz:off+vs.length≤q.t.size:=by
        have:=zbB q.t q.a;rw[List.length_take,List.length_drop,this]at la;omega
       have husl:=zaA hcs
       have hbf:b∈g.fp k:=by
        have:b∈pre++(b::fps.flatten)++post:=by simp
        rw[← hfp]at this; exact this
       have hnd:=r1.nd k en hen;change (g.fp k).Nodup at hnd;rw[hfp]at hnd
       have hnb:b∉pre∧b∉fps.flatten∧b∉post:=by
        rw[List.append_assoc]at hnd;have h1:=List.nodup_append.1 hnd;have h2:=List.nodup_append.1 h1.2.1;refine⟨fun h=>h1.2.2 b h b (by simp) rfl,(List.nodup_cons.1 h2.1).1,fun h=>h2.2.2 b (by simp) b h rfl⟩
       have hbX:b∉X1:=fun h=>by
        have:=r1.uniq (.reg k) .ext b ⟨⟨en,hen⟩,hbf⟩ h;simp at this
       have hbZ: ¬Z1 b:=(r1.mine (.reg k) b ⟨⟨en,hen⟩,hbf⟩).z;have hbs:b<w.heap.size:=(r1.mine (.reg k) b ⟨⟨en,hen⟩,hbf⟩).s
       have hielt:o+i.toNat*q.t.size+q.t.size≤c.size:=by
        have:(i.toNat+1)*q.t.size≤cap*q.t.size:=Nat.mul_le_mul_right _ (by omega);rw[Nat.add_mul]at this;omega
       have hfit:o+i.toNat*q.t.size+off+vs.length≤c.size:=by omega
       have hBw:hp w b=some (.cells c T (0,0)):=hB
       suffices H: ∃g' X',Rel n0 M h0 { s with sh:={ sh1 with regs:=zg sh1.regs k (some ⟨{ en.pk with l:=l' },ver+1⟩) } } g' X' a
         (World.setBlk w b (zi c (o+i.toNat*q.t.size+off) vs) T)by
        obtain⟨g',X',H⟩:=H;exact⟨b,o+i.toNat*q.t.size+off,c,T,g',X',rfl,hBw,hfit,H⟩
       have oth: ∀b',b'≠b→hp (World.setBlk w b (zi c (o+i.toNat*q.t.size+off) vs) T) b'=hp w b':=fun b' h=>zbp h
       have hB':hp (World.setBlk w b (zi c (o+i.toNat*q.t.size+off) vs) T) b=some (.cells (zi c (o+i.toNat*q.t.size+off) vs) T (0,0)):=zbo hbs;have hzk: ∀b',Z1 b'→hp (World.setBlk w b (zi c (o+i.toNat*q.t.size+off) vs) T) b'=hp w b':=fun b' hz=>oth b' (fun h=>hbZ (h ▸ hz))
       have cell': ∀j,zL (hp (World.setBlk w b (zi c (o+i.toNat*q.t.size+off) vs) T)) b j=(zi c (o+i.toNat*q.t.size+off) vs)[j]? :=by
        intro j; unfold zL; rw[hB']
       have cell0: ∀j,zL (hp w) b j=c[j]? :=by intro j; unfold zL; rw[hBw]
       have hother: ∀j y,j≠i.toNat→q.l[j]? =some y→ ∃us g',fps[j]? =some g' ∧
         zh (hp (World.setBlk w b (zi c (o+i.toNat*q.t.size+off) vs) T)) b (o+j*q.t.size) q.t.size=some us ∧
         Own (hp (World.setBlk w b (zi c (o+i.toNat*q.t.size+off) vs) T)) Z1 q.t q.a y us g':=by
        intro j y hj hy;obtain⟨us',g',h1,h2,h3⟩:=hel j y hy;have hl2:=zaA h2;refine⟨us',g',h1,?_,Own.keep hzk (fun _ h=>h) (fun b' hb'=>oth b' (fun h=>hnb.2.1 (h ▸ zT h1 hb'))) h3⟩
        have:=zap (h:=hp (World.setBlk w b (zi c (o+i.toNat*q.t.size+off) vs) T)) (b:=b) us' (o+j*q.t.size) (fun m hm=>by
         rw[zab h2 m (by omega),cell',cell0,zah _ _ _ _ hfit,if_neg];intro hh;rcases Nat.lt_or_gt_of_ne hj with hlt | hgt
         ·have:(j+1)*q.t.size≤i.toNat*q.t.size:=Nat.mul_le_mul_right _ (by omega)
          rw[Nat.add_mul]at this; omega
         ·have:(i.toNat+1)*q.t.size≤j*q.t.size:=Nat.mul_le_mul_right _ (by omega)
          rw[Nat.add_mul]at this; omega)
        rw[hl2]at this; exact this
       have hspl:(zI us off vs).length=q.t.size:=by rw[ziP (by omega),husl]
       have hnew:zh (hp (World.setBlk w b (zi c (o+i.toNat*q.t.size+off) vs) T)) b (o+i.toNat*q.t.size) q.t.size=some (zI us off vs):=by
        have:=zap (h:=hp (World.setBlk w b (zi c (o+i.toNat*q.t.size+off) vs) T)) (b:=b) (zI us off vs) (o+i.toNat*q.t.size) (fun m hm=>by
         rw[hspl]at hm;have hum:=zab hcs m hm;rw[cell0]at hum;rw[cell',zah _ _ _ _ hfit];have hsp:(zi us.toArray off vs).toList=zI us off vs:=zcl (by simp; omega);have hq:(zI us off vs)[m]? =(zi us.toArray off vs)[m]? :=by rw[← hsp]; exact Array.getElem?_toList ..
         rw[hq,zah _ _ _ _ (by simp; omega)];by_cases hr:off≤m∧m<off+vs.length
         ·rw[if_pos (by omega),if_pos hr]; congr 1; omega
         ·rw[if_neg (by omega),if_neg hr]; simpa using hum.symm)
        rw[hspl]at this; exact this
       have hmv2: ∀b'∈fs.flatten,b'≠b:=fun b' hb' h=>hbX (h ▸ hpm.mem_iff.2 (List.mem_append.2 (.inl hb')))
       have hown:Own (hp (World.setBlk w b (zi c (o+i.toNat*q.t.size+off) vs) T)) Z1 q.t q.a x (zI us off vs) (zI fe off fs).flatten:=by
        refine zE.2 ⟨_,rfl,?_⟩;rw[← hx];refine OwnLs.splice (OwnLs.keep hzk (fun _ h=>h) (fun b' hb'=>oth b' (fun h=>hnb.2.1 (h ▸ zT hf hb'))) he2) ?_;rw[← hdl];exact OwnLs.keep hzk (fun _ h=>h) (fun b' hb'=>oth b' (hmv2 b' hb')) hol
       have hq':=zeB (h:=hp w) (i:=i.toNat) hbnd hlc hB' (by rw[za3]; exact hcap) hlen hi hother hnew hown;have hroot:=hset _ _ _ _ l' (fun _ h=>h) hzk (fun b' hb'=>oth b' (fun h=>hnb.1 (h ▸ hb'))) (fun b' hb'=>oth b' (fun h=>hnb.2.2 (h ▸ hb'))) hq' hput;subst hver;refine⟨_,((fe.drop off).take fs.length).flatten++X,r1.modReg hen zaX (fun b' h1 _=>oth b' (fun h=>h1 (h ▸ hbf))) ?_ hroot⟩;have hc1:=fun y=>hpm.count_eq y
       rw[List.perm_iff_count];intro y
       have e1:(g.fp k).count y=pre.count y+((b::fps.flatten).count y)+post.count y:=by
        rw[hfp]; simp only[List.count_append]
       have e2:fps.flatten.count y=(fps.take i.toNat).flatten.count y+fe.flatten.count y+(fps.drop (i.toNat+1)).flatten.count y:=by
        rw[zbO hf]; simp only[List.count_append]
       have e3:(fps.set i.toNat (zI fe off fs).flatten).flatten.count y=(fps.take i.toNat).flatten.count y+(zI fe off fs).flatten.count y+(fps.drop (i.toNat+1)).flatten.count y:=by
        rw[zdg (by rw[hlen]; exact hi)]; simp only[List.count_append]
       have e4:fe.flatten.count y=(fe.take off).flatten.count y+((fe.drop off).take fs.length).flatten.count y+(fe.drop (off+fs.length)).flatten.count y:=by
        have:fe=fe.take off++(fe.drop off).take fs.length++fe.drop (off+fs.length):=by
         rw[List.append_assoc,← List.drop_drop,List.take_append_drop,List.take_append_drop]
        conv=>lhs; rw[this]
        simp only[List.flatten_append,List.count_append]
       have e5:(zI fe off fs).flatten.count y=(fe.take off).flatten.count y+fs.flatten.count y+(fe.drop (off+fs.length)).flatten.count y:=by
        unfold zI; simp only[List.flatten_append,List.count_append]
       have e6:=hc1 y;simp only[List.count_append,List.count_cons]at e1 e6 ⊢;omega
      ·simp at e
     ·simp at e
    | false=>rw[hb]at e; simp at e
   ·simp at e
  ·simp at e
 | int _ _=>simp[zX]at e
 | bool _=>simp[zX]at e
 | nil=>simp[zX]at e
 | fz _ _=>simp[zX]at e
 | br _ _=>simp[zX]at e
 | «at» _=>simp[zX]at e
 | vw _ _ _ _=>simp[zX]at e
 | nd _ _ _ _=>simp[zX]at e
 | ef _ _ _ _=>simp[zX]at e
 | fn _ _=>simp[zX]at e
 | fx _ _ _=>simp[zX]at e
 | junk=>simp[zX]at e
end
theorem zib {h:za} {Z:Nat→Prop} {t:Ty} {l:List t.D} {v:Value} (e:Rd h Z (.sl t) l [v]) {i:Nat} (hi:i<l.length) :
  ∃b o cap vs,v= .slice (some ⟨b,o,none⟩) l.length cap∧Z b∧zh h b (o+i*t.size) t.size=some vs∧Rd h Z t (l.getD i t.dflt) vs:=by
 obtain⟨a,cap,hv,hb,hc,e⟩:=e;simp at hv; subst hv;rcases e with rfl | ⟨b,o,rfl,hZ,e⟩
 ·simp at hi
 ·obtain⟨vs,h1,h2⟩:=e i l[i] (by simp[hi])
  refine⟨b,o,cap,vs,rfl,hZ,h1,?_⟩;have:l.getD i t.dflt=l[i]:=by simp[List.getD,hi]
  rw[this]; exact h2
section
variable {n0:Nat} {M:Nat→Prop} {h0:Home} {s:St} {g:Gh} {X:List Nat} {a:Act} {w:World}
theorem zhc (r:Rel n0 M h0 s g X a w) {c c':C} {i:Int} {sz:Nat} {v:Value} (e:zac s.sh c i=some (true,sz,c')) (hv:CRel s.sh g (hp w) c v)
  (hu: ∀k∈c.refs,s.used k=true) :
  ∃b o len cap,v= .slice (some ⟨b,o,none⟩) len cap∧0≤i∧i<(len:Int)∧CRel s.sh g (hp w) c' (.pointer (some ⟨b,o+i.toNat*sz,none⟩))∧ ∀k∈c'.refs,s.used k=true:=by
 cases c with
 | fz t l =>
  simp only[zac,Option.some.injEq,Prod.mk.injEq,Bool.and_eq_true,decide_eq_true_eq]at e;obtain⟨⟨h1,h2⟩,rfl,rfl⟩:=e;obtain⟨b,o,cap,vs,rfl,hZ,hcs,hr⟩:=zib hv (i:=i.toNat) (by omega);refine⟨b,o,_,cap,rfl,h1,h2,⟨trivial,b,o+i.toNat*t.size,vs,rfl,.inl hZ,hcs,?_⟩,by simp[C.refs]⟩;exact Rd.keep (fun _ _=>rfl) (fun b h=> .inl h) hr
 | br t l =>
  simp only[zac,Option.some.injEq,Prod.mk.injEq,Bool.and_eq_true,decide_eq_true_eq]at e;obtain⟨⟨h1,h2⟩,rfl,rfl⟩:=e;obtain⟨b,o,cap,vs,rfl,hZ,hcs,hr⟩:=zib hv (i:=i.toNat) (by omega);refine⟨b,o,_,cap,rfl,h1,h2,⟨trivial,b,o+i.toNat*t.size,vs,rfl,hZ.imp id (fun h=>⟨rfl,h⟩),hcs,?_⟩,by simp[C.refs]⟩;exact Rd.keep (fun _ _=>rfl) (fun b h=>h.imp id (fun h=>⟨rfl,h⟩)) hr
 | «at» k =>
  simp only[zac]at e;split at e
  ·rename_i en hen
   simp only[Option.some.injEq,Prod.mk.injEq,Bool.and_eq_true,decide_eq_true_eq]at e;obtain⟨⟨h1,h2⟩,rfl,rfl⟩:=e;have hv2:=hv.2 en hen;have hrg:=r.rg k en hen;obtain⟨b,o,cap,c,T,fps,vs,f,hhd,hB,hcap,hlc,_,hlen,hf,hcs,he⟩:=Own.elem hrg (i:=i.toNat) (by omega);rw[hhd]at hv2;refine⟨b,o,_,cap,hv2,h1,h2,⟨trivial,fun e' he'=> ?_⟩,fun k' hk'=>by simp[C.refs]at hk'; subst hk'; exact r.ur _ en hen⟩;rw[hen]at he'; simp at he'; subst he';exact⟨Nat.le_refl _,fun _=>⟨b,o,_,cap,h1,by omega,⟨rfl,hhd.symm⟩,by simp⟩⟩
  ·simp at e
 | nd k ver p q =>
  simp only[zac]at e;split at e
  ·rename_i en hen
   cases hb:Nat.beq en.ver ver with
   | true =>
    rw[hb]at e;simp only[cond_true,Option.some.injEq,Prod.mk.injEq,Bool.and_eq_true,decide_eq_true_eq]at e;obtain⟨⟨h1,h2⟩,rfl,rfl⟩:=e;obtain⟨hle,hat⟩:=hv.2 en hen;have hat:=hat (Nat.eq_of_beq_eq_true hb);obtain⟨fq,hsub,ho⟩:=zcT (r.rg k en hen) hat;obtain⟨b,o,cap,c,T,fps,vs,f,hhd,hB,hcap,hlc,_,hlen,hf,hcs,he⟩:=Own.elem ho (i:=i.toNat) (by omega);refine⟨b,o,_,cap,hhd,h1,h2,⟨trivial,fun e' he'=> ?_⟩,fun k' hk'=>by simp[C.refs]at hk'; subst hk'; exact r.ur _ en hen⟩;rw[hen]at he'; simp at he'; subst he';exact⟨hle,fun _=>⟨b,o,_,cap,h1,by omega,by rw[← hhd]; exact hat,by simp⟩⟩
   | false=>rw[hb]at e; simp at e
  ·simp at e
 | int _ _=>simp[zac]at e
 | bool _=>simp[zac]at e
 | nil=>simp[zac]at e
 | vw _ _ _ _=>simp[zac]at e
 | ptr _ _=>simp[zac]at e
 | ef _ _ _ _=>simp[zac]at e
 | eo _ _ _ _ _ _=>simp[zac]at e
 | fn _ _=>simp[zac]at e
 | fx _ _ _=>simp[zac]at e
 | junk=>simp[zac]at e
theorem zfW {h:za} {Z:Nat→Prop} {t:Ty} {l:List t.D} {v:Value} (e:Rd h Z (.sl t) l [v]): ∃a cap,v= .slice a l.length cap∧l.length*t.bytes≤2^47∧l.length≤cap:=by
 obtain⟨a,cap,hv,hb,hc,_⟩:=e;simp at hv;exact⟨a,cap,hv,hb,hc⟩
theorem zci {h:za} {Z:Nat→Prop} {t:Ty} {an:Ann} {l:List t.D} {v:Value} {fp:List Nat} (e:Own h Z (.sl t) (.ow an) l [v] fp) :
  ∃a cap,v= .slice a l.length cap∧l.length*t.bytes≤2^47∧l.length≤cap:=by
 obtain⟨a,cap,hv,hb,hc,_⟩:=e;simp at hv;exact⟨a,cap,hv,hb,hc⟩
theorem ziF (r:Rel n0 M h0 s g X a w) {c:C} {n:Int} {v:Value} (e:zai s.sh c=some n) (hv:CRel s.sh g (hp w) c v) :
  ∃ad len cap,v= .slice ad len cap∧n=(len:Int):=by
 cases c with
 | nil=>simp[zai]at e; subst e; simp only[CRel]at hv; exact⟨none,0,0,hv,rfl⟩
 | fz t l=>simp[zai]at e; subst e; obtain⟨ad,cap,rfl,_⟩:=zfW hv; exact⟨_,_,_,rfl,rfl⟩
 | br t l=>simp[zai]at e; subst e; obtain⟨ad,cap,rfl,_⟩:=zfW hv; exact⟨_,_,_,rfl,rfl⟩
 | «at» k =>
  simp only[zai]at e;split at e
  ·rename_i en hen
   simp at e; subst e;obtain⟨ad,cap,h1,_⟩:=zci (r.rg k en hen);exact⟨ad,_,cap,by rw[hv.2 en hen]; exact h1,rfl⟩
  ·simp at e
 | nd k ver p q =>
  simp only[zai]at e;split at e
  ·rename_i en hen
   cases hb:Nat.beq en.ver ver with
   | true =>
    rw[hb]at e; simp at e; subst e;obtain⟨fq,_,ho⟩:=zcT (r.rg k en hen) ((hv.2 en hen).2 (Nat.eq_of_beq_eq_true hb));obtain⟨ad,cap,h1,_⟩:=zci ho;exact⟨ad,_,cap,h1,rfl⟩
   | false=>rw[hb]at e; simp at e
  ·simp at e
 | vw k ver lo hi =>
  simp only[zai]at e;split at e
  ·rename_i en hen
   cases hb:Nat.beq en.ver ver with
   | true =>
    rw[hb]at e; simp at e; subst e;obtain⟨h1,h2,h3,aa,ll,cc,hh,hv'⟩:=(hv.2 en hen).2 (Nat.eq_of_beq_eq_true hb);obtain⟨ad,cap,rfl,_⟩:=zhG (r.rg k en hen) h1 h2 h3 hh hv';exact⟨ad,_,cap,rfl,by omega⟩
   | false=>rw[hb]at e; simp at e
  ·simp at e
 | int _ _=>simp[zai]at e
 | bool _=>simp[zai]at e
 | ptr _ _=>simp[zai]at e
 | ef _ _ _ _=>simp[zai]at e
 | eo _ _ _ _ _ _=>simp[zai]at e
 | fn _ _=>simp[zai]at e
 | fx _ _ _=>simp[zai]at e
 | junk=>simp[zai]at e
theorem zg6 {sh:Sh} {h:za} {o:Nat} {c c':C} {v:Value} (e:zat o c=some c') (hv:CRel sh g h c v) :
  (∀k∈c'.refs,k∈c.refs)∧(∀b off,v= .pointer (some ⟨b,off,none⟩)→CRel sh g h c' (.pointer (some ⟨b,off+o,none⟩))):=by
 cases c with
 | ptr k off =>
  simp[zat]at e; subst e;refine⟨fun k hk=>hk,fun b off' hb=>⟨trivial,fun c hc=> ?_⟩⟩;have:=hv.2 c hc;rw[hb]at this; simp at this;obtain⟨rfl,rfl⟩:=this; rfl
 | ef z t x off =>
  simp[zat]at e; subst e;refine⟨fun k hk=>hk,fun b off' hb=> ?_⟩;obtain⟨_,b',o',vs,hv',hZ,hcs,hr⟩:=hv;rw[hb]at hv'; simp at hv'; obtain⟨rfl,rfl⟩:=hv';exact⟨trivial,b,o',vs,by simp[Nat.add_assoc],hZ,hcs,hr⟩
 | eo k ver p q i off =>
  simp[zat]at e; subst e;refine⟨fun k hk=>hk,fun b off' hb=>⟨trivial,fun e he=> ?_⟩⟩;obtain⟨hle,hat⟩:=hv.2 e he;refine⟨hle,fun hver=> ?_⟩;obtain⟨b',o',len,cap,h0,hi,hat,hv'⟩:=hat hver;rw[hb]at hv'; simp at hv'; obtain⟨rfl,rfl⟩:=hv';exact⟨b,o',len,cap,h0,hi,hat,by simp[Nat.add_assoc]⟩
 | int _ _=>simp[zat]at e
 | bool _=>simp[zat]at e
 | nil=>simp[zat]at e
 | fz _ _=>simp[zat]at e
 | br _ _=>simp[zat]at e
 | «at» _=>simp[zat]at e
 | vw _ _ _ _=>simp[zat]at e
 | nd _ _ _ _=>simp[zat]at e
 | fn _ _=>simp[zat]at e
 | fx _ _ _=>simp[zat]at e
 | junk=>simp[zat]at e
end
theorem zjX (k:IntKind):(2:Int)^k.bits=2*2^(k.bits-1):=by cases k<;>decide
theorem za5 (k:IntKind) (n:Int):zaw k (k.wrap n):=by
 unfold zaw IntKind.wrap IntKind.min IntKind.max;have h2:=zjX k;have hp:(0:Int)<2^(k.bits-1):=by cases k<;>decide
 have hm0:=Int.emod_nonneg n (show(2:Int)^k.bits≠0 by omega);have hm1:=Int.emod_lt_of_pos n (show(0:Int)<2^k.bits by omega);cases hs:k.signed with
 | false =>
  simp only[Bool.false_and,if_false,Bool.false_eq_true];constructor<;>omega
 | true =>
  simp only[Bool.true_and,if_true,decide_eq_true_eq];split<;>constructor<;>omega
theorem zi5 {k:IntKind} {x y:Int} (hx:zaw k x) (hy:zaw k y):zaw k (x.tmod y):=by
 unfold zaw at *
 have h1:(x.tmod y).natAbs≤x.natAbs:=by
  rw[Int.natAbs_tmod];exact Nat.mod_le _ _
 have h3:0≤x→0≤x.tmod y:=fun h=>Int.tmod_nonneg _ h
 have h4:x≤0→x.tmod y≤0:=by
  intro h;have:=Int.tmod_nonneg (-y) (show 0≤ -x by omega);rw[Int.tmod_neg,Int.neg_tmod]at this;omega
 have hmin:k.min≤0:=by cases k<;>decide
 have hmax:0≤k.max:=by cases k<;>decide
 omega
theorem zi4 {k:IntKind} {x:Int} (n:Nat) (hx:zaw k x):zaw k (x.fdiv (2^n)):=by
 unfold zaw at *;have hp:(0:Int)<2^n:=Int.pow_pos (by decide);rw[Int.fdiv_eq_ediv_of_nonneg _ (by omega)];have hmin:k.min≤0:=by cases k<;>decide
 have hmax:0≤k.max:=by cases k<;>decide
 by_cases h:0≤x
 ·have h1:=Int.ediv_nonneg h (by omega:(0:Int)≤2^n)
  have h2:=Int.ediv_le_self (2^n) h;omega
 ·have h1:x / 2^n<0:=Int.ediv_neg_of_neg_of_pos (by omega) hp
  have h2:x≤x / 2^n:=by
   rw[Int.le_ediv_iff_mul_le hp];have:x*2^n≤x*1:=Int.mul_le_mul_of_nonpos_left (by omega) (by omega);omega
  omega
def zN:Ty→List Value
 | .int k=> [.int k 0]
 | .bool=> [.bool false]
 | .sl _=> [.slice none 0 0]
 | .pr a b=>zN a++zN b
 | .st _ t=>zN t
def zA:Ty→Value
 | .int k=> .int k 0
 | .bool=> .bool false
 | .sl _=> .slice none 0 0
 | t=> .agg (zN t).toArray
def zhe (P:Program) (t:TypeId):Bool :=
 match P.underlying t with
 | some (.struct _)=>true
 | some (.array _ _)=>true
 | _=>false
def zaT (P:Program) (f:Field):Nat×Option Nat×Bool:=(f.offset,(P.underlying f.type).bind (fun _=>(P.info? f.type).map (·.size)),zhe P f.type)
theorem zde {P:Program} {t:TypeId} {n:Nat} (h:(P.underlying t).bind (fun _=>(P.info? t).map (·.size))=some n):(P.info? t).map (·.size)=some n∧ ∃d,P.underlying t=some d:=by
 cases hu:P.underlying t with
 | none=>rw[hu]at h; simp at h
 | some d=>rw[hu]at h; exact⟨h,d,rfl⟩
def zbZ (P:Program) (t:TypeId) (i:TI):Prop :=
 match i.ty with
 | .int k=>P.underlying t=some (.int k)
 | .bool=>P.underlying t=some .bool
 | .sl u=>P.underlying t=some (.slice i.el)∧(P.info? i.el).map (fun f=>(f.zero,f.size,f.bytes))=some (some (zA u),u.size,u.bytes)
 | .st _ _=> ∃fs,P.underlying t=some (.struct fs)∧fs.toList.map (zaT P)=i.fs.map (fun x=>(x.1,some x.2.1,x.2.2))
 | .pr _ _=>False
def zko:Ty→Option TypeDesc
 | .int k=>some (.int k)
 | .bool=>some .bool
 | _=>none
def zcw:List Ty→Nat→List (Nat×Bool×Option TypeDesc)
 | [],_=> []
 | t::ts,n=>(n,false,zko t)::zcw ts (n+1)
def zkj (P:Program) (t:TypeId) (i:TI):Prop :=
  P.underlying t=some (.struct (P.fieldsOf t))∧P.stoodInHeld t=false∧P.eqGuardType P.depth t=false ∧
    (P.fieldsOf t).toList.map (fun f=>(f.offset,f.name== "_",P.underlying f.type))=zcw i.ty.leaves 0
structure TIok (P:Program) (t:TypeId) (i:TI):Prop where
 inf:(P.info? t).map (fun f=>(f.zero,f.size,f.bytes))=some (some (zA i.ty),i.ty.size,i.ty.bytes)
 und:zbZ P t i
 fsz: ∀x∈i.fs,x.2.1≠0
 pos:0<i.ty.size
 eq:i.eqs=true→zkj P t i
structure EnvOk (P:Program) (E:Env):Prop where
 ti: ∀t i,E.TT t=some i→TIok P t i
theorem zbV {P:Program} {t:TypeId} {z:Value} {n m:Nat} (h:(P.info? t).map (fun f=>(f.zero,f.size,f.bytes))=some (some z,n,m)) :
  ∃f,P.info? t=some f∧f.zero=some z∧f.size=n∧f.bytes=m:=by
 cases hf:P.info? t with
 | none=>rw[hf]at h; simp at h
 | some f=>rw[hf]at h; simp at h; exact⟨f,rfl,h.1,h.2.1,h.2.2⟩
section
variable {P:Program} {w:World}
theorem zZ {t:TypeId} {f:TypeInfo} (h:P.info? t=some f):(sizeOf t).run P w= .ok f.size w:=by
 simp[Go.sizeOf,typeInfo,h]
theorem zdb {t:TypeId} {f:TypeInfo} {z:Value} (h:P.info? t=some f) (hz:f.zero=some z):(zeroValue t).run P w= .ok z w:=by
 simp[zeroValue,typeInfo,h,hz]
theorem zG {t:TypeId} {d:TypeDesc} (h:P.underlying t=some d):(underlying t).run P w= .ok d w:=by
 simp[underlying,h]
theorem zjM {t:TypeId} {i:TI} (h:TIok P t i):(isAgg t).run P w= .ok i.ty.isSt w:=by
 have hu:=h.und;unfold zbZ at hu;unfold isAgg;split at hu
 ·rename_i k e; simp[zG hu,e,Ty.isSt]
 ·rename_i e; simp[zG hu,e,Ty.isSt]
 ·rename_i u e; simp[zG hu.1,e,Ty.isSt]
 ·rename_i n u e; obtain⟨fs,h1,_⟩:=hu; simp[zG h1,e,Ty.isSt]
 ·exact hu.elim
theorem zjT {t:Ty} (h:t.isSt=false) (h2: ∀a b,t≠ .pr a b):t.size=1:=by
 cases t<;>first | rfl | (simp[Ty.isSt]at h; done) | exact absurd rfl (h2 _ _)
theorem zjY {t:TypeId} {i:TI} (h:TIok P t i): ∀a b,i.ty≠ .pr a b:=by
 intro a b e;have hu:=h.und;unfold zbZ at hu;rw[e]at hu;exact hu
theorem zfg {t:TypeId} {i:TI} (h:TIok P t i) {b o:Nat} {vs:List Value} (hc:zh (hp w) b o i.ty.size=some vs) :
  (loadVar t ⟨b,o,none⟩).run P w= .ok (bif i.ty.isSt then .agg vs.toArray else vs.headD undef) w:=by
 obtain⟨f,hf,_,hsz,_⟩:=zbV h.inf;unfold loadVar;simp only[Sem.run_bind,zjM h,Result.andThen_ok];cases hs:i.ty.isSt with
 | true=>simp[zZ hf,hsz,zed hc]
 | false =>
  have h1:=zjT hs (zjY h);rw[h1]at hc;have hl:=zaA hc
  match vs,hl with
  | [v],_ =>
   have:=zab hc 0 (by omega);simp at this;simp[zee this.symm]
theorem zhv {t:TypeId} {i:TI} (h:TIok P t i) {b o:Nat} {c:Array Value} {T:TypeId} {v:Value} (hb:hp w b=some (.cells c T (0,0)))
  (hsz:v.cells.size=i.ty.size) (hfit:o+v.cells.toList.length≤c.size) (hcell: ∀u∈v.cells.toList,zR u) :
  (storeVar t ⟨b,o,none⟩ v).run P w= .ok () (World.setBlk w b (zi c o v.cells.toList) T):=by
 obtain⟨f,hf,_,hsz2,_⟩:=zbV h.inf;unfold storeVar;simp only[Sem.run_bind,zZ hf,Result.andThen_ok,hsz2,hsz];have:=zbx (P:=P) v.cells.toList 0 w c hb (by simpa using hfit) hcell;simpa using this
end
theorem zcc {s:Sh} {g:Gh} {h:za}: ∀(t:Ty),CRels s g h (zaG t) (zN t)
 | .int k=>⟨⟨rfl,by constructor<;>cases k<;>decide⟩,trivial⟩
 | .bool=>⟨rfl,trivial⟩
 | .sl _=>⟨rfl,trivial⟩
 | .pr a b=>CRels.append (zcc a) (zcc b)
 | .st _ t=>zcc t
theorem zbN: ∀(t:Ty),∀c∈zaG t,c.refs= []
 | .int k,c,h=>by simp[zaG]at h; subst h; rfl
 | .bool,c,h=>by simp[zaG]at h; subst h; rfl
 | .sl _,c,h=>by simp[zaG]at h; subst h; rfl
 | .pr a b,c,h=>(List.mem_append.1 h).elim (zbN a c) (zbN b c)
 | .st _ t,c,h=>zbN t c h
theorem zbQ (t:Ty):(zA t).cells.toList=zN t:=by
 cases t<;>simp[zA,zN,Value.cells]
def Good (P:Program) (n0:Nat) (M:Nat→Prop) (h0:Home) (s':St) (o:Oper) (a:Act) (w:World):Prop :=∃nx w',(execOp a.eval o).run P w= .ok nx w' ∧ ((∃v,nx= .value v∧ ∃g' X',Rel n0 M h0 s' g' X' (a.put o.dst v) w')∨(nx= .skip∧ ∃g' X',Rel n0 M h0 s' g' X' (a.put o.dst undef) w'))
theorem Good.wp {P:Program} {n0:Nat} {M:Nat→Prop} {h0:Home} {s':St} {o:Oper} {a:Act} {w:World} (h:Good P n0 M h0 s' o a w) {K:Act→World→Prop} {Q:Exit→Act→World→Prop}
  (hK: ∀g' X' a' w',Rel n0 M h0 s' g' X' a' w'→K a' w'):o.wp P a w K Q:=by
 obtain⟨nx,w',hr,h⟩:=h;unfold Oper.wp;rw[hr];rcases h with⟨v,rfl,g',X',r⟩ | ⟨rfl,g',X',r⟩
 ·exact hK g' X' _ _ r
 ·exact hK g' X' _ _ r
section
variable {P:Program} {E:Env} {n0:Nat} {M:Nat→Prop} {h0:Home} {s:St} {g:Gh} {X:List Nat} {a:Act} {w:World}
theorem Good.pure (r:Rel n0 M h0 s g X a w) {o:Oper} {x:V} {v:Value} (hrun:(execOp a.eval o).run P w= .ok (.value v) w) (hv:VRel s.sh g (hp w) x v) (hu: ∀k∈x.refs,s.used k=true):Good P n0 M h0 (s.putO o.dst x) o a w :=⟨_,w,hrun,.inl ⟨v,rfl,g,X,r.putO hv hu⟩⟩
def zQ (s:St) (site:Nat) (cs:List C):Option St :=bif s.used site then none else some { s with sh:={ s.sh with boxes:=zg s.sh.boxes site (some cs) },used:=zg s.used site true }
theorem zec (r:Rel n0 M h0 s g X a w) {site:Nat} {cs:List C} {s':St} {T:TypeId} {vs:List Value} (e:zQ s site cs=some s') (hv:CRels s.sh g (hp w) cs vs)
  (hu: ∀c∈cs,∀k∈c.refs,s.used k=true) :
  ∃g',Rel n0 M h0 s' g' X a (World.push w (.cells vs.toArray T))∧CRel s'.sh g' (hp (World.push w (.cells vs.toArray T))) (.ptr site 0) (.pointer (some ⟨w.heap.size,0,none⟩))∧s'.used site=true:=by
 unfold zQ at e;cases hs:s.used site with
 | true=>rw[hs]at e; simp at e
 | false =>
  rw[hs]at e; simp at e; subst e;have r1:=r.push (.cells vs.toArray T)
  have hv1:CRels s.sh g (hp (World.push w (.cells vs.toArray T))) cs vs:=by
   refine CRels.over ⟨fun _ h=>h,fun _ h=>h,fun b hb=>zar (r.zs b (.inl hb)),fun b hb=>zar (r.zs b (.inr hb))⟩ r.rg (fun c hc k hk=> ?_) hv;exact⟨fun c' hc'=>⟨⟨c',hc'⟩,rfl⟩,fun e' he'=>⟨e',he',rfl,Nat.le_refl _,fun _=>⟨rfl,fun b hb=>zar (r.mine (.reg k) b ⟨⟨e',he'⟩,hb⟩).s⟩⟩⟩
  have r2:=r1.claimBox (k:=site) hs rfl zcr (by simpa using hv1) hu;refine⟨_,r2,⟨trivial,fun c hc=> ?_⟩,zx _ _ _⟩;simp[zx]
theorem zj (s0:Sem Value) {v:Value} {w':World} (h:s0.run P w= .ok v w'):(do pure (Next.value (← s0)):Sem Next).run P w= .ok (.value v) w':=by
 simp[h]
theorem zjG (r:Rel n0 M h0 s g X a w) {o:Oper} {site:Nat} {t:TypeId} {x:Operand} {cs:List C} {s':St} (ho:o.op= .box t x)
  (hc:zas (ze s x)=some cs) (e:zQ s site cs=some s'):Good P n0 M h0 (s'.putO o.dst (.c (.ptr site 0))) o a w:=by
 obtain⟨hv,hu⟩:=zf r x;obtain⟨h1,h2⟩:=zb2 hc hv;obtain⟨g',r',hp',hused⟩:=zec (T:=t) r e h1 (fun c hc k hk=>hu k (h2 c hc k hk));refine⟨.value (.pointer (some ⟨w.heap.size,0,none⟩)),_,?_,.inl ⟨_,rfl,g',X,r'.putO hp' (fun k hk=>by simp[V.refs,C.refs]at hk; subst hk; exact hused)⟩⟩;simp only[execOp,ho];refine zj _ ?_;simp[Instr.box,newVar,zcF]
theorem zix (r:Rel n0 M h0 s g X a w) (hE:EnvOk P E) {o:Oper} {site:Nat} {t:TypeId} {i:TI} {s':St} (ho:o.op= .alloc t)
  (ht:E.TT t=some i) (e:zQ s site (zaG i.ty)=some s'):Good P n0 M h0 (s'.putO o.dst (.c (.ptr site 0))) o a w:=by
 obtain⟨f,hf,hz,_⟩:=zbV (hE.ti t i ht).inf;obtain⟨g',r',hp',hused⟩:=zec (T:=t) r e (zcc i.ty) (fun c hc k hk=>by rw[zbN _ c hc]at hk; simp at hk);refine⟨.value (.pointer (some ⟨w.heap.size,0,none⟩)),_,?_,.inl ⟨_,rfl,g',X,r'.putO hp' (fun k hk=>by simp[V.refs,C.refs]at hk; subst hk; exact hused)⟩⟩;simp only[execOp,ho];refine zj _ ?_;have:=zbQ i.ty;have hc:(zA i.ty).cells=(zN i.ty).toArray:=by rw[← this]
 simp[Instr.alloc,zdb hf hz,newVar,zcF,hc]
theorem zi9 (r:Rel n0 M h0 s g X a w) (hE:EnvOk P E) {o:Oper} {t:TypeId} {x:Operand} {i:TI} {c:C} {cs:List C} (ho:o.op= .load t x)
  (ht:E.TT t=some i) (hx:ze s x= .c c) (e:zam s.sh i.ty.size c=some cs) (hl:cs.length=i.ty.size):Good P n0 M h0 (s.putO o.dst (zv i.ty.isSt cs)) o a w:=by
 obtain⟨hv,hu⟩:=zf r x;rw[hx]at hv hu;have hti:=hE.ti t i ht;obtain⟨b,off,vs,hval,hcs,hcr,hrefs⟩:=ze9 r e hl hti.pos hv hu;obtain⟨h1,h2⟩:=zbP (ag:=i.ty.isSt) hcr;refine Good.pure r ?_ h1 (fun k hk=>by obtain⟨c,hc,hk⟩:=h2 k hk; exact hrefs c hc k hk);simp only[execOp,ho];refine zj _ ?_;simp[Instr.loadAt,hval,Instr.sureAddr,zfg hti hcs]
theorem ziC (r:Rel n0 M h0 s g X a w) (hE:EnvOk P E) {o:Oper} {t:TypeId} {x y:Operand} {i:TI} {c:C} {ds:List C} {s':St} (ho:o.op= .store t x y)
  (ht:E.TT t=some i) (hx:ze s x= .c c) (hy:zas (ze s y)=some ds) (hl:ds.length=i.ty.size) (e:zX s c ds=some s'):Good P n0 M h0 (s'.putO o.dst .junk) o a w:=by
 obtain⟨hv,hu⟩:=zf r x;rw[hx]at hv hu;obtain⟨hv2,hu2⟩:=zf r y;obtain⟨h1,h2⟩:=zb2 hy hv2;have hti:=hE.ti t i ht;have hlen:=CRels.len h1;obtain⟨b,off,c',T,g',X',hval,hb,hfit,r'⟩:=zhA r e (by have:=hti.pos; omega) hv h1 (fun c hc k hk=>hu2 k (h2 c hc k hk));refine⟨.skip,_,?_,.inr ⟨rfl,g',X',r'.putO (by trivial) (by simp[V.refs])⟩⟩;simp only[execOp,ho];have:=zhv (P:=P) hti (v:=a.eval y) (o:=off) hb (by rw[← Array.length_toList,hlen,hl]) hfit (CRels.cells h1);simp[Instr.storeAt,hval,Instr.sureAddr,this]
end
end Go.Tf
