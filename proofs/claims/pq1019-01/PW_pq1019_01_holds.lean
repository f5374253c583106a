import PyProof.Rows.All
import Wide.All
import OpenK.AllK
import Wide.FinOn
import PyProof.EqAt
import PyProof.NeKinds
import PyProof.DictWalks
import PyProof.WalksMore
import PyProof.ZipIter
import KE.LcSums
import PyProof.SetRoads
import PyProof.DictIter
import KE.KDictOf
import PyProof.ForRange
import PyProof.StrBlock
import Lean
import PySem.Challenge.RW_pq1019_01
open PySem PySem.W PySem.Calls PyProof.Rows
set_option Elab.async false
set_option compiler.extract_closed false
set_option bootstrap.genMatcherCode false
set_option compiler.reuse false
set_option hygiene false
set_option maxRecDepth 100000
set_option maxHeartbeats 0
set_option linter.all false
set_option backward.match.sparseCases false
set_option genCtorIdx false
set_option genInjectivity false
set_option genSizeOf false
set_option genSizeOfSpec false
namespace Mine
theorem mS{α:Type}{a b:α}(h:a∈[b]):a=b:=List.mem_singleton.mp h
theorem mA{α:Type}{a:α}{l m:List α}(h:a∈l++m):a∈l∨a∈m:=List.mem_append.mp h
theorem mC{α:Type}{a b:α}{l:List α}(h:a∈b::l):a=b∨a∈l:=List.mem_cons.mp h
theorem mM{α β:Type}{f:α→β}{b:β}{l:List α}(h:b∈l.map f):∃a,a∈l∧f a=b:=List.mem_map.mp h
theorem cC{α:Type}{a:α}{l m:List α}(h:a∈l):a∈l++m:=List.mem_append_left m h
theorem bD{α:Type}{a:α}{l m:List α}(h:a∈m):a∈l++m:=List.mem_append_right l h
theorem fN{α:Type}{l:List α}{i:Nat}{a:α}(h:l[i]? =some a):∃(h:i<l.length),l[i]=a:=List.getElem?_eq_some_iff.mp h
theorem a_{α:Type}{l:List α}{i:Nat}(h:i<l.length):l[i]? =some l[i]:=List.getElem?_eq_getElem h
theorem dm{α:Type}{l m:List α}{n:Nat}(h:n<l.length):(l++m)[n]? =l[n]?:=List.getElem?_append_left h
theorem eY{α:Type}{l m:List α}{n:Nat}(h:l.length≤n):(l++m)[n]? =m[n-l.length]?:=List.getElem?_append_right h
theorem aJ{n m k:Nat}(h:n<m)(g:m≤k):n<k:=Nat.lt_of_lt_of_le h g
theorem aq{n m k:Nat}(h:n≤m)(g:m≤k):n≤k:=Nat.le_trans h g
theorem br{n k:Nat}:n≤n+k:=Nat.le_add_right n k
theorem bl{n:Nat}:n≤n:=Nat.le_refl n
theorem gP{n m:Nat}(h:n<m):n≠m:=Nat.ne_of_lt h
theorem bV{α:Type}{a b:α}(h:some a=some b):a=b:=Option.some.inj h
theorem WW{α β:Type}{l:List α}{f:α→β}:(l.map f).length=l.length:=List.length_map f
theorem fz{α:Type}{l:List α}:l++[]=l:=List.append_nil l
theorem eZ{α:Type}{a b:α}{l:List α}:a∈b::l↔a=b∨a∈l:=List.mem_cons
theorem g9{α:Type}{a:α}:¬a∈([]:List α):=List.not_mem_nil
theorem bX{α:Type}{l:List α}:l<+:l:=List.prefix_refl l
theorem aj{h:Heap}{a:Addr}{o:Obj}(e:h.get? a=some o):a<h.objs.size:=Heap.lt_size e
inductive Ln where
 |a (i:Nat)
 |n (k:Nat)
 |p (x y:Ln)
 |m (k:Nat) (x:Ln)
noncomputable def wV:List Nat→Nat→Nat
 | [],_=>0
 |x::_,0=>x
 |_::l,i+1=>wV l i
noncomputable def Ln.ev(l:List Nat):Ln→Nat
 |.a i=>wV l i
 |.n k=>k
 |.p x y=>x.ev l+y.ev l
 |.m k x=>k*x.ev l
noncomputable def Ln.k0:Ln→Nat
 |.a _=>0
 |.n k=>k
 |.p x y=>x.k0+y.k0
 |.m k x=>k*x.k0
noncomputable def Ln.co:Ln→Nat→Nat
 |.a i,j=>bif i.beq j then 1 else 0
 |.n _,_=>0
 |.p x y,j=>x.co j+y.co j
 |.m k x,j=>k*x.co j
noncomputable def dot:List Nat→(Nat→Nat)→Nat
 | [],_=>0
 |a::l,f=>f 0*a+dot l fun i=>f (i+1)
theorem Lj:∀(l:List Nat)(f g:Nat→Nat),dot l (fun i=>f i+g i)=dot l f+dot l g
 | [],_,_=>rfl
 |a::l,f,g=>by
  show(f 0+g 0)*a+dot l (fun i=>f (i+1)+g (i+1))=(f 0*a+dot l _)+(g 0*a+dot l _)
  rw[Lj l,Nat.add_mul,Nat.add_add_add_comm]
theorem Lk(k:Nat):∀(l:List Nat)(f:Nat→Nat),dot l (fun i=>k*f i)=k*dot l f
 | [],_=>rfl
 |a::l,f=>by
  show k*f 0*a+dot l (fun i=>k*f (i+1))=k*(f 0*a+dot l _)
  rw[Lk k l,Nat.mul_add,Nat.mul_assoc]
theorem DT:∀(l:List Nat),dot l (fun _=>0)=0
 | []=>rfl
 |a::l=>by
  show 0*a+dot l (fun _=>0)=0
  rw[DT l,Nat.zero_mul]
theorem Ll:∀(l:List Nat)(i:Nat),dot l (fun j=>bif i.beq j then 1 else 0)=wV l i
 | [],_=>rfl
 |a::l,0=>by
  show 1*a+dot l (fun _=>0)=a
  rw[DT,Nat.one_mul];rfl
 |a::l,i+1=>by
  show 0*a+dot l (fun j=>bif i.beq j then 1 else 0)=wV l i
  rw[Ll l i,Nat.zero_mul,Nat.zero_add]
theorem Lm:∀(l:List Nat)(n:Nat)(f g:Nat→Nat),(∀i,i<l.length→f (n+i)≤g (n+i))→dot l (fun i=>f (n+i))≤dot l (fun i=>g (n+i))
 | [],_,_,_,_=>bl
 |a::l,n,f,g,h=>by
  have ih:=Lm l (n+1) f g (fun i hi=>by have:=h (i+1) (Nat.succ_lt_succ hi);rwa [Nat.add_assoc,Nat.add_comm 1 i])
  have e:∀f:Nat→Nat,(fun i=>f (n+1+i))=fun i=>f (n+(i+1)):=fun f=>funext fun i=>by rw[Nat.add_assoc,Nat.add_comm 1 i]
  rw[e,e]at ih
  exact Nat.add_le_add (Nat.mul_le_mul_right a (h 0 (Nat.succ_pos _))) ih
theorem Ln.wW(l:List Nat):∀x:Ln,x.ev l=x.k0+dot l x.co
 |.a i=>by
  show wV l i=0+dot l _
  rw[Nat.zero_add];exact(Ll l i).symm
 |.n k=>by
  show k=k+dot l (fun _=>0)
  rw[DT];rfl
 |.p x y=>by
  show x.ev l+y.ev l=(x.k0+y.k0)+dot l (fun i=>x.co i+y.co i)
  rw[Ln.wW l x,Ln.wW l y,Lj,Nat.add_add_add_comm]
 |.m k x=>by
  show k*x.ev l=k*x.k0+dot l (fun i=>k*x.co i)
  rw[Ln.wW l x,Lk,Nat.mul_add]
noncomputable def Ai(f:Nat→Bool):Nat→Bool
 |0=>true
 |n+1=>f n&&Ai f n
theorem Lo{f:Nat→Bool}:∀{n:Nat},Ai f n=true→∀i,i<n→f i=true
 |0,_,i,h=>absurd h (Nat.not_lt_zero i)
 |n+1,e,i,h=>by
  have e:(f n&&Ai f n)=true:=e
  rw[Bool.and_eq_true]at e
  rcases Nat.lt_succ_iff_lt_or_eq.mp h with h|h
  ·exact Lo e.2 i h
  ·rw[h];exact e.1
noncomputable def gtB(n:Nat)(x y:Ln):Bool:=Nat.blt y.k0 x.k0&&Ai (fun i=>Nat.ble (y.co i) (x.co i)) n
theorem WS{l:List Nat}{x y:Ln}(h:gtB l.length x y=true):¬x.ev l≤y.ev l:=by
 unfold gtB at h
 rw[Bool.and_eq_true]at h
 have a:y.k0<x.k0:=Nat.le_of_ble_eq_true h.1
 have b:=Lm l 0 y.co x.co (fun i hi=>by rw[Nat.zero_add];exact Nat.le_of_ble_eq_true (Lo h.2 i hi))
 have e:∀f:Nat→Nat,(fun i=>f (0+i))=f:=fun f=>funext fun i=>by rw[Nat.zero_add]
 rw[e,e]at b
 rw[Ln.wW l x,Ln.wW l y]
 exact Nat.not_le_of_lt (Nat.add_lt_add_of_lt_of_le a b)
abbrev Pr:=Ln×Ln
noncomputable def Pr.ok(l:List Nat)(p:Pr):Prop:=p.1.ev l≤p.2.ev l
noncomputable def iR(l:List Nat):List Pr→Prop
 | []=>True
 |p::ps=>p.ok l∧iR l ps
theorem iR.app{l:List Nat}:∀{ps qs:List Pr},iR l ps→iR l qs→iR l (ps++qs)
 | [],_,_,h=>h
 |_::_,_,a,h=>⟨a.1,iR.app a.2 h⟩
noncomputable def comb:List Nat→List Pr→Pr
 |k::ks,p::ps=>(.p (.m k p.1) (comb ks ps).1,.p (.m k p.2) (comb ks ps).2)
 |_,_=>(.n 0,.n 0)
theorem Lp{l:List Nat}:∀(ks:List Nat)(ps:List Pr),iR l ps→(comb ks ps).ok l
 | [],_,_=>bl
 |_::_,[],_=>bl
 |k::ks,_::ps,h=>Nat.add_le_add (Nat.mul_le_mul_left k h.1) (Lp ks ps h.2)
abbrev Rl:=Nat×Ln×Ln
noncomputable def Lq(l:List Nat):Nat→Ln→Ln→Prop
 |0,x,y=>x.ev l≤y.ev l
 |1,x,y=>x.ev l<y.ev l
 |_,x,y=>x.ev l=y.ev l
noncomputable def Lr:Nat→Ln→Ln→List Pr
 |0,x,y=>[(x,y)]
 |1,x,y=>[(.p x (.n 1),y)]
 |_,x,y=>[(x,y),(y,x)]
theorem WT{l:List Nat}{x y:Ln}:∀{k:Nat},Lq l k x y→iR l (Lr k x y)
 |0,h=>⟨h,trivial⟩
 |1,h=>⟨h,trivial⟩
 |_+2,h=>⟨Nat.le_of_eq h,Nat.le_of_eq (Eq.symm h),trivial⟩
noncomputable def wX(l:List Nat):List Ln→List Nat
 | []=>[]
 |y::ys=>y.ev l::wX l ys
noncomputable def hd1:List Ln→Ln
 |y::_=>y
 | []=>.n 0
noncomputable def Ls(l:List Nat)(x:Ln)(ys:List Ln):Nat→Prop
 |0=>x.ev l≤(hd1 ys).ev l
 |1=>x.ev l<(hd1 ys).ev l
 |2=>x.ev l=(hd1 ys).ev l
 |3=>¬x.ev l=(hd1 ys).ev l
 |4=>False
 |5=>¬x.ev l∈wX l ys
 |6=>∀z,z∈wX l ys→x.ev l≤z
 |_=>∀z,z∈wX l ys→z<x.ev l
noncomputable def mp(f:Ln→List Pr):List Ln→List (List Pr)
 | []=>[]
 |y::ys=>f y::mp f ys
noncomputable def Lu(x:Ln)(ys:List Ln):Nat→List (List Pr)
 |0=>[[(.p (hd1 ys) (.n 1),x)]]
 |1=>[[(hd1 ys,x)]]
 |2=>[[(.p (hd1 ys) (.n 1),x)],[(.p x (.n 1),hd1 ys)]]
 |3=>[[(x,hd1 ys),(hd1 ys,x)]]
 |4=>[[]]
 |5=>mp (fun y=>[(x,y),(y,x)]) ys
 |6=>mp (fun y=>[(.p y (.n 1),x)]) ys
 |_=>mp (fun y=>[(x,y)]) ys
noncomputable def Aj(l:List Nat):List (List Pr)→Prop
 | []=>True
 |b::bs=>¬iR l b∧Aj l bs
theorem Ak{l:List Nat}{x y:Ln}(h:¬iR l [(.p y (.n 1),x)]):x.ev l≤y.ev l:=Nat.le_of_lt_succ (Nat.lt_of_not_le fun q=>h ⟨q,trivial⟩)
theorem Lv{l:List Nat}{x y:Ln}(h:¬iR l [(x,y)]):y.ev l<x.ev l:=Nat.lt_of_not_le fun q=>h ⟨q,trivial⟩
theorem Lw{l:List Nat}{x y:Ln}(h:¬iR l [(x,y),(y,x)]):¬x.ev l=y.ev l:=fun e=>h ⟨Nat.le_of_eq e,Nat.le_of_eq e.symm,trivial⟩
theorem Al{l:List Nat}{f:Ln→List Pr}{P:Nat→Prop}(h:∀y,¬iR l (f y)→P (y.ev l)):∀{ys:List Ln},Aj l (mp f ys)→∀z,z∈wX l ys→P z
 | [],_,_,q=>nomatch q
 |y::_,n,_,q=>(mC q).elim (fun e=>e▸h y n.1) (Al h n.2 _)
theorem WU{l:List Nat}{x:Ln}{ys:List Ln}:∀{k:Nat},Aj l (Lu x ys k)→Ls l x ys k
 |0,n=>Ak n.1
 |1,n=>Lv n.1
 |2,n=>Nat.le_antisymm (Ak n.1) (Ak n.2.1)
 |3,n=>Lw n.1
 |4,n=>n.1 trivial
 |5,n=>fun q=>Al (f:=fun y=>[(x,y),(y,x)]) (P:=fun z=>¬x.ev l=z) (fun _ h=>Lw h) n _ q rfl
 |6,n=>Al (f:=fun y=>[(.p y (.n 1),x)]) (P:=fun z=>x.ev l≤z) (fun _ h=>Ak h) n
 |_+7,n=>Al (f:=fun y=>[(x,y)]) (P:=fun z=>z<x.ev l) (fun _ h=>Lv h) n
noncomputable def num:List Nat→Nat×List Nat
 |b::r=>bif b.beq 15 then(match r with
  |x::y::r=>(x+16*y,r)
  |r=>(0,r))else(b,r)
 |r=>(0,r)
noncomputable def cut:Nat→List Nat→List Nat×List Nat
 |n+1,a::l=>match cut n l with
  |(x,r)=>(a::x,r)
 |_,l=>([],l)
noncomputable def ch(n:Nat)(hs:List Pr):List (List Pr)→List Nat→Bool
 | [],_=>true
 |b::bs,c=>match num c with
  |(m,c)=>match cut m c with
   |(ks,c)=>gtB n (comb ks (hs++b)).1 (comb ks (hs++b)).2&&ch n hs bs c
theorem Lx{l:List Nat}{hs:List Pr}(a:iR l hs):∀{bs:List (List Pr)}{c:List Nat},ch l.length hs bs c=true→Aj l bs
 | [],_,_=>trivial
 |b::bs,c,h=>by
  have h:(gtB l.length (comb _ (hs++b)).1 (comb _ (hs++b)).2&&ch l.length hs bs _)=true:=h
  rw[Bool.and_eq_true]at h
  exact⟨fun q=>WS h.1 (Lp _ _ (a.app q)),Lx a h.2⟩
noncomputable def prs:List Rl→List Pr
 | []=>[]
 |r::rs=>Lr r.1 r.2.1 r.2.2++prs rs
noncomputable def Den(l:List Nat)(G:Prop):List Rl→Prop
 | []=>G
 |r::rs=>Lq l r.1 r.2.1 r.2.2→Den l G rs
theorem Ly{l:List Nat}{G:Prop}:∀{rs:List Rl},(iR l (prs rs)→G)→Den l G rs
 | [],h=>h trivial
 |r::_,h=>fun q=>Ly fun z=>h ((WT q).app z)
noncomputable def Lz{α:Type}(n:Nat)(k:Nat→α):α:=match n with
 |0=>k 0
 |m+1=>k m.succ
noncomputable def LA:Nat→Nat→List Nat
 |0,_=>[]
 |f+1,e=>bif e.beq 0 then []else Lz (e % 16) fun d=>Lz (e / 16) fun q=>d::LA f q
noncomputable def qA:Nat→List Nat→Ln×List Nat
 |f+1,0::r=>match qA f r with
  |(x,r)=>match qA f r with
   |(y,r)=>(.p x y,r)
 |f+1,(b+1)::r=>bif Nat.ble b 10 then(.a b,r)else match r with
  |c::r=>bif b.beq 11 then(.n c,r)else bif b.beq 13 then(.a (c+11),r)else bif b.beq 14 then(match qA f r with
   |(x,r)=>(.m c x,r))else match r with
   |d::e::r=>(.n (c+16*(d+16*e)),r)
   |r=>(.n 0,r)
  |r=>(.n 0,r)
 |_,r=>(.n 0,r)
noncomputable def DU:Nat→List Nat→List Ln×List Nat
 |0,l=>([],l)
 |n+1,l=>match qA 99 l with
  |(x,l)=>match DU n l with
   |(xs,l)=>(x::xs,l)
noncomputable def LB:Nat→List Nat→List Rl×List Nat
 |n+1,c::l=>match qA 99 l with
  |(x,l)=>match qA 99 l with
   |(y,l)=>match LB n l with
    |(rs,l)=>((c,x,y)::rs,l)
 |_,l=>([],l)
noncomputable def zc(n:Nat):List Rl×List Nat→Bool
 |(rs,k::l)=>match qA 99 l with
  |(x,l)=>match num l with
   |(m,l)=>match DU m l with
    |(ys,l)=>ch n (prs rs) (Lu x ys k) l
 |_=>false
noncomputable def zd(at_:List Nat):List Rl×List Nat→Prop
 |(rs,k::l)=>match qA 99 l with
  |(x,l)=>match num l with
   |(m,l)=>match DU m l with
    |(ys,_)=>Den at_ (Ls at_ x ys k) rs
 |_=>True
noncomputable def LC(e:Nat):List Rl×List Nat:=match num (LA 999 e)with
 |(m,l)=>LB m l
theorem WV{l:List Nat}:∀{p:List Rl×List Nat},zc l.length p=true→zd l p
 |(rs,k::r),h=>Ly fun a=>WU (Lx a h)
 |(_,[]),_=>trivial
theorem zq(e:Nat)(l:List Nat)(h:zc l.length (LC e)=true):zd l (LC e):=WV h
theorem zs(a b:Nat):a≤a-b+b:=(Nat.le_total b a).elim (fun h=>Nat.le_of_eq (Nat.sub_add_cancel h).symm) fun h=>aq h (Nat.le_add_left ..)
local macro_rules |`(#[$n:num,$t,*])=>`(zq (nat_lit $n) [$t,*] (by kernel_rfl))
theorem oA{x k:Nat}:x≤x+k:=Nat.le_add_right x k
theorem oB{x a b:Nat}(h:Nat.ble a b=true):x+a≤x+b:=Nat.add_le_add_left (Nat.le_of_ble_eq_true h) x
theorem oC{x a b:Nat}(h:Nat.ble (a+1) b=true):x+a<x+b:=Nat.add_lt_add_left (Nat.le_of_ble_eq_true h) x
theorem oD{x k:Nat}(h:Nat.ble 1 k=true):x<x+k:=Nat.lt_add_of_pos_right (Nat.le_of_ble_eq_true h)
theorem oE{x y k:Nat}(h:x≤y):x≤y+k:=aq h (Nat.le_add_right y k)
theorem oF{x y k:Nat}(h:x<y):x<y+k:=aJ h (Nat.le_add_right y k)
theorem oG{x y e:Nat}(h:y=e)(g:x≤e):x≤y:=h▸g
theorem oH{x y e:Nat}(h:y=e)(g:x<e):x<y:=h▸g
theorem oI{x y z:Nat}(h:z≤y)(g:x≤z):x≤y:=aq g h
theorem oJ{x y z:Nat}(h:z≤y)(g:x<z):x<y:=aJ g h
theorem oK{x y z:Nat}(h:z<y)(g:x≤z):x<y:=Nat.lt_of_le_of_lt g h
theorem oL{x y z:Nat}(h:z<y)(g:x≤z):x≤y:=aq g (Nat.le_of_lt h)
theorem oM{x y:Nat}(h:x<y):x≠y:=gP h
theorem oN{x y:Nat}(h:y<x):x≠y:=Nat.ne_of_gt h
theorem oP{x y a b:Nat}(e:Nat.ble a b=true)(h:x≤y):x+a≤y+b:=Nat.add_le_add h (Nat.le_of_ble_eq_true e)
theorem oQ{x y a b:Nat}(e:Nat.ble a b=true)(h:x<y):x+a<y+b:=Nat.add_lt_add_of_lt_of_le h (Nat.le_of_ble_eq_true e)
theorem oS{x c d:Nat}(h:x≤d)(g:Nat.ble d c=true):x≤c:=aq h (Nat.le_of_ble_eq_true g)
theorem oU{x y c d:Nat}(e:x=y)(h:y≤d)(g:Nat.ble d c=true):x≤c:=e▸aq h (Nat.le_of_ble_eq_true g)
theorem oV{x y:Nat}(h:¬y<x):x≤y:=Nat.le_of_not_lt h
theorem oO{x a b:Nat}(h:Nat.beq a b=false):x+a≠x+b:=fun e=>Nat.ne_of_beq_eq_false h (Nat.add_left_cancel e)
theorem oW{x b:Nat}(h:Nat.beq 0 b=false):x≠x+b:=fun e=>Nat.ne_of_beq_eq_false h (Nat.add_left_cancel e)
theorem oX{x b:Nat}(h:Nat.beq b 0=false):x+b≠x:=fun e=>Nat.ne_of_beq_eq_false h (Nat.add_left_cancel e)
theorem oY{x y z c d:Nat}(e:x=y)(h:y<z)(f:z≤d)(g:Nat.ble d c=true):x≤c:=e▸aq (Nat.le_of_lt h) (aq f (Nat.le_of_ble_eq_true g))
theorem oZ{x z c d:Nat}(h:x<z)(f:z≤d)(g:Nat.ble d c=true):x≤c:=aq (Nat.le_of_lt h) (aq f (Nat.le_of_ble_eq_true g))
theorem oa0{x y c d:Nat}(e:x=y)(h:y=d)(g:Nat.ble d c=true):x≤c:=by rw[e,h];exact Nat.le_of_ble_eq_true g
theorem oa1{x c d:Nat}(h:x=d)(g:Nat.ble d c=true):x≤c:=by rw[h];exact Nat.le_of_ble_eq_true g
def tY(s:String):Lean.MacroM (Lean.TSyntax `tactic):=do
 let l:=s.splitOn " "
 let a←(l.getD 1 "").toList.mapM fun c=>if c=='a' then `((by with_reducible assumption))else if c=='r' then `(rfl)else if c=='h' then `(?_)else pure ⟨Lean.Syntax.mkNumLit c.toString⟩
 let t:=Lean.Syntax.mkApp (Lean.mkIdent (l.getD 0 "").toName) a.toArray
 match l.getD 2 "" with
 |""=>`(tactic| exact $t)
 |"f"=>`(tactic| refine $t)
 |"l"=>`(tactic| (refine $t;left))
 |_=>`(tactic| (refine $t<;>k_in))
def tF(l:List String)(p q:Array (Lean.TSyntax `tactic)):Lean.MacroM (Lean.TSyntax `tactic):=do
 let e←l.mapM tY
 let e:=p++e.toArray++q
 `(tactic| first $[|$e:tactic]*)
local macro_rules
  | `(tactic| left) => do
    let f ← tF ["oP rh f", "oQ rh f", "oE h f", "oF h f", "oG ah f", "oH ah f", "oI ah f", "oJ ah f", "oL ah f", "oK ah f"] #[] #[]
    let k ← tF ["oU aar", "oa1 ar", "oa0 aar", "oZ aar", "oY aaar", "oV a"] #[] #[]
    tF ["oM h l", "oA", "oD r", "oS ar", "oB r", "oC r", "oR", "oz r"] #[← `(tactic| with_reducible assumption)] #[← `(tactic| ($f; left)), k]
  | `(tactic| right) => tF ["oO r", "oW r", "oX r", "oN h l"] #[] #[]
local macro_rules | `(tactic| ac_rfl) => `(tactic| (show (let P05:Prop:=_;P05);intro P05))
local macro_rules |`(∅)=>`(by kernel_rfl)
local macro_rules |`(⇑$x)=>`(($x).objs.size)
local macro_rules |`(tactic|and_intros)=>`(tactic|first|assumption|(apply Ne.symm;assumption)|left|lia)
def P00:Lean.Syntax:=.node .none ``Lean.Parser.Tactic.tacticSeq #[.node .none ``Lean.Parser.Tactic.tacticSeq1Indented #[.node .none `null #[.node .none ``Lean.Parser.Tactic.tacticAnd_intros #[.atom .none "and_intros"]]]]
theorem oR{x:Nat}:x≤x:=Nat.le_refl x
theorem oz{a b:Nat}(h:Nat.ble a b=true):a≤b:=Nat.le_of_ble_eq_true h
theorem oi{x y:Nat}(h:x<y):x+1≤y:=h
theorem oj{x y:Nat}(h:x+1≤y):x<y:=h
theorem Oi{x y e k:Nat}(h:y=e)(g:x≤e+k):x≤y+k:=h▸g
theorem ox{x y e:Nat}(h:x=e)(g:e≤y):x≤y:=h▸g
theorem oy{x y e:Nat}(h:x=e)(g:e<y):x<y:=h▸g
theorem MD{x y e k:Nat}(h:x=e)(g:e+k<y):x+k<y:=h▸g
theorem ol{x y z:Nat}(g:z≤y)(h:x<z):x≤y:=aq (Nat.le_of_lt h) g
theorem xV{x d c:Nat}(h:x≤d)(g:Nat.ble (d+1) c=true):x<c:=Nat.lt_of_le_of_lt h (Nat.le_of_ble_eq_true g)
theorem Oj{x d c:Nat}(h:x<d)(g:Nat.ble d (c+1)=true):x≤c:=Nat.le_of_lt_succ (aJ h (Nat.le_of_ble_eq_true g))
theorem uY{x:Nat}{l m:List Nat}(h:x∈l):x∈l++m:=cC h
theorem b_{α:Type}{x:α}{l:List α}(i:Nat)(h:l[i]? =some x):x∈l:=List.mem_of_getElem? h
theorem ic{N:Nat}{l D:List Nat}(h:∀x,x∈l→N≤x):∀x,x∈l++D→x∈D∨N≤x:=fun x q=>(mA q).elim (fun e=>.inr (h x e)) .inl
theorem Fi{P:Nat→Prop}{a b c d e n:Nat}(h:a=b∨a=c∨a=d∨a=e∨n≤a)(p:P b)(q:P c)(r:P d)(s:P e)(t:n≤a→P a):P a:=h.elim (fun z=>z▸p) fun h=>h.elim (fun z=>z▸q) fun h=>h.elim (fun z=>z▸r) fun h=>h.elim (fun z=>z▸s) t
theorem Fj{P:Nat→Prop}{a b c d n:Nat}(h:a=b∨a=c∨a=d∨n≤a)(p:P b)(q:P c)(r:P d)(t:n≤a→P a):P a:=h.elim (fun z=>z▸p) fun h=>h.elim (fun z=>z▸q) fun h=>h.elim (fun z=>z▸r) t
theorem MP{α:Type}{l:List α}(h:l.length=2):∃a b,l=[a,b]:=match l,h with
 | [a,b],_=>⟨a,b,rfl⟩
theorem dN:([]:List Nat).Nodup:=List.nodup_nil
theorem dC{a:Nat}{l:List Nat}(h:a∉l)(t:l.Nodup):(a::l).Nodup:=List.nodup_cons.mpr ⟨h,t⟩
theorem nh{x a:Nat}{l:List Nat}(h:x∉a::l):x≠a:=fun e=>h (e▸List.mem_cons_self)
theorem nt{x a:Nat}{l:List Nat}(h:x∉a::l):x∉l:=fun q=>h (List.mem_cons_of_mem _ q)
theorem dh{a:Nat}{l:List Nat}(d:(a::l).Nodup):a∉l:=(List.nodup_cons.mp d).1
theorem dt{a:Nat}{l:List Nat}(d:(a::l).Nodup):l.Nodup:=(List.nodup_cons.mp d).2
theorem gh{P:Nat→Prop}{a:Nat}{l:List Nat}(g:∀y,y∈a::l→P y):P a:=g a List.mem_cons_self
theorem gt{P:Nat→Prop}{a:Nat}{l:List Nat}(g:∀y,y∈a::l→P y):∀y,y∈l→P y:=fun y q=>g y (List.mem_cons_of_mem _ q)
theorem Fl{x a b c:Nat}{l:List Nat}{G:Prop}(h:x∉a::b::c::l)(k:x≠a→x≠b→x≠c→G):G:=k (nh h) (nh (nt h)) (nh (nt (nt h)))
theorem gS{x a b c d:Nat}{l:List Nat}{G:Prop}(h:x∉a::b::c::d::l)(k:x≠a→x≠b→x≠c→x≠d→G):G:=k (nh h) (nh (nt h)) (nh (nt (nt h))) (nh (nt (nt (nt h))))
theorem sG{x a b c d e:Nat}{l:List Nat}{G:Prop}(h:x∉a::b::c::d::e::l)(k:x≠a→x≠b→x≠c→x≠d→x≠e→G):G:=k (nh h) (nh (nt h)) (nh (nt (nt h))) (nh (nt (nt (nt h)))) (nh (nt (nt (nt (nt h)))))
theorem xW{x a b c d e f:Nat}{l:List Nat}{G:Prop}(h:x∉a::b::c::d::e::f::l)(k:x≠a→x≠b→x≠c→x≠d→x≠e→x≠f→G):G:=k (nh h) (nh (nt h)) (nh (nt (nt h))) (nh (nt (nt (nt h)))) (nh (nt (nt (nt (nt h))))) (nh (nt (nt (nt (nt (nt h))))))
theorem Ol{x a b c d e f g:Nat}{l:List Nat}{G:Prop}(h:x∉a::b::c::d::e::f::g::l)(k:x≠a→x≠b→x≠c→x≠d→x≠e→x≠f→x≠g→G):G:=k (nh h) (nh (nt h)) (nh (nt (nt h))) (nh (nt (nt (nt h)))) (nh (nt (nt (nt (nt h))))) (nh (nt (nt (nt (nt (nt h)))))) (nh (nt (nt (nt (nt (nt (nt h)))))))
theorem Ao{P:Nat→Prop}{a b c d:Nat}{l:List Nat}{G:Prop}(g:∀y,y∈a::b::c::d::l→P y)(k:P a→P b→P c→P d→G):G:=k (gh g) (gh (gt g)) (gh (gt (gt g))) (gh (gt (gt (gt g))))
theorem Mi{P:Nat→Prop}{a b c d e:Nat}{l:List Nat}{G:Prop}(g:∀y,y∈a::b::c::d::e::l→P y)(k:P a→P b→P c→P d→P e→G):G:=k (gh g) (gh (gt g)) (gh (gt (gt g))) (gh (gt (gt (gt g)))) (gh (gt (gt (gt (gt g)))))
theorem w_{a b c d:Nat}{l:List Nat}{G:Prop}(h:(a::b::c::d::l).Nodup)(k:a≠b→a≠c→a≠d→b≠c→b≠d→c≠d→G):G:=k (nh (dh h)) (nh (nt (dh h))) (nh (nt (nt (dh h)))) (nh (dh (dt h))) (nh (nt (dh (dt h)))) (nh (dh (dt (dt h))))
theorem Ax{a b c d e:Nat}{l:List Nat}{G:Prop}(h:(a::b::c::d::e::l).Nodup)(k:a≠b→a≠c→a≠d→a≠e→b≠c→b≠d→b≠e→c≠d→c≠e→d≠e→G):G:=k (nh (dh h)) (nh (nt (dh h))) (nh (nt (nt (dh h)))) (nh (nt (nt (nt (dh h))))) (nh (dh (dt h))) (nh (nt (dh (dt h)))) (nh (nt (nt (dh (dt h))))) (nh (dh (dt (dt h)))) (nh (nt (dh (dt (dt h))))) (nh (dh (dt (dt (dt h)))))
theorem uZ{a b c d e f:Nat}{l:List Nat}{G:Prop}(h:(a::b::c::d::e::f::l).Nodup)(k:a≠b→a≠c→a≠d→a≠e→a≠f→b≠c→b≠d→b≠e→b≠f→c≠d→c≠e→c≠f→d≠e→d≠f→e≠f→G):G:=k (nh (dh h)) (nh (nt (dh h))) (nh (nt (nt (dh h)))) (nh (nt (nt (nt (dh h))))) (nh (nt (nt (nt (nt (dh h)))))) (nh (dh (dt h))) (nh (nt (dh (dt h)))) (nh (nt (nt (dh (dt h))))) (nh (nt (nt (nt (dh (dt h)))))) (nh (dh (dt (dt h)))) (nh (nt (dh (dt (dt h))))) (nh (nt (nt (dh (dt (dt h)))))) (nh (dh (dt (dt (dt h))))) (nh (nt (dh (dt (dt (dt h)))))) (nh (dh (dt (dt (dt (dt h))))))
theorem A_{a b c d e f g:Nat}{l:List Nat}{G:Prop}(h:(a::b::c::d::e::f::g::l).Nodup)(k:a≠b→a≠c→a≠d→a≠e→a≠f→a≠g→b≠c→b≠d→b≠e→b≠f→b≠g→c≠d→c≠e→c≠f→c≠g→d≠e→d≠f→d≠g→e≠f→e≠g→f≠g→G):G:=k (nh (dh h)) (nh (nt (dh h))) (nh (nt (nt (dh h)))) (nh (nt (nt (nt (dh h))))) (nh (nt (nt (nt (nt (dh h)))))) (nh (nt (nt (nt (nt (nt (dh h))))))) (nh (dh (dt h))) (nh (nt (dh (dt h)))) (nh (nt (nt (dh (dt h))))) (nh (nt (nt (nt (dh (dt h)))))) (nh (nt (nt (nt (nt (dh (dt h))))))) (nh (dh (dt (dt h)))) (nh (nt (dh (dt (dt h))))) (nh (nt (nt (dh (dt (dt h)))))) (nh (nt (nt (nt (dh (dt (dt h))))))) (nh (dh (dt (dt (dt h))))) (nh (nt (dh (dt (dt (dt h)))))) (nh (nt (nt (dh (dt (dt (dt h))))))) (nh (dh (dt (dt (dt (dt h)))))) (nh (nt (dh (dt (dt (dt (dt h))))))) (nh (dh (dt (dt (dt (dt (dt h)))))))
theorem iU{α:Type}{P:α→Prop}:∀x,x∈([]:List α)→P x:=fun _ h=>nomatch h
theorem c_{α:Type}{P:α→Prop}{a:α}{l:List α}(h:P a)(t:∀x,x∈l→P x):∀x,x∈a::l→P x:=fun x q=>(mC q).elim (fun e=>e▸h) (t x)
theorem Ba{x a b:Nat}(h:x∈[a,b]):x=a∨x=b:=(mC h).imp id mS
theorem kAn{P:Nat→Prop}:∀x,x∈([]:List Nat)→P x:=fun _ h=>nomatch h
theorem kAc{P:Nat→Prop}{a:Nat}{l:List Nat}(h:P a)(t:∀x,x∈l→P x):∀x,x∈a::l→P x:=fun x q=>(mC q).elim (fun e=>e▸h) (t x)
theorem kAa{P:Nat→Prop}{l m:List Nat}(h:∀x,x∈l→P x)(t:∀x,x∈m→P x):∀x,x∈l++m→P x:=fun x q=>(mA q).elim (h x) (t x)
theorem kNn{x:Nat}:x∉([]:List Nat):=fun h=>nomatch h
theorem kNc{x a:Nat}{l:List Nat}(h:x≠a)(t:x∉l):x∉a::l:=fun q=>(mC q).elim h t
theorem kNa{x:Nat}{l m:List Nat}(h:x∉l)(t:x∉m):x∉l++m:=fun q=>(mA q).elim h t
theorem kMi{x:Nat}{l:List Nat}(i:Nat)(h:l[i]? =some x):x∈l:=List.mem_of_getElem? h
theorem kMr{x:Nat}{l m:List Nat}(h:x∈m):x∈l++m:=bD h
noncomputable def cB(c:Code):Bool:=!(Nat.ble c.weight 5&&Nat.ble c.cUnits 10)
noncomputable abbrev Ent:=Addr×Obj
noncomputable def bg:List Ent→Nat→Option Ent
 | [],_=>none
 |p::_,0=>some p
 |_::l,n+1=>bg l n
noncomputable def put:List Ent→Nat→Obj→List Ent
 | [],_,_=>[]
 |p::l,0,o=>(p.1,o)::l
 |p::l,n+1,o=>p::put l n o
inductive Ko where
 |base
 |ret (co:Option Code) (hd:Option Value) (k:Result→Sem Fin) (κ:Ko)
noncomputable def fV:Ko→Nat
 |.base=>0
 |.ret _ _ _ κ=>fV κ+1
noncomputable abbrev gj:=List (Code×Pos)→Sem Fin
structure Out where
 mu:List Ent
 sz:Nat
 tk:Nat
 ps:List (Addr×Addr)
 ks:List gj
inductive Res where
 |fin (r:Result) (o:Out)
 |call (c:Code) (κ:Ko) (o:Out)
 |again (c:Code) (κ:Ko) (o:Out)
 |bad (n:Nat)
noncomputable def ug:Code→Sem Fin:=PySem.W.Fast.tw11892475500146522536 PySem.W.Fast.tw14364793385576792824
theorem UE:denote treeTable=ug:=by
 rw[PySem.W.Fast.te11892475500146522536,PySem.W.Fast.te14364793385576792824]
 rfl
structure Vw where
 prog:Program
 w:World
 kt:X.KT
 ro:List Ent
noncomputable def xN:Obj:=⟨.none,none,.dict #[] 0,#[]⟩
noncomputable def wk:Sem Fin→Sem Fin
 |.load _ _ kk=>kk xN
 |t=>t
noncomputable abbrev K9:=List Nat→Option Code→Ko→Sem Fin→List Ent→Nat→Nat→List (Addr×Addr)→List gj→Res
noncomputable def retS(ih:K9)(r:Result)(tp:List Nat)(κ:Ko)(mu:List Ent)(sz tk:Nat)(ps:List (Addr×Addr))(ks:List gj):Res:=match κ with
 |.base=>.fin r ⟨mu,sz,tk,ps,ks⟩
 |.ret co _ k κ=>ih tp co κ (k r) mu sz tk ps ks
noncomputable def pop(n:Nat)(tp:List Nat)(f:Nat→List Nat→Res):Res:=match tp with
 | []=>.bad n
 |r::tp=>f r tp
noncomputable def uh{β:Type}(n:Nat)(o:Option β)(f:β→Res):Res:=match o with
 |none=>.bad n
 |some b=>f b
noncomputable def rS(n:Nat)(b:Bool)(r:Res):Res:=match b with
 |false=>.bad n
 |true=>r
noncomputable def zA(n:Nat)(x y:Res):Res:=match n with
 |0=>x
 |_+1=>y
noncomputable def rd(V:Vw)(mu:List Ent)(a:Addr)(r:Nat):Option (Obj×Option Addr):=match r with
 |0=>(V.kt.get a).map fun o=>(o,none)
 |r+1=>(match r % 2 with
  |0=>bg V.ro (r / 2)
  |_+1=>bg mu (r / 2):Option Ent).map fun p=>(p.2,some p.1)
noncomputable def wr(mu:List Ent)(r:Nat):Option (Nat×Ent):=match r % 2 with
 |0=>(bg mu (r / 2-1)).map fun p=>(r / 2-1,p)
 |_+1=>none
noncomputable def ad(a:Addr)(q:Option Addr)(ps:List (Addr×Addr)):List (Addr×Addr):=match q with
 |none=>ps
 |some b=>(a,b)::ps
noncomputable def zB(V:Vw)(ih:K9)(tp:List Nat)(co:Option Code)(κ:Ko)(t:Sem Fin)(mu:List Ent)(sz tk:Nat)(ps:List (Addr×Addr))(ks:List gj):Res:=match t with
 |.pure fin=>match fin with
  |.done f=>retS ih (.ok f) tp κ mu sz tk ps ks
  |.again c=>uh 1 co fun _=>rS 2 (c.quiet&&!cB c) (pop 3 tp fun r tp=>zA r (.again c κ ⟨mu,sz,tk,ps,ks⟩) (ih tp (some c) κ (ug c) mu sz tk ps ks))
 |.raise e=>retS ih (.error e) tp κ mu sz tk ps ks
 |.rule _ k=>ih tp co κ (k ()) mu sz tk ps ks
 |.at _ k=>ih tp co κ (k ()) mu sz tk ps ks
 |.point _ k=>ih tp co κ (k ()) mu sz tk ps ks
 |.ask k=>ih tp co κ (k ⟨V.prog,V.w.params⟩) mu sz tk ps ks
 |.fresh k=>ih tp co κ (k tk) mu sz (tk+1) ps ks
 |.handled own k=>rS 4 (!own) (ih tp co κ (k none) mu sz tk ps ks)
 |.load a _ k=>pop 5 tp fun r tp=>uh 6 (rd V mu a r) fun x=>ih tp co κ (k x.1) mu sz tk (ad a x.2 ps) ks
 |.loadIfAlive a k=>pop 5 tp fun r tp=>uh 6 (rd V mu a r) fun x=>ih tp co κ (k (some x.1)) mu sz tk (ad a x.2 ps) ks
 |.alloc o k=>rS 9 (!o.isFreed) (ih tp co κ (k sz) (mu++[(sz,o)]) (sz+1) tk ps ks)
 |.update a _ f k=>pop 10 tp fun r tp=>uh 11 (wr mu r) fun x=>rS 13 (!(f x.2.2).isFreed) (ih tp co κ (k ()) (put mu x.1 (f x.2.2)) sz tk ((a,x.2.1)::ps) ks)
 |.call c hd _ _ k=>rS 17 (Nat.ble (fV κ) 12&&!cB c&&hd.isNone) (pop 16 tp fun r tp=>zA r (.call c (.ret co none k κ) ⟨mu,sz,tk,ps,ks⟩) (ih tp (some c) (.ret co none k κ) (ug c) mu sz tk ps ks))
 |.stack k=>ih tp co κ (wk (k [])) mu sz tk ps (k::ks)
 |_=>.bad 20
noncomputable def sim(V:Vw)(n:Nat):K9:=@Nat.rec (fun _=>K9) (fun _ _ _ _ _ _ _ _ _=>.bad 30) (fun _ ih=>zB V ih) n
noncomputable def mE(B:Around):Option Code→Around
 |none=>B
 |some c=>B.under c
noncomputable def fH(A:Around):Ko→Around
 |.base=>A
 |.ret co hd _ κ=>(mE (fH A κ) co).mark hd
noncomputable abbrev RR:=Result→Shared→Prop
noncomputable def Rk(prog:Program)(w:World)(A:Around)(R:RR):Ko→RR
 |.base=>R
 |.ret co _ k κ=>fun r s=>wpAny (model prog w) (mE (fH A κ) co) (k r) (X.postC prog w (fH A κ) (Rk prog w A R κ)) (X.postE (Rk prog w A R κ)) s
noncomputable def C7(prog:Program)(w:World)(A:Around)(R:RR)(co:Option Code)(κ:Ko)(t:Sem Fin)(s:Shared):Prop:=
 wpAny (model prog w) (mE (fH A κ) co) t (X.postC prog w (fH A κ) (Rk prog w A R κ)) (X.postE (Rk prog w A R κ)) s
noncomputable def o6:Res→List (Addr×Addr)
 |.fin _ o=>o.ps|.call _ _ o=>o.ps|.again _ _ o=>o.ps|.bad _=>[]
noncomputable def o7:Res→List gj
 |.fin _ o=>o.ks|.call _ _ o=>o.ks|.again _ _ o=>o.ks|.bad _=>[]
noncomputable def C8:Sem Unit:=PySem.W.Fast.tw15066281185411960212 0
theorem UG:enterFrame=C8:=by
 rw[PySem.W.Fast.te15066281185411960212]
 rfl
noncomputable def UH:List (Code×Pos)→Sem Unit:=match C8 with
 |.stack k=>k
 |_=>fun _=>.pure ()
noncomputable def rT(k:gj):gj:=fun x=>PySem.W.R.bindR (UH x) (fun _=>wk (k []))
structure Good (r:Res):Prop where
 ps:∀p∈o6 r,p.1=p.2
 ks:∀k∈o7 r,k=rT k
structure Base (V:Vw) (h₀:Heap) (mods:List Addr):Prop where
 kt:∀j o,V.kt.get j=some o→h₀.get? j=some o∧j∉mods
 ro:∀p∈V.ro,h₀.get? p.1=some p.2∧p.1∉mods
 st:V.kt.get cStatics=some xN
structure Rep (V:Vw) (h₀:Heap) (mods:List Addr) (h:Heap) (mu:List Ent) (sz:Nat):Prop where
 size:⇑h=sz
 at_:∀p∈mu,h.get? p.1=some p.2
 nd:(mu.map (·.1)).Nodup
 own:∀p∈mu,p.1∈mods∨⇑h₀≤p.1
 keep:∀b o,b∉mods→h₀.get? b=some o→h.get? b=some o
 le:⇑h₀≤sz
structure aa (A:Around) (n:Nat):Prop where
 handled:A.handled=none
 depth:A.depth+5*n<recursionLimit
 units:A.units+10*n<cLine
noncomputable def j0:Option Code→Bool
 |none=>true
 |some c=>!cB c
noncomputable def j4:Ko→Bool
 |.base=>true
 |.ret co hd _ κ=>hd.isNone&&j0 co&&j4 κ
noncomputable def rU(prog:Program)(w:World)(A:Around)(R:RR)(κ:Ko)(c:Code)(s:Shared):Prop:=
 ∀co k rV,κ=.ret co none k rV→∀g l,wpAny (model prog w) (mE (fH A rV) co) (.call c none g l k) (X.postC prog w (fH A rV) (Rk prog w A R rV)) (X.postE (Rk prog w A R rV)) s
theorem rU.code{prog:Program}{w:World}{A:Around}{R:RR}{κ:Ko}{c:Code}{s:Shared}(h:codeAny (model prog w) (fH A κ) c (Rk prog w A R κ) s):rU prog w A R κ c s:=by
 rintro co k rV rfl g l
 exact X.x_call h (by simp)
theorem rU.call{prog:Program}{w:World}{A:Around}{R:RR}{κ:Ko}{f:Value}{pos:List Value}{kw:List (Str×Value)}{s:Shared}
 (h:wpAny (model prog w) (fH A κ) (PySem.call f pos kw) (fun v s'=>Rk prog w A R κ (.ok (.ret v)) s') (fun e s'=>Rk prog w A R κ (.error e) s') s):rU prog w A R κ (.call f ⟨pos,kw⟩) s:=by
 rintro co k rV rfl g l
 intro Γ p hΓ
 have z:=h Γ p hΓ
 unfold PySem.call at z
 rw[Sem.wp_runValue]at z
 refine wpCode_mono (fun r s' q=>?_) z
 cases r with
 |ok f=>cases f with
  |ret v=>exact q Γ p hΓ
  |_=>exact False.elim q
 |error e=>exact q Γ p hΓ
noncomputable def Post(prog:Program)(w:World)(A:Around)(R:RR)(V:Vw)(h₀:Heap)(mods:List Addr)(h₁:Heap)(m₁:List Addr)(g:Array GenState)(d:Drawn)(os:OsState):Res→Prop
 |.fin r o=>∀h',Rep V h₀ mods h' o.mu o.sz→Rep V h₁ m₁ h' o.mu o.sz→R r ⟨h',g,d,o.tk,os⟩
 |.call c κ o=>∀h',Rep V h₀ mods h' o.mu o.sz→Rep V h₁ m₁ h' o.mu o.sz→(∀m,aa A (13+m)→aa (fH A κ) m)→j4 κ=true∧fV κ≤13→rU prog w A R κ c ⟨h',g,d,o.tk,os⟩
 |.again c κ o=>∀h',Rep V h₀ mods h' o.mu o.sz→Rep V h₁ m₁ h' o.mu o.sz→(∀m,aa A (13+m)→aa (fH A κ) m)→j4 κ=true∧fV κ≤13→codeAny (model prog w) (fH A κ) c (Rk prog w A R κ) ⟨h',g,d,o.tk,os⟩
 |.bad _=>False
theorem mZ:∀(l:List Ent)(i:Nat)(p:Ent),bg l i=some p→p∈l
 | [],_,_,h=>nomatch (show(none:Option Ent)=some _ from h)
 |q::l,0,p,h=>bV (show some q=some p from h)▸List.mem_cons_self
 |q::l,i+1,p,h=>List.mem_cons_of_mem _ (mZ l i p h)
theorem xP:∀(l:List Ent)(i:Nat)(o:Obj),(put l i o).map (·.1)=l.map (·.1)
 | [],_,_=>rfl
 |p::l,0,o=>rfl
 |p::l,i+1,o=>congrArg (p.1::·) (xP l i o)
theorem xO:∀(l:List Ent)(i:Nat)(o:Obj)(p q:Ent),(l.map (·.1)).Nodup→bg l i=some p→q∈put l i o→(q∈l∧q.1≠p.1)∨q=(p.1,o)
 | [],_,_,_,_,_,h,_=>nomatch (show(none:Option Ent)=some _ from h)
 |x::l,0,o,p,q,nd,h,m=>by
  have h:=bV (show some x=some p from h)
  subst h
  have m:q∈(x.1,o)::l:=m
  rcases mC m with e|m
  ·exact .inr e
  ·refine .inl ⟨List.mem_cons_of_mem _ m,fun e=>?_⟩
   have:=(List.nodup_cons.mp nd).1
   refine this ?_
   show x.1∈_
   rw[←e];exact List.mem_map_of_mem m
 |x::l,i+1,o,p,q,nd,h,m=>by
  have m:q∈x::put l i o:=m
  rcases mC m with e|m
  ·refine .inl ⟨e▸List.mem_cons_self,fun z=>?_⟩
   have:=(List.nodup_cons.mp nd).1
   refine this ?_
   show x.1∈_
   rw[←e,z];exact List.mem_map_of_mem (mZ l i p h)
  ·rcases xO l i o p q (List.nodup_cons.mp nd).2 h m with⟨a,b⟩|e
   ·exact .inl ⟨List.mem_cons_of_mem _ a,b⟩
   ·exact .inr e
section
variable {V:Vw}{h₀ h:Heap}{mods:List Addr}{mu:List Ent}{sz:Nat}
theorem Rep.alloc(D:Rep V h₀ mods h mu sz){o:Obj}(hf:o.isFreed=false):Rep V h₀ mods (h.push o) (mu++[(sz,o)]) (sz+1):=by
 refine⟨by rw[Heap.size_push,D.size],?_,?_,?_,fun b o' hb e=>Heap.get?_push_of_some _ (D.keep b o' hb e),Nat.le_succ_of_le D.le⟩
 ·intro p hp
  rcases mA hp with hp|hp
  ·exact Heap.get?_push_of_some _ (D.at_ p hp)
  ·rw[mS hp]
   show(h.push o).get? sz=some o
   rw[←D.size];exact Heap.get?_push_size _ hf
 ·rw[List.map_append,List.nodup_append]
  refine⟨D.nd,by simp,?_⟩
  intro a ha b hb
  obtain⟨p,hp,rfl⟩:=mM ha
  simp only[List.map_cons,List.map_nil,List.mem_singleton]at hb
  rw[hb]
  have:=aj (D.at_ p hp)
  rw[D.size]at this
  exact gP this
 ·intro p hp
  rcases mA hp with hp|hp
  ·exact D.own p hp
  ·rw[mS hp];exact .inr D.le
theorem Rep.update(D:Rep V h₀ mods h mu sz){i:Nat}{p:Ent}{f:Obj→Obj}(hi:bg mu i=some p)(hf:(f p.2).isFreed=false):Rep V h₀ mods (h.update p.1 f) (put mu i (f p.2)) sz:=by
 have hm:=mZ _ _ _ hi
 have ho:=D.at_ p hm
 refine⟨by rw[Heap.size_after_update,D.size],?_,by rw[xP];exact D.nd,?_,?_,D.le⟩
 ·intro q hq
  rcases xO _ _ _ _ _ D.nd hi hq with⟨a,b⟩|e
  ·rw[Heap.get?_update_ne _ _ _ _ b];exact D.at_ q a
  ·subst e;exact Heap.get?_update_self _ ho hf
 ·intro q hq
  rcases xO _ _ _ _ _ D.nd hi hq with⟨a,_⟩|e
  ·exact D.own q a
  ·subst e;exact D.own p hm
 ·intro b o hb e
  have hne:b≠p.1:=by
   rcases D.own p hm with m|m
   ·exact fun z=>hb (z▸m)
   ·exact gP (aJ (aj e) m)
  rw[Heap.get?_update_ne _ _ _ _ hne];exact D.keep b o hb e
theorem Rep.rebase(D:Rep V h₀ mods h mu sz):Rep V h (mu.map (·.1)) h mu sz:=⟨D.size,D.at_,D.nd,fun p hp=>.inl (List.mem_map_of_mem hp),fun _ _ _ e=>e,Nat.le_of_eq D.size⟩
theorem Rep.top(B:Base V h₀ mods)(D:Rep V h₀ mods h mu sz){j:Addr}{o:Obj}(e:V.kt.get j=some o):h.get? j=some o:=D.keep j o (B.kt j o e).2 (B.kt j o e).1
theorem Rep.read(B:Base V h₀ mods)(D:Rep V h₀ mods h mu sz){i:Nat}{p:Ent}(e:bg V.ro i=some p):h.get? p.1=some p.2:=D.keep _ _ (B.ro p (mZ _ _ _ e)).2 (B.ro p (mZ _ _ _ e)).1
theorem Rep.noLimit(B:Base V h₀ mods)(D:Rep V h₀ mods h mu sz):h.NoLimit:=
 ⟨fun _=>none,⟨xN,#[],0,D.top B B.st,rfl,by intro e he;simp at he,fun _=>rfl⟩,rfl⟩
end
theorem UI{c:Code}(h:cB c=false):c.weight≤5∧c.cUnits≤10:=by
 unfold cB at h
 cases a:Nat.ble c.weight 5 with
 |false=>rw[a]at h;cases h
 |true=>
  rw[a]at h
  cases b:Nat.ble c.cUnits 10 with
  |false=>rw[b]at h;cases h
  |true=>exact⟨Nat.le_of_ble_eq_true a,Nat.le_of_ble_eq_true b⟩
theorem aa.under{A:Around}{n:Nat}{c:Code}(R:aa A (n+1))(h:cB c=false):aa (A.under c) n:=by
 have:=UI h
 obtain⟨a,b,d⟩:=R
 refine⟨a,?_,?_⟩
 ·show A.depth+c.weight+5*n<_;lia
 ·show A.units+c.cUnits+10*n<_;lia
theorem aa.qt{A:Around}{n m:Nat}(R:aa A n)(h:m≤n):aa A m:=⟨R.handled,by have:=R.depth;lia,by have:=R.units;lia⟩
theorem aa.less{A:Around}{n m:Nat}(R:aa A n)(h:Nat.ble m n=true):aa A m:=R.qt (Nat.le_of_ble_eq_true h)
theorem aa.mark{A:Around}{n:Nat}(R:aa A n):aa (A.mark none) n:=⟨by show(none:Option Value).or A.handled=none;rw[R.handled];rfl,R.depth,R.units⟩
theorem aa.mE{A:Around}{n:Nat}{co:Option Code}(R:aa A (n+1))(h:j0 co=true):aa (mE A co) n:=by
 cases co with
 |none=>exact R.qt (Nat.le_succ n)
 |some c=>exact R.under (by simpa[j0]using h)
theorem aa.below{A:Around}:∀{κ:Ko}{n:Nat},aa A (fV κ+n)→j4 κ=true→aa (fH A κ) n
 |.base,n,R,_=>R.qt (by show n≤0+n;exact #[0x11110c01100,n])
 |.ret co hd k κ,n,R,h=>by
  have h:(hd.isNone&&j0 co&&j4 κ)=true:=h
  simp only[Bool.and_eq_true]at h
  have hh:hd=none:=by cases hd with|none=>rfl|some _=>simp at h
  subst hh
  have R':aa (fH A κ) (n+1):=aa.below (R.qt (by show fV κ+(n+1)≤fV κ+1+n;exact #[0x11121c10011c201000,fV κ,n])) h.2
  exact(R'.mE h.1.2).mark
noncomputable def cS(ps:List (Addr×Addr))(ks:List gj)(r:Res):Prop:=r=.bad 0∨(∃n,r=.bad n)∨((∀p∈ps,p∈o6 r)∧∀k∈ks,k∈o7 r)
noncomputable def wm(ih:K9):Prop:=∀tp co κ t mu sz tk ps ks,cS ps ks (ih tp co κ t mu sz tk ps ks)
theorem cS.self{r:Res}:cS (o6 r) (o7 r) r:=.inr (.inr ⟨fun _ h=>h,fun _ h=>h⟩)
theorem cS.bad{ps:List (Addr×Addr)}{ks:List gj}{n:Nat}:cS ps ks (.bad n):=.inr (.inl ⟨n,rfl⟩)
theorem cS.less{ps:List (Addr×Addr)}{ks:List gj}{x:Addr×Addr}{r:Res}(h:cS (x::ps) ks r):cS ps ks r:=by
 rcases h with h|h|h
 ·exact .inl h
 ·exact .inr (.inl h)
 ·exact .inr (.inr ⟨fun p hp=>h.1 p (.tail _ hp),h.2⟩)
theorem cS.UJ{ps:List (Addr×Addr)}{ks:List gj}{x:gj}{r:Res}(h:cS ps (x::ks) r):cS ps ks r:=by
 rcases h with h|h|h
 ·exact .inl h
 ·exact .inr (.inl h)
 ·exact .inr (.inr ⟨h.1,fun p hp=>h.2 p (.tail _ hp)⟩)
theorem cS.pair{ps:List (Addr×Addr)}{ks:List gj}{x:Addr×Addr}{r:Res}(h:cS (x::ps) ks r)(G:Good r)(hb:∀n,r≠.bad n):x.1=x.2:=by
 rcases h with h|⟨n,h⟩|h
 ·exact absurd h (hb 0)
 ·exact absurd h (hb n)
 ·exact G.ps x (h.1 x (.head _))
theorem cS.UK{ps:List (Addr×Addr)}{ks:List gj}{x:gj}{r:Res}(h:cS ps (x::ks) r)(G:Good r)(hb:∀n,r≠.bad n):x=rT x:=by
 rcases h with h|⟨n,h⟩|h
 ·exact absurd h (hb 0)
 ·exact absurd h (hb n)
 ·exact G.ks x (h.2 x (.head _))
theorem IW{ih:K9}(H:wm ih)(r:Result)(tp:List Nat)(κ:Ko)(mu:List Ent)(sz tk:Nat)(ps:List (Addr×Addr))(ks:List gj):cS ps ks (retS ih r tp κ mu sz tk ps ks):=by
 cases κ with
 |base=>exact cS.self (r:=.fin r ⟨mu,sz,tk,ps,ks⟩)
 |ret=>exact H ..
section
variable {ps:List (Addr×Addr)}{ks:List gj}
theorem wo{n:Nat}{tp:List Nat}{f:Nat→List Nat→Res}(h:∀r tp,cS ps ks (f r tp)):cS ps ks (pop n tp f):=match tp with
 | []=>.bad
 |r::tp=>h r tp
theorem zC{β:Type}{n:Nat}{o:Option β}{f:β→Res}(h:∀b,cS ps ks (f b)):cS ps ks (uh n o f):=match o with
 |none=>.bad
 |some b=>h b
theorem wu{n:Nat}{b:Bool}{r:Res}(h:cS ps ks r):cS ps ks (rS n b r):=match b with
 |false=>.bad
 |true=>h
theorem IX{n:Nat}{x y:Res}(h1:cS ps ks x)(h2:cS ps ks y):cS ps ks (zA n x y):=match n with
 |0=>h1
 |_+1=>h2
theorem IY{a:Addr}{q:Option Addr}{r:Res}(h:cS (ad a q ps) ks r):cS ps ks r:=match q,h with
 |none,h=>h
 |some _,h=>h.less
end
theorem UL{V:Vw}{ih:K9}(H:wm ih):wm (zB V ih):=by
 intro tp co κ t mu sz tk ps ks
 cases t with
 |pure fin=>cases fin with
  |done=>exact IW H ..
  |again=>exact zC fun _=>wu (wo fun _ _=>IX (cS.self (r:=.again _ κ ⟨mu,sz,tk,ps,ks⟩)) (H ..))
 |raise=>exact IW H ..
 |handled=>exact wu (H ..)
 |load=>exact wo fun _ _=>zC fun _=>IY (H ..)
 |loadIfAlive=>exact wo fun _ _=>zC fun _=>IY (H ..)
 |alloc=>exact wu (H ..)
 |update=>exact wo fun _ _=>zC fun _=>wu (H ..).less
 |call=>exact wu (wo fun _ _=>IX (cS.self (r:=.call _ _ ⟨mu,sz,tk,ps,ks⟩)) (H ..))
 |stack=>exact(H ..).UJ
 |_=>first|exact H ..|exact .bad
theorem IZ(V:Vw):∀n,wm (sim V n)
 |0=>fun _ _ _ _ _ _ _ _ _=>.bad
 |n+1=>UL (IZ V n)
theorem UM{prog:Program}{w:World}{A:Around}{α:Type}{Q:α→Shared→Prop}{E:Value→Shared→Prop}{s:Shared}{a:Addr}{k:Option Obj→Sem α}{o:Obj}(ho:s.heap.get? a=some o)(x:wpAny (model prog w) A (k (some o)) Q E s):
 wpAny (model prog w) A (.loadIfAlive a k) Q E s:=fun Γ p hΓ=>by
 show Sem.wp _ _ (k (s.heap.get? a)) _ _ _ _
 rw[ho];exact x Γ p hΓ
theorem C9{prog:Program}{w:World}:(model prog w).den=ug:=by
 show denote table=ug
 rw[table_eq_tree,UE]
noncomputable def Ih(prog:Program)(w:World)(A:Around)(R:RR)(V:Vw)(h₀:Heap)(mods:List Addr)(h₁:Heap)(m₁:List Addr)(g:Array GenState)(d:Drawn)(os:OsState)(ih:K9):Prop:=
 ∀tp co κ t mu sz tk ps ks h,j0 co=true→j4 κ=true→fV κ≤13→Rep V h₀ mods h mu sz→Rep V h₁ m₁ h mu sz→Good (ih tp co κ t mu sz tk ps ks)→Post prog w A R V h₀ mods h₁ m₁ g d os (ih tp co κ t mu sz tk ps ks)→
  C7 prog w A R co κ t ⟨h,g,d,tk,os⟩
section
variable {prog:Program}{w:World}{A:Around}{R:RR}{V:Vw}{h₀:Heap}{mods:List Addr}{h₁:Heap}{m₁:List Addr}{g:Array GenState}{d:Drawn}{os:OsState}
theorem UN{r:Res}(P:Post prog w A R V h₀ mods h₁ m₁ g d os r):∀n,r≠.bad n:=fun n e=>by rw[e]at P;exact P
theorem retS_sound{ih:K9}(IH:Ih prog w A R V h₀ mods h₁ m₁ g d os ih){r:Result}{tp:List Nat}{κ:Ko}{mu:List Ent}{sz tk:Nat}{ps:List (Addr×Addr)}{ks:List gj}{h:Heap}(hK:j4 κ=true)(hL:fV κ≤13)
 (D:Rep V h₀ mods h mu sz) (D1:Rep V h₁ m₁ h mu sz) (G:Good (retS ih r tp κ mu sz tk ps ks)) (P:Post prog w A R V h₀ mods h₁ m₁ g d os (retS ih r tp κ mu sz tk ps ks)):Rk prog w A R κ r ⟨h,g,d,tk,os⟩:=by
 cases κ with
 |base=>exact P h D D1
 |ret co hd k κ=>
  have hK:(hd.isNone&&j0 co&&j4 κ)=true:=hK
  simp only[Bool.and_eq_true]at hK
  exact IH tp co κ (k r) mu sz tk ps ks h hK.1.2 hK.2 (by have:fV (.ret co hd k κ)=fV κ+1:=rfl;left) D D1 G P
section
variable {Φ:Res→Prop}
theorem wz{n:Nat}{tp:List Nat}{f:Nat→List Nat→Res}(hb:∀n,¬Φ (.bad n))(h:Φ (pop n tp f)):∃r tp,Φ (f r tp):=match tp,h with
 | [],h=>(hb _ h).elim
 |r::tp,h=>⟨r,tp,h⟩
theorem zD{β:Type}{n:Nat}{o:Option β}{f:β→Res}(hb:∀n,¬Φ (.bad n))(h:Φ (uh n o f)):∃b,o=some b∧Φ (f b):=match o,h with
 |none,h=>(hb _ h).elim
 |some b,h=>⟨b,rfl,h⟩
theorem wA{n:Nat}{b:Bool}{r:Res}(hb:∀n,¬Φ (.bad n))(h:Φ (rS n b r)):b=true∧Φ r:=match b,h with
 |false,h=>(hb _ h).elim
 |true,h=>⟨rfl,h⟩
theorem I0{n:Nat}{x y:Res}(h:Φ (zA n x y)):Φ x∨Φ y:=match n,h with
 |0,h=>.inl h
 |_+1,h=>.inr h
end
theorem I1(B:Base V h₀ mods){h:Heap}{mu:List Ent}{sz:Nat}(D:Rep V h₀ mods h mu sz){a:Addr}{r:Nat}{x:Obj×Option Addr}(e:rd V mu a r=some x){ps:List (Addr×Addr)}{ks:List gj}{y:Res}(S:cS (ad a x.2 ps) ks y)(G:Good y)(hn:∀n,y≠.bad n):h.get? a=some x.1:=by
 have pr:∀{p:Ent},h.get? p.1=some p.2→(p.2,some p.1)=x→h.get? a=some x.1:=fun e1 e2=>by
  subst e2
  exact(congrArg h.get? (S.pair G hn)).trans e1
 unfold rd at e
 cases r with
 |zero=>
  ac_rfl
  obtain⟨o,e1,e2⟩:=Option.map_eq_some_iff.mp e
  subst e2
  exact D.top B e1
 |succ r=>
  ac_rfl
  obtain⟨p,e1,e2⟩:=Option.map_eq_some_iff.mp e
  cases hr:r % 2 with
  |zero=>rw[hr]at e1;exact pr (D.read B e1) e2
  |succ n=>rw[hr]at e1;exact pr (D.at_ p (mZ _ _ _ e1)) e2
theorem UO{mu:List Ent}{r:Nat}{x:Nat×Ent}(e:wr mu r=some x):bg mu x.1=some x.2:=by
 unfold wr at e
 cases hr:r % 2 with
 |zero=>
  rw[hr]at e
  obtain⟨p,e1,e2⟩:=Option.map_eq_some_iff.mp e
  subst e2
  exact e1
 |succ n=>rw[hr]at e;cases e
structure Gp (prog:Program) (w:World) (A:Around) (R:RR) (V:Vw) (h₀:Heap) (mods:List Addr) (h₁:Heap) (m₁:List Addr) (g:Array GenState) (d:Drawn) (os:OsState) (r:Res):Prop where
 a:Good r
 b:Post prog w A R V h₀ mods h₁ m₁ g d os r
theorem UP(hp:V.prog=prog)(hw:V.w=w)(RA:aa A 30)(B:Base V h₀ mods){ih:K9}(S:wm ih)(IH:Ih prog w A R V h₀ mods h₁ m₁ g d os ih):Ih prog w A R V h₀ mods h₁ m₁ g d os (zB V ih):=by
 intro tp co κ t mu sz tk ps ks h hco hK hL D D1 G P
 have RB:aa (fH A κ) 15:=aa.below (RA.qt (#[0x111201ed1fc100dc101,fV κ] hL)) hK
 have RC:aa (mE (fH A κ) co) 14:=RB.mE hco
 have hb:∀n,¬Gp prog w A R V h₀ mods h₁ m₁ g d os (.bad n):=fun n z=>z.b
 have go:∀{tp co κ t mu sz tk ps ks h},j0 co=true→j4 κ=true→fV κ≤13→Rep V h₀ mods h mu sz→Rep V h₁ m₁ h mu sz→Gp prog w A R V h₀ mods h₁ m₁ g d os (ih tp co κ t mu sz tk ps ks)→C7 prog w A R co κ t ⟨h,g,d,tk,os⟩:=fun a b c e f z=>IH _ _ _ _ _ _ _ _ _ _ a b c e f z.a z.b
 have Z:Gp prog w A R V h₀ mods h₁ m₁ g d os (zB V ih tp co κ t mu sz tk ps ks):=⟨G,P⟩
 clear G P
 have nb:∀{tp co κ t mu sz tk ps ks},Gp prog w A R V h₀ mods h₁ m₁ g d os (ih tp co κ t mu sz tk ps ks)→∀n,ih tp co κ t mu sz tk ps ks≠.bad n:=fun z=>UN z.b
 unfold C7
 cases t with
 |pure fin=>cases fin with
  |done f=>exact wpAny_pure (retS_sound IH hK hL D D1 Z.a Z.b)
  |again c=>
   ac_rfl
   obtain⟨c',rfl,Z⟩:=zD hb Z
   obtain⟨hq,Z⟩:=wA hb Z
   obtain⟨r,tp,Z⟩:=wz hb Z
   simp only[Bool.and_eq_true,Bool.not_eq_true']at hq
   refine wpAny_pure ⟨hq.1,?_⟩
   rcases I0 Z with Z|Z
   ·exact Z.b h D D1 (fun m hm=>aa.below (hm.qt (#[0x11122dc012100dc101,fV κ,m] hL)) hK) ⟨hK,hL⟩
   ·exact codeAny_of_tree (by rw[C9];exact wpAny_mono (go (by simp[j0,hq.2]) hK hL D D1 Z) (fun fin _ hf=>by cases fin<;>exact hf) fun _ _ e=>e)
 |raise e=>exact wpAny_throw (retS_sound IH hK hL D D1 Z.a Z.b)
 |rule=>exact X.x_rule (go hco hK hL D D1 Z)
 |«at»=>exact X.x_at (go hco hK hL D D1 Z)
 |point=>exact X.x_point (go hco hK hL D D1 Z)
 |ask=>subst hp hw;exact X.x_ask (go hco hK hL D D1 Z)
 |fresh=>exact X.x_fresh (go hco hK hL D D1 Z)
 |handled own k=>
  obtain⟨q,Z⟩:=wA hb Z
  obtain rfl:own=false:=by simpa using q
  refine X.x_handled ?_
  rw[RC.handled]
  exact go hco hK hL D D1 Z
 |load a f k=>
  ac_rfl
  obtain⟨r,tp,Z⟩:=wz hb Z
  obtain⟨x,e,Z⟩:=zD hb Z
  exact X.x_load (I1 B D e (S ..) Z.a (nb Z)) (go hco hK hL D D1 Z)
 |loadIfAlive a k=>
  ac_rfl
  obtain⟨r,tp,Z⟩:=wz hb Z
  obtain⟨x,e,Z⟩:=zD hb Z
  exact UM (I1 B D e (S ..) Z.a (nb Z)) (go hco hK hL D D1 Z)
 |alloc o k=>
  obtain⟨hf,Z⟩:=wA hb Z
  have hf:o.isFreed=false:=by simpa using hf
  refine wpAny_bind (m:=PySem.alloc _) (f:=_) (wpAny_alloc ?_)
  have z:=go hco hK hL (D.alloc hf) (D1.alloc hf) Z
  rw[show ⇑h=sz from D.size]
  exact z
 |update a p f k=>
  ac_rfl
  obtain⟨r,tp,Z⟩:=wz hb Z
  obtain⟨⟨i,b,o⟩,e,Z⟩:=zD hb Z
  obtain⟨hf1,Z⟩:=wA hb Z
  have hf:(f o).isFreed=false:=by simpa using hf1
  have e:=UO e
  have q:=(S ..).pair Z.a (nb Z)
  dsimp only at q
  subst q
  exact wpAny_bind (m:=PySem.updatePart a _ _) (f:=_) (wpAny_updatePart (D.at_ _ (mZ _ _ _ e)) (go hco hK hL (D.update e hf) (D1.update e hf) Z))
 |call c hd x y k=>
  ac_rfl
  obtain⟨hq,Z1⟩:=wA hb Z
  obtain⟨r,tp,Z2⟩:=wz hb Z1
  simp only[Bool.and_eq_true,Bool.not_eq_true',Option.isNone_iff_eq_none]at hq
  ac_rfl
  obtain⟨⟨hl,hc⟩,rfl⟩:=hq
  have hl:fV κ≤12:=Nat.le_of_ble_eq_true hl
  have l1:fV (.ret co none k κ)=fV κ+1:=rfl
  have hk:j4 (.ret co none k κ)=true:=by show(true&&j0 co&&j4 κ)=true;rw[hco,hK];rfl
  rcases I0 Z2 with Z|Z
  ·exact Z.b h D D1 (fun m hm=>aa.below (κ:=.ret co none k κ) (hm.qt (#[0x1101143dc0132001c1022cc102,fV κ,fV (Ko.ret co none k κ),m] hl l1)) hk) ⟨hk,ox l1 (oi (xV hl rfl))⟩ co _ κ rfl _ _
  ·refine X.x_call (codeAny_of_tree ?_) (by simp)
   rw[C9]
   exact wpAny_mono (go (κ:=.ret co none k κ) (by simp[j0,hc]) hk (ox l1 (oi (xV hl rfl))) D D1 Z) (fun fin _ hf=>by cases fin<;>exact hf) fun _ _ e=>e
 |stack k=>
  have q:k=rT k:=(S ..).UK Z.a (nb Z)
  have y:wpAny (model prog w) (mE (fH A κ) co) (Sem.bind enterFrame (fun _=>wk (k []))) (X.postC prog w (fH A κ) (Rk prog w A R κ)) (X.postE (Rk prog w A R κ)) ⟨h,g,d,tk,os⟩:=
   wpAny_bind (wpAny_enterFrame (D.noLimit B) (by have:=RC.depth;left) (go hco hK hL D D1 Z))
  have e:(Sem.stack k:Sem Fin)=Sem.bind enterFrame (fun _=>wk (k [])):=by
   rw[UG]
   have:(Sem.stack (rT k):Sem Fin)=PySem.W.R.bindR C8 (fun _=>wk (k [])):=rfl
   rw[PySem.W.R.bindR_eq,←this,←q]
  rw[e];exact y
 |_=>exact(hb _ Z).elim
theorem sim_sound(hp:V.prog=prog)(hw:V.w=w)(RA:aa A 30)(B:Base V h₀ mods):∀n,Ih prog w A R V h₀ mods h₁ m₁ g d os (sim V n)
 |0=>fun _ _ _ _ _ _ _ _ _ _ _ _ _ _ _ _ P=>False.elim P
 |n+1=>UP hp hw RA B (IZ V n) (sim_sound hp hw RA B n)
end
inductive Hd where
 |fin (r:Result) (es:List Ent) (sz:Nat)
 |call (c:Code) (es:List Ent) (sz:Nat)
 |again (c:Code) (es:List Ent) (sz:Nat)
noncomputable def Hd.es:Hd→List Ent
 |.fin _ es _=>es|.call _ es _=>es|.again _ es _=>es
noncomputable def Hd.sz:Hd→Nat
 |.fin _ _ n=>n|.call _ _ n=>n|.again _ _ n=>n
inductive Tg where
 |fin (r:Result) (sz:Nat)
 |call (c:Code) (sz:Nat)
 |again (c:Code) (sz:Nat)
 |bad (n:Nat)
noncomputable def Hd.tg:Hd→Tg
 |.fin r _ n=>.fin r n|.call c _ n=>.call c n|.again c _ n=>.again c n
noncomputable def C_:Res→Tg
 |.fin r o=>.fin r o.sz|.call c _ o=>.call c o.sz|.again c _ o=>.again c o.sz|.bad n=>.bad n
noncomputable def fc:Res→List Ent
 |.fin _ o=>o.mu|.call _ _ o=>o.mu|.again _ _ o=>o.mu|.bad _=>[]
noncomputable def kOf:Res→Ko
 |.call _ κ _=>κ|.again _ κ _=>κ|_=>.base
noncomputable def dup(p:Addr×Addr):Addr×Addr:=(p.2,p.2)
structure zF (r:Res) (is:List Nat) (hd:Hd):Prop where
 eq:(o6 r,o7 r,is.map (bg (fc r)),C_ r)=((o6 r).map dup,(o7 r).map rT,hd.es.map some,hd.tg)
theorem Dc{α:Type}{f:α→α}:∀{l:List α},l=l.map f→∀x∈l,x=f x
 | [],_,x,h=>nomatch h
 |a::l,e,x,h=>by
  rw[List.map_cons]at e
  injection e with e1 e2
  rcases mC h with h|h
  ·rw[h];exact e1
  ·exact Dc e2 x h
theorem zF.good{r:Res}{is:List Nat}{hd:Hd}(S:zF r is hd):Good r:=by
 have e1:o6 r=(o6 r).map dup:=congrArg Prod.fst S.eq
 have e2:o7 r=(o7 r).map rT:=congrArg (fun x=>x.2.1) S.eq
 exact⟨fun p hp=>by have:=Dc e1 p hp;exact congrArg Prod.fst this,fun k hk=>Dc e2 k hk⟩
@[irreducible] noncomputable def start(V:Vw)(tp:List Nat)(c:Code)(mu:List Ent)(sz tk:Nat):Res:=sim V 3000 tp (some c) .base (ug c) mu sz tk [] []
@[irreducible] noncomputable def I5(V:Vw)(tp:List Nat)(c:Code)(t:Sem Fin)(mu:List Ent)(sz tk:Nat):Res:=sim V 3000 tp (some c) .base t mu sz tk [] []
@[irreducible] noncomputable def back(V:Vw)(tp:List Nat)(r:Res)(v:Result)(mu:List Ent)(sz tk:Nat):Res:=retS (sim V 3000) v tp (kOf r) mu sz tk [] []
inductive Og where
 |C (c:Code)
 |T (c:Code) (t:Sem Fin)
 |B (p:Res) (v:Result)
noncomputable def Og.c:Og→Code
 |.C c=>c|.T c _=>c|.B _ _=>.call .none ⟨[],[]⟩
noncomputable def Og.t:Og→Sem Fin
 |.T _ t=>t|o=>.pure (.again o.c)
noncomputable def Og.p:Og→Res
 |.B p _=>p|_=>.bad 0
noncomputable def Og.v:Og→Result
 |.B _ v=>v|_=>.ok .next
structure Sg where
 V:Vw
 tp:List Nat
 o:Og
 mu:List Ent
 n:Nat
 tk:Nat
 is:List Nat
 hd:Hd
noncomputable def Og.run(V:Vw)(tp:List Nat)(mu:List Ent)(n tk:Nat):Og→Res
 |.C c=>start V tp c mu n tk
 |.T c t=>I5 V tp c t mu n tk
 |.B p v=>back V tp p v mu n tk
noncomputable def Sg.r(s:Sg):Res:=s.o.run s.V s.tp s.mu s.n s.tk
noncomputable def Og.cl:Og→Bool
 |.C c=>cB c|.T c _=>cB c|.B _ _=>false
noncomputable abbrev bZ(r:Res):List Addr:=(fc r).map (·.1)
structure InK (A:Around) (κ:Ko):Prop where
 room:∀m,aa A (13+m)→aa (fH A κ) m
 ok:j4 κ=true∧fV κ≤13
structure At (A:Around) (h₀:Heap) (mods:List Addr) (h₁:Heap) (s:Sg) (h:Heap):Prop where
 rep:Rep s.V h₀ mods h (fc s.r) s.hd.sz
 rep1:Rep s.V h₁ (s.mu.map (·.1)) h (fc s.r) s.hd.sz
 es:s.is.map (bg (fc s.r))=s.hd.es.map some
 k:InK A (kOf s.r)
section
variable {prog:Program}{w:World}{A:Around}{R:RR}{h₀:Heap}{mods:List Addr}{h₁:Heap}{h:Heap}{g:Array GenState}{d:Drawn}{os:OsState}{s:Sg}
theorem At.bg(H:At A h₀ mods h₁ s h)(j:Nat){i:Nat}{p:Ent}(hi:s.is[j]? =some i)(hp:s.hd.es[j]? =some p):Mine.bg (fc s.r) i=some p:=by
 have e:=congrArg (fun l=>l[j]?) H.es
 simp only[List.getElem?_map,hi,Option.map_some,hp,Option.some.injEq]at e
 exact e
theorem At.get(H:At A h₀ mods h₁ s h)(j:Nat){p:Ent}(hp:s.hd.es[j]? =some p):h.get? p.1=some p.2:=by
 cases hi:s.is[j]? with
 |none=>
  have e:=congrArg (fun l=>l[j]?) H.es
  simp[List.getElem?_map,hi,hp]at e
 |some i=>exact H.rep.at_ p (mZ _ _ _ (H.bg j hi hp))
theorem At.size(H:At A h₀ mods h₁ s h):⇑h=s.hd.sz:=H.rep.size
noncomputable def wB(prog:Program)(w:World)(A:Around)(R:RR)(h₀:Heap)(mods:List Addr)(h₁:Heap)(g:Array GenState)(d:Drawn)(os:OsState)(s:Sg):Prop:=match s.hd with
 |.fin v _ _=>∀h' tk,At A h₀ mods h₁ s h'→R v ⟨h',g,d,tk,os⟩
 |.call c _ _=>∀h' tk,At A h₀ mods h₁ s h'→rU prog w A R (kOf s.r) c ⟨h',g,d,tk,os⟩
 |.again c _ _=>∀h' tk,At A h₀ mods h₁ s h'→codeAny (model prog w) (fH A (kOf s.r)) c (Rk prog w A R (kOf s.r)) ⟨h',g,d,tk,os⟩
theorem post_of(S:zF s.r s.is s.hd)(P:wB prog w A R h₀ mods h₁ g d os s):Post prog w A R s.V h₀ mods h₁ (s.mu.map (·.1)) g d os s.r:=by
 have e1:s.is.map (Mine.bg (fc s.r))=s.hd.es.map some:=congrArg (fun x=>x.2.2.1) S.eq
 have e2:C_ s.r=s.hd.tg:=congrArg (fun x=>x.2.2.2) S.eq
 have mk:∀{h' o},fc s.r=Out.mu o→s.hd.sz=o.sz→Rep s.V h₀ mods h' o.mu o.sz→Rep s.V h₁ (s.mu.map (·.1)) h' o.mu o.sz→InK A (kOf s.r)→At A h₀ mods h₁ s h':=fun a b D D1 k=>⟨by rw[a,b];exact D,by rw[a,b];exact D1,e1,k⟩
 unfold wB at P
 cases hr:s.r with
 |fin v o=>
  rw[hr]at e2
  cases hh:s.hd with
  |fin v' es n=>
   rw[hh]at e2 P
   injection e2 with a b
   subst a b
   exact fun h' D D1=>P h' _ (mk (by rw[hr];rfl) (by rw[hh];rfl) D D1 (by rw[hr];exact⟨fun m z=>z.qt (#[0x1111dc01100,m]),rfl,Nat.zero_le _⟩))
  |call=>rw[hh]at e2;exact Tg.noConfusion e2
  |again=>rw[hh]at e2;exact Tg.noConfusion e2
 |call c κ o=>
  rw[hr]at e2
  cases hh:s.hd with
  |call v' es n=>
   rw[hh]at e2 P
   injection e2 with a b
   subst a b
   dsimp only at P
   rw[show kOf s.r=κ by rw[hr];rfl]at P
   exact fun h' D D1 x y=>P h' _ (mk (by rw[hr];rfl) (by rw[hh];rfl) D D1 (by rw[hr];exact⟨x,y⟩))
  |fin=>rw[hh]at e2;exact Tg.noConfusion e2
  |again=>rw[hh]at e2;exact Tg.noConfusion e2
 |again c κ o=>
  rw[hr]at e2
  cases hh:s.hd with
  |again v' es n=>
   rw[hh]at e2 P
   injection e2 with a b
   subst a b
   dsimp only at P
   rw[show kOf s.r=κ by rw[hr];rfl]at P
   exact fun h' D D1 x y=>P h' _ (mk (by rw[hr];rfl) (by rw[hh];rfl) D D1 (by rw[hr];exact⟨x,y⟩))
  |fin=>rw[hh]at e2;exact Tg.noConfusion e2
  |call=>rw[hh]at e2;exact Tg.noConfusion e2
 |bad n=>rw[hr]at e2;cases hh:s.hd<;>(rw[hh]at e2;exact Tg.noConfusion e2)
end
local macro_rules
  | `(tactic| k_in) => do tF ["kNn", "kAn", "kMi 0r", "kMi 1r", "kMi 2r", "kMi 3r", "kMi 4r", "kMi 5r", "kMi 6r", "kMi 7r", "kAc hh k", "kAa hh k", "kNc hh k", "kNa hh k", "kMr h k", "And.intro hh k", "Ne.symm a", "Or.inl h k", "Or.inr h k"] #[← `(tactic| assumption)] #[← `(tactic| (left; done)), ← `(tactic| (right; done)), ← `(tactic| lia)]
noncomputable abbrev pw:Program:=PySem.Challenge.pw_pq1019_01
noncomputable def st(i:Nat):Stmt:=(pw.main.body[i]?).getD (.Pass default)
noncomputable def cb:Stmt→List Stmt
 |.ClassDef _ _ _ b _ _ _ _ _ _ _=>b
 |_=>[]
noncomputable def me(i j:Nat):Stmt:=((cb (st i))[j]?).getD (.Pass default)
noncomputable def fp:Stmt→Arguments
 |.FunctionDef _ a _ _ _ _ _ _ _ _=>a
 |_=>default
noncomputable def fb:Stmt→List Stmt
 |.FunctionDef _ _ b _ _ _ _ _ _ _=>b
 |_=>[]
noncomputable def fs:Stmt→Scope
 |.FunctionDef _ _ _ _ _ _ sc _ _ _=>sc
 |_=>default
noncomputable def o0(P:Params):Obj:=((boot_heap P).objs.toList).headD default
noncomputable def VT(n:Nat):Nat→List Nat→List Nat:=Nat.rec (fun _ a=>a) (fun _ f n a=>match n.beq 0 with|true=>a|false=>f (n/256) (n%256::a)) n
noncomputable def sx(n:Nat):Str:=⟨⟨VT 300 n []⟩⟩
noncomputable abbrev aX:Str:=sx 0x76616c7565
noncomputable abbrev fk:Str:=sx 0x70726f636564757265
noncomputable abbrev kJ:Str:=sx 0x676c6f62616c
noncomputable abbrev lU:Str:=sx 0x736574
noncomputable abbrev nV:Str:=sx 0x736571
noncomputable abbrev s_call:Str:=sx 0x63616c6c
noncomputable abbrev cT:Str:=sx 0x6b657074
noncomputable abbrev iL:Str:=sx 0x73686f776e
noncomputable abbrev cD:Str:=sx 0x6e756d626572
noncomputable abbrev qe:Str:=sx 0x73796d626f6c
noncomputable abbrev p_:Str:=sx 0x6974656d73
noncomputable abbrev nR:Str:=sx 0x6f70657261746f72
noncomputable abbrev nU:Str:=sx 0x6f706572616e6473
noncomputable abbrev jW:Str:=sx 0x6c6162656c
noncomputable abbrev p9:Str:=sx 0x706172616d73
noncomputable abbrev iz:Str:=sx 0x72657374
noncomputable abbrev iO:Str:=sx 0x626f6479
noncomputable abbrev Ep:Str:=sx 0x6c617374
noncomputable abbrev Er:Str:=sx 0x7469746c6573
noncomputable abbrev Eo:Str:=sx 0x7461626c65
noncomputable abbrev Es:Str:=sx 0x6f7073
noncomputable abbrev Et:Str:=sx 0x726f6f74
noncomputable abbrev fq:Str:=sx 0x6e6f6465
noncomputable abbrev gx:Str:=sx 0x706c61636573
noncomputable abbrev jZ:Str:=sx 0x6672616d6573
noncomputable abbrev jq:Str:=sx 0x7374617465
noncomputable abbrev gw:Str:=sx 0x666f756e64
noncomputable abbrev vQ:Str:=sx 0x676976656e
noncomputable abbrev vO:Str:=sx 0x63616c6c6564
noncomputable abbrev fJ:Str:=sx 0x736372697074
noncomputable abbrev kK:Str:=sx 0x73656c66
noncomputable abbrev qJ:Str:=sx 0x6465636b
noncomputable abbrev gz:Str:=sx 0x776f726c64
noncomputable abbrev cE:Str:=sx 0x6174
noncomputable abbrev cG:Str:=sx 0x6d616e79
noncomputable abbrev gB:Str:=sx 0x6e756d62657273
noncomputable abbrev qH:Str:=sx 0x7061697273
noncomputable abbrev xJ:Str:=sx 0x666972737473
noncomputable abbrev pZ:Str:=sx 0x73706f696c
noncomputable abbrev zl:Str:=sx 0x7061727473
noncomputable abbrev qd:Str:=sx 0x76616c756573
noncomputable abbrev fZ:Str:=sx 0x706c616365
noncomputable abbrev CA:Str:=sx 0x6669727374
noncomputable abbrev jG:Str:=sx 0x6f776e
noncomputable abbrev lV:Str:=sx 0x6c6162656c73
noncomputable abbrev HF:Str:=sx 0x77616974696e67
noncomputable abbrev rG:Str:=sx 0x6f6e65
noncomputable abbrev ji:Str:=sx 0x6c6170
noncomputable abbrev fU:Str:=sx 0x647565
noncomputable abbrev rA:Str:=sx 0x6168656164
noncomputable abbrev jo:Str:=sx 0x73686f77
noncomputable abbrev jd:Str:=sx 0x70616972
noncomputable abbrev sJ:Str:=sx 0x63656c6c
noncomputable abbrev VU:Str:=sx 0x5f5f6e616d655f5f
noncomputable abbrev k_:Str:=sx 0x6c61775f7071313031395f3031
noncomputable abbrev sj:Str:=sx 0x5f5f646f635f5f
noncomputable abbrev VV:Str:=sx 0x5f5f7061636b6167655f5f
noncomputable abbrev VW:Str:=sx 0x5f5f6c6f616465725f5f
noncomputable abbrev VX:Str:=sx 0x5f5f737065635f5f
noncomputable abbrev VY:Str:=sx 0x5f5f616e6e6f746174696f6e735f5f
noncomputable abbrev VZ:Str:=sx 0x5f5f6275696c74696e735f5f
noncomputable abbrev V0:Str:=sx 0x5f5f66696c655f5f
noncomputable abbrev V9:Str:=sx 0x2f636c61696d2f6375742e7079
noncomputable abbrev V_:Str:=sx 0x5f5f6361636865645f5f
noncomputable abbrev Wa:Str:=sx 0x5f77616c6c
noncomputable abbrev Wb:Str:=sx 0x434f4e5354
noncomputable abbrev Wd:Str:=sx 0x4c4f43414c
noncomputable abbrev We:Str:=sx 0x474c4f42414c
noncomputable abbrev Wf:Str:=sx 0x5345545f4c4f43414c
noncomputable abbrev Wg:Str:=sx 0x4c414d424441
noncomputable abbrev Wh:Str:=sx 0x43414c4c
noncomputable abbrev Wi:Str:=sx 0x534551
noncomputable abbrev zM:Str:=sx 0x4e6f6465
noncomputable abbrev JD:Str:=sx 0x436f6e7374
noncomputable abbrev JE:Str:=sx 0x4c6f63616c
noncomputable abbrev JF:Str:=sx 0x476c6f62616c
noncomputable abbrev JG:Str:=sx 0x5365744c6f63616c
noncomputable abbrev JH:Str:=sx 0x4c616d626461
noncomputable abbrev JI:Str:=sx 0x43616c6c
noncomputable abbrev JJ:Str:=sx 0x536571
noncomputable abbrev Wj:Str:=sx 0x5370656369616c
noncomputable abbrev Wk:Str:=sx 0x554e41535349474e4544
noncomputable abbrev Wl:Str:=sx 0x53796d626f6c
noncomputable abbrev zN:Str:=sx 0x53796d626f6c5461626c65
noncomputable abbrev zO:Str:=sx 0x7365715f6f66
noncomputable abbrev zP:Str:=sx 0x69735f737465616479
noncomputable abbrev zQ:Str:=sx 0x6b6570745f76616c756573
noncomputable abbrev zR:Str:=sx 0x6c65747265635f6f66
noncomputable abbrev zT:Str:=sx 0x4e616d6573
noncomputable abbrev zU:Str:=sx 0x5f6c61775f6465636b
noncomputable abbrev zV:Str:=sx 0x5f6c61775f64726177
noncomputable abbrev zW:Str:=sx 0x5f6c61775f6170706c696564
noncomputable abbrev zX:Str:=sx 0x5f6c61775f6c6f6f6b6564
noncomputable abbrev zY:Str:=sx 0x5f6c61775f626567756e
noncomputable abbrev zZ:Str:=sx 0x5f6c61775f676f6e655f6f6e
noncomputable abbrev Aa:Str:=sx 0x5f6c61775f72756e
noncomputable abbrev Ab:Str:=sx 0x5f6c61775f70617274
noncomputable abbrev Ac:Str:=sx 0x5f6c61775f6172655f6170617274
noncomputable abbrev Ad:Str:=sx 0x6c6177
noncomputable abbrev uu:Str:=sx 0x5f5f6d6f64756c655f5f
noncomputable abbrev lz:Str:=sx 0x736368656d652e636f7265
noncomputable abbrev uv:Str:=sx 0x5f5f66697273746c696e656e6f5f5f
noncomputable abbrev Ae:Str:=sx 0x6b696e64
noncomputable abbrev DL:Str:=sx 0x776974685f7061727473
noncomputable abbrev uw:Str:=sx 0x5f5f7374617469635f617474726962757465735f5f
noncomputable abbrev DM:Str:=sx 0x5f5f646963745f5f
noncomputable abbrev DN:Str:=sx 0x5f5f7765616b7265665f5f
noncomputable abbrev fy:Str:=sx 0x5f5f696e69745f5f
noncomputable abbrev JK:Str:=sx 0x436f6e73742e5f5f696e69745f5f
noncomputable abbrev JL:Str:=sx 0x4c6f63616c2e5f5f696e69745f5f
noncomputable abbrev JM:Str:=sx 0x476c6f62616c2e5f5f696e69745f5f
noncomputable abbrev JN:Str:=sx 0x5365744c6f63616c2e5f5f696e69745f5f
noncomputable abbrev JO:Str:=sx 0x4c616d6264612e5f5f696e69745f5f
noncomputable abbrev Wm:Str:=sx 0x62696e64657273
noncomputable abbrev Wn:Str:=sx 0x74616b6573
noncomputable abbrev JP:Str:=sx 0x43616c6c2e5f5f696e69745f5f
noncomputable abbrev JQ:Str:=sx 0x5365712e5f5f696e69745f5f
noncomputable abbrev JR:Str:=sx 0x53796d626f6c5461626c652e5f5f696e69745f5f
noncomputable abbrev JS:Str:=sx 0x736368656d652e64617461
noncomputable abbrev s_fresh:Str:=sx 0x6672657368
noncomputable abbrev Wo:Str:=sx 0x62795f6e756d626572
noncomputable abbrev Wq:Str:=sx 0x66696e64
noncomputable abbrev Wr:Str:=sx 0x69735f696e7465726e6564
noncomputable abbrev Ws:Str:=sx 0x73697a65
noncomputable abbrev Af:Str:=sx 0x736368656d652e636f726572756c6573
noncomputable abbrev JT:Str:=sx 0x4e616d65732e5f5f696e69745f5f
noncomputable abbrev DO:Str:=sx 0x736368656d652e6e616d6573
noncomputable abbrev JU:Str:=sx 0x4e616d65732e6672657368
noncomputable abbrev Wt:Str:=sx 0x6e756d6265725f6f665f6e616d65
noncomputable abbrev Wu:Str:=sx 0x746578745f6f665f73796d626f6c
noncomputable abbrev Wv:Str:=sx 0x7365745f7469746c65
noncomputable abbrev Ww:Str:=sx 0x7469746c655f6f66
noncomputable abbrev Wx:Str:=sx 0x676976655f6f7073
noncomputable abbrev Wy:Str:=sx 0x6f705f6174
noncomputable abbrev Wz:Str:=sx 0x666f6c64
noncomputable abbrev ent(P:Params)(k:Str)(t:Tok)(v:Value):DictEntry:=⟨PyData.keyHash P k,.str k t,v⟩
noncomputable abbrev kE:X.KT:=X.KT.nil
noncomputable abbrev kN(l r:X.KT):X.KT:=X.KT.node none l r
noncomputable abbrev kS(o:Obj)(l r:X.KT):X.KT:=X.KT.node (some o) l r
noncomputable abbrev kL(o:Obj):X.KT:=X.KT.node (some o) kE kE
noncomputable abbrev Q0(a:Str)(b:Nat)(c:Str)(d e:Nat):Obj:=⟨.type "function",none,.func ⟨a,a,fp (st b),.stmts (fb (st b)),fs (st b),3,[],.none,.none,.none,.str c d,none,.ref e,.none,0⟩,⟨[]⟩⟩
noncomputable abbrev Q1(a:Str)(b c d e f:Nat):Obj:=⟨.type "type",none,.cls ⟨a,[.ref 45],[.ref b,.ref 45,.type "object"],c,a,true,[],[],false,none,false⟩,⟨[some (.ref d),none,some (.str a e),some (.str a f),some (.builtin "object.__new__"),some (.bool true)]⟩⟩
noncomputable abbrev Q2(a b:Str)(c d:Nat)(e:Str)(f g:Nat):Obj:=⟨.type "function",none,.func ⟨a,b,fp (me c d),.stmts (fb (me c d)),fs (me c d),3,[],.none,.none,.none,.str e f,none,.ref g,.none,0⟩,⟨[]⟩⟩
noncomputable abbrev Q3(P:Params)(a:Str)(b c:Nat):DictEntry:=ent P a b (.ref c)
noncomputable abbrev Q4(a:Nat):Value:=.str V9 a
noncomputable abbrev Q5(P:Params)(a:Str)(b:Nat)(c:Int)(d:Nat):DictEntry:=ent P a b (.int c d)
noncomputable abbrev Q6(a:Str)(b c:Nat):Array (Option Value):=⟨[none,none,some (.str a b),some (.str a c),some (.builtin "object.__new__"),some (.bool true)]⟩
noncomputable abbrev Q7(P:Params)(a b c d e f g h i j k l m n o p:Nat):Obj:=⟨.type "dict",none,.dict ⟨[ent P uu a (.str lz 194),Q5 P uv b c d,Q5 P Ae e f g,Q3 P fy h i,Q3 P zl j k,Q3 P DL l m,Q3 P uw n o,ent P sj p .none]⟩ 2,⟨[]⟩⟩
noncomputable abbrev Q8(P:Params)(a b c d e f g h i j k l:Nat):Obj:=⟨.type "dict",none,.dict ⟨[ent P uu a (.str lz 194),Q5 P uv b c d,Q5 P Ae e f g,Q3 P fy h i,Q3 P uw j k,ent P sj l .none]⟩ 2,⟨[]⟩⟩
noncomputable abbrev Q9(a:Int):Value:=.int a 0
noncomputable abbrev bz(a:Str)(b:Nat):Value:=.str a b
noncomputable def o2(P:Params):Obj:=⟨.none,none,.dict ⟨[]⟩ 0,⟨[]⟩⟩
noncomputable def o3(P:Params):Obj:=⟨.type "dict",none,.dict ⟨[ent P VU 165 (bz k_ 796),ent P sj 166 .none,ent P VV 167 .none,ent P VW 168 (.builtin "__main__.__loader__#opaque"),ent P VX 169 .none,Q3 P VY 170 6,Q3 P VZ 171 4,ent P V0 173 (Q4 172),ent P V_ 174 .none,Q3 P Wa 193 21,Q5 P Wb 197 0 196,Q5 P Wd 199 1 198,Q5 P We 201 2 200,Q5 P Wf 203 3 202,Q5 P Wg 205 7 204,Q5 P Wh 207 8 206,Q5 P Wi 209 9 208,Q3 P zM 247 45,Q3 P JD 273 66,Q3 P JE 299 85,Q3 P JF 325 104,Q3 P JG 368 137,Q3 P JH 430 184,Q3 P JI 473 217,Q3 P JJ 514 250,Q3 P Wj 545 269,Q3 P Wk 551 275,Q3 P Wl 582 293,Q3 P zN 660 356,Q3 P zO 669 367,Q3 P zP 676 374,Q3 P zQ 682 379,Q3 P zR 688 384,Q3 P zT 795 464,Q3 P zU 803 473,Q3 P zV 812 480,Q3 P zW 818 485,Q3 P zX 827 492,Q3 P zY 835 499,Q3 P zZ 847 506,Q3 P Aa 858 513,Q3 P Ab 869 520,Q3 P Ac 880 527,Q3 P Ad 886 532]⟩ 44,⟨[]⟩⟩
noncomputable def JV(P:Params):Obj:=⟨.type "dict",none,.dict ⟨[ent P uu 217 (bz lz 194),Q5 P uv 221 12 220,ent P Ae 224 (.int (Neg.neg 1) 223),Q3 P zl 231 35,Q3 P DL 239 42,Q3 P uw 240 43,Q3 P DM 242 46,Q3 P DN 244 47,ent P sj 245 .none]⟩ 4,⟨[]⟩⟩
noncomputable def JW(P:Params):Obj:=⟨.type "type",none,.cls ⟨zM,[.type "object"],[.ref 45,.type "object"],44,zM,true,[],[.ref 66,.ref 85,.ref 104,.ref 137,.ref 184,.ref 217,.ref 250],false,none,false⟩,Q6 zM 210 218⟩
noncomputable def JX(P:Params):Obj:=⟨.type "code",none,.fields ⟨[bz fy 261,bz JK 262,Q4 263,.int 23 0,.int 2 0,.int 0 0,.int 0 0,.int 3 0,.ref 57,.bool true,Q9 181,.ref 58,.none,.ref 59,.ref 60,.ref 61,Q9 266,.int 23 0,Q4 267]⟩,⟨[]⟩⟩
noncomputable def JY(P:Params):Obj:=Q2 fy JK 10 1 lz 194 62
noncomputable def JZ(P:Params):Obj:=Q8 P 255 259 20 258 260 0 196 268 63 270 64 271
noncomputable def J0(P:Params):Obj:=Q1 JD 66 65 50 248 256
noncomputable def J1(P:Params):Obj:=⟨.type "code",none,.fields ⟨[bz fy 287,bz JL 288,Q4 289,.int 28 0,.int 2 0,.int 0 0,.int 0 0,.int 3 0,.ref 76,.bool true,Q9 181,.ref 77,.none,.ref 78,.ref 79,.ref 80,Q9 292,.int 28 0,Q4 293]⟩,⟨[]⟩⟩
noncomputable def J2(P:Params):Obj:=Q2 fy JL 11 1 lz 194 81
noncomputable def J3(P:Params):Obj:=Q8 P 281 285 25 284 286 1 198 294 82 296 83 297
noncomputable def J4(P:Params):Obj:=Q1 JE 85 84 69 274 282
noncomputable def J5(P:Params):Obj:=⟨.type "code",none,.fields ⟨[bz fy 313,bz JM 314,Q4 315,.int 33 0,.int 2 0,.int 0 0,.int 0 0,.int 3 0,.ref 95,.bool true,Q9 181,.ref 96,.none,.ref 97,.ref 98,.ref 99,Q9 318,.int 33 0,Q4 319]⟩,⟨[]⟩⟩
noncomputable def J6(P:Params):Obj:=Q2 fy JM 12 1 lz 194 100
noncomputable def J7(P:Params):Obj:=Q8 P 307 311 30 310 312 2 200 320 101 322 102 323
noncomputable def J8(P:Params):Obj:=Q1 JF 104 103 88 300 308
noncomputable def J9(P:Params):Obj:=⟨.type "code",none,.fields ⟨[bz fy 339,bz JN 340,Q4 341,.int 38 0,.int 3 0,.int 0 0,.int 0 0,.int 3 0,.ref 114,.bool true,Q9 181,.ref 115,.none,.ref 116,.ref 117,.ref 118,Q9 345,.int 38 0,Q4 346]⟩,⟨[]⟩⟩
noncomputable def J_(P:Params):Obj:=Q2 fy JN 13 1 lz 194 119
noncomputable def J'(P:Params):Obj:=Q7 P 333 337 35 336 338 3 202 347 120 354 127 362 134 365 135 366
noncomputable def Ka(P:Params):Obj:=Q1 JG 137 136 107 326 334
noncomputable def Kc(P:Params):Obj:=⟨.type "code",none,.fields ⟨[bz fy 382,bz JO 383,Q4 384,.int 50 0,.int 5 0,.int 0 0,.int 0 0,.int 3 0,.ref 147,.bool true,Q9 181,.ref 148,.none,.ref 149,.ref 150,.ref 151,Q9 390,.int 50 0,Q4 391]⟩,⟨[]⟩⟩
noncomputable def Kd(P:Params):Obj:=Q2 fy JO 14 1 lz 194 152
noncomputable def Ke(P:Params):Obj:=⟨.type "dict",none,.dict ⟨[ent P uu 376 (bz lz 194),Q5 P uv 380 47 379,Q5 P Ae 381 7 204,Q3 P fy 392 153,Q3 P zl 399 160,Q3 P DL 407 167,Q3 P Wm 414 174,Q3 P Wn 422 181,Q3 P uw 427 182,ent P sj 428 .none]⟩ 2,⟨[]⟩⟩
noncomputable def Kg(P:Params):Obj:=Q1 JH 184 183 140 369 377
noncomputable def Kh(P:Params):Obj:=⟨.type "code",none,.fields ⟨[bz fy 444,bz JP 445,Q4 446,.int 70 0,.int 3 0,.int 0 0,.int 0 0,.int 3 0,.ref 194,.bool true,Q9 181,.ref 195,.none,.ref 196,.ref 197,.ref 198,Q9 450,.int 70 0,Q4 451]⟩,⟨[]⟩⟩
noncomputable def Kl(P:Params):Obj:=Q2 fy JP 15 1 lz 194 199
noncomputable def Km(P:Params):Obj:=Q7 P 438 442 67 441 443 8 206 452 200 459 207 467 214 470 215 471
noncomputable def Kn(P:Params):Obj:=Q1 JI 217 216 187 431 439
noncomputable def Kq(P:Params):Obj:=⟨.type "code",none,.fields ⟨[bz fy 487,bz JQ 488,Q4 489,.int 82 0,.int 2 0,.int 0 0,.int 0 0,.int 3 0,.ref 227,.bool true,Q9 181,.ref 228,.none,.ref 229,.ref 230,.ref 231,Q9 492,.int 82 0,Q4 493]⟩,⟨[]⟩⟩
noncomputable def Kr(P:Params):Obj:=Q2 fy JQ 16 1 lz 194 232
noncomputable def Ks(P:Params):Obj:=Q7 P 481 485 79 484 486 9 208 494 233 501 240 509 247 511 248 512
noncomputable def Ku(P:Params):Obj:=Q1 JJ 250 249 220 474 482
noncomputable def Kv(P:Params):Obj:=⟨.type "code",none,.fields ⟨[bz fy 595,bz JR 596,Q4 597,Q9 103,.int 1 0,.int 0 0,.int 0 0,.int 3 0,.ref 305,.bool true,Q9 181,.ref 306,.none,.ref 307,.ref 308,.ref 309,Q9 599,Q9 103,Q4 600]⟩,⟨[]⟩⟩
noncomputable def Kw(P:Params):Obj:=Q2 fy JR 21 0 JS 515 310
noncomputable def Ky(P:Params):Obj:=⟨.type "dict",none,.dict ⟨[ent P uu 590 (bz JS 515),Q5 P uv 594 101 593,Q3 P fy 601 311,Q3 P qe 610 318,Q3 P s_fresh 619 325,Q3 P Wo 627 332,Q3 P Wq 635 339,Q3 P Wr 643 346,Q3 P Ws 650 353,Q3 P uw 653 354,Q3 P DM 655 357,Q3 P DN 657 358,ent P sj 658 .none]⟩ 4,⟨[]⟩⟩
noncomputable def Kz(P:Params):Obj:=⟨.type "type",none,.cls ⟨zN,[.type "object"],[.ref 356,.type "object"],355,zN,true,[],[],false,none,false⟩,Q6 zN 583 591⟩
noncomputable def KA(P:Params):Obj:=⟨.type "code",none,.fields ⟨[bz zO 663,bz zO 664,Q4 665,Q9 132,.int 1 0,.int 0 0,.int 0 0,.int 3 0,.ref 361,.bool true,Q9 181,.ref 362,.none,.ref 363,.ref 364,.ref 365,Q9 667,Q9 132,Q4 668]⟩,⟨[]⟩⟩
noncomputable def KC(P:Params):Obj:=Q0 zO 23 Af 661 366
noncomputable def KG(P:Params):Obj:=⟨.type "code",none,.fields ⟨[bz zP 670,bz zP 671,Q4 672,Q9 134,.int 1 0,.int 0 0,.int 0 0,.int 3 0,.ref 368,.bool true,Q9 181,.ref 369,.none,.ref 370,.ref 371,.ref 372,Q9 674,Q9 134,Q4 675]⟩,⟨[]⟩⟩
noncomputable def KH(P:Params):Obj:=Q0 zP 24 Af 661 373
noncomputable def KI(P:Params):Obj:=⟨.type "code",none,.fields ⟨[bz zQ 677,bz zQ 678,Q4 679,Q9 136,.int 4 0,.int 0 0,.int 0 0,.int 3 0,.ref 375,.bool true,Q9 181,.ref 376,.none,.none,.none,.ref 377,Q9 680,Q9 136,Q4 681]⟩,⟨[]⟩⟩
noncomputable def uI(P:Params):Obj:=Q0 zQ 25 Af 661 378
noncomputable def KJ(P:Params):Obj:=⟨.type "code",none,.fields ⟨[bz zR 683,bz zR 684,Q4 685,Q9 145,.int 4 0,.int 0 0,.int 0 0,.int 3 0,.ref 380,.bool true,Q9 181,.ref 381,.none,.none,.none,.ref 382,Q9 686,Q9 145,Q4 687]⟩,⟨[]⟩⟩
noncomputable def xM(P:Params):Obj:=Q0 zR 26 Af 661 383
noncomputable def KL(P:Params):Obj:=⟨.type "code",none,.fields ⟨[bz fy 703,bz JT 704,Q4 705,Q9 155,.int 1 0,.int 0 0,.int 0 0,.int 3 0,.ref 392,.bool true,Q9 181,.ref 393,.none,.ref 394,.ref 395,.ref 396,Q9 707,Q9 155,Q4 708]⟩,⟨[]⟩⟩
noncomputable def KN(P:Params):Obj:=Q2 fy JT 28 0 DO 689 397
noncomputable def KO(P:Params):Obj:=⟨.type "code",none,.fields ⟨[bz s_fresh 710,bz JU 711,Q4 712,Q9 162,.int 1 0,.int 0 0,.int 0 0,.int 3 0,.ref 399,.bool true,Q9 181,.ref 400,.none,.ref 401,.ref 402,.ref 403,Q9 714,Q9 162,Q4 715]⟩,⟨[]⟩⟩
noncomputable def KP(P:Params):Obj:=Q2 s_fresh JU 28 1 DO 689 404
noncomputable def KQ(P:Params):Obj:=⟨.type "dict",none,.dict ⟨[ent P uu 698 (bz DO 689),Q5 P uv 702 153 701,Q3 P fy 709 398,Q3 P s_fresh 716 405,Q3 P qe 724 412,Q3 P Wt 732 419,Q3 P Wu 740 426,Q3 P Wv 749 433,Q3 P Ww 757 440,Q3 P Wx 765 447,Q3 P Wy 773 454,Q3 P Wz 782 461,Q3 P uw 788 462,Q3 P DM 790 465,Q3 P DN 792 466,ent P sj 793 .none]⟩ 4,⟨[]⟩⟩
noncomputable def KR(P:Params):Obj:=⟨.type "type",none,.cls ⟨zT,[.type "object"],[.ref 464,.type "object"],463,zT,true,[],[],false,none,false⟩,Q6 zT 691 699⟩
noncomputable def KS(P:Params):Obj:=⟨.type "code",none,.fields ⟨[bz zU 798,bz zU 799,Q4 800,Q9 190,.int 1 0,.int 0 0,.int 0 0,.int 3 0,.ref 469,.bool true,Q9 181,.ref 470,.none,.none,.none,.ref 471,Q9 801,Q9 190,Q4 802]⟩,⟨[]⟩⟩
noncomputable def xK(P:Params):Obj:=Q0 zU 30 k_ 796 472
noncomputable def KU(P:Params):Obj:=⟨.type "code",none,.fields ⟨[bz zV 804,bz zV 805,Q4 806,Q9 192,.int 2 0,.int 0 0,.int 0 0,.int 3 0,.ref 474,.bool true,Q9 181,.ref 475,.none,.ref 476,.ref 477,.ref 478,Q9 810,Q9 192,Q4 811]⟩,⟨[]⟩⟩
noncomputable def fL(P:Params):Obj:=Q0 zV 31 k_ 796 479
noncomputable def KW(P:Params):Obj:=⟨.type "code",none,.fields ⟨[bz zW 813,bz zW 814,Q4 815,Q9 200,.int 4 0,.int 0 0,.int 0 0,.int 3 0,.ref 481,.bool true,Q9 181,.ref 482,.none,.none,.none,.ref 483,Q9 816,Q9 200,Q4 817]⟩,⟨[]⟩⟩
noncomputable def lA(P:Params):Obj:=Q0 zW 32 k_ 796 484
noncomputable def KX(P:Params):Obj:=⟨.type "code",none,.fields ⟨[bz zX 819,bz zX 820,Q4 821,Q9 211,.int 3 0,.int 0 0,.int 0 0,.int 3 0,.ref 486,.bool true,Q9 181,.ref 487,.none,.ref 488,.ref 489,.ref 490,Q9 825,Q9 211,Q4 826]⟩,⟨[]⟩⟩
noncomputable def KY(P:Params):Obj:=Q0 zX 33 k_ 796 491
noncomputable def KZ(P:Params):Obj:=⟨.type "code",none,.fields ⟨[bz zY 828,bz zY 829,Q4 830,Q9 227,.int 1 0,.int 0 0,.int 0 0,.int 3 0,.ref 493,.bool true,Q9 181,.ref 494,.none,.ref 495,.ref 496,.ref 497,Q9 833,Q9 227,Q4 834]⟩,⟨[]⟩⟩
noncomputable def K0(P:Params):Obj:=Q0 zY 34 k_ 796 498
noncomputable def K_(P:Params):Obj:=⟨.type "code",none,.fields ⟨[bz zZ 836,bz zZ 837,Q4 838,Q9 232,.int 3 0,.int 0 0,.int 0 0,.int 3 0,.ref 500,.bool true,Q9 181,.ref 501,.none,.ref 502,.ref 503,.ref 504,Q9 845,Q9 232,Q4 846]⟩,⟨[]⟩⟩
noncomputable def La(P:Params):Obj:=Q0 zZ 35 k_ 796 505
noncomputable def Lb(P:Params):Obj:=⟨.type "code",none,.fields ⟨[bz Aa 848,bz Aa 849,Q4 850,Q9 249,.int 4 0,.int 0 0,.int 0 0,.int 3 0,.ref 507,.bool true,Q9 181,.ref 508,.none,.ref 509,.ref 510,.ref 511,Q9 856,Q9 249,Q4 857]⟩,⟨[]⟩⟩
noncomputable def g_(P:Params):Obj:=Q0 Aa 36 k_ 796 512
noncomputable def Lc(P:Params):Obj:=⟨.type "code",none,.fields ⟨[bz Ab 859,bz Ab 860,Q4 861,Q9 261,.int 3 0,.int 0 0,.int 0 0,.int 3 0,.ref 514,.bool true,Q9 181,.ref 515,.none,.ref 516,.ref 517,.ref 518,Q9 867,Q9 261,Q4 868]⟩,⟨[]⟩⟩
noncomputable def Ld(P:Params):Obj:=Q0 Ab 37 k_ 796 519
noncomputable def Lf(P:Params):Obj:=⟨.type "code",none,.fields ⟨[bz Ac 870,bz Ac 871,Q4 872,Q9 268,.int 1 0,.int 0 0,.int 0 0,.int 3 0,.ref 521,.bool true,Q9 181,.ref 522,.none,.ref 523,.ref 524,.ref 525,Q9 878,Q9 268,Q4 879]⟩,⟨[]⟩⟩
noncomputable def dF(P:Params):Obj:=Q0 Ac 38 k_ 796 526
noncomputable def Lg(P:Params):Obj:=⟨.type "code",none,.fields ⟨[bz Ad 881,bz Ad 882,Q4 883,Q9 282,.int 1 0,.int 0 0,.int 0 0,.int 3 0,.ref 528,.bool true,Q9 181,.ref 529,.none,.none,.none,.ref 530,Q9 884,Q9 282,Q4 885]⟩,⟨[]⟩⟩
noncomputable def mY(P:Params):Obj:=Q0 Ad 39 k_ 796 531
noncomputable def K(P:Params):Frag:=[(0,o0 P),(2,o2 P),(3,o3 P),(44,JV P),(45,JW P),(62,JX P),(63,JY P),(65,JZ P),(66,J0 P),(81,J1 P),(82,J2 P),(84,J3 P),(85,J4 P),(100,J5 P),(101,J6 P),(103,J7 P),(104,J8 P),(119,J9 P),(120,J_ P),(136,J' P),(137,Ka P),(152,Kc P),(153,Kd P),(183,Ke P),(184,Kg P),(199,Kh P),(200,Kl P),(216,Km P),(217,Kn P),(232,Kq P),(233,Kr P),(249,Ks P),(250,Ku P),(310,Kv P),(311,Kw P),(355,Ky P),(356,Kz P),(366,KA P),(367,KC P),(373,KG P),(374,KH P),(378,KI P),(379,uI P),(383,KJ P),(384,xM P),(397,KL P),(398,KN P),(404,KO P),(405,KP P),(463,KQ P),(464,KR P),(472,KS P),(473,xK P),(479,KU P),(480,fL P),(484,KW P),(485,lA P),(491,KX P),(492,KY P),(498,KZ P),(499,K0 P),(505,K_ P),(506,La P),(512,Lb P),(513,g_ P),(519,Lc P),(520,Ld P),(526,Lf P),(527,dF P),(531,Lg P),(532,mY P)]
noncomputable def kt(P:Params):X.KT:=(kS (o0 P) (kN (kS (o3 P) (kN (kN (kN (kS (JY P) (kN kE (kL (KJ P))) kE) (kN kE (kN kE (kL (KU P))))) (kN (kN (kN (kN (kL (dF P)) kE) kE) (kN kE (kL (KQ P)))) (kN kE (kN (kL (KC P)) kE)))) (kN (kN (kN (kN (kN (kL (Lc P)) kE) kE) (kL (Kh P))) (kL (J7 P))) (kN kE (kS (J9 P) (kS (Ke P) (kL (Kw P)) kE) kE)))) (kN (kN (kN kE (kN kE (kN (kL (Ky P)) kE))) (kN (kN (kN (kN (kL (Lg P)) kE) kE) kE) (kN kE (kN kE (kL (K0 P)))))) (kN (kN kE (kN kE (kN kE (kL (KX P))))) (kN kE (kN kE (kN (kL (uI P)) kE)))))) (kN (kN (kN (kN (kS (JZ P) (kN (kN (kL (g_ P)) kE) kE) kE) kE) (kN (kL (J1 P)) kE)) (kN (kN (kN (kL (Ka P)) kE) (kN kE (kL (Kr P)))) (kN (kN (kL (Kd P)) (kS (Kn P) kE (kL (xK P)))) (kN kE (kS (Ks P) kE (kL (K_ P))))))) (kN (kN (kN kE (kS (J6 P) kE (kN kE (kL (lA P))))) (kN (kS (J4 P) (kN kE (kL (KP P))) kE) (kN kE (kN (kL (KG P)) kE)))) (kN (kS (JW P) (kN (kN kE (kL (KL P))) kE) kE) kE)))) (kS (o2 P) (kN (kN (kN (kN (kN (kN (kN (kL (Lb P)) kE) (kL (xM P))) kE) (kN kE (kN kE (kL (fL P))))) (kN (kN kE (kN kE (kL (KR P)))) kE)) (kN (kN (kN (kS (J' P) (kN (kL (Ld P)) kE) kE) (kL (Kl P))) (kS (J8 P) kE (kL (Kq P)))) (kN (kN (kL (Kc P)) (kS (Km P) kE (kL (KS P)))) (kS (J_ P) (kL (Kg P)) kE)))) (kN (kN (kN kE (kS (J5 P) kE (kN (kL (Kz P)) (kL (KW P))))) (kN (kS (J3 P) (kN (kN (kL (mY P)) kE) (kL (KO P))) kE) kE)) (kN (kS (JV P) kE (kN kE (kN kE (kL (KY P))))) kE))) (kN (kN (kN (kN (kL (J0 P)) kE) (kN (kL (J2 P)) (kN kE (kN kE (kL (KZ P)))))) (kN kE (kN kE (kN kE (kS (Ku P) (kL (KI P)) (kL (La P))))))) (kN (kN kE (kN kE (kN (kN (kL (Kv P)) kE) (kN (kL (KH P)) kE)))) (kN (kN (kN (kN (kN (kL (Lf P)) kE) (kL (KN P))) kE) (kN kE (kN (kL (KA P)) kE))) (kL (JX P)))))))
theorem Nv(P:Params):X.KT.of (K P)=kt P:=by kernel_rfl
theorem ER:∀P,[0,2,3,44,45,62,63,65,66,81,82,84,85,100,101,103,104,119,120,136,137,152,153,183,184,199,200,216,217,232,233,249,250,310,311,355,356,366,367,373,374,378,379,383,384,397,398,404,405,463,464,472,473,479,480,484,485,491,492,498,499,505,506,512,513,519,520,526,527,531,532]=(K P).map (·.1):=fun _=>by kernel_rfl
section
noncomputable def ft(b1 b2 b3:Bool)(f:String→Bool):String→Bool:=fun s=>
 if s="special-get-raises" then b1 else if s="comprehension-iter-twice" then b2 else if s="set-order" then b3 else f s
noncomputable def W(b1 b2 b3:Bool)(w:World):World:=⟨w.draws,{w.params with followText:=ft b1 b2 b3 w.params.followText}⟩
theorem NH(w:World):W (w.params.followText "special-get-raises") (w.params.followText "comprehension-iter-twice") (w.params.followText "set-order") w=w:=by
 have e:ft (w.params.followText "special-get-raises") (w.params.followText "comprehension-iter-twice") (w.params.followText "set-order") w.params.followText=w.params.followText:=by
  funext s
  unfold ft
  split
  ·rename_i h;rw[h]
  ·split
   ·rename_i h;rw[h]
   ·split
    ·rename_i h;rw[h]
    ·rfl
 unfold W
 rw[e]
noncomputable abbrev lst(vs:List Value)(ep:Nat):Obj:=⟨.type "list",none,.seq ⟨vs⟩ ep,#[]⟩
noncomputable abbrev tup(vs:List Value):Obj:=⟨.type "tuple",none,.seq ⟨vs⟩ 0,#[]⟩
noncomputable abbrev dct(es:List DictEntry)(ep:Nat):Obj:=⟨.type "dict",none,.dict ⟨es⟩ ep,#[]⟩
noncomputable abbrev ai(es:List DictEntry)(ep:Nat):Obj:=⟨.type "frame",none,.dict ⟨es⟩ ep,#[]⟩
noncomputable abbrev ins(C d:Addr):Obj:=⟨.ref C,some d,.plain,#[]⟩
noncomputable abbrev rt(v:Value):Result:=.ok (.ret v)
noncomputable abbrev blt(id:String)(vs:List Value):Code:=.call (.builtin id) ⟨vs,[]⟩
noncomputable abbrev aK(f:Addr)(vs:List Value):Code:=.call (.ref f) ⟨vs,[]⟩
set_option genInjectivity false
set_option genSizeOf false
set_option genSizeOfSpec false
structure Vv where
 (a b c d e f g h i j k l m n o p q r s t u v w x y z A B C D E F G H I J K:Nat) (i0 i1 i2 i3:Int) (y0 y1 y2 y3 y4:Value) (l0 l1 l2 l3:List Value) (e0 e1:List DictEntry)
noncomputable abbrev dj(a b c d e f g h i:Nat)(i0:Int)(l0 l1:List Value):Vv:=⟨a,b,c,d,e,f,g,h,i,0,0,0,0,0,0,0,0,0,0,0,0,0,0,0,0,0,0,0,0,0,0,0,0,0,0,0,0,i0,0,0,0,.none,.none,.none,.none,.none,l0,l1,[],[],[],[]⟩
noncomputable abbrev gm(a b c d e f g h i j k l:Nat)(i0:Int)(y0:Value)(l0:List Value)(e0:List DictEntry):Vv:=⟨a,b,c,d,e,f,g,h,i,j,k,l,0,0,0,0,0,0,0,0,0,0,0,0,0,0,0,0,0,0,0,0,0,0,0,0,0,i0,0,0,0,y0,.none,.none,.none,.none,l0,[],[],[],e0,[]⟩
noncomputable abbrev mQ(a b c d e f g h i j k l m n:Nat)(i0:Int)(y0:Value)(l0 l1:List Value):Vv:=⟨a,b,c,d,e,f,g,h,i,j,k,l,m,n,0,0,0,0,0,0,0,0,0,0,0,0,0,0,0,0,0,0,0,0,0,0,0,i0,0,0,0,y0,.none,.none,.none,.none,l0,l1,[],[],[],[]⟩
noncomputable abbrev zy(a b c d e f g h i j k l m n:Nat)(i0 i1:Int)(l0 l1 l2 l3:List Value):Vv:=⟨a,b,c,d,e,f,g,h,i,j,k,l,m,n,0,0,0,0,0,0,0,0,0,0,0,0,0,0,0,0,0,0,0,0,0,0,0,i0,i1,0,0,.none,.none,.none,.none,.none,l0,l1,l2,l3,[],[]⟩
noncomputable abbrev gn(a b c d e f g h i j k l m n o p q:Nat)(i0 i1:Int)(y0 y1:Value)(l0 l1:List Value)(e0:List DictEntry):Vv:=⟨a,b,c,d,e,f,g,h,i,j,k,l,m,n,o,p,q,0,0,0,0,0,0,0,0,0,0,0,0,0,0,0,0,0,0,0,0,i0,i1,0,0,y0,y1,.none,.none,.none,l0,l1,[],[],e0,[]⟩
noncomputable abbrev fD(a b c d e f g h i j k l m n o p q r s t u v w x y z A:Nat)(i0 i1:Int)(y0:Value)(l0 l1 l2:List Value)(e0:List DictEntry):Vv:=⟨a,b,c,d,e,f,g,h,i,j,k,l,m,n,o,p,q,r,s,t,u,v,w,x,y,z,A,0,0,0,0,0,0,0,0,0,0,i0,i1,0,0,y0,.none,.none,.none,.none,l0,l1,l2,[],e0,[]⟩
noncomputable abbrev jj(a b c d e f g h i j k l m n o p q r s t u v w x y z A B C D E F G H I J K:Nat)(i0 i1 i2 i3:Int)(y0 y1 y2 y3 y4:Value)(l0:List Value)(e0 e1:List DictEntry):Vv:=⟨a,b,c,d,e,f,g,h,i,j,k,l,m,n,o,p,q,r,s,t,u,v,w,x,y,z,A,B,C,D,E,F,G,H,I,J,K,i0,i1,i2,i3,y0,y1,y2,y3,y4,l0,[],[],[],e0,e1⟩
set_option genInjectivity true
set_option genSizeOf true
set_option genSizeOfSpec true
structure WX where
 a:Bool
 b:Bool
 c:Bool
 w:World
 gs:Array GenState
 dr:Drawn
 os:OsState
noncomputable abbrev WX.S(J:WX)(h:Heap)(tk:Nat):Shared:=⟨h,J.gs,J.dr,tk,J.os⟩
noncomputable abbrev WX.W(J:WX):World:=Mine.W J.a J.b J.c J.w
noncomputable abbrev WX.P(J:WX):Params:=J.W.params
noncomputable abbrev WX.M(J:WX):Model:=model pw J.W
noncomputable abbrev WX.V(J:WX)(ro:List Ent):Vw:=⟨pw,J.W,kt J.P,ro⟩
noncomputable abbrev Ck:Type:=List (Addr×Addr)×List gj×List (Option Ent)×Tg×Program×World×Bool
noncomputable abbrev Sg.l(s:Sg):Ck:=(o6 s.r,o7 s.r,s.is.map (bg (fc s.r)),C_ s.r,s.V.prog,s.V.w,s.o.cl)
noncomputable abbrev Sg.q(J:WX)(s:Sg):Ck:=((o6 s.r).map dup,(o7 s.r).map rT,s.hd.es.map some,s.hd.tg,pw,J.W,false)
noncomputable abbrev CK(J:WX)(l:List Sg):Prop:=l.map Sg.l=l.map (Sg.q J)
noncomputable def DR(J:WX)(A:Around)(R:RR)(h₀:Heap)(mods:List Addr)(h₁:Heap)(s:Sg):Prop:=match s.hd with
 |.fin v _ _=>∀h' tk,At A h₀ mods h₁ s h'→R v (J.S h' tk)
 |.call c _ _=>∀h' tk,At A h₀ mods h₁ s h'→rU pw J.W A R (kOf s.r) c (J.S h' tk)
 |.again c _ _=>∀h' tk,At A h₀ mods h₁ s h'→codeAny J.M (fH A (kOf s.r)) c (Rk pw J.W A R (kOf s.r)) (J.S h' tk)
section
variable (J:WX)(s:Sg)
noncomputable def OC:Prop:=match s with
 |⟨V,_,.C c,mu,n,tk,_,_⟩=>∀⦃A:Around⦄ ⦃R:RR⦄ ⦃h h₀:Heap⦄ ⦃mods:List Addr⦄,aa A 30→Base V h₀ mods→Rep V h₀ mods h mu n→DR J A R h₀ mods h s→codeAny J.M A c R (J.S h tk)
 |_=>True
noncomputable def OT:Prop:=match s with
 |⟨V,_,.T c t,mu,n,tk,_,_⟩=>∀⦃A:Around⦄ ⦃R:RR⦄ ⦃h h₀:Heap⦄ ⦃mods:List Addr⦄,A.under c=A→aa A 30→Base V h₀ mods→Rep V h₀ mods h mu n→DR J A R h₀ mods h s→wpAny J.M A t (X.postC pw J.W A R) (X.postE R) (J.S h tk)
 |_=>True
noncomputable def OB:Prop:=match s with
 |⟨V,_,.B p v,mu,n,tk,_,_⟩=>∀⦃A:Around⦄ ⦃R:RR⦄ ⦃h h₀:Heap⦄ ⦃mods:List Addr⦄,aa A 30→Base V h₀ mods→InK A (kOf p)→Rep V h₀ mods h mu n→DR J A R h₀ mods h s→Rk pw J.W A R (kOf p) v (J.S h tk)
 |_=>True
noncomputable def WO:Option Sg→Prop
 |some s=>OC J s|none=>True
noncomputable def WQ:Option Sg→Prop
 |some s=>OT J s|none=>True
noncomputable def WR:Option Sg→Prop
 |some s=>OB J s|none=>True
end
theorem CK.DS{J:WX}{l:List Sg}(hc:CK J l){i:Nat}{s:Sg}(e:l[i]? =some s):zF s.r s.is s.hd∧s.V.prog=pw∧s.V.w=J.W∧s.o.cl=false:=by
 have z:=congrArg (fun m=>m[i]?) hc
 simp only[List.getElem?_map,e,Option.map_some,Option.some.injEq]at z
 injection z with z1 z;injection z with z2 z;injection z with z3 z;injection z with z4 z;injection z with z5 z;injection z with z6 z7
 exact⟨⟨by rw[←z1,←z2,z3,z4]⟩,z5,z6,z7⟩
theorem CK.c{J:WX}{l:List Sg}(hc:CK J l)(i:Nat):WO J l[i]?:=by
 cases e:l[i]? with
 |none=>trivial
 |some s=>
 obtain⟨S,e3,e4,e5⟩:=hc.DS e
 obtain⟨V,tp,o,mu,n,tk,is,hd⟩:=s
 cases o with
 |C c=>
  intro A R h h₀ mods RA B D P
  have P:=post_of S (show wB pw J.W A R h₀ mods h J.gs J.dr J.os _ from P)
  have G:=S.good
  simp only[Sg.r,Og.run,start]at P G
  have z:=sim_sound (R:=R) (g:=J.gs) (d:=J.dr) (os:=J.os) e3 e4 RA B 3000 tp (some c) .base _ mu n tk [] [] h (by simp[j0,show cB c=false from e5]) rfl (Nat.zero_le 13) D D.rebase G P
  refine codeAny_of_tree ?_
  rw[C9]
  exact wpAny_mono z (fun fin _ hf=>by cases fin<;>exact hf) fun _ _ e=>e
 |_=>trivial
theorem CK.t{J:WX}{l:List Sg}(hc:CK J l)(i:Nat):WQ J l[i]?:=by
 cases e:l[i]? with
 |none=>trivial
 |some s=>
 obtain⟨S,e3,e4,e5⟩:=hc.DS e
 obtain⟨V,tp,o,mu,n,tk,is,hd⟩:=s
 cases o with
 |T c t=>
  intro A R h h₀ mods hu RA B D P
  have P:=post_of S (show wB pw J.W A R h₀ mods h J.gs J.dr J.os _ from P)
  have G:=S.good
  simp only[Sg.r,Og.run,I5]at P G
  have z:=sim_sound (R:=R) (g:=J.gs) (d:=J.dr) (os:=J.os) e3 e4 RA B 3000 tp (some c) .base t mu n tk [] [] h (by simp[j0,show cB c=false from e5]) rfl (Nat.zero_le 13) D D.rebase G P
  have z':wpAny J.M (A.under c) t (X.postC pw J.W A R) (X.postE R) (J.S h tk):=z
  rw[hu]at z'
  exact z'
 |_=>trivial
theorem CK.b{J:WX}{l:List Sg}(hc:CK J l)(i:Nat):WR J l[i]?:=by
 cases e:l[i]? with
 |none=>trivial
 |some s=>
 obtain⟨S,e3,e4,_⟩:=hc.DS e
 obtain⟨V,tp,o,mu,n,tk,is,hd⟩:=s
 cases o with
 |B p v=>
  intro A R h h₀ mods RA B I D P
  have P:=post_of S (show wB pw J.W A R h₀ mods h J.gs J.dr J.os _ from P)
  have G:=S.good
  simp only[Sg.r,Og.run,back]at P G
  exact retS_sound (sim_sound e3 e4 RA B 3000) I.ok.1 I.ok.2 D D.rebase G P
 |_=>trivial
end
noncomputable def fdOf:Obj→FuncData
 |⟨_,_,.func f,_⟩=>f
 |_=>default
noncomputable def bodyOf(o:Obj):List Stmt:=match(fdOf o).body with
 |.stmts b=>b
 |_=>[]
noncomputable def fEnv(f:Addr)(o:Obj)(n:Addr):Env:={scope:=(fdOf o).scope,locals:=n,globals:=3,cells:=[],qual:=(fdOf o).qualname++Str.ofString ".<locals>.",func:=some f,code:=.ref (f-1),frame:=some n,builtins:=(fdOf o).builtins}
noncomputable def dX:List Stmt→Nat→Stmt
 | [],_=>.Pass ⟨0,0,0,0⟩
 |x::_,0=>x
 |_::l,n+1=>dX l n
noncomputable def iG:Stmt→List Stmt
 |.If _ b _ _=>b
 |_=>[]
noncomputable def cO:Stmt→List Stmt
 |.For _ _ b _ _=>b
 |.While _ b _ _=>b
 |_=>[]
noncomputable def o9:PySem.Expr→PySem.Expr
 |.ListComp elt _ _ _=>elt
 |_=>default
noncomputable def fO:PySem.Expr→PySem.Expr
 |.ListComp _ (g::_) _ _=>g.target
 |_=>default
noncomputable def o_:PySem.Expr→PySem.Expr
 |.ListComp _ (g::_) _ _=>g.iter
 |_=>default
noncomputable def mH:PySem.Expr→Scope
 |.ListComp _ _ sc _=>sc
 |_=>default
noncomputable def pg:PySem.Expr→Pos
 |.ListComp _ _ _ p=>p
 |_=>default
noncomputable abbrev dY(e:PySem.Expr):PySem.Expr:=.ListComp (o9 e) [⟨fO e,o_ e,[],0⟩] (mH e) (pg e)
noncomputable def LD(sc:Scope):Scope:={sc with names:=sc.names.map fun p=>match p.2 with
 |.free=>(p.1,.cell)
 |_=>p}
noncomputable abbrev pA(e:PySem.Expr)(o:Obj)(c:Addr)(cells:List (Str×Addr))(L n:Addr):Env:={scope:=LD (mH e),locals:=L,globals:=3,cells:=cells,qual:=(fdOf o).qualname++Str.ofString ".<locals>.",func:=none,code:=.ref c,frame:=some n,builtins:=(fdOf o).builtins}
noncomputable def jb:Stmt→PySem.Expr
 |.Expr e _=>e
 |.Assign _ v _=>v
 |.Return (some v) _=>v
 |_=>default
noncomputable def gQ:PySem.Expr→Nat→PySem.Expr
 |.Call _ as _ _,n=>(as[n]?).getD default
 |_,_=>default
noncomputable def aL:Stmt→PySem.Expr
 |.While t _ _ _=>t
 |.If t _ _ _=>t
 |_=>default
noncomputable def qB:Stmt→Pos
 |.If _ _ _ p=>p
 |_=>⟨0,0,0,0⟩
noncomputable def DV:Stmt→List Stmt
 |.If _ _ e _=>e
 |_=>[]
noncomputable def fB:PySem.Expr→PySem.Expr
 |.Compare l _ _ _=>l
 |_=>default
noncomputable def fC:PySem.Expr→PySem.Expr
 |.Compare _ _ (r::_) _=>r
 |_=>default
noncomputable def jx:PySem.Expr→Pos
 |.Compare _ _ _ p=>p
 |_=>default
noncomputable def mJ:List Stmt→List Stmt
 |_::l=>l
 | []=>[]
noncomputable abbrev cL:PySem.Expr→Env→Sem Value:=PySem.W.Fast.tw14044960220447912780
noncomputable abbrev mK:List Stmt→Env→Sem Flow:=PySem.W.Fast.tw12563942051412417395
noncomputable abbrev pB:PySem.Expr→Env→Sem Value→Sem Bool:=PySem.W.Fast.tw15418851999007992765
noncomputable def mL(P:Params):Stmt:=dX (bodyOf (g_ P)) 0
noncomputable abbrev bO(P:Params)(n:Addr):Code:=.whileLoop (aL (mL P)) (cO (mL P)) [] (fEnv 513 (g_ P) n)
noncomputable def j7(P:Params):Stmt:=dX (cO (mL P)) 0
noncomputable def j8(P:Params):Stmt:=dX (iG (j7 P)) 0
noncomputable def gR(P:Params):PySem.Expr:=gQ (jb (dX (bodyOf (lA P)) 2)) 0
noncomputable abbrev su(P:Params)(it acc L n:Addr):Code:=.compLoop (dY (gR P)) 0 (.ref it) (.ref acc) (pA (gR P) (lA P) 484 [] L n)
noncomputable def DW(P:Params):Stmt:=dX (iG (dX (bodyOf (lA P)) 0)) 1
noncomputable def DX:List PySem.Expr:=[Expr.Name (Str.ofString "number") ⟨203,12,203,18⟩,Expr.Name (Str.ofString "value") ⟨203,20,203,25⟩]
noncomputable def DY:Pos:=⟨203,12,203,25⟩
noncomputable abbrev wY(P:Params)(z n:Addr):Code:=.forLoop (.Tuple DX 0 DY) (.ref z) (cO (DW P)) [] (fEnv 485 (lA P) n)

noncomputable def d9(t:Sem Value):Sem Fin:=Sem.bind t fun v=>.pure (.done (.ret v))
noncomputable def pH(t:Sem Bool):Sem Fin:=Sem.bind t fun b=>.pure (.done (.ret (.bool b)))
noncomputable def jg(t:Sem Flow):Sem Fin:=Sem.bind t fun f=>.pure (.done f)
noncomputable def mX(tgt:PySem.Expr)(it:Value)(body orelse:List Stmt)(env:Env)(v:Value):Sem Fin:=
 Sem.bind (PySem.W.Fast.tw17772580674575903948 tgt env v) fun _=>Sem.bind (PySem.W.Fast.tw12563942051412417395 body env) fun f=>match f with
 |.next|.cont=>Sem.pure (.again (.forLoop tgt it body orelse env))
 |.brk=>Sem.pure (.done .next)
 |.ret v=>Sem.pure (.done (.ret v))
noncomputable def qM(elt target iter:PySem.Expr)(scope:Scope)(pos:Pos)(it acc:Value)(env:Env)(v:Value):Sem Fin:=
 Sem.bind (PySem.W.Fast.tw17772580674575903948 target env v) fun _=>Sem.bind (Sem.bind (PySem.W.Fast.tw14044960220447912780 elt env) fun x=>Sem.bind (PySem.W.Fast.tw11478286150595567475 (.builtin "list.append") [acc,x]) fun _=>Sem.pure ()) fun _=>
  Sem.pure (.again (.compLoop (.ListComp elt [⟨target,iter,[],0⟩] scope pos) 0 it acc env))
noncomputable def Am(elt target iter test:PySem.Expr)(scope:Scope)(pos:Pos)(it acc:Value)(env:Env)(v:Value):Sem Fin:=
 Sem.bind (PySem.W.Fast.tw17772580674575903948 target env v) fun _=>Sem.bind (pB test env (cL test env)) fun ok=>Sem.bind (match ok with
  |true=>Sem.bind (cL elt env) fun x=>Sem.bind (PySem.W.Fast.tw11478286150595567475 (.builtin "list.append") [acc,x]) fun _=>Sem.pure ()
  |false=>Sem.pure ()) fun _=>Sem.pure (.again (.compLoop (.ListComp elt [⟨target,iter,[test],0⟩] scope pos) 0 it acc env))
noncomputable abbrev bL(v:Value):Obj:=⟨.type "cell",none,.cell (some v),#[]⟩
noncomputable abbrev AB(P:Params)(t1 t2 t3 t4 t5:Nat)(TB TT OP:Addr)(l:Int)(tl ew:Nat):Obj:=dct [ent P Eo t1 (.ref TB),ent P Ep t2 (.int l tl),ent P Er t3 (.ref TT),ent P Es t4 (.ref OP),ent P Et t5 .none] ew
noncomputable def uG:PySem.Expr→PySem.Expr
 |.BinOp l _ _ _=>l
 |_=>default
noncomputable def bW:PySem.Expr→Nat→PySem.Expr
 |.BoolOp _ l _,n=>(l[n]?).getD default
 |_,_=>default
noncomputable def Mr:PySem.Expr→PySem.Expr
 |.UnaryOp _ e _=>e
 |_=>default
noncomputable def Eu:PySem.Expr→PySem.Expr
 |.ListComp _ (g::_) _ _=>(g.ifs[0]?).getD default
 |_=>default
noncomputable abbrev uH(e:PySem.Expr):PySem.Expr:=.ListComp (o9 e) [⟨fO e,o_ e,[Eu e],0⟩] (mH e) (pg e)
noncomputable abbrev aT(e:PySem.Expr)(env:Env)(it acc:Addr):Code:=.compLoop (dY e) 0 (.ref it) (.ref acc) env
noncomputable abbrev ia(e:PySem.Expr)(env:Env)(it acc:Addr):Code:=.compLoop (uH e) 0 (.ref it) (.ref acc) env
noncomputable abbrev fF(e:PySem.Expr)(env:Env)(it acc:Addr)(v:Value):Sem Fin:=qM (o9 e) (fO e) (o_ e) (mH e) (pg e) (.ref it) (.ref acc) env v
noncomputable abbrev sM(e:PySem.Expr)(env:Env)(it acc:Addr)(v:Value):Sem Fin:=Am (o9 e) (fO e) (o_ e) (Eu e) (mH e) (pg e) (.ref it) (.ref acc) env v
noncomputable section
noncomputable def aF(P:Params)(i:Nat):Stmt:=dX (bodyOf (mY P)) i
noncomputable def pG(P:Params):PySem.Expr:=jb (dX (bodyOf (xK P)) 0)
noncomputable def jy(P:Params):PySem.Expr:=jb (aF P 2)
noncomputable def mR(P:Params):PySem.Expr:=jb (aF P 3)
noncomputable def jD(P:Params):PySem.Expr:=jb (aF P 4)
noncomputable def jz(P:Params):PySem.Expr:=gQ (jb (aF P 5)) 1
noncomputable def jA(P:Params):PySem.Expr:=jb (aF P 6)
noncomputable def jF(P:Params):PySem.Expr:=uG (uG (uG (gQ (jb (aF P 7)) 3)))
noncomputable def jH(P:Params):PySem.Expr:=fB (bW (aL (aF P 9)) 2)
noncomputable def mV(P:Params):PySem.Expr:=gQ (jb (aF P 11)) 0
noncomputable def jI(P:Params):PySem.Expr:=fC (aL (aF P 12))
noncomputable def AD(P:Params)(i:Nat):Stmt:=dX (bodyOf (xM P)) i
noncomputable def e_(P:Params):PySem.Expr:=gQ (Mr (bW (aL (AD P 1)) 1)) 0
noncomputable def gU(P:Params):PySem.Expr:=uG (jb (dX (DV (AD P 1)) 0))
noncomputable def h_(P:Params):PySem.Expr:=gQ (jb (AD P 2)) 1
noncomputable def qN(P:Params)(i:Nat):Stmt:=dX (bodyOf (uI P)) i
noncomputable def jB(P:Params):PySem.Expr:=jb (qN P 0)
noncomputable def iK(P:Params):PySem.Expr:=uG (jb (qN P 1))
noncomputable abbrev qL(P:Params)(L n:Addr):Env:=pA (pG P) (xK P) 472 [] L n
noncomputable abbrev bF(P:Params)(e:PySem.Expr)(cells:List (Str×Addr))(L n:Addr):Env:=pA e (mY P) 531 cells L n
noncomputable abbrev fE(P:Params)(e:PySem.Expr)(L n:Addr):Env:=pA e (xM P) 383 [] L n
noncomputable abbrev jC(P:Params)(e:PySem.Expr)(cells:List (Str×Addr))(L n:Addr):Env:=pA e (uI P) 378 cells L n
end
noncomputable abbrev fQ:Obj:=⟨.type "cell",none,.cell none,#[]⟩
noncomputable def bC(P:Params)(fr cd cw cp cf:Addr):Env:={fEnv 532 (mY P) fr with cells:=[(xJ,cf),(qH,cp),(gz,cw),(qJ,cd)]}
noncomputable def Ew(P:Params)(n c:Addr):Env:={fEnv 379 (uI P) n with cells:=[(gz,c)]}
noncomputable def iS:Stmt→PySem.Expr
 |.For t _ _ _ _=>t
 |_=>default
noncomputable abbrev uJ(P:Params)(it n c:Addr):Code:=.forLoop (iS (qN P 2)) (.ref it) (cO (qN P 2)) [] (Ew P n c)
noncomputable abbrev Ms(P:Params)(it n c:Addr)(v:Value):Sem Fin:=mX (iS (qN P 2)) (.ref it) (cO (qN P 2)) [] (Ew P n c) v
noncomputable def pI:Stmt→PySem.Expr
 |.For _ i _ _ _=>i
 |_=>default
noncomputable def sN:PySem.Expr→PySem.Expr
 |.Call f _ _ _=>f
 |_=>default
noncomputable def AE:PySem.Expr→PySem.Expr
 |.IfExp t _ _ _=>t
 |_=>default
noncomputable def AF:PySem.Expr→PySem.Expr
 |.IfExp _ a _ _=>a
 |_=>default
noncomputable def AG:PySem.Expr→PySem.Expr
 |.IfExp _ _ b _=>b
 |_=>default
noncomputable abbrev iT(P:Params)(t3 t4:Nat)(KD SH:Addr)(es:Nat):Obj:=dct [ent P cT t3 (.ref KD),ent P iL t4 (.ref SH)] es
structure Wc where
 (w1 w2 w3 w4 w5 TB TT OP ew:Nat)
noncomputable abbrev mO(P:Params)(c:Wc)(l:Int)(tl:Nat):Obj:=AB P c.w1 c.w2 c.w3 c.w4 c.w5 c.TB c.TT c.OP l tl c.ew
noncomputable section
abbrev er(J:WX)(s:Str)(a b:Nat):DictEntry:=ent J.P s a (.ref b)
abbrev ei(J:WX)(s:Str)(a:Nat)(b:Int)(c:Nat):DictEntry:=ent J.P s a (.int b c)
def Sk(n:Nat):Nat→List Nat→List Nat:=Nat.rec (fun _ a=>a) (fun _ f n a=>match n.ble 1 with|true=>a|false=>f (n/10) (n%10::a)) n
def Sl(n:Nat):Nat→List Nat→List Nat:=Nat.rec (fun _ a=>a) (fun _ f n a=>match n.ble 1 with|true=>a|false=>f (n/16) (n%16::a)) n
noncomputable def zj:Bool→List Nat→List Nat|_,[]=>[]|true,d::l=>(14+2*d)::zj false l|false,d::l=>match d.beq 15 with|true=>zj true l|false=>d::zj false l
def dg(n:Nat):List Nat:=Sk 2000 n []
noncomputable def dx(n:Nat):List Nat:=zj false (Sl 2000 n [])
abbrev Sg.N(V:Vw)(t:List Nat)(p:Sg)(v:Value)(n k:Nat)(i:List Nat)(h:Hd):Sg:=⟨V,t,.B p.r (rt v),fc p.r,n,k,i,h⟩
abbrev Sg.U(V:Vw)(t:List Nat)(p:Sg)(v:Value)(j:Nat)(x:Obj)(n k:Nat)(i:List Nat)(h:Hd):Sg:=⟨V,t,.B p.r (rt v),put (fc p.r) j x,n,k,i,h⟩
abbrev Sg.A(V:Vw)(t:List Nat)(p:Sg)(v:Value)(e:List Ent)(n k:Nat)(i:List Nat)(h:Hd):Sg:=⟨V,t,.B p.r (rt v),fc p.r++e,n,k,i,h⟩
abbrev Og.tb(l:List Stmt)(e:Env):Og:=.T (.block [] e) (jg (mK l e))
def kv:Bool→Int→Nat→Value|true,n,t=>.int n t|false,_,t=>.ref t
def kx:Bool→Nat→Value|true,t=>.ref t|false,t=>.str aX t
def nc:Bool→Bool→Bool→Nat|true,true,true=>66|true,true,false=>85|true,false,true=>104|true,false,false=>184|false,true,true=>137|false,true,false=>217|false,false,_=>250
def fn(J:WX):Bool→Nat→Value→List DictEntry|true,t,v=>[ent J.P gw t v]|false,_,_=>[]
def pe(J:WX)(s:Str):Bool→Nat→Value→List DictEntry|true,t,v=>[ent J.P s t v]|false,_,_=>[]
def pf(J:WX)(s:Str):Bool→Nat→Value→Nat→Value→List DictEntry|true,t,v,u,w=>[ent J.P cD t v,ent J.P s u w]|false,_,_,_,_=>[]
def pk(J:WX):Bool→Nat→Value→Nat→Value→Nat→Value→List DictEntry|true,a,b,c,d,e,f=>[ent J.P fZ a b,ent J.P jW c d,ent J.P CA e f]|false,_,_,_,_,_,_=>[]
def pn(J:WX):Bool→Nat→Value→Nat→Value→List DictEntry|true,a,b,c,d=>[ent J.P cD a b,ent J.P aX c d]|false,_,_,_,_=>[]
def p2(J:WX):Bool→Nat→Value→Nat→Value→List DictEntry|true,e,f,g,h=>[ent J.P fU e f,ent J.P fZ g h]|false,_,_,_,_=>[]
def p4(J:WX):Bool→Nat→Value→Nat→Value→Nat→Value→Nat→Value→List DictEntry|true,a,b,c,d,e,f,g,h=>[ent J.P aX a b,ent J.P cE c d,ent J.P fU e f,ent J.P fZ g h]|false,_,_,_,_,_,_,_,_=>[]
def p5(J:WX)(z:Bool)(y:Nat)(x:Value)(a:Nat)(b:Value)(c:Nat)(d:Value)(e:Nat)(f:Value)(g:Nat)(h:Value):List DictEntry:=match z with|true=>[ent J.P ji y x,ent J.P aX a b,ent J.P cE c d,ent J.P fU e f,ent J.P fZ g h]|false=>[]
def fi:Bool→Nat→Nat→Nat|true,a,_=>a|false,_,b=>b
abbrev T0(J:WX)(a b c:Nat)(d:Int)(e f g h i j k l m:Nat)(Z:List DictEntry):List DictEntry:=er J fJ a b::ei J cG c d e::er J gB f g::er J jo h i::er J pZ j k::er J fq l m::Z
abbrev T1(J:WX)(a b:Nat):DictEntry:=er J jq a b
abbrev T2(J:WX)(a b c:Nat)(d:Int)(e f g h i j k:Nat):Obj:=dct [er J Eo a b,ei J Ep c d e,er J Er f g,er J Es h i,ent J.P Et j .none] k
abbrev T3(J:WX)(a b c d e f:Nat)(Z:List DictEntry):List DictEntry:=er J fq a b::er J HF c d::er J gB e f::Z
abbrev T4(J:WX)(a b:Nat):DictEntry:=ent J.P fq a (.str aX b)
abbrev T5(a b:Nat)(c:List Value)(d e:Nat):Hd:=.call (blt "list.append" [.ref a,.ref b]) [(a,lst c d)] e
abbrev T6(J:WX)(a b c d e:Nat)(f:Value)(g:Nat)(h:Int)(i j:Nat)(k:Int)(l:Nat)(Z:List DictEntry):List DictEntry:=T1 J a b::er J rA c d::ent J.P ji e f::ei J aX g h i::ei J cE j k l::Z
abbrev T7(J:WX)(a b c d e f:Nat)(Z:List DictEntry):List DictEntry:=er J fq a b::er J gx c d::er J jZ e f::Z
abbrev T8(a:Nat)(b:Int)(c:Nat):Code:=blt "list.__getitem__" [.ref a,.int b c]
abbrev T9(J:WX)(a:Nat):Stmt:=dX (cO (aF J.P 13)) a
abbrev Sb(J:WX)(a:Vw)(b:Sg)(c:List Value)(d e f g h i j k l m n:Nat):Sg:=.U a [0] b .none 1 (lst c d) e f [0,1,3] (.again (aT (e_ J.P) (fE J.P (e_ J.P) g h) i j) [(g,dct [er J aX k l] m),(j,lst c d),(n+301,tup [.ref 66,.ref 184,.ref 85,.ref 104])] e)
abbrev i9(a:Nat)(b:List Value)(c d:Nat):Hd:=.call (blt "list.pop" [.ref a]) [(a,lst b c)] d
abbrev eX(J:WX)(a b:Nat):DictEntry:=er J gB a b
abbrev dP(a:Nat):Data:=.fields ⟨[.ref a,.int 0 0]⟩
abbrev Ho(J:WX)(a b c d e:Nat)(f:Int)(g:Nat):Og:=.T (ia (jI J.P) (bF J.P (jI J.P) [(qH,a)] b c) d e) (sM (jI J.P) (bF J.P (jI J.P) [(qH,a)] b c) d e (.int f g))
abbrev mq(a b c d:Nat):Code:=aK a [.ref b,.ref c,.ref d]
abbrev iA(a b:Nat):Code:=blt "list.__add__" [.ref a,.ref b]
abbrev gf(J:WX)(a b c:Nat)(d:Int)(e:Nat)(Z:List DictEntry):List DictEntry:=er J fJ a b::ei J cG c d e::Z
abbrev zb(a b:Nat):Code:=blt "list.__getitem__" [.ref a,.ref b]
abbrev kH(J:WX)(a b:Nat):DictEntry:=er J jZ a b
abbrev tX(a:Nat)(b:Int)(c:Nat)(d:List Value)(e f:Nat):Hd:=.call (blt "list.append" [.ref a,.int b c]) [(a,lst d e)] f
abbrev R_(J:WX)(a b c d e:Nat):Og:=.T (aT (e_ J.P) (fE J.P (e_ J.P) a b) c d) (fF (e_ J.P) (fE J.P (e_ J.P) a b) c d (.ref e))
abbrev tT(J:WX)(a:Nat):Og:=.tb (cO (dX (bodyOf (dF J.P)) 1)) (fEnv 527 (dF J.P) a)
abbrev i_(J:WX)(a b c:Nat)(d:Int)(e f g h i:Nat)(Z:List DictEntry):List DictEntry:=er J gz a b::ei J jW c d e::eX J f g::er J zl h i::Z
abbrev Hz(J:WX)(a b c d e f:Nat)(g:Int)(h:Nat):Og:=.T (.forLoop (iS (T9 J 3)) (.ref a) (cO (T9 J 3)) [] (bC J.P b c d e f)) (mX (iS (T9 J 3)) (.ref a) (cO (T9 J 3)) [] (bC J.P b c d e f) (.int g h))
abbrev Sj(J:WX)(a:Nat):Og:=.T (bO J.P a) (jg (mK (mJ (iG (j7 J.P))) (fEnv 513 (g_ J.P) a)))
abbrev fM(J:WX)(a b c:Nat)(d:Int)(e f g h i j k l m n o p q r:Nat):Obj:=ai (T0 J a b c d e f g h i j k l m [T1 J n o,er J rA p q]) r
abbrev fK(J:WX)(a:Nat)(b:Int)(c:Nat):DictEntry:=ei J cD a b c
abbrev lZ(a:Nat):Code:=blt "len" [.ref a]
abbrev yU(a b:Nat)(c:Int)(d e:Nat):Hd:=.call (zb a b) [(b,⟨.type "slice",none,.fields ⟨[.none,.int c d,.none]⟩,#[]⟩)] e
abbrev iB(J:WX)(a b c:Nat)(d:Int)(e f:Nat):Obj:=ai [er J qJ a b,ei J cG c d e] f
abbrev tU(J:WX)(a b c d e f g h i j k l:Nat)(m:List Value)(n o:Nat):Hd:=.fin (.ok Flow.next) [(a,ai (T3 J b c d e f g [er J lV h i,er J rG j k]) l),(e,lst m n)] o
abbrev cA(J:WX)(a b c d e:Nat):Env:=bC J.P a b c d e
abbrev eV(a:Sg):Og:=.B a.r (.ok .next)
abbrev bN(a:Nat):Result:=rt (.ref a)
abbrev Hp(J:WX)(a b c d e f:Nat)(g:Int)(h i:Nat)(j:List Value)(k l:Nat):Hd:=.again (ia (jI J.P) (bF J.P (jI J.P) [(qH,a)] b c) d e) [(b,dct [ei J cE f g h] i),(e,lst j k)] l
abbrev lX(J:WX)(a b c d e:Nat):Obj:=dct [er J nR a b,er J nU c d] e
abbrev yZ(a b:Nat)(c:Int)(d e:Nat):Hd:=.call (zb a b) [(b,⟨.type "slice",none,.fields ⟨[.int c d,.none,.none]⟩,#[]⟩)] e
abbrev Hj(J:WX)(a b c d e:Nat):Og:=.T (aT (jD J.P) (bF J.P (jD J.P) [] a b) c d) (fF (jD J.P) (bF J.P (jD J.P) [] a b) c d (.ref e))
abbrev rI(a:Int)(b:Nat)(c:Int)(d e:Nat):Hd:=.call (blt "int.__eq__" [.int a b,.int c d]) [] e
abbrev CH(J:WX)(a b c d e f g:Nat):Og:=.T (.block [] (cA J a b c d e)) (pH (pB (bW (aL (aF J.P f)) g) (cA J a b c d e) (cL (bW (aL (aF J.P f)) g) (cA J a b c d e))))
abbrev iP(J:WX)(a b:Nat):DictEntry:=er J aX a b
abbrev vS(a b c:Nat)(d:Int)(e f:Nat):Hd:=.call (zb a b) [(c+1,⟨.type "slice",none,.fields ⟨[.none,.int d e,.none]⟩,#[]⟩)] f
abbrev mw(J:WX)(a b c:Nat)(d:Value)(e f g h:Nat)(i:List DictEntry)(j:Nat):Obj:=ai ([T4 J a b,ent J.P gx c d,kH J e f,T1 J g h]++i) j
abbrev i8(J:WX)(a b c d e f g h:Nat)(i:List DictEntry)(j:Nat):Obj:=ai ((T3 J a b c d e f [er J lV g h])++i) j
abbrev cW(J:WX)(a b c:Nat)(d:Int)(e f g h i j k l m n o p:Nat):Obj:=ai (T0 J a b c d e f g h i j k l m [T1 J n o]) p
abbrev iQ(J:WX)(a:Nat):Env:=fEnv 480 (fL J.P) a
abbrev Sf(a b c d:Nat):Hd:=.call (mq 492 a b c) [] d
abbrev qf(a:Nat)(b:Int)(c d:Nat):Hd:=.call (aK 480 [.ref a,.int b c]) [] d
abbrev gJ(a:Nat):Obj:=bL (.ref a)
abbrev n_(J:WX)(a b c d e f:Nat)(Z:List DictEntry):List DictEntry:=eX J a b::er J qd c d::er J iz e f::Z
abbrev tZ(J:WX)(a b c:Nat):Vw:=J.V [(a,ins b c)]
abbrev ua(a b c d:Nat):Obj:=tup [.str s_call a,.ref b,.ref c,.ref d]
abbrev rH(a:Nat):Code:=.call (.type "list") ⟨[.ref a],[]⟩
abbrev Cx(J:WX)(a b:Nat)(c:Int)(d e f g h i j:Nat)(Z:List Ent):List Ent:=(a,dct [ei J jW b c d,er J p9 e f,ei J iz g (-1) h,er J iO i j] 4)::(a+1,ins 184 a)::(a+3,⟨.type "list_iterator",none,dP f,#[]⟩)::(a+4,lst [] 0)::(a+5,dct [] 0)::Z
abbrev Hl(J:WX)(a:Vw)(b:Sg)(c:List Value)(d e f g h i j k l m:Nat):Sg:=.U a [0] b .none 1 (lst c d) e f [0,1] (.again (aT (jD J.P) (bF J.P (jD J.P) [] g h) i j) [(g,dct [er J jd k l] m),(j,lst c d)] e)
abbrev R9(J:WX)(a b c:Nat):Og:=.T (wY J.P a b) (mX (.Tuple DX 0 DY) (.ref a) (cO (DW J.P)) [] (fEnv 485 (lA J.P) b) (.ref c))
abbrev jt(a:Nat):Obj:=lst [.ref a] 0
abbrev za(a:Int)(b:Nat)(c:Int)(d e:Nat):Hd:=.call (blt "int.__lt__" [.int a b,.int c d]) [] e
abbrev oh(J:WX)(a b c:Nat)(d:Int)(e f g h i j k l:Nat):Obj:=ai (gf J a b c d e [eX J f g,er J jo h i,er J pZ j k]) l
abbrev iC(J:WX)(a b c d e:Nat):Code:=.block [] (cA J a b c d e)
abbrev yV(J:WX)(a b c d:Nat):Env:=bF J.P (mR J.P) [(gz,a),(qJ,b)] c d
abbrev t_(a b:Nat)(c:Int)(d e:Nat):Obj:=tup [.str nV a,.ref b,.int c d,.ref e]
abbrev nX(J:WX)(a:Nat)(b:Value):DictEntry:=ent J.P cD a b
abbrev kI(a b:Nat):Obj:=tup [.ref a,.ref b]
abbrev vV(a:Int)(b:Nat)(c:Int)(d e:Nat):Hd:=.call (blt "int.__gt__" [.int a b,.int c d]) [] e
abbrev Si(J:WX)(a b c:Nat)(d:Int)(e f g:Nat)(Z:List DictEntry):List DictEntry:=T4 J a b::ei J gx c d e::kH J f g::Z
abbrev kM(a b:Nat):Hd:=.call (lZ a) [] b
abbrev vR(J:WX)(a:Nat)(b:Value):DictEntry:=ent J.P aX a b
abbrev jX(J:WX)(a b c:Nat):Obj:=ai [er J fJ a b] c
abbrev nW(a:Nat)(b:Int)(c d:Nat):Hd:=.call (T8 a b c) [] d
abbrev Se(J:WX)(a:Nat):Og:=.C (bO J.P a)
abbrev qa(J:WX)(a:Nat):Stmt:=dX (bodyOf (fL J.P)) a
abbrev yP(J:WX)(a b:Nat):DictEntry:=er J gx a b
abbrev yQ(a b:Nat):Data:=.fields ⟨[.none,.bool false,.bool false,.ref a,.ref b]⟩
abbrev Cs(a:Nat)(b:Int)(c d:Nat):Code:=blt "dict.__setitem__" [.ref a,.int b c,.ref d]
abbrev yT(J:WX)(a b c:Nat):Env:=bF J.P (mV J.P) [(xJ,a)] b c
abbrev iy(a b:Nat):Code:=aK a [.ref b]
end
noncomputable section
set_option autoImplicit true
local macro_rules |`(tactic|trivial)=>`(tactic|(rcases J with ⟨_|_⟩<;>kernel_rfl))
def P01(x:Lean.Syntax):Lean.Syntax:=x.rewriteBottomUp fun|.atom _ v=>.atom .none v|.ident _ a b c=>.ident .none a b c|.node _ k c=>.node .none k c|s=>s
def P02(f:Lean.Name)(a:List Lean.Syntax):Lean.Syntax:=.node .none ``Lean.Parser.Term.app #[Lean.mkIdent f,Lean.mkNullNode a.toArray]
def P03(x:Lean.Syntax)(n:String)(b u q:Lean.Syntax):Lean.Syntax:=x.setArg 1 (.node .none ``Lean.Parser.Command.theorem #[.atom .none "theorem",.node .none ``Lean.Parser.Command.declId #[Lean.mkIdent (.mkSimple n),Lean.mkNullNode],.node .none ``Lean.Parser.Command.declSig #[b,x[1][1][1][0].setArg 1 u],x[1][2].setArg 1 q])
def P04(x:Lean.Syntax):Array Lean.Syntax:=
 let l:=x[1][1][1][0][1]
 let p:=x[1][2][1]
 let J:=Lean.mkIdent `J
 let ts:=l[1].getSepArgs
 let o:=ts.map fun t=>if t.isOfKind ``Lean.Parser.Term.paren then t[1] else t
 let w:=o.back![1].getArgs.toList
 let us:=o.mapIdx fun i t=>match t.isNatLit? with|some n=>P02 (.mkSimple s!"s{i}") (w.take n)|none=>t
 let bs:=us.mapIdx fun i u=>
  let q (c d:Lean.Name)(b:Lean.Syntax):=P03 x s!"b{i}" b (P02 c [J,u]) (P02 d [u.setArg 0 (Lean.mkIdent `all),Lean.Syntax.mkNumLit (toString i)])
  if i=0 then (if l[0].isToken "#[" then q `OT `CK.t x[1][1][0] else q `OC `CK.c x[1][1][0]) else q `OB `CK.b Lean.mkNullNode
 let ks:=us.mapIdx fun i u=>if (ts[i]!).isOfKind ``Lean.Parser.Term.paren then P03 x s!"k{i}" Lean.mkNullNode (P02 `Eq [P02 `kOf [P02 `Sg.r [u]],Lean.mkIdent `Ko.base]) p else Lean.mkNullNode
 #[P03 x "all" Lean.mkNullNode (P02 `CK [J,us.foldr (fun u r=>P02 `List.cons [u,r]) (Lean.mkIdent `List.nil)]) p,.node .none ``Lean.Parser.Command.end #[.atom .none "end",Lean.mkNullNode]]++bs++ks
local macro_rules (kind:=Lean.Parser.Command.declaration)|x=>if x[1].isOfKind ``Lean.Parser.Command.example then pure (Lean.mkNullNode (P04 (P01 x))) else Lean.Macro.throwUnsupported
namespace Cq
section
variable(J:WX)(v:Vv)
def s0:Sg:=⟨J.V [],(dg 100220),.C (iy 527 v.a),[],v.b,v.c,[0],.again (.func (bodyOf (dF J.P)) (fEnv 527 (dF J.P) v.b)) [(v.b,ai [er J fq v.c v.a] 1)] (v.b+1)⟩
example(v):[(s0 J v)]:=by trivial
end Cq
namespace Hg
section
variable(J:WX)(v:Vv)
def s0:Sg:=⟨J.V [],(dx 0x12aaa1a1cc1c1ccaccc1c1ccaccc1c1ccaccc1c1ccaccf1222222),.tb [dX (bodyOf (dF J.P)) 0] (fEnv 527 (dF J.P) v.a),[(v.a,ai [er J fq v.c v.b] v.d)],v.e,v.f,[0,1,2,3],.fin (.ok Flow.next) [(v.a,ai (T3 J v.c v.b v.f (v.e+2) (v.f+1) (v.e+1) [er J lV (v.f+2) v.e]) (v.d+3)),(v.e,lst [] 0),(v.e+1,lst [] 0),(v.e+2,jt v.b)] (v.e+7)⟩
example(v):#[s0 J v]:=by trivial
end Hg
namespace Hh
section
variable(J:WX)(v:Vv)
def s0:Sg:=⟨J.V [],[2],.T (.block [] (fEnv 527 (dF J.P) v.a)) (d9 (cL (fB (aL (dX (bodyOf (dF J.P)) 1))) (fEnv 527 (dF J.P) v.a))),[(v.a,i8 J v.f v.b v.g v.c v.h v.d v.i v.e v.e0 v.j)],v.k,v.l,[0],.fin (bN v.c) [(v.a,i8 J v.f v.b v.g v.c v.h v.d v.i v.e v.e0 v.j)] v.k⟩
example(v):#[s0 J v]:=by trivial
end Hh
namespace Hi
section
variable(J:WX)(v:Vv)
def s0:Sg:=⟨J.V [],[],.T (.block [] (fEnv 527 (dF J.P) v.a)) (d9 (cL (fC (aL (dX (bodyOf (dF J.P)) 1))) (fEnv 527 (dF J.P) v.a))),[(v.a,i8 J v.f v.b v.g v.c v.h v.d v.i v.e v.e0 v.j)],v.k,v.l,[0,1],.fin (bN v.k) [(v.a,i8 J v.f v.b v.g v.c v.h v.d v.i v.e v.e0 v.j),(v.k,lst [] 0)] (v.k+1)⟩
example(v):#[s0 J v]:=by trivial
end Hi
namespace rE
section
variable(J:WX)(v:Vv)(a:List Value:=[])(b c d e f g:Nat:=0)(h:List Value:=[])(i j k l m n:Nat:=0)(p:List Value:=[])(r s:Nat:=0)
abbrev Vi:=J.V [(v.m,ins 184 v.n),(v.n,dct [ei J jW v.o v.i0 v.s,er J p9 v.p v.t,ei J iz v.q v.i1 v.u,er J iO v.r v.v] v.w),(v.e,lst v.l1 v.x),(v.d,lst v.l2 v.y)]
def s0:Sg:=⟨Vi J v,(dg 1244440),tT J v.a,[(v.a,ai (T3 J v.f v.b v.g v.c v.h v.d [er J lV v.i v.e,ent J.P rG v.j v.y0]) v.k),(v.c,lst v.l0 v.l)],v.z,v.A,[1],i9 v.c v.l0 v.l v.z⟩
def s1:Sg:=.U (Vi J v) (dg 1220020111122100000110000011035650) (s0 J v) (.ref v.m) 1 (lst a b) v.z c [2] (.call (iA v.e v.z) [(v.z,lst [.int v.i0 v.s] 0)] (v.z+1))
def s2:Sg:=.N (Vi J v) (dg 12002100000110000011030) (s1 J v a b c) (.ref d) e f [] (.call (rH v.t) [] e)
def s3:Sg:=.A (Vi J v) [7,8,7,0] (s2 J v a b c d e f) (.ref g) [(g,lst h i)] j k [3] (.call (iA v.d g) [(g,lst h i)] j)
def s4:Sg:=.N (Vi J v) (dx 0x1aaa1a1cc1c1ccaccc1c1ccaccc1c1ccaccf12222244442100000110000011030) (s3 J v a b c d e f g h i j k) (.ref l) m n [1] (T5 v.c v.v a b (m+4))
def s5:Sg:=.U (Vi J v) [1] (s4 J v a b c d e f g h i j k l m n) .none 1 (lst p r) (m+4) s [0,1] (tU J v.a v.f v.b v.g v.c v.h l v.i d v.j v.m v.k p r (m+4))
example(v):#[2,5,8,13,16,s5 J v a b c d e f g h i j k l m n p r s]:=by trivial
end rE
namespace tV
section
variable(J:WX)(v:Vv)(a:List Value:=[])(b c d:Nat:=0)(e:List Value:=[])(f g h i j k:Nat:=0)(l:List Value:=[])(m n:Nat:=0)
abbrev Vi:=J.V [(v.m,ins 217 v.n),(v.n,lX J v.o v.q v.p v.r v.s)]
def s0:Sg:=⟨Vi J v,(dg 1244440),tT J v.a,[(v.a,ai (T3 J v.f v.b v.g v.c v.h v.d [er J lV v.i v.e,ent J.P rG v.j v.y0]) v.k),(v.c,lst v.l0 v.l)],v.t,v.u,[1],i9 v.c v.l0 v.l v.t⟩
def s1:Sg:=.U (Vi J v) (dg 122002011110010100000110000000000111011000020111124444210000011000001103002100000110000011030) (s0 J v) (.ref v.m) 1 (lst a b) v.t c [2] (.call (rH v.r) [(v.t,jt v.q)] (v.t+1))
def s2:Sg:=.A (Vi J v) [6,8,6,0] (s1 J v a b c) (.ref d) [(d,lst e f)] g h [2,3] (.call (iA v.t d) [(v.t,jt v.q),(d,lst e f)] g)
def s3:Sg:=.N (Vi J v) [0] (s2 J v a b c d e f g h) (.ref i) j k [1] (.call (blt "list.extend" [.ref v.c,.ref i]) [(v.c,lst a b)] j)
def s4:Sg:=.U (Vi J v) [1] (s3 J v a b c d e f g h i j k) .none 1 (lst l m) j n [0,1] (tU J v.a v.f v.b v.g v.c v.h v.d v.i v.e v.j v.m v.k l m j)
example(v):#[2,5,10,13,s4 J v a b c d e f g h i j k l m n]:=by trivial
end tV
namespace tW
section
variable(J:WX)(v:Vv)(a:List Value:=[])(b c d:Nat:=0)(e:List Value:=[])(f g h i j k:Nat:=0)(l:List Value:=[])(m n:Nat:=0)
abbrev Vi:=J.V [(v.l,ins 217 v.m),(v.m,lX J v.n v.p v.o v.q v.r)]
def s0:Sg:=⟨Vi J v,(dg 1244440),tT J v.a,[(v.a,ai (T3 J v.f v.b v.g v.c v.h v.d [er J lV v.i v.e]) v.j),(v.c,lst v.l0 v.k)],v.s,v.t,[1],i9 v.c v.l0 v.k v.s⟩
def s1:Sg:=.U (Vi J v) (dg 122002011110010100000110000000000111011000020111124444210000011000001103002100000110000011030) (s0 J v) (.ref v.l) 1 (lst a b) v.s c [2] (.call (rH v.q) [(v.s,jt v.p)] (v.s+1))
def s2:Sg:=.A (Vi J v) [6,8,6,0] (s1 J v a b c) (.ref d) [(d,lst e f)] g h [2,3] (.call (iA v.s d) [(v.s,jt v.p),(d,lst e f)] g)
def s3:Sg:=.N (Vi J v) [0] (s2 J v a b c d e f g h) (.ref i) j k [1] (.call (blt "list.extend" [.ref v.c,.ref i]) [(v.c,lst a b)] j)
def s4:Sg:=.U (Vi J v) [1] (s3 J v a b c d e f g h i j k) .none 1 (lst l m) j n [0,1] (tU J v.a v.f v.b v.g v.c v.h v.d v.i v.e c v.l (v.j+1) l m j)
example(v):#[2,5,10,13,s4 J v a b c d e f g h i j k l m n]:=by trivial
end tW
namespace yN
section
variable(J:WX)(v:Vv)(a:List Value:=[])(b c:Nat:=0)(d:List Value:=[])(e f:Nat:=0)
abbrev Vi:=J.V [(v.m,ins 250 v.n),(v.n,dct [er J p_ v.o v.p] v.q)]
def s0:Sg:=⟨Vi J v,(dg 1244440),tT J v.a,[(v.a,ai (T3 J v.f v.b v.g v.c v.h v.d [er J lV v.i v.e,ent J.P rG v.j v.y0]) v.k),(v.c,lst v.l0 v.l)],v.r,v.s,[1],i9 v.c v.l0 v.l v.r⟩
def s1:Sg:=.U (Vi J v) (dg 122002011110010100000110000000000111011000020111100101000001100000000001110110000201111244442100000110000011030) (s0 J v) (.ref v.m) 1 (lst a b) v.r c [1] (.call (blt "list.extend" [.ref v.c,.ref v.p]) [(v.c,lst a b)] v.r)
def s2:Sg:=.U (Vi J v) [1] (s1 J v a b c) .none 1 (lst d e) v.r f [0,1] (tU J v.a v.f v.b v.g v.c v.h v.d v.i v.e v.j v.m v.k d e v.r)
example(v):#[2,5,s2 J v a b c d e f]:=by trivial
end yN
namespace yO
section
variable(J:WX)(v:Vv)(a:List Value:=[])(b c:Nat:=0)(d:List Value:=[])(e f:Nat:=0)
abbrev Vi:=J.V [(v.m,ins 137 v.n),(v.n,dct [fK J v.o v.i0 v.p,iP J v.q v.r] v.s)]
def s0:Sg:=⟨Vi J v,(dg 1244440),tT J v.a,[(v.a,ai (T3 J v.f v.b v.g v.c v.h v.d [er J lV v.i v.e,ent J.P rG v.j v.y0]) v.k),(v.c,lst v.l0 v.l)],v.t,v.u,[1],i9 v.c v.l0 v.l v.t⟩
def s1:Sg:=.U (Vi J v) (dg 12200201111001010000011000000000011101100002011110010100000110000000000111011000020111100101000001100000000001110110000201111244442100000110000011030) (s0 J v) (.ref v.m) 1 (lst a b) v.t c [1] (T5 v.c v.r a b v.t)
def s2:Sg:=.U (Vi J v) [1] (s1 J v a b c) .none 1 (lst d e) v.t f [0,1] (tU J v.a v.f v.b v.g v.c v.h v.d v.i v.e v.j v.m v.k d e v.t)
example(v):#[2,5,s2 J v a b c d e f]:=by trivial
end yO
namespace Cr
section
variable(J:WX)(y z:Bool)(v:Vv)(a:List Value:=[])(b c:Nat:=0)
abbrev Vi:=J.V [(v.m,ins (cond y 66 (cond z 104 85)) v.n),(v.n,dct v.e0 v.o)]
def s0:Sg:=⟨Vi J y z v,(dg 1244440),tT J v.a,[(v.a,ai (T3 J v.f v.b v.g v.c v.h v.d [er J lV v.i v.e,ent J.P rG v.j v.y0]) v.k),(v.c,lst v.l0 v.l)],v.p,v.q,[1],i9 v.c v.l0 v.l v.p⟩
def s1:Sg:=.U (Vi J y z v) (dg 122002011110010100000110000000000111011000020111100101000001100000000001110110000201111001010000011000000000011101100002011110010100000110000000000111011001) (s0 J y z v) (.ref v.m) 1 (lst a b) v.p c [0,1] (tU J v.a v.f v.b v.g v.c v.h v.d v.i v.e v.j v.m v.k a b v.p)
example(y z v):#[4,s1 J y z v a b c]:=by cases y<;>cases z<;>trivial
end Cr
namespace lY
section
variable(J:WX)(v:Vv)(a b c:Nat:=0)(d:Int:=0)(e f:Nat:=0)(g:Int:=0)(h i j k l m:Nat:=0)(n:Int:=0)(p r:Nat:=0)(s:Int:=0)(t u w:Nat:=0)
def s0:Sg:=⟨J.V [],(dg 1000020),.tb [dX (bodyOf (dF J.P)) 2] (fEnv 527 (dF J.P) v.a),[(v.a,i8 J v.f v.b v.g v.c v.h v.d v.i v.e v.e0 v.j)],v.k,v.l,[0],.call (.call (.type "set") ⟨[.ref v.e],[]⟩) [(v.a,i8 J v.f v.b v.g v.c v.h v.d v.i v.e v.e0 v.j)] v.k⟩
def s1:Sg:=.N (J.V []) [0] (s0 J v) (.ref a) b c [0] (.call (lZ a) [(v.a,i8 J v.f v.b v.g v.c v.h v.d v.i v.e v.e0 v.j)] b)
def s2:Sg:=.N (J.V []) [0,0,2,0] (s1 J v a b c) (.int d e) b f [0] (.call (lZ v.e) [(v.a,i8 J v.f v.b v.g v.c v.h v.d v.i v.e v.e0 v.j)] b)
def s3:Sg:=.N (J.V []) [0] (s2 J v a b c d e f) (.int g h) b i [0] (.call (blt "int.__eq__" [.int d e,.int g h]) [(v.a,i8 J v.f v.b v.g v.c v.h v.d v.i v.e v.e0 v.j)] b)
def s4:Sg:=.N (J.V []) (dg 1000020) (s3 J v a b c d e f g h i) (.bool true) b j [0] (.call (.call (.type "set") ⟨[.ref v.d],[]⟩) [(v.a,i8 J v.f v.b v.g v.c v.h v.d v.i v.e v.e0 v.j)] b)
def s5:Sg:=.N (J.V []) [0] (s4 J v a b c d e f g h i j) (.ref k) l m [0] (.call (lZ k) [(v.a,i8 J v.f v.b v.g v.c v.h v.d v.i v.e v.e0 v.j)] l)
def s6:Sg:=.N (J.V []) [0,0,2,0] (s5 J v a b c d e f g h i j k l m) (.int n p) l r [0] (.call (lZ v.d) [(v.a,i8 J v.f v.b v.g v.c v.h v.d v.i v.e v.e0 v.j)] l)
def s7:Sg:=.N (J.V []) [0] (s6 J v a b c d e f g h i j k l m n p r) (.int s t) l u [0] (.call (blt "int.__eq__" [.int n p,.int s t]) [(v.a,i8 J v.f v.b v.g v.c v.h v.d v.i v.e v.e0 v.j)] l)
def s8:Sg:=.N (J.V []) [] (s7 J v a b c d e f g h i j k l m n p r s t u) (.bool true) l w [0] (.fin (rt (.bool true)) [(v.a,i8 J v.f v.b v.g v.c v.h v.d v.i v.e v.e0 v.j)] l)
example(v):#[2,5,8,11,12,15,18,21,s8 J v a b c d e f g h i j k l m n p r s t u w]:=by trivial
end lY
namespace app
section
variable(J:WX)(v:Vv)(a b:Nat:=0)(c:List DictEntry:=[])(d e:Nat:=0)(f:List DictEntry:=[])(g:Nat:=0)(h:List DictEntry:=[])(i j k:Nat:=0)
abbrev Vi:=J.V [(v.a,tup [.str fk v.b,.ref v.c,.ref v.f]),(v.c,ins 184 v.d),(v.d,dct [ei J jW v.l v.i0 v.p,er J p9 v.m v.h,ei J iz v.n v.i1 v.q,er J iO v.o v.r] v.e),(v.h,lst v.l0 v.s),(v.i,lst v.l1 v.t)]
def s0:Sg:=⟨Vi J v,(dg 100222222221211111111100211111110),.C (aK 485 [.ref v.a,.ref v.i,.ref v.j,.ref v.k]),[],v.u,v.v,[],.call (.call (.type "dict") ⟨[.ref v.f],[]⟩) [] (v.u+1)⟩
def s1:Sg:=.A (Vi J v) (dx 0x122002111111130000013000003305121111771716991918ee1e1eee1e1e0) (s0 J v) (.ref a) [(a,dct c d)] b e [0,1,2,3,4,5,6] (.call (wY J.P (b+4) v.u) [(v.u,ai [er J vO v.v v.a,er J vQ (v.v+1) v.i,T1 J (v.v+2) v.j,kH J (v.v+3) v.k,yP J e a] 5),(a,dct c d),(b,⟨.type "list_iterator",none,dP v.h,#[]⟩),(b+1,⟨.type "list_iterator",none,dP v.i,#[]⟩),(b+2,kI b (b+1)),(b+3,tup [.none,.none]),(b+4,⟨.type "zip",none,yQ (b+2) (b+3),#[]⟩)] (b+5))
def s2:Sg:=⟨Vi J v,(dg 1211111113000001300000330512),eV (s1 J v a b c d e),[(v.u,ai ([er J vO v.v v.a,er J vQ (v.v+1) v.i,T1 J (v.v+2) v.j,kH J (v.v+3) v.k,yP J e a]++f) g),(a,dct h i)],j,k,[1,2],.fin (bN j) [(a,dct h i),(j,kI v.r a)] (j+1)⟩
example(v):[2,7,s2 J v a b c d e f g h i j k]:=by trivial
end app
namespace turn
section
variable(J:WX)(z q:Bool)(v:Vv)(a:List DictEntry:=[])(b c:Nat:=0)
abbrev Vi:=J.V [(v.n,tup [.int v.i0 v.o,kv z v.i1 v.q])]
def s0:Sg:=⟨Vi J z v,(dx 0x11111116616166166616166166616166166a2222222440),R9 J v.p v.f v.n,[(v.f,ai (er J vO v.g v.a::er J vQ v.h v.b::T1 J v.i v.c::kH J v.j v.d::yP J v.k v.e::pn J q v.r v.y1 v.t v.y0) v.l),(v.e,dct v.e0 v.m)],v.u,v.v,[1,5],.call (Cs v.e v.i0 v.o (v.u+3)) [(v.e,dct v.e0 v.m),(v.u+3,lst [kv z v.i1 v.q] 0)] (v.u+4)⟩
def s1:Sg:=.U (Vi J z v) [0] (s0 J z q v) .none 1 (dct a b) (v.u+4) c [0,1,5] (.again (wY J.P v.p v.f) [(v.f,ai [er J vO v.g v.a,er J vQ v.h v.b,T1 J v.i v.c,kH J v.j v.d,yP J v.k v.e,fK J (fi q v.r v.v) v.i0 v.o,ent J.P aX (fi q v.t (v.v+1)) (kv z v.i1 v.q)] (fi q v.l (v.l+2))),(v.e,dct a b),(v.u+3,lst [kv z v.i1 v.q] 0)] (v.u+4))
example(z q v):#[4,(s1 J z q v a b c)]:=by cases z<;>cases q<;>trivial
end turn
namespace kept
section
variable(J:WX)(v:Vv)(a b:Nat:=0)(c:List Value:=[])(d e f:Nat:=0)(g:List DictEntry:=[])(h i:Nat:=0)
abbrev Vi:=J.V [(v.a,tup [.str kJ v.g,.int 1 v.h]),(v.c,iT J.P v.i v.j v.e v.f v.k),(v.b,lst [.int v.i0 v.l,.int v.i1 v.m] v.n)]
def s0:Sg:=⟨Vi J v,(dg 100444444441411111111141111111110040),.C (aK 485 [.ref v.a,.ref v.b,.ref v.c,.ref v.d]),[(v.e,dct v.e0 v.o)],v.p,v.q,[],.call (rH v.d) [] (v.p+1)⟩
def s1:Sg:=.A (Vi J v) (dg 143330) (s0 J v) (.ref a) [(a,lst c d)] b e [] (.call (blt "dict.__getitem__" [.ref v.c,.str cT e]) [] b)
def s2:Sg:=.N (Vi J v) (dg 145551515220) (s1 J v a b c d e) (.ref v.e) b f [0] (.call (Cs v.e v.i0 v.l a) [(v.e,dct v.e0 v.o)] b)
def s3:Sg:=.U (Vi J v) (dg 145551515) (s2 J v a b c d e f) .none 0 (dct g h) b i [0,2,3] (.fin (bN b) [(v.e,dct g h),(a,lst c d),(b,tup [.str aX i,.int v.i1 v.m])] (b+1))
example(v):[2,7,8,s3 J v a b c d e f g h i]:=by trivial
end kept
namespace «show»
section
variable(J:WX)(v:Vv)(a:Nat:=0)(b:List Value:=[])(c d:Nat:=0)(e:Value:=.none)(f g h i j:Nat:=0)
abbrev Vi:=J.V [(v.a,tup [.str kJ v.g,.int 2 v.h]),(v.c,iT J.P v.i v.j v.e v.f v.k),(v.b,lst v.l0 v.l)]
def s0:Sg:=⟨Vi J v,(dg 1004444444414111111111411111111143330),.C (aK 485 [.ref v.a,.ref v.b,.ref v.c,.ref v.d]),[(v.f,lst v.l1 v.m)],v.n,v.o,[],.call (blt "dict.__getitem__" [.ref v.c,.str iL (v.o+8)]) [] (v.n+1)⟩
def s1:Sg:=.N (Vi J v) (dg 1222245515160) (s0 J v) (.ref v.f) (v.n+1) a [2,3,4,0] (.call (.compStart (dY (gR J.P)) 0 (.ref (v.n+1)) (.ref (v.n+2)) (pA (gR J.P) (lA J.P) 484 [] (v.n+3) v.n)) [(v.n+1,⟨.type "list_iterator",none,dP v.b,#[]⟩),(v.n+2,lst [] 0),(v.n+3,dct [] 0),(v.f,lst v.l1 v.m)] (v.n+4))
def s2:Sg:=⟨Vi J v,[6,6,6,0],eV (s1 J v a),[(v.f,lst v.l1 v.m),(v.n+2,lst b c),(v.n+3,dct [vR J d e] f)],g,h,[0,1],.call (blt "list.append" [.ref v.f,.ref (v.n+2)]) [(v.f,lst v.l1 v.m),(v.n+2,lst b c)] g⟩
def s3:Sg:=.U (Vi J v) [] (s2 J v a b c d e f g h) .none 0 (lst (v.l1++[.ref (v.n+2)]) i) g j [0,1,3] (.fin (bN g) [(v.f,lst (v.l1++[Value.ref (v.n+2)]) i),(v.n+2,lst b c),(g,tup [.str aX j,.int 0 (j+1)])] (g+1))
example(v):[2,3,10,s3 J v a b c d e f g h i j]:=by trivial
end «show»
namespace yR
section
variable(J:WX)(z:Bool)(v:Vv)(a:List Value:=[])(b c:Nat:=0)
def s0:Sg:=⟨J.V [],(dg 1220020011120),.T (su J.P v.a v.b v.c v.d) (qM (o9 (gR J.P)) (fO (gR J.P)) (o_ (gR J.P)) (mH (gR J.P)) (pg (gR J.P)) (.ref v.a) (.ref v.b) (pA (gR J.P) (lA J.P) 484 [] v.c v.d) (.int v.i0 v.g)),[(v.c,dct (pe J aX z v.h v.y0) v.e),(v.b,lst v.l0 v.f)],v.i,v.j,[1],tX v.b v.i0 v.g v.l0 v.f v.i⟩
def s1:Sg:=.U (J.V []) [0] (s0 J z v) .none 1 (lst a b) v.i c [0,1] (.again (su J.P v.a v.b v.c v.d) [(v.c,dct [ei J aX (fi z v.h v.j) v.i0 v.g] (fi z v.e (v.e+1))),(v.b,lst a b)] v.i)
example(z v):#[3,(s1 J z v a b c)]:=by cases z<;>trivial
end yR
namespace yS
section
variable(J:WX)(z:Bool)(v:Vv)(a:List Value:=[])(b c:Nat:=0)
abbrev Vi:=J.V [(v.g,tup [.str fk v.h,.ref v.i,.ref v.j])]
def s0:Sg:=⟨Vi J v,(dg 122002001111111111111110020011110),.T (su J.P v.a v.b v.c v.d) (qM (o9 (gR J.P)) (fO (gR J.P)) (o_ (gR J.P)) (mH (gR J.P)) (pg (gR J.P)) (.ref v.a) (.ref v.b) (pA (gR J.P) (lA J.P) 484 [] v.c v.d) (.ref v.g)),[(v.c,dct (pe J aX z v.k v.y0) v.e),(v.b,lst v.l0 v.f)],v.l,v.m,[1],.call (blt "list.append" [.ref v.b,.str fk (v.m+2)]) [(v.b,lst v.l0 v.f)] v.l⟩
def s1:Sg:=.U (Vi J v) [0] (s0 J z v) .none 1 (lst a b) v.l c [0,1] (.again (su J.P v.a v.b v.c v.d) [(v.c,dct [iP J (fi z v.k v.m) v.g] (fi z v.e (v.e+1))),(v.b,lst a b)] v.l)
example(z v):#[3,(s1 J z v a b c)]:=by cases z<;>trivial
end yS
namespace uF
section
variable(J:WX)(z:Bool)(v:Vv)(a b c:Nat:=0)(d:List Value:=[])(e f:Nat:=0)
abbrev Vi:=J.V [(v.h,gJ v.i),(v.i,lst v.l1 v.j)]
def s0:Sg:=⟨Vi J v,(dg 1222123330),.T (aT (mV J.P) (yT J v.h v.c v.d) v.a v.b) (fF (mV J.P) (yT J v.h v.c v.d) v.a v.b (.int v.i0 v.g)),[(v.c,dct (pe J cE z v.k v.y0) v.e),(v.b,lst v.l0 v.f)],v.l,v.m,[2],yU v.i v.l v.i0 v.g (v.l+1)⟩
def s1:Sg:=.N (Vi J v) [0] (s0 J z v) (.ref a) b c [1] (T5 v.b b v.l0 v.f (b+1))
def s2:Sg:=.U (Vi J v) [0] (s1 J z v a b c) .none 1 (lst d e) (b+1) f [0,1,3] (.again (aT (mV J.P) (yT J v.h v.c v.d) v.a v.b) [(v.c,dct [ei J cE (fi z v.k v.m) v.i0 v.g] (fi z v.e (v.e+1))),(v.b,lst d e),(b,tup [.int v.i0 v.g,.ref a])] (b+1))
example(z v):#[3,6,(s2 J z v a b c d e f)]:=by cases z<;>trivial
end uF
namespace sL
section
variable(J:WX)(z:Bool)(v:Vv)(a:Int:=0)(b c:Nat:=0)(d:Int:=0)(e f:Nat:=0)(g:List Value:=[])(h i:Nat:=0)
def s0:Sg:=⟨J.V [],(dg 1220020),.T (aT (pG J.P) (qL J.P v.c v.d) v.a v.b) (fF (pG J.P) (qL J.P v.c v.d) v.a v.b (.int v.i0 v.g)),[(v.c,dct (pe J sJ z v.h v.y0) v.e),(v.b,lst v.l0 v.f)],v.i,v.j,[],.call (blt "abs" [.int v.i0 v.g]) [] v.i⟩
def s1:Sg:=.N (J.V []) [1,1,0] (s0 J z v) (.int a b) v.i c [] (.call (blt "int.__mod__" [.int a b,.int 10000000000000000 (c+2)]) [] v.i)
def s2:Sg:=.N (J.V []) [0] (s1 J z v a b c) (.int d e) v.i f [1] (tX v.b d e v.l0 v.f v.i)
def s3:Sg:=.U (J.V []) [0] (s2 J z v a b c d e f) .none 1 (lst g h) v.i i [0,1] (.again (aT (pG J.P) (qL J.P v.c v.d) v.a v.b) [(v.c,dct [ei J sJ (fi z v.h v.j) v.i0 v.g] (fi z v.e (v.e+1))),(v.b,lst g h)] v.i)
example(z v):#[3,6,9,(s3 J z v a b c d e f g h i)]:=by cases z<;>trivial
end sL
namespace xq
section
variable(J:WX)(z:Bool)(v:Vv)(a:List Value:=[])(b c:Nat:=0)
abbrev Vi:=J.V [(v.g,tup [.ref v.h,.int v.i0 v.i])]
def s0:Sg:=⟨Vi J v,(dg 122211111110),Hj J v.c v.d v.a v.b v.g,[(v.c,dct (pe J jd z v.j v.y0) v.e),(v.b,lst v.l0 v.f)],v.k,v.l,[1],tX v.b v.i0 v.i v.l0 v.f v.k⟩
def s1:Sg:=Hl J (Vi J v) (s0 J z v) a b v.k c v.c v.d v.a v.b (fi z v.j v.l) v.g (fi z v.e (v.e+1))
example(z v):#[3,(s1 J z v a b c)]:=by cases z<;>trivial
end xq
namespace xr
section
variable(J:WX)(z:Bool)(v:Vv)(a:List Value:=[])(b c:Nat:=0)
abbrev Vi:=J.V [(v.g,tup [.ref v.h,.str fk v.i])]
def s0:Sg:=⟨Vi J v,(dg 122211111110),Hj J v.c v.d v.a v.b v.g,[(v.c,dct (pe J jd z v.j v.y0) v.e),(v.b,lst v.l0 v.f)],v.k,v.l,[1],.call (blt "list.append" [.ref v.b,.str fk v.i]) [(v.b,lst v.l0 v.f)] v.k⟩
def s1:Sg:=Hl J (Vi J v) (s0 J z v) a b v.k c v.c v.d v.a v.b (fi z v.j v.l) v.g (fi z v.e (v.e+1))
example(z v):#[3,(s1 J z v a b c)]:=by cases z<;>trivial
end xr
namespace xA
section
variable(J:WX)(z q:Bool)(v:Vv)(a:Nat:=0)
abbrev Vi:=J.V [(v.h,gJ v.i),(v.i,lst v.l1 v.j),(v.k,tup [.ref v.l,v.y0]),(v.l,ins (cond q 66 184) v.m)]
def s0:Sg:=⟨Vi J q v,(dg 12200123330),Ho J v.h v.c v.d v.a v.b v.i0 v.g,[(v.c,dct (pe J cE z v.n v.y1) v.e),(v.b,lst v.l0 v.f)],v.o,v.p,[],nW v.i v.i0 v.g v.o⟩
def s1:Sg:=.N (Vi J q v) (dg 155515151011170070700000170000000000117017000) (s0 J z q v) (.ref v.k) v.o a [0,1] (Hp J v.h v.c v.d v.a v.b (fi z v.n v.p) v.i0 v.g (fi z v.e (v.e+1)) v.l0 v.f v.o)
example(z q v):#[4,(s1 J z q v a)]:=by cases z<;>cases q<;>trivial
end xA
namespace uB
section
variable(J:WX)(z:Bool)(v:Vv)(a:Nat:=0)(b:List Value:=[])(c d:Nat:=0)
abbrev Vi:=J.V [(v.h,gJ v.i),(v.i,lst v.l1 v.j),(v.k,tup [.ref v.l,v.y0]),(v.l,ins 217 v.m)]
def s0:Sg:=⟨Vi J v,(dg 12200123330),Ho J v.h v.c v.d v.a v.b v.i0 v.g,[(v.c,dct (pe J cE z v.n v.y1) v.e),(v.b,lst v.l0 v.f)],v.o,v.p,[],nW v.i v.i0 v.g v.o⟩
def s1:Sg:=.N (Vi J v) (dg 1555151510111720) (s0 J z v) (.ref v.k) v.o a [1] (tX v.b v.i0 v.g v.l0 v.f v.o)
def s2:Sg:=.U (Vi J v) [0] (s1 J z v a) .none 1 (lst b c) v.o d [0,1] (Hp J v.h v.c v.d v.a v.b (fi z v.n v.p) v.i0 v.g (fi z v.e (v.e+1)) b c v.o)
example(z v):#[3,4,(s2 J z v a b c d)]:=by cases z<;>trivial
end uB
namespace xm
section
variable(J:WX)(z:Bool)(v:Vv)(a:List Value:=[])(b c:Nat:=0)
abbrev Vi:=J.V [(v.h,gJ v.i),(v.i,ins 464 v.j)]
def s0:Sg:=⟨Vi J v,(dg 12213000300030000360100881830001300033061183000130130300030666830001300033060),.T (aT (jB J.P) (jC J.P (jB J.P) [(gz,v.h)] v.c v.d) v.a v.b) (fF (jB J.P) (jC J.P (jB J.P) [(gz,v.h)] v.c v.d) v.a v.b (.int v.i0 v.g)),[(v.c,dct (pe J cD z v.u v.y0) v.e),(v.b,lst v.l0 v.f),(v.j,AB J.P v.k v.l v.m v.n v.o v.p v.q v.r v.i1 v.s v.t)],v.v,v.w,[1],tX v.b (v.i1+1) (v.w+4) v.l0 v.f (v.v+1)⟩
def s1:Sg:=.U (Vi J v) [0] (s0 J z v) .none 1 (lst a b) (v.v+1) c [0,1,2,3] (.again (aT (jB J.P) (jC J.P (jB J.P) [(gz,v.h)] v.c v.d) v.a v.b) [(v.c,dct [fK J (fi z v.u v.w) v.i0 v.g] (fi z v.e (v.e+1))),(v.b,lst a b),(v.j,T2 J v.k v.p v.l (v.i1+1) (v.w+4) v.m v.q v.n v.r v.o v.t),(v.v,ai [er J kK (v.w+1) v.i] 1)] (v.v+1))
example(z v):#[3,(s1 J z v a b c)]:=by cases z<;>trivial
end xm
namespace xe
section
variable(J:WX)(z:Bool)(v:Vv)(a:List Value:=[])(b c:Nat:=0)
abbrev Vi:=J.V [(v.h,gJ v.i),(v.i,ins 464 v.j)]
def s0:Sg:=⟨Vi J v,(dg 12213000300030000360100881830001300033061183000130130300030666830001300033060),.T (aT (jy J.P) (bF J.P (jy J.P) [(gz,v.h)] v.c v.d) v.a v.b) (fF (jy J.P) (bF J.P (jy J.P) [(gz,v.h)] v.c v.d) v.a v.b (.int v.i0 v.g)),[(v.c,dct (pe J cE z v.u v.y0) v.e),(v.b,lst v.l0 v.f),(v.j,AB J.P v.k v.l v.m v.n v.o v.p v.q v.r v.i1 v.s v.t)],v.v,v.w,[1],tX v.b (v.i1+1) (v.w+4) v.l0 v.f (v.v+1)⟩
def s1:Sg:=.U (Vi J v) [0] (s0 J z v) .none 1 (lst a b) (v.v+1) c [0,1,2,3] (.again (aT (jy J.P) (bF J.P (jy J.P) [(gz,v.h)] v.c v.d) v.a v.b) [(v.c,dct [ei J cE (fi z v.u v.w) v.i0 v.g] (fi z v.e (v.e+1))),(v.b,lst a b),(v.j,T2 J v.k v.p v.l (v.i1+1) (v.w+4) v.m v.q v.n v.r v.o v.t),(v.v,ai [er J kK (v.w+1) v.i] 1)] (v.v+1))
example(z v):#[3,(s1 J z v a b c)]:=by cases z<;>trivial
end xe
namespace Av
section
variable(J:WX)(z:Bool)(v:Vv)
abbrev Vi:=J.V [(v.g,ins 66 v.h),(v.h,dct [iP J v.i 275] v.j)]
def s0:Sg:=⟨Vi J v,(dg 12221000001100000110300),.T (ia (jH J.P) (bF J.P (jH J.P) [] v.c v.d) v.a v.b) (sM (jH J.P) (bF J.P (jH J.P) [] v.c v.d) v.a v.b (.ref v.g)),[(v.c,dct (pe J jG z v.k v.y0) v.e),(v.b,lst v.l0 v.f)],v.l,v.m,[0,1],.again (ia (jH J.P) (bF J.P (jH J.P) [] v.c v.d) v.a v.b) [(v.c,dct [er J jG (fi z v.k v.m) v.g] (fi z v.e (v.e+1))),(v.b,lst v.l0 v.f)] v.l⟩
example(z v):#[(s0 J z v)]:=by cases z<;>trivial
end Av
namespace xu
section
variable(J:WX)(z:Bool)(v:Vv)(a:List Value:=[])(b c:Nat:=0)
abbrev Vi:=J.V [(v.g,tup [.ref v.h,v.y0])]
def s0:Sg:=⟨Vi J v,(dg 122211111110),.T (aT (jF J.P) (bF J.P (jF J.P) [] v.c v.d) v.a v.b) (fF (jF J.P) (bF J.P (jF J.P) [] v.c v.d) v.a v.b (.ref v.g)),[(v.c,dct (pe J jd z v.i v.y1) v.e),(v.b,lst v.l0 v.f)],v.j,v.k,[1],T5 v.b v.h v.l0 v.f v.j⟩
def s1:Sg:=.U (Vi J v) [0] (s0 J z v) .none 1 (lst a b) v.j c [0,1] (.again (aT (jF J.P) (bF J.P (jF J.P) [] v.c v.d) v.a v.b) [(v.c,dct [er J jd (fi z v.i v.k) v.g] (fi z v.e (v.e+1))),(v.b,lst a b)] v.j)
example(z v):#[3,(s1 J z v a b c)]:=by cases z<;>trivial
end xu
namespace uC
section
variable(J:WX)(z:Bool)(v:Vv)(a b c:Nat:=0)(d:List Value:=[])(e f:Nat:=0)
abbrev Vi:=J.V [(v.h,gJ v.i),(v.j,gJ v.k)]
def s0:Sg:=⟨Vi J v,(dg 122031200),.T (aT (mR J.P) (yV J v.h v.j v.c v.d) v.a v.b) (fF (mR J.P) (yV J v.h v.j v.c v.d) v.a v.b (.int v.i0 v.g)),[(v.c,dct (pe J cE z v.l v.y0) v.e),(v.b,lst v.l0 v.f)],v.m,v.n,[],.call (aK 520 [.ref v.k,.ref v.i,.int v.i0 v.g]) [] v.m⟩
def s1:Sg:=.N (Vi J v) [0] (s0 J z v) (.ref a) b c [1] (T5 v.b a v.l0 v.f b)
def s2:Sg:=.U (Vi J v) [0] (s1 J z v a b c) .none 1 (lst d e) b f [0,1] (.again (aT (mR J.P) (yV J v.h v.j v.c v.d) v.a v.b) [(v.c,dct [ei J cE (fi z v.l v.n) v.i0 v.g] (fi z v.e (v.e+1))),(v.b,lst d e)] b)
example(z v):#[3,6,(s2 J z v a b c d e f)]:=by cases z<;>trivial
end uC
namespace xg
section
variable(J:WX)(z:Bool)(v:Vv)(a:List Value:=[])(b c:Nat:=0)
def s0:Sg:=⟨J.V [],(dx 0x122020010010100010000000100000000000008080000100aaaa1aa800000180180800000806660),.T (aT (jz J.P) (bF J.P (jz J.P) [] v.c v.d) v.a v.b) (fF (jz J.P) (bF J.P (jz J.P) [] v.c v.d) v.a v.b (.int v.i0 v.g)),[(v.c,dct (pe J cD z v.h v.y0) v.e),(v.b,lst v.l0 v.f)],v.i,v.j,[1],T5 v.b (v.i+1) v.l0 v.f (v.i+3)⟩
def s1:Sg:=.U (J.V []) [0] (s0 J z v) .none 1 (lst a b) (v.i+3) c [0,1,2,3,4] (.again (aT (jz J.P) (bF J.P (jz J.P) [] v.c v.d) v.a v.b) [(v.c,dct [fK J (fi z v.h v.j) v.i0 v.g] (fi z v.e (v.e+1))),(v.b,lst a b),(v.i,dct [fK J (v.j+4) v.i0 v.g] 1),(v.i+1,ins 85 v.i),(v.i+2,ai [er J kK (v.j+1) (v.i+1),fK J (v.j+2) v.i0 v.g] 2)] (v.i+3))
example(z v):#[3,(s1 J z v a b c)]:=by cases z<;>trivial
end xg
namespace xF
section
variable(J:WX)(z:Bool)(v:Vv)(a:List Value:=[])(b c:Nat:=0)
abbrev Vi:=J.V [(v.g,tup [.int v.i0 v.h,.int v.i1 v.i])]
def s0:Sg:=⟨Vi J v,(dx 0x11111116616166166616166166616166166a22220202001001010001000000010000000000000e0e0000100f1f1f1f11f1f1e000001e01e0e00000e0ccc001001010001000000010000000000000f30f30000100f4f4f4f4f4f41f4f4f3000001f301f30f300000f30f2f2f2f4f4f3000001f301f30f300000f30f2f2f20),.T (aT (iK J.P) (jC J.P (iK J.P) [] v.c v.d) v.a v.b) (fF (iK J.P) (jC J.P (iK J.P) [] v.c v.d) v.a v.b (.ref v.g)),[(v.c,dct (pf J jG z v.j v.y0 v.k v.y1) v.e),(v.b,lst v.l0 v.f)],v.l,v.m,[1],T5 v.b (v.l+7) v.l0 v.f (v.l+9)⟩
def s1:Sg:=.U (Vi J v) [0] (s0 J z v) .none 1 (lst a b) (v.l+9) c [0,1,5,6,8,9,10] (.again (aT (iK J.P) (jC J.P (iK J.P) [] v.c v.d) v.a v.b) [(v.c,dct [fK J (fi z v.j v.m) v.i0 v.h,ei J jG (fi z v.k (v.m+1)) v.i1 v.i] (fi z v.e (v.e+2))),(v.b,lst a b),(v.l+3,dct [fK J (v.m+5) v.i1 v.i] 1),(v.l+4,ins 85 (v.l+3)),(v.l+6,dct [fK J (v.m+10) v.i0 v.h,iP J (v.m+12) (v.l+4)] 2),(v.l+7,ins 137 (v.l+6)),(v.l+8,ai [er J kK (v.m+6) (v.l+7),fK J (v.m+7) v.i0 v.h,iP J (v.m+8) (v.l+4)] 3)] (v.l+9))
example(z v):#[3,(s1 J z v a b c)]:=by cases z<;>trivial
end xF
namespace xh
section
variable(J:WX)(z:Bool)(v:Vv)(a:List Value:=[])(b c:Nat:=0)
def s0:Sg:=⟨J.V [],(dx 0x1220202110010010100010000000100000000000008080000100aaaa1aa80000018018080000080666001001010001000000010000000000000e0e0000100f1f1f1f1f1f11f1f1e000001e01e0e00000e0cccf1f1e000001e01e0e00000e0ccc0),.T (aT (jA J.P) (bF J.P (jA J.P) [] v.c v.d) v.a v.b) (fF (jA J.P) (bF J.P (jA J.P) [] v.c v.d) v.a v.b (.int v.i0 v.g)),[(v.c,dct (pe J cD z v.h v.y0) v.e),(v.b,lst v.l0 v.f)],v.i,v.j,[1],T5 v.b (v.i+4) v.l0 v.f (v.i+6)⟩
def s1:Sg:=.U (J.V []) [0] (s0 J z v) .none 1 (lst a b) (v.i+6) c [0,1,2,3,5,6,7] (.again (aT (jA J.P) (bF J.P (jA J.P) [] v.c v.d) v.a v.b) [(v.c,dct [fK J (fi z v.h v.j) v.i0 v.g] (fi z v.e (v.e+1))),(v.b,lst a b),(v.i,dct [ei J aX (v.j+6) (100+v.i0) (v.j+2)] 1),(v.i+1,ins 66 v.i),(v.i+3,dct [fK J (v.j+11) v.i0 v.g,iP J (v.j+13) (v.i+1)] 2),(v.i+4,ins 137 (v.i+3)),(v.i+5,ai [er J kK (v.j+7) (v.i+4),fK J (v.j+8) v.i0 v.g,iP J (v.j+9) (v.i+1)] 3)] (v.i+6))
example(z v):#[3,(s1 J z v a b c)]:=by cases z<;>trivial
end xh
namespace xE
section
variable(J:WX)(z:Bool)(v:Vv)(a:List Value:=[])(b c:Nat:=0)
abbrev Vi:=J.V [(v.g,tup [.int v.i0 v.h,.ref v.i])]
def s0:Sg:=⟨Vi J v,(dx 0x11111116616166166616166166616166166a2222022001001010001000000010000000000000e0e0000100f1f1f1f1f1f11f1f1e000001e01e0e00000e0cccf1f1e000001e01e0e00000e0ccc0),.T (aT (gU J.P) (fE J.P (gU J.P) v.c v.d) v.a v.b) (fF (gU J.P) (fE J.P (gU J.P) v.c v.d) v.a v.b (.ref v.g)),[(v.c,dct (pf J aX z v.j v.y0 v.k v.y1) v.e),(v.b,lst v.l0 v.f)],v.l,v.m,[1],T5 v.b (v.l+4) v.l0 v.f (v.l+6)⟩
def s1:Sg:=.U (Vi J v) [0] (s0 J z v) .none 1 (lst a b) (v.l+6) c [0,1,5,6,7] (.again (aT (gU J.P) (fE J.P (gU J.P) v.c v.d) v.a v.b) [(v.c,dct [fK J (fi z v.j v.m) v.i0 v.h,iP J (fi z v.k (v.m+1)) v.i] (fi z v.e (v.e+2))),(v.b,lst a b),(v.l+3,dct [fK J (v.m+6) v.i0 v.h,iP J (v.m+8) v.i] 2),(v.l+4,ins 137 (v.l+3)),(v.l+5,ai [er J kK (v.m+2) (v.l+4),fK J (v.m+3) v.i0 v.h,iP J (v.m+4) v.i] 3)] (v.l+6))
example(z v):#[3,(s1 J z v a b c)]:=by cases z<;>trivial
end xE
namespace xw
section
variable(J:WX)(z p q:Bool)(v:Vv)(a:List Value:=[])(b c:Nat:=0)
abbrev Vi:=tZ J v.g (cond p 66 (cond q 184 217)) v.h
def s0:Sg:=⟨Vi J p q v,(dg (cond p 1220201006610060000111188881110 (cond q 1220201006610060000111188881110010100000110000000000111011001110 1220201006610060000111188881110010100000110000000000111011001110010100000110000000000111011001110010100000110000000000111011001110010100000110000000000111011000))),R_ J v.c v.d v.a v.b v.g,[(v.c,dct (pe J aX z v.i v.y0) v.e),(v.b,lst v.l0 v.f)],v.j+300,v.k,[1],.call (blt "list.append" [.ref v.b,.bool (or p q)]) [(v.b,lst v.l0 v.f)] (v.j+302)⟩
def s1:Sg:=Sb J (Vi J p q v) (s0 J z p q v) a b (v.j+302) c v.c v.d v.a v.b (fi z v.i v.k) v.g (fi z v.e (v.e+1)) v.j
example(z p q v):#[5,(s1 J z p q v a b c)]:=by cases z<;>cases p<;>cases q<;>trivial
end xw
namespace xj
section
variable(J:WX)(z:Bool)(v:Vv)(a:List Value:=[])(b c:Nat:=0)
def s0:Sg:=⟨J.V [],(dx 0x122000010010100010000000100000000000008080000100aaaa1aa800000180180800000806660),.T (aT (h_ J.P) (fE J.P (h_ J.P) v.c v.d) v.a v.b) (fF (h_ J.P) (fE J.P (h_ J.P) v.c v.d) v.a v.b (.int v.i0 v.g)),[(v.c,dct (pe J cD z v.h v.y0) v.e),(v.b,lst v.l0 v.f)],v.i,v.j,[1],T5 v.b (v.i+1) v.l0 v.f (v.i+3)⟩
def s1:Sg:=.U (J.V []) [0] (s0 J z v) .none 1 (lst a b) (v.i+3) c [0,1,2,3,4] (.again (aT (h_ J.P) (fE J.P (h_ J.P) v.c v.d) v.a v.b) [(v.c,dct [fK J (fi z v.h v.j) v.i0 v.g] (fi z v.e (v.e+1))),(v.b,lst a b),(v.i,dct [iP J (v.j+4) 275] 1),(v.i+1,ins 66 v.i),(v.i+2,ai [er J kK (v.j+1) (v.i+1),iP J (v.j+2) 275] 2)] (v.i+3))
example(z v):#[3,(s1 J z v a b c)]:=by cases z<;>trivial
end xj
namespace Ct
section
variable(J:WX)(v:Vv)(a b:Nat:=0)
abbrev Vi:=J.V [(v.a,lst v.l0 v.b)]
def s0:Sg:=⟨Vi J v,(dg 111122121211111111166666661111180),.C (.call (.type "dict") ⟨[.ref v.a],[]⟩),[],v.c,v.d,[0,3],.again (.builtin "dict.update.loop" ⟨[.ref v.c,.ref (v.c+3),.int 0 0,.none],[]⟩) [(v.c,dct [] 0),(v.c+3,⟨.type "list_iterator",none,dP v.a,#[]⟩)] (v.c+4)⟩
def s1:Sg:=⟨Vi J v,[],.B (s0 J v).r (rt .none),[],a,b,[],.fin (bN v.c) [] a⟩
example(v):[2,s1 J v a b]:=by trivial
end Ct
namespace yW
section
variable(J:WX)(v:Vv)(a:Nat:=0)(b:List Value:=[])(c d e:Nat:=0)(f:Value:=.none)(g h i:Nat:=0)
abbrev Vi:=J.V [(v.a,lst v.l0 v.b)]
def s0:Sg:=⟨Vi J v,(dg 10022121110),.C (iy 473 v.a),[],v.c,v.d,[1],vS v.a (v.c+1) v.c 14 (v.d+1) (v.c+2)⟩
def s1:Sg:=.A (Vi J v) (dg 16616180) (s0 J v) (.ref a) [(a,lst b 0)] c d [2,3,4,5,0] (.call (.compStart (dY (pG J.P)) 0 (.ref c) (.ref (c+1)) (qL J.P (c+2) v.c)) [(a,lst b 0),(c,⟨.type "list_iterator",none,dP a,#[]⟩),(c+1,lst [] 0),(c+2,dct [] 0),(v.c,jX J v.d v.a 1)] (c+3))
def s2:Sg:=⟨Vi J v,[4,4,4],eV (s1 J v a b c d),[(v.c,jX J v.d v.a 1),(c+2,dct [ent J.P sJ e f] g)],h,i,[0],.fin (bN (c+1)) [(v.c,jX J v.d v.a 1)] h⟩
example(v):[2,6,s2 J v a b c d e f g h i]:=by trivial
end yW
namespace yX
section
variable(J:WX)(v:Vv)(a:Nat:=0)(b:List Value:=[])(c d e f g:Nat:=0)
abbrev Vi:=J.V [(v.a,lst v.l0 v.b)]
def s0:Sg:=⟨Vi J v,(dg 10022121110),.C (iy 473 v.a),[],v.c,v.d,[1],vS v.a (v.c+1) v.c 14 (v.d+1) (v.c+2)⟩
def s1:Sg:=.A (Vi J v) (dg 16616180) (s0 J v) (.ref a) [(a,lst b 0)] c d [2,3,4,5,0] (.call (.compStart (dY (pG J.P)) 0 (.ref c) (.ref (c+1)) (qL J.P (c+2) v.c)) [(a,lst b 0),(c,⟨.type "list_iterator",none,dP a,#[]⟩),(c+1,lst [] 0),(c+2,dct [] 0),(v.c,jX J v.d v.a 1)] (c+3))
def s2:Sg:=⟨Vi J v,[4],eV (s1 J v a b c d),[(v.c,jX J v.d v.a 1),(c+2,dct [] e)],f,g,[0],.fin (bN (c+1)) [(v.c,jX J v.d v.a 1)] f⟩
example(v):[2,6,s2 J v a b c d e f g]:=by trivial
end yX
namespace Cu
section
variable(J:WX)(v:Vv)
def s0:Sg:=⟨J.V [],(dg 10022220),.C (aK 480 [.ref v.a,.int v.i0 v.b]),[],v.c,v.d,[0],.again (.func (bodyOf (fL J.P)) (iQ J v.c)) [(v.c,iB J v.d v.a (v.d+1) v.i0 v.b 2)] (v.c+1)⟩
example(v):[(s0 J v)]:=by trivial
end Cu
namespace vU
section
variable(J:WX)(v:Vv)
def s0:Sg:=⟨J.V [],[2],.T (.block [] (iQ J v.a)) (d9 (cL (fB (bW (aL (qa J 0)) 0)) (iQ J v.a))),[(v.a,iB J v.c v.b v.d v.i0 v.e v.f),(v.b,lst v.l0 v.g)],v.h,v.i,[0,1],.fin (bN v.b) [(v.a,iB J v.c v.b v.d v.i0 v.e v.f),(v.b,lst v.l0 v.g)] v.h⟩
example(v):#[s0 J v]:=by trivial
end vU
namespace Cv
section
variable(J:WX)(v:Vv)
def s0:Sg:=⟨J.V [],[],.T (.block [] (iQ J v.a)) (d9 (cL (fC (bW (aL (qa J 0)) 0)) (iQ J v.a))),[(v.a,iB J v.c v.b v.d v.i0 v.e v.f),(v.b,lst v.l0 v.g)],v.h,v.i,[0,1,2],.fin (bN v.h) [(v.a,iB J v.c v.b v.d v.i0 v.e v.f),(v.b,lst v.l0 v.g),(v.h,lst [] 0)] (v.h+1)⟩
example(v):#[s0 J v]:=by trivial
end Cv
namespace yY
section
variable(J:WX)(v:Vv)(a:Int:=0)(b c:Nat:=0)(d:Bool:=false)(e:Nat:=0)
def s0:Sg:=⟨J.V [],(dg 124440),.T (.block [] (iQ J v.a)) (pH (pB (bW (aL (qa J 0)) 1) (iQ J v.a) (cL (bW (aL (qa J 0)) 1) (iQ J v.a)))),[(v.a,iB J v.c v.b v.d v.i0 v.e v.f),(v.b,lst v.l0 v.g)],v.h,v.i,[1],.call (T8 v.b 0 v.i) [(v.b,lst v.l0 v.g)] v.h⟩
def s1:Sg:=.N (J.V []) [0] (s0 J v) (.int a b) v.h c [] (rI a b 0 c v.h)
def s2:Sg:=.N (J.V []) [] (s1 J v a b c) (.bool d) v.h e [0,1] (.fin (rt (.bool d)) [(v.a,iB J v.c v.b v.d v.i0 v.e v.f),(v.b,lst v.l0 v.g)] v.h)
example(v):#[2,5,s2 J v a b c d e]:=by trivial
end yY
namespace Cw
section
variable(J:WX)(v:Vv)(a:Int:=0)(b:Nat:=0)(c:List Value:=[])(d e:Nat:=0)
def s0:Sg:=⟨J.V [],(dg 1244440),.tb (cO (qa J 0)) (iQ J v.a),[(v.a,iB J v.c v.b v.d v.i0 v.e v.f),(v.b,lst v.l0 v.g)],v.h,v.i,[1],.call (blt "list.pop" [.ref v.b,.int 0 v.i]) [(v.b,lst v.l0 v.g)] v.h⟩
def s1:Sg:=.U (J.V []) [] (s0 J v) (.int a b) 1 (lst c d) v.h e [0,1] (.fin (.ok Flow.next) [(v.a,iB J v.c v.b v.d v.i0 v.e v.f),(v.b,lst c d)] v.h)
example(v):#[2,s1 J v a b c d e]:=by trivial
end Cw
namespace Hq
section
variable(J:WX)(v:Vv)
def s0:Sg:=⟨J.V [],[2],.T (.block [] (iQ J v.a)) (d9 (cL (fB (aL (qa J 1))) (iQ J v.a))),[(v.a,iB J v.c v.b v.d v.i0 v.e v.f),(v.b,lst v.l0 v.g)],v.h,v.i,[0,1],.fin (bN v.b) [(v.a,iB J v.c v.b v.d v.i0 v.e v.f),(v.b,lst v.l0 v.g)] v.h⟩
example(v):#[s0 J v]:=by trivial
end Hq
namespace Hr
section
variable(J:WX)(v:Vv)
def s0:Sg:=⟨J.V [],[],.T (.block [] (iQ J v.a)) (d9 (cL (fC (aL (qa J 1))) (iQ J v.a))),[(v.a,iB J v.c v.b v.d v.i0 v.e v.f),(v.b,lst v.l0 v.g)],v.h,v.i,[0,1,2],.fin (bN v.h) [(v.a,iB J v.c v.b v.d v.i0 v.e v.f),(v.b,lst v.l0 v.g),(v.h,lst [] 0)] (v.h+1)⟩
example(v):#[s0 J v]:=by trivial
end Hr
namespace Hs
section
variable(J:WX)(v:Vv)
def s0:Sg:=⟨J.V [],[],.tb (iG (qa J 1)) (iQ J v.a),[(v.a,iB J v.c v.b v.d v.i0 v.e v.f),(v.b,lst v.l0 v.g)],v.h,v.i,[0,1],.fin (rt (.int 0 v.i)) [(v.a,iB J v.c v.b v.d v.i0 v.e v.f),(v.b,lst v.l0 v.g)] v.h⟩
example(v):#[s0 J v]:=by trivial
end Hs
namespace rJ
section
variable(J:WX)(v:Vv)(a:Int:=0)(b c:Nat:=0)(d:Int:=0)(e f g h:Nat:=0)(i:Int:=0)(j k:Nat:=0)(l:List Value:=[])(m n:Nat:=0)
def s0:Sg:=⟨J.V [],(dg 124440),.tb (mJ (mJ (bodyOf (fL J.P)))) (iQ J v.a),[(v.a,iB J v.c v.b v.d v.i0 v.e v.f),(v.b,lst v.l0 v.g)],v.h,v.i,[1],.call (T8 v.b 0 v.i) [(v.b,lst v.l0 v.g)] v.h⟩
def s1:Sg:=.N (J.V []) [2,0] (s0 J v) (.int a b) v.h c [] (.call (blt "int.__mod__" [.int a b,.int v.i0 v.e]) [] v.h)
def s2:Sg:=.N (J.V []) (dg 12224440) (s1 J v a b c) (.int d e) v.h f [1] (.call (T8 v.b 0 (f+1)) [(v.b,lst v.l0 v.g)] v.h)
def s3:Sg:=.N (J.V []) [2,0] (s2 J v a b c d e f) (.int a b) v.h h [] (.call (blt "int.__floordiv__" [.int a b,.int v.i0 v.e]) [] v.h)
def s4:Sg:=.N (J.V []) [2,4,4,0] (s3 J v a b c d e f h) (.int i j) v.h k [1] (.call (blt "list.__setitem__" [.ref v.b,.int 0 k,.int i j]) [(v.b,lst v.l0 v.g)] v.h)
def s5:Sg:=.U (J.V []) [2] (s4 J v a b c d e f h i j k) .none 1 (lst l m) v.h n [0,1] (.fin (rt (.int d e)) [(v.a,ai [er J qJ v.c v.b,ei J cG v.d v.i0 v.e,ei J gw f d e] (v.f+1)),(v.b,lst l m)] v.h)
example(v):#[2,5,8,9,12,s5 J v a b c d e f h i j k l m n]:=by trivial
end rJ
namespace l_
section
variable(J:WX)(v:Vv)(a:Int:=0)(b c d e:Nat:=0)(f:List Value:=[])(g h:Nat:=0)(i:List Value:=[])(j k:Nat:=0)(l:Value:=.none)(m n:Nat:=0)(p:Value:=.none)(r s t:Nat:=0)(u:List Value:=[])(w x y z B C D E F:Nat:=0)(G:Value:=.none)(H I N:Nat:=0)
abbrev Vi:=J.V [(v.c,lst v.l0 v.d),(v.e,lst v.l1 v.f)]
def s0:Sg:=⟨Vi J v,(dg 1002222222210020),.C (aK 384 [.ref v.a,.int v.i0 v.b,.ref v.c,.ref v.e]),[],v.g,v.h,[],kM v.c (v.g+1)⟩
def s1:Sg:=.N (Vi J v) [2,2,2,0] (s0 J v) (.int a b) (v.g+1) c [] (vV a b 1 (c+1) (v.g+1))
def s2:Sg:=.N (Vi J v) (dg 1002223330) (s1 J v a b c) (.bool false) (v.g+1) d [1] (vS v.e (v.g+1) v.g a b (v.g+2))
def s3:Sg:=.A (Vi J v) (dx 0x1111111111866161af1f11f11f1f1f11f11f10) (s2 J v a b c d) (.ref e) [(e,lst f 0)] g h [0,3,4,5,6,7,8,9,2] (.call (.compStart (dY (gU J.P)) 0 (.ref (g+4)) (.ref (g+5)) (fE J.P (gU J.P) (g+6) v.g)) [(v.g,ai (i_ J v.h v.a (v.h+1) v.i0 v.b (v.h+2) v.c (v.h+3) v.e [ei J cG c a b]) 5),(g,⟨.type "list_iterator",none,dP v.c,#[]⟩),(g+1,⟨.type "list_iterator",none,dP e,#[]⟩),(g+2,kI g (g+1)),(g+3,tup [.none,.none]),(g+4,⟨.type "zip",none,yQ (g+2) (g+3),#[]⟩),(g+5,lst [] 0),(g+6,dct [] 0),(e,lst f 0)] (g+7))
def s4:Sg:=⟨Vi J v,(dg 1666666223330),eV (s3 J v a b c d e f g h),[(v.g,ai (i_ J v.h v.a (v.h+1) v.i0 v.b (v.h+2) v.c (v.h+3) v.e [ei J cG c a b]) 5),(g+5,lst i j),(g+6,dct [nX J k l,vR J n p] m)],r,s,[3],yZ v.e r a b (r+1)⟩
def s5:Sg:=.A (Vi J v) [4,10,4,0] (s4 J v a b c d e f g h i j k l m n p r s) (.ref t) [(t,lst u 0)] w x [1,4] (.call (iA (g+5) t) [(g+5,lst i j),(t,lst u 0)] w)
def s6:Sg:=.N (Vi J v) (dg 1220022110200) (s5 J v a b c d e f g h i j k l m n p r s t u w x) (.ref y) z B [] (.call (iy 367 y) [] z)
def s7:Sg:=.N (Vi J v) (dx 0x1001001010001000000010000000000000e0e0000100f1f1f1f1f1f1f1f1f1f11f1f1e000001e01e0e00000e0cccf1f1e000001e01e0e00000e0cccf1f1e000001e01e0e00000e0cccf1f1e000001e01e0e00000e0ccc211111f20) (s6 J v a b c d e f g h i j k l m n p r s t u w x y z B) (.ref C) D E [5,6,8,9,10,0] (.call (.compStart (dY (h_ J.P)) 0 (.ref (D+3)) (.ref (D+4)) (fE J.P (h_ J.P) (D+5) v.g)) (Cx J D (E+6) v.i0 v.b (E+8) v.c (E+10) (B+2) (E+12) C [(v.g,ai (i_ J v.h v.a (v.h+1) v.i0 v.b (v.h+2) v.c (v.h+3) v.e [ei J cG c a b,er J iO B y]) 6)]) (D+6))
def s8:Sg:=⟨Vi J v,(dx 0x14440010010100010000000100000000000008080000100aaaaaa1aa80000018018080000080666aa80000018018080000080666),eV (s7 J v a b c d e f g h i j k l m n p r s t u w x y z B C D E),[(v.g,ai (i_ J v.h v.a (v.h+1) v.i0 v.b (v.h+2) v.c (v.h+3) v.e [ei J cG c a b,er J iO B y]) 6),(D+5,dct [nX J F G] H)],I,N,[2,3,4],.fin (bN (I+1)) [(I,lX J (N+4) (D+1) (N+6) (D+4) 2),(I+1,ins 217 I),(I+2,ai [er J kK N (I+1),er J nR (N+1) (D+1),er J nU (N+2) (D+4)] 3)] (I+3)⟩
example(v):[2,5,6,10,19,23,26,29,s8 J v a b c d e f g h i j k l m n p r s t u w x y z B C D E F G H I N]:=by trivial
end l_
namespace ju
section
variable(J:WX)(v:Vv)(a:Int:=0)(b c d e:Nat:=0)(f:List Value:=[])(g h:Nat:=0)(i:List Value:=[])(j k:Nat:=0)(l:Value:=.none)(m n p r s t:Nat:=0)(u:List Value:=[])(w x:Nat:=0)(y:List Value:=[])(z B:Nat:=0)(C:Value:=.none)(D E:Nat:=0)(F:Value:=.none)(G H I:Nat:=0)(N:List Value:=[])(O R S T U Y Z α β:Nat:=0)(γ:Value:=.none)(δ ε ζ:Nat:=0)
abbrev Vi:=J.V [(v.c,lst v.l0 v.d),(v.e,lst v.l1 v.f)]
def s0:Sg:=⟨Vi J v,(dg 1002222222210020),.C (aK 384 [.ref v.a,.int v.i0 v.b,.ref v.c,.ref v.e]),[],v.g,v.h,[],kM v.c (v.g+1)⟩
def s1:Sg:=.N (Vi J v) [2,2,2,0] (s0 J v) (.int a b) (v.g+1) c [] (vV a b 1 (c+1) (v.g+1))
def s2:Sg:=.N (Vi J v) (dg 100223330) (s1 J v a b c) (.bool true) (v.g+1) d [1] (vS v.e (v.g+1) v.g a b (v.g+2))
def s3:Sg:=.A (Vi J v) (dg 16616180) (s2 J v a b c d) (.ref e) [(e,lst f 0)] g h [0,3,4,5,2] (.call (.compStart (dY (e_ J.P)) 0 (.ref g) (.ref (g+1)) (fE J.P (e_ J.P) (g+2) v.g)) [(v.g,ai (i_ J v.h v.a (v.h+1) v.i0 v.b (v.h+2) v.c (v.h+3) v.e [ei J cG c a b]) 5),(g,⟨.type "list_iterator",none,dP e,#[]⟩),(g+1,lst [] 0),(g+2,dct [] 0),(e,lst f 0)] (g+3))
def s4:Sg:=⟨Vi J v,[6,6,6,0],eV (s3 J v a b c d e f g h),[(v.g,ai (i_ J v.h v.a (v.h+1) v.i0 v.b (v.h+2) v.c (v.h+3) v.e [ei J cG c a b]) 5),(g+1,lst i j),(g+2,dct [vR J k l] m)],n,p,[1],.call (blt "all" [.ref (g+1)]) [(g+1,lst i j)] n⟩
def s5:Sg:=.N (Vi J v) (dg 1002223330) (s4 J v a b c d e f g h i j k l m n p) (.bool true) r s [3] (yU v.e r a b (r+1))
def s6:Sg:=.A (Vi J v) (dx 0x1111111111caa1a1ef3f31f31f3f3f31f31f30) (s5 J v a b c d e f g h i j k l m n p r s) (.ref t) [(t,lst u 0)] w x [0,5,6,7,8,9,10,11,4] (.call (.compStart (dY (gU J.P)) 0 (.ref (w+4)) (.ref (w+5)) (fE J.P (gU J.P) (w+6) v.g)) [(v.g,ai (i_ J v.h v.a (v.h+1) v.i0 v.b (v.h+2) v.c (v.h+3) v.e [ei J cG c a b]) 5),(w,⟨.type "list_iterator",none,dP v.c,#[]⟩),(w+1,⟨.type "list_iterator",none,dP t,#[]⟩),(w+2,kI w (w+1)),(w+3,tup [.none,.none]),(w+4,⟨.type "zip",none,yQ (w+2) (w+3),#[]⟩),(w+5,lst [] 0),(w+6,dct [] 0),(t,lst u 0)] (w+7))
def s7:Sg:=⟨Vi J v,(dg 1666666223330),eV (s6 J v a b c d e f g h i j k l m n p r s t u w x),[(v.g,ai (i_ J v.h v.a (v.h+1) v.i0 v.b (v.h+2) v.c (v.h+3) v.e [ei J cG c a b]) 5),(w+5,lst y z),(w+6,dct [nX J B C,vR J E F] D)],G,H,[3],yZ v.e G a b (G+1)⟩
def s8:Sg:=.A (Vi J v) [4,10,4,0] (s7 J v a b c d e f g h i j k l m n p r s t u w x y z B C D E F G H) (.ref I) [(I,lst N 0)] O R [1,4] (.call (iA (w+5) I) [(w+5,lst y z),(I,lst N 0)] O)
def s9:Sg:=.N (Vi J v) (dg 1220022110200) (s8 J v a b c d e f g h i j k l m n p r s t u w x y z B C D E F G H I N O R) (.ref S) T U [] (.call (iy 367 S) [] T)
def cV:Sg:=.N (Vi J v) (dx 0x1001001010001000000010000000000000e0e0000100f1f1f1f1f1f1f1f1f1f11f1f1e000001e01e0e00000e0cccf1f1e000001e01e0e00000e0cccf1f1e000001e01e0e00000e0cccf1f1e000001e01e0e00000e0ccc211111f20) (s9 J v a b c d e f g h i j k l m n p r s t u w x y z B C D E F G H I N O R S T U) (.ref Y) Z α [5,6,8,9,10,0] (.call (.compStart (dY (h_ J.P)) 0 (.ref (Z+3)) (.ref (Z+4)) (fE J.P (h_ J.P) (Z+5) v.g)) (Cx J Z (α+6) v.i0 v.b (α+8) v.c (α+10) (U+2) (α+12) Y [(v.g,ai (i_ J v.h v.a (v.h+1) v.i0 v.b (v.h+2) v.c (v.h+3) v.e [ei J cG c a b,er J iO U S]) 6)]) (Z+6))
def cJ:Sg:=⟨Vi J v,(dx 0x14440010010100010000000100000000000008080000100aaaaaa1aa80000018018080000080666aa80000018018080000080666),eV (cV J v a b c d e f g h i j k l m n p r s t u w x y z B C D E F G H I N O R S T U Y Z α),[(v.g,ai (i_ J v.h v.a (v.h+1) v.i0 v.b (v.h+2) v.c (v.h+3) v.e [ei J cG c a b,er J iO U S]) 6),(Z+5,dct [nX J β γ] δ)],ε,ζ,[2,3,4],.fin (bN (ε+1)) [(ε,lX J (ζ+4) (Z+1) (ζ+6) (Z+4) 2),(ε+1,ins 217 ε),(ε+2,ai [er J kK ζ (ε+1),er J nR (ζ+1) (Z+1),er J nU (ζ+2) (Z+4)] 3)] (ε+3)⟩
example(v):[2,5,6,10,17,19,23,32,36,39,cV J v a b c d e f g h i j k l m n p r s t u w x y z B C D E F G H I N O R S T U Y Z α,cJ J v a b c d e f g h i j k l m n p r s t u w x y z B C D E F G H I N O R S T U Y Z α β γ δ ε ζ]:=by trivial
theorem Cy:OB J (cV J v a b c d e f g h i j k l m n p r s t u w x y z B C D E F G H I N O R S T U Y Z α):=(all J v a b c d e f g h i j k l m n p r s t u w x y z B C D E F G H I N O R S T U Y Z α).b 10
theorem Sd:OB J (cJ J v a b c d e f g h i j k l m n p r s t u w x y z B C D E F G H I N O R S T U Y Z α β γ δ ε ζ):=(all J v a b c d e f g h i j k l m n p r s t u w x y z B C D E F G H I N O R S T U Y Z α β γ δ ε ζ).b 11
end ju
namespace jY
section
variable(J:WX)(v:Vv)(a:Int:=0)(b c d e:Nat:=0)(f:List Value:=[])(g h:Nat:=0)(i:List Value:=[])(j k:Nat:=0)(l:Value:=.none)(m n p r s t u w x y z B C D E F G H:Nat:=0)(I:Value:=.none)(N O R:Nat:=0)
abbrev Vi:=J.V [(v.c,lst v.l0 v.d),(v.e,lst v.l1 v.f)]
def s0:Sg:=⟨Vi J v,(dg 1002222222210020),.C (aK 384 [.ref v.a,.int v.i0 v.b,.ref v.c,.ref v.e]),[],v.g,v.h,[],kM v.c (v.g+1)⟩
def s1:Sg:=.N (Vi J v) [2,2,2,0] (s0 J v) (.int a b) (v.g+1) c [] (vV a b 1 (c+1) (v.g+1))
def s2:Sg:=.N (Vi J v) (dg 100223330) (s1 J v a b c) (.bool true) (v.g+1) d [1] (vS v.e (v.g+1) v.g a b (v.g+2))
def s3:Sg:=.A (Vi J v) (dg 16616180) (s2 J v a b c d) (.ref e) [(e,lst f 0)] g h [0,3,4,5,2] (.call (.compStart (dY (e_ J.P)) 0 (.ref g) (.ref (g+1)) (fE J.P (e_ J.P) (g+2) v.g)) [(v.g,ai (i_ J v.h v.a (v.h+1) v.i0 v.b (v.h+2) v.c (v.h+3) v.e [ei J cG c a b]) 5),(g,⟨.type "list_iterator",none,dP e,#[]⟩),(g+1,lst [] 0),(g+2,dct [] 0),(e,lst f 0)] (g+3))
def s4:Sg:=⟨Vi J v,[6,6,6,0],eV (s3 J v a b c d e f g h),[(v.g,ai (i_ J v.h v.a (v.h+1) v.i0 v.b (v.h+2) v.c (v.h+3) v.e [ei J cG c a b]) 5),(g+1,lst i j),(g+2,dct [vR J k l] m)],n,p,[1],.call (blt "all" [.ref (g+1)]) [(g+1,lst i j)] n⟩
def s5:Sg:=.N (Vi J v) (dg 1022223330) (s4 J v a b c d e f g h i j k l m n p) (.bool false) r s [3] (yU v.e r a b (r+1))
def s6:Sg:=.N (Vi J v) (dg 1223330) (s5 J v a b c d e f g h i j k l m n p r s) (.ref t) u w [4] (yZ v.e u a b (u+1))
def s7:Sg:=.N (Vi J v) [0,0] (s6 J v a b c d e f g h i j k l m n p r s t u w) (.ref x) y z [] (.call (aK 379 [.ref v.a,.ref v.c,.ref t,.ref x]) [] y)
def s8:Sg:=.N (Vi J v) (dg 1220022110200) (s7 J v a b c d e f g h i j k l m n p r s t u w x y z) (.ref B) C D [] (.call (iy 367 B) [] C)
def s9:Sg:=.N (Vi J v) (dx 0x1001001010001000000010000000000000e0e0000100f1f1f1f1f1f1f1f1f1f11f1f1e000001e01e0e00000e0cccf1f1e000001e01e0e00000e0cccf1f1e000001e01e0e00000e0cccf1f1e000001e01e0e00000e0ccc211111f20) (s8 J v a b c d e f g h i j k l m n p r s t u w x y z B C D) (.ref E) F G [5,6,8,9,10,0] (.call (.compStart (dY (h_ J.P)) 0 (.ref (F+3)) (.ref (F+4)) (fE J.P (h_ J.P) (F+5) v.g)) (Cx J F (G+6) v.i0 v.b (G+8) v.c (G+10) (D+2) (G+12) E [(v.g,ai (i_ J v.h v.a (v.h+1) v.i0 v.b (v.h+2) v.c (v.h+3) v.e [ei J cG c a b,er J iO D B]) 6)]) (F+6))
def cV:Sg:=⟨Vi J v,(dx 0x14440010010100010000000100000000000008080000100aaaaaa1aa80000018018080000080666aa80000018018080000080666),eV (s9 J v a b c d e f g h i j k l m n p r s t u w x y z B C D E F G),[(v.g,ai (i_ J v.h v.a (v.h+1) v.i0 v.b (v.h+2) v.c (v.h+3) v.e [ei J cG c a b,er J iO D B]) 6),(F+5,dct [nX J H I] N)],O,R,[2,3,4],.fin (bN (O+1)) [(O,lX J (R+4) (F+1) (R+6) (F+4) 2),(O+1,ins 217 O),(O+2,ai [er J kK R (O+1),er J nR (R+1) (F+1),er J nU (R+2) (F+4)] 3)] (O+3)⟩
example(v):[2,5,6,10,17,19,22,25,28,31,cV J v a b c d e f g h i j k l m n p r s t u w x y z B C D E F G H I N O R]:=by trivial
theorem Cy:OB J (cV J v a b c d e f g h i j k l m n p r s t u w x y z B C D E F G H I N O R):=(all J v a b c d e f g h i j k l m n p r s t u w x y z B C D E F G H I N O R).b 10
end jY
namespace y_
section
variable(J:WX)(v:Vv)(a:Int:=0)(b c d:Nat:=0)
def s0:Sg:=⟨J.V [],(dg 1002210020),.C (iy 367 v.a),[],v.b,v.c,[],kM v.a (v.b+1)⟩
def s1:Sg:=.N (J.V []) [0] (s0 J v) (.int a b) (v.b+1) c [] (rI a b 1 c (v.b+1))
def s2:Sg:=.N (J.V []) (dg 1020010010100010000000100000000000006060000100888818860000016016060000060444) (s1 J v a b c) (.bool false) (v.b+1) d [1,2] (.fin (bN (v.b+2)) [(v.b+1,dct [er J p_ (d+3) v.a] 1),(v.b+2,ins 250 (v.b+1))] (v.b+4))
example(v):[2,5,s2 J v a b c d]:=by trivial
end y_
namespace vW
section
variable(J:WX)(v:Vv)(a:Int:=0)(b c d e:Nat:=0)
abbrev Vi:=J.V [(v.a,lst [.ref v.b] v.c)]
def s0:Sg:=⟨Vi J v,(dg 1002210020),.C (iy 367 v.a),[],v.d,v.e,[],kM v.a (v.d+1)⟩
def s1:Sg:=.N (Vi J v) [0] (s0 J v) (.int a b) (v.d+1) c [] (rI a b 1 c (v.d+1))
def s2:Sg:=.N (Vi J v) (dg 121110) (s1 J v a b c) (.bool true) (v.d+1) d [] (.call (T8 v.a 0 d) [] (v.d+1))
def s3:Sg:=.N (Vi J v) [] (s2 J v a b c d) (.ref v.b) (v.d+1) e [] (.fin (bN v.b) [] (v.d+1))
example(v):[2,5,6,s3 J v a b c d e]:=by trivial
end vW
namespace Cz
section
variable(J:WX)(z:Bool)(v:Vv)(a:Nat:=0)
abbrev Vi:=J.V [(v.e,tup [.str lU v.f,.ref v.g,.ref v.h,.ref v.i])]
def s0:Sg:=⟨Vi J v,(dg 1006666661622220),.C (aK 506 [kv z v.i0 v.k,.ref v.a,.ref v.b]),[(v.a,lst v.l0 v.c),(v.g,lst [v.y0] v.j)],v.l,v.m,[0],i9 v.a v.l0 v.c (v.l+1)⟩
def s1:Sg:=.U (Vi J v) (dg 166611111111166111111144141444) (s0 J z v) (.ref v.e) 0 (lst v.l1 v.d) (v.l+1) a [0,1,3] (.fin (bN (v.l+1)) [(v.a,lst v.l1 v.d),(v.g,lst [kv z v.i0 v.k] v.j),(v.l+1,tup [.str aX (a+5),.int 0 (a+6)])] (v.l+2))
example(z v):[3,s1 J z v a]:=by cases z<;>trivial
end Cz
namespace nZ
section
variable(J:WX)(z:Bool)(v:Vv)(a:Nat:=0)(b:Int:=0)(c d e:Nat:=0)(f:Int:=0)(g h i j k l m:Nat:=0)
abbrev Vi:=J.V [(v.e,t_ v.f v.g v.i0 v.h v.i),(v.g,lst v.l2 v.j)]
def s0:Sg:=⟨Vi J v,(dg 1004444441422220),.C (aK 506 [kv z v.i1 v.k,.ref v.a,.ref v.b]),[(v.a,lst v.l0 v.c)],v.l,v.m,[0],i9 v.a v.l0 v.c (v.l+1)⟩
def s1:Sg:=.U (Vi J v) (dg 14441111111114111111111411111111144400411111110) (s0 J z v) (.ref v.e) 0 (lst v.l1 v.d) (v.l+1) a [] (kM v.g (v.l+1))
def s2:Sg:=.N (Vi J v) [0] (s1 J z v a) (.int b c) (v.l+1) d [] (rI (v.i0+1) (a+7) b c (v.l+1))
def s3:Sg:=.N (Vi J v) (dg 1400411111110) (s2 J z v a b c d) (.bool false) (v.l+1) e [] (kM v.g (v.l+1))
def s4:Sg:=.N (Vi J v) [1,1,0] (s3 J z v a b c d e) (.int f g) (v.l+1) h [] (za (v.i0+1) (a+7) (f-1) (h+1) (v.l+1))
def s5:Sg:=.N (Vi J v) (dg 142222411111114411111110) (s4 J z v a b c d e f g h) (.bool true) (v.l+1) i [0] (T5 v.a (v.l+1) v.l1 v.d (v.l+2))
def s6:Sg:=.U (Vi J v) (dg 14111111143330) (s5 J z v a b c d e f g h i) .none 0 (lst (v.l1++[.ref (v.l+1)]) j) (v.l+2) k [] (nW v.g (v.i0+1) (a+7) (v.l+2))
def s7:Sg:=.N (Vi J v) (dg 1141111111) (s6 J z v a b c d e f g h i j k) (.ref l) (v.l+2) m [0,2,3] (.fin (bN (v.l+2)) [(v.a,lst (v.l1++[Value.ref (v.l+1)]) j),(v.l+1,t_ i v.g (v.i0+1) (a+7) v.i),(v.l+2,kI l v.i)] (v.l+3))
example(z v):[3,4,7,8,11,12,14,s7 J z v a b c d e f g h i j k l m]:=by cases z<;>trivial
end nZ
namespace qb
section
variable(J:WX)(z:Bool)(v:Vv)(a:Nat:=0)(b:Int:=0)(c d e:Nat:=0)(f:Int:=0)(g h i j k:Nat:=0)
abbrev Vi:=J.V [(v.e,t_ v.f v.g v.i0 v.h v.i),(v.g,lst v.l2 v.j)]
def s0:Sg:=⟨Vi J v,(dg 1004444441422220),.C (aK 506 [kv z v.i1 v.k,.ref v.a,.ref v.b]),[(v.a,lst v.l0 v.c)],v.l,v.m,[0],i9 v.a v.l0 v.c (v.l+1)⟩
def s1:Sg:=.U (Vi J v) (dg 14441111111114111111111411111111144400411111110) (s0 J z v) (.ref v.e) 0 (lst v.l1 v.d) (v.l+1) a [] (kM v.g (v.l+1))
def s2:Sg:=.N (Vi J v) [0] (s1 J z v a) (.int b c) (v.l+1) d [] (rI (v.i0+1) (a+7) b c (v.l+1))
def s3:Sg:=.N (Vi J v) (dg 1400411111110) (s2 J z v a b c d) (.bool false) (v.l+1) e [] (kM v.g (v.l+1))
def s4:Sg:=.N (Vi J v) [1,1,0] (s3 J z v a b c d e) (.int f g) (v.l+1) h [] (za (v.i0+1) (a+7) (f-1) (h+1) (v.l+1))
def s5:Sg:=.N (Vi J v) (dg 14111111143330) (s4 J z v a b c d e f g h) (.bool false) (v.l+1) i [] (nW v.g (v.i0+1) (a+7) (v.l+1))
def s6:Sg:=.N (Vi J v) (dg 1141111111) (s5 J z v a b c d e f g h i) (.ref j) (v.l+1) k [0,2] (.fin (bN (v.l+1)) [(v.a,lst v.l1 v.d),(v.l+1,kI j v.i)] (v.l+2))
example(z v):[3,4,7,8,11,12,s6 J z v a b c d e f g h i j k]:=by cases z<;>trivial
end qb
namespace mh
section
variable(J:WX)(z:Bool)(v:Vv)(a b c:Nat:=0)(d:List Value:=[])(e f:Nat:=0)(g:Int:=0)(h i:Nat:=0)(j:Int:=0)(k l m n p:Nat:=0)(r:Int:=0)(s t u w:Nat:=0)
abbrev Vi:=J.V [(v.e,ua v.f v.g v.h v.i),(v.h,lst v.l3 v.k),(v.g,lst v.l2 v.j)]
def s0:Sg:=⟨Vi J v,(dg 1004444441422220),.C (aK 506 [kv z v.i0 v.l,.ref v.a,.ref v.b]),[(v.a,lst v.l0 v.c)],v.m,v.n,[0],i9 v.a v.l0 v.c (v.m+1)⟩
def s1:Sg:=.U (Vi J v) (dg 144411111111141111111114111111143630) (s0 J z v) (.ref v.e) 0 (lst v.l1 v.d) (v.m+1) a [2] (.call (iA v.h (v.m+1)) [(v.m+1,lst [kv z v.i0 v.l] 0)] (v.m+2))
def s2:Sg:=.A (Vi J v) (dg 1440040) (s1 J z v a) (.ref b) [(b,lst d e)] c f [3] (.call (lZ b) [(b,lst d e)] c)
def s3:Sg:=.N (Vi J v) (dg 100411111110) (s2 J z v a b c d e f) (.int g h) c i [] (kM v.g c)
def s4:Sg:=.N (Vi J v) [0] (s3 J z v a b c d e f g h i) (.int j k) c l [] (za g h j k c)
def s5:Sg:=.N (Vi J v) (dg 142222411111114411111110) (s4 J z v a b c d e f g h i j k l) (.bool true) c m [0] (T5 v.a c v.l1 v.d (c+1))
def s6:Sg:=.U (Vi J v) (dg 1411111110040) (s5 J z v a b c d e f g h i j k l m) .none 0 (lst (v.l1++[.ref c]) n) (c+1) p [3] (.call (lZ b) [(b,lst d e)] (c+1))
def s7:Sg:=.N (Vi J v) [5,5,5,0] (s6 J z v a b c d e f g h i j k l m n p) (.int r s) (c+1) t [] (nW v.g r s (c+1))
def s8:Sg:=.N (Vi J v) (dg 1141111111) (s7 J z v a b c d e f g h i j k l m n p r s t) (.ref u) (c+1) w [0,3,4,5] (.fin (bN (c+1)) [(v.a,lst (v.l1++[Value.ref c]) n),(b,lst d e),(c,ua m v.g b v.i),(c+1,kI u v.i)] (c+2))
example(z v):[3,4,9,12,15,16,18,21,s8 J z v a b c d e f g h i j k l m n p r s t u w]:=by cases z<;>trivial
end mh
namespace mj
section
variable(J:WX)(z:Bool)(v:Vv)(a b c:Nat:=0)(d:List Value:=[])(e f:Nat:=0)(g:Int:=0)(h i:Nat:=0)(j:Int:=0)(k l m n p r s t u w x:Nat:=0)
abbrev Vi:=J.V [(v.e,ua v.f v.g v.h v.i),(v.h,lst v.l3 v.k),(v.g,lst v.l2 v.j)]
def s0:Sg:=⟨Vi J v,(dg 1004444441422220),.C (aK 506 [kv z v.i0 v.l,.ref v.a,.ref v.b]),[(v.a,lst v.l0 v.c)],v.m,v.n,[0],i9 v.a v.l0 v.c (v.m+1)⟩
def s1:Sg:=.U (Vi J v) (dg 144411111111141111111114111111143630) (s0 J z v) (.ref v.e) 0 (lst v.l1 v.d) (v.m+1) a [2] (.call (iA v.h (v.m+1)) [(v.m+1,lst [kv z v.i0 v.l] 0)] (v.m+2))
def s2:Sg:=.A (Vi J v) (dg 1440040) (s1 J z v a) (.ref b) [(b,lst d e)] c f [3] (.call (lZ b) [(b,lst d e)] c)
def s3:Sg:=.N (Vi J v) (dg 100411111110) (s2 J z v a b c d e f) (.int g h) c i [] (kM v.g c)
def s4:Sg:=.N (Vi J v) [0] (s3 J z v a b c d e f g h i) (.int j k) c l [] (za g h j k c)
def s5:Sg:=.N (Vi J v) (dg 1048880) (s4 J z v a b c d e f g h i j k l) (.bool false) c m [3] (.call (T8 b 0 m) [(b,lst d e)] c)
def s6:Sg:=.N (Vi J v) (dg 148880) (s5 J z v a b c d e f g h i j k l m) (.ref n) c p [4,3] (.call (zb b c) [(c,⟨.type "slice",none,.fields ⟨[.int 1 p,.none,.none]⟩,#[]⟩),(b,lst d e)] (c+1))
def s7:Sg:=.N (Vi J v) [4,4,0,0] (s6 J z v a b c d e f g h i j k l m n p) (.ref r) s t [0] (.call (aK 485 [.ref n,.ref r,.ref v.b,.ref v.a]) [(v.a,lst v.l1 v.d)] s)
def s8:Sg:=.N (Vi J v) [] (s7 J z v a b c d e f g h i j k l m n p r s t) (.ref u) w x [0] (.fin (bN u) [(v.a,lst v.l1 v.d)] w)
example(z v):[3,4,9,12,15,16,18,21,s8 J z v a b c d e f g h i j k l m n p r s t u w x]:=by cases z<;>trivial
end mj
namespace qc
section
variable(J:WX)(v:Vv)(a:List Value:=[])(b c:Nat:=0)(d:Value:=.none)(e f g:Nat:=0)(h:List Value:=[])(i j:Nat:=0)(k:Value:=.none)(l:Nat:=0)(m:Value:=.none)(n p r s t u:Nat:=0)(w:Int:=0)(x y z B C D E:Nat:=0)(F:List DictEntry:=[])(G H:Nat:=0)
abbrev Vi:=J.V [(v.b,lst v.l0 v.c),(v.e,lst v.l1 v.f)]
def s0:Sg:=⟨Vi J v,(dg 10044222222121111160),.C (aK 379 [.ref v.a,.ref v.b,.ref v.d,.ref v.e]),[],v.g,v.h,[0,1,2,3,4],.call (.compStart (dY (jB J.P)) 0 (.ref (v.g+2)) (.ref (v.g+3)) (jC J.P (jB J.P) [(gz,v.g+1)] (v.g+4) v.g)) [(v.g,ai [eX J v.h v.b,er J qd (v.h+1) v.d,er J iz (v.h+2) v.e] 3),(v.g+1,bL (Value.ref v.a)),(v.g+2,⟨.type "list_iterator",none,dP v.b,#[]⟩),(v.g+3,lst [] 0),(v.g+4,dct [] 0)] (v.g+5)⟩
def s1:Sg:=⟨Vi J v,(dx 0x1226660022111111111844141af1f11f11f1f1f11f11f10),eV (s0 J v),[(v.g,ai [eX J v.h v.b,er J qd (v.h+1) v.d,er J iz (v.h+2) v.e] 3),(v.g+3,lst a b),(v.g+4,dct [nX J c d] e)],f,g,[0,3,4,5,6,7,8,9,1],.call (.compStart (dY (iK J.P)) 0 (.ref (f+4)) (.ref (f+5)) (jC J.P (iK J.P) [] (f+6) v.g)) [(v.g,ai (n_ J v.h v.b (v.h+1) v.d (v.h+2) v.e [er J cT g (v.g+3)]) 4),(f,⟨.type "list_iterator",none,dP v.b,#[]⟩),(f+1,⟨.type "list_iterator",none,dP (v.g+3),#[]⟩),(f+2,kI f (f+1)),(f+3,tup [.none,.none]),(f+4,⟨.type "zip",none,yQ (f+2) (f+3),#[]⟩),(f+5,lst [] 0),(f+6,dct [] 0),(v.g+3,lst a b)] (f+7)⟩
def s2:Sg:=⟨Vi J v,(dg 166666624340),eV (s1 J v a b c d e f g),[(v.g,ai (n_ J v.h v.b (v.h+1) v.d (v.h+2) v.e [er J cT g (v.g+3)]) 4),(f+5,lst h i),(f+6,dct [nX J j k,ent J.P jG l m] n)],p,r,[0,1],.call (iA (f+5) v.e) [(v.g,ai (n_ J v.h v.b (v.h+1) v.d (v.h+2) v.e [er J cT g (v.g+3)]) 4),(f+5,lst h i)] p⟩
def s3:Sg:=.N (Vi J v) (dg 122000020) (s2 J v a b c d e f g h i j k l m n p r) (.ref s) t u [0] (.call (lZ v.b) [(v.g,ai (n_ J v.h v.b (v.h+1) v.d (v.h+2) v.e [er J cT g (v.g+3),er J gw u s]) 5)] t)
def s4:Sg:=.N (Vi J v) (dg 11111111111881818880) (s3 J v a b c d e f g h i j k l m n p r s t u) (.int w x) t y [0,3] (.call (blt "range.__iter__" [.ref t]) [(v.g,ai (n_ J v.h v.b (v.h+1) v.d (v.h+2) v.e [er J cT g (v.g+3),er J gw u s]) 5),(t,⟨.type "range",none,.fields ⟨[.int (w-1) (y+1),.int (-1) (y+3),.int (-1) (y+5)]⟩,#[]⟩)] (t+1))
def s5:Sg:=.A (Vi J v) [10,0] (s4 J v a b c d e f g h i j k l m n p r s t u w x y) (.ref z) [(z,⟨.type "range_iterator",none,.fields ⟨[rawInt (w+-1),rawInt w,rawInt (-1)]⟩,#[]⟩)] B C [0,4] (.call (uJ J.P z v.g (v.g+1)) [(v.g,ai (n_ J v.h v.b (v.h+1) v.d (v.h+2) v.e [er J cT g (v.g+3),er J gw u s]) 5),(z,⟨.type "range_iterator",none,.fields ⟨[.int (w+-1) 0,.int w 0,.int (-1) 0]⟩,#[]⟩)] B)
def s6:Sg:=⟨Vi J v,[2],eV (s5 J v a b c d e f g h i j k l m n p r s t u w x y z B C),[(v.g,ai ((n_ J v.h v.b (v.h+1) v.d (v.h+2) v.e [er J cT g (v.g+3),er J gw u D])++F) E)],G,H,[],.fin (bN D) [] G⟩
example(v):[2,9,18,21,24,27,s6 J v a b c d e f g h i j k l m n p r s t u w x y z B C D E F G H]:=by trivial
end qc
namespace kO
structure A where
 (fr fe c W_ wd:Nat)(k:Wc)(l:Int)(tl nu:Nat)(ns:List Value)(en va:Nat)(vs:List Value)(ev re kl:Nat)(ks:List Value)(ek fo:Nat)(os:List Value)(eo:Nat)(ts:List DictEntry)(et it:Nat)(p:Int)(tp t0 t1 t2 t3 t4 t5 t6 t7:Nat)(z5 z6 z7:Value)(n tk:Nat)
section
variable(J:WX)(z:Bool)(v:A)(a:List DictEntry:=[])(b c:Nat:=0)(d:Int:=0)(e f:Nat:=0)(g:Int:=0)(h i:Nat:=0)(j:Int:=0)(k l m:Nat:=0)(n:List Value:=[])(p r s t u w x y:Nat:=0)
abbrev Vi:=J.V [(v.c,gJ v.W_),(v.W_,ins 464 v.wd),(v.kl,lst v.ks v.ek),(v.va,lst v.vs v.ev),(v.nu,lst v.ns v.en),(v.fo,lst v.os v.eo)]
def s0:Sg:=⟨Vi J v,(dg 122130003000300003401008818300013000330411830001301303000304448300013000330422130001300033042660),.T (uJ J.P v.it v.fr v.c) (Ms J.P v.it v.fr v.c (.int v.p v.tp)),[(v.fr,ai ((n_ J v.t0 v.nu v.t1 v.va v.t2 v.re [er J cT v.t3 v.kl,er J gw v.t4 v.fo])++pk J z v.t5 v.z5 v.t6 v.z6 v.t7 v.z7) v.fe),(v.wd,mO J.P v.k v.l v.tl),(v.k.TT,dct v.ts v.et)],v.n,v.tk,[2],.call (blt "dict.__setitem__" [.ref v.k.TT,.int (v.l+1) (v.tk+4),.str iO (v.tk+9)]) [(v.k.TT,dct v.ts v.et)] (v.n+1)⟩
def s1:Sg:=.U (Vi J v) (dg 10229990) (s0 J z v) .none 2 (dct a b) (v.n+1) c [] (nW v.nu v.p v.tp (v.n+1))
def s2:Sg:=.N (Vi J v) (dg 10225550) (s1 J z v a b c) (.int d e) (v.n+1) f [] (nW v.kl v.p v.tp (v.n+1))
def s3:Sg:=.N (Vi J v) (dx 0x1001001010001000000010000000000000c0c0000100eeee1eec000001c01c0c00000c0aaa001001010001000000010000000000000f20f20000100f3f3f3f3f3f31f3f3f2000001f201f20f200000f20f1f1f1f3f3f2000001f201f20f200000f20f1f1f122002225550) (s2 J z v a b c d e f) (.int g h) (v.n+1) i [] (nW v.kl v.p v.tp (v.n+7))
def s4:Sg:=.N (Vi J v) (dx 0x111022f5bf50) (s3 J z v a b c d e f g h i) (.int j k) (v.n+7) l [11] (.call (iA (v.n+8) v.fo) [(v.n+8,jt (v.n+5))] (v.n+9))
def s5:Sg:=.A (Vi J v) [0,0] (s4 J z v a b c d e f g h i j k l) (.ref m) [(m,lst n 0)] p r [12] (.call (iy 367 m) [(m,lst n 0)] p)
def s6:Sg:=.N (Vi J v) (dx 0x1001001010001000000010000000000000f80f80000100f9f9f9f9f9f9f9f9f9f91f9f9f8000001f801f80f800000f80f7f7f7f9f9f8000001f801f80f800000f80f7f7f7f9f9f8000001f801f80f800000f80f7f7f7f9f9f8000001f801f80f800000f80f7f7f7227770) (s5 J z v a b c d e f g h i j k l m n p r) (.ref s) t u [] (nW v.va v.p v.tp (t+3))
def s7:Sg:=.N (Vi J v) (dx 0x1001001010001000000010000000000000fc0fc0000100fdfdfdfdfdfd1fdfdfc000001fc01fc0fc00000fc0fbfbfbfdfdfc000001fc01fc0fc00000fc0fbfbfb220) (s6 J z v a b c d e f g h i j k l m n p r s t u) (.ref w) x y [0,1,4,5,7,8,10,13,14,16,17,18,20,12,2] (.again (uJ J.P v.it v.fr v.c) [(v.fr,ai (n_ J v.t0 v.nu v.t1 v.va v.t2 v.re [er J cT v.t3 v.kl,er J gw v.t4 (x+4),ei J fZ (fi z v.t5 v.tk) v.p v.tp,ei J jW (fi z v.t6 (v.tk+8)) (v.l+1) (v.tk+4),er J CA (fi z v.t7 (i+11)) (v.n+5)]) (fi z v.fe (v.fe+3))),(v.wd,T2 J v.k.w1 v.k.TB v.k.w2 (v.l+1) (v.tk+4) v.k.w3 v.k.TT v.k.w4 v.k.OP v.k.w5 v.k.ew),(v.n+1,dct [fK J (i+3) g h] 1),(v.n+2,ins 85 (v.n+1)),(v.n+4,dct [fK J (i+8) d e,iP J (i+10) (v.n+2)] 2),(v.n+5,ins 137 (v.n+4)),(v.n+7,lst [.int j k] 0),(t,dct [ei J jW (u+6) (v.l+1) (v.tk+4),er J p9 (u+8) (v.n+7),ei J iz (u+10) (-1) (l+1),er J iO (u+12) s] 4),(t+1,ins 184 t),(x,jt w),(x+1,lX J (y+4) (t+1) (y+6) x 2),(x+2,ins 217 (x+1)),(x+4,jt (x+2)),(m,lst n 0),(v.k.TT,dct a b)] (x+5))
example(z v):#[3,6,9,12,15,19,22,(s7 J z v a b c d e f g h i j k l m n p r s t u w x y)]:=by cases z<;>trivial
end kO
namespace BN
section
variable(J:WX)(v:Vv)
def s0:Sg:=⟨J.V [],(dg 100220),.C (iy 532 v.a),[],v.b,v.c,[0,1,2,3,4],.again (.func (bodyOf (mY J.P)) (cA J v.b (v.b+1) (v.b+2) (v.b+3) (v.b+4))) [(v.b,jX J v.c v.a 1),(v.b+1,fQ),(v.b+2,fQ),(v.b+3,fQ),(v.b+4,fQ)] (v.b+5)⟩
example(v):[(s0 J v)]:=by trivial
end BN
namespace s0
section
variable(J:WX)(v:Vv)(a b c:Nat:=0)
def s0:Sg:=⟨J.V [],[0,2,0,0],.tb [aF J.P 0] (cA J v.a v.e v.f v.g v.h),[(v.a,jX J v.c v.d v.b),(v.e,fQ),(v.f,fQ)],v.i,v.j,[0,1,2],.call (iy 473 v.d) [(v.a,jX J v.c v.d v.b),(v.e,fQ),(v.f,fQ)] v.i⟩
def s1:Sg:=.N (J.V []) (dx 0x100010010100010000000100000000a0a0000100cc100010010100010000000100000000f10f10000100f2f21f2f10001f101f10f1000f10eeef2f10001f101f10f1000f10eeeca0001a01a0a000a0888ca0001a01a0a000a0888ca0001a01a0a000a0888ca0001a01a0a000a0888ca0001a01a0a000a0888f7f7f71f71f8f81f81f8f8f7f8f8f81f81f8f8f7f8f8f81f81f8f8f7f8f8fa4466) (s0 J v) (.ref a) b c [0,1,2,3,4,11] (.fin (.ok Flow.next) [(v.a,jX J v.c v.d v.b),(v.e,gJ a),(v.f,gJ (b+1)),(b,T2 J (c+7) (b+4) (c+10) 0 (c+8) (c+12) (b+8) (c+14) (b+9) (c+16) 5),(b+1,ins 464 b),(b+8,dct [] 0)] (b+14))
example(v):#[2,s1 J v a b c]:=by trivial
end s0
namespace s1
section
variable(J:WX)(v:Vv)(a:Int:=0)(b c d:Nat:=0)
abbrev Vi:=J.V [(v.e,gJ v.i)]
def s0:Sg:=⟨Vi J v,[0,1,0,0],.tb [aF J.P 1] (cA J v.a v.e v.f v.g v.h),[(v.a,jX J v.c v.d v.b)],v.j,v.k,[0],.call (aK 480 [.ref v.i,.int 4 (v.k+1)]) [(v.a,jX J v.c v.d v.b)] v.j⟩
def s1:Sg:=.N (Vi J v) [1,1,2,2] (s0 J v) (.int a b) c d [0] (.fin (.ok Flow.next) [(v.a,ai [er J fJ v.c v.d,ei J cG (d+1) (1+a) d] (v.b+1))] c)
example(v):#[2,s1 J v a b c d]:=by trivial
end s1
namespace cJ
section
variable(J:WX)(v:Vv)(a b c:Nat:=0)(d:Int:=0)(e:Nat:=0)(f:List Value:=[])(g h:Nat:=0)(i:Value:=.none)(j k l m n p:Nat:=0)
abbrev Vi:=J.V [(v.p,dct [er J cT v.u v.w,er J iL v.v v.x] v.y),(v.w,dct v.e0 v.z)]
def s0:Sg:=⟨Vi J v,(dg 10021110),.tb [aF J.P 11] (cA J v.a v.q v.r v.s v.t),[(v.a,cW J v.c v.d v.e v.i0 v.f v.g v.h v.i v.j v.k v.l v.m v.n v.o v.p v.b)],v.A,v.B,[0],.call (blt "dict.__getitem__" [.ref v.p,.str cT v.B]) [(v.a,cW J v.c v.d v.e v.i0 v.f v.g v.h v.i v.j v.k v.l v.m v.n v.o v.p v.b)] v.A⟩
def s1:Sg:=.N (Vi J v) [3,3,0] (s0 J v) (.ref v.w) v.A a [0] (.call (blt "dict.__iter__" [.ref v.w]) [(v.a,cW J v.c v.d v.e v.i0 v.f v.g v.h v.i v.j v.k v.l v.m v.n v.o v.p v.b)] v.A)
def s2:Sg:=.A (Vi J v) [4,0] (s1 J v a) (.ref b) [(b,⟨.type "dict_keyiterator",none,.fields ⟨[.ref v.w,rawInt 0,rawInt d,rawInt v.z]⟩,#[]⟩)] c e [0,1,2,3] (.call (.compStart (dY (mV J.P)) 0 (.ref b) (.ref c) (yT J v.t (c+1) v.a)) [(v.a,cW J v.c v.d v.e v.i0 v.f v.g v.h v.i v.j v.k v.l v.m v.n v.o v.p v.b),(b,⟨.type "dict_keyiterator",none,.fields ⟨[.ref v.w,.int 0 0,.int d 0,(.int ((v.z:Nat):Int) 0)]⟩,#[]⟩),(c,lst [] 0),(c+1,dct [] 0)] (c+2))
def s3:Sg:=⟨Vi J v,[6,6,6,0],eV (s2 J v a b c d e),[(v.a,cW J v.c v.d v.e v.i0 v.f v.g v.h v.i v.j v.k v.l v.m v.n v.o v.p v.b),(c,lst f g),(c+1,dct [ent J.P cE h i] j)],k,l,[0,1],.call (.call (.type "dict") ⟨[.ref c],[]⟩) [(v.a,cW J v.c v.d v.e v.i0 v.f v.g v.h v.i v.j v.k v.l v.m v.n v.o v.p v.b),(c,lst f g)] k⟩
def s4:Sg:=.N (Vi J v) [2,2] (s3 J v a b c d e f g h i j k l) (.ref m) n p [0] (.fin (.ok Flow.next) [(v.a,fM J v.c v.d v.e v.i0 v.f v.g v.h v.i v.j v.k v.l v.m v.n v.o v.p p m (v.b+1))] n)
def CB:Sg:=⟨Vi J v,[6,0],eV (s2 J v a b c d e),[(v.a,cW J v.c v.d v.e v.i0 v.f v.g v.h v.i v.j v.k v.l v.m v.n v.o v.p v.b),(c,lst f g),(c+1,dct [] j)],k,l,[0,1],.call (.call (.type "dict") ⟨[.ref c],[]⟩) [(v.a,cW J v.c v.d v.e v.i0 v.f v.g v.h v.i v.j v.k v.l v.m v.n v.o v.p v.b),(c,lst f g)] k⟩
def Ht:Sg:=.N (Vi J v) [2,2] (CB J v a b c d e f g j k l) (.ref m) n p [0] (.fin (.ok Flow.next) [(v.a,fM J v.c v.d v.e v.i0 v.f v.g v.h v.i v.j v.k v.l v.m v.n v.o v.p p m (v.b+1))] n)
def L:List Sg:=[s0 J v,s1 J v a,s2 J v a b c d e,s3 J v a b c d e f g h i j k l,s4 J v a b c d e f g h i j k l m n p]
def Le:List Sg:=[s0 J v,s1 J v a,s2 J v a b c d e,CB J v a b c d e f g j k l,Ht J v a b c d e f g j k l m n p]
theorem all:CK J (L J v a b c d e f g h i j k l m n p):=by trivial
theorem Hu:CK J (Le J v a b c d e f g j k l m n p):=by trivial
end
theorem b0(v):OT J (s0 J v):=(all J v).t 0
theorem b1:OB J (s1 J v a):=(all J v a).b 1
theorem b2:OB J (s2 J v a b c d e):=(all J v a b c d e).b 2
theorem b3:OB J (s3 J v a b c d e f g h i j k l):=(all J v a b c d e f g h i j k l).b 3
theorem b4:OB J (s4 J v a b c d e f g h i j k l m n p):=(all J v a b c d e f g h i j k l m n p).b 4
theorem Ry:OB J (CB J v a b c d e f g j k l):=(Hu J v a b c d e f g j k l).b 3
theorem Rz:OB J (Ht J v a b c d e f g j k l m n p):=(Hu J v a b c d e f g j k l m n p).b 4
end cJ
namespace s2
section
variable(J:WX)(v:Vv)(a b c d:Nat:=0)(e:Value:=.none)(f g h:Nat:=0)
def s0:Sg:=⟨J.V [],(dg 10021111441414440),.tb [aF J.P 2] (cA J v.a v.g v.h v.i v.j),[(v.a,ai [er J fJ v.c v.d,ei J cG v.e v.i0 v.f] v.b)],v.k,v.l,[0,1],.call (blt "range.__iter__" [.ref v.k]) [(v.a,ai [er J fJ v.c v.d,ei J cG v.e v.i0 v.f] v.b),(v.k,⟨.type "range",none,.fields ⟨[.int 0 v.l,.int v.i0 v.f,.int 1 (v.l+1)]⟩,#[]⟩)] (v.k+1)⟩
def s1:Sg:=.A (J.V []) [6,0] (s0 J v) (.ref a) [(a,⟨.type "range_iterator",none,.fields ⟨[rawInt 0,rawInt v.i0,rawInt 1]⟩,#[]⟩)] b c [0,2,3,4] (.call (.compStart (dY (jy J.P)) 0 (.ref a) (.ref b) (bF J.P (jy J.P) [(gz,v.h)] (b+1) v.a)) [(v.a,ai [er J fJ v.c v.d,ei J cG v.e v.i0 v.f] v.b),(a,⟨.type "range_iterator",none,.fields ⟨[.int 0 0,.int v.i0 0,.int 1 0]⟩,#[]⟩),(b,lst [] 0),(b+1,dct [] 0)] (b+2))
def s2:Sg:=⟨J.V [],(dg 122444),eV (s1 J v a b c),[(v.a,ai [er J fJ v.c v.d,ei J cG v.e v.i0 v.f] v.b),(b+1,dct [ent J.P cE d e] f)],g,h,[0],.fin (.ok Flow.next) [(v.a,ai (gf J v.c v.d v.e v.i0 v.f [eX J h b]) (v.b+1))] g⟩
example(v):#[2,5,s2 J v a b c d e f g h]:=by trivial
end s2
namespace s3
section
variable(J:WX)(v:Vv)(a b c d:Nat:=0)(e:Value:=.none)(f g h:Nat:=0)
def s0:Sg:=⟨J.V [],(dg 10021111661616660),.tb [aF J.P 3] (cA J v.a v.i v.j v.k v.l),[(v.a,ai (gf J v.c v.d v.e v.i0 v.f [eX J v.g v.h]) v.b),(v.k,fQ)],v.m,v.n,[0,1,2],.call (blt "range.__iter__" [.ref v.m]) [(v.a,ai (gf J v.c v.d v.e v.i0 v.f [eX J v.g v.h]) v.b),(v.k,fQ),(v.m,⟨.type "range",none,.fields ⟨[.int 0 v.n,.int v.i0 v.f,.int 1 (v.n+1)]⟩,#[]⟩)] (v.m+1)⟩
def s1:Sg:=.A (J.V []) [8,0] (s0 J v) (.ref a) [(a,⟨.type "range_iterator",none,.fields ⟨[rawInt 0,rawInt v.i0,rawInt 1]⟩,#[]⟩)] b c [0,1,3,4,5] (.call (.compStart (dY (mR J.P)) 0 (.ref a) (.ref b) (yV J v.j v.i (b+1) v.a)) [(v.a,ai (gf J v.c v.d v.e v.i0 v.f [eX J v.g v.h]) v.b),(v.k,fQ),(a,⟨.type "range_iterator",none,.fields ⟨[.int 0 0,.int v.i0 0,.int 1 0]⟩,#[]⟩),(b,lst [] 0),(b+1,dct [] 0)] (b+2))
def s2:Sg:=⟨J.V [],(dg 166644),eV (s1 J v a b c),[(v.a,ai (gf J v.c v.d v.e v.i0 v.f [eX J v.g v.h]) v.b),(v.k,fQ),(b+1,dct [ent J.P cE d e] f)],g,h,[0,1],.fin (.ok Flow.next) [(v.a,ai (gf J v.c v.d v.e v.i0 v.f [eX J v.g v.h]) v.b),(v.k,bL (Value.ref b))] g⟩
example(v):#[2,5,s2 J v a b c d e f g h]:=by trivial
end s3
namespace s4
section
variable(J:WX)(v:Vv)(a:Nat:=0)(b:Value:=.none)(c d e:Nat:=0)
abbrev Vi:=J.V [(v.k,gJ v.m),(v.m,lst v.l0 v.n)]
def s0:Sg:=⟨Vi J v,(dg 113313160),.tb [aF J.P 4] (cA J v.a v.i v.j v.k v.l),[(v.a,ai (gf J v.c v.d v.e v.i0 v.f [eX J v.g v.h]) v.b),(v.l,fQ)],v.o,v.p,[0,1,2,3,4],.call (.compStart (dY (jD J.P)) 0 (.ref v.o) (.ref (v.o+1)) (bF J.P (jD J.P) [] (v.o+2) v.a)) [(v.a,ai (gf J v.c v.d v.e v.i0 v.f [eX J v.g v.h]) v.b),(v.l,fQ),(v.o,⟨.type "list_iterator",none,dP v.m,#[]⟩),(v.o+1,lst [] 0),(v.o+2,dct [] 0)] (v.o+3)⟩
def s1:Sg:=⟨Vi J v,(dg 166644),eV (s0 J v),[(v.a,ai (gf J v.c v.d v.e v.i0 v.f [eX J v.g v.h]) v.b),(v.l,fQ),(v.o+2,dct [ent J.P jd a b] c)],d,e,[0,1],.fin (.ok Flow.next) [(v.a,ai (gf J v.c v.d v.e v.i0 v.f [eX J v.g v.h]) v.b),(v.l,bL (Value.ref (v.o+1)))] d⟩
example(v):#[2,s1 J v a b c d e]:=by trivial
end s4
namespace s5
section
variable(J:WX)(v:Vv)(a:Nat:=0)(b:Value:=.none)(c d e:Nat:=0)
abbrev Vi:=J.V [(v.h,lst v.l0 v.m)]
def s0:Sg:=⟨Vi J v,(dx 0x1000010010100010000000100000000000006060000100888818860000016016060000060444211111a0),.tb [aF J.P 5] (cA J v.a v.i v.j v.k v.l),[(v.a,ai (gf J v.c v.d v.e v.i0 v.f [eX J v.g v.h]) v.b)],v.n,v.o,[0,1,2,4,5,6],.call (.compStart (dY (jz J.P)) 0 (.ref (v.n+3)) (.ref (v.n+4)) (bF J.P (jz J.P) [] (v.n+5) v.a)) [(v.a,ai (gf J v.c v.d v.e v.i0 v.f [eX J v.g v.h]) v.b),(v.n,dct [ei J qe (v.o+4) 2 v.o] 1),(v.n+1,ins 104 v.n),(v.n+3,⟨.type "list_iterator",none,dP v.h,#[]⟩),(v.n+4,lst [] 0),(v.n+5,dct [] 0)] (v.n+6)⟩
def s1:Sg:=⟨Vi J v,(dx 0x14440010010100010000000100000000000008080000100aaaaaa1aa80000018018080000080666aa8000001801808000008066622),eV (s0 J v),[(v.a,ai (gf J v.c v.d v.e v.i0 v.f [eX J v.g v.h]) v.b),(v.n+5,dct [nX J a b] c)],d,e,[0,2,3],.fin (.ok Flow.next) [(v.a,ai (gf J v.c v.d v.e v.i0 v.f [eX J v.g v.h,er J jo (e+7) (d+1)]) (v.b+1)),(d,lX J (e+4) (v.n+1) (e+6) (v.n+4) 2),(d+1,ins 217 d)] (d+3)⟩
example(v):#[2,s1 J v a b c d e]:=by trivial
end s5
namespace s6
section
variable(J:WX)(v:Vv)(a:Nat:=0)(b:Value:=.none)(c d e:Nat:=0)
abbrev Vi:=J.V [(v.h,lst v.l0 v.o)]
def s0:Sg:=⟨Vi J v,(dg 121111140),.tb [aF J.P 6] (cA J v.a v.k v.l v.m v.n),[(v.a,ai (gf J v.c v.d v.e v.i0 v.f [eX J v.g v.h,er J jo v.i v.j]) v.b)],v.p,v.q,[0,1,2,3],.call (.compStart (dY (jA J.P)) 0 (.ref v.p) (.ref (v.p+1)) (bF J.P (jA J.P) [] (v.p+2) v.a)) [(v.a,ai (gf J v.c v.d v.e v.i0 v.f [eX J v.g v.h,er J jo v.i v.j]) v.b),(v.p,⟨.type "list_iterator",none,dP v.h,#[]⟩),(v.p+1,lst [] 0),(v.p+2,dct [] 0)] (v.p+3)⟩
def s1:Sg:=⟨Vi J v,(dg 122444),eV (s0 J v),[(v.a,ai (gf J v.c v.d v.e v.i0 v.f [eX J v.g v.h,er J jo v.i v.j]) v.b),(v.p+2,dct [nX J a b] c)],d,e,[0],.fin (.ok Flow.next) [(v.a,oh J v.c v.d v.e v.i0 v.f v.g v.h v.i v.j e (v.p+1) (v.b+1))] d⟩
example(v):#[2,s1 J v a b c d e]:=by trivial
end s6
namespace s7
structure A where
 (fr fe t0 sc t1:Nat)(m:Int)(tm t2 nu t3 sh t4 sp cd cw cp cf W_ wd:Nat)(c:Wc)(l:Int)(tl pl:Nat)(ps:List Value)(ep:Nat)(ss:List Value)(es n tk:Nat)
section
variable(J:WX)(v:A)(a:Int:=0)(b:Nat:=0)(c:List Value:=[])(d e:Nat:=0)(f:Value:=.none)(g h i j:Nat:=0)(k:List Value:=[])(l m n:Nat:=0)(p:List Value:=[])(r s t u w x:Nat:=0)(y:Int:=0)(z B C:Nat:=0)
abbrev Vi:=J.V [(v.cw,gJ v.W_),(v.W_,ins 464 v.wd),(v.cp,gJ v.pl),(v.pl,lst v.ps v.ep),(v.sp,lst v.ss v.es)]
def s0:Sg:=⟨Vi J v,(dg 1011300030003000034010066163000130003304116300013013030003044463000130003304257717180),.tb [aF J.P 7] (cA J v.fr v.cd v.cw v.cp v.cf),[(v.fr,oh J v.t0 v.sc v.t1 v.m v.tm v.t2 v.nu v.t3 v.sh v.t4 v.sp v.fe),(v.wd,mO J.P v.c v.l v.tl)],v.n,v.tk,[0,1,3,4,5],.call (.compStart (dY (jF J.P)) 0 (.ref (v.n+1)) (.ref (v.n+2)) (bF J.P (jF J.P) [] (v.n+3) v.fr)) [(v.fr,oh J v.t0 v.sc v.t1 v.m v.tm v.t2 v.nu v.t3 v.sh v.t4 v.sp v.fe),(v.wd,T2 J v.c.w1 v.c.TB v.c.w2 (v.l+1) (v.tk+3) v.c.w3 v.c.TT v.c.w4 v.c.OP v.c.w5 v.c.ew),(v.n+1,⟨.type "list_iterator",none,dP v.pl,#[]⟩),(v.n+2,lst [] 0),(v.n+3,dct [] 0)] (v.n+4)⟩
def s1:Sg:=⟨Vi J v,(dx 0x188826a60),eV (s0 J v),[(v.fr,oh J v.t0 v.sc v.t1 v.m v.tm v.t2 v.nu v.t3 v.sh v.t4 v.sp v.fe),(v.wd,mO J.P v.c a b),(v.n+2,lst c d),(v.n+3,dct [ent J.P jd e f] g)],h,i,[0,1,2,4],.call (iA (v.n+2) h) [(v.fr,oh J v.t0 v.sc v.t1 v.m v.tm v.t2 v.nu v.t3 v.sh v.t4 v.sp v.fe),(v.wd,T2 J v.c.w1 v.c.TB v.c.w2 a b v.c.w3 v.c.TT v.c.w4 v.c.OP v.c.w5 v.c.ew),(v.n+2,lst c d),(h,jt v.sh)] (h+1)⟩
def s2:Sg:=.A (Vi J v) [2,12,9,12,0] (s1 J v a b c d e f g h i) (.ref j) [(j,lst k 0)] l m [0,5] (.call (iA j v.sp) [(v.fr,oh J v.t0 v.sc v.t1 v.m v.tm v.t2 v.nu v.t3 v.sh v.t4 v.sp v.fe),(j,lst k 0)] l)
def s3:Sg:=.A (Vi J v) (dx 0x10001001010001000000010000000000000f20f20000100f3f3f3f31f3f3f2000001f201f20f200000f20f1f1f1ef4e0) (s2 J v a b c d e f g h i j k l m) (.ref n) [(n,lst p 0)] r s [0,6,7,8,9,10] (.call (iA n (r+3)) [(v.fr,oh J v.t0 v.sc v.t1 v.m v.tm v.t2 v.nu v.t3 v.sh v.t4 v.sp v.fe),(n,lst p 0),(r,dct [ei J aX (s+4) 5 s] 1),(r+1,ins 66 r),(r+2,ai [er J kK (s+1) (r+1),ei J aX (s+2) 5 s] 2),(r+3,jt (r+1))] (r+4))
def s4:Sg:=.N (Vi J v) [0,0] (s3 J v a b c d e f g h i j k l m n p r s) (.ref t) u w [0,1,7,8] (.call (aK 384 [.ref v.W_,.int (v.l+1) (v.tk+3),.ref v.nu,.ref t]) [(v.fr,oh J v.t0 v.sc v.t1 v.m v.tm v.t2 v.nu v.t3 v.sh v.t4 v.sp v.fe),(v.wd,T2 J v.c.w1 v.c.TB v.c.w2 a b v.c.w3 v.c.TT v.c.w4 v.c.OP v.c.w5 v.c.ew),(r,dct [ei J aX (s+4) 5 s] 1),(r+1,ins 66 r)] u)
def s5:Sg:=⟨Vi J v,[2,2],.B (s4 J v a b c d e f g h i j k l m n p r s t u w).r (bN x),[(v.fr,oh J v.t0 v.sc v.t1 v.m v.tm v.t2 v.nu v.t3 v.sh v.t4 v.sp v.fe),(v.wd,mO J.P v.c y z)],B,C,[0,1],.fin (.ok Flow.next) [(v.fr,ai (gf J v.t0 v.sc v.t1 v.m v.tm [eX J v.t2 v.nu,er J jo v.t3 v.sh,er J pZ v.t4 v.sp,er J fq C x]) (v.fe+1)),(v.wd,T2 J v.c.w1 v.c.TB v.c.w2 y z v.c.w3 v.c.TT v.c.w4 v.c.OP v.c.w5 v.c.ew)] B⟩
example(v):#[2,11,15,19,22,s5 J v a b c d e f g h i j k l m n p r s t u w x y z B C]:=by trivial
end s7
namespace s8
section
variable(J:WX)(v:Vv)
def s0:Sg:=⟨J.V [],(dg 111444411444422),.tb [aF J.P 8] (cA J v.a v.o v.p v.q v.r),[(v.a,ai (gf J v.c v.d v.e v.i0 v.f [eX J v.g v.h,er J jo v.i v.j,er J pZ v.k v.l,er J fq v.m v.n]) v.b)],v.s,v.t,[0,1,2,3],.fin (.ok Flow.next) [(v.a,cW J v.c v.d v.e v.i0 v.f v.g v.h v.i v.j v.k v.l v.m v.n (v.t+4) v.s (v.b+1)),(v.s,dct [er J cT v.t (v.s+1),er J iL (v.t+1) (v.s+2)] 2),(v.s+1,dct [] 0),(v.s+2,lst [] 0)] (v.s+3)⟩
example(v):#[s0 J v]:=by trivial
end s8
namespace CC
section
variable(J:WX)(v:Vv)(a:Nat:=0)
abbrev Vi:=J.V [(v.a,lst v.l0 v.d),(v.b,ua v.e v.g v.f v.c),(v.f,lst [] v.i),(v.g,lst (.ref v.h::v.l1) v.j)]
def s0:Sg:=⟨Vi J v,(dg 1002212111110),.C (iy 499 v.a),[],v.k,v.l,[],.call (blt "list.__getitem__" [.ref v.a,.int (-1) (v.l+2)]) [] (v.k+1)⟩
def s1:Sg:=.N (Vi J v) (dg 1222333131311233313131123331313002333131311515157771717123331313) (s0 J v) (.ref v.b) (v.k+1) a [1] (.fin (bN (v.k+1)) [(v.k+1,kI v.h v.c)] (v.k+2))
example(v):[2,s1 J v a]:=by trivial
end CC
namespace CD
section
variable(J:WX)(v:Vv)(a:Nat:=0)
abbrev Vi:=J.V [(v.a,lst v.l0 v.d),(v.b,tup [.str lU v.e,.ref v.f,.ref v.g,.ref v.c])]
def s0:Sg:=⟨Vi J v,(dg 1002212111110),.C (iy 499 v.a),[],v.h,v.i,[],.call (blt "list.__getitem__" [.ref v.a,.int (-1) (v.i+2)]) [] (v.h+1)⟩
def s1:Sg:=.N (Vi J v) (dg 12223331313112333131323331313) (s0 J v) (.ref v.b) (v.h+1) a [1] (.fin (bN (v.h+1)) [(v.h+1,kI v.g v.c)] (v.h+2))
example(v):[2,s1 J v a]:=by trivial
end CD
namespace CE
section
variable(J:WX)(v:Vv)(a:Nat:=0)
abbrev Vi:=J.V [(v.a,lst v.l0 v.d),(v.b,t_ v.e v.f 0 v.g v.c),(v.f,lst (.ref v.h::v.l1) v.i)]
def s0:Sg:=⟨Vi J v,(dg 1002212111110),.C (iy 499 v.a),[],v.j,v.k,[],.call (blt "list.__getitem__" [.ref v.a,.int (-1) (v.k+2)]) [] (v.j+1)⟩
def s1:Sg:=.N (Vi J v) (dg 1222333131311233313131123331313233313135551515123331313) (s0 J v) (.ref v.b) (v.j+1) a [1] (.fin (bN (v.j+1)) [(v.j+1,kI v.h v.c)] (v.j+2))
example(v):[2,s1 J v a]:=by trivial
end CE
namespace Hv
section
variable(J:WX)(v:Vv)
abbrev Vi:=J.V [(v.a,ins 66 v.b),(v.b,dct [ei J aX v.f v.i0 v.g] v.c)]
def s0:Sg:=⟨Vi J v,(dg 100222222100201111210000011000001103),.C (mq 492 v.a v.d v.e),[],v.h,v.i,[],.fin (rt (.int v.i0 v.g)) [] (v.h+1)⟩
example(v):[s0 J v]:=by trivial
end Hv
namespace Hw
section
variable(J:WX)(v:Vv)
abbrev Vi:=J.V [(v.a,ins 66 v.b),(v.b,dct [iP J v.f v.g] v.c)]
def s0:Sg:=⟨Vi J v,(dg 100222222100201111210000011000001103),.C (mq 492 v.a v.d v.e),[],v.h,v.i,[],.fin (bN v.g) [] (v.h+1)⟩
example(v):[s0 J v]:=by trivial
end Hw
namespace Hx
section
variable(J:WX)(v:Vv)
abbrev Vi:=J.V [(v.a,ins 104 v.b),(v.b,dct [ei J qe v.f v.i0 v.g] v.c)]
def s0:Sg:=⟨Vi J v,(dg 1002222221002011110010100000110000000000111011000020111100101000001100000000001110110000201111210000011000001103),.C (mq 492 v.a v.d v.e),[],v.h,v.i,[1],.fin (bN (v.h+1)) [(v.h+1,tup [.str kJ (v.i+5),.int v.i0 v.g])] (v.h+2)⟩
example(v):[s0 J v]:=by trivial
end Hx
namespace Hy
section
variable(J:WX)(v:Vv)
abbrev Vi:=tZ J v.a 184 v.b
def s0:Sg:=⟨Vi J v,(dg 10022222210020111100101000001100000000001110110000201111001010000011000000000011101100002011110010100000110000000000111011000020111122),.C (mq 492 v.a v.c v.d),[],v.e,v.f,[1],.fin (bN (v.e+1)) [(v.e+1,tup [.str fk (v.f+6),.ref v.a,.ref v.c])] (v.e+2)⟩
example(v):[s0 J v]:=by trivial
end Hy
namespace CF
section
variable(J:WX)(v:Vv)(a:Nat:=0)
abbrev Vi:=J.V [(v.a,ins 85 v.b),(v.b,dct [fK J v.f v.i0 v.g] v.c),(v.d,dct v.e0 v.h),(v.i,lst [.int v.i1 v.k] v.j)]
def s0:Sg:=⟨Vi J v,(dg 1002222221002011110010100000110000000000111011000020111122100000110000011035550),.C (mq 492 v.a v.d v.e),[],v.l,v.m,[],.call (blt "dict.__getitem__" [.ref v.d,.int v.i0 v.g]) [] (v.l+1)⟩
def s1:Sg:=.N (Vi J v) (dg 177717171) (s0 J v) (.ref v.i) (v.l+1) a [] (.fin (rt (.int v.i1 v.k)) [] (v.l+1))
example(v):[2,s1 J v a]:=by trivial
end CF
namespace CG
section
variable(J:WX)(v:Vv)(a:Nat:=0)
abbrev Vi:=J.V [(v.a,ins 85 v.b),(v.b,dct [fK J v.f v.i0 v.g] v.c),(v.d,dct v.e0 v.h),(v.i,lst [.ref v.k] v.j)]
def s0:Sg:=⟨Vi J v,(dg 1002222221002011110010100000110000000000111011000020111122100000110000011035550),.C (mq 492 v.a v.d v.e),[],v.l,v.m,[],.call (blt "dict.__getitem__" [.ref v.d,.int v.i0 v.g]) [] (v.l+1)⟩
def s1:Sg:=.N (Vi J v) (dg 177717171) (s0 J v) (.ref v.i) (v.l+1) a [] (.fin (bN v.k) [] (v.l+1))
example(v):[2,s1 J v a]:=by trivial
end CG
namespace ze
section
variable(J:WX)(v:Vv)(a b c d:Nat:=0)
abbrev Vi:=J.V [(v.a,ins 137 v.b),(v.b,dct [fK J v.f v.i0 v.g,iP J v.h v.i] v.c),(v.d,dct v.e0 v.j)]
def s0:Sg:=⟨Vi J v,(dg 100444444100401111001010000011000000000011101100004011110010100000110000000000111011000040111100101000001100000000001110110000401111001010000011000000000011101100004011114222244100000110000011035550),.C (mq 492 v.a v.d v.e),[(v.e,lst v.l0 v.k)],v.l,v.m,[],.call (blt "dict.__getitem__" [.ref v.d,.int v.i0 v.g]) [] (v.l+1)⟩
def s1:Sg:=.N (Vi J v) (dg 141000001100000110340) (s0 J v) (.ref a) (v.l+1) b [0,2] (.call (blt "list.append" [.ref v.e,.ref (v.l+1)]) [(v.e,lst v.l0 v.k),(v.l+1,tup [.str lU (v.m+7),.ref a,.ref v.i,.ref v.d])] (v.l+2))
def s2:Sg:=.U (Vi J v) [] (s1 J v a b) .none 0 (lst (v.l0++[.ref (v.l+1)]) c) (v.l+2) d [0,2] (.fin (rt .none) [(v.e,lst (v.l0++[Value.ref (v.l+1)]) c),(v.l+1,tup [.str lU (v.m+7),.ref a,.ref v.i,.ref v.d])] (v.l+2))
example(v):[2,4,s2 J v a b c d]:=by trivial
end ze
namespace zg
section
variable(J:WX)(v:Vv)(a b:Nat:=0)(c:List Value:=[])(d e f g:Nat:=0)
abbrev Vi:=J.V [(v.a,ins 250 v.b),(v.b,dct [er J p_ v.f v.g] v.c)]
def s0:Sg:=⟨Vi J v,(dg 100444444100401111001010000011000000000011101100004011110010100000110000000000111011000040111100101000001100000000001110110000401111001010000011000000000011101100004011110010100000110000000000111011000040111142222004100000110000011030),.C (mq 492 v.a v.d v.e),[(v.e,lst v.l0 v.h)],v.i,v.j,[],.call (rH v.g) [] (v.i+1)⟩
def s1:Sg:=.A (Vi J v) [4,0] (s0 J v) (.ref a) [(a,lst c d)] b e [0,3] (.call (blt "list.append" [.ref v.e,.ref b]) [(v.e,lst v.l0 v.h),(b,t_ (v.j+8) a 0 e v.d)] (b+1))
def s2:Sg:=.U (Vi J v) [] (s1 J v a b c d e) .none 0 (lst (v.l0++[.ref b]) f) (b+1) g [0,2,3] (.fin (rt .none) [(v.e,lst (v.l0++[Value.ref b]) f),(a,lst c d),(b,t_ (v.j+8) a 0 e v.d)] (b+1))
example(v):[2,7,s2 J v a b c d e f g]:=by trivial
end zg
namespace vX
section
variable(J:WX)(v:Vv)(a b:Nat:=0)(c:List Value:=[])(d e f g:Nat:=0)(h:List Value:=[])(i j k l:Nat:=0)
abbrev Vi:=J.V [(v.a,ins 217 v.b),(v.b,lX J v.f v.h v.g v.i v.c)]
def s0:Sg:=⟨Vi J v,(dg 100444444100401111001010000011000000000011101100004011110010100000110000000000111011000040111100101000001100000000001110110000401111001010000011000000000011101100004011110010100000110000000000111011000040111100101000001100000000001110110042222410000011000001103004100000110000011030),.C (mq 492 v.a v.d v.e),[(v.e,lst v.l0 v.j)],v.k,v.l,[2],.call (rH v.i) [(v.k+1,jt v.h)] (v.k+2)⟩
def s1:Sg:=.A (Vi J v) [6,8,6,0] (s0 J v) (.ref a) [(a,lst c d)] b e [2,3] (.call (iA (v.k+1) a) [(v.k+1,jt v.h),(a,lst c d)] b)
def s2:Sg:=.A (Vi J v) [4,0] (s1 J v a b c d e) (.ref f) [(f,lst h i)] g j [0,5,6] (.call (blt "list.append" [.ref v.e,.ref (g+1)]) [(v.e,lst v.l0 v.j),(g,lst [] 0),(g+1,ua (v.l+9) f g v.d)] (g+2))
def s3:Sg:=.U (Vi J v) [] (s2 J v a b c d e f g h i j) .none 0 (lst (v.l0++[.ref (g+1)]) k) (g+2) l [0,4,5,6] (.fin (rt .none) [(v.e,lst (v.l0++[Value.ref (g+1)]) k),(f,lst h i),(g,lst [] 0),(g+1,ua (v.l+9) f g v.d)] (g+2))
example(v):[2,7,12,s3 J v a b c d e f g h i j k l]:=by trivial
end vX
namespace yq
section
variable(J:WX)(z:Bool)(v:Vv)(a:Nat:=0)
abbrev Vi:=J.V [(v.C,lst v.l0 v.F)]
def s0:Sg:=⟨Vi J v,(dg 122220),Hz J v.G v.a v.s v.t v.u v.v v.i3 v.H,[(v.a,ai (T0 J v.c v.d v.e v.i0 v.f v.g v.h v.i v.j v.k v.l v.m v.n (T6 J v.o v.p v.q v.r v.w v.y0 v.x v.i1 v.y v.z v.i2 v.A (er J fU v.B v.C::pe J fZ z v.D v.y1))) v.b),(v.r,dct v.e0 v.E)],v.I,v.J,[],vV v.i3 v.H v.i2 v.A v.I⟩
def s1:Sg:=.N (Vi J v) [0] (s0 J z v) (.bool false) v.I a [0,1] (.again (.forLoop (iS (T9 J 3)) (.ref v.G) (cO (T9 J 3)) [] (cA J v.a v.s v.t v.u v.v)) [(v.a,ai (T0 J v.c v.d v.e v.i0 v.f v.g v.h v.i v.j v.k v.l v.m v.n (T6 J v.o v.p v.q v.r v.w v.y0 v.x v.i1 v.y v.z v.i2 v.A [er J fU v.B v.C,ei J fZ (fi z v.D v.J) v.i3 v.H])) (fi z v.b (v.b+1))),(v.r,dct v.e0 v.E)] v.I)
example(z v):#[3,(s1 J z v a)]:=by cases z<;>trivial
end yq
namespace tC
section
variable(J:WX)(z:Bool)(v:Vv)(a b c d:Nat:=0)(e:List DictEntry:=[])(f g:Nat:=0)
abbrev Vi:=J.V [(v.C,lst v.l0 v.F)]
def s0:Sg:=⟨Vi J v,(dg 122220),Hz J v.G v.a v.s v.t v.u v.v v.i3 v.H,[(v.a,ai (T0 J v.c v.d v.e v.i0 v.f v.g v.h v.i v.j v.k v.l v.m v.n (T6 J v.o v.p v.q v.r v.w v.y0 v.x v.i1 v.y v.z v.i2 v.A (er J fU v.B v.C::pe J fZ z v.D v.y1))) v.b),(v.r,dct v.e0 v.E)],v.I,v.J,[],vV v.i3 v.H v.i2 v.A v.I⟩
def s1:Sg:=.N (Vi J v) (dg 1221110) (s0 J z v) (.bool true) v.I a [2] (yU v.C v.I v.i3 v.H (v.I+1))
def s2:Sg:=.N (Vi J v) (dg 122440) (s1 J z v a) (.ref b) c d [1] (.call (Cs v.r v.i3 v.H b) [(v.r,dct v.e0 v.E)] c)
def s3:Sg:=.U (Vi J v) [0] (s2 J z v a b c d) .none 1 (dct e f) c g [0,1] (.again (.forLoop (iS (T9 J 3)) (.ref v.G) (cO (T9 J 3)) [] (cA J v.a v.s v.t v.u v.v)) [(v.a,ai (T0 J v.c v.d v.e v.i0 v.f v.g v.h v.i v.j v.k v.l v.m v.n (T6 J v.o v.p v.q v.r v.w v.y0 v.x v.i1 v.y v.z v.i2 v.A [er J fU v.B v.C,ei J fZ (fi z v.D v.J) v.i3 v.H])) (fi z v.b (v.b+1))),(v.r,dct e f)] c)
example(z v):#[3,4,7,(s3 J z v a b c d e f g)]:=by cases z<;>trivial
end tC
namespace qV
section
variable(J:WX)(z:Bool)(v:Vv)(a:Nat:=0)(b:List Value:=[])(c d e:Nat:=0)(f:Int:=0)(g h i:Nat:=0)(j:Int:=0)(k l m:Nat:=0)(n:Int:=0)(p r:Nat:=0)(s:Int:=0)(t u w:Nat:=0)
abbrev Vi:=J.V [(v.s,gJ v.C)]
def s0:Sg:=⟨Vi J v,[0,0,2,0],.tb [T9 J 0] (cA J v.a v.s v.t v.u v.v),[(v.a,ai (T0 J v.c v.d v.e v.i0 v.f v.g v.h v.i v.j v.k v.l v.m v.n (T1 J v.o v.p::er J rA v.q v.r::ent J.P ji v.w v.y0::p4 J z v.x v.y1 v.y v.y2 v.z v.y3 v.A v.y4)) v.b),(v.r,dct v.e0 v.B)],v.D,v.E,[1],.call (blt "sorted" [.ref v.r]) [(v.r,dct v.e0 v.B)] v.D⟩
def s1:Sg:=.A (Vi J v) (dg 1010020) (s0 J z v) (.ref a) [(a,lst b c)] d e [1] (.call (lZ v.r) [(v.r,dct v.e0 v.B)] d)
def s2:Sg:=.N (Vi J v) [0,0] (s1 J z v a b c d e) (.int f g) h i [] (qf v.C f g h)
def s3:Sg:=.N (Vi J v) [6,6,6,0] (s2 J z v a b c d e f g h i) (.int j k) l m [2] (.call (T8 a j k) [(a,lst b c)] l)
def s4:Sg:=.N (Vi J v) (dg 110100) (s3 J z v a b c d e f g h i j k l m) (.int n p) l r [] (qf v.C 50 (r+1) l)
def s5:Sg:=.N (Vi J v) (dx 0x111888181aa1a1aa8aaa1a1aa8aaa1a1aa8aae2222224440) (s4 J z v a b c d e f g h i j k l m n p r) (.int s t) u w [0,1] (.fin (.ok Flow.next) [(v.a,ai (T0 J v.c v.d v.e v.i0 v.f v.g v.h v.i v.j v.k v.l v.m v.n (T1 J v.o v.p::er J rA v.q v.r::ent J.P ji v.w v.y0::ei J aX (fi z v.x (w+1)) (20+s) w::ei J cE (fi z v.y (w+2)) n p::p2 J z v.z v.y3 v.A v.y4)) (fi z v.b (v.b+2))),(v.r,dct v.e0 v.B)] (u+4))
example(z v):#[3,8,12,16,19,s5 J z v a b c d e f g h i j k l m n p r s t u w]:=by cases z<;>trivial
end qV
namespace cN
section
variable(J:WX)(z:Bool)(v:Vv)(a:Nat:=0)(b:List Value:=[])(c d e:Nat:=0)(f:List Value:=[])(g h i:Nat:=0)(j:List Value:=[])(k l m n p:Nat:=0)
abbrev Vi:=J.V [(v.v,gJ v.E),(v.E,lst v.l0 v.F)]
def s0:Sg:=⟨Vi J v,(dg 1224440),.tb [T9 J 1] (cA J v.a v.s v.t v.u v.v),[(v.a,ai (T0 J v.c v.d v.e v.i0 v.f v.g v.h v.i v.j v.k v.l v.m v.n (T6 J v.o v.p v.q v.r v.w v.y0 v.x v.i1 v.y v.z v.i2 v.A (p2 J z v.B v.y1 v.C v.y2))) v.b),(v.r,dct v.e0 v.D)],v.G,v.H,[1],.call (blt "dict.__getitem__" [.ref v.r,.int v.i2 v.A]) [(v.r,dct v.e0 v.D)] v.G⟩
def s1:Sg:=.A (Vi J v) (dg 126860) (s0 J z v) (.ref a) [(a,lst b c)] v.G d [2,3] (.call (iA a v.G) [(a,lst b c),(v.G,lst [.int v.i1 v.y] 0)] (v.G+1))
def s2:Sg:=.A (Vi J v) (dg 112113330) (s1 J z v a b c d) (.ref e) [(e,lst f 0)] g h [5] (yZ v.E g (v.i2+1) (h+1) (g+1))
def s3:Sg:=.A (Vi J v) [10,14,10,0] (s2 J z v a b c d e f g h) (.ref i) [(i,lst j 0)] k l [4,6] (.call (iA e i) [(e,lst f 0),(i,lst j 0)] k)
def s4:Sg:=.N (Vi J v) [2,2] (s3 J z v a b c d e f g h i j k l) (.ref m) n p [0,1,2] (.fin (.ok Flow.next) [(v.a,ai (T0 J v.c v.d v.e v.i0 v.f v.g v.h v.i v.j v.k v.l v.m v.n (T6 J v.o v.p v.q v.r v.w v.y0 v.x v.i1 v.y v.z v.i2 v.A (er J fU (fi z v.B p) m::pe J fZ z v.C v.y2))) (fi z v.b (v.b+1))),(v.r,dct v.e0 v.D),(a,lst b c)] n)
example(z v):#[3,7,11,15,s4 J z v a b c d e f g h i j k l m n p]:=by cases z<;>trivial
end cN
namespace qY
section
variable(J:WX)(v:Vv)(a b c d e f:Nat:=0)(g:Int:=0)(h i j k:Nat:=0)
abbrev Vi:=J.V [(v.p,dct [er J cT v.D v.F,er J iL v.E v.G] v.H)]
def s0:Sg:=⟨Vi J v,(dg 1020021110),.T (iC J v.a v.s v.t v.u v.v) (pH (pB (bW (aL (T9 J 2)) 0) (cA J v.a v.s v.t v.u v.v) (cL (bW (aL (T9 J 2)) 0) (cA J v.a v.s v.t v.u v.v)))),[(v.a,ai ((T0 J v.c v.d v.e v.i0 v.f v.g v.h v.i v.j v.k v.l v.m v.n (T6 J v.o v.p v.q v.r v.w v.y0 v.x v.i1 v.y v.z v.i2 v.A [er J fU v.B v.C]))++v.e0) v.b),(v.F,dct v.e1 v.I)],v.J,v.K,[1],.call (blt "dict.__getitem__" [.ref v.p,.str cT (v.K+1)]) [(v.F,dct v.e1 v.I)] v.J⟩
def s1:Sg:=.N (Vi J v) (dg 124440) (s0 J v) (.ref v.F) v.J a [1] (.call (blt "dict.__getitem__" [.ref v.F,.int v.i2 v.A]) [(v.F,dct v.e1 v.I)] v.J)
def s2:Sg:=.N (Vi J v) [1,0] (s1 J v a) (.ref b) v.J c [] (.call (rH b) [] v.J)
def s3:Sg:=.N (Vi J v) [2,0,0] (s2 J v a b c) (.ref d) e f [0,1] (.call (aK 513 [.str aX v.K,.int v.i1 v.y,.ref d,.ref v.p]) [(v.a,ai ((T0 J v.c v.d v.e v.i0 v.f v.g v.h v.i v.j v.k v.l v.m v.n (T6 J v.o v.p v.q v.r v.w v.y0 v.x v.i1 v.y v.z v.i2 v.A [er J fU v.B v.C]))++v.e0) v.b),(v.F,dct v.e1 v.I)] e)
def s4:Sg:=⟨Vi J v,[0],.B (s3 J v a b c d e f).r (rt (.int g h)),[(v.a,ai ((T0 J v.c v.d v.e v.i0 v.f v.g v.h v.i v.j v.k v.l v.m v.n (T6 J v.o v.p v.q v.r v.w v.y0 v.x v.i1 v.y v.z v.i2 v.A [er J fU v.B v.C]))++v.e0) v.b)],i,j,[],.call (blt "int.__ne__" [.int g h,.int 5 j]) [] i⟩
def s5:Sg:=.N (Vi J v) [] (s4 J v a b c d e f g h i j) (.bool false) i k [0] (.fin (rt (.bool false)) [(v.a,ai ((T0 J v.c v.d v.e v.i0 v.f v.g v.h v.i v.j v.k v.l v.m v.n (T6 J v.o v.p v.q v.r v.w v.y0 v.x v.i1 v.y v.z v.i2 v.A [er J fU v.B v.C]))++v.e0) v.b)] i)
example(v):#[2,3,5,8,12,s5 J v a b c d e f g h i j k]:=by trivial
end qY
namespace Gd
section
variable(J:WX)(v:Vv)
def s0:Sg:=⟨J.V [],[2],.T (iC J v.a v.s v.t v.u v.v) (d9 (cL (pI (T9 J 3)) (cA J v.a v.s v.t v.u v.v))),[(v.a,ai ((T0 J v.c v.d v.e v.i0 v.f v.g v.h v.i v.j v.k v.l v.m v.n (T6 J v.o v.p v.q v.r v.w v.y0 v.x v.i1 v.y v.z v.i2 v.A [er J fU v.B v.C]))++v.e0) v.b)],v.D,v.E,[0],.fin (bN v.r) [(v.a,ai ((T0 J v.c v.d v.e v.i0 v.f v.g v.h v.i v.j v.k v.l v.m v.n (T6 J v.o v.p v.q v.r v.w v.y0 v.x v.i1 v.y v.z v.i2 v.A [er J fU v.B v.C]))++v.e0) v.b)] v.D⟩
example(v):#[s0 J v]:=by trivial
end Gd
namespace yk
section
variable(J:WX)(v:Vv)(a b c:Nat:=0)
abbrev Vi:=J.V [(v.p,dct [er J cT v.D v.F,er J iL v.E v.G] v.H),(v.G,lst v.l0 v.I)]
def s0:Sg:=⟨Vi J v,(dg 121110),.T (iC J v.a v.s v.t v.u v.v) (d9 (cL (fB (bW (aL (T9 J 2)) 1)) (cA J v.a v.s v.t v.u v.v))),[(v.a,ai ((T0 J v.c v.d v.e v.i0 v.f v.g v.h v.i v.j v.k v.l v.m v.n (T6 J v.o v.p v.q v.r v.w v.y0 v.x v.i1 v.y v.z v.i2 v.A [er J fU v.B v.C]))++v.e0) v.b)],v.J,v.K,[],.call (blt "dict.__getitem__" [.ref v.p,.str iL v.K]) [] v.J⟩
def s1:Sg:=.N (Vi J v) (dg 1113330) (s0 J v) (.ref v.G) v.J a [] (.call (blt "list.__getitem__" [.ref v.G,.int (-1) (a+1)]) [] v.J)
def s2:Sg:=.N (Vi J v) [1] (s1 J v a) (.ref b) v.J c [0] (.fin (bN b) [(v.a,ai ((T0 J v.c v.d v.e v.i0 v.f v.g v.h v.i v.j v.k v.l v.m v.n (T6 J v.o v.p v.q v.r v.w v.y0 v.x v.i1 v.y v.z v.i2 v.A [er J fU v.B v.C]))++v.e0) v.b)] v.J)
example(v):#[2,3,s2 J v a b c]:=by trivial
end yk
namespace FO
section
variable(J:WX)(v:Vv)
def s0:Sg:=⟨J.V [],[2],.T (iC J v.a v.s v.t v.u v.v) (d9 (cL (fC (bW (aL (T9 J 2)) 1)) (cA J v.a v.s v.t v.u v.v))),[(v.a,ai ((T0 J v.c v.d v.e v.i0 v.f v.g v.h v.i v.j v.k v.l v.m v.n (T6 J v.o v.p v.q v.r v.w v.y0 v.x v.i1 v.y v.z v.i2 v.A [er J fU v.B v.C]))++v.e0) v.b)],v.D,v.E,[0],.fin (bN v.C) [(v.a,ai ((T0 J v.c v.d v.e v.i0 v.f v.g v.h v.i v.j v.k v.l v.m v.n (T6 J v.o v.p v.q v.r v.w v.y0 v.x v.i1 v.y v.z v.i2 v.A [er J fU v.B v.C]))++v.e0) v.b)] v.D⟩
example(v):#[s0 J v]:=by trivial
end FO
namespace Gj
section
variable(J:WX)(z:Bool)(v:Vv)
def s0:Sg:=⟨J.V [],[2,2],.T (iC J v.a v.s v.t v.u v.v) (jg (Sem.bind (PySem.W.Fast.tw17772580674575903948 (iS (aF J.P 13)) (cA J v.a v.s v.t v.u v.v) (.int v.i1 v.B)) fun _=>Sem.pure .next)),[(v.a,ai (T0 J v.c v.d v.e v.i0 v.f v.g v.h v.i v.j v.k v.l v.m v.n (T1 J v.o v.p::er J rA v.q v.r::p5 J z v.w v.y0 v.x v.y1 v.y v.y2 v.z v.y3 v.A v.y4)) v.b)],v.C,v.D,[0],.fin (.ok Flow.next) [(v.a,ai (T0 J v.c v.d v.e v.i0 v.f v.g v.h v.i v.j v.k v.l v.m v.n (T1 J v.o v.p::er J rA v.q v.r::ei J ji (fi z v.w v.D) v.i1 v.B::p4 J z v.x v.y1 v.y v.y2 v.z v.y3 v.A v.y4)) (fi z v.b (v.b+1)))] v.C⟩
example(z v):#[s0 J z v]:=by cases z<;>trivial
end Gj
namespace yF
section
variable(J:WX)(v:Vv)(a:Int:=0)(b c d e:Nat:=0)
def s0:Sg:=⟨J.V [],(dg 102200),CH J v.a v.q v.r v.s v.t 10 0,[(v.a,cW J v.c v.d v.e v.i0 v.f v.g v.h v.i v.j v.k v.l v.m v.n v.o v.p v.b)],v.u,v.v,[0,1,2],.call (aK 513 [.ref v.n,.ref v.u,.ref (v.u+1),.ref v.p]) [(v.a,cW J v.c v.d v.e v.i0 v.f v.g v.h v.i v.j v.k v.l v.m v.n v.o v.p v.b),(v.u,dct [] 0),(v.u+1,lst [] 0)] (v.u+2)⟩
def s1:Sg:=⟨J.V [],[0],.B (s0 J v).r (rt (.int a b)),[(v.a,cW J v.c v.d v.e v.i0 v.f v.g v.h v.i v.j v.k v.l v.m v.n v.o v.p v.b)],c,d,[0],.call (blt "int.__ne__" [.int a b,.int 5 d]) [(v.a,cW J v.c v.d v.e v.i0 v.f v.g v.h v.i v.j v.k v.l v.m v.n v.o v.p v.b)] c⟩
def s2:Sg:=.N (J.V []) [] (s1 J v a b c d) (.bool false) c e [0] (.fin (rt (.bool false)) [(v.a,cW J v.c v.d v.e v.i0 v.f v.g v.h v.i v.j v.k v.l v.m v.n v.o v.p v.b)] c)
example(v):#[2,6,s2 J v a b c d e]:=by trivial
end yF
namespace Cf
section
variable(J:WX)(v:Vv)(a:Nat:=0)
abbrev Vi:=J.V [(v.p,dct [er J cT v.u v.w,er J iL v.v v.x] v.y)]
def s0:Sg:=⟨Vi J v,(dg 121110),.T (iC J v.a v.q v.r v.s v.t) (d9 (cL (fB (bW (aL (aF J.P 10)) 1)) (cA J v.a v.q v.r v.s v.t))),[(v.a,cW J v.c v.d v.e v.i0 v.f v.g v.h v.i v.j v.k v.l v.m v.n v.o v.p v.b)],v.z,v.A,[0],.call (blt "dict.__getitem__" [.ref v.p,.str iL v.A]) [(v.a,cW J v.c v.d v.e v.i0 v.f v.g v.h v.i v.j v.k v.l v.m v.n v.o v.p v.b)] v.z⟩
def s1:Sg:=.N (Vi J v) [] (s0 J v) (.ref v.x) v.z a [0] (.fin (bN v.x) [(v.a,cW J v.c v.d v.e v.i0 v.f v.g v.h v.i v.j v.k v.l v.m v.n v.o v.p v.b)] v.z)
example(v):#[2,s1 J v a]:=by trivial
end Cf
namespace GU
section
variable(J:WX)(v:Vv)
abbrev Vi:=J.V [(v.t,gJ v.u)]
def s0:Sg:=⟨Vi J v,[1],.T (iC J v.a v.q v.r v.s v.t) (d9 (cL (fC (bW (aL (aF J.P 10)) 1)) (cA J v.a v.q v.r v.s v.t))),[(v.a,cW J v.c v.d v.e v.i0 v.f v.g v.h v.i v.j v.k v.l v.m v.n v.o v.p v.b)],v.v,v.w,[0,1],.fin (bN v.v) [(v.a,cW J v.c v.d v.e v.i0 v.f v.g v.h v.i v.j v.k v.l v.m v.n v.o v.p v.b),(v.v,jt v.u)] (v.v+1)⟩
example(v):#[s0 J v]:=by trivial
end GU
namespace vK
section
variable(J:WX)(v:Vv)(a b c d:Nat:=0)
abbrev Vi:=J.V [(v.p,dct [er J cT v.w v.y,er J iL v.x v.z] v.A),(v.y,dct v.e0 v.B)]
def s0:Sg:=⟨Vi J v,(dg 10021110),.T (iC J v.a v.s v.t v.u v.v) (d9 (cL (fB (aL (aF J.P 12))) (cA J v.a v.s v.t v.u v.v))),[(v.a,fM J v.c v.d v.e v.i0 v.f v.g v.h v.i v.j v.k v.l v.m v.n v.o v.p v.q v.r v.b)],v.C,v.D,[0],.call (blt "dict.__getitem__" [.ref v.p,.str cT v.D]) [(v.a,fM J v.c v.d v.e v.i0 v.f v.g v.h v.i v.j v.k v.l v.m v.n v.o v.p v.q v.r v.b)] v.C⟩
def s1:Sg:=.N (Vi J v) [0] (s0 J v) (.ref v.y) v.C a [0] (.call (blt "sorted" [.ref v.y]) [(v.a,fM J v.c v.d v.e v.i0 v.f v.g v.h v.i v.j v.k v.l v.m v.n v.o v.p v.q v.r v.b)] v.C)
def s2:Sg:=.N (Vi J v) [] (s1 J v a) (.ref b) c d [0] (.fin (bN b) [(v.a,fM J v.c v.d v.e v.i0 v.f v.g v.h v.i v.j v.k v.l v.m v.n v.o v.p v.q v.r v.b)] c)
example(v):#[2,3,s2 J v a b c d]:=by trivial
end vK
namespace yJ
section
variable(J:WX)(v:Vv)(a b c:Nat:=0)(d:List Value:=[])(e f:Nat:=0)(g:Value:=.none)(h i j:Nat:=0)
def s0:Sg:=⟨J.V [],(dg 10021111441414440),.T (iC J v.a v.s v.t v.u v.v) (d9 (cL (fC (aL (aF J.P 12))) (cA J v.a v.s v.t v.u v.v))),[(v.a,fM J v.c v.d v.e v.i0 v.f v.g v.h v.i v.j v.k v.l v.m v.n v.o v.p v.q v.r v.b)],v.w,v.x,[0,1],.call (blt "range.__iter__" [.ref v.w]) [(v.a,fM J v.c v.d v.e v.i0 v.f v.g v.h v.i v.j v.k v.l v.m v.n v.o v.p v.q v.r v.b),(v.w,⟨.type "range",none,.fields ⟨[.int 0 v.x,.int v.i0 v.f,.int 1 (v.x+1)]⟩,#[]⟩)] (v.w+1)⟩
def s1:Sg:=.A (J.V []) [6,0] (s0 J v) (.ref a) [(a,⟨.type "range_iterator",none,.fields ⟨[rawInt 0,rawInt v.i0,rawInt 1]⟩,#[]⟩)] b c [0,2,3,4] (.call (.compStart (uH (jI J.P)) 0 (.ref a) (.ref b) (bF J.P (jI J.P) [(qH,v.u)] (b+1) v.a)) [(v.a,fM J v.c v.d v.e v.i0 v.f v.g v.h v.i v.j v.k v.l v.m v.n v.o v.p v.q v.r v.b),(a,⟨.type "range_iterator",none,.fields ⟨[.int 0 0,.int v.i0 0,.int 1 0]⟩,#[]⟩),(b,lst [] 0),(b+1,dct [] 0)] (b+2))
def s2:Sg:=⟨J.V [],(dg 1666840),eV (s1 J v a b c),[(v.a,fM J v.c v.d v.e v.i0 v.f v.g v.h v.i v.j v.k v.l v.m v.n v.o v.p v.q v.r v.b),(b,lst d e),(b+1,dct [ent J.P cE f g] h)],i,j,[0,1],.fin (bN b) [(v.a,fM J v.c v.d v.e v.i0 v.f v.g v.h v.i v.j v.k v.l v.m v.n v.o v.p v.q v.r v.b),(b,lst d e)] i⟩
example(v):#[2,5,s2 J v a b c d e f g h i j]:=by trivial
end yJ
namespace Gw
section
variable(J:WX)(v:Vv)
def s0:Sg:=⟨J.V [],[2],.T (iC J v.a v.s v.t v.u v.v) (d9 (cL (fB (AE (gQ (pI (aF J.P 13)) 0))) (cA J v.a v.s v.t v.u v.v))),[(v.a,fM J v.c v.d v.e v.i0 v.f v.g v.h v.i v.j v.k v.l v.m v.n v.o v.p v.q v.r v.b)],v.w,v.x,[0],.fin (bN v.r) [(v.a,fM J v.c v.d v.e v.i0 v.f v.g v.h v.i v.j v.k v.l v.m v.n v.o v.p v.q v.r v.b)] v.w⟩
example(v):#[s0 J v]:=by trivial
end Gw
namespace Gx
section
variable(J:WX)(v:Vv)
def s0:Sg:=⟨J.V [],[],.T (iC J v.a v.s v.t v.u v.v) (d9 (cL (fC (AE (gQ (pI (aF J.P 13)) 0))) (cA J v.a v.s v.t v.u v.v))),[(v.a,fM J v.c v.d v.e v.i0 v.f v.g v.h v.i v.j v.k v.l v.m v.n v.o v.p v.q v.r v.b)],v.w,v.x,[0,1],.fin (bN v.w) [(v.a,fM J v.c v.d v.e v.i0 v.f v.g v.h v.i v.j v.k v.l v.m v.n v.o v.p v.q v.r v.b),(v.w,dct [] 0)] (v.w+1)⟩
example(v):#[s0 J v]:=by trivial
end Gx
namespace BK
section
variable(J:WX)(v:Vv)(a:Int:=0)(b c d:Nat:=0)
abbrev Vi:=J.V [(v.s,gJ v.w)]
def s0:Sg:=⟨Vi J v,[0,1,0,0],.T (iC J v.a v.s v.t v.u v.v) (d9 (cL (AF (gQ (pI (aF J.P 13)) 0)) (cA J v.a v.s v.t v.u v.v))),[(v.a,fM J v.c v.d v.e v.i0 v.f v.g v.h v.i v.j v.k v.l v.m v.n v.o v.p v.q v.r v.b)],v.x,v.y,[0],.call (aK 480 [.ref v.w,.int 6 v.y]) [(v.a,fM J v.c v.d v.e v.i0 v.f v.g v.h v.i v.j v.k v.l v.m v.n v.o v.p v.q v.r v.b)] v.x⟩
def s1:Sg:=.N (Vi J v) [] (s0 J v) (.int a b) c d [0] (.fin (rt (.int a b)) [(v.a,fM J v.c v.d v.e v.i0 v.f v.g v.h v.i v.j v.k v.l v.m v.n v.o v.p v.q v.r v.b)] c)
example(v):#[2,s1 J v a b c d]:=by trivial
end BK
namespace Gv
section
variable(J:WX)(v:Vv)
def s0:Sg:=⟨J.V [],[0,0],.T (iC J v.a v.s v.t v.u v.v) (d9 (cL (sN (pI (aF J.P 13))) (cA J v.a v.s v.t v.u v.v))),[(v.a,fM J v.c v.d v.e v.i0 v.f v.g v.h v.i v.j v.k v.l v.m v.n v.o v.p v.q v.r v.b)],v.w,v.x,[0],.fin (rt (.type "range")) [(v.a,fM J v.c v.d v.e v.i0 v.f v.g v.h v.i v.j v.k v.l v.m v.n v.o v.p v.q v.r v.b)] v.w⟩
example(v):#[s0 J v]:=by trivial
end Gv
namespace Gy
section
variable(J:WX)(v:Vv)
def s0:Sg:=⟨J.V [],[],.T (iC J v.a v.s v.t v.u v.v) (d9 (cL (AG (gQ (pI (aF J.P 13)) 0)) (cA J v.a v.s v.t v.u v.v))),[(v.a,fM J v.c v.d v.e v.i0 v.f v.g v.h v.i v.j v.k v.l v.m v.n v.o v.p v.q v.r v.b)],v.w,v.x,[0],.fin (rt (.int 0 v.x)) [(v.a,fM J v.c v.d v.e v.i0 v.f v.g v.h v.i v.j v.k v.l v.m v.n v.o v.p v.q v.r v.b)] v.w⟩
example(v):#[s0 J v]:=by trivial
end Gy
namespace Ca
section
variable(J:WX)(v:Vv)(a b:Nat:=0)
def s0:Sg:=⟨J.V [],[0,2,0,0],CH J v.a v.q v.r v.s v.t 9 0,[(v.a,cW J v.c v.d v.e v.i0 v.f v.g v.h v.i v.j v.k v.l v.m v.n v.o v.p v.b)],v.u,v.v,[0],.call (iy 527 v.n) [(v.a,cW J v.c v.d v.e v.i0 v.f v.g v.h v.i v.j v.k v.l v.m v.n v.o v.p v.b)] v.u⟩
def s1:Sg:=.N (J.V []) [] (s0 J v) (.bool true) a b [0] (.fin (rt (.bool false)) [(v.a,cW J v.c v.d v.e v.i0 v.f v.g v.h v.i v.j v.k v.l v.m v.n v.o v.p v.b)] a)
example(v):#[2,s1 J v a b]:=by trivial
end Ca
namespace GP
section
variable(J:WX)(v:Vv)
abbrev Vi:=tZ J v.n 217 v.u
def s0:Sg:=⟨Vi J v,(dg 10020111121),CH J v.a v.q v.r v.s v.t 9 1,[(v.a,cW J v.c v.d v.e v.i0 v.f v.g v.h v.i v.j v.k v.l v.m v.n v.o v.p v.b)],v.v,v.w,[0],.fin (rt (.bool false)) [(v.a,cW J v.c v.d v.e v.i0 v.f v.g v.h v.i v.j v.k v.l v.m v.n v.o v.p v.b)] v.v⟩
example(v):#[s0 J v]:=by trivial
end GP
namespace Cb
section
variable(J:WX)(v:Vv)(a b:Nat:=0)(c:Value:=.none)(d e f:Nat:=0)
abbrev Vi:=J.V [(v.n,ins 217 v.u),(v.u,lX J v.v v.w v.x v.y v.z),(v.y,lst v.l0 v.A)]
def s0:Sg:=⟨Vi J v,(dg 12100000110000011035515140),.T (iC J v.a v.q v.r v.s v.t) (d9 (cL (fB (bW (aL (aF J.P 9)) 2)) (cA J v.a v.q v.r v.s v.t))),[(v.a,cW J v.c v.d v.e v.i0 v.f v.g v.h v.i v.j v.k v.l v.m v.n v.o v.p v.b)],v.B,v.C,[0,1,2,3],.call (.compStart (uH (jH J.P)) 0 (.ref v.B) (.ref (v.B+1)) (bF J.P (jH J.P) [] (v.B+2) v.a)) [(v.a,cW J v.c v.d v.e v.i0 v.f v.g v.h v.i v.j v.k v.l v.m v.n v.o v.p v.b),(v.B,⟨.type "list_iterator",none,dP v.y,#[]⟩),(v.B+1,lst [] 0),(v.B+2,dct [] 0)] (v.B+3)⟩
def s1:Sg:=⟨Vi J v,(dg 1666840),eV (s0 J v),[(v.a,cW J v.c v.d v.e v.i0 v.f v.g v.h v.i v.j v.k v.l v.m v.n v.o v.p v.b),(v.B+1,lst [] a),(v.B+2,dct [ent J.P jG b c] d)],e,f,[0,1],.fin (bN (v.B+1)) [(v.a,cW J v.c v.d v.e v.i0 v.f v.g v.h v.i v.j v.k v.l v.m v.n v.o v.p v.b),(v.B+1,lst [] a)] e⟩
example(v):#[2,s1 J v a b c d e f]:=by trivial
end Cb
namespace GQ
section
variable(J:WX)(v:Vv)
def s0:Sg:=⟨J.V [],[],.T (iC J v.a v.q v.r v.s v.t) (d9 (cL (fC (bW (aL (aF J.P 9)) 2)) (cA J v.a v.q v.r v.s v.t))),[(v.a,cW J v.c v.d v.e v.i0 v.f v.g v.h v.i v.j v.k v.l v.m v.n v.o v.p v.b)],v.u,v.v,[0,1],.fin (bN v.u) [(v.a,cW J v.c v.d v.e v.i0 v.f v.g v.h v.i v.j v.k v.l v.m v.n v.o v.p v.b),(v.u,lst [] 0)] (v.u+1)⟩
example(v):#[s0 J v]:=by trivial
end GQ
namespace CI
section
variable(J:WX)(v:Vv)(a b c:Nat:=0)(d:Int:=0)(e f g:Nat:=0)
abbrev Vi:=tZ J v.b 464 v.c
def s0:Sg:=⟨Vi J v,(dg 10044444410400),.C (aK 520 [.ref v.a,.ref v.b,.int v.i0 v.d]),[(v.c,T2 J v.h v.e v.i v.i1 v.m v.j v.f v.k v.g v.l v.n)],v.o,v.p,[],qf v.a 4 (v.p+3) (v.o+1)⟩
def s1:Sg:=.N (Vi J v) [0,4,0,0] (s0 J v) (.int 0 a) b c [] (qf v.a 9 (c+1) b)
def s2:Sg:=.N (Vi J v) (dx 0x1116661618818188688818188688818188688c444441104001001010001000000010000000000000f10f10000100f2f2f2f21f2f2f1000001f101f10f100000f10eee4) (s1 J v a b c) (.int d e) f g [0,6,7,9] (.fin (bN (f+7)) [(v.c,T2 J v.h v.e v.i v.i1 v.m v.j v.f v.k v.g v.l v.n),(f+4,dct [ei J aX (g+7) (1+d) g] 1),(f+5,ins 66 (f+4)),(f+7,tup [.ref (f+5),.int (1+d) g])] (f+8))
example(v):[2,5,s2 J v a b c d e f g]:=by trivial
end CI
namespace CJ
section
variable(J:WX)(v:Vv)(a b c:Nat:=0)(d:Int:=0)(e f g:Nat:=0)
abbrev Vi:=tZ J v.b 464 v.c
def s0:Sg:=⟨Vi J v,(dg 10044444410400),.C (aK 520 [.ref v.a,.ref v.b,.int v.i0 v.d]),[(v.c,T2 J v.h v.e v.i v.i1 v.m v.j v.f v.k v.g v.l v.n)],v.o,v.p,[],qf v.a 4 (v.p+3) (v.o+1)⟩
def s1:Sg:=.N (Vi J v) [0,4,0,0] (s0 J v) (.int 1 a) b c [] (qf v.a 9 (c+1) b)
def s2:Sg:=.N (Vi J v) (dx 0x1116661618818188688818188688818188688c4444411411041000100010000120100ee1e100011000110211e1000110110100010222e10001100011021104001001010001000000010000000000000f30f30000100f4f4f4f41f4f4f3000001f301f30f300000f30f2f2f2001001010001000000010000000000000f60f60000100f7f7f7f7f7f7f7f7f7f71f7f7f6000001f601f60f600000f60f5f5f5f7f7f6000001f601f60f600000f60f5f5f5f7f7f6000001f601f60f600000f60f5f5f5f7f7f6000001f601f60f600000f60f5f5f5) (s1 J v a b c) (.int d e) f g [0,7,8,9,11,12,14] (.fin (bN (f+12)) [(v.c,T2 J v.h v.e v.i (v.i1+1) (g+8) v.j v.f v.k v.g v.l v.n),(f+5,lst [] 0),(f+6,dct [ei J aX (g+17) (1+d) g] 1),(f+7,ins 66 (f+6)),(f+9,dct [ei J jW (g+24) (v.i1+1) (g+8),er J p9 (g+26) (f+5),ei J iz (g+28) (-1) (g+13),er J iO (g+30) (f+7)] 4),(f+10,ins 184 (f+9)),(f+12,tup [.ref (f+10),.str fk (g+31)])] (f+13))
example(v):[2,5,s2 J v a b c d e f g]:=by trivial
end CJ
namespace uc
section
variable(J:WX)(v:Vv)(a:Int:=0)(b c d:Nat:=0)(e:Int:=0)(f g h i j:Nat:=0)
abbrev Vi:=tZ J v.b 464 v.c
def s0:Sg:=⟨Vi J v,(dg 10044444410400),.C (aK 520 [.ref v.a,.ref v.b,.int v.i0 v.d]),[(v.c,T2 J v.h v.e v.i v.i1 v.m v.j v.f v.k v.g v.l v.n)],v.o,v.p,[],qf v.a 4 (v.p+3) (v.o+1)⟩
def s1:Sg:=.N (Vi J v) [0,4,0,0] (s0 J v) (.int a b) c d [] (qf v.a 9 (d+1) c)
def s2:Sg:=.N (Vi J v) (dx 0x1116661618818188688818188688818188688c444440) (s1 J v a b c d) (.int e f) g h [] (rI a b 0 (h+3) (g+4))
def s3:Sg:=.N (Vi J v) [4,0] (s2 J v a b c d e f g h) (.bool false) (g+4) i [] (rI a b 1 i (g+4))
def s4:Sg:=.N (Vi J v) (dx 0x100001001010001000000010000000000000f10f10000100f2f2f2f21f2f2f1000001f101f10f100000f10eee04001001010001000000010000000000000f40f40000100f5f5f5f51f5f5f4000001f401f40f400000f40f3f3f304001001010001000000010000000000000f70f70000100f8f8f8f81f8f8f7000001f701f70f700000f70f6f6f6001001010001000000010000000000000fb0fb0000100fcfcfcfcfcfc1fcfcfb000001fb01fb0fb00000fb0fafafafcfcfb000001fb01fb0fb00000fb0fafafa4) (s3 J v a b c d e f g h i) (.bool false) (g+4) j [0,6,7,9,10,12,13,15,16,17,19] (.fin (bN (g+17)) [(v.c,T2 J v.h v.e v.i v.i1 v.m v.j v.f v.k v.g v.l v.n),(g+4,dct [ei J qe (j+4) 1 j] 1),(g+5,ins 104 (g+4)),(g+7,dct [ei J aX (j+8) v.i0 v.d] 1),(g+8,ins 66 (g+7)),(g+10,dct [ei J aX (j+12) (1+e) h] 1),(g+11,ins 66 (g+10)),(g+13,lst [.ref (g+8),.ref (g+11)] 0),(g+14,lX J (j+17) (g+5) (j+19) (g+13) 2),(g+15,ins 217 (g+14)),(g+17,tup [.ref (g+15),.int (1+e) h])] (g+18))
example(v):[2,6,10,11,s4 J v a b c d e f g h i j]:=by trivial
end uc
namespace rl
structure A where
 (z x y:Bool)(a b c d e f g h i j k l m n:Nat)(y0:Value)
section
variable(J:WX)(v:A)(w r:Bool:=true)(a:Int:=0)(b c d:Nat:=0)
abbrev Vi:=J.V [(v.b,ins (nc w v.x v.y) v.c)]
def s0:Sg:=⟨Vi J v w,(dg 10020011111010000011000000000011101100022200),Se J v.a,[(v.a,ai ([er J fq v.g v.b,er J gx v.h v.d,kH J v.i v.e,T1 J v.j v.f]++fn J v.z v.l v.y0) v.k)],v.m,v.n,[],Sf v.b v.d v.e v.m⟩
def s1:Sg:=.N (Vi J v true) (dx 0x122224441416616166466616166466616166466a22220) (s0 J v true) (kv r a b) c d [0] (.again (bO J.P v.a) [(v.a,ai [T4 J v.g (d+1),ent J.P gx v.h (kv r a b),kH J v.i v.e,T1 J v.j v.f,ent J.P gw (fi v.z v.l d) (kv r a b)] (fi v.z v.k (v.k+1)))] (c+4))
def L:List Sg:=[s0 J v true,s1 J v r a b c d]
theorem all:CK J (L J v r a b c d):=by rcases v with⟨_|_,_|_,_|_⟩<;>cases r<;>trivial
end
theorem k1{v:A}:kOf (s1 J v r a b c d).r=.base:=by rcases v with⟨_|_,_|_,_|_⟩<;>cases r<;>trivial
theorem b0(v):OC J (s0 J v true):=(all J v).c 0
theorem b1:OB J (s1 J v r a b c d):=(all J v r a b c d).b 1
end rl
namespace rg
section
variable(J:WX)(v:rl.A)(a b c d e f g:Nat:=0)
def s1:Sg:=.N (rl.Vi J v false) (dg 12220200) (rl.s0 J v false) .none a b [] (.call (iy 499 v.e) [] a)
def s2:Sg:=.A (rl.Vi J v false) (dx 0x14441416616166466616166466616166466a22220) (s1 J v a b) (.ref c) [(c,tup [.ref d,.ref e])] f g [0] (.again (bO J.P v.a) [(v.a,ai (T7 J v.g d v.h e v.i v.e [T1 J v.j v.f,ent J.P gw (fi v.z v.l b) .none]) (fi v.z v.k (v.k+1)))] (f+3))
def L:List Sg:=[rl.s0 J v false,s1 J v a b,s2 J v a b c d e f g]
theorem all:CK J (L J v a b c d e f g):=by rcases v with⟨_|_,_|_,_|_⟩<;>trivial
end
theorem k2{v:rl.A}:kOf (s2 J v a b c d e f g).r=.base:=by rcases v with⟨_|_,_|_,_|_⟩<;>trivial
theorem b0(v):OC J (rl.s0 J v false):=(all J v).c 0
theorem b1:OB J (s1 J v a b):=(all J v a b).b 1
theorem b2:OB J (s2 J v a b c d e f g):=(all J v a b c d e f g).b 2
end rg
namespace CL
section
variable(J:WX)(v:Vv)(a:Int:=0)(b c d:Nat:=0)
def s0:Sg:=⟨J.V [],(dg 1002222222210),.C (aK 513 [.ref v.a,.ref v.b,.ref v.c,.ref v.d]),[],v.e,v.f,[0],.call (bO J.P v.e) [(v.e,ai (T7 J v.f v.a (v.f+1) v.b (v.f+2) v.c [T1 J (v.f+3) v.d]) 4)] (v.e+1)⟩
def s1:Sg:=⟨J.V [],[],.B (s0 J v).r (.ok (.ret (.int a b))),[],c,d,[],.fin (rt (.int a b)) [] c⟩
example(v):[2,s1 J v a b c d]:=by trivial
end CL
namespace CM
section
variable(J:WX)(v:Vv)(a:Int:=0)(b c d:Nat:=0)
def s0:Sg:=⟨J.V [],(dg 1002222222210),.C (aK 513 [.str aX v.a,.int v.i0 v.b,.ref v.c,.ref v.d]),[],v.e,v.f,[0],.call (bO J.P v.e) [(v.e,ai (Si J v.f v.a (v.f+1) v.i0 v.b (v.f+2) v.c [T1 J (v.f+3) v.d]) 4)] (v.e+1)⟩
def s1:Sg:=⟨J.V [],[],.B (s0 J v).r (.ok (.ret (.int a b))),[],c,d,[],.fin (rt (.int a b)) [] c⟩
example(v):[2,s1 J v a b c d]:=by trivial
end CM
namespace HA
section
variable(J:WX)(v:Vv)
def s0:Sg:=⟨J.V [],[],.T (bO J.P v.a) (pH (pB (aL (mL J.P)) (fEnv 513 (g_ J.P) v.a) (cL (aL (mL J.P)) (fEnv 513 (g_ J.P) v.a)))),[(v.a,mw J v.e v.b v.f v.y0 v.g v.c v.h v.d v.e0 v.i)],v.j,v.k,[0],.fin (rt (.bool true)) [(v.a,mw J v.e v.b v.f v.y0 v.g v.c v.h v.d v.e0 v.i)] v.j⟩
example(v):#[s0 J v]:=by trivial
end HA
namespace HB
section
variable(J:WX)(v:Vv)
def s0:Sg:=⟨J.V [],(dg 100200111),.T (bO J.P v.a) (pH (pB (aL (j7 J.P)) (fEnv 513 (g_ J.P) v.a) (cL (aL (j7 J.P)) (fEnv 513 (g_ J.P) v.a)))),[(v.a,mw J v.e v.b v.f v.y0 v.g v.c v.h v.d v.e0 v.i)],v.j,v.k,[0],.fin (rt (.bool true)) [(v.a,mw J v.e v.b v.f v.y0 v.g v.c v.h v.d v.e0 v.i)] v.j⟩
example(v):#[s0 J v]:=by trivial
end HB
namespace HC
section
variable(J:WX)(v:Vv)
def s0:Sg:=⟨J.V [],[2],.T (bO J.P v.a) (d9 (cL (fB (aL (j8 J.P))) (fEnv 513 (g_ J.P) v.a))),[(v.a,mw J v.e v.b v.f v.y0 v.g v.c v.h v.d v.e0 v.i)],v.j,v.k,[0],.fin (bN v.c) [(v.a,mw J v.e v.b v.f v.y0 v.g v.c v.h v.d v.e0 v.i)] v.j⟩
example(v):#[s0 J v]:=by trivial
end HC
namespace HD
section
variable(J:WX)(v:Vv)
def s0:Sg:=⟨J.V [],[],.T (bO J.P v.a) (d9 (cL (fC (aL (j8 J.P))) (fEnv 513 (g_ J.P) v.a))),[(v.a,mw J v.e v.b v.f v.y0 v.g v.c v.h v.d v.e0 v.i)],v.j,v.k,[0,1],.fin (bN v.j) [(v.a,mw J v.e v.b v.f v.y0 v.g v.c v.h v.d v.e0 v.i),(v.j,lst [] 0)] (v.j+1)⟩
example(v):#[s0 J v]:=by trivial
end HD
namespace HE
section
variable(J:WX)(v:Vv)
def s0:Sg:=⟨J.V [],[2],.T (bO J.P v.a) (jg (mK (iG (j8 J.P)) (fEnv 513 (g_ J.P) v.a))),[(v.a,mw J v.e v.b v.f v.y0 v.g v.c v.h v.d v.e0 v.i)],v.j,v.k,[0],.fin (rt v.y0) [(v.a,mw J v.e v.b v.f v.y0 v.g v.c v.h v.d v.e0 v.i)] v.j⟩
example(v):#[s0 J v]:=by trivial
end HE
namespace zh
structure A where
 (z:Bool)(a b c d e f g h i j k l:Nat)(i0:Int)(e0:List DictEntry)
section
variable(J:WX)(v:A)(a:Nat:=0)(x y:Bool:=true)(b:Nat:=0)(c:Int:=0)(d e f:Nat:=0)
def s0:Sg:=⟨J.V [],(dg 1022200),Sj J v.a,[(v.a,ai ([T4 J v.e v.b,ent J.P gx v.f (kv v.z v.i0 v.j),kH J v.g v.c,T1 J v.h v.d]++v.e0) v.i)],v.k,v.l,[0],.call (aK 506 [kv v.z v.i0 v.j,.ref v.c,.ref v.d]) [(v.a,ai ([T4 J v.e v.b,ent J.P gx v.f (kv v.z v.i0 v.j),kH J v.g v.c,T1 J v.h v.d]++v.e0) v.i)] v.k⟩
def s1:Sg:=.A (J.V []) (dx 0x14441416616166466616166466616166466a2222) (s0 J v) (.ref a) [(a,tup [kx x b,kv y c d])] e f [0] (.fin (.ok .next) [(v.a,ai ([ent J.P fq v.e (kx x b),ent J.P gx v.f (kv y c d),kH J v.g v.c,T1 J v.h v.d]++v.e0) v.i)] (e+3))
example(v):#[2,s1 J v a x y b c d e f]:=by rcases v with⟨_|_⟩<;>cases x<;>cases y<;>trivial
end zh
end
section
variable {prog:Program}{w:World}{A:Around}{R:RR}{s:Shared}
theorem kP{T:String}{name:Str}{id:String}{B:Builtin}{self:Value}{rest:List Value}(slot:Slot T name id)(hT:s.TypeIs self T)(entry:entryFor table id=some B)(ok:argsOk id ⟨self::rest,[]⟩)
 (hc:wpAny (model prog w) A.in1 (B ⟨self::rest,[]⟩) (fun fin s'=>∃v,fin=.done (.ret v)∧R (rt v) s') (fun e s'=>R (.error e) s') s):codeAny (model prog w) A (blt id (self::rest)) R s:=
 codeAny_call_builtin slot.plain entry (slot.check _ _ _ _ _ _ _ _ hT ok (wpAny_mono hc (fun fin s' h'=>by obtain⟨v,rfl,hv⟩:=h';exact hv) fun _ _ h'=>h'))
theorem mz{T:String}{name:Str}{id:String}{B:Builtin}{self:Value}{rest:List Value}{S:PySem.Spec}(slot:Slot T name id)(hT:s.TypeIs self T)(entry:entryFor table id=some B)(ok:argsOk id ⟨self::rest,[]⟩)
 (g:Meets (B ⟨self::rest,[]⟩) S) (h:S A R s):codeAny (model prog w) A (blt id (self::rest)) R s:=
 codeAny_call_builtin slot.plain entry (slot.check _ _ _ _ _ _ _ _ hT ok (g prog w A R s h))
theorem Ss{id:String}{B:Builtin}{args:List Value}(hk:builtinKind id=none)(hp:plainId id=true)(hb:entryFor table id=some B)(ha:argsOk id ⟨args,[]⟩)
 (hc:wpAny (model prog w) A.in1 (B ⟨args,[]⟩) (fun fin s'=>∃v,fin=.done (.ret v)∧R (rt v) s') (fun e s'=>R (.error e) s') s):codeAny (model prog w) A (blt id args) R s:=by
 refine codeAny_call_builtin hp hb ?_
 have HO:=wpAny_mono hc (Q':=fun fin s'=>match fin with
  |.done f=>R (.ok f) s'
  |.again c'=>c'.quiet=true∧codeAny (model prog w) A c' R s')
  (fun fin s' h'=>by obtain⟨v,rfl,hv⟩:=h';exact hv) fun _ _ h'=>h'
 simp only[checkBuiltinCall,hk]
 cases Su:Manifest.signature? id with
 |none=>exact wpAny_pure HO
 |some sig=>
  simp only[argsOk,Su]at ha
  have h2:Bind.checkArgs id sig ⟨args,[]⟩=pure ():=ha
  show wpAny _ A.in1 (Bind.checkArgs id sig ⟨args,[]⟩) _ _ s
  rw[h2];exact wpAny_pure HO
structure dz (l:Addr) (o:Obj) (h h':Heap):Prop where
 at_:h'.get? l=some o
 sO:∀b,b≠l→h'.get? b=h.get? b
 size:⇑h'=⇑h
structure eF (o:Obj) (h h':Heap):Prop where
 at_:h'.get? ⇑h=some o
 sO:∀b p,h.get? b=some p→h'.get? b=some p
 size:⇑h'=⇑h+1
theorem dz.of{l:Addr}{o:Obj}{h:Heap}{f:Obj→Obj}(ho:h.get? l=some o)(hf:(f o).isFreed=false):dz l (f o) h (h.update l f):=
 ⟨Heap.get?_update_self _ ho hf,fun b hb=>Heap.get?_update_ne _ _ _ _ hb,Heap.size_after_update _ _ _⟩
theorem eF.of{o:Obj}{h:Heap}(hf:o.isFreed=false):eF o h (h.push o):=⟨Heap.get?_push_size _ hf,fun _ _ e=>Heap.get?_push_of_some _ e,Heap.size_push _ _⟩
theorem zm{l:Addr}{vs:List Value}{ep:Nat}{h:Heap}(e:h.get? l=some (lst vs ep)):h.IsList l ⟨vs⟩:=⟨_,e,rfl,ep,rfl⟩
theorem small{n:Nat}(h:n≤1000):n≤sizeLine:=aq h (by decide)
theorem Sv{l:Addr}{vs:List Value}{ep:Nat}{x:Value}(hl:s.heap.get? l=some (lst vs ep))(hz:vs.length≤1000)
 (H:∀h',dz l (lst (vs++[x]) (ep+1)) s.heap h'→R (rt .none) {s with heap:=h'}):codeAny (model prog w) A (blt "list.append" [.ref l,x]) R s:=by
 refine mz F.slot_list_append ⟨_,hl,rfl⟩ F.entry_list_append (F.args_list_append_2 _ _) (list_append l ⟨vs⟩ ep x (small (by simpa using hz))) ⟨hl,H _ ?_⟩
 have e:(Obj.mapSeq fun y=>y.push x) (lst vs ep)=lst (vs++[x]) (ep+1):=by
  simp[Obj.mapSeq,lst]
 exact e▸dz.of hl (by rw[e];rfl)
theorem Sw{l:Addr}{vs:List Value}{ep:Nat}{x:Value}(hl:s.heap.get? l=some (lst (vs++[x]) ep))(hz:vs.length≤900)
 (H:∀h',dz l (lst vs (ep+1)) s.heap h'→R (rt x) {s with heap:=h'}):codeAny (model prog w) A (blt "list.pop" [.ref l]) R s:=by
 refine mz F.slot_list_pop ⟨_,hl,rfl⟩ F.entry_list_pop (F.args_list_pop_1 _) (MeetsSeq.list_pop_last l ⟨vs++[x]⟩ ep x (by simp) (small (by simp;left))) ⟨hl,H _ ?_⟩
 have e:(Obj.mapSeq fun xs=>xs.eraseIdxIfInBounds ((⟨vs++[x]⟩:Array Value).size-1)) (lst (vs++[x]) ep)=lst vs (ep+1):=by
  have:(⟨vs++[x]⟩:Array Value).eraseIdxIfInBounds ((⟨vs++[x]⟩:Array Value).size-1)=⟨vs⟩:=by
   apply Array.toList_inj.mp
   simp[Array.eraseIdxIfInBounds,List.eraseIdx_append_of_length_le (bl)]
  simp only[Obj.mapSeq,lst,this]
  simp
 exact e▸dz.of hl (by rw[e];rfl)
theorem Sx{l b:Addr}{vs us:List Value}{ep e2:Nat}(hl:s.heap.get? l=some (lst vs ep))(hb:s.heap.get? b=some (lst us e2))(hz:vs.length≤400)(hz2:us.length≤400)
 (H:∀h',eF (lst (vs++us) 0) s.heap h'→R (rt (.ref s.heap.objs.size)) {s with heap:=h'}):codeAny (model prog w) A (blt "list.__add__" [.ref l,.ref b]) R s:=by
 refine mz F.slot_list_add ⟨_,hl,rfl⟩ F.entry_list_add (F.args_list_add_2 _ _) (AutoSeq1.list___add___list_list_0 l ⟨vs⟩ ep b ⟨us⟩ e2 (small (by simp;exact #[0x111133e8d12100190d20190d102,vs.length,us.length] hz hz2))) ⟨hl,hb,H _ ?_⟩
 have e:(⟨.type "list",none,.seq (⟨vs⟩++⟨us⟩) 0,#[]⟩:Obj)=lst (vs++us) 0:=by simp[lst]
 exact e▸eF.of rfl
theorem Sy{l:Addr}{vs:List Value}{ep:Nat}{k:Int}{t:Tok}{x:Value}(hl:s.heap.get? l=some (lst vs ep))(h0:0≤k)(hz:vs.length≤1000)(hx:vs[k.toNat]? =some x)
 (H:R (rt x) s):codeAny (model prog w) A (blt "list.__getitem__" [.ref l,.int k t]) R s:=by
 refine kP F.slot_list_getitem ⟨_,hl,rfl⟩ F.entry_list_getitem (F.args_list_getitem_2 _ _) ?_
 have hlt:=(fN hx).1
 show wpAny _ _ (Builtin.List.listSubscript? (.int k t)>>=_) _ _ s
 refine wpAny_bind (wpAny_listSubscript_int (fitsIndex_of h0 (by lia)) ?_)
 obtain⟨j,rfl⟩:=Int.eq_ofNat_of_zero_le h0
 have hx':(⟨vs⟩:Array Value)[j]? =some x:=by simpa using hx
 show wpAny _ _ ((seqItemAt l j>>=fun r=>pure (r.map (j,·)))>>=_) _ _ s
 refine wpAny_bind (wpAny_bind (wpAny_seqItemAt hl rfl (wpAny_pure ?_)))
 rw[hx']
 exact wpAny_pure ⟨x,rfl,H⟩
theorem Sz{l:Addr}{vs:List Value}{ep:Nat}{t:Tok}{x:Value}(hl:s.heap.get? l=some (lst (vs++[x]) ep))
 (H:R (rt x) s):codeAny (model prog w) A (blt "list.__getitem__" [.ref l,.int (-1) t]) R s:=by
 refine kP F.slot_list_getitem ⟨_,hl,rfl⟩ F.entry_list_getitem (F.args_list_getitem_2 _ _) ?_
 show wpAny _ _ (Builtin.List.listSubscript? (.int (-1) t)>>=_) _ _ s
 refine wpAny_bind (wpAny_listSubscript_int (by decide) ?_)
 show wpAny _ _ ((Builtin.List.listItems (.ref l)>>=fun xs=>pure ((seqIndex? (-1) xs.size).bind fun i=>xs[i]?.map (i,·)))>>=_) _ _ s
 refine wpAny_bind (wpAny_bind ?_)
 show wpAny _ _ (seqItems? (.ref l)>>=_) _ _ s
 refine wpAny_bind (wpAny_seqItems hl rfl (wpAny_pure (wpAny_pure ?_)))
 have hk:seqIndex? (-1) (⟨vs++[x]⟩:Array Value).size=some vs.length:=by
  rw[seqIndex_neg (by lia) (by simp;lia)]
  simp
  lia
 rw[hk]
 have:(⟨vs++[x]⟩:Array Value)[vs.length]? =some x:=by simp
 simp only[Option.bind_some,this,Option.map_some]
 exact wpAny_pure ⟨x,rfl,H⟩
theorem SA{l:Addr}{vs:List Value}{ep:Nat}(hl:s.heap.get? l=some (lst vs ep))(hz:vs.length≤1000)
 (H:∀t tk,R (rt (.int vs.length t)) {s with toks:=tk}):codeAny (model prog w) A (blt "len" [.ref l]) R s:=by
 refine Ss kind_len plain_len entry_len (args_len1 _) ?_
 unfold Builtin.«len»
 refine wpAny_bind (m:=oneArg "len" _) (wpAny_pure ?_)
 refine wpAny_bind (m:=callSpecial? (.ref l) (Str.ofString "__len__")) (wpAny_callSpecial?_slot (name:=Str.ofString "__len__") (zm hl).typeIs slot_list_len
  (wpAny_call_entry slot_list_len (zm hl).typeIs entry_list_len ?_ (args_list_len _)))
 show wpAny _ _ (do retInt (←seqSize l)) _ _ s
 unfold seqSize
 refine wpAny_bind (wpAny_bind (wpAny_load hl ?_))
 refine wpAny_pure (wpAny_bind (wpAny_mkInt (wpAny_pure ⟨_,rfl,?_⟩)))
 refine wpAny_bind (wpAny_holding (wpAny_pure ?_))
 refine wpAny_bind (wpAny_letGo ?_)
 have e:(⟨vs⟩:Array Value).size=vs.length:=rfl
 rw[e]
 show wpAny _ _ (if((vs.length:Nat):Int)<0 then _ else _) _ _ _
 rw[if_neg (by lia)]
 show wpAny _ _ (if((vs.length:Nat):Int)≥2 ^ 63 then _ else _) _ _ _
 rw[if_neg (by lia)]
 exact wpAny_bind (wpAny_mkInt (wpAny_pure ⟨_,rfl,H _ _⟩))
theorem CN{a b:Int}{t u:Tok}(H:R (rt (.bool (decide (a=b)))) s):codeAny (model prog w) A (blt "int.__eq__" [.int a t,.int b u]) R s:=by
 refine mz F.slot_int_eq rfl F.entry_int_eq (F.args_int_eq_2 _ _) (AutoIntG7.int___eq___int_int_0 a t b u).meets ?_
 exact H
theorem HP{a b:Int}{t u:Tok}(H:R (rt (.bool (decide (a<b)))) s):codeAny (model prog w) A (blt "int.__lt__" [.int a t,.int b u]) R s:=by
 refine mz F.slot_int_lt rfl F.entry_int_lt (F.args_int_lt_2 _ _) (AutoIntG1.int___lt___int_int_0 a t b u).meets ?_
 exact H
theorem SD{l sl:Addr}{vs:List Value}{ep:Nat}{x:Value}{t:Tok}(hl:s.heap.get? l=some (lst (x::vs) ep))(hs:s.heap.get? sl=some ⟨.type "slice",none,.fields ⟨[.int 1 t,.none,.none]⟩,#[]⟩)(hz:vs.length≤900)
 (H:∀h',eF (lst vs 0) s.heap h'→R (rt (.ref s.heap.objs.size)) {s with heap:=h'}):codeAny (model prog w) A (blt "list.__getitem__" [.ref l,.ref sl]) R s:=by
 refine kP F.slot_list_getitem ⟨_,hl,rfl⟩ F.entry_list_getitem (F.args_list_getitem_2 _ _) ?_
 have qg:s.TypeIs (.ref sl) "slice":=⟨_,hs,rfl⟩
 show wpAny _ _ (Builtin.List.listSubscript? (.ref sl)>>=_) _ _ s
 refine wpAny_bind ?_
 unfold Builtin.List.listSubscript?
 refine wpAny_bind (wpAny_specialOf qg slice_no_index ?_)
 simp only[Option.isNone_none,if_true]
 refine wpAny_pure ?_
 show wpAny _ _ (typeOf (.ref sl)>>=_) _ _ s
 refine wpAny_bind (wpAny_typeOf qg ?_)
 rw[if_neg (by decide)]
 rw[listSliceParts_eq]
 refine wpAny_bind (wpAny_bind (wpAny_field hs rfl (x:=.none) rfl (wpAny_bind (wpAny_listPart .none ?_))))
 rw[if_neg (by simp[rawPart,rawInt])]
 refine wpAny_bind (wpAny_field hs rfl (x:=.int 1 t) rfl (wpAny_bind (wpAny_listPart (.int 1 t) ?_)))
 refine wpAny_bind (wpAny_field hs rfl (x:=.none) rfl (wpAny_bind (wpAny_listPart .none (wpAny_pure ?_))))
 refine wpAny_bind (m:=Builtin.List.listItems (.ref l)) ?_
 unfold Builtin.List.listItems
 refine wpAny_bind (wpAny_seqItems hl rfl (wpAny_pure ?_))
 refine wpAny_bind (wpAny_of_eq (sliceIndices_raw (some 1) none none (⟨x::vs⟩:Array Value).size (by simp)) ?_)
 have e:=slicePick_from (⟨x::vs⟩:Array Value) 1 (oz rfl)
 refine wpAny_bind (wpAny_newObj_type (wpAny_pure ⟨_,rfl,H _ ?_⟩) (aq (slicePick_size_le (⟨x::vs⟩:Array Value) (some 1) none none) (small (by simp;left))))
 have e2:(⟨.type "list",none,.seq (slicePick (⟨x::vs⟩:Array Value) (some 1) none none) 0,#[]⟩:Obj)=lst vs 0:=by
  rw[show(some (1:Int))=some ((1:Nat):Int)from rfl,e]
  exact rfl
 exact e2▸eF.of rfl
theorem SE{d:Addr}{k:Int}{t:Tok}{v:Value}{kvs:List (Int×Value)}(hm:s.heap.DictOf (intKind prog w) d kvs)(hv:valueAt kvs k=some v)
 (H:∀tk,R (rt v) {s with toks:=tk}):codeAny (model prog w) A (blt "dict.__getitem__" [.ref d,.int k t]) R s:=by
 ac_rfl
 obtain⟨o,es,ep,ho,hc,hd,hk,hp,hn⟩:=id hm
 refine kP F.slot_dict_getitem ⟨o,ho,hc.1⟩ F.entry_dict_getitem (F.args_dict_getitem_2 _ _) ?_
 show wpAny _ _ (dictGet d (.int k t)>>=_) _ _ s
 refine wpAny_bind (wpAny_dictGet_of (knd:=intKind prog w) (k:=k) (by simp[intKind,Value.isInt]) hm.mapOf ?_)
 rw[hv]
 exact wpAny_pure ⟨v,rfl,H _⟩
theorem SG{d:Addr}{k:Int}{t:Tok}{v:Value}{kvs:List (Int×Value)}(hm:s.heap.DictOf (intKind prog w) d kvs)(hz:kvs.length≤1000)
 (H:∀h' tk,h'.DictOf (intKind prog w) d (stored kvs k v)→Heap.SameBut d s.heap h'→R (rt .none) {s with heap:=h',toks:=tk}):codeAny (model prog w) A (blt "dict.__setitem__" [.ref d,.int k t,v]) R s:=by
 ac_rfl
 obtain⟨o,es,ep,ho,hc,hd,hk,hp,hn⟩:=id hm
 refine kP F.slot_dict_setitem ⟨o,ho,hc.1⟩ F.entry_dict_setitem (F.args_dict_setitem_3 _ _ _) ?_
 show wpAny _ _ (Builtin.Dict.notOrdered "__setitem__" ⟨[.ref d,.int k t,v],[]⟩>>=_) _ _ s
 refine wpAny_bind (wpAny_notOrdered_dict ⟨o,ho,hc.1⟩ ?_)
 show wpAny _ _ (dictSet d (.int k t) v>>=_) _ _ s
 exact wpAny_bind (wpAny_dictSet_pairs (knd:=intKind prog w) (k:=k) (by simp[intKind,Value.isInt]) hm (fun h' hm' hs'=>wpAny_pure ⟨.none,rfl,H h' _ hm' hs'⟩) (small hz))
end
section
variable {prog:Program}{w:World}{A:Around}{E:Value→Shared→Prop}{s:Shared}{Q:Value→Shared→Prop}
theorem SI{l:Addr}{vs:List Value}{ep:Nat}(hl:s.heap.get? l=some (lst vs ep))(hz:vs.length≤1000)
 (H:∀h' c,(∀b o,s.heap.get? b=some o→h'.get? b=some o)→h'.get? s.heap.objs.size=some (lst vs c)→Q (.ref s.heap.objs.size) {s with heap:=h'}):
 wpAny (model prog w) A (PySem.call (.type "list") [.ref l]) Q E s:=
 call_list_seq l (.inl rfl) hl rfl rfl (fun h' c k e=>H h' c k e) (small (by simpa using hz))
theorem SJ{d:Addr}{kvs:List (Int×Value)}(hm:s.heap.DictOf (intKind prog w) d kvs)(hz:kvs.length≤1000)(hd:534≤d)
 (H:∀h',h'.DictOf (intKind prog w) s.heap.objs.size kvs→Heap.SameBut s.heap.objs.size (s.heap.push {cls:=.type "dict",data:=.dict #[]}) h'→Q (.ref s.heap.objs.size) {s with heap:=h'}):
 wpAny (model prog w) A (PySem.call (.type "dict") [.ref d]) Q E s:=
 kt_call_dict (knd:=intKind prog w) (have e:sysModules<534:=(by decide);beq_eq_false_iff_ne.mpr (Nat.ne_of_gt (aJ e hd))) hm (small hz) H
end
section
variable {J:WX}{A:Around}{R:RR}{h:Heap}{tk:Nat}
theorem dZ{l:Addr}{vs:List Value}{ep:Nat}{x:Value}(hl:h.get? l=some (lst vs ep))(hz:vs.length≤1000)
 (H:∀h',dz l (lst (vs++[x]) (ep+1)) h h'→R (rt .none) (J.S h' tk)):codeAny J.M A (blt "list.append" [.ref l,x]) R (J.S h tk):=Sv hl hz H
theorem kQ{l:Addr}{vs:List Value}{ep:Nat}{x:Value}(hl:h.get? l=some (lst (vs++[x]) ep))(hz:vs.length≤900)
 (H:∀h',dz l (lst vs (ep+1)) h h'→R (rt x) (J.S h' tk)):codeAny J.M A (blt "list.pop" [.ref l]) R (J.S h tk):=Sw hl hz H
theorem ig{l b:Addr}{vs us:List Value}{ep e2:Nat}(hl:h.get? l=some (lst vs ep))(hb:h.get? b=some (lst us e2))(hz:vs.length≤400)(hz2:us.length≤400)
 (H:∀h',eF (lst (vs++us) 0) h h'→R (rt (.ref ⇑h)) (J.S h' tk)):codeAny J.M A (blt "list.__add__" [.ref l,.ref b]) R (J.S h tk):=Sx hl hb hz hz2 H
theorem iJ{l:Addr}{vs:List Value}{ep:Nat}{k:Int}{t:Tok}{x:Value}(hl:h.get? l=some (lst vs ep))(h0:0≤k)(hz:vs.length≤1000)(hx:vs[k.toNat]? =some x)
 (H:R (rt x) (J.S h tk)):codeAny J.M A (blt "list.__getitem__" [.ref l,.int k t]) R (J.S h tk):=Sy hl h0 hz hx H
theorem ym{l:Addr}{vs:List Value}{ep:Nat}{t:Tok}{x:Value}(hl:h.get? l=some (lst (vs++[x]) ep))
 (H:R (rt x) (J.S h tk)):codeAny J.M A (blt "list.__getitem__" [.ref l,.int (-1) t]) R (J.S h tk):=Sz hl H
theorem g8{l:Addr}{vs:List Value}{ep:Nat}(hl:h.get? l=some (lst vs ep))(hz:vs.length≤1000)
 (H:∀t tk',R (rt (.int vs.length t)) (J.S h tk')):codeAny J.M A (blt "len" [.ref l]) R (J.S h tk):=SA hl hz H
theorem SK{a b:Int}{t u:Tok}(H:R (rt (.bool (decide (a=b)))) (J.S h tk)):codeAny J.M A (blt "int.__eq__" [.int a t,.int b u]) R (J.S h tk):=CN H
theorem HQ{a b:Int}{t u:Tok}(hl:a<b)(H:R (rt (.bool true)) (J.S h tk)):codeAny J.M A (blt "int.__lt__" [.int a t,.int b u]) R (J.S h tk):=HP (by rw[decide_eq_true hl];exact H)
theorem HS{a b:Int}{t u:Tok}(hl:¬a<b)(H:R (rt (.bool false)) (J.S h tk)):codeAny J.M A (blt "int.__lt__" [.int a t,.int b u]) R (J.S h tk):=HP (by rw[decide_eq_false hl];exact H)
theorem CO{a b:Int}{t u:Tok}(hl:a=b)(H:R (rt (.bool true)) (J.S h tk)):codeAny J.M A (blt "int.__eq__" [.int a t,.int b u]) R (J.S h tk):=CN (by rw[decide_eq_true hl];exact H)
theorem vY{a b:Int}{t u:Tok}(hl:¬a=b)(H:R (rt (.bool false)) (J.S h tk)):codeAny J.M A (blt "int.__eq__" [.int a t,.int b u]) R (J.S h tk):=CN (by rw[decide_eq_false hl];exact H)
theorem SM{l sl:Addr}{vs:List Value}{ep:Nat}{x:Value}{t:Tok}(hl:h.get? l=some (lst (x::vs) ep))(hs:h.get? sl=some ⟨.type "slice",none,.fields ⟨[.int 1 t,.none,.none]⟩,#[]⟩)(hz:vs.length≤900)
 (H:∀h',eF (lst vs 0) h h'→R (rt (.ref ⇑h)) (J.S h' tk)):codeAny J.M A (blt "list.__getitem__" [.ref l,.ref sl]) R (J.S h tk):=SD hl hs hz H
theorem vd{d:Addr}{k:Int}{t:Tok}{v:Value}{kvs:List (Int×Value)}(hm:h.DictOf (intKind pw J.W) d kvs)(hv:valueAt kvs k=some v)
 (H:∀tk',R (rt v) (J.S h tk')):codeAny J.M A (blt "dict.__getitem__" [.ref d,.int k t]) R (J.S h tk):=SE hm hv H
theorem CP{d:Addr}{k:Int}{t:Tok}{v:Value}{kvs:List (Int×Value)}(hm:h.DictOf (intKind pw J.W) d kvs)(hz:kvs.length≤1000)
 (H:∀h' tk',h'.DictOf (intKind pw J.W) d (stored kvs k v)→Heap.SameBut d h h'→R (rt .none) (J.S h' tk')):codeAny J.M A (blt "dict.__setitem__" [.ref d,.int k t,v]) R (J.S h tk):=SG hm hz H
end
section
variable {J:WX}{A:Around}{E:Value→Shared→Prop}{h:Heap}{tk:Nat}{Q:Value→Shared→Prop}
theorem qZ{l:Addr}{vs:List Value}{ep:Nat}(hl:h.get? l=some (lst vs ep))(hz:vs.length≤1000)
 (H:∀h' c,(∀b o,h.get? b=some o→h'.get? b=some o)→h'.get? ⇑h=some (lst vs c)→Q (.ref ⇑h) (J.S h' tk)):
 wpAny J.M A (PySem.call (.type "list") [.ref l]) Q E (J.S h tk):=SI hl hz H
theorem SN{d:Addr}{kvs:List (Int×Value)}(hm:h.DictOf (intKind pw J.W) d kvs)(hz:kvs.length≤1000)(hd:534≤d)
 (H:∀h',h'.DictOf (intKind pw J.W) ⇑h kvs→Heap.SameBut ⇑h (h.push {cls:=.type "dict",data:=.dict #[]}) h'→Q (.ref ⇑h) (J.S h' tk)):
 wpAny J.M A (PySem.call (.type "dict") [.ref d]) Q E (J.S h tk):=SJ hm hz hd H
end
noncomputable def keysOf:X.KT→Nat→Nat→List Nat
 |.nil,_,_=>[]
 |.node v l r,s,b=>(match v with|some _=>[b]|none=>[])++(keysOf l (2*s) (s+b)++keysOf r (2*s) (2*s+b))
theorem AH:∀(t:X.KT)(s b j:Nat)(o:Obj),t.get j=some o→s*j+b∈keysOf t s b
 |.nil,_,_,_,_,e=>by cases e
 |.node v l r,s,b,j,o,e=>by
  rw[X.KT.get_node]at e
  unfold keysOf
  by_cases h0:j=0
  ·subst h0
   rw[if_pos rfl]at e
   rw[e]
   simp
  ·rw[if_neg h0]at e
   by_cases p:j % 2=1
   ·rw[if_pos p]at e
    have z:=AH l (2*s) (s+b) (j / 2) o e
    rw[X.KT.arith1 (s:=s) (b:=b) p]
    exact bD (cC z)
   ·rw[if_neg p]at e
    have z:=AH r (2*s) (2*s+b) (j / 2-1) o e
    rw[X.KT.arith2 (s:=s) (b:=b) h0 p]
    exact bD (bD z)
theorem Mt(P:Params):(keysOf (kt P) 1 0).all (fun j=>Nat.blt j 534)=true:=by kernel_rfl
theorem AI{P:Params}{j:Addr}{o:Obj}(e:(kt P).get j=some o):j<534:=by
 have z:=AH (kt P) 1 0 j o e
 have y:=List.all_eq_true.mp (Mt P) _ z
 have y:1*j+0<534:=Nat.le_of_ble_eq_true y
 rwa [Nat.one_mul,Nat.add_zero]at y
theorem Mu(P:Params):(kt P).get cStatics=some xN:=by kernel_rfl
noncomputable def aE[Zero Heap](P:Params)(h:Heap):Prop:=(∀j o,(kt P).get j=some o→h.get? j=some o)∧∀j o,j<534→(Zero.zero:Heap).get? j=some o→h.get? j=some o
structure Kp (mods:List Addr) (h h':Heap):Prop where
 keep:∀b o,b∉mods→h.get? b=some o→h'.get? b=some o
 size:⇑h≤⇑h'
theorem Kp.refl{mods:List Addr}{h:Heap}:Kp mods h h:=⟨fun _ _ _ e=>e,bl⟩
theorem Kp.trans{mods:List Addr}{h h' h'':Heap}(a:Kp mods h h')(b:Kp mods h' h''):Kp mods h h'':=⟨fun x o hx e=>b.keep x o hx (a.keep x o hx e),aq a.size b.size⟩
theorem Kp.more{m m':List Addr}{h h':Heap}(a:Kp m h h')(s:∀x∈m,x∈m'):Kp m' h h':=⟨fun x o hx e=>a.keep x o (fun q=>hx (s x q)) e,a.size⟩
theorem Kp.AJ{h h':Heap}(k:∀b o,h.get? b=some o→h'.get? b=some o)(z:⇑h≤⇑h'):Kp [] h h':=⟨fun b o _ e=>k b o e,z⟩
theorem dz.kp{l:Addr}{o:Obj}{h h':Heap}(u:dz l o h h'):Kp [l] h h':=⟨fun b p hb e=>(u.sO b (fun z=>hb (by simp[z]))).trans e,Nat.le_of_eq u.size.symm⟩
theorem eF.kp{o:Obj}{h h':Heap}(u:eF o h h'):Kp [] h h':=⟨fun b p _ e=>u.sO b p e,by rw[u.size];left⟩
theorem aE.kp[Zero Heap]{P:Params}{h h':Heap}{mods:List Addr}(T:aE P h)(k:Kp mods h h')(hm:∀m∈mods,534≤m):aE P h':=⟨fun j o e=>k.keep j o (fun q=>Nat.lt_irrefl _ (aJ (AI e) (hm j q))) (T.1 j o e),fun j o l e=>k.keep j o (fun q=>Nat.lt_irrefl _ (aJ l (hm j q))) (T.2 j o l e)⟩
noncomputable def pJ(h:Heap)(mods:List Addr):List Ent→Prop
 | []=>True
 |p::l=>(h.get? p.1=some p.2∧p.1∉mods)∧pJ h mods l
theorem rN{h:Heap}{mods:List Addr}:pJ h mods []:=trivial
theorem rC{h:Heap}{mods:List Addr}{a:Addr}{o:Obj}{l:List Ent}(e:h.get? a=some o)(n:a∉mods)(r:pJ h mods l):pJ h mods ((a,o)::l):=⟨⟨e,n⟩,r⟩
theorem pJ.all{h:Heap}{mods:List Addr}{l:List Ent}(H:pJ h mods l):∀p∈l,h.get? p.1=some p.2∧p.1∉mods:=by
 induction l with
 |nil=>intro p hp;exact absurd hp g9
 |cons q l ih=>
  intro p hp
  rcases mC hp with e|hp
  ·rw[e];exact H.1
  ·exact ih H.2 p hp
theorem aG[Zero Heap]{prog:Program}{w:World}{h:Heap}{mods:List Addr}{ro:List Ent}(T:aE w.params h)(hm:∀m∈mods,534≤m)(r:pJ h mods ro):Base ⟨prog,w,kt w.params,ro⟩ h mods:=
 ⟨fun j o e=>⟨T.1 j o e,fun q=>Nat.lt_irrefl _ (aJ (AI e) (hm j q))⟩,r.all,Mu w.params⟩
theorem w9{V:Vw}{h:Heap}{mu:List Ent}(hm:∀p∈mu,h.get? p.1=some p.2)(nd:(mu.map (·.1)).Nodup):Rep V h (mu.map (·.1)) h mu ⇑h:=
 ⟨rfl,hm,nd,fun p hp=>.inl (List.mem_map_of_mem hp),fun _ _ _ e=>e,bl⟩
theorem Az{V:Vw}{h:Heap}{mods:List Addr}{mu:List Ent}(hm:∀p∈mu,h.get? p.1=some p.2)(nd:(mu.map (·.1)).Nodup)(hs:∀p∈mu,p.1∈mods):Rep V h mods h mu ⇑h:=
 ⟨rfl,hm,nd,fun p hp=>.inl (hs p hp),fun _ _ _ e=>e,bl⟩
theorem fG{V:Vw}{h:Heap}:Rep V h [] h [] ⇑h:=w9 (mu:=[]) (fun _ hp=>absurd hp g9) List.nodup_nil
theorem gV{V:Vw}{h:Heap}{a:Addr}{o:Obj}(e:h.get? a=some o):Rep V h [a] h [(a,o)] ⇑h:=
 w9 (mu:=[(a,o)]) (c_ e iU) (by simp)
theorem cj{V:Vw}{h:Heap}{a b:Addr}{o p:Obj}(e:h.get? a=some o)(e2:h.get? b=some p)(hn:a≠b):Rep V h [a,b] h [(a,o),(b,p)] ⇑h:=
 w9 (mu:=[(a,o),(b,p)]) (fun q hq=>by
  rcases mC hq with hq|hq
  ·rw[hq];exact e
  ·rw[mS hq];exact e2) (by simp[hn])
section
variable {V:Vw}{h₀ h h':Heap}{mods:List Addr}{mu:List Ent}{sz:Nat}
theorem Rep.kp(D:Rep V h₀ mods h mu sz):Kp mods h₀ h:=⟨D.keep,by rw[D.size];exact D.le⟩
theorem Ex{mu:List Ent}{i:Nat}{l:Addr}{o o':Obj}{q:Ent}(nd:(mu.map (·.1)).Nodup)(hi:bg mu i=some (l,o))(hq:q∈put mu i o'):(q∈mu∧q.1≠l)∨q=(l,o'):=xO mu i o' (l,o) q nd hi hq
theorem Rep.upd(D:Rep V h₀ mods h mu sz){i:Nat}{l:Addr}{o o':Obj}(hi:bg mu i=some (l,o))(u:dz l o' h h'):Rep V h₀ mods h' (put mu i o') sz:=by
 have hm:=mZ _ _ _ hi
 refine⟨u.size.trans D.size,?_,by rw[xP];exact D.nd,?_,?_,D.le⟩
 ·intro q hq
  rcases Ex D.nd hi hq with⟨a,b⟩|e
  ·rw[u.sO _ b];exact D.at_ q a
  ·subst e;exact u.at_
 ·intro q hq
  rcases Ex D.nd hi hq with⟨a,_⟩|e
  ·exact D.own q a
  ·subst e;exact D.own (l,o) hm
 ·intro b p hb e
  have hne:b≠l:=by
   rcases D.own (l,o) hm with m|m
   ·exact fun z=>hb (z▸m)
   ·exact gP (aJ (aj e) m)
  rw[u.sO b hne];exact D.keep b p hb e
theorem Rep.grow(D:Rep V h₀ mods h mu sz)(k:Kp [] h h'):Rep V h₀ mods h' mu ⇑h':=
 ⟨rfl,fun p hp=>k.keep _ _ (by k_in) (D.at_ p hp),D.nd,D.own,fun b o hb e=>k.keep _ _ (by k_in) (D.keep b o hb e),aq D.le (by rw[←D.size];exact k.size)⟩
theorem Rep.more(D:Rep V h₀ mods h mu sz){a:Addr}{o:Obj}(e:h.get? a=some o)(hn:∀p∈mu,p.1≠a)(ho:⇑h₀≤a):Rep V h₀ mods h (mu++[(a,o)]) sz:=by
 refine⟨D.size,?_,?_,?_,D.keep,D.le⟩
 ·intro p hp
  rcases mA hp with hp|hp
  ·exact D.at_ p hp
  ·rw[mS hp];exact e
 ·rw[List.map_append,List.nodup_append]
  refine⟨D.nd,by simp,?_⟩
  intro x hx b hb
  obtain⟨p,hp,rfl⟩:=mM hx
  simp only[List.map_cons,List.map_nil,List.mem_singleton]at hb
  rw[hb];exact hn p hp
 ·intro p hp
  rcases mA hp with hp|hp
  ·exact D.own p hp
  ·rw[mS hp];exact .inr ho
theorem Rep.other(D:Rep V h₀ mods h mu sz){m:List Addr}(k:Kp m h h')(hm:∀x∈m,x∈mods)(hn:∀p∈mu,p.1∉m):Rep V h₀ mods h' mu ⇑h':=
 ⟨rfl,fun p hp=>k.keep _ _ (hn p hp) (D.at_ p hp),D.nd,D.own,fun b o hb e=>k.keep _ _ (fun q=>hb (hm b q)) (D.keep b o hb e),aq D.le (by rw[←D.size];exact k.size)⟩
theorem Rep.new(D:Rep V h₀ mods h mu sz)(k:Kp [] h h'){o:Obj}(e:h'.get? sz=some o):Rep V h₀ mods h' (mu++[(sz,o)]) ⇑h':=
 (D.grow k).more e (fun p hp=>by have:=aj (D.at_ p hp);rw[D.size]at this;exact gP this) D.le
end
section
variable {A:Around}{V:Vw}{h₀ h h₁:Heap}{mods:List Addr}{mu:List Ent}{sz:Nat}{s:Sg}
theorem At.kp(H:At A h₀ mods h₁ s h):Kp mods h₀ h:=H.rep.kp
theorem pK{l1 l2:List Addr}(is:List Nat)(h:is.map (fun i=>l2[i]?)=l1.map some):∀x∈l1,x∈l2:=fun x hx=>by
 have z:=List.mem_map_of_mem (f:=some) hx
 rw[←h]at z
 obtain⟨i,_,e⟩:=mM z
 exact List.mem_of_getElem? e
theorem At.rs(H:At A h₀ mods h₁ s h):Rep s.V h₀ mods h (fc s.r) ⇑h:=by rw[H.size];exact H.rep
theorem At.seg(H:At A h₀ mods h₁ s h):Kp (s.mu.map (·.1)) h₁ h:=H.rep1.kp
theorem At.dI(H:At A h₀ mods h₁ s h){a:Addr}(ha:a∉s.mu.map (·.1))(hl:a<⇑h₁):a∉bZ s.r:=fun q=>by
 obtain⟨p,hp,e⟩:=mM q
 rcases H.rep1.own p hp with z|z
 ·exact ha (e▸z)
 ·exact Nat.lt_irrefl _ (aJ hl (e▸z))
theorem Rep.dI(D:Rep V h₀ mods h mu sz){a:Addr}(hl:sz≤a):a∉mu.map (·.1):=fun q=>by
 obtain⟨p,hp,e⟩:=mM q
 have:=aj (D.at_ p hp)
 rw[D.size,e]at this
 exact Nat.lt_irrefl _ (aJ this hl)
end
theorem xQ{V:Vw}{h₀ h h':Heap}{mods:List Addr}{mu:List Ent}{sz:Nat}(B:Base V h₀ mods)(D:Rep V h₀ mods h mu sz){m:List Addr}(k:Kp m h h')(hm:∀x∈m,(x<⇑h₀∧x∉mods)∧(∀o,V.kt.get x≠some o)∧∀p∈V.ro,p.1≠x):
 Base V h' (mu.map (·.1))∧Rep V h' (mu.map (·.1)) h' mu ⇑h':=by
 have ne:∀p∈mu,p.1∉m:=fun p hp q=>by
  rcases D.own p hp with z|z
  ·exact(hm _ q).1.2 z
  ·exact Nat.lt_irrefl _ (aJ (hm _ q).1.1 z)
 have nm:∀j o,h₀.get? j=some o→j∉mods→j∉mu.map (·.1):=fun j o e hj q=>by
  obtain⟨p,hp,e'⟩:=mM q
  rcases D.own p hp with z|z
  ·exact hj (e'▸z)
  ·exact Nat.lt_irrefl _ (aJ (aj e) (e'▸z))
 refine⟨⟨?_,?_,B.st⟩,Az (fun p hp=>k.keep _ _ (ne p hp) (D.at_ p hp)) D.nd (fun p hp=>List.mem_map_of_mem hp)⟩
 ·intro j o e
  obtain⟨a,b⟩:=B.kt j o e
  exact⟨k.keep _ _ (fun q=>(hm _ q).2.1 _ e) (D.keep _ _ b a),nm _ _ a b⟩
 ·intro p hp
  obtain⟨a,b⟩:=B.ro p hp
  exact⟨k.keep _ _ (fun q=>(hm _ q).2.2 _ hp rfl) (D.keep _ _ b a),nm _ _ a b⟩
theorem fR{h:Heap}{it l:Addr}{i:Nat}(e:h.get? it=some ⟨.type "list_iterator",none,.fields ⟨[.ref l,.int (i:Int) 0]⟩,#[]⟩):h.IsListIter it l i:=⟨_,e,rfl,rfl⟩
theorem sP{P:Params}{x:Addr}(hx:534≤x)(o:Obj):(kt P).get x≠some o:=fun e=>Nat.lt_irrefl _ (aJ (AI e) hx)
theorem aa.up{A:Around}{κ:Ko}{n m:Nat}(I:InK A κ)(R:aa A n)(h:Nat.ble (13+m) n=true):aa (fH A κ) m:=I.room m (R.less h)
noncomputable def zp(tgt:PySem.Expr)(it:Value)(body orelse:List Stmt)(env:Env)(v:Value):Sem Fin:=do
 assign tgt env v
 match←execs body env with
 |.next|.cont=>again (.forLoop tgt it body orelse env)
 |.brk=>pure (.done .next)
 |.ret v=>pure (.done (.ret v))
theorem zo:zp=mX:=by
 funext tgt it body orelse env v
 unfold zp mX
 rw[PySem.W.Fast.te17772580674575903948,PySem.W.Fast.te12563942051412417395]
 rfl
noncomputable def ay(R:RR):RR:=fun r s=>match r with
 |.ok _=>R r s
 |.error _=>False
theorem o5{R:RR}:∀r s,ay R r s→R r s:=fun r s h=>by
 cases r with
 |ok f=>exact h
 |error e=>exact h.elim
structure gp (z TI TO i1 i2 l1 l2:Addr) (k:Nat) (h:Heap):Prop where
 z_:IsZip h z TI TO .none
 ti:IsPair h TI (.ref i1) (.ref i2)
 v_:∃a b,IsPair h TO a b
 l1:h.IsListIter i1 l1 k
 l2:h.IsListIter i2 l2 k
section
variable {J:WX}{A:Around}{R:RR}{h:Heap}{tk:Nat}{z TI TO i1 i2 l1 l2:Addr}{k:Nat}{xs ys:List Value}{e1 e2:Nat}{x y:Value}{elts:List PySem.Expr}{q:Nat}{pos:Pos}{body:List Stmt}{env:Env}
theorem dw{l:Addr}{vs:List Value}{ep:Nat}(e:h.get? l=some (lst vs ep)):h.IsList l ⟨vs⟩:=⟨_,e,rfl,ep,rfl⟩
theorem Ud(D:ZipApart z TI TO i1 i2 l1 l2)(Z:gp z TI TO i1 i2 l1 l2 k h)(hl1:h.get? l1=some (lst xs e1))(hl2:h.get? l2=some (lst ys e2))(hx:xs[k]? =some x)(hy:ys[k]? =some y)
 (H:∀h',gp z TI TO i1 i2 l1 l2 (k+1) h'→h'.get? ⇑h=some (tup [x,y])→⇑h'=⇑h+1→Kp [z,TO,i1,i2] h h'→
  wpAny J.M A (zp (.Tuple elts q pos) (.ref z) body [] env (.ref ⇑h)) (X.postC pw J.W A (ay R)) (X.postE (ay R)) (J.S h' tk)):
 codeAny J.M A (.forLoop (.Tuple elts q pos) (.ref z) body [] env) (ay R) (J.S h tk):=by
 refine codeAny_of_tree ?_
 show wpAny _ _ ((forTurn (.Tuple elts q pos) (.ref z) body [] env).onRaise (fun x=>do noteFrame x env;theTreesLotGoes x)) _ _ _
 refine wpAny_noted ?_
 simp only[forTurn]
 obtain⟨a,b,hTO⟩:=Z.v_
 refine wpAny_bind (wpAny_standAt (wpAny_bind (wpAny_onRaise (wpAny_pyNext_zip_item D Z.z_ Z.ti hTO Z.l1 Z.l2 (dw hl1) (dw hl2) (x:=x) (y:=y) (by simpa using hx) (by simpa using hy) fun h' a1 a2 a3 a4 a5 a6 a7=>?_))))
 refine wpAny_bind (wpAny_letOwnedTupleGo_zip a1 fun h'' b1 b2=>?_)
 have lt:∀{c o},h.get? c=some o→⇑h≠c:=fun e=>Nat.ne_of_gt (aj e)
 have Kk:∀c o,c≠z→h'.get? c=some o→h''.get? c=some o:=fun c o hc e=>b2.extBut _ _ hc e
 refine wpAny_mono (H h'' ⟨b1,Kk _ _ D.TIz (a7 _ _ D.TIz D.TITO D.TIi1 D.TIi2 Z.ti),⟨_,_,Kk _ _ D.TOz a2⟩,a3.extBut b2.extBut D.i1z,a4.extBut b2.extBut D.i2z⟩ (Kk _ _ (lt Z.z_) a5) (by rw[b2.1];exact a6)
  ⟨fun c o hc e=>Kk _ _ (fun q=>hc (by simp[q])) (a7 _ _ (fun q=>hc (by simp[q])) (fun q=>hc (by simp[q])) (fun q=>hc (by simp[q])) (fun q=>hc (by simp[q])) e),by rw[b2.1,a6];exact Nat.le_succ _⟩) (fun f s' hf=>hf) (fun e s' he=>he.elim)
theorem Ub(hh:A.handled=none)(D:ZipApart z TI TO i1 i2 l1 l2)(Z:gp z TI TO i1 i2 l1 l2 k h)(hl1:h.get? l1=some (lst xs e1))(hl2:h.get? l2=some (lst ys e2))(hx:xs[k]? =none)
 (H:∀h',(∀c o,c≠z→c≠TO→c≠i1→c≠i2→h.get? c=some o→h'.get? c=some o)→R (.ok .next) (J.S h' tk)):
 codeAny J.M A (.forLoop (.Tuple elts q pos) (.ref z) body [] env) (ay R) (J.S h tk):=by
 refine codeAny_of_tree ?_
 show wpAny _ _ ((forTurn (.Tuple elts q pos) (.ref z) body [] env).onRaise (fun x=>do noteFrame x env;theTreesLotGoes x)) _ _ _
 refine wpAny_noted ?_
 simp only[forTurn]
 obtain⟨a,b,hTO⟩:=Z.v_
 refine wpAny_bind (wpAny_standAt (wpAny_bind (wpAny_onRaise (wpAny_pyNext_zip_end hh D Z.z_ Z.ti hTO Z.l1 Z.l2 (dw hl1) (dw hl2) (.inl (by simpa using hx)) fun h' a1=>?_))))
 refine wpAny_pure ⟨rfl,codeAny_block ?_⟩
 exact wpAny_pure (H h' a1)
end
noncomputable def sA(elt target iter:PySem.Expr)(scope:Scope)(pos:Pos)(it acc:Value)(env:Env)(v:Value):Sem Fin:=
 assign target env v>>=fun _=>(eval elt env>>=fun x=>call (.builtin "list.append") [acc,x]>>=fun _=>pure ())>>=fun _=>again (.compLoop (.ListComp elt [⟨target,iter,[],0⟩] scope pos) 0 it acc env)
theorem uE:sA=qM:=by
 funext elt target iter scope pos it acc env v
 unfold sA qM
 rw[PySem.W.Fast.te17772580674575903948,PySem.W.Fast.te14044960220447912780,PySem.W.Fast.te11478286150595567475]
 rfl
section
variable {J:WX}{A:Around}{R:RR}{h:Heap}{tk:Nat}{z TI TO i1 i2 l1 l2:Addr}{k:Nat}{xs ys:List Value}{e1 e2:Nat}{x y:Value}{elts:List PySem.Expr}{q:Nat}{tp pos:Pos}{elt iter target:PySem.Expr}{scope:Scope}{acc:Value}{env:Env}
theorem WJ(D:ZipApart z TI TO i1 i2 l1 l2)(Z:gp z TI TO i1 i2 l1 l2 k h)(hl1:h.get? l1=some (lst xs e1))(hl2:h.get? l2=some (lst ys e2))(hx:xs[k]? =some x)(hy:ys[k]? =some y)
 (H:∀h',gp z TI TO i1 i2 l1 l2 (k+1) h'→h'.get? ⇑h=some (tup [x,y])→⇑h'=⇑h+1→Kp [z,TO,i1,i2] h h'→
  wpAny J.M A (sA elt (.Tuple elts q tp) iter scope pos (.ref z) acc env (.ref ⇑h)) (X.postC pw J.W A (ay R)) (X.postE (ay R)) (J.S h' tk)):
 codeAny J.M A (.compLoop (.ListComp elt [⟨.Tuple elts q tp,iter,[],0⟩] scope pos) 0 (.ref z) acc env) (ay R) (J.S h tk):=by
 refine codeAny_of_tree ?_
 show wpAny _ A ((compTurn (.ListComp elt [⟨.Tuple elts q tp,iter,[],0⟩] scope pos) 0 (.ref z) acc env).onRaise (fun x=>do noteFrame x env;theTreesLotGoes x)) _ _ _
 refine wpAny_noted ?_
 rw[compTurn_list1]
 obtain⟨a,b,hTO⟩:=Z.v_
 refine wpAny_bind (wpAny_standAt (wpAny_bind (wpAny_pyNext_zip_item D Z.z_ Z.ti hTO Z.l1 Z.l2 (dw hl1) (dw hl2) (x:=x) (y:=y) (by simpa using hx) (by simpa using hy) fun h' a1 a2 a3 a4 a5 a6 a7=>?_)))
 refine wpAny_bind (wpAny_letOwnedTupleGo_zip a1 fun h'' b1 b2=>?_)
 have lt:∀{c o},h.get? c=some o→⇑h≠c:=fun e=>Nat.ne_of_gt (aj e)
 have Kk:∀c o,c≠z→h'.get? c=some o→h''.get? c=some o:=fun c o hc e=>b2.extBut _ _ hc e
 exact wpAny_mono (H h'' ⟨b1,Kk _ _ D.TIz (a7 _ _ D.TIz D.TITO D.TIi1 D.TIi2 Z.ti),⟨_,_,Kk _ _ D.TOz a2⟩,a3.extBut b2.extBut D.i1z,a4.extBut b2.extBut D.i2z⟩ (Kk _ _ (lt Z.z_) a5) (by rw[b2.1];exact a6)
  ⟨fun c o hc e=>Kk _ _ (fun q=>hc (by simp[q])) (a7 _ _ (fun q=>hc (by simp[q])) (fun q=>hc (by simp[q])) (fun q=>hc (by simp[q])) (fun q=>hc (by simp[q])) e),by rw[b2.1,a6];exact Nat.le_succ _⟩) (fun f s' hf=>hf) (fun e s' he=>he.elim)
theorem WK(hh:A.handled=none)(D:ZipApart z TI TO i1 i2 l1 l2)(Z:gp z TI TO i1 i2 l1 l2 k h)(hl1:h.get? l1=some (lst xs e1))(hl2:h.get? l2=some (lst ys e2))(hx:xs[k]? =none)
 (H:∀h',(∀c o,c≠z→c≠TO→c≠i1→c≠i2→h.get? c=some o→h'.get? c=some o)→R (.ok .next) (J.S h' tk)):
 codeAny J.M A (.compLoop (.ListComp elt [⟨.Tuple elts q tp,iter,[],0⟩] scope pos) 0 (.ref z) acc env) (ay R) (J.S h tk):=by
 refine codeAny_of_tree ?_
 show wpAny _ A ((compTurn (.ListComp elt [⟨.Tuple elts q tp,iter,[],0⟩] scope pos) 0 (.ref z) acc env).onRaise (fun x=>do noteFrame x env;theTreesLotGoes x)) _ _ _
 refine wpAny_noted ?_
 rw[compTurn_list1]
 obtain⟨a,b,hTO⟩:=Z.v_
 exact wpAny_bind (wpAny_standAt (wpAny_bind (wpAny_pyNext_zip_end hh D Z.z_ Z.ti hTO Z.l1 Z.l2 (dw hl1) (dw hl2) (.inl (by simpa using hx)) fun h' a1=>wpAny_pure (H h' a1))))
theorem IG{I l:Addr}(hit:h.IsListIter I l k)(hl:h.get? l=some (lst xs e1))(hx:xs[k]? =some x)(ht:∀v,letOwnedTupleGo target (.ref I) v=pure ())
 (H:∀h',h'.IsListIter I l (k+1)→Heap.SameBut I h h'→
  wpAny J.M A (sA elt target iter scope pos (.ref I) acc env x) (X.postC pw J.W A (ay R)) (X.postE (ay R)) (J.S h' tk)):
 codeAny J.M A (.compLoop (.ListComp elt [⟨target,iter,[],0⟩] scope pos) 0 (.ref I) acc env) (ay R) (J.S h tk):=by
 refine codeAny_of_tree ?_
 show wpAny _ A ((compTurn (.ListComp elt [⟨target,iter,[],0⟩] scope pos) 0 (.ref I) acc env).onRaise (fun x=>do noteFrame x env;theTreesLotGoes x)) _ _ _
 refine wpAny_noted ?_
 rw[compTurn_list1]
 refine wpAny_bind (wpAny_standAt (wpAny_bind (wpAny_pyNext_list_item hit (dw hl) (x:=x) (by simpa using hx) fun h' a1 a2=>?_)))
 refine wpAny_bind (wpAny_of_eq (ht x) ?_)
 exact wpAny_mono (H h' a1 a2) (fun f s' hf=>hf) (fun e s' he=>he.elim)
theorem C4{I l:Addr}(hh:A.handled=none)(hit:h.IsListIter I l k)(hl:h.get? l=some (lst xs e1))(hx:xs[k]? =none)
 (H:∀h',Heap.ExtBut I h h'→R (.ok .next) (J.S h' tk)):
 codeAny J.M A (.compLoop (.ListComp elt [⟨target,iter,[],0⟩] scope pos) 0 (.ref I) acc env) (ay R) (J.S h tk):=by
 refine codeAny_of_tree ?_
 show wpAny _ A ((compTurn (.ListComp elt [⟨target,iter,[],0⟩] scope pos) 0 (.ref I) acc env).onRaise (fun x=>do noteFrame x env;theTreesLotGoes x)) _ _ _
 refine wpAny_noted ?_
 rw[compTurn_list1]
 exact wpAny_bind (wpAny_standAt (wpAny_bind (wpAny_pyNext_list_end hh hit (dw hl) (by simpa using hx) fun h' a1=>wpAny_pure (H h' a1))))
end
section
variable {J:WX}{A:Around}{R:RR}{h:Heap}{tk:Nat}{S KD SH:Addr}{t3 t4 es:Nat}
theorem JB(e:h.get? S=some (iT J.P t3 t4 KD SH es)):h.DictOf (PySem.strKind pw J.W) S [(cT,.ref KD),(iL,.ref SH)]:=by
 refine⟨_,_,_,e,⟨rfl,rfl,rfl⟩,rfl,?_,?_,(show([cT,iL]:List Str).Nodup by decide)⟩
 ·intro x hx
  have hx:x=ent J.P cT t3 (.ref KD)∨x=ent J.P iL t4 (.ref SH):=by simpa using hx
  rcases hx with rfl|rfl
  ·exact⟨cT,rfl,rfl⟩
  ·exact⟨iL,rfl,rfl⟩
 ·exact .cons (by simp[PySem.strKind,Value.isStrOf]) rfl (.cons rfl rfl .nil)
theorem JC{d:Addr}{k:Str}{t:Tok}{v:Value}{kvs:List (Str×Value)}(hm:h.DictOf (PySem.strKind pw J.W) d kvs)(hv:valueAt kvs k=some v)
 (H:∀tk',R (rt v) (J.S h tk')):codeAny J.M A (blt "dict.__getitem__" [.ref d,.str k t]) R (J.S h tk):=by
 obtain⟨o,es,ep,ho,hc,hd,hk,hp,hn⟩:=id hm
 refine kP F.slot_dict_getitem ⟨o,ho,hc.1⟩ F.entry_dict_getitem (F.args_dict_getitem_2 _ _) ?_
 show wpAny _ _ (dictGet d (.str k t)>>=_) _ _ _
 refine wpAny_bind (wpAny_dictGet_of (knd:=PySem.strKind pw J.W) (k:=k) (by simp[PySem.strKind,Value.isStrOf]) hm.mapOf ?_)
 rw[hv]
 exact wpAny_pure ⟨v,rfl,H _⟩
theorem yh{t:Tok}(e:h.get? S=some (iT J.P t3 t4 KD SH es))(H:∀tk',R (rt (.ref KD)) (J.S h tk')):codeAny J.M A (blt "dict.__getitem__" [.ref S,.str cT t]) R (J.S h tk):=JC (JB e) rfl H
theorem Bo{t:Tok}(e:h.get? S=some (iT J.P t3 t4 KD SH es))(H:∀tk',R (rt (.ref SH)) (J.S h tk')):codeAny J.M A (blt "dict.__getitem__" [.ref S,.str iL t]) R (J.S h tk):=JC (JB e) rfl H
end
section
variable [Zero Heap]
theorem DictOf.obj{prog:Program}{w:World}{h:Heap}{d:Addr}{kvs:List (Int×Value)}(x:h.DictOf (intKind prog w) d kvs):∃es ep,h.get? d=some (dct es ep):=by
 ac_rfl
 obtain⟨o,es,ep,ho,⟨h1,h2,h3⟩,hd,_⟩:=x
 obtain⟨c,dd,dt,sl⟩:=o
 simp only at h1 h2 h3 hd
 subst h1;subst h2;subst h3;subst hd
 exact⟨es.toList,ep,ho⟩
theorem DictOf.objE{G:Prop}{prog:Program}{w:World}{h:Heap}{d:Addr}{kvs:List (Int×Value)}(x:h.DictOf (intKind prog w) d kvs)(kk:∀es ep,h.get? d=some (dct es ep)→G):G:=by
 obtain⟨v0,v1,q0⟩:=DictOf.obj x
 exact kk v0 v1 q0
theorem Kp.dict{prog:Program}{w:World}{h h':Heap}{mods:List Addr}{d:Addr}{kvs:List (Int×Value)}(k:Kp mods h h')(x:h.DictOf (intKind prog w) d kvs)(hd:d∉mods):h'.DictOf (intKind prog w) d kvs:=by
 ac_rfl
 obtain⟨o,es,ep,ho,r⟩:=x
 exact⟨o,es,ep,k.keep _ _ hd ho,r⟩
section
variable {J:WX}{A:Around}{R:RR}{h:Heap}{tk:Nat}{a d E F x c o L T I G:Addr}{t1 t2 t3 ti tu ed ep ec e1 e2 e3 z:Nat}{i u:Int}{fs rest:List Value}{ρ:List (Int×Value)}
theorem Td(RA:aa A 50)(TT:aE J.P h)(h1:h.get? a=some (ins 66 d))(h2:h.get? d=some (dct [ent J.P aX t1 (.int i ti)] ed))
 (H:∀h' tk',Kp [] h h'→R (rt (.int i ti)) (J.S h' tk')):codeAny J.M A (aK 492 [.ref a,.ref E,.ref F]) R (J.S h tk):=by
 let vv:Vv:=dj a d ed E F t1 ti ⇑h tk i [] []
 exact Hv.b0 vv (RA.less rfl) (aG TT (by k_in) ⟨⟨h1,by k_in⟩,⟨h2,kNn⟩,trivial⟩) fG (fun h' _ H1=>H h' _ H1.rep.kp)
theorem Tf(RA:aa A 50)(TT:aE J.P h)(h1:h.get? a=some (ins 66 d))(h2:h.get? d=some (dct [ent J.P aX t1 (.ref x)] ed))
 (H:∀h' tk',Kp [] h h'→R (rt (.ref x)) (J.S h' tk')):codeAny J.M A (aK 492 [.ref a,.ref E,.ref F]) R (J.S h tk):=by
 let vv:Vv:=gm a d ed E F t1 x ⇑h tk 0 0 0 0 .none [] []
 exact Hw.b0 vv (RA.less rfl) (aG TT (by k_in) ⟨⟨h1,by k_in⟩,⟨h2,kNn⟩,trivial⟩) fG (fun h' _ H1=>H h' _ H1.rep.kp)
theorem Th(RA:aa A 50)(TT:aE J.P h)(h1:h.get? a=some (ins 104 d))(h2:h.get? d=some (dct [ent J.P qe t1 (.int i ti)] ed))
 (H:∀h' tk' p t,Kp [] h h'→⇑h≤p→h'.get? p=some (tup [.str kJ t,.int i ti])→R (rt (.ref p)) (J.S h' tk')):codeAny J.M A (aK 492 [.ref a,.ref E,.ref F]) R (J.S h tk):=by
 let vv:Vv:=dj a d ed E F t1 ti ⇑h tk i [] []
 exact Hx.b0 vv (RA.less rfl) (aG TT (by k_in) ⟨⟨h1,by k_in⟩,⟨h2,kNn⟩,trivial⟩) fG
  (fun h' _ H1=>H h' _ _ _ H1.rep.kp (br) (H1.get 0 rfl))
theorem Ti(RA:aa A 50)(TT:aE J.P h)(h1:h.get? a=some (ins 184 d))
 (H:∀h' tk' p t,Kp [] h h'→⇑h≤p→h'.get? p=some (tup [.str fk t,.ref a,.ref E])→R (rt (.ref p)) (J.S h' tk')):codeAny J.M A (aK 492 [.ref a,.ref E,.ref F]) R (J.S h tk):=by
 let vv:Vv:=dj a d E F ⇑h tk 0 0 0 0 [] []
 exact Hy.b0 vv (RA.less rfl) (aG TT (by k_in) ⟨⟨h1,by k_in⟩,trivial⟩) fG
  (fun h' _ H1=>H h' _ _ _ H1.rep.kp (br) (H1.get 0 rfl))
theorem RY(RA:aa A 50)(TT:aE J.P h)(h1:h.get? a=some (ins 85 d))(h2:h.get? d=some (dct [ent J.P cD t1 (.int i ti)] ed))
 (h3:h.DictOf (intKind pw J.W) E ρ) (h4:valueAt ρ i=some (.ref c)) (h5:h.get? c=some (lst [.int u tu] ec))
 (H:∀h' tk',Kp [] h h'→R (rt (.int u tu)) (J.S h' tk')):codeAny J.M A (aK 492 [.ref a,.ref E,.ref F]) R (J.S h tk):=by
 refine DictOf.objE h3 fun es ee hE=>?_
 have B:=aG (prog:=pw) (w:=J.W) (mods:=[]) TT (by k_in) (ro:=[(a,_),(d,_),(E,_),(c,_)]) (rC h1 kNn (rC h2 (by k_in) (rC hE (by k_in) (rC h5 (by k_in) rN))))
 let vv:Vv:=gn a d ed E F t1 ti ee c ec tu ⇑h tk 0 0 0 0 i u .none .none [] [] es
 refine CF.b0 vv (RA.less rfl) B fG (fun bS _ H1=>.code (vd (H1.rep.kp.dict h3 (by k_in)) h4 fun aB=>?_))
 exact CF.b1 (RA.less rfl) B H1.k H1.rep (fun h' _ H2=>H h' _ H2.rep.kp)
theorem RZ(RA:aa A 50)(TT:aE J.P h)(h1:h.get? a=some (ins 85 d))(h2:h.get? d=some (dct [ent J.P cD t1 (.int i ti)] ed))
 (h3:h.DictOf (intKind pw J.W) E ρ) (h4:valueAt ρ i=some (.ref c)) (h5:h.get? c=some (lst [.ref x] ec))
 (H:∀h' tk',Kp [] h h'→R (rt (.ref x)) (J.S h' tk')):codeAny J.M A (aK 492 [.ref a,.ref E,.ref F]) R (J.S h tk):=by
 refine DictOf.objE h3 fun es ee hE=>?_
 have B:=aG (prog:=pw) (w:=J.W) (mods:=[]) TT (by k_in) (ro:=[(a,_),(d,_),(E,_),(c,_)]) (rC h1 kNn (rC h2 (by k_in) (rC hE (by k_in) (rC h5 (by k_in) rN))))
 let vv:Vv:=gn a d ed E F t1 ti ee c ec x ⇑h tk 0 0 0 0 i 0 .none .none [] [] es
 refine CG.b0 vv (RA.less rfl) B fG (fun bS _ H1=>.code (vd (H1.rep.kp.dict h3 (by k_in)) h4 fun aB=>?_))
 exact CG.b1 (RA.less rfl) B H1.k H1.rep (fun h' _ H2=>H h' _ H2.rep.kp)
theorem R1(RA:aa A 50)(TT:aE J.P h)(h1:h.get? a=some (ins 137 d))(h2:h.get? d=some (dct [ent J.P cD t1 (.int i ti),ent J.P aX t2 (.ref x)] ed))
 (h3:h.DictOf (intKind pw J.W) E ρ) (h4:valueAt ρ i=some (.ref c)) (hF:h.get? F=some (lst fs e1)) (na:a≠F) (nd:d≠F) (nE:E≠F) (lF:534≤F) (hz:fs.length≤1000)
 (H:∀h' tk' p t e3,Kp [F] h h'→h'.get? F=some (lst (fs++[.ref p]) e3)→⇑h≤p→h'.get? p=some (tup [.str lU t,.ref c,.ref x,.ref E])→R (rt .none) (J.S h' tk')):
 codeAny J.M A (aK 492 [.ref a,.ref E,.ref F]) R (J.S h tk):=by
 refine DictOf.objE h3 fun es ee hE=>?_
 have B:=aG (prog:=pw) (w:=J.W) (mods:=[F]) TT (by k_in) (ro:=[(a,_),(d,_),(E,_)]) (rC h1 (kNc na kNn) (rC h2 (by k_in) (rC hE (by k_in) rN)))
 let vv:Vv:=gn a d ed E F t1 ti t2 x ee e1 ⇑h tk 0 0 0 0 i 0 .none .none fs [] es
 refine ze.b0 vv (RA.less rfl) B (gV hF) (fun bS _ H1=>.code (vd (H1.rep.kp.dict h3 (by k_in)) h4 fun aB=>?_))
 refine ze.b1 (RA.less rfl) B H1.k H1.rep (fun h2' _ H2=>.code (dZ (H2.get 0 rfl) hz fun h3' U=>?_))
 exact ze.b2 (RA.less rfl) B H2.k (H2.rep.upd (H2.bg 0 rfl rfl) U) (fun h' _ H3=>H h' _ _ _ _ H3.rep.kp (H3.get 0 rfl) (br) (H3.get 1 rfl))
theorem R5(RA:aa A 50)(TT:aE J.P h)(h1:h.get? a=some (ins 250 d))(h2:h.get? d=some (dct [ent J.P p_ t1 (.ref L)] ed)){ns:List Value}{en:Nat}
 (h3:h.get? L=some (lst ns en)) (tS:ns.length≤1000) (hF:h.get? F=some (lst fs e1)) (na:a≠F) (nd:d≠F) (nL:L≠F) (lF:534≤F) (hz:fs.length≤1000)
 (H:∀h' tk' p t z m em e3,Kp [F] h h'→h'.get? F=some (lst (fs++[.ref p]) e3)→⇑h≤p→h'.get? p=some (tup [.str nV t,.ref m,.int 0 z,.ref E])→⇑h≤m→h'.get? m=some (lst ns em)→R (rt .none) (J.S h' tk')):
 codeAny J.M A (aK 492 [.ref a,.ref E,.ref F]) R (J.S h tk):=by
 have B:=aG (prog:=pw) (w:=J.W) (mods:=[F]) TT (by k_in) (ro:=[(a,_),(d,_)]) (rC h1 (kNc na kNn) (rC h2 (by k_in) rN))
 let vv:Vv:=gm a d ed E F t1 L e1 ⇑h tk 0 0 0 .none fs []
 refine zg.b0 vv (RA.less rfl) B (gV hF)
  (fun bS _ H1=>.call (qZ (H1.rep.keep _ _ (by k_in) h3) tS fun h2' em k2 e2=>?_))
 have K2:Kp [] bS h2':=.AJ k2 (by have:=aj e2;exact Nat.le_of_lt this)
 have m1:⇑h≤⇑bS:=H1.kp.size
 have m2:⇑bS<⇑h2':=aj e2
 refine zg.b1 (RA.less rfl) B H1.k (by rw[H1.size]at e2⊢;exact H1.rep.new K2 e2) (fun h3' _ H3=>.code (dZ (H3.get 0 rfl) hz fun Jx U=>?_))
 exact zg.b2 (RA.less rfl) B H3.k (H3.rep.upd (H3.bg 0 rfl rfl) U) (fun h' _ H4=>
  H h' _ _ _ _ _ _ _ H4.rep.kp (H4.get 0 rfl) (by show ⇑h≤_;left) (H4.get 2 rfl) m1 (H4.get 1 rfl))
theorem R7(RA:aa A 50)(TT:aE J.P h)(h1:h.get? a=some (ins 217 d))(h2:h.get? d=some (dct [ent J.P nR t1 (.ref o),ent J.P nU t2 (.ref L)] ed)){ns:List Value}{en:Nat}
 (h3:h.get? L=some (lst ns en)) (tS:ns.length≤300) (hF:h.get? F=some (lst fs e1)) (na:a≠F) (nd:d≠F) (nL:L≠F) (lF:534≤F) (hz:fs.length≤1000)
 (H:∀h' tk' p t m gg em eg e3,Kp [F] h h'→h'.get? F=some (lst (fs++[.ref p]) e3)→⇑h≤p→h'.get? p=some (tup [.str s_call t,.ref m,.ref gg,.ref E])→⇑h≤m→h'.get? m=some (lst (.ref o::ns) em)→⇑h≤gg→h'.get? gg=some (lst [] eg)→R (rt .none) (J.S h' tk')):
 codeAny J.M A (aK 492 [.ref a,.ref E,.ref F]) R (J.S h tk):=by
 have B:=aG (prog:=pw) (w:=J.W) (mods:=[F]) TT (by k_in) (ro:=[(a,_),(d,_)]) (rC h1 (kNc na kNn) (rC h2 (by k_in) rN))
 let vv:Vv:=mQ a d ed E F t1 t2 o L e1 ⇑h tk 0 0 0 .none fs []
 refine vX.b0 vv (RA.less rfl) B (gV hF)
  (fun bS _ H1=>.call (qZ (H1.rep.keep _ _ (by k_in) h3) (by left) fun h2' em k2 e2=>?_))
 have K2:Kp [] bS h2':=.AJ k2 (by have:=aj e2;exact Nat.le_of_lt this)
 have m1:⇑h≤⇑bS:=H1.kp.size
 have m2:⇑bS<⇑h2':=aj e2
 refine vX.b1 (RA.less rfl) B H1.k (by rw[H1.size]at e2⊢;exact H1.rep.new K2 e2) (fun h3' _ H3=>.code (ig (H3.get 0 rfl) (H3.get 1 rfl) (oz rfl) (by left) fun Jx N4=>?_))
 have m3:⇑h≤⇑h3':=H3.kp.size
 have m4:⇑h3'<⇑Jx:=aj N4.at_
 refine vX.b2 (RA.less rfl) B H3.k (by have e4:=N4.at_;rw[H3.size]at e4⊢;exact H3.rep.new N4.kp e4) (fun X4 _ H5=>.code (dZ (H5.get 0 rfl) hz fun X5 U=>?_))
 exact vX.b3 (RA.less rfl) B H5.k (H5.rep.upd (H5.bg 0 rfl rfl) U) (fun h' _ H6=>
  H h' _ _ _ _ _ _ _ _ H6.rep.kp (H6.get 0 rfl) (by show ⇑h≤_;left) (H6.get 3 rfl) m3 (H6.get 1 rfl) (by show ⇑h≤_;left) (H6.get 2 rfl))
end
end
section
variable [Zero Heap]
theorem dz.same{l:Addr}{o:Obj}{h h':Heap}(s:Heap.SameBut l h h')(e:h'.get? l=some o):dz l o h h':=⟨e,s.2,s.1⟩
theorem DictOf.at{prog:Program}{w:World}{h h':Heap}{d:Addr}{kvs:List (Int×Value)}(x:h.DictOf (intKind prog w) d kvs){o:Obj}(e:h.get? d=some o)(e':h'.get? d=some o):h'.DictOf (intKind prog w) d kvs:=by
 ac_rfl
 obtain⟨o',es,ep,ho,r⟩:=x
 rw[e]at ho
 obtain rfl:=bV ho
 exact⟨_,es,ep,e',r⟩
theorem gp.keep{z TI TO i1 i2 l1 l2:Addr}{k:Nat}{h h':Heap}(Z:gp z TI TO i1 i2 l1 l2 k h){m:List Addr}(kp:Kp m h h')(n1:z∉m)(n2:TI∉m)(n3:TO∉m)(n4:i1∉m)(n5:i2∉m):gp z TI TO i1 i2 l1 l2 k h':=by
 ac_rfl
 obtain⟨a,b,c⟩:=Z.v_
 exact⟨kp.keep _ _ n1 Z.z_,kp.keep _ _ n2 Z.ti,⟨a,b,kp.keep _ _ n3 c⟩,Z.l1.at fun o e=>kp.keep _ _ n4 e,Z.l2.at fun o e=>kp.keep _ _ n5 e⟩
noncomputable def bindAll:List (Int×Value)→List (Int×Nat)→List Addr→List (Int×Value)
 |ρ,n::ns,c::cs=>bindAll (stored ρ n.1 (.ref c)) ns cs
 |ρ,_,_=>ρ
noncomputable abbrev rL(p:Int×Nat):Value:=.int p.1 p.2
noncomputable abbrev Iq(J:WX)(t6 t7 t8 t9 wc:Nat)(p g s f D:Addr)(q:Bool)(ou:Nat)(i:Value)(ow:Nat)(y:Value)(e:Nat):Obj:=
 ai (ent J.P vO t6 (.ref p)::ent J.P vQ t7 (.ref g)::ent J.P jq t8 (.ref s)::ent J.P jZ t9 (.ref f)::ent J.P gx wc (.ref D)::pn J q ou i ow y) e
theorem Ir(ρ:List (Int×Value))(k:Int)(v:Value):(stored ρ k v).length≤ρ.length+1:=by
 unfold stored
 split
 ·rw[List.length_map];left
 ·rw[List.length_append];exact oD rfl
section
variable {J:WX}{A:Around}{R:RR}{P G S F D fr pl n:Nat}{t6 t7 t8 t9 wc e1 e2:Nat}
noncomputable abbrev ue(n fr D:Nat):List Nat:=[n,n+1,n+3,n+4,fr,D]
theorem zx{c n:Nat}(h:n+5≤c):c≠n+4∧c≠n+3∧c≠n∧c≠n+1:=⟨#[0x11124c1012325c1001,n,c] h,⟨#[0x11123c1012325c1001,n,c] h,⟨#[0x1112112325c1001,n,c] h,#[0x11121c1012325c1001,n,c] h⟩⟩⟩
theorem o4{c n:Nat}(h:c<n):c≠n+4∧c≠n+3∧c≠n∧c≠n+1:=⟨#[0x110134c201132111,c,n] h,⟨#[0x110133c201132111,c,n] h,⟨#[0x1101321132111,c,n] h,#[0x110131c201132111,c,n] h⟩⟩⟩
theorem TV{a b:Nat}(h:a<b):([a,b]:List Nat).Nodup:=by simp;left
theorem CZ{c a b:Nat}(h1:a<c)(h2:b<c):c∉[a,b]:=by k_in
theorem TX{n:Nat}(h:534≤n):∀m∈([n+4,n+3,n,n+1]:List Nat),534≤m:=by
 intro m hm
 simp at hm
 lia
theorem TY{n fr D:Nat}:∀x∈([n+4,n+3,n,n+1]:List Nat),x∈ue n fr D:=by
 intro m hm
 simp at hm⊢
 lia
theorem TZ{c n fr D:Nat}(h:n+5≤c)(h1:fr<n)(h2:D<n):c∉ue n fr D:=by
 simp
 exact⟨#[0x1112112325c1001,n,c] h,⟨#[0x11121c1012325c1001,n,c] h,⟨#[0x11123c1012325c1001,n,c] h,⟨#[0x11124c1012325c1001,n,c] h,⟨#[0x11113312313125c1002,n,c,fr] h h1,#[0x11113312313125c1002,n,c,D] h h2⟩⟩⟩⟩⟩
theorem Iu(RA:aa A 30)(lD:D<n)(aN:fr<n)(bK:pl<n)(lG:G<n)(gD:534≤D)(qn:534≤fr)(Iv:D≠fr)(n1:pl≠fr)(n2:pl≠D)(n3:G≠fr)(n4:G≠D){xs:List (Int×Nat)}{ys:List Value}:
 ∀(r:Nat)(k:Nat),k+r=xs.length→xs.length=ys.length→(∀j,k≤j→j<ys.length→∃z u t,ys[j]? =some (kv z u t))→∀(h:Heap)(tk:Nat)(ρ:List (Int×Value))(q:Bool)(ou ow:Nat)(i y:Value)(fe:Nat),
  aE J.P h→gp (n+4) (n+2) (n+3) n (n+1) pl G k h→h.get? pl=some (lst (xs.map rL) e1)→h.get? G=some (lst ys e2)→
  h.get? fr=some (Iq J t6 t7 t8 t9 wc P G S F D q ou i ow y fe)→h.DictOf (intKind pw J.W) D ρ→ρ.length+r≤900→
  n+5≤⇑h→(r=0→∃(c:Nat)(o:Obj),h.get? c=some o∧c+1=⇑h∧n+5≤c)→
  (∀h' tk' (cs:List Nat) dR q' T_ Ua i' y',Kp (ue n fr D) h h'→cs.length=r→(∀c∈cs,⇑h≤c)→cs.Pairwise (·<·)→(∀j (c:Addr)(v:Value),cs[j]? =some c→ys[k+j]? =some v→h'.get? c=some (lst [v] 0))→
   h'.get? fr=some (Iq J t6 t7 t8 t9 wc P G S F D q' T_ i' Ua y' dR)→h'.DictOf (intKind pw J.W) D (bindAll ρ (xs.drop k) cs)→R (.ok .next) (J.S h' tk'))→
  codeAny J.M A (wY J.P (n+4) fr) (ay R) (J.S h tk)
 |0,k,hk,hxy,hr,h,tk,ρ,q,ou,ow,i,y,fe,TT,Z,hpl,hG,hfr,hD,hz,hn,hl,H=>by
  refine Ub RA.handled (zipApart_new bK lG) Z hpl hG (by simp;exact #[0x11103112020c1021,k,xs.length] hk) (fun h' kk=>?_)
  ac_rfl
  obtain⟨c,o,hc,e,l⟩:=hl rfl
  have hsz:⇑h≤⇑h':=by
   have:=aj (kk c o (zx l).1 (zx l).2.1 (zx l).2.2.1 (zx l).2.2.2 hc)
   exact e▸this
  have K:Kp (ue n fr D) h h':=⟨fun b o hb e=>kk b o (fun q=>hb (by simp[q])) (fun q=>hb (by simp[q])) (fun q=>hb (by simp[q])) (fun q=>hb (by simp[q])) e,hsz⟩
  refine DictOf.objE hD fun es ee we=>?_
  have hd:xs.drop k=[]:=List.drop_eq_nil_of_le (#[0x11103112020c1021,k,xs.length] hk)
  refine H h' tk [] fe q ou ow i y K rfl (by k_in) (by simp) (by simp) (kk _ _ (o4 aN).1 (o4 aN).2.1 (o4 aN).2.2.1 (o4 aN).2.2.2 hfr) ?_
  rw[hd]
  exact DictOf.at hD we (kk _ _ (o4 lD).1 (o4 lD).2.1 (o4 lD).2.2.1 (o4 lD).2.2.2 we)
 |r+1,k,hk,hxy,hr,h,tk,ρ,q,ou,ow,i,y,fe,TT,Z,hpl,hG,hfr,hD,hz,hn,hl,H=>by
  have hkx:k<xs.length:=#[0x11013311131c201021,k,r,xs.length] hk
  have Uc:k<ys.length:=#[0x1101015411143231c201022,k,r,xs.length,ys.length] hk hxy
  ac_rfl
  obtain⟨z0,u,tu,Iw⟩:=hr k (Nat.le_refl k) Uc
  refine Ud (x:=rL xs[k]) (y:=kv z0 u tu) (zipApart_new bK lG) Z hpl hG (by simp[hkx]) Iw (fun h1 Z1 hT hs kk=>?_)
  have lo:∀{c:Nat},c<n→c∉[n+4,n+3,n,n+1]:=fun{c} hc=>by have:=o4 hc;simp[this.1,this.2.1,this.2.2.1,this.2.2.2]
  have eG:aE J.P h1:=TT.kp kk (TX (oL lD gD))
  have yu:=kk.keep _ _ (lo aN) hfr
  refine DictOf.objE hD fun es ee we=>?_
  have C0:=kk.keep _ _ (lo lD) we
  have rj:=DictOf.at hD we C0
  have nT:⇑h∉[fr,D]:=CZ (oJ (oI hn oA) aN) (oJ (oI hn oA) lD)
  have B:=aG (prog:=pw) (w:=J.W) (mods:=[fr,D]) eG (by k_in) (ro:=[(⇑h,_)]) (rC hT nT rN)
  rw[zo]
  let vv:Vv:=jj P G S F D fr t6 t7 t8 t9 wc fe ee ⇑h ((xs[k]).2) (n+4) tu ou 0 ow ⇑h1 tk 0 0 0 0 0 0 0 0 0 0 0 0 0 0 0 ((xs[k]).1) u 0 0 y i .none .none .none [] es []
  refine turn.b0 z0 q vv rfl (RA.less rfl) B (cj yu C0 (Ne.symm Iv)) (fun h2 _ H2=>.code (CP (DictOf.at rj C0 (H2.get 0 rfl)) (#[0x11123e8d110384d1c201001,ρ.length,r] hz) fun h3 az Iz sb=>?_))
  refine DictOf.objE Iz fun Xs Xu IA=>?_
  refine turn.b1 (RA.less rfl) B H2.k (H2.rep.upd (H2.bg 0 rfl rfl) (dz.same sb IA)) (fun h4 _ H4=>?_)
  rw[turn.k1]
  have k4:Kp [fr,D] h1 h4:=H4.kp
  have jR:=DictOf.at Iz IA (H4.get 1 rfl)
  have s4:⇑h4=⇑h1+4:=H4.size
  have hi:∀{c:Nat},n≤c→c∉[fr,D]:=fun{c} hc=>CZ (oJ hc aN) (oJ hc lD)
  have kA:Kp (ue n fr D) h h4:=(kk.more TY).trans (k4.more (by k_in))
  refine Iu RA lD aN bK lG gD qn Iv n1 n2 n3 n4 r (k+1) (#[0x1110310133121c100231c201021,k,r,xs.length] hk) hxy (fun j hj=>hr j (by left)) h4 _ _ true _ _ _ _ _ (eG.kp k4 (by k_in)) (Z1.keep k4 (hi (by left)) (hi (by left)) (hi (by left)) (hi (by left)) (hi (by left)))
   (k4.keep _ _ (by k_in) (kk.keep _ _ (lo bK) hpl)) (k4.keep _ _ (by k_in) (kk.keep _ _ (lo lG) hG)) (H4.get 0 rfl) jR (by have:=Ir ρ (xs[k]).1 (.ref (⇑h1+3));show(stored ρ (xs[k]).1 (.ref (⇑h1+3))).length+r≤900;exact #[0x11113384d123001c1030384d1c201002,ρ.length,r,(stored ρ xs[k].fst (Value.ref (⇑h1+3))).length] hz this) (by rw[s4,hs];exact #[0x11124c1c20015c10025c1001,n,⇑h] hn) (fun _=>⟨⇑h1+3,_,H4.get 2 rfl,#[0x110131103111c3c20024c20121,⇑h4,⇑h1] s4,oE (oG hs (oE hn))⟩) (fun h5 aY cs GB q5 u5 w5 i5 y5 K5 lc gc pc hc Ue yp=>?_)
  refine H h5 aY ((⇑h1+3)::cs) GB q5 u5 w5 i5 y5 (kA.trans K5) (by simp[lc]) ?_ ?_ ?_ Ue ?_
  ·intro c hc'
   rcases mC hc' with rfl|hc'
   ·left
   ·have:=gc c hc';left
  ·refine List.pairwise_cons.mpr ⟨fun c hc'=>?_,pc⟩
   have:=gc c hc';left
  ·intro j c v hj hv
   cases j with
   |zero=>
    simp only[List.getElem?_cons_zero,Option.some.injEq]at hj
    subst hj
    have e:v=kv z0 u tu:=by
     rw[Nat.add_zero,Iw]at hv
     exact(bV hv).symm
    rw[e]
    exact K5.keep _ _ (TZ (by left) aN lD) (H4.get 2 rfl)
   |succ j=>exact hc j c v (by simpa using hj) (by rw[←hv];congr 1;exact #[0x111111c2010121c10020,k,j])
  ·rw[List.drop_eq_getElem_cons hkx]
   exact yp
end
theorem Ug{l:Addr}{o:Obj}{h h':Heap}(hl:l=⇑h)(sb:Heap.SameBut l (h.push o) h')(e:h'.get? l=some o'):Kp [] h h':=by
 subst hl
 refine⟨fun b p _ hb=>?_,?_⟩
 ·rw[sb.2 b (gP (aj hb))]
  exact Heap.get?_push_of_some _ hb
 ·exact Nat.le_of_lt (aj e)
section
variable {J:WX}{A:Around}{R:RR}{h:Heap}{tk:Nat}{P G S F E a d pl bd:Nat}{t1 t2 t3 t4 t5 ed ep eg tl tr:Nat}{lb rs:Int}{x:Int×Nat}{xs:List (Int×Nat)}{ys:List Value}{ρ:List (Int×Value)}
theorem MM{z0:Bool}{u:Int}{tu:Nat}(RA:aa A 45)(TT:aE J.P h)(hP:h.get? P=some (tup [.str fk t1,.ref a,.ref E]))(ha:h.get? a=some (ins 184 d))
 (hd:h.get? d=some (dct [ent J.P jW t2 (.int lb tl),ent J.P p9 t3 (.ref pl),ent J.P iz t4 (.int rs tr),ent J.P iO t5 (.ref bd)] ed)) (hpl:h.get? pl=some (lst ((x::xs).map rL) ep)) (hG:h.get? G=some (lst (kv z0 u tu::ys) eg))
 (hE:h.DictOf (intKind pw J.W) E ρ) (lE:534≤E) (hxy:xs.length=ys.length) (hr:∀j,j<ys.length→∃a,ys[j]? =some (.ref a)) (hz:ρ.length+xs.length≤899)
 (H:∀h' tk' p D (cs:List Nat),Kp [] h h'→cs.length=xs.length+1→(∀c∈cs,⇑h≤c)→cs.Pairwise (·<·)→(∀(j:Nat)(c:Nat)(v:Value),cs[j]? =some c→((kv z0 u tu:Value)::ys)[j]? =some v→h'.get? c=some (lst [v] 0))→
  ⇑h≤D→h'.DictOf (intKind pw J.W) D (bindAll ρ (x::xs) cs)→⇑h≤p→h'.get? p=some (tup [.ref bd,.ref D])→R (rt (.ref p)) (J.S h' tk')):
 codeAny J.M A (aK 485 [.ref P,.ref G,.ref S,.ref F]) R (J.S h tk):=by
 have B:=aG (prog:=pw) (w:=J.W) (mods:=[]) TT (by k_in) (ro:=[(P,_),(a,_),(d,_),(pl,_),(G,_)]) (rC hP (by k_in) (rC ha (by simp) (rC hd kNn (rC hpl (by k_in) (rC hG (by k_in) rN)))))
 refine app.b0 (fD P t1 a d ed E 0 pl G S F t2 t3 t4 t5 tl tr bd ep eg ⇑h tk 0 0 0 0 0 lb rs .none _ _ [] []) (RA.less rfl) B fG (fun h1 _ H1=>.call (SN (H1.rep.kp.dict hE kNn) (#[0x11123e8d110383d21001,ρ.length,xs.length] hz) lE (fun h2 nJ Uh=>?_)))
 refine DictOf.objE nJ fun Xv Xw wg=>?_
 have K2:Kp [] h1 h2:=Ug rfl Uh wg
 have s1:⇑h1=⇑h+1:=H1.size
 have l2:⇑h1<⇑h2:=aj wg
 have Ui:534≤⇑h:=by
  obtain⟨oE,Xx,Xy,Uj,_⟩:=id hE
  have:E<⇑h:=aj Uj
  left
 refine app.b1 (RA.less rfl) B H1.k (by rw[s1]at wg⊢;exact H1.rep.new K2 wg) (fun h3 _ H3=>.code (codeAny_mono ?_ o5))
 have s3:⇑h3=⇑h2+5:=H3.size
 have K3:Kp [] h h3:=H3.kp
 have bK:pl<⇑h:=aj hpl
 have lG:G<⇑h:=aj hG
 have hr':∀j,0≤j→j<((kv z0 u tu:Value)::ys).length→∃z m t,((kv z0 u tu:Value)::ys)[j]? =some (kv z m t):=fun j _ hl=>by
  cases j with
  |zero=>exact⟨z0,u,tu,rfl⟩
  |succ j=>
   obtain⟨a,e⟩:=hr j (Nat.lt_of_succ_lt_succ hl)
   exact⟨false,0,a,e⟩
 refine Iu (xs:=x::xs) (ys:=kv z0 u tu::ys) (n:=⇑h2) (pl:=pl) (G:=G) (P:=P) (S:=S) (F:=F) (fr:=⇑h) (D:=⇑h1) (aa.up H3.k RA rfl) l2 (by left) (#[0x111110531412413111c20123,⇑h1,⇑h,⇑h2,pl] s1 l2 bK) (#[0x111110531412413111c20123,⇑h1,⇑h,⇑h2,G] s1 l2 lG) (by left) Ui (by right) (by left) (#[0x110110511332311c20122,⇑h1,⇑h,pl] s1 bK) (by left) (#[0x110110511332311c20122,⇑h1,⇑h,G] s1 lG) (xs.length+1) 0 (Nat.zero_add _) (congrArg Nat.succ hxy) hr' h3 _ ρ false 0 0 .none .none _ (TT.kp K3 (by k_in))
  ⟨H3.get 6 rfl,H3.get 4 rfl,⟨_,_,H3.get 5 rfl⟩,(fR (H3.get 2 rfl)),(fR (H3.get 3 rfl))⟩ (K3.keep _ _ (by k_in) hpl) (K3.keep _ _ (by k_in) hG) (H3.get 0 rfl) (DictOf.at nJ wg (H3.get 1 rfl)) (#[0x1112384d11c20100383d21001,ρ.length,xs.length] hz) (Nat.le_of_eq s3.symm) (fun q=>Nat.noConfusion q) (fun h4 _ cs pW q4 ou ow i4 y4 K4 lc gc pc hc C2 jR=>?_)
 refine DictOf.objE jR fun Gg Uk IB=>?_
 have hM:∀x∈ue ⇑h2 ⇑h ⇑h1,⇑h≤x:=by
  intro x hx
  simp at hx
  lia
 have gY:Kp [] h h4:=⟨fun b o _ e=>K4.keep _ _ (fun q=>Nat.lt_irrefl _ (aJ (aj e) (hM b q))) (K3.keep _ _ (by k_in) e),aq K3.size K4.size⟩
 refine app.b2 (f:=pn J q4 ou i4 ow y4) (g:=pW) (h:=Gg) (i:=Uk) (j:=⇑h4) (RA.less rfl) B H3.k ?_ (fun h5 _ H5=>?_)
 ·refine⟨rfl,?_,?_,?_,fun b o hb e=>gY.keep _ _ hb e,gY.size⟩
  ·intro p hp
   rcases mC hp with hp|hp
   ·rw[hp];exact C2
   ·rw[mS hp];exact IB
  ·exact TV (show ⇑h<⇑h1 by left)
  ·intro p hp
   rcases mC hp with hp|hp
   ·rw[hp];exact .inr (bl)
   ·rw[mS hp];exact .inr (by show ⇑h≤⇑h1;left)
 ·have k5:=H5.seg
  refine H h5 _ _ _ cs H5.kp lc (fun c hc'=>by have:=gc c hc';left) pc (fun j c v hj hv=>k5.keep _ _ ?_ (hc j c v hj ((Nat.zero_add j).symm▸hv))) ?_ (DictOf.at jR IB (H5.get 0 rfl)) ?_ (H5.get 1 rfl)
  ·have hh:=gc c (List.mem_of_getElem? hj)
   exact CZ (show ⇑h<c by left) (show ⇑h1<c from #[0x111101541114305c20322113,⇑h1,⇑h2,⇑h3,c] l2 s3 hh)
  ·left
  ·exact gY.size
end
end
section
variable [Zero Heap]
section
variable {J:WX}{A:Around}{R:RR}{h:Heap}{tk:Nat}{P G S F KD SH:Nat}{t1 t2 t3 t4 es eg e1 ta tb:Nat}{a b:Int}{fs:List Value}{ρ:List (Int×Value)}
theorem MR(RA:aa A 45)(TT:aE J.P h)(hP:h.get? P=some (tup [.str kJ t1,.int 1 t2]))(hS:h.get? S=some (iT J.P t3 t4 KD SH es))(hG:h.get? G=some (lst [.int a ta,.int b tb] eg))(hF:h.get? F=some (lst fs e1))(hz:fs.length≤1000)
 (hK:h.DictOf (intKind pw J.W) KD ρ) (Ul:ρ.length≤1000) (lK:534≤KD) (n1:P≠KD) (n2:S≠KD) (n3:G≠KD) (n4:F≠KD)
 (H:∀h' tk' p m em t,Kp [KD] h h'→⇑h≤m→h'.get? m=some (lst fs em)→h'.DictOf (intKind pw J.W) KD (stored ρ a (.ref m))→⇑h≤p→h'.get? p=some (tup [.str aX t,.int b tb])→R (rt (.ref p)) (J.S h' tk')):
 codeAny J.M A (aK 485 [.ref P,.ref G,.ref S,.ref F]) R (J.S h tk):=by
 refine DictOf.objE hK fun ks ke IC=>?_
 have B:=aG (prog:=pw) (w:=J.W) (mods:=[KD]) TT (by k_in) (ro:=[(P,_),(S,_),(G,_)]) (rC hP (by k_in) (rC hS (by k_in) (rC hG (by k_in) rN)))
 let vv:Vv:=fD P G S F KD SH t1 t2 t3 t4 es ta tb eg ke ⇑h tk 0 0 0 0 0 0 0 0 0 0 a b .none [] [] [] ks
 refine kept.b0 vv (RA.less rfl) B (gV IC) (fun h1 _ H1=>.call (qZ (H1.kp.keep _ _ (by k_in) hF) hz fun h2 em k2 e2=>?_))
 have K2:Kp [] h1 h2:=.AJ k2 (Nat.le_of_lt (aj e2))
 have m1:⇑h≤⇑h1:=H1.kp.size
 have m2:⇑h1<⇑h2:=aj e2
 refine kept.b1 (c:=fs) (d:=em) (b:=⇑h2) (RA.less rfl) B H1.k (by rw[H1.size]at e2⊢;exact H1.rep.new K2 e2) (fun h3 _ H3=>.code (yh (H3.kp.keep _ _ (by k_in) hS) (fun _=>?_)))
 refine kept.b2 (RA.less rfl) B H3.k H3.rep (fun h4 _ H4=>.code (CP (DictOf.at hK IC (H4.get 0 rfl)) Ul fun h5 aY ID sb=>?_))
 refine DictOf.objE ID fun Xz XA IE=>?_
 exact kept.b3 (RA.less rfl) B H4.k (H4.rep.upd (H4.bg 0 rfl rfl) (dz.same sb IE)) (fun h6 _ H6=>H h6 _ _ _ _ _ H6.kp m1 (H6.get 1 rfl) (DictOf.at ID IE (H6.get 0 rfl)) (by show ⇑h≤_;left) (H6.get 2 rfl))
end
inductive qo (h:Heap):Value→Value→Prop
 |int {i t}:qo h (.int i t) (.int i t)
 |di {u t b c t'}:h.get? u=some (tup [.str fk t,.ref b,.ref c])→qo h (.ref u) (.str fk t')
noncomputable def wh(h:Heap)(v:Value):Prop:=(∃i t,v=.int i t)∨∃u t b c,v=.ref u∧h.get? u=some (tup [.str fk t,.ref b,.ref c])
noncomputable def uf(P:Params)(h:Heap)(L:Addr)(k:Nat):Prop:=(k=0∧∃le,h.get? L=some (dct [] le))∨∃t y le,h.get? L=some (dct [ent P aX t y] le)
section
variable {J:WX}{A:Around}{R:RR}{G it acc L fr eg:Nat}{gs:List Value}
theorem uf.pv{h:Heap}{L k:Nat}(x:uf J.P h L k):∃z t y le,h.get? L=some (dct (pe J aX z t y) le):=by
 rcases x with⟨_,le,e⟩|⟨t,y,le,e⟩
 ·exact⟨false,0,.none,le,e⟩
 ·exact⟨true,t,y,le,e⟩
theorem uf.Um{G:Prop}{h:Heap}{L k:Nat}(x:uf J.P h L k)(kk:∀z t y le,h.get? L=some (dct (pe J aX z t y) le)→G):G:=by
 obtain⟨v0,v1,v2,v3,q0⟩:=uf.pv x
 exact kk v0 v1 v2 v3 q0
noncomputable def isName:PySem.Expr→Bool
 |.Name ..=>true
 |_=>false
theorem lB{e:PySem.Expr}(h:isName e=true)(it:Value):∀v,letOwnedTupleGo e it v=pure ():=by
 intro v
 cases e<;>first|rfl|exact Bool.noConfusion h
theorem Un(P:Params)(it:Value):∀v,letOwnedTupleGo (fO (gR P)) it v=pure ():=lB ∅ it
theorem IsListIter.keep{m:List Addr}{h h':Heap}{I l:Addr}{k:Nat}(x:h.IsListIter I l k)(kp:Kp m h h')(n:I∉m):h'.IsListIter I l k:=x.at fun o e=>kp.keep _ _ n e
theorem Kp.but{a:Addr}{h h':Heap}(sb:Heap.SameBut a h h'):Kp [a] h h':=⟨fun b o hb e=>(sb.2 b (fun q=>hb (by simp[q]))).trans e,Nat.le_of_eq sb.1.symm⟩
theorem qo.keep{h h':Heap}{m:List Addr}{v s:Value}(x:qo h v s)(kp:Kp m h h')(n:∀u,v=.ref u→u∉m):qo h' v s:=by
 cases x with
 |int=>exact .int
 |di e=>exact .di (kp.keep _ _ (n _ rfl) e)
theorem wh.keep{h h':Heap}{m:List Addr}{v:Value}(x:wh h v)(kp:Kp m h h')(n:∀u,v=.ref u→u∉m):wh h' v:=by
 rcases x with x|⟨u,t,b,c,rfl,e⟩
 ·exact .inl x
 ·exact .inr ⟨u,t,b,c,rfl,kp.keep _ _ (n _ rfl) e⟩
theorem IF(RA:aa A 30)(d1:it≠acc)(d2:it≠L)(d3:acc≠L)(g1:534≤it)(g2:534≤acc)(g3:534≤L)(n1:G≠it)(n2:G≠acc)(n3:G≠L)(hgs:gs.length≤900):
 ∀(r:Nat)(k:Nat),k+r=gs.length→∀(h:Heap)(tk:Nat)(ys:List Value)(ea:Nat),aE J.P h→h.IsListIter it G k→h.get? G=some (lst gs eg)→h.get? acc=some (lst ys ea)→ys.length=k→uf J.P h L k→L+1=⇑h→
  (∀v∈gs,wh h v)→(∀v∈gs,∀u,v=.ref u→u∉[it,acc,L])→
  (∀h' tk' ys' ea',Kp [it,acc,L] h h'→h'.get? acc=some (lst (ys++ys') ea')→ys'.length=r→(∀j v s,gs[k+j]? =some v→ys'[j]? =some s→qo h' v s)→(k+r≠0→∃t y le,h'.get? L=some (dct [ent J.P aX t y] le))→R (.ok .next) (J.S h' tk'))→
  codeAny J.M A (su J.P it acc L fr) (ay R) (J.S h tk)
 |0,k,hk,h,tk,ys,ea,TT,hit,hG,hacc,hy,hL,C3,hsh,hne,H=>by
  refine C4 RA.handled hit hG (by simp;exact #[0x11103112020c1021,k,gs.length] hk) (fun h' kk=>?_)
  have hl:∃o,h.get? L=some o:=by
   rcases hL with⟨_,le,e⟩|⟨t,y,le,e⟩<;>exact⟨_,e⟩
  obtain⟨o,ho⟩:=hl
  have hsz:⇑h≤⇑h':=C3▸aj (kk L o (Ne.symm d2) ho)
  have K:Kp [it,acc,L] h h':=⟨fun b o hb e=>kk b o (fun q=>hb (by simp[q])) e,hsz⟩
  refine H h' tk [] ea K (by simpa using kk _ _ (Ne.symm d1) hacc) rfl (by simp) (fun h0=>?_)
  rcases hL with⟨q,_⟩|⟨t,y,le,e⟩
  ·exact absurd q h0
  ·exact⟨t,y,le,kk _ _ (Ne.symm d2) e⟩
 |r+1,k,hk,h,tk,ys,ea,TT,hit,hG,hacc,hy,hL,C3,hsh,hne,H=>by
  have hk':k<gs.length:=#[0x11013311131c201021,k,r,gs.length] hk
  obtain⟨v,hv⟩:∃v,gs[k]? =some v:=⟨_,a_ hk'⟩
  have C5:v∈gs:=List.mem_of_getElem? hv
  refine IG hit hG hv (Un _ _) (fun h1 qp sb=>?_)
  have K1:Kp [it] h h1:=.but sb
  have eG:aE J.P h1:=TT.kp K1 (by k_in)
  have Uo:=K1.keep _ _ (by k_in) hG
  have II:=K1.keep _ _ (by k_in) hacc
  have s1:⇑h1=⇑h:=sb.1
  have next:∀(h2:Heap)(ao:Nat)(s:Value)(aU:Nat)(t:Nat)(le:Nat),Kp [acc,L] h1 h2→h2.get? acc=some (lst (ys++[s]) aU)→h2.get? L=some (dct [ent J.P aX t v] le)→⇑h2=⇑h1→qo h v s→
   codeAny J.M A (su J.P it acc L fr) (ay R) (J.S h2 ao):=by
   intro h2 ao s aU t le K2 ha2 qq s2 hs
   have dG:Kp [it,acc,L] h h2:=(K1.more (by k_in)).trans (K2.more (by k_in))
   refine IF RA d1 d2 d3 g1 g2 g3 n1 n2 n3 hgs r (k+1) (#[0x1110310133121c100231c201021,k,r,gs.length] hk) h2 ao (ys++[s]) aU (eG.kp K2 (by k_in)) (IsListIter.keep qp K2 (by k_in)) (K2.keep _ _ (by k_in) Uo) ha2 (by simp[hy]) (.inr ⟨t,v,le,qq⟩) (#[0x11010110711010017411c10234223221c1023,L,⇑h,⇑h1,⇑h2] C3 s1 s2)
    (fun x hx=>(hsh x hx).keep dG (hne x hx)) hne (fun h3 az Up Uq K3 jv Ur Us Ut=>H h3 az (s::Up) Uq (dG.trans K3) (by simpa using jv) (by simp[Ur]) ?_ (fun _=>Ut (by right)))
   intro j x y hx hy'
   cases j with
   |zero=>
    rw[Nat.add_zero,hv]at hx
    obtain rfl:=bV hx
    obtain rfl:s=y:=by simpa using hy'
    exact hs.keep (dG.trans K3) (hne v C5)
   |succ j=>exact Us j x y (by rw[←hx];congr 1;exact #[0x111111c2010121c10020,k,j]) (by simpa using hy')
  have IJ:∀{o},h.get? L=some o→h1.get? L=some o:=fun e=>K1.keep _ _ (by k_in) e
  have nd:([L,acc]:List Nat).Nodup:=by simp;exact Ne.symm d3
  refine hL.Um fun z0 t5 y0 le hLe=>?_
  rw[uE]
  rcases hsh v C5 with⟨u,tu,rfl⟩|⟨u,tt,vb,vc,rfl,hu⟩
  ·have B:=aG (prog:=pw) (w:=J.W) (mods:=[L,acc]) eG (by k_in) (ro:=[]) trivial
   refine yR.b0 z0 (gm it acc L fr le ea tu t5 ⇑h1 tk 0 0 u y0 ys []) rfl (RA.less rfl) B (cj (IJ hLe) II (Ne.symm d3)) (fun h2 _ H2=>.code (dZ (H2.get 0 rfl) (by show ys.length≤1000;left) fun h3 U=>?_))
   refine yR.b1 (RA.less rfl) B H2.k (H2.rep.upd (H2.bg 0 rfl rfl) U) (fun h4 _ H4=>?_)
   rw[yR.k1]
   exact next h4 _ _ _ _ _ (H4.kp.more (by k_in)) (H4.get 1 rfl) (H4.get 0 rfl) H4.size .int
  ·refine Fl (hne _ C5 u rfl) fun hu1 GO XC=>?_
   have hu1:=K1.keep _ _ (by k_in) hu
   have B:=aG (prog:=pw) (w:=J.W) (mods:=[L,acc]) eG (by k_in) (ro:=[(u,_)]) (rC hu1 (by k_in) rN)
   refine yS.b0 z0 (mQ it acc L fr le ea u tt vb vc t5 ⇑h1 tk 0 0 y0 ys []) rfl (RA.less rfl) B (cj (IJ hLe) II (Ne.symm d3)) (fun h2 _ H2=>.code (dZ (H2.get 0 rfl) (by show ys.length≤1000;left) fun h3 U=>?_))
   refine yS.b1 (RA.less rfl) B H2.k (H2.rep.upd (H2.bg 0 rfl rfl) U) (fun h4 _ H4=>?_)
   rw[yS.k1]
   exact next h4 _ _ _ _ _ (H4.kp.more (by k_in)) (H4.get 1 rfl) (H4.get 0 rfl) H4.size (.di hu)
end
section
variable {J:WX}{A:Around}{R:RR}{h:Heap}{tk:Nat}{P G S F KD SH:Nat}{t1 t2 t3 t4 es eg e1:Nat}{xs gs:List Value}
theorem Uu{prog:Program}{elt target iter:PySem.Expr}{scope:Scope}{pos:Pos}{it G k:Nat}{acc:Value}{env:Env}(hit:h.IsListIter it G k)
 (H:codeAny (model prog w) A (.compLoop (.ListComp elt [⟨target,iter,[],0⟩] scope pos) 0 (.ref it) acc env) R (J.S h tk)):
 codeAny (model prog w) A (.compStart (.ListComp elt [⟨target,iter,[],0⟩] scope pos) 0 (.ref it) acc env) R (J.S h tk):=codeAny_compStart_list H (wpAny_pyIter_listiter hit H)
theorem Uv{u n:Nat}(h:u<n):u∉([n+1,n+2,n+3]:List Nat):=#[0x11013101310133c202c201c203152111,u,n] h
theorem Uw{a b c:Nat}(h:a<b)(h':b<c):([a,b,c]:List Nat).Nodup:=by simp;exact⟨⟨#[0x1101321132111,a,b] h,#[0x11011431133212112,a,b,c] h h'⟩,#[0x1101321132111,b,c] h'⟩
theorem MV(RA:aa A 45)(TT:aE J.P h)(hP:h.get? P=some (tup [.str kJ t1,.int 2 t2]))(hS:h.get? S=some (iT J.P t3 t4 KD SH es))(hG:h.get? G=some (lst gs eg))(hH:h.get? SH=some (lst xs e1))(hz:xs.length≤1000)
 (hgs:gs.length≤900) (XD:gs.length≠0) (hsh:∀v∈gs,wh h v) (lS:534≤SH) (n1:P≠SH) (n2:S≠SH) (n3:G≠SH) (n4:∀v∈gs,∀u,v=.ref u→u≠SH)
 (H:∀h' tk' p q ys ea t z e3,Kp [SH] h h'→h'.get? SH=some (lst (xs++[.ref q]) e3)→⇑h≤q→h'.get? q=some (lst ys ea)→ys.length=gs.length→(∀(j:Nat)(v s:Value),gs[j]? =some v→ys[j]? =some s→qo h' v s)→
  ⇑h≤p→h'.get? p=some (tup [.str aX t,.int 0 z])→R (rt (.ref p)) (J.S h' tk')):
 codeAny J.M A (aK 485 [.ref P,.ref G,.ref S,.ref F]) R (J.S h tk):=by
 have B:=aG (prog:=pw) (w:=J.W) (mods:=[SH]) TT (by k_in) (ro:=[(P,_),(S,_),(G,_)]) (rC hP (by k_in) (rC hS (by k_in) (rC hG (by k_in) rN)))
 let vv:Vv:=gn P G S F KD SH t1 t2 t3 t4 es eg e1 ⇑h tk 0 0 0 0 .none .none gs xs []
 refine show.b0 vv (RA.less rfl) B (gV hH) (fun h1 _ H1=>.code (Bo (H1.kp.keep _ _ (by k_in) hS) (fun _=>?_)))
 refine show.b1 (RA.less rfl) B H1.k H1.rep (fun h3 az H3=>.code ?_)
 have s3:⇑h3=⇑h+4:=H3.size
 have K3:Kp [SH] h h3:=H3.kp
 have hsz:534≤⇑h:=Nat.le_of_lt (Nat.lt_of_le_of_lt lS (aj hH))
 have lG:G<⇑h:=aj hG
 have lH:SH<⇑h:=aj hH
 have hu:∀v∈gs,∀u,v=.ref u→u<⇑h:=by
  intro v hv u e
  rcases hsh v hv with⟨i,t,e'⟩|⟨u',t,b,c,e',hh⟩
  ·rw[e]at e';cases e'
  ·rw[e]at e';cases e';exact aj hh
 have hit:h3.IsListIter (⇑h+1) G 0:=fR (H3.get 0 rfl)
 refine Uu hit (codeAny_mono (IF (G:=G) (gs:=gs) (eg:=eg) (it:=⇑h+1) (acc:=⇑h+2) (L:=⇑h+3) (fr:=⇑h) (aa.up H3.k RA rfl) (by left) (by left) (by left) (by left) (by left) (by left) (oM (oF lG)) (oM (oF lG)) (oM (oF lG)) hgs gs.length 0 (#[0x111111110c020,gs.length]) h3 _ [] 0 (TT.kp K3 (by k_in)) hit (K3.keep _ _ (by k_in) hG) (H3.get 1 rfl) rfl (.inl ⟨rfl,0,H3.get 2 rfl⟩) (#[0x110131103111c3c20024c20121,⇑h3,⇑h] s3)
  (fun v hv=>(hsh v hv).keep K3 (fun u e=>by k_in)) (fun v hv u e=>Uv (hu v hv u e)) (fun h4 av ys IK K4 Ux ly Uy bP=>?_)) o5)
 obtain⟨lt,lv,lp,bP⟩:=bP (by lia)
 have hM:∀x∈([⇑h+1,⇑h+2,⇑h+3]:List Nat),⇑h≤x:=by intro x hx;simp at hx;lia
 have nM:∀{x:Nat},x<⇑h→x∉([⇑h+1,⇑h+2,⇑h+3]:List Nat):=fun{x} hx q=>Nat.lt_irrefl _ (aJ hx (hM _ q))
 have gY:Kp [SH] h h4:=⟨fun b o hb e=>K4.keep _ _ (nM (aj e)) (K3.keep _ _ hb e),aq K3.size K4.size⟩
 have e3:h4.get? SH=some (lst xs e1):=K4.keep _ _ (nM lH) (H3.get 3 rfl)
 have s4:⇑h+4≤⇑h4:=s3▸K4.size
 refine show.b2 (b:=ys) (c:=IK) (d:=lt) (e:=lv) (f:=lp) (g:=⇑h4) (RA.less rfl) B H3.k ⟨rfl,?_,?_,?_,fun b o hb e=>gY.keep _ _ hb e,gY.size⟩ (fun h5 _ H5=>.code (dZ (H5.get 0 rfl) hz fun h6 U=>?_))
 ·intro p hp
  rcases mC hp with hp|hp
  ·rw[hp];exact e3
  ·rcases mC hp with hp|hp
   ·rw[hp];exact Ux
   ·rw[mS hp];exact bP
 ·show([SH,⇑h+2,⇑h+3]:List Nat).Nodup
  exact Uw (oF lH) (oC rfl)
 ·intro p hp
  rcases mC hp with hp|hp
  ·rw[hp];exact .inl (List.mem_singleton.mpr rfl)
  ·rcases mC hp with hp|hp
   ·rw[hp];exact .inr (br)
   ·rw[mS hp];exact .inr (br)
 ·refine show.b3 (RA.less rfl) B H5.k (H5.rep.upd (H5.bg 0 rfl rfl) U) (fun h7 _ H7=>H h7 _ _ _ ys _ _ _ _ H7.kp (H7.get 0 rfl) (Nat.le_add_right ⇑h 2) (H7.get 1 rfl) ly (fun j v s hv hs=>?_) gY.size (H7.get 2 rfl))
  have hv':=List.mem_of_getElem? hv
  have z:=Uy j v s (by simpa using hv) hs
  rcases hsh v hv' with⟨i,ti,rfl⟩|⟨u,t,b,c,rfl,e⟩
  ·cases z;exact .int
  ·cases z;exact .di (H7.kp.keep _ _ (by k_in) e)
end
end
section
variable [Zero Heap]
section
variable {J:WX}{A:Around}{R:RR}{h:Heap}{tk:Nat}{k:Nat}{pos:Pos}{elt iter target:PySem.Expr}{scope:Scope}{acc:Value}{env:Env}
theorem LG{it:Addr}{x left:Int}(hit:IsRangeIter h it x left 1)(hl:0<left)(ht:∀v,letOwnedTupleGo target (.ref it) v=pure ())
 (H:∀h',IsRangeIter h' it (x+1) (left-1) 1→Heap.SameBut it h h'→
  wpAny J.M A (sA elt target iter scope pos (.ref it) acc env (.int x tk)) (X.postC pw J.W A (ay R)) (X.postE (ay R)) (J.S h' (tk+1))):
 codeAny J.M A (.compLoop (.ListComp elt [⟨target,iter,[],0⟩] scope pos) 0 (.ref it) acc env) (ay R) (J.S h tk):=by
 refine codeAny_of_tree ?_
 show wpAny _ A ((compTurn (.ListComp elt [⟨target,iter,[],0⟩] scope pos) 0 (.ref it) acc env).onRaise (fun x=>do noteFrame x env;theTreesLotGoes x)) _ _ _
 refine wpAny_noted ?_
 rw[compTurn_list1]
 refine wpAny_bind (wpAny_standAt (wpAny_bind (wpAny_pyNext_range_item (s:=(J.S h tk)) hit hl fun h' a1 a2=>?_)))
 refine wpAny_bind (wpAny_of_eq (ht _) ?_)
 exact wpAny_mono (H h' a1 a2) (fun f s' hf=>hf) (fun e s' he=>he.elim)
theorem LH{it:Addr}{x left:Int}(hh:A.handled=none)(hit:IsRangeIter h it x left 1)(hl:left≤0)
 (H:∀h',Heap.ExtBut it h h'→R (.ok .next) (J.S h' tk)):
 codeAny J.M A (.compLoop (.ListComp elt [⟨target,iter,[],0⟩] scope pos) 0 (.ref it) acc env) (ay R) (J.S h tk):=by
 refine codeAny_of_tree ?_
 show wpAny _ A ((compTurn (.ListComp elt [⟨target,iter,[],0⟩] scope pos) 0 (.ref it) acc env).onRaise (fun x=>do noteFrame x env;theTreesLotGoes x)) _ _ _
 refine wpAny_noted ?_
 rw[compTurn_list1]
 exact wpAny_bind (wpAny_standAt (wpAny_bind (wpAny_pyNext_range_end (s:=(J.S h tk)) hh hit hl fun h' a1=>wpAny_pure (H h' a1))))
theorem LI{it d ep:Nat}{kvs:List (Int×Value)}{q:Int}{y:Value}(hit:h.IsKeyIter it d k kvs.length ep)(hd:h.DictAt (intKind pw J.W) d kvs ep)(hx:kvs[k]? =some (q,y))(ht:∀v,letOwnedTupleGo target (.ref it) v=pure ())
 (H:∀h' t,h'.IsKeyIter it d (k+1) kvs.length ep→Heap.SameBut it h h'→
  wpAny J.M A (sA elt target iter scope pos (.ref it) acc env (.int q t)) (X.postC pw J.W A (ay R)) (X.postE (ay R)) (J.S h' tk)):
 codeAny J.M A (.compLoop (.ListComp elt [⟨target,iter,[],0⟩] scope pos) 0 (.ref it) acc env) (ay R) (J.S h tk):=by
 refine codeAny_of_tree ?_
 show wpAny _ A ((compTurn (.ListComp elt [⟨target,iter,[],0⟩] scope pos) 0 (.ref it) acc env).onRaise (fun x=>do noteFrame x env;theTreesLotGoes x)) _ _ _
 refine wpAny_noted ?_
 rw[compTurn_list1]
 refine wpAny_bind (wpAny_standAt (wpAny_bind (wpAny_pyNext_dict_item (s:=(J.S h tk)) hit hd hx fun key h' hk a1 a2=>?_)))
 obtain⟨t,rfl⟩:∃t,key=.int q t:=by
  have hk2:Value.isInt q key=true:=hk
  clear hk
  cases key<;>simp[Value.isInt]at hk2
  rename_i i t
  exact⟨t,by rw[hk2]⟩
 refine wpAny_bind (wpAny_of_eq (ht _) ?_)
 exact wpAny_mono (H h' t a1 a2) (fun f s' hf=>hf) (fun e s' he=>he.elim)
theorem LJ{it d ep:Nat}{kvs:List (Int×Value)}(hh:A.handled=none)(hit:h.IsKeyIter it d k kvs.length ep)(hd:h.DictAt (intKind pw J.W) d kvs ep)(hx:kvs[k]? =none)
 (H:∀h',Heap.ExtBut it h h'→R (.ok .next) (J.S h' tk)):
 codeAny J.M A (.compLoop (.ListComp elt [⟨target,iter,[],0⟩] scope pos) 0 (.ref it) acc env) (ay R) (J.S h tk):=by
 refine codeAny_of_tree ?_
 show wpAny _ A ((compTurn (.ListComp elt [⟨target,iter,[],0⟩] scope pos) 0 (.ref it) acc env).onRaise (fun x=>do noteFrame x env;theTreesLotGoes x)) _ _ _
 refine wpAny_noted ?_
 rw[compTurn_list1]
 exact wpAny_bind (wpAny_standAt (wpAny_bind (wpAny_pyNext_dict_end (s:=(J.S h tk)) hh hit hd hx fun h' a1=>wpAny_pure (H h' a1))))
end
noncomputable def sC(elt target iter test:PySem.Expr)(scope:Scope)(pos:Pos)(it acc:Value)(env:Env)(v:Value):Sem Fin:=
 assign target env v>>=fun _=>isTrue test env (eval test env)>>=fun ok=>(if ok=true then(eval elt env>>=fun x=>call (.builtin "list.append") [acc,x]>>=fun _=>pure ())else pure ())>>=fun _=>again (.compLoop (.ListComp elt [⟨target,iter,[test],0⟩] scope pos) 0 it acc env)
theorem DZ:sC=Am:=by
 funext elt target iter test scope pos it acc env v
 unfold sC Am pB cL
 rw[PySem.W.Fast.te17772580674575903948,PySem.W.Fast.te14044960220447912780,PySem.W.Fast.te11478286150595567475,PySem.W.Fast.te15418851999007992765]
 refine congrArg (Sem.bind _) (funext fun _=>congrArg (Sem.bind _) (funext fun ok=>?_))
 cases ok<;>rfl
theorem wZ(elt target iter test:PySem.Expr)(scope:Scope)(pos:Pos)(it acc:Value)(env:Env):
 compTurn (.ListComp elt [⟨target,iter,[test],0⟩] scope pos) 0 it acc env=(standAt iter.pos>>=fun _=>pyNext it>>=fun r=>match r with
  |none=>pure (.done .next)
  |some v=>letOwnedTupleGo target it v>>=fun _=>sC elt target iter test scope pos it acc env v):=by
 rw[compTurn_list]
 unfold sC
 refine congrArg (Sem.bind _) (funext fun _=>congrArg (Sem.bind _) (funext fun r=>?_))
 cases r with
 |none=>rfl
 |some v=>
  refine congrArg (Sem.bind _) (funext fun _=>congrArg (Sem.bind _) (funext fun _=>?_))
  simp only[List.forIn_cons,List.forIn_nil,if_true,bind_assoc,pure_bind]
  refine congrArg (Sem.bind _) (funext fun ok=>?_)
  cases ok<;>simp[pure_bind]
section
variable {J:WX}{A:Around}{R:RR}{h:Heap}{tk:Nat}{k:Nat}{pos:Pos}{elt iter target test:PySem.Expr}{scope:Scope}{acc:Value}{env:Env}
theorem LL{it:Addr}{x left:Int}(hit:IsRangeIter h it x left 1)(hl:0<left)(ht:∀v,letOwnedTupleGo target (.ref it) v=pure ())
 (H:∀h',IsRangeIter h' it (x+1) (left-1) 1→Heap.SameBut it h h'→
  wpAny J.M A (sC elt target iter test scope pos (.ref it) acc env (.int x tk)) (X.postC pw J.W A (ay R)) (X.postE (ay R)) (J.S h' (tk+1))):
 codeAny J.M A (.compLoop (.ListComp elt [⟨target,iter,[test],0⟩] scope pos) 0 (.ref it) acc env) (ay R) (J.S h tk):=by
 refine codeAny_of_tree ?_
 show wpAny _ A ((compTurn (.ListComp elt [⟨target,iter,[test],0⟩] scope pos) 0 (.ref it) acc env).onRaise (fun x=>do noteFrame x env;theTreesLotGoes x)) _ _ _
 refine wpAny_noted ?_
 rw[wZ]
 refine wpAny_bind (wpAny_standAt (wpAny_bind (wpAny_pyNext_range_item (s:=(J.S h tk)) hit hl fun h' a1 a2=>?_)))
 refine wpAny_bind (wpAny_of_eq (ht _) ?_)
 exact wpAny_mono (H h' a1 a2) (fun f s' hf=>hf) (fun e s' he=>he.elim)
theorem LM{it:Addr}{x left:Int}(hh:A.handled=none)(hit:IsRangeIter h it x left 1)(hl:left≤0)
 (H:∀h',Heap.ExtBut it h h'→R (.ok .next) (J.S h' tk)):
 codeAny J.M A (.compLoop (.ListComp elt [⟨target,iter,[test],0⟩] scope pos) 0 (.ref it) acc env) (ay R) (J.S h tk):=by
 refine codeAny_of_tree ?_
 show wpAny _ A ((compTurn (.ListComp elt [⟨target,iter,[test],0⟩] scope pos) 0 (.ref it) acc env).onRaise (fun x=>do noteFrame x env;theTreesLotGoes x)) _ _ _
 refine wpAny_noted ?_
 rw[wZ]
 exact wpAny_bind (wpAny_standAt (wpAny_bind (wpAny_pyNext_range_end (s:=(J.S h tk)) hh hit hl fun h' a1=>wpAny_pure (H h' a1))))
theorem LN{I l:Addr}{xs:List Value}{e1:Nat}{x:Value}(hit:h.IsListIter I l k)(hl:h.get? l=some (lst xs e1))(hx:xs[k]? =some x)(ht:∀v,letOwnedTupleGo target (.ref I) v=pure ())
 (H:∀h',h'.IsListIter I l (k+1)→Heap.SameBut I h h'→
  wpAny J.M A (sC elt target iter test scope pos (.ref I) acc env x) (X.postC pw J.W A (ay R)) (X.postE (ay R)) (J.S h' tk)):
 codeAny J.M A (.compLoop (.ListComp elt [⟨target,iter,[test],0⟩] scope pos) 0 (.ref I) acc env) (ay R) (J.S h tk):=by
 refine codeAny_of_tree ?_
 show wpAny _ A ((compTurn (.ListComp elt [⟨target,iter,[test],0⟩] scope pos) 0 (.ref I) acc env).onRaise (fun x=>do noteFrame x env;theTreesLotGoes x)) _ _ _
 refine wpAny_noted ?_
 rw[wZ]
 refine wpAny_bind (wpAny_standAt (wpAny_bind (wpAny_pyNext_list_item hit (dw hl) (x:=x) (by simpa using hx) fun h' a1 a2=>?_)))
 refine wpAny_bind (wpAny_of_eq (ht _) ?_)
 exact wpAny_mono (H h' a1 a2) (fun f s' hf=>hf) (fun e s' he=>he.elim)
theorem LO{I l:Addr}{xs:List Value}{e1:Nat}(hh:A.handled=none)(hit:h.IsListIter I l k)(hl:h.get? l=some (lst xs e1))(hx:xs[k]? =none)
 (H:∀h',Heap.ExtBut I h h'→R (.ok .next) (J.S h' tk)):
 codeAny J.M A (.compLoop (.ListComp elt [⟨target,iter,[test],0⟩] scope pos) 0 (.ref I) acc env) (ay R) (J.S h tk):=by
 refine codeAny_of_tree ?_
 show wpAny _ A ((compTurn (.ListComp elt [⟨target,iter,[test],0⟩] scope pos) 0 (.ref I) acc env).onRaise (fun x=>do noteFrame x env;theTreesLotGoes x)) _ _ _
 refine wpAny_noted ?_
 rw[wZ]
 exact wpAny_bind (wpAny_standAt (wpAny_bind (wpAny_pyNext_list_end hh hit (dw hl) (by simpa using hx) fun h' a1=>wpAny_pure (H h' a1))))
end
theorem LP{J:WX}{cy:Params}{A:Around}{R:RR}{C:Code}{tree:Value→Sem Fin}{it:Addr}{M:List Addr}{n:Nat}
 (item:Nat→Value→Prop) (IT:Nat→Heap→Prop) (P:Nat→Heap→Prop) (gM:∀a∈it::M,534≤a) (nM:it∉M)
 (step:∀k h tk,IT k h→k<n→(∀h1 aB x,item k x→IT (k+1) h1→Kp [it] h h1→wpAny J.M A (tree x) (X.postC pw J.W A (ay R)) (X.postE (ay R)) (J.S h1 aB))→codeAny J.M A C (ay R) (J.S h tk))
 (fin:∀h tk,IT n h→(∀h1 aB,Heap.ExtBut it h h1→R (.ok .next) (J.S h1 aB))→codeAny J.M A C (ay R) (J.S h tk))
 (keep:∀k h h',IT k h→Kp M h h'→IT k h')
 (Pk:∀k h h',P k h→Heap.ExtBut it h h'→P k h') (D3:∀k h h',P k h→Heap.ExtBut it h h'→⇑h≤⇑h')
 (turn:∀k h tk x,k<n→item k x→aE cy h→P k h→
  (∀h2 ao,Kp M h h2→P (k+1) h2→codeAny J.M A C (ay R) (J.S h2 ao))→wpAny J.M A (tree x) (X.postC pw J.W A (ay R)) (X.postE (ay R)) (J.S h tk)):
 ∀(r k:Nat),k+r=n→∀h tk,aE cy h→IT k h→P k h→(∀h' tk',Kp (it::M) h h'→P n h'→R (.ok .next) (J.S h' tk'))→codeAny J.M A C (ay R) (J.S h tk)
 |0,k,hk,h,tk,TT,hI,hP,H=>by
  obtain rfl:k=n:=#[0x111031013211220c1021,k,n] hk
  exact fin h tk hI fun h1 aB e=>H h1 aB ⟨fun b o hb eb=>e b o (fun q=>hb (by simp[q])) eb,D3 _ _ _ hP e⟩ (Pk _ _ _ hP e)
 |r+1,k,hk,h,tk,TT,hI,hP,H=>by
  refine step k h tk hI (#[0x11013311131c201021,k,r,n] hk) fun h1 aB x hx jc K1=>?_
  have E1:Heap.ExtBut it h h1:=fun b o hb e=>K1.keep b o (by k_in) e
  have ux:Kp (it::M) h h1:=K1.more (by k_in)
  refine turn k h1 aB x (#[0x11013311131c201021,k,r,n] hk) hx (TT.kp ux gM) (Pk _ _ _ hP E1) fun h2 ao K2 LQ=>?_
  have dG:Kp (it::M) h h2:=ux.trans (K2.more fun a ha=>by simp[ha])
  exact LP item IT P gM nM step fin keep Pk D3 turn r (k+1) (#[0x1110310133121c100231c201021,k,r,n] hk) h2 ao (TT.kp dG gM) (keep _ _ _ jc K2) LQ fun h' tk' K' LR=>H h' tk' (dG.trans K') LR
end
section
variable [Zero Heap]
noncomputable def Tl(its:List Addr)(h:Heap):Prop:=(∀a∈its,a<⇑h)∧∃(c:Nat)(o:Obj),h.get? c=some o∧c+1=⇑h∧c∉its
noncomputable abbrev DP(its:List Addr)(h h':Heap):Prop:=∀c o,c∉its→h.get? c=some o→h'.get? c=some o
theorem Tl.kp{its:List Addr}{h h':Heap}(T:Tl its h)(b:DP its h h'):Kp its h h':=by
 obtain⟨_,c,o,h1,h2,h3⟩:=T
 exact⟨fun c o hc e=>b c o hc e,h2▸aj (b c o h3 h1)⟩
theorem Tl.of{its:List Addr}{h h':Heap}(T:Tl its h){c:Nat}(hc:⇑h≤c){o:Obj}(e:h'.get? c=some o)(hs:c+1=⇑h'):Tl its h':=
 ⟨fun a ha=>aJ (T.1 a ha) (aq hc (by rw[←hs];exact Nat.le_succ _)),c,o,e,hs,fun q=>Nat.lt_irrefl _ (aJ (T.1 c q) hc)⟩
theorem Tl.same{its M:List Addr}{h h':Heap}(T:Tl its h)(K:Kp M h h')(s:⇑h'=⇑h)(hM:∀c,c∈M→c∉its→∃o,h'.get? c=some o):Tl its h':=by
 obtain⟨b,c,o,h1,h2,h3⟩:=T
 refine⟨fun a ha=>by rw[s];exact b a ha,?_⟩
 by_cases hc:c∈M
 ·obtain⟨o',ho⟩:=hM c hc h3
  exact⟨c,o',ho,by rw[s];exact h2,h3⟩
 ·exact⟨c,o,K.keep _ _ hc h1,by rw[s];exact h2,h3⟩
theorem turns{J:WX}{cy:Params}{A:Around}{R:RR}{C:Code}{tree:Value→Sem Fin}{its M:List Addr}{acc:Addr}{n:Nat}
 (item:Nat→Value→Heap→Prop) (IT:Nat→Heap→Prop) (Y:Nat→List Value→Heap→Prop) (gM:∀a∈its++acc::M,534≤a) (na:acc∉its)
 (step:∀k h tk,IT k h→k<n→(∀h1 aB x,item k x h1→IT (k+1) h1→Kp its h h1→(Tl its h→Tl its h1)→wpAny J.M A (tree x) (X.postC pw J.W A (ay R)) (X.postE (ay R)) (J.S h1 aB))→codeAny J.M A C (ay R) (J.S h tk))
 (fin:∀h tk,IT n h→(∀h1,DP its h h1→R (.ok .next) (J.S h1 tk))→codeAny J.M A C (ay R) (J.S h tk))
 (keep:∀k h h',IT k h→Kp (acc::M) h h'→IT k h') (Yk:∀k ys h h',Y k ys h→Kp its h h'→Y k ys h')
 (turn:∀k h tk x ys ea,k<n→item k x h→aE cy h→Tl its h→h.get? acc=some (lst ys ea)→Y k ys h→
  (∀h2 ao aW aU,Kp (acc::M) h h2→Tl its h2→h2.get? acc=some (lst aW aU)→Y (k+1) aW h2→codeAny J.M A C (ay R) (J.S h2 ao))→
  wpAny J.M A (tree x) (X.postC pw J.W A (ay R)) (X.postE (ay R)) (J.S h tk)):
 ∀(r k:Nat),k+r=n→∀h tk ys ea,aE cy h→IT k h→Tl its h→h.get? acc=some (lst ys ea)→Y k ys h→
  (∀h' tk' ys' ea',Kp (its++acc::M) h h'→h'.get? acc=some (lst ys' ea')→Y n ys' h'→R (.ok .next) (J.S h' tk'))→codeAny J.M A C (ay R) (J.S h tk)
 |0,k,hk,h,tk,ys,ea,TT,hI,hT,ha,hY,H=>by
  obtain rfl:k=n:=#[0x111031013211220c1021,k,n] hk
  exact fin h tk hI fun h1 b=>H h1 tk ys ea ((hT.kp b).more (by simp+contextual)) (b _ _ na ha) (Yk _ _ _ _ hY (hT.kp b))
 |r+1,k,hk,h,tk,ys,ea,TT,hI,hT,ha,hY,H=>by
  refine step k h tk hI (#[0x11013311131c201021,k,r,n] hk) fun h1 aB x hx jc K1 t1=>?_
  have ux:Kp (its++acc::M) h h1:=K1.more (by simp+contextual)
  refine turn k h1 aB x ys ea (#[0x11013311131c201021,k,r,n] hk) hx (TT.kp ux gM) (t1 hT) (K1.keep _ _ na ha) (Yk _ _ _ _ hY K1) fun h2 ao aW aU K2 hT2 ha2 WA=>?_
  have dG:Kp (its++acc::M) h h2:=ux.trans (K2.more fun a ha=>by simp at ha⊢;right;exact ha)
  exact turns item IT Y gM na step fin keep Yk turn r (k+1) (#[0x1110310133121c100231c201021,k,r,n] hk) h2 ao aW aU (TT.kp dG gM) (keep _ _ _ jc K2) hT2 ha2 WA fun h' tk' ys' ea' K' ha' WB=>H h' tk' ys' ea' (dG.trans K') ha' WB
section
variable {J:WX}{cy:Params}{A:Around}{R:RR}{e:PySem.Expr}{env:Env}{it acc G z TI TO i1 i2 l1 l2:Nat}{M:List Addr}{gs xs zs:List Value}{eg e1 e2 n:Nat}
theorem qK{its:List Addr}{a:Addr}{h h':Heap}(b:Heap.ExtBut a h h')(ha:a∈its):DP its h h':=fun c o hc e=>b c o (fun q=>hc (q▸ha)) e
noncomputable abbrev sI(J:WX)(cy:Params)(A:Around)(R:RR)(C:Code)(tree:Value→Sem Fin)(its M:List Addr)(acc:Addr)(n:Nat)(item:Nat→Value→Heap→Prop)(Y:Nat→List Value→Heap→Prop):Prop:=
 ∀k h tk x ys ea,k<n→item k x h→aE cy h→Tl its h→h.get? acc=some (lst ys ea)→Y k ys h→
  (∀h2 ao aW aU,Kp (acc::M) h h2→Tl its h2→h2.get? acc=some (lst aW aU)→Y (k+1) aW h2→codeAny J.M A C (ay R) (J.S h2 ao))→
  wpAny J.M A (tree x) (X.postC pw J.W A (ay R)) (X.postE (ay R)) (J.S h tk)
noncomputable abbrev Ag(k:Nat)(x:Value)(_:Heap):Prop:=∃t,x=.int (k:Int) t
noncomputable abbrev Ah(gs:List Value)(k:Nat)(x:Value)(_:Heap):Prop:=gs[k]? =some x
noncomputable abbrev Lh(xs zs:List Value)(k:Nat)(v:Value)(h:Heap):Prop:=∃p x y,v=.ref p∧xs[k]? =some x∧zs[k]? =some y∧h.get? p=some (tup [x,y])∧p+1=⇑h
theorem D8(Y:Nat→List Value→Heap→Prop)(hh:A.handled=none)(hn:isName (fO e)=true)(gM:∀a∈[it]++acc::M,534≤a)(na:acc∉[it])(nM:it∉acc::M)
 (Yk:∀k ys h h',Y k ys h→Kp [it] h h'→Y k ys h') (turn:sI J cy A R (aT e env it acc) (fF e env it acc) [it] M acc n Ag Y)
 {h:Heap} {tk:Nat} {ea:Nat} (TT:aE cy h) (hI:IsRangeIter h it (0:Nat) n 1) (hT:Tl [it] h) (ha:h.get? acc=some (lst [] ea)) (hY:Y 0 [] h)
 (H:∀h' tk' ys' ea',Kp ([it]++acc::M) h h'→h'.get? acc=some (lst ys' ea')→Y n ys' h'→R (.ok .next) (J.S h' tk')):codeAny J.M A (aT e env it acc) (ay R) (J.S h tk):=by
 refine turns (C:=aT e env it acc) (tree:=fF e env it acc) Ag (fun k h=>IsRangeIter h it (k:Int) ((n-k:Nat):Int) 1) Y gM na (fun k h tk hI hk H=>?_) (fun h tk hI H=>?_) (fun k h h' hI K=>K.keep _ _ nM hI) Yk turn n 0 (#[0x111111110c020,n]) h tk [] ea TT (by simpa using hI) hT ha hY H
 ·refine LG hI (by lia) (lB hn _) fun h1 a b=>?_
  rw[uE]
  have K:Kp [it] h h1:=.but b
  exact H h1 _ _ ⟨_,rfl⟩ (by have e:((n-k:Nat):Int)-1=((n-(k+1):Nat):Int):=(by lia);rw[←e];exact a) K fun T=>T.same K b.1 (fun c hc hn=>absurd hc hn)
 ·exact LH hh hI (by lia) fun h1 b=>H h1 (qK b (by k_in))
theorem Mc(Y:Nat→List Value→Heap→Prop)(hh:A.handled=none)(hn:isName (fO e)=true)(gM:∀a∈[it]++acc::M,534≤a)(na:acc∉[it])(nM:it∉acc::M)
 (Yk:∀k ys h h',Y k ys h→Kp [it] h h'→Y k ys h') (turn:sI J cy A R (ia e env it acc) (sM e env it acc) [it] M acc n Ag Y)
 {h:Heap} {tk:Nat} {ea:Nat} (TT:aE cy h) (hI:IsRangeIter h it (0:Nat) n 1) (hT:Tl [it] h) (ha:h.get? acc=some (lst [] ea)) (hY:Y 0 [] h)
 (H:∀h' tk' ys' ea',Kp ([it]++acc::M) h h'→h'.get? acc=some (lst ys' ea')→Y n ys' h'→R (.ok .next) (J.S h' tk')):codeAny J.M A (ia e env it acc) (ay R) (J.S h tk):=by
 refine turns (C:=ia e env it acc) (tree:=sM e env it acc) Ag (fun k h=>IsRangeIter h it (k:Int) ((n-k:Nat):Int) 1) Y gM na (fun k h tk hI hk H=>?_) (fun h tk hI H=>?_) (fun k h h' hI K=>K.keep _ _ nM hI) Yk turn n 0 (#[0x111111110c020,n]) h tk [] ea TT (by simpa using hI) hT ha hY H
 ·refine LL hI (by lia) (lB hn _) fun h1 a b=>?_
  rw[DZ]
  have K:Kp [it] h h1:=.but b
  exact H h1 _ _ ⟨_,rfl⟩ (by have e:((n-k:Nat):Int)-1=((n-(k+1):Nat):Int):=(by lia);rw[←e];exact a) K fun T=>T.same K b.1 (fun c hc hn=>absurd hc hn)
 ·exact LM hh hI (by lia) fun h1 b=>H h1 (qK b (by k_in))
theorem pD(Y:Nat→List Value→Heap→Prop)(hh:A.handled=none)(hn:isName (fO e)=true)(gM:∀a∈[it]++acc::M,534≤a)(na:acc∉[it])(nM:it∉acc::M)(nG:G∉acc::M)
 (Yk:∀k ys h h',Y k ys h→Kp [it] h h'→Y k ys h') (turn:sI J cy A R (aT e env it acc) (fF e env it acc) [it] M acc gs.length (Ah gs) Y)
 {h:Heap} {tk:Nat} {ea:Nat} (TT:aE cy h) (hI:h.IsListIter it G 0) (hG:h.get? G=some (lst gs eg)) (WC:G≠it) (hT:Tl [it] h) (ha:h.get? acc=some (lst [] ea)) (hY:Y 0 [] h)
 (H:∀h' tk' ys' ea',Kp ([it]++acc::M) h h'→h'.get? acc=some (lst ys' ea')→Y gs.length ys' h'→R (.ok .next) (J.S h' tk')):codeAny J.M A (aT e env it acc) (ay R) (J.S h tk):=by
 refine turns (C:=aT e env it acc) (tree:=fF e env it acc) (Ah gs) (fun k h=>h.IsListIter it G k∧h.get? G=some (lst gs eg)) Y gM na (fun k h tk hI hk H=>?_) (fun h tk hI H=>?_) (fun k h h' hI K=>⟨IsListIter.keep hI.1 K nM,K.keep _ _ nG hI.2⟩) Yk turn gs.length 0 (#[0x111111110c020,gs.length]) h tk [] ea TT ⟨hI,hG⟩ hT ha hY H
 ·refine IG hI.1 hI.2 (a_ hk) (lB hn _) fun h1 a b=>?_
  rw[uE]
  have K:Kp [it] h h1:=.but b
  exact H h1 _ _ (a_ hk) ⟨a,K.keep _ _ (by k_in) hI.2⟩ K fun T=>T.same K b.1 (fun c hc hn=>absurd hc hn)
 ·exact C4 hh hI.1 hI.2 (by simp) fun h1 b=>H h1 (qK b (by k_in))
theorem L_(Y:Nat→List Value→Heap→Prop)(hh:A.handled=none)(hn:isName (fO e)=true)(gM:∀a∈[it]++acc::M,534≤a)(na:acc∉[it])(nM:it∉acc::M)(nG:G∉acc::M)
 (Yk:∀k ys h h',Y k ys h→Kp [it] h h'→Y k ys h') (turn:sI J cy A R (ia e env it acc) (sM e env it acc) [it] M acc gs.length (Ah gs) Y)
 {h:Heap} {tk:Nat} {ea:Nat} (TT:aE cy h) (hI:h.IsListIter it G 0) (hG:h.get? G=some (lst gs eg)) (WC:G≠it) (hT:Tl [it] h) (ha:h.get? acc=some (lst [] ea)) (hY:Y 0 [] h)
 (H:∀h' tk' ys' ea',Kp ([it]++acc::M) h h'→h'.get? acc=some (lst ys' ea')→Y gs.length ys' h'→R (.ok .next) (J.S h' tk')):codeAny J.M A (ia e env it acc) (ay R) (J.S h tk):=by
 refine turns (C:=ia e env it acc) (tree:=sM e env it acc) (Ah gs) (fun k h=>h.IsListIter it G k∧h.get? G=some (lst gs eg)) Y gM na (fun k h tk hI hk H=>?_) (fun h tk hI H=>?_) (fun k h h' hI K=>⟨IsListIter.keep hI.1 K nM,K.keep _ _ nG hI.2⟩) Yk turn gs.length 0 (#[0x111111110c020,gs.length]) h tk [] ea TT ⟨hI,hG⟩ hT ha hY H
 ·refine LN hI.1 hI.2 (a_ hk) (lB hn _) fun h1 a b=>?_
  rw[DZ]
  have K:Kp [it] h h1:=.but b
  exact H h1 _ _ (a_ hk) ⟨a,K.keep _ _ (by k_in) hI.2⟩ K fun T=>T.same K b.1 (fun c hc hn=>absurd hc hn)
 ·exact LO hh hI.1 hI.2 (by simp) fun h1 b=>H h1 (qK b (by k_in))
theorem Ef(Y:Nat→List Value→Heap→Prop)(hh:A.handled=none){elts:List PySem.Expr}{q:Nat}{tp:Pos}(hn:fO e=.Tuple elts q tp)(gM:∀a∈[z,TO,i1,i2]++acc::M,534≤a)(na:acc∉[z,TO,i1,i2])
 (n1:z∉acc::M) (n2:TI∉acc::M) (n3:TO∉acc::M) (n4:i1∉acc::M) (n5:i2∉acc::M) (WD:l1∉acc::M) (WE:l2∉acc::M) (WG:l1∉[z,TO,i1,i2]) (WH:l2∉[z,TO,i1,i2]) (D:ZipApart z TI TO i1 i2 l1 l2)
 (Yk:∀k ys h h',Y k ys h→Kp [z,TO,i1,i2] h h'→Y k ys h') (turn:sI J cy A R (aT e env z acc) (fF e env z acc) [z,TO,i1,i2] M acc xs.length (Lh xs zs) Y) (hl:xs.length=zs.length)
 {h:Heap} {tk:Nat} {ea:Nat} (TT:aE cy h) (hI:gp z TI TO i1 i2 l1 l2 0 h) (h1:h.get? l1=some (lst xs e1)) (h2:h.get? l2=some (lst zs e2)) (hT:Tl [z,TO,i1,i2] h) (ha:h.get? acc=some (lst [] ea)) (hY:Y 0 [] h)
 (H:∀h' tk' ys' ea',Kp ([z,TO,i1,i2]++acc::M) h h'→h'.get? acc=some (lst ys' ea')→Y xs.length ys' h'→R (.ok .next) (J.S h' tk')):codeAny J.M A (aT e env z acc) (ay R) (J.S h tk):=by
 have hC:aT e env z acc=.compLoop (.ListComp (o9 e) [⟨.Tuple elts q tp,o_ e,[],0⟩] (mH e) (pg e)) 0 (.ref z) (.ref acc) env:=by show Code.compLoop (.ListComp _ [⟨fO e,_,_,_⟩] _ _) _ _ _ _=_;rw[hn]
 have WI:fF e env z acc=fun v=>qM (o9 e) (.Tuple elts q tp) (o_ e) (mH e) (pg e) (.ref z) (.ref acc) env v:=by funext v;show qM _ (fO e) _ _ _ _ _ _ _=_;rw[hn]
 refine turns (C:=aT e env z acc) (tree:=fF e env z acc) (Lh xs zs) (fun k h=>gp z TI TO i1 i2 l1 l2 k h∧h.get? l1=some (lst xs e1)∧h.get? l2=some (lst zs e2)) Y gM na (fun k h tk hI hk H=>?_) (fun h tk hI H=>?_) (fun k h h' hI K=>⟨gp.keep hI.1 K n1 n2 n3 n4 n5,K.keep _ _ WD hI.2.1,K.keep _ _ WE hI.2.2⟩) Yk turn xs.length 0 (#[0x111111110c020,xs.length]) h tk [] ea TT ⟨hI,h1,h2⟩ hT ha hY H
 ·rw[hC]
  refine WJ D hI.1 hI.2.1 hI.2.2 (a_ hk) (List.getElem?_eq_getElem (hl▸hk)) fun h1 a b c K=>?_
  have H':=H h1 tk (.ref ⇑h) ⟨_,_,_,rfl,a_ hk,List.getElem?_eq_getElem (hl▸hk),b,c.symm⟩ ⟨a,K.keep _ _ WG hI.2.1,K.keep _ _ WH hI.2.2⟩ K fun T=>T.of (bl) b c.symm
  rw[uE,←congrFun WI]
  exact H'
 ·rw[hC]
  exact WK hh D hI.1 hI.2.1 hI.2.2 (by simp) fun h1 b=>H h1 fun c o hc e=>b c o (fun q=>hc (by simp[q])) (fun q=>hc (by simp[q])) (fun q=>hc (by simp[q])) (fun q=>hc (by simp[q])) e
end
end
section
open PySem
theorem ak{a x0:Nat}(h0:autoParam (a≠x0) P00):a∉([x0]:List Nat):=by k_in
theorem bI{x0:Nat}(h0:autoParam (534≤x0) P00):∀y∈([x0]:List Nat),534≤y:=by k_in
theorem au{a x0 x1:Nat}(h0:autoParam (a≠x0) P00)(h1:autoParam (a≠x1) P00):a∉([x0,x1]:List Nat):=by k_in
theorem bB{x0 x1:Nat}(h0:autoParam (534≤x0) P00)(h1:autoParam (534≤x1) P00):∀y∈([x0,x1]:List Nat),534≤y:=by k_in
theorem bw{a x0 x1 x2:Nat}(h0:autoParam (a≠x0) P00)(h1:autoParam (a≠x1) P00)(h2:autoParam (a≠x2) P00):a∉([x0,x1,x2]:List Nat):=by k_in
theorem dH{x0 x1 x2:Nat}(h0:autoParam (534≤x0) P00)(h1:autoParam (534≤x1) P00)(h2:autoParam (534≤x2) P00):∀y∈([x0,x1,x2]:List Nat),534≤y:=by k_in
theorem sE{x0 x1 x2:Nat}(h01:autoParam (x0≠x1) P00)(h02:autoParam (x0≠x2) P00)(h12:autoParam (x1≠x2) P00):([x0,x1,x2]:List Nat).Nodup:=by simp[h01,h02,h12]
theorem d7{a x0 x1 x2 x3:Nat}(h0:autoParam (a≠x0) P00)(h1:autoParam (a≠x1) P00)(h2:autoParam (a≠x2) P00)(h3:autoParam (a≠x3) P00):a∉([x0,x1,x2,x3]:List Nat):=by k_in
theorem mP{x0 x1 x2 x3:Nat}(h0:autoParam (534≤x0) P00)(h1:autoParam (534≤x1) P00)(h2:autoParam (534≤x2) P00)(h3:autoParam (534≤x3) P00):∀y∈([x0,x1,x2,x3]:List Nat),534≤y:=by k_in
theorem sV{x0 x1 x2 x3:Nat}(h01:autoParam (x0≠x1) P00)(h02:autoParam (x0≠x2) P00)(DJ:autoParam (x0≠x3) P00)(h12:autoParam (x1≠x2) P00)(cX:autoParam (x1≠x3) P00)(h23:autoParam (x2≠x3) P00):([x0,x1,x2,x3]:List Nat).Nodup:=by simp[h01,h02,DJ,h12,cX,h23]
theorem Rp{a x0 x1 x2 x3 x4:Nat}(h0:autoParam (a≠x0) P00)(h1:autoParam (a≠x1) P00)(h2:autoParam (a≠x2) P00)(h3:autoParam (a≠x3) P00)(h4:autoParam (a≠x4) P00):a∉([x0,x1,x2,x3,x4]:List Nat):=by k_in
theorem Ay{x0 x1 x2 x3 x4:Nat}(h0:autoParam (534≤x0) P00)(h1:autoParam (534≤x1) P00)(h2:autoParam (534≤x2) P00)(h3:autoParam (534≤x3) P00)(h4:autoParam (534≤x4) P00):∀y∈([x0,x1,x2,x3,x4]:List Nat),534≤y:=by k_in
theorem Be{x0 x1 x2 x3 x4:Nat}(h01:autoParam (x0≠x1) P00)(h02:autoParam (x0≠x2) P00)(DJ:autoParam (x0≠x3) P00)(VG:autoParam (x0≠x4) P00)(h12:autoParam (x1≠x2) P00)(cX:autoParam (x1≠x3) P00)(gy:autoParam (x1≠x4) P00)(h23:autoParam (x2≠x3) P00)(VH:autoParam (x2≠x4) P00)(VI:autoParam (x3≠x4) P00):([x0,x1,x2,x3,x4]:List Nat).Nodup:=by simp[h01,h02,DJ,VG,h12,cX,gy,h23,VH,VI]
theorem Dp{a x0 x1 x2 x3 x4 x5:Nat}(h0:autoParam (a≠x0) P00)(h1:autoParam (a≠x1) P00)(h2:autoParam (a≠x2) P00)(h3:autoParam (a≠x3) P00)(h4:autoParam (a≠x4) P00)(h5:autoParam (a≠x5) P00):a∉([x0,x1,x2,x3,x4,x5]:List Nat):=by k_in
theorem Dn{x0 x1 x2 x3 x4 x5:Nat}(h0:autoParam (534≤x0) P00)(h1:autoParam (534≤x1) P00)(h2:autoParam (534≤x2) P00)(h3:autoParam (534≤x3) P00)(h4:autoParam (534≤x4) P00)(h5:autoParam (534≤x5) P00):∀y∈([x0,x1,x2,x3,x4,x5]:List Nat),534≤y:=by k_in
end
theorem yK{M:Model}{Γ:Ctx}{p:Pos}{t:Sem Fin}{fs:List Frame}{s:Shared}{e:End}{s':Shared}(h:Runs M Γ p t fs s e s'):s.heap.objs.size≤s'.heap.objs.size:=by
 induction h with
 |update _ _ ih=>simpa only[Heap.size_update]using ih
 |alloc _ ih=>exact aq (by simp only[Heap.size_push];exact Nat.le_succ _) ih
 |_=>first|exact bl|assumption|(rename_i a b;exact aq a b)
theorem RS{M:Model}{Γ:Ctx}{p:Pos}{g:Nat}{r:Resume}{s:Shared}{res:GenResult}{s':Shared}(h:Wakes M Γ p g r s res s'):s.heap.objs.size≤s'.heap.objs.size:=by
 unfold Wakes at h
 split at h
 ·exact h.elim
 ·split at h
  ·obtain⟨e,s1,h1,_,_,rfl⟩:=h
   have:=yK h1
   exact this
  ·rw[h.2];exact bl
  ·rw[h.2];exact bl
 ·obtain⟨e,s1,h1,_,_,rfl⟩:=h
  have:=yK h1
  exact this
 ·rw[h.2];exact bl
 ·rw[h.2];exact bl
theorem RU{α:Type}{M:Model}{Γ:Ctx}{n:Nat}:∀(t:Sem α)(Q:α→Pos→Shared→Prop)(E:Value→Pos→Shared→Prop)(p:Pos)(s:Shared),n≤s.heap.objs.size→Sem.wp M Γ t Q E p s→Sem.wp M Γ t (fun a p s'=>Q a p s'∧n≤s'.heap.objs.size) (fun e p s'=>E e p s'∧n≤s'.heap.objs.size) p s:=by
 intro t
 induction t with
 |pure a=>exact fun Q E p s l h=>⟨h,l⟩
 |raise e=>exact fun Q E p s l h=>⟨h,l⟩
 |load a part k ih=>exact fun Q E p s l h=>by obtain⟨o,h1,h2⟩:=h;exact⟨o,h1,ih o Q E p s l h2⟩
 |update a part f k ih=>exact fun Q E p s l h=>⟨h.1,ih () Q E p _ (by simpa only[Heap.size_update]using l) h.2⟩
 |alloc o k ih=>exact fun Q E p s l h=>ih _ Q E p _ (aq l (by simp only[Heap.size_push];exact Nat.le_succ _)) h
 |call c hd g l k ih=>
  intro Q E p s l h
  obtain⟨r,s',h1,h2⟩:=h
  exact⟨r,s',h1,ih r Q E p s' (aq l (yK h1)) h2⟩
 |resume g r l k ih=>
  intro Q E p s l h
  obtain⟨res,s',h1,h2⟩:=h
  exact⟨res,s',h1,ih res Q E p s' (aq l (RS h1)) h2⟩
 |choose src m k ih=>exact fun Q E p s l h=>⟨h.1,ih _ Q E p _ l h.2⟩
 |genState g k ih=>exact fun Q E p s l h=>by obtain⟨o,h1,h2⟩:=h;exact⟨o,h1,ih _ Q E p s l h2⟩
 |_=>first|exact fun Q E p s l h=>h.elim|(rename_i ih;exact fun Q E p s l h=>ih _ Q E _ _ l h)
theorem RW{α:Type}{M:Model}{A:Around}{t:Sem α}{Q:α→Shared→Prop}{E:Value→Shared→Prop}{s:Shared}(h:wpAny M A t (fun a s'=>s.heap.objs.size≤s'.heap.objs.size→Q a s') E s):wpAny M A t Q E s:=fun Γ p hΓ=>by
 have z:=RU (n:=s.heap.objs.size) t _ _ p s (bl) (h Γ p hΓ)
 exact Sem.wp_mono M Γ t (fun a p s' h=>h.1 h.2) (fun e p s' h=>h.1) p s z
theorem Bs{M:Model}{A:Around}{c:Code}{R:Result→Shared→Prop}{s:Shared}(h:codeAny M A c (fun r s'=>s.heap.objs.size≤s'.heap.objs.size→R r s') s):codeAny M A c R s:=fun Γ p h1 h2=>by
 obtain⟨r,s',h3,h4⟩:=h Γ p h1 h2
 exact⟨r,s',h3,h4 (yK h3)⟩
section
variable {prog:Program}{w:World}{A:Around}{R:RR}{s:Shared}
theorem SO{l:Addr}{vs:List Value}{ep:Nat}{k:Int}{t:Tok}{x:Value}(hl:s.heap.get? l=some (lst vs ep))(hz:vs.length≤1000)(h0:0≤k)(hk:k.toNat<vs.length)
 (H:∀h' e,dz l (lst (vs.set k.toNat x) e) s.heap h'→R (rt .none) {s with heap:=h'}):codeAny (model prog w) A (blt "list.__setitem__" [.ref l,.int k t,x]) R s:=by
 refine kP PySem.F.slot_list_setitem ⟨_,hl,rfl⟩ PySem.F.entry_list_setitem (PySem.F.args_list_setitem_3 _ _ _) ?_
 show wpAny _ _ (Builtin.List.listSubscript? (.int k t)>>=_) _ _ s
 refine wpAny_bind (wpAny_listSubscript_int (fitsIndex_of h0 (by lia)) ?_)
 obtain⟨k,rfl⟩:=Int.eq_ofNat_of_zero_le h0
 simp only[Int.toNat_natCast]at hk H
 have hx':(⟨vs⟩:Array Value)[k]? =some vs[k]:=by simp[a_ hk]
 show wpAny _ _ ((seqItemAt l k>>=fun r=>pure (r.map (k,·)))>>=_) _ _ s
 refine wpAny_bind (wpAny_bind (wpAny_seqItemAt hl rfl (wpAny_pure ?_)))
 rw[hx']
 show wpAny _ _ (setSeqItemAt l k x>>=_) _ _ s
 refine wpAny_bind (wpAny_setSeqItemAt hl rfl ?_)
 have e:(Obj.mapSeq fun y=>y.setIfInBounds k x) (lst vs ep)=lst (vs.set k x) (ep+1)∨(Obj.mapSeq fun y=>y.setIfInBounds k x) (lst vs ep)=lst (vs.set k x) ep:=by
  simp[Obj.mapSeq,lst]
 have u:∀{o},(Obj.mapSeq fun y=>y.setIfInBounds k x) (lst vs ep)=o→o.isFreed=false→dz l o s.heap (s.heap.update l (Obj.mapSeq fun y=>y.setIfInBounds k x)):=fun{o} e f=>by
  have u:=dz.of (f:=Obj.mapSeq fun y=>y.setIfInBounds k x) hl (by rw[e];exact f)
  rw[e]at u
  exact u
 rcases e with e|e
 ·exact wpAny_pure ⟨.none,rfl,H _ _ (u e rfl)⟩
 ·exact wpAny_pure ⟨.none,rfl,H _ _ (u e rfl)⟩
theorem SP{l:Addr}{vs:List Value}{ep:Nat}{t:Tok}{x:Value}(hl:s.heap.get? l=some (lst (x::vs) ep))(hz:vs.length≤900)
 (H:∀h',dz l (lst vs (ep+1)) s.heap h'→R (rt x) {s with heap:=h'}):codeAny (model prog w) A (blt "list.pop" [.ref l,.int 0 t]) R s:=by
 refine mz PySem.F.slot_list_pop ⟨_,hl,rfl⟩ PySem.F.entry_list_pop (PySem.F.args_list_pop_2 _ _) (MeetsSeq.list_pop_at l ⟨x::vs⟩ ep 0 t 0 x (by decide) (by simp[seqIndex?]) rfl (small (by simp;left))) ⟨hl,H _ ?_⟩
 have e:(Obj.mapSeq fun xs=>xs.eraseIdxIfInBounds 0) (lst (x::vs) ep)=lst vs (ep+1):=by
  have:(⟨x::vs⟩:Array Value).eraseIdxIfInBounds 0=⟨vs⟩:=by
   apply Array.toList_inj.mp
   simp[Array.eraseIdxIfInBounds]
  simp only[Obj.mapSeq,lst,this]
  simp
 exact e▸dz.of hl (by rw[e];rfl)
theorem SQ{l b:Addr}{vs us:List Value}{ep e2:Nat}(hl:s.heap.get? l=some (lst vs ep))(hb:s.heap.get? b=some (lst us e2))(hz:vs.length≤400)(hz2:us.length≤400)
 (H:∀h' e,dz l (lst (vs++us) e) s.heap h'→R (rt .none) {s with heap:=h'}):codeAny (model prog w) A (blt "list.extend" [.ref l,.ref b]) R s:=by
 refine mz PySem.F.slot_list_extend ⟨_,hl,rfl⟩ PySem.F.entry_list_extend (PySem.F.args_list_extend_2 _ _) (AutoSeq1.list_extend_list_list_0 l ⟨vs⟩ ep b ⟨us⟩ e2 ?_ (small (n:=vs.length) (oS hz rfl)) (Nat.le_succ_of_le (small (n:=vs.length+us.length) (#[0x111133e8d12100190d20190d102,vs.length,us.length] hz hz2)))) ⟨hl,hb,?_⟩
 ·have:Builtin.List.listTooLong ((⟨vs⟩:Array Value).size+(⟨us⟩:Array Value).size)=false:=by
   have:=small (n:=vs.length+us.length) (#[0x111133e8d12100190d20190d102,vs.length,us.length] hz hz2)
   unfold Builtin.List.listTooLong;simp;left
  rw[this];simp
 ·have e:∃e,(Obj.mapSeq fun y=>y++(⟨us⟩:Array Value)) (lst vs ep)=lst (vs++us) e:=by
   simp[Obj.mapSeq,lst]
  obtain⟨e0,e⟩:=e
  have u:=dz.of (f:=Obj.mapSeq fun y=>y++(⟨us⟩:Array Value)) hl (by rw[e];rfl)
  rw[e]at u
  exact H _ _ u
theorem SR{l sl:Addr}{vs:List Value}{ep:Nat}{b:Nat}{t:Tok}(hl:s.heap.get? l=some (lst vs ep))(hs:s.heap.get? sl=some ⟨.type "slice",none,.fields ⟨[.none,.int b t,.none]⟩,#[]⟩)(hz:vs.length≤900)
 (H:∀h',eF (lst (vs.take b) 0) s.heap h'→R (rt (.ref s.heap.objs.size)) {s with heap:=h'}):codeAny (model prog w) A (blt "list.__getitem__" [.ref l,.ref sl]) R s:=by
 refine kP PySem.F.slot_list_getitem ⟨_,hl,rfl⟩ PySem.F.entry_list_getitem (PySem.F.args_list_getitem_2 _ _) ?_
 have qg:s.TypeIs (.ref sl) "slice":=⟨_,hs,rfl⟩
 show wpAny _ _ (Builtin.List.listSubscript? (.ref sl)>>=_) _ _ s
 refine wpAny_bind ?_
 unfold Builtin.List.listSubscript?
 refine wpAny_bind (wpAny_specialOf qg slice_no_index ?_)
 simp only[Option.isNone_none,if_true]
 refine wpAny_pure ?_
 show wpAny _ _ (typeOf (.ref sl)>>=_) _ _ s
 refine wpAny_bind (wpAny_typeOf qg ?_)
 rw[if_neg (by decide)]
 rw[listSliceParts_eq]
 refine wpAny_bind (wpAny_bind (wpAny_field hs rfl (x:=.none) rfl (wpAny_bind (wpAny_listPart .none ?_))))
 rw[if_neg (by simp[rawPart,rawInt])]
 refine wpAny_bind (wpAny_field hs rfl (x:=.none) rfl (wpAny_bind (wpAny_listPart .none ?_)))
 refine wpAny_bind (wpAny_field hs rfl (x:=.int b t) rfl (wpAny_bind (wpAny_listPart (.int b t) (wpAny_pure ?_))))
 refine wpAny_bind (m:=Builtin.List.listItems (.ref l)) ?_
 unfold Builtin.List.listItems
 refine wpAny_bind (wpAny_seqItems hl rfl (wpAny_pure ?_))
 refine wpAny_bind (wpAny_of_eq (sliceIndices_raw none (some (b:Int)) none (⟨vs⟩:Array Value).size (by simp)) ?_)
 have e:=slicePick_upto' (⟨vs⟩:Array Value) b
 refine wpAny_bind (wpAny_newObj_type (wpAny_pure ⟨_,rfl,H _ ?_⟩) (aq (slicePick_size_le (⟨vs⟩:Array Value) none (some (b:Int)) none) (small (by simp;left))))
 have e2:(⟨.type "list",none,.seq (slicePick (⟨vs⟩:Array Value) none (some (b:Int)) none) 0,#[]⟩:Obj)=lst (vs.take b) 0:=by
  rw[e]
 exact e2▸eF.of rfl
theorem SS{l sl:Addr}{vs:List Value}{ep:Nat}{b:Nat}{t:Tok}(hl:s.heap.get? l=some (lst vs ep))(hs:s.heap.get? sl=some ⟨.type "slice",none,.fields ⟨[.int b t,.none,.none]⟩,#[]⟩)(hz:vs.length≤900)
 (H:∀h',eF (lst (vs.drop b) 0) s.heap h'→R (rt (.ref s.heap.objs.size)) {s with heap:=h'}):codeAny (model prog w) A (blt "list.__getitem__" [.ref l,.ref sl]) R s:=by
 refine kP PySem.F.slot_list_getitem ⟨_,hl,rfl⟩ PySem.F.entry_list_getitem (PySem.F.args_list_getitem_2 _ _) ?_
 have qg:s.TypeIs (.ref sl) "slice":=⟨_,hs,rfl⟩
 show wpAny _ _ (Builtin.List.listSubscript? (.ref sl)>>=_) _ _ s
 refine wpAny_bind ?_
 unfold Builtin.List.listSubscript?
 refine wpAny_bind (wpAny_specialOf qg slice_no_index ?_)
 simp only[Option.isNone_none,if_true]
 refine wpAny_pure ?_
 show wpAny _ _ (typeOf (.ref sl)>>=_) _ _ s
 refine wpAny_bind (wpAny_typeOf qg ?_)
 rw[if_neg (by decide)]
 rw[listSliceParts_eq]
 refine wpAny_bind (wpAny_bind (wpAny_field hs rfl (x:=.none) rfl (wpAny_bind (wpAny_listPart .none ?_))))
 rw[if_neg (by simp[rawPart,rawInt])]
 refine wpAny_bind (wpAny_field hs rfl (x:=.int b t) rfl (wpAny_bind (wpAny_listPart (.int b t) ?_)))
 refine wpAny_bind (wpAny_field hs rfl (x:=.none) rfl (wpAny_bind (wpAny_listPart .none (wpAny_pure ?_))))
 refine wpAny_bind (m:=Builtin.List.listItems (.ref l)) ?_
 unfold Builtin.List.listItems
 refine wpAny_bind (wpAny_seqItems hl rfl (wpAny_pure ?_))
 refine wpAny_bind (wpAny_of_eq (sliceIndices_raw (some (b:Int)) none none (⟨vs⟩:Array Value).size (by simp)) ?_)
 have e:=slicePick_from' (⟨vs⟩:Array Value) b
 refine wpAny_bind (wpAny_newObj_type (wpAny_pure ⟨_,rfl,H _ ?_⟩) (aq (slicePick_size_le (⟨vs⟩:Array Value) (some (b:Int)) none none) (small (by simp;left))))
 have e2:(⟨.type "list",none,.seq (slicePick (⟨vs⟩:Array Value) (some (b:Int)) none none) 0,#[]⟩:Obj)=lst (vs.drop b) 0:=by
  rw[e]
 exact e2▸eF.of rfl
theorem SV{a b:Int}{t u:Tok}(H:R (rt (.bool (decide (a≠b)))) s):codeAny (model prog w) A (blt "int.__ne__" [.int a t,.int b u]) R s:=by
 refine mz PySem.F.slot_int_ne rfl PySem.F.entry_int_ne (PySem.F.args_int_ne_2 _ _) (AutoIntG6.int___ne___int_int_0 a t b u).meets ?_
 have e:(decide (a≠b))=(a != b):=by by_cases h:a=b<;>simp[h]
 rw[e]at H
 exact H
theorem SW{a b:Int}{t u:Tok}(H:R (rt (.bool (decide (a>b)))) s):codeAny (model prog w) A (blt "int.__gt__" [.int a t,.int b u]) R s:=by
 refine mz PySem.F.slot_int_gt rfl PySem.F.entry_int_gt (PySem.F.args_int_gt_2 _ _) (AutoIntG4.int___gt___int_int_0 a t b u).meets ?_
 exact H
end
section
variable {J:WX}{A:Around}{R:RR}{E:Value→Shared→Prop}{Q:Value→Shared→Prop}{h:Heap}{tk:Nat}
theorem SX{l:Addr}{vs:List Value}{ep:Nat}{k:Int}{t:Tok}{x:Value}(hl:h.get? l=some (lst vs ep))(hz:vs.length≤1000)(h0:0≤k)(hk:k.toNat<vs.length)
 (H:∀h' e,dz l (lst (vs.set k.toNat x) e) h h'→R (rt .none) (J.S h' tk)):codeAny J.M A (blt "list.__setitem__" [.ref l,.int k t,x]) R (J.S h tk):=SO hl hz h0 hk H
theorem SY{l:Addr}{vs:List Value}{ep:Nat}{t:Tok}{x:Value}(hl:h.get? l=some (lst (x::vs) ep))(hz:vs.length≤900)
 (H:∀h',dz l (lst vs (ep+1)) h h'→R (rt x) (J.S h' tk)):codeAny J.M A (blt "list.pop" [.ref l,.int 0 t]) R (J.S h tk):=SP hl hz H
theorem CQ{l b:Addr}{vs us:List Value}{ep e2:Nat}(hl:h.get? l=some (lst vs ep))(hb:h.get? b=some (lst us e2))(hz:vs.length≤400)(hz2:us.length≤400)
 (H:∀h' e,dz l (lst (vs++us) e) h h'→R (rt .none) (J.S h' tk)):codeAny J.M A (blt "list.extend" [.ref l,.ref b]) R (J.S h tk):=SQ hl hb hz hz2 H
theorem mW{l sl:Addr}{vs:List Value}{ep:Nat}{b:Nat}{t:Tok}(hl:h.get? l=some (lst vs ep))(hs:h.get? sl=some ⟨.type "slice",none,.fields ⟨[.none,.int b t,.none]⟩,#[]⟩)(hz:vs.length≤900)
 (H:∀h',eF (lst (vs.take b) 0) h h'→R (rt (.ref ⇑h)) (J.S h' tk)):codeAny J.M A (blt "list.__getitem__" [.ref l,.ref sl]) R (J.S h tk):=SR hl hs hz H
theorem yd{l sl:Addr}{vs:List Value}{ep:Nat}{b:Nat}{t:Tok}(hl:h.get? l=some (lst vs ep))(hs:h.get? sl=some ⟨.type "slice",none,.fields ⟨[.int b t,.none,.none]⟩,#[]⟩)(hz:vs.length≤900)
 (H:∀h',eF (lst (vs.drop b) 0) h h'→R (rt (.ref ⇑h)) (J.S h' tk)):codeAny J.M A (blt "list.__getitem__" [.ref l,.ref sl]) R (J.S h tk):=SS hl hs hz H
theorem FI{a b:Int}{t u:Tok}{c:Bool}(e:decide (a≠b)=c)(H:R (rt (.bool c)) (J.S h tk)):codeAny J.M A (blt "int.__ne__" [.int a t,.int b u]) R (J.S h tk):=SV (e▸H)
theorem vo{a b:Int}{t u:Tok}{c:Bool}(e:decide (a>b)=c)(H:R (rt (.bool c)) (J.S h tk)):codeAny J.M A (blt "int.__gt__" [.int a t,.int b u]) R (J.S h tk):=SW (e▸H)
theorem Mq{a:Int}{t:Tok}(H:∀u tk',Q (.int (if a<0 then-a else a) u) (J.S h tk')):wpAny J.M A (PySem.call (.builtin "abs") [.int a t]) Q E (J.S h tk):=call_abs_int H
theorem En{a b:Int}{t u:Tok}(hb:b≠0)(H:∀t' tk',Q (.int (a.fmod b) t') (J.S h tk')):wpAny J.M A (PySem.call (.builtin "int.__mod__") [.int a t,.int b u]) Q E (J.S h tk):=
 wpAny_mono (call_int_mod (Q:=Q) hb (H _ _)) (fun v s x=>x.2) (fun _ _ x=>x)
theorem S4{a b:Int}{t u:Tok}(hb:b≠0)(hs:b.natAbs<1073741824)(H:∀t' tk',Q (.int (a.fdiv b) t') (J.S h tk')):wpAny J.M A (PySem.call (.builtin "int.__floordiv__") [.int a t,.int b u]) Q E (J.S h tk):=
 wpAny_mono (call_int_floordiv (Q:=Q) hb (H _ _) (.inl (PyProof.noPylong_small hs))) (fun v s x=>x.2) (fun _ _ x=>x)
theorem HT{l:Addr}{vs:List Value}{ep:Nat}{ns:List Int}(hh:A.handled=none)(hl:h.get? l=some (lst vs ep))(hi:IntsAre vs ns)(hz:vs.length≤500)
 (H:∀h' tk' o,(∀b p,h.get? b=some p→h'.get? b=some p)→h'.get? ⇑h=some o→o.SetObjOf (intKind pw J.W) (fun k'=>(firstMet (fun i=>ns.getD i 0) vs.length).any (·==k')) (firstMet (fun i=>ns.getD i 0) vs.length).length→Q (.ref ⇑h) (J.S h' tk')):
 wpAny J.M A (PySem.call (.type "set") [.ref l]) Q E (J.S h tk):=
 PySem.call_set_list (items:=⟨vs⟩) (ns:=ns) hh (zm hl) hi (by unfold scanBound;simp;exact Nat.lt_of_le_of_lt (Nat.add_le_add_right hz 1) (by decide)) fun h' tk' hS hk=>by
  obtain⟨o,ho,hso⟩:=hS.objOf
  exact H h' tk' o (fun b p e=>hk b p (aj e) e) ho hso
theorem CR:∀(val:Nat→Int)(n:Nat),(∀i j,i<n→j<n→val i=val j→i=j)→(firstMet val n).length=n∧∀k,k∈firstMet val n↔∃i,i<n∧val i=k
 |val,0,_=>⟨rfl,fun k=>by simp[firstMet_zero]⟩
 |val,n+1,hd=>by
  obtain⟨i1,i2⟩:=CR val n (fun i j a b e=>hd i j (oF a) (oF b) e)
  have:¬((firstMet val n).any (·==val n))=true:=by
   simp only[List.any_eq_true,beq_iff_eq,not_exists,not_and]
   intro x hx e
   obtain⟨i,hi,e'⟩:=(i2 x).mp hx
   have:=hd i n (oF hi) (oD rfl) (e'.trans e)
   exact #[0x1101300c42122112,i,n] hi this
  have e:firstMet val (n+1)=firstMet val n++[val n]:=by
   rw[firstMet_succ];unfold step_dedup;rw[if_neg this]
  refine⟨by rw[e,List.length_append,i1];rfl,fun k=>?_⟩
  rw[e,List.mem_append,i2 k,List.mem_singleton]
  constructor
  ·rintro(⟨i,a,b⟩|a)
   ·exact⟨i,oF a,b⟩
   ·exact⟨n,by left,a.symm⟩
  ·rintro⟨i,a,b⟩
   by_cases hi:i<n
   ·exact .inl ⟨i,hi,b⟩
   ·have:i=n:=#[0x11103101321121201c20112,i,n] a (Nat.le_of_not_lt hi)
    exact .inr (this▸b.symm)
theorem S8{H:Heap}{a:Addr}{vs:List Value}{out:Array Value}{n:Nat}(ho:H.get? a=some (seqObj "list" vs.toArray n)):
 (∃e,(sortedHeap H a vs out).get? a=some (lst out.toList e))∧(∀b o,b≠a→H.get? b=some o→(sortedHeap H a vs out).get? b=some o)∧(sortedHeap H a vs out).objs.size=⇑H+2:=by
 have ha:a<⇑H:=aj ho
 obtain⟨e1,S_⟩:∃e1,(H.update a (Obj.mapSeq fun _=>#[])).get? a=some (seqObj "list" #[] e1):=⟨_,get?_update_seq ho (fun _=>#[])⟩
 have ho6:(((H.update a (Obj.mapSeq fun _=>#[])).push (seqObj "tuple" vs.toArray 0)).push (seqObj "list" #[] 0)).get? a=some (seqObj "list" #[] e1):=Heap.get?_push_of_some _ (Heap.get?_push_of_some _ S_)
 refine⟨⟨_,get?_update_seq ho6 (fun _=>out)⟩,fun b o hb e=>?_,?_⟩
 ·unfold sortedHeap
  rw[Heap.get?_update_ne _ _ _ _ hb]
  exact Heap.get?_push_of_some _ (Heap.get?_push_of_some _ ((Heap.get?_update_ne _ _ _ _ hb).trans e))
 ·unfold sortedHeap
  rw[Heap.size_update,size_push',size_push',Heap.size_update]
theorem Fp{d:Nat}{kvs:List (Int×Value)}(hh:A.handled=none)(hd:h.DictOf (intKind pw J.W) d kvs)(g1:534≤d)(hz:kvs.length≤60)
 (H:∀h' tk' a out e ns',(∀b o,h.get? b=some o→h'.get? b=some o)→⇑h≤a→h'.get? a=some (lst out e)→IntsAre out ns'→ns'.Perm (kvs.map (·.1))→ns'.Pairwise (·≤·)→Q (.ref a) (J.S h' tk')):
 wpAny J.M A (PySem.call (.builtin "sorted") [.ref d]) Q E (J.S h tk):=by
 obtain⟨ep,hat⟩:=hd.dictAt
 have hsm:(d==sysModules)=false:=by
  have e:sysModules<534:=by decide
  exact beq_eq_false_iff_ne.mpr (Nat.ne_of_gt (aJ e g1))
 refine Calls.call_function_entry kind_sorted plain_sorted entry_sorted (args_sorted1 _) ?_
 unfold Builtin.«sorted»
 refine wpAny_bind (m:=checkCount "sorted" 1 1 _) (wpAny_pure ?_)
 refine wpAny_bind (RW (kdu_collect (A:=A.in1) (s:=(J.S h tk)) (kdl_dict (knd:=intKind pw J.W) (kvs:=kvs) (ep:=ep) hsm) hh hat (small (by left)) fun h' tk' acc hk hacc hsz=>?_))
 have hl:acc.toList.length=kvs.length:=by rw[Array.length_toList];exact hacc.1
 have hI:∀(l:List Value)(ks:List (Int×Value)),l.length=ks.length→(∀(j:Nat) v,l[j]? =some v→∃k x,ks[j]? =some (k,x)∧(intKind pw J.W).is k v=true)→IntsAre l (ks.map (·.1)):=by
  intro l
  induction l with
  |nil=>intro ks e _;cases ks with
   |nil=>exact .nil
   |cons a b=>simp at e
  |cons v l ih=>intro ks e f;cases ks with
   |nil=>simp at e
   |cons a b=>
    obtain⟨k,x,e1,e2⟩:=f 0 v rfl
    obtain rfl:a=(k,x):=by simpa using e1
    have hk2:Value.isInt k v=true:=e2
    cases v<;>simp[Value.isInt]at hk2
    subst hk2
    exact .cons _ _ (ih b (by simpa using e) (fun j v e=>f (j+1) v e))
 have hI':=hI acc.toList kvs hl (fun j v e=>hacc.2 j v (by rw[←Array.getElem?_toList];exact e))
 refine wpAny_bind (wpAny_newList ?_ (by rw[hl];exact small (by left)))
 have ho:(h'.push (seqObj "list" acc.toList.toArray 0)).get? ⇑h'=some (seqObj "list" acc.toList.toArray 0):=Heap.get?_push_size _ rfl
 refine wpAny_bind (wpAny_holding (wpAny_call_entry slot_list_sort ⟨_,ho,rfl⟩ entry_list_sort (list_sort_tree ho hI' (oy hl (xV hz rfl)) fun out ns' a1 a2 a3=>⟨_,rfl,?_⟩) (args_list_sort _)))
 obtain⟨⟨e,s1⟩,s2,s3⟩:=S8 (out:=out) ho
 exact wpAny_pure ⟨_,rfl,H _ _ _ out.toList _ ns' (fun b o e=>s2 b o (gP (aj (hk b o e))) (Heap.get?_push_of_some _ (hk b o e))) hsz s1 a1 a2 a3⟩
end
section
variable [Zero Heap]
noncomputable def bA(P:Params)(h:Heap)(L:Addr)(s:Str)(k:Nat):Prop:=(k=0∧∃le,h.get? L=some (dct [] le))∨∃t y le,h.get? L=some (dct [ent P s t y] le)
theorem bA.pe{J:WX}{h:Heap}{L:Addr}{s:Str}{k:Nat}(x:bA J.P h L s k):∃z t y le,h.get? L=some (dct (Mine.pe J s z t y) le):=by
 rcases x with⟨_,le,e⟩|⟨t,y,le,e⟩
 ·exact⟨false,0,.none,le,e⟩
 ·exact⟨true,t,y,le,e⟩
theorem bA.iH{G:Prop}{J:WX}{h:Heap}{L:Addr}{s:Str}{k:Nat}(x:bA J.P h L s k)(kk:∀z t y le,h.get? L=some (dct (Mine.pe J s z t y) le)→G):G:=by
 obtain⟨v0,v1,v2,v3,q0⟩:=bA.pe x
 exact kk v0 v1 v2 v3 q0
noncomputable def gk(P:Params)(h:Heap)(L:Addr)(s s':Str)(k:Nat):Prop:=(k=0∧∃le,h.get? L=some (dct [] le))∨∃t y t' y' le,h.get? L=some (dct [ent P s t y,ent P s' t' y'] le)
theorem gk.pf{J:WX}{h:Heap}{L:Addr}{s:Str}{k:Nat}(x:gk J.P h L cD s k):∃z t y t' y' le,h.get? L=some (dct (Mine.pf J s z t y t' y') le):=by
 rcases x with⟨_,le,e⟩|⟨t,y,t',y',le,e⟩
 ·exact⟨false,0,.none,0,.none,le,e⟩
 ·exact⟨true,t,y,t',y',le,e⟩
theorem gk.D4{G:Prop}{J:WX}{h:Heap}{L:Addr}{s:Str}{k:Nat}(x:gk J.P h L cD s k)(kk:∀z t y t' y' le,h.get? L=some (dct (Mine.pf J s z t y t' y') le)→G):G:=by
 obtain⟨v0,v1,v2,v3,v4,v5,q0⟩:=gk.pf x
 exact kk v0 v1 v2 v3 v4 v5 q0
theorem bA.kp{P:Params}{h h':Heap}{L:Addr}{s:Str}{k:Nat}{m:List Addr}(x:bA P h L s k)(K:Kp m h h')(n:L∉m):bA P h' L s k:=by
 rcases x with⟨a,le,e⟩|⟨t,y,le,e⟩
 ·exact .inl ⟨a,le,K.keep _ _ n e⟩
 ·exact .inr ⟨t,y,le,K.keep _ _ n e⟩
theorem gk.kp{P:Params}{h h':Heap}{L:Addr}{s s':Str}{k:Nat}{m:List Addr}(x:gk P h L s s' k)(K:Kp m h h')(n:L∉m):gk P h' L s s' k:=by
 rcases x with⟨a,le,e⟩|⟨t,y,t',y',le,e⟩
 ·exact .inl ⟨a,le,K.keep _ _ n e⟩
 ·exact .inr ⟨t,y,t',y',le,K.keep _ _ n e⟩
theorem w7{V:Vw}{h:Heap}{a b c:Addr}{o p q:Obj}(e:h.get? a=some o)(e2:h.get? b=some p)(e3:h.get? c=some q)(nd:([a,b,c]:List Addr).Nodup):Rep V h [a,b,c] h [(a,o),(b,p),(c,q)] ⇑h:=
 w9 (mu:=[(a,o),(b,p),(c,q)]) (fun x hx=>by
  rcases mC hx with hx|hx
  ·rw[hx];exact e
  rcases mC hx with hx|hx
  ·rw[hx];exact e2
  ·rw[mS hx];exact e3) nd
theorem uy{vs:List Value}{ns:List Int}(x:IntsAre vs ns)(i:Int)(t:Tok):IntsAre (vs++[.int i t]) (ns++[i]):=by
 induction x with
 |nil=>exact .cons _ _ .nil
 |cons n t' _ ih=>exact .cons _ _ ih
theorem pC{vs:List Value}{ns:List Int}(x:IntsAre vs ns){k:Nat}{v:Value}(h:vs[k]? =some v):∃i t,v=.int i t∧ns[k]? =some i:=by
 induction x generalizing k with
 |nil=>simp at h
 |cons n t _ ih=>
  cases k with
  |zero=>exact⟨n,t,by simpa using h.symm,rfl⟩
  |succ k=>exact ih (by simpa using h)
theorem D5(l:Int)(k:Nat):((List.range (k+1)).map fun j:Nat=>l+1+(j:Int))=((List.range k).map fun j:Nat=>l+1+(j:Int))++[l+(k:Int)+1]:=by
 rw[List.range_succ,List.map_append,List.map_singleton]
 congr 2
 lia
noncomputable def cP(P:Params)(h:Heap)(c:Wc)(wd:Addr)(l:Int):Prop:=∃tl,h.get? wd=some (mO P c l tl)
theorem cP.kp{P:Params}{h h':Heap}{c:Wc}{wd:Addr}{l:Int}{m:List Addr}(x:cP P h c wd l)(K:Kp m h h')(n:wd∉m):cP P h' c wd l:=by
 obtain⟨tl,e⟩:=x
 exact⟨tl,K.keep _ _ n e⟩
section
variable {J:WX}{A:Around}{R:RR}{h:Heap}{tk:Nat}{it acc L fr:Nat}
theorem LS{c:Wc}{n cw W_ wd ea le:Nat}{l:Int}(RA:aa A 30)(hn:n≤10)(nd:([it,acc,L,wd]:List Nat).Nodup)(n1:cw∉[it,acc,L,wd])(n2:W_∉[it,acc,L,wd])(gi:∀a∈([it,acc,L,wd]:List Nat),534≤a)
 (TT:aE J.P h) (hI:IsRangeIter h it (0:Nat) n 1) (hT:Tl [it] h) (ha:h.get? acc=some (lst [] ea)) (hL:h.get? L=some (dct [] le)) (hcw:h.get? cw=some (bL (.ref W_))) (hW:h.get? W_=some (ins 464 wd)) (ck:cP J.P h c wd l)
 (H:∀h' tk' ys ea',Kp [it,acc,L,wd] h h'→h'.get? acc=some (lst ys ea')→IntsAre ys ((List.range n).map fun j:Nat=>l+1+(j:Int))→cP J.P h' c wd (l+n)→bA J.P h' L cE n→R (.ok .next) (J.S h' tk')):
 codeAny J.M A (aT (jy J.P) (bF J.P (jy J.P) [(gz,cw)] L fr) it acc) (ay R) (J.S h tk):=by
 refine w_ nd fun q1 q2 q3 q4 q5 q6=>?_
 refine gS n1 fun q7 q8 q9 sD=>?_
 refine gS n2 fun xd D6 D7 An=>?_
 refine Ao gi fun g1 g2 g3 g4=>?_
 have uz:([L,acc,wd]:List Nat).Nodup:=sE
 refine D8 (cy:=J.P) (n:=n) (M:=[L,wd]) (fun k ys h=>IntsAre ys ((List.range k).map fun j:Nat=>l+1+(j:Int))∧bA J.P h L cE k∧cP J.P h c wd (l+k)∧h.get? cw=some (bL (.ref W_))∧h.get? W_=some (ins 464 wd))
  RA.handled ∅ mP ak bw (fun k ys h h' x K=>⟨x.1,x.2.1.kp K ak,x.2.2.1.kp K ak,K.keep _ _ ak x.2.2.2.1,K.keep _ _ ak x.2.2.2.2⟩) ?_ TT hI hT ha
  ⟨.nil,.inl ⟨rfl,le,hL⟩,by simpa using ck,hcw,hW⟩ (fun h' tk' ys ea' K ha' x=>H h' tk' ys ea' (K.more (by k_in)) ha' x.1 x.2.2.1 x.2.1)
 intro k h tk x ys ea hk hx TT hT ha hY next
 ac_rfl
 obtain⟨t,rfl⟩:=hx
 obtain⟨hI,hL,⟨tl,hW⟩,hc,hw⟩:=hY
 have hys:ys.length=k:=by have:=IntsAre.length hI;simpa using this
 have B:=aG (prog:=pw) (w:=J.W) (mods:=[L,acc,wd]) TT dH (ro:=[(cw,_),(W_,_)]) (rC hc bw (rC hw bw rN))
 have go:∀h4 av aW aU e,Kp [L,acc,wd] h h4→h4.get? ⇑h=some e→⇑h4=⇑h+1→h4.get? acc=some (lst aW aU)→(∃u,aW=ys++[.int (l+k+1) u])→bA J.P h4 L cE (k+1)→(∃tl,h4.get? wd=some (mO J.P c (l+k+1) tl))→codeAny J.M A (aT (jy J.P) (bF J.P (jy J.P) [(gz,cw)] L fr) it acc) (ay R) (J.S h4 av):=by
  intro h4 av aW aU e K he hs cg hy bP qC
  ac_rfl
  obtain⟨u,rfl⟩:=hy
  obtain⟨qD,qC⟩:=qC
  exact next h4 av _ aU (K.more (by k_in)) (hT.of (bl) he hs.symm) cg ⟨by rw[D5];exact uy hI _ _,bP,⟨qD,by rw[qC];congr 2;simp;lia⟩,K.keep _ _ bw hc,K.keep _ _ bw hw⟩
 refine hL.iH fun z0 t5 y0 le hLe=>?_
 let vv:Vv:=fD it acc L fr le ea t cw W_ wd c.w1 c.w2 c.w3 c.w4 c.w5 c.TB c.TT c.OP tl c.ew t5 ⇑h tk 0 0 0 0 k (l+k) y0 ys [] [] []
 refine xe.b0 z0 vv rfl (RA.less rfl) B (w7 hLe ha hW uz) (fun h2 _ H2=>.code (dZ (H2.get 0 rfl) (by show ys.length≤1000;left) fun h3 U=>?_))
 refine xe.b1 (RA.less rfl) B H2.k (H2.rep.upd (H2.bg 0 rfl rfl) U) (fun h4 _ H4=>?_)
 rw[xe.k1]
 exact go h4 _ _ _ _ H4.kp (H4.get 3 rfl) H4.size (H4.get 1 rfl) ⟨_,rfl⟩ (.inr ⟨_,_,_,H4.get 0 rfl⟩) ⟨_,H4.get 2 rfl⟩
end
end
noncomputable def rQ(Q:Value→Shared→Prop):RR:=fun r s=>match r with
 |.ok (.ret v)=>Q v s
 |_=>False
noncomputable def rB(Q:Bool→Shared→Prop):RR:=fun r s=>match r with
 |.ok (.ret (.bool b))=>Q b s
 |_=>False
noncomputable def rF(Q:Flow→Shared→Prop):RR:=fun r s=>match r with
 |.ok f=>Q f s
 |.error _=>False
section
variable {prog:Program}{w:World}{A:Around}{E:Value→Shared→Prop}{s:Shared}
theorem Oe{t:Sem Value}{Q:Value→Shared→Prop}(h:wpAny (model prog w) A (d9 t) (X.postC prog w A (rQ Q)) (X.postE (rQ Q)) s):wpAny (model prog w) A t Q E s:=fun Γ p hΓ=>by
 have z:=h Γ p hΓ
 unfold d9 at z
 rw[show Sem.bind t (fun v=>(Sem.pure (.done (.ret v)):Sem Fin))=(t>>=fun v=>(Sem.pure (.done (.ret v)):Sem Fin))from rfl,Sem.wp_bind']at z
 exact Sem.wp_mono _ Γ _ (fun _ _ _ h'=>h') (fun _ _ _ h'=>h'.elim) _ _ z
theorem Of{t:Sem Bool}{Q:Bool→Shared→Prop}(h:wpAny (model prog w) A (pH t) (X.postC prog w A (rB Q)) (X.postE (rB Q)) s):wpAny (model prog w) A t Q E s:=fun Γ p hΓ=>by
 have z:=h Γ p hΓ
 unfold pH at z
 rw[show Sem.bind t (fun v=>(Sem.pure (.done (.ret (.bool v))):Sem Fin))=(t>>=fun v=>(Sem.pure (.done (.ret (.bool v))):Sem Fin))from rfl,Sem.wp_bind']at z
 exact Sem.wp_mono _ Γ _ (fun _ _ _ h'=>h') (fun _ _ _ h'=>h'.elim) _ _ z
theorem Fg{t:Sem Flow}{Q:Flow→Shared→Prop}(h:wpAny (model prog w) A (jg t) (X.postC prog w A (rF Q)) (X.postE (rF Q)) s):wpAny (model prog w) A t Q E s:=fun Γ p hΓ=>by
 have z:=h Γ p hΓ
 unfold jg at z
 rw[show Sem.bind t (fun v=>(Sem.pure (.done v):Sem Fin))=(t>>=fun v=>(Sem.pure (.done v):Sem Fin))from rfl,Sem.wp_bind']at z
 exact Sem.wp_mono _ Γ _ (fun _ _ _ h'=>h') (fun _ _ _ h'=>h'.elim) _ _ z
theorem qU{e:PySem.Expr}{env:Env}{Q:Bool→Shared→Prop}(h:wpAny (model prog w) A (pH (pB e env (cL e env))) (X.postC prog w A (rB Q)) (X.postE (rB Q)) s):wpAny (model prog w) A (isTrue e env (eval e env)) Q E s:=by
 rw[PySem.W.Fast.te15418851999007992765,PySem.W.Fast.te14044960220447912780];exact Of h
theorem eH{e:PySem.Expr}{env:Env}{Q:Value→Shared→Prop}(h:wpAny (model prog w) A (d9 (cL e env)) (X.postC prog w A (rQ Q)) (X.postE (rQ Q)) s):wpAny (model prog w) A (eval e env) Q E s:=by
 rw[PySem.W.Fast.te14044960220447912780];exact Oe h
theorem pO{l:List Stmt}{env:Env}{Q:Flow→Shared→Prop}(h:wpAny (model prog w) A (jg (mK l env)) (X.postC prog w A (rF Q)) (X.postE (rF Q)) s):wpAny (model prog w) A (execs l env) Q E s:=by
 rw[PySem.W.Fast.te12563942051412417395];exact Fg h
theorem Oh{l:List Stmt}{env:Env}{Q:Flow→Shared→Prop}(h:∀R:RR,(∀f s',Q f s'→R (.ok f) s')→wpAny (model prog w) A (jg (mK l env)) (X.postC prog w A R) (X.postE R) s):wpAny (model prog w) A (execs l env) Q E s:=pO (h _ fun _ _ x=>x)
theorem eq_empty{l b:Addr}{vs:List Value}{e1 e2:Nat}{Q:Bool→Shared→Prop}(hl:s.heap.get? l=some (lst vs e1))(hb:s.heap.get? b=some (lst [] e2))(hu:A.units<cLine)(H:Q vs.isEmpty s):
 wpAny (model prog w) A (compareOp .Eq (.ref l) (.ref b)) (fun c s'=>wpAny (model prog w) A (truthy c) Q E s') E s:=by
 show wpAny _ _ (richCompare .Eq (.ref l) (.ref b)) _ _ _
 cases vs with
 |nil=>exact PySem.SeqAt.RcAt.lists (e:=fun _=>true) (dw hl) (dw hb) rfl hu (by intro j hj;simp at hj) prog w E _ (wpAny_truthy_bool H)
 |cons v vs=>exact PySem.SeqAt.RcAt.lists_lengths (dw hl) (dw hb) rfl hu prog w E _ (wpAny_truthy_bool H)
end
theorem NP(st:Stmt)(rest:List Stmt)(env:Env):execs (st::rest) env=execs [st] env>>=fun f=>match f with
 |.next=>execs rest env
 |f=>pure f:=by
 rw[execs_cons,execs_cons,bind_assoc]
 refine congrArg (Sem.bind _) (funext fun f=>?_)
 cases f<;>first|rfl|simp[execs_nil,pure_bind]
section
variable {prog:Program}{w:World}{A:Around}{E:Value→Shared→Prop}{s:Shared}
theorem A1{st:Stmt}{rest:List Stmt}{env:Env}{Q:Flow→Shared→Prop}
 (h:wpAny (model prog w) A (jg (mK [st] env)) (X.postC prog w A (rF fun f s'=>match f with|.next=>wpAny (model prog w) A (execs rest env) Q E s'|f=>Q f s')) (X.postE (rF fun f s'=>match f with|.next=>wpAny (model prog w) A (execs rest env) Q E s'|f=>Q f s')) s):
 wpAny (model prog w) A (execs (st::rest) env) Q E s:=by
 rw[NP]
 refine wpAny_bind (wpAny_mono (pO h (E:=E)) (fun f s' x=>?_) (fun _ _ x=>x))
 cases f<;>first|exact x|exact wpAny_pure x
theorem ko{st:Stmt}{rest:List Stmt}{env:Env}{Q:Flow→Shared→Prop}
 (h:∀R:RR,(∀s',wpAny (model prog w) A (execs rest env) Q E s'→R (.ok .next) s')→wpAny (model prog w) A (jg (mK [st] env)) (X.postC prog w A R) (X.postE R) s):
 wpAny (model prog w) A (execs (st::rest) env) Q E s:=A1 (h _ fun _ x=>x)
end
noncomputable section
end
noncomputable section
end
section
variable [Zero Heap]
section
variable {prog:Program}{w:World}{A:Around}{E:Value→Shared→Prop}{s:Shared}
theorem yD{l b:Addr}{vs:List Value}{e1 e2:Nat}{Q:Bool→Shared→Prop}(hl:s.heap.get? l=some (lst vs e1))(hb:s.heap.get? b=some (lst [] e2))(hu:A.units<cLine)(H:Q (!vs.isEmpty) s):
 wpAny (model prog w) A (compareOp .NotEq (.ref l) (.ref b)) (fun c s'=>wpAny (model prog w) A (truthy c) Q E s') E s:=by
 show wpAny _ _ (richCompare .NotEq (.ref l) (.ref b)) _ _ _
 cases vs with
 |nil=>exact PySem.SeqAt.RcNeAt.lists (e:=fun _=>true) (dw hl) (dw hb) rfl hu (by intro j hj;simp at hj) prog w E _ (wpAny_truthy_bool H)
 |cons v vs=>exact PySem.SeqAt.RcNeAt.lists_lengths (dw hl) (dw hb) rfl hu prog w E _ (wpAny_truthy_bool H)
end
noncomputable def sX:PySem.Expr→Pos
 |.BoolOp _ _ p=>p
 |_=>⟨0,0,0,0⟩
noncomputable def yr:Stmt→Pos
 |.While _ _ _ p=>p
 |.For _ _ _ _ p=>p
 |_=>⟨0,0,0,0⟩
noncomputable abbrev dQ(P:Params):Stmt:=dX (bodyOf (fL P)) 0
noncomputable abbrev wj(P:Params):Stmt:=dX (bodyOf (fL P)) 1
theorem UA(P:Params):bodyOf (fL P)=.While (.BoolOp .And [.Compare (fB (bW (aL (dQ P)) 0)) [.NotEq] [fC (bW (aL (dQ P)) 0)] (jx (bW (aL (dQ P)) 0)),bW (aL (dQ P)) 1] (sX (aL (dQ P)))) (cO (dQ P)) [] (yr (dQ P))::
 .If (.Compare (fB (aL (wj P))) [.Eq] [fC (aL (wj P))] (jx (aL (wj P)))) (iG (wj P)) [] (qB (wj P))::mJ (mJ (bodyOf (fL P))):=by kernel_rfl
noncomputable def cZ(h:Heap)(dk:Addr):Prop:=∃ys e ns,h.get? dk=some (lst ys e)∧IntsAre ys ns∧ys.length≤14
theorem cZ.kp{h h':Heap}{dk:Addr}{m:List Addr}(x:cZ h dk)(K:Kp m h h')(n:dk∉m):cZ h' dk:=by
 obtain⟨ys,e,ns,h1,h2⟩:=x
 exact⟨ys,e,ns,K.keep _ _ n h1,h2⟩
noncomputable abbrev C6(P:Params)(t1 t2:Nat)(dk:Addr)(m:Int)(tm fe:Nat):Obj:=ai [ent P qJ t1 (.ref dk),ent P cG t2 (.int m tm)] fe
section
variable {J:WX}{A:Around}{R:RR}{fr dk:Nat}{t1 t2 tm fe:Nat}{m:Int}
theorem UB(RA:aa A 35)(qn:534≤fr)(IL:534≤dk)(n0:fr≠dk):∀(k:Nat)(ys:List Value)(ns:List Int)(e:Nat)(h:Heap)(tk:Nat),ys.length=k→k≤14→aE J.P h→h.get? fr=some (C6 J.P t1 t2 dk m tm fe)→h.get? dk=some (lst ys e)→IntsAre ys ns→
 (∀h' tk' ys' e' ns',Kp [fr,dk] h h'→h'.get? fr=some (C6 J.P t1 t2 dk m tm fe)→h'.get? dk=some (lst ys' e')→IntsAre ys' ns'→ys'.length≤14→R (.ok .next) (J.S h' tk'))→
 codeAny J.M A (.whileLoop (aL (dQ J.P)) (cO (dQ J.P)) [] (fEnv 480 (fL J.P) fr)) R (J.S h tk):=by
 intro k
 induction k with
 |zero=>
  intro ys ns e h tk hk hk2 TT hfr bY hI H
  obtain rfl:ys=[]:=List.length_eq_zero_iff.mp hk
  refine codeAny_of_tree ?_
  show wpAny _ A ((whileTurn (aL (dQ J.P)) (cO (dQ J.P)) [] (fEnv 480 (fL J.P) fr)).onRaise (fun x=>do noteFrame x (fEnv 480 (fL J.P) fr);theTreesLotGoes x)) _ _ _
  refine wpAny_noted ?_
  unfold whileTurn
  rw[show aL (dQ J.P)=.BoolOp .And [.Compare (fB (bW (aL (dQ J.P)) 0)) [.NotEq] [fC (bW (aL (dQ J.P)) 0)] (jx (bW (aL (dQ J.P)) 0)),bW (aL (dQ J.P)) 1] (sX (aL (dQ J.P)))from by kernel_rfl]
  have B:=fun{h':Heap}(K:Kp [fr,dk] h h')=>aG (prog:=pw) (w:=J.W) (mods:=[fr,dk]) (TT.kp K bB) bB (ro:=[]) trivial
  let vv:Vv:=dj fr dk t1 t2 tm fe e ⇑h tk m [] []
  refine wpAny_bind (wpAny_isTrue_BoolOp (wpAny_allTrue_And_cons (wpAny_isTrue_Compare1 (eH (vU.b0 vv rfl (RA.less rfl) (B .refl) (cj hfr bY n0) (fun h1 aB H1=>?_))) rfl)))
  let vv:Vv:=dj fr dk t1 t2 tm fe e ⇑h1 aB m [] []
  refine eH (Cv.b0 vv rfl (RA.less rfl) (B H1.kp) (cj (H1.get 0 rfl) (H1.get 1 rfl) n0) (fun h2 ao H2=>?_))
  have K2:Kp [fr,dk] h h2:=H1.kp.trans H2.kp
  refine yD (vs:=[]) (H2.get 1 rfl) (H2.get 2 rfl) (by have:=RA.units;left) ?_
  show wpAny _ _ _ _ _ _
  exact wpAny_bind (wpAny_execs_nil (wpAny_pure (H h2 ao [] _ [] K2 (H2.get 0 rfl) (H2.get 1 rfl) .nil (Nat.zero_le _))))
 |succ k ih=>
  intro ys ns e h tk hk hk2 TT hfr bY hI H
  ac_rfl
  obtain⟨v,vs,rfl⟩:∃v vs,ys=v::vs:=List.exists_cons_of_length_eq_add_one hk
  cases hI with
  |@cons i t _ ns hI=>
  refine codeAny_of_tree ?_
  show wpAny _ A ((whileTurn (aL (dQ J.P)) (cO (dQ J.P)) [] (fEnv 480 (fL J.P) fr)).onRaise (fun x=>do noteFrame x (fEnv 480 (fL J.P) fr);theTreesLotGoes x)) _ _ _
  refine wpAny_noted ?_
  unfold whileTurn
  have hT:aL (dQ J.P)=.BoolOp .And [.Compare (fB (bW (aL (dQ J.P)) 0)) [.NotEq] [fC (bW (aL (dQ J.P)) 0)] (jx (bW (aL (dQ J.P)) 0)),bW (aL (dQ J.P)) 1] (sX (aL (dQ J.P))):=by kernel_rfl
  have B:=fun{h':Heap}(K:Kp [fr,dk] h h')=>aG (prog:=pw) (w:=J.W) (mods:=[fr,dk]) (TT.kp K bB) bB (ro:=[]) trivial
  refine wpAny_bind ?_
  have goal:wpAny J.M A (isTrue (aL (dQ J.P)) (fEnv 480 (fL J.P) fr) (eval (aL (dQ J.P)) (fEnv 480 (fL J.P) fr))) (fun b s'=>b=decide (i=0)∧∃h3 az,s'=(J.S h3 az)∧Kp [fr,dk] h h3∧h3.get? fr=some (C6 J.P t1 t2 dk m tm fe)∧∃e',h3.get? dk=some (lst (.int i t::vs) e')) (fun _ _=>False) (J.S h tk):=by
   rw[hT]
   refine wpAny_isTrue_BoolOp (wpAny_allTrue_And_cons (wpAny_isTrue_Compare1 (eH (vU.b0 (dj fr dk t1 t2 tm fe e ⇑h tk m _ []) rfl (RA.less rfl) (B .refl) (cj hfr bY n0) (fun h1 aB H1=>?_))) rfl))
   refine eH (Cv.b0 (dj fr dk t1 t2 tm fe e ⇑h1 aB m _ []) rfl (RA.less rfl) (B H1.kp) (cj (H1.get 0 rfl) (H1.get 1 rfl) n0) (fun h2 ao H2=>?_))
   have K2:Kp [fr,dk] h h2:=H1.kp.trans H2.kp
   refine yD (vs:=.int i t::vs) (H2.get 1 rfl) (H2.get 2 rfl) (by have:=RA.units;left) ?_
   show wpAny _ _ _ _ _ _
   refine wpAny_allTrue_And_cons (qU (yY.b0 (dj fr dk t1 t2 tm fe e ⇑h2 ao m _ []) rfl (RA.less rfl) (B K2) (cj (H2.get 0 rfl) (H2.get 1 rfl) n0) (fun h3 az H3=>.code (iJ (x:=.int i t) (H3.get 0 rfl) (Int.le_refl 0) (by simp at hk⊢;exact #[0x1101143e7d120122ec1c1002,k,vs.length] hk2 hk) rfl ?_))))
   refine yY.b1 (RA.less rfl) (B K2) H3.k H3.rep (fun h4 av H4=>.code (SK ?_))
   refine yY.b2 (RA.less rfl) (B K2) H4.k H4.rep (fun h5 aY H5=>?_)
   have K5:Kp [fr,dk] h h5:=K2.trans H5.kp
   show(if decide (i=0)=true then _ else _)
   by_cases hi:i=0
   ·rw[if_pos (by simpa using hi)]
    exact wpAny_allTrue_And_nil ⟨by simp[hi],h5,_,rfl,K5,H5.get 0 rfl,_,H5.get 1 rfl⟩
   ·rw[if_neg (by simpa using hi)]
    exact⟨by simp[hi],h5,_,rfl,K5,H5.get 0 rfl,_,H5.get 1 rfl⟩
  refine wpAny_mono goal (fun b s' x=>?_) (fun _ _ x=>x.elim)
  obtain⟨rfl,h3,az,rfl,K3,IM,e3,IP⟩:=x
  by_cases hi:i=0
  ·subst hi
   show wpAny _ _ _ _ _ _
   refine wpAny_bind (pO (Cw.b0 (dj fr dk t1 t2 tm fe e3 ⇑h3 az m _ []) rfl (RA.less rfl) (B K3) (cj IM IP n0) (fun h4 av H4=>.code (SY (H4.get 0 rfl) (by simp at hk;exact #[0x110114384d120122ec1c1002,k,vs.length] hk2 hk) fun h5 U=>?_))))
   refine Cw.b1 (RA.less rfl) (B K3) H4.k (H4.rep.upd (H4.bg 0 rfl rfl) U) (fun h6 gG H6=>?_)
   have K6:Kp [fr,dk] h h6:=K3.trans H6.kp
   refine wpAny_pure ⟨rfl,?_⟩
   exact ih vs ns _ h6 _ (by simpa using hk) (by left) (TT.kp K6 bB) (H6.get 0 rfl) (H6.get 1 rfl) hI (fun h' tk' ys' e' ns' K=>H h' tk' ys' e' ns' (K6.trans K))
  ·have hd:decide (i=0)=false:=by simp[hi]
   rw[hd]
   exact wpAny_bind (wpAny_execs_nil (wpAny_pure (H h3 az _ _ _ K3 IM IP (.cons i t hI) (by simp at hk⊢;exact #[0x110114dc120122ec1c1002,k,vs.length] hk2 hk))))
theorem pQ{h:Heap}{tk:Nat}(RA:aa A 45)(TT:aE J.P h)(hd:cZ h dk)(IL:534≤dk)(hm:1≤m)(hm2:m≤1000)
 (H:∀h' tk' f t,Kp [dk] h h'→cZ h' dk→0≤f→f<m→R (rt (.int f t)) (J.S h' tk')):
 codeAny J.M A (aK 480 [.ref dk,.int m tm]) R (J.S h tk):=by
 have B0:=aG (prog:=pw) (w:=J.W) (mods:=[]) TT (by k_in) (ro:=[]) trivial
 let vv:Vv:=dj dk tm ⇑h tk 0 0 0 0 0 m [] []
 refine Cu.b0 vv (RA.less rfl) B0 fG (fun h1 aB H1=>?_)
 rw[Cu.k0]
 show codeAny _ A (.func (bodyOf (fL J.P)) (fEnv 480 (fL J.P) ⇑h)) R _
 refine codeAny_func ?_
 have cz:aa (A.deeper (fEnv 480 (fL J.P) ⇑h)) 44:=RA.under (c:=.func (bodyOf (fL J.P)) (fEnv 480 (fL J.P) ⇑h)) rfl
 have K1:Kp [] h h1:=H1.kp
 obtain⟨ys,e,ns,bY,hI,hl⟩:=hd
 have aA:dk<⇑h:=aj bY
 have As:534≤⇑h:=by left
 rw[UA]
 refine wpAny_execs_cons (wpAny_While ?_)
 refine UB (cz.less rfl) As IL (by right) ys.length ys ns e h1 _ rfl hl (TT.kp K1 (by k_in)) (H1.get 0 rfl) (K1.keep _ _ (by k_in) bY) hI (fun h2 ao aW e2 XE K2 kU u0 UC hl2=>?_)
 have pY:aE J.P h2:=(TT.kp K1 (by k_in)).kp K2 bB
 have B:=fun{h':Heap}(K:Kp [⇑h,dk] h2 h')=>aG (prog:=pw) (w:=J.W) (mods:=[⇑h,dk]) (pY.kp K bB) bB (ro:=[]) trivial
 have n0:⇑h≠dk:=by right
 have fin:∀h',Kp [⇑h,dk] h2 h'→Kp [dk] h h':=fun h' K=>⟨fun b o hb eb=>by
  have IQ:b∉([⇑h,dk]:List Addr):=fun q=>by
   rcases mC q with q|q
   ·exact Nat.lt_irrefl _ (q▸aj eb)
   ·exact hb q
  exact K.keep _ _ IQ (K2.keep _ _ IQ (K1.keep _ _ (by k_in) eb)),aq K1.size (aq K2.size K.size)⟩
 refine wpAny_execs_cons (wpAny_If (wpAny_isTrue_Compare1 (eH (Hq.b0 (dj ⇑h dk _ _ tm _ e2 ⇑h2 ao m aW []) rfl (cz.less rfl) (B .refl) (cj kU u0 n0) (fun h3 az H3=>?_))) rfl))
 refine eH (Hr.b0 (dj ⇑h dk _ _ tm _ e2 ⇑h3 az m aW []) rfl (cz.less rfl) (B H3.kp) (cj (H3.get 0 rfl) (H3.get 1 rfl) n0) (fun h4 av H4=>?_))
 have K4:=H3.kp.trans H4.kp
 refine eq_empty (vs:=aW) (H4.get 1 rfl) (H4.get 2 rfl) (by have:=cz.units;left) ?_
 cases UC with
 |nil=>
  refine pO (Hs.b0 (dj ⇑h dk _ _ tm _ e2 ⇑h4 av m [] []) rfl (cz.less rfl) (B K4) (cj (H4.get 0 rfl) (H4.get 1 rfl) n0) (fun h5 aY H5=>?_))
  exact H h5 _ _ _ (fin _ (K4.trans H5.kp)) ⟨_,_,[],H5.get 1 rfl,.nil,Nat.zero_le _⟩ (Int.le_refl 0) (by lia)
 |@cons i t vs XF Bw=>
  have hl3:vs.length≤13:=by simpa using hl2
  refine wpAny_execs_nil ?_
  refine pO (rJ.b0 (dj ⇑h dk _ _ tm _ e2 ⇑h4 av m _ []) rfl (cz.less rfl) (B K4) (cj (H4.get 0 rfl) (H4.get 1 rfl) n0) (fun h5 aY H5=>.code (iJ (x:=.int i t) (H5.get 0 rfl) (Int.le_refl 0) (by simp;left) rfl ?_)))
  refine rJ.b1 (cz.less rfl) (B K4) H5.k H5.rep (fun h6 gG H6=>.call (En (show m≠0 by lia) fun tf IS=>?_))
  refine rJ.b2 (cz.less rfl) (B K4) H6.k H6.rep (fun h7 d_ H7=>.code (iJ (x:=.int i t) (H7.get 0 rfl) (Int.le_refl 0) (by simp;left) rfl ?_))
  refine rJ.b3 (cz.less rfl) (B K4) H7.k H7.rep (fun h8 fT H8=>.call (S4 (show m≠0 by lia) (show m.natAbs<1073741824 by lia) fun tz IU=>?_))
  refine rJ.b4 (cz.less rfl) (B K4) H8.k H8.rep (fun h9 ie H9=>.code (SX (k:=0) (H9.get 0 rfl) (by simp;left) (Int.le_refl 0) (by simp) fun bU yl U=>?_))
  refine rJ.b5 (cz.less rfl) (B K4) H9.k (H9.rep.upd (H9.bg 0 rfl rfl) U) (fun h11 jk aZ=>?_)
  exact H h11 _ _ _ (fin _ (K4.trans aZ.kp)) ⟨_,_,_,aZ.get 1 rfl,.cons _ _ Bw,by simp;left⟩ (Int.fmod_nonneg_of_pos _ (show 0<m by lia)) (Int.fmod_lt_of_pos _ (show 0<m by lia))
end
end
section
set_option genCtorIdx true
inductive Nd where
 |int (i:Int)
 |aS
 |loc (n:Int)
 |glob (g:Int)
 |lam (lb:Int) (ps:List Int) (b:Nd)
 |aP (n:Int) (v:Nd)
 |call (o:Nd) (as:List Nd)
 |seq (is:List Nd)
noncomputable abbrev bH:=List (Int×Nat)
inductive AV where
 |int (i:Int)
 |aS
 |glob (g:Int)
 |di (ps:List Int) (b:Nd) (ρ:bH)
inductive bG where
 |set (c:Nat)
 |seq (is:List Nd) (at_:Nat) (ρ:bH)
 |call (is:List Nd) (gs:List AV) (ρ:bH)
inductive pP where
 |ev (n:Nd) (ρ:bH)
 |val (v:AV)
inductive Sh where
 |int (i:Int)
 |proc
 deriving DecidableEq
structure MS where
 aR:pP
 fs:List bG
 σ:List AV
 kept:List (Int×List bG)
 shown:List (List Sh)
noncomputable def look(ρ:bH)(n:Int):Option Nat:=(ρ.find? fun kv=>kv.1=n).map (·.2)
noncomputable def cI{α:Type}(ρ:List (Int×α))(n:Int)(c:α):List (Int×α):=if ρ.any (fun kv=>kv.1=n)then ρ.map (fun kv=>if kv.1=n then(kv.1,c)else kv)else ρ++[(n,c)]
noncomputable def kg:bH→List Int→Nat→bH
 |ρ,[],_=>ρ
 |ρ,n::ns,c=>kg (cI ρ n c) ns (c+1)
theorem EX{α:Type}(ρ:List (Int×α))(n:Int)(c:α):(cI ρ n c).length≤ρ.length+1:=by
 unfold cI
 split
 ·rw[List.length_map];exact Nat.le_succ _
 ·rw[List.length_append];exact bl
theorem AO:∀(ps:List Int)(ρ:bH)(n:Nat),(kg ρ ps n).length≤ρ.length+ps.length
 | [],_,_=>bl
 |p::ps,ρ,n=>aq (AO ps (cI ρ p n) (n+1)) (aq (Nat.add_le_add_right (EX ρ p n) _) (Nat.le_of_eq (Nat.add_right_comm ..)))
noncomputable def AV.isInt:AV→Bool
 |.int _=>true
 |_=>false
noncomputable def AV.sh:AV→Option Sh
 |.int i=>some (.int i)
 |.di ..=>some .proc
 |_=>none
noncomputable def nj:List AV→Option (List Sh)
 | []=>some []
 |v::vs=>match v.sh,nj vs with
  |some s,some l=>some (s::l)
  |_,_=>none
noncomputable def A4(S:MS)(fs:List bG):List AV→Option MS
 |.di (p::ps) b ρ::g::gs=>if ps.length=gs.length∧gs.all (fun v=>!v.isInt)∧ρ.length+ps.length<100 then some {S with aR:=.ev b (kg ρ (p::ps) S.σ.length),fs:=fs,σ:=S.σ++g::gs}else none
 | [.glob 1,.int a,.int b]=>some {S with aR:=.val (.int b),fs:=fs,kept:=cI S.kept a fs}
 |.glob 2::g::gs=>(nj (g::gs)).map fun l=>{S with aR:=.val (.int 0),fs:=fs,shown:=S.shown++[l]}
 |_=>none
noncomputable def nA(S:MS):Option MS:=match S.aR with
 |.ev n ρ=>match n with
  |.int i=>some {S with aR:=.val (.int i)}
  |.aS=>some {S with aR:=.val .aS}
  |.glob g=>some {S with aR:=.val (.glob g)}
  |.lam _ ps b=>some {S with aR:=.val (.di ps b ρ)}
  |.loc n=>match look ρ n with
   |some c=>match S.σ[c]? with
    |some v=>some {S with aR:=.val v}
    |none=>none
   |none=>none
  |.aP n v=>match look ρ n with
   |some c=>if c<S.σ.length then some {S with aR:=.ev v ρ,fs:=.set c::S.fs}else none
   |none=>none
  |.seq (x::is)=>some {S with aR:=.ev x ρ,fs:=.seq (x::is) 0 ρ::S.fs}
  |.seq []=>none
  |.call o as=>some {S with aR:=.ev o ρ,fs:=.call (o::as) [] ρ::S.fs}
 |.val v=>match S.fs with
  | []=>none
  |.set c::fs=>if c<S.σ.length then some {S with aR:=.val (.int 0),fs:=fs,σ:=S.σ.set c v}else none
  |.seq is at_ ρ::fs=>match is[at_+1]? with
   |some x=>if at_+2<is.length then some {S with aR:=.ev x ρ,fs:=.seq is (at_+1) ρ::fs}else some {S with aR:=.ev x ρ,fs:=fs}
   |none=>none
  |.call is gs ρ::fs=>match is[gs.length+1]? with
   |some x=>some {S with aR:=.ev x ρ,fs:=.call is (gs++[v]) ρ::fs}
   |none=>if gs.length+1=is.length then A4 S fs (gs++[v])else none
noncomputable def lI(S:MS):Prop:=S.fs.length≤400∧S.kept.length≤100∧S.shown.length≤500
inductive jL:MS→MS→Prop
 |fin {S:MS} {i:Int}:S.aR=.val (.int i)→S.fs=[]→jL S S
 |step {S S' T:MS}:lI S→nA S=some S'→jL S' T→jL S T
end
section
variable [Zero Heap]
theorem VJ(P:Params):cO (mL P)=[.If (aL (j7 P)) (j8 P::mJ (iG (j7 P))) (DV (j7 P)) (qB (j7 P))]:=by kernel_rfl
theorem VK(P:Params):j8 P=.If (.Compare (fB (aL (j8 P))) [.Eq] [fC (aL (j8 P))] (jx (aL (j8 P)))) (iG (j8 P)) [] (qB (j8 P)):=by kernel_rfl
theorem VL{prog:Program}{w:World}{A:Around}{Q Q':Flow→Shared→Prop}(hq:∀f s,Q f s→Q' f s):∀fin s,X.postC prog w A (rF Q) fin s→X.postC prog w A (rF Q') fin s:=fun fin s h=>by
 have m:∀r s,rF Q r s→rF Q' r s:=fun r s h=>by
  cases r with
  |ok f=>exact hq f s h
  |error e=>exact h
 cases fin with
 |done f=>exact hq f s h
 |again c=>exact⟨h.1,codeAny_mono h.2 m⟩
noncomputable abbrev DK(P:Params)(t0 t1 t2 t3 t4:Nat)(y:Value)(F S:Addr)(rest:List DictEntry)(fe:Nat):Obj:=
 ai ([ent P fq t1 (.str aX t0),ent P gx t2 y,ent P jZ t3 (.ref F),ent P jq t4 (.ref S)]++rest) fe
section
variable {J:WX}{A:Around}{R:RR}{h:Heap}{tk:Nat}{fr F S:Nat}{t0 t1 t2 t3 t4 fe e1:Nat}{y:Value}{rest:List DictEntry}{fs:List Value}
theorem HM(RA:aa A 40)(TT:aE J.P h)(hfr:h.get? fr=some (DK J.P t0 t1 t2 t3 t4 y F S rest fe))(hF:h.get? F=some (lst fs e1))(qn:534≤fr)(nF:F≠fr)
 (H0:fs=[]→∀h' tk',Kp [fr] h h'→R (.ok (.ret y)) (J.S h' tk'))
 (H1:fs≠[]→∀h1 aB,Kp [fr] h h1→h1.get? fr=some (DK J.P t0 t1 t2 t3 t4 y F S rest fe)→
  wpAny J.M A (jg (mK (mJ (iG (j7 J.P))) (fEnv 513 (g_ J.P) fr)))
   (X.postC pw J.W A (rF fun f s'=>f=.next∧codeAny J.M A (bO J.P fr) R s')) (X.postE (rF fun f s'=>f=.next∧codeAny J.M A (bO J.P fr) R s')) (J.S h1 aB)):
 codeAny J.M A (bO J.P fr) R (J.S h tk):=by
 refine codeAny_of_tree ?_
 show wpAny _ A ((whileTurn (aL (mL J.P)) (cO (mL J.P)) [] (fEnv 513 (g_ J.P) fr)).onRaise (fun x=>do noteFrame x (fEnv 513 (g_ J.P) fr);theTreesLotGoes x)) _ _ _
 refine wpAny_noted ?_
 unfold whileTurn
 have B:=fun{h':Heap}(K:Kp [fr] h h')=>aG (prog:=pw) (w:=J.W) (mods:=[fr]) (TT.kp K (by k_in)) (by k_in) (ro:=[]) trivial
 let vv:Vv:=gm fr t0 F S t1 t2 t3 t4 fe ⇑h tk 0 0 y [] rest
 refine wpAny_bind (qU (HA.b0 vv rfl (RA.less rfl) (B .refl) (gV hfr) (fun h1 aB G1=>?_)))
 have K1:Kp [fr] h h1:=G1.kp
 show wpAny _ _ (execs (cO (mL J.P)) _>>=_) _ _ _
 rw[VJ]
 let vv:Vv:=gm fr t0 F S t1 t2 t3 t4 fe ⇑h1 aB 0 0 y [] rest
 refine wpAny_bind (wpAny_execs_cons (wpAny_If (qU (HB.b0 vv rfl (RA.less rfl) (B K1) (gV (G1.get 0 rfl)) (fun h2 ao G2=>?_)))))
 have K2:Kp [fr] h h2:=K1.trans G2.kp
 show wpAny _ _ (execs (j8 J.P::mJ (iG (j7 J.P))) _) _ _ _
 rw[VK]
 let vv:Vv:=gm fr t0 F S t1 t2 t3 t4 fe ⇑h2 ao 0 0 y [] rest
 refine wpAny_execs_cons (wpAny_If (wpAny_isTrue_Compare1 (eH (HC.b0 vv rfl (RA.less rfl) (B K2) (gV (G2.get 0 rfl)) (fun h3 az G3=>?_))) rfl))
 have K3:Kp [fr] h h3:=K2.trans G3.kp
 let vv:Vv:=gm fr t0 F S t1 t2 t3 t4 fe ⇑h3 az 0 0 y [] rest
 refine eH (HD.b0 vv rfl (RA.less rfl) (B K3) (gV (G3.get 0 rfl)) (fun h4 av G4=>?_))
 have K4:Kp [fr] h h4:=K3.trans G4.kp
 refine eq_empty (vs:=fs) (K4.keep _ _ (by k_in) hF) (G4.get 1 rfl) (by have:=RA.units;left) ?_
 cases fs with
 |nil=>
  let vv:Vv:=gm fr t0 F S t1 t2 t3 t4 fe ⇑h4 av 0 0 y [] rest
  refine pO (HE.b0 vv rfl (RA.less rfl) (B K4) (gV (G4.get 0 rfl)) (fun h5 aY G5=>?_))
  exact wpAny_pure (H0 rfl h5 aY (K4.trans G5.kp))
 |cons f fs=>
  refine wpAny_execs_nil ?_
  refine pO (wpAny_mono (H1 (by simp) h4 av K4 (G4.get 0 rfl)) (VL fun f s' hf=>?_) (fun e s' he=>he))
  obtain⟨rfl,hc⟩:=hf
  exact wpAny_execs_nil (wpAny_pure ⟨rfl,hc⟩)
end
end
section
variable [Zero Heap]
section
variable {J:WX}{A:Around}{R:RR}{h:Heap}{tk:Nat}{T I G E F S c x d L:Addr}{t1 e1 e2 e3 ei eg ec z ti tu:Nat}{i u:Int}{fs rest is gs:List Value}{old:Value}
theorem R8(RA:aa A 50)(TT:aE J.P h)(hF:h.get? F=some (lst (fs++[.ref T]) e1))(hT:h.get? T=some (tup [.str s_call t1,.ref I,.ref G,.ref E]))(hG:h.get? G=some (lst [] e2))(hI:h.get? I=some (lst (.ref x::rest) e3))
 (H:∀h' tk' p,Kp [] h h'→⇑h≤p→h'.get? p=some (tup [.ref x,.ref E])→R (rt (.ref p)) (J.S h' tk')):codeAny J.M A (aK 499 [.ref F]) R (J.S h tk):=by
 have B:=aG (prog:=pw) (w:=J.W) (mods:=[]) TT (by k_in) (ro:=[(F,_),(T,_),(G,_),(I,_)]) (rC hF (by k_in) (rC hT (by k_in) (rC hG (by k_in) (rC hI (by k_in) rN))))
 let vv:Vv:=mQ F T E e1 t1 G I x e2 e3 ⇑h tk 0 0 0 .none (fs++[.ref T]) rest
 refine CC.b0 vv (RA.less rfl) B fG (fun bS _ H1=>.code (ym (H1.rep.kp.keep _ _ (by k_in) hF) ?_))
 exact CC.b1 (RA.less rfl) B H1.k H1.rep (fun h' _ H2=>H h' _ _ H2.rep.kp (Nat.le_add_right ⇑h 1) (H2.get 0 rfl))
theorem R3(RA:aa A 50)(TT:aE J.P h)(hF:h.get? F=some (lst (fs++[.ref T]) e1))(hT:h.get? T=some (tup [.str lU t1,.ref c,.ref x,.ref E]))
 (H:∀h' tk' p,Kp [] h h'→⇑h≤p→h'.get? p=some (tup [.ref x,.ref E])→R (rt (.ref p)) (J.S h' tk')):codeAny J.M A (aK 499 [.ref F]) R (J.S h tk):=by
 have B:=aG (prog:=pw) (w:=J.W) (mods:=[]) TT (by k_in) (ro:=[(F,_),(T,_)]) (rC hF (by k_in) (rC hT (by k_in) rN))
 let vv:Vv:=dj F T E e1 t1 c x ⇑h tk 0 (fs++[.ref T]) []
 refine CD.b0 vv (RA.less rfl) B fG (fun bS _ H1=>.code (ym (H1.rep.kp.keep _ _ (by k_in) hF) ?_))
 exact CD.b1 (RA.less rfl) B H1.k H1.rep (fun h' _ H2=>H h' _ _ H2.rep.kp (Nat.le_add_right ⇑h 1) (H2.get 0 rfl))
theorem R6(RA:aa A 50)(TT:aE J.P h)(hF:h.get? F=some (lst (fs++[.ref T]) e1))(hT:h.get? T=some (tup [.str nV t1,.ref I,.int 0 z,.ref E]))(hI:h.get? I=some (lst (.ref x::rest) e3))
 (H:∀h' tk' p,Kp [] h h'→⇑h≤p→h'.get? p=some (tup [.ref x,.ref E])→R (rt (.ref p)) (J.S h' tk')):codeAny J.M A (aK 499 [.ref F]) R (J.S h tk):=by
 have B:=aG (prog:=pw) (w:=J.W) (mods:=[]) TT (by k_in) (ro:=[(F,_),(T,_),(I,_)]) (rC hF (by k_in) (rC hT (by k_in) (rC hI (by k_in) rN)))
 let vv:Vv:=mQ F T E e1 t1 I z x e3 ⇑h tk 0 0 0 0 .none (fs++[.ref T]) rest
 refine CE.b0 vv (RA.less rfl) B fG (fun bS _ H1=>.code (ym (H1.rep.kp.keep _ _ (by k_in) hF) ?_))
 exact CE.b1 (RA.less rfl) B H1.k H1.rep (fun h' _ H2=>H h' _ _ H2.rep.kp (Nat.le_add_right ⇑h 1) (H2.get 0 rfl))
theorem My{z0:Bool}(RA:aa A 60)(TT:aE J.P h)(hF:h.get? F=some (lst (fs++[.ref T]) e1))(hz:fs.length≤500)(lF:534≤F)(nT:T≠F)(hT:h.get? T=some (tup [.str lU t1,.ref c,.ref x,.ref E]))(hc:h.get? c=some (lst [old] ec))(lc:534≤c)(UD:F≠c)(XG:T≠c)
 (H:∀h' tk' p t z e3,Kp [F,c] h h'→h'.get? F=some (lst fs e3)→h'.get? c=some (lst [kv z0 u tu] ec)→⇑h≤p→h'.get? p=some (tup [.str aX t,.int 0 z])→R (rt (.ref p)) (J.S h' tk')):codeAny J.M A (aK 506 [kv z0 u tu,.ref F,.ref S]) R (J.S h tk):=by
 have B:=aG (prog:=pw) (w:=J.W) (mods:=[F,c]) TT (by k_in) (ro:=[(T,_)]) (rC hT (by k_in) rN)
 refine Cz.b0 z0 (mQ F S e1 (e1+1) T t1 c x E ec tu ⇑h tk 0 u old _ fs) (RA.less rfl) B (cj hF hc UD) (fun bS _ H1=>.code (kQ (H1.get 0 rfl) (by left) fun h2' U=>?_))
 exact Cz.b1 (RA.less rfl) B H1.k (H1.rep.upd (H1.bg 0 rfl rfl) U) (fun h' _ H2=>
  H h' _ _ _ _ _ H2.rep.kp (H2.get 0 rfl) (H2.get 1 rfl) (Nat.le_add_right ⇑h 1) (H2.get 2 rfl))
theorem MA{z0:Bool}(RA:aa A 60)(TT:aE J.P h)(hF:h.get? F=some (lst (fs++[.ref T]) e1))(hz:fs.length≤500)(lF:534≤F)(nT:T≠F)(hT:h.get? T=some (tup [.str nV t1,.ref I,.int i ti,.ref E]))(hI:h.get? I=some (lst is ei))(nI:I≠F)(fX:is.length≤500)(h0:0≤i)(hl:(i+1<(is.length:Int)-1)){y:Addr}(hy:is[(i+1).toNat]? =some (.ref y))
 (H:∀h' tk' p t z q e3,Kp [F] h h'→h'.get? F=some (lst (fs++[.ref q]) e3)→⇑h≤q→h'.get? q=some (tup [.str nV t,.ref I,.int (i+1) z,.ref E])→⇑h≤p→h'.get? p=some (tup [.ref y,.ref E])→R (rt (.ref p)) (J.S h' tk')):codeAny J.M A (aK 506 [kv z0 u tu,.ref F,.ref S]) R (J.S h tk):=by
 have B:=aG (prog:=pw) (w:=J.W) (mods:=[F]) TT (by k_in) (ro:=[(T,_),(I,_)]) (rC hT (by k_in) (rC hI (by k_in) rN))
 refine nZ.b0 z0 (zy F S e1 (e1+1) T t1 I ti E ei tu ⇑h tk 0 i u _ fs is []) (RA.less rfl) B (gV hF) (fun bS _ H1=>.code (kQ (H1.get 0 rfl) (by left) fun h2' U=>?_))
 refine nZ.b1 (RA.less rfl) B H1.k (H1.rep.upd (H1.bg 0 rfl rfl) U) (fun h2 _ H2=>.code (g8 (H2.rep.keep _ _ (by k_in) hI) (by left) fun z2 k2=>?_))
 refine nZ.b2 (RA.less rfl) B H2.k H2.rep (fun h3 _ H3=>.code (vY (show¬i+1=(is.length:Int) by lia) ?_))
 refine nZ.b3 (RA.less rfl) B H3.k H3.rep (fun h4 _ H4=>.code (g8 (H4.rep.keep _ _ (by k_in) hI) (by left) fun z3 k3=>?_))
 refine nZ.b4 (RA.less rfl) B H4.k H4.rep (fun h5 _ H5=>.code (HQ (show(i+1<(is.length:Int)-1) by left) ?_))
 refine nZ.b5 (RA.less rfl) B H5.k H5.rep (fun h6 _ H6=>.code (dZ (H6.get 0 rfl) (by show fs.length≤1000;left) fun h7 U7=>?_))
 refine nZ.b6 (RA.less rfl) B H6.k (H6.rep.upd (H6.bg 0 rfl rfl) U7) (fun h8 _ H8=>.code (iJ (H8.rep.keep _ _ (by k_in) hI) (by show 0≤i+1;lia) (by left) hy ?_))
 exact nZ.b7 (RA.less rfl) B H8.k H8.rep (fun h' _ H9=>
  H h' _ _ _ _ _ _ H9.rep.kp (H9.get 0 rfl) (Nat.le_add_right ⇑h 1) (H9.get 1 rfl) (Nat.le_add_right ⇑h 2) (H9.get 2 rfl))
theorem MB{z0:Bool}(RA:aa A 60)(TT:aE J.P h)(hF:h.get? F=some (lst (fs++[.ref T]) e1))(hz:fs.length≤500)(lF:534≤F)(nT:T≠F)(hT:h.get? T=some (tup [.str nV t1,.ref I,.int i ti,.ref E]))(hI:h.get? I=some (lst is ei))(nI:I≠F)(fX:is.length≤500)(h0:0≤i)(hl:(i+1=(is.length:Int)-1)){y:Addr}(hy:is[(i+1).toNat]? =some (.ref y))
 (H:∀h' tk' p e3,Kp [F] h h'→h'.get? F=some (lst fs e3)→⇑h≤p→h'.get? p=some (tup [.ref y,.ref E])→R (rt (.ref p)) (J.S h' tk')):codeAny J.M A (aK 506 [kv z0 u tu,.ref F,.ref S]) R (J.S h tk):=by
 have B:=aG (prog:=pw) (w:=J.W) (mods:=[F]) TT (by k_in) (ro:=[(T,_),(I,_)]) (rC hT (by k_in) (rC hI (by k_in) rN))
 refine qb.b0 z0 (zy F S e1 (e1+1) T t1 I ti E ei tu ⇑h tk 0 i u _ fs is []) (RA.less rfl) B (gV hF) (fun bS _ H1=>.code (kQ (H1.get 0 rfl) (by left) fun h2' U=>?_))
 refine qb.b1 (RA.less rfl) B H1.k (H1.rep.upd (H1.bg 0 rfl rfl) U) (fun h2 _ H2=>.code (g8 (H2.rep.keep _ _ (by k_in) hI) (by left) fun z2 k2=>?_))
 refine qb.b2 (RA.less rfl) B H2.k H2.rep (fun h3 _ H3=>.code (vY (show¬i+1=(is.length:Int) by lia) ?_))
 refine qb.b3 (RA.less rfl) B H3.k H3.rep (fun h4 _ H4=>.code (g8 (H4.rep.keep _ _ (by k_in) hI) (by left) fun z3 k3=>?_))
 refine qb.b4 (RA.less rfl) B H4.k H4.rep (fun h5 _ H5=>.code (HS (show¬(i+1<(is.length:Int)-1) by lia) ?_))
 refine qb.b5 (RA.less rfl) B H5.k H5.rep (fun h6 _ H6=>.code (iJ (H6.rep.keep _ _ (by k_in) hI) (by show 0≤i+1;lia) (by left) hy ?_))
 exact qb.b6 (RA.less rfl) B H6.k H6.rep (fun h' _ H7=>
  H h' _ _ _ H7.rep.kp (H7.get 0 rfl) (Nat.le_add_right ⇑h 1) (H7.get 1 rfl))
theorem ME{z0:Bool}(RA:aa A 60)(TT:aE J.P h)(hF:h.get? F=some (lst (fs++[.ref T]) e1))(hz:fs.length≤500)(lF:534≤F)(nT:T≠F)(hT:h.get? T=some (tup [.str s_call t1,.ref I,.ref G,.ref E]))(hG:h.get? G=some (lst gs eg))(hI:h.get? I=some (lst is ei))(nG:G≠F)(nI:I≠F)(fX:is.length≤300)(hl:gs.length+1<is.length){y:Addr}(hy:is[gs.length+1]? =some (.ref y))
 (H:∀h' tk' p t q m e3,Kp [F] h h'→h'.get? F=some (lst (fs++[.ref q]) e3)→⇑h≤q→h'.get? q=some (tup [.str s_call t,.ref I,.ref m,.ref E])→⇑h≤m→h'.get? m=some (lst (gs++[kv z0 u tu]) 0)→⇑h≤p→h'.get? p=some (tup [.ref y,.ref E])→R (rt (.ref p)) (J.S h' tk')):codeAny J.M A (aK 506 [kv z0 u tu,.ref F,.ref S]) R (J.S h tk):=by
 have B:=aG (prog:=pw) (w:=J.W) (mods:=[F]) TT (by k_in) (ro:=[(T,_),(G,_),(I,_)]) (rC hT (by k_in) (rC hG (by k_in) (rC hI (by k_in) rN)))
 refine mh.b0 z0 (zy F S e1 (e1+1) T t1 I G E ei eg tu ⇑h tk u 0 _ fs is gs) (RA.less rfl) B (gV hF) (fun bS _ H1=>.code (kQ (H1.get 0 rfl) (by left) fun h2' U=>?_))
 refine mh.b1 (RA.less rfl) B H1.k (H1.rep.upd (H1.bg 0 rfl rfl) U) (fun h2 _ H2=>.code (ig (H2.rep.keep _ _ (kNc nG kNn) hG) (H2.get 0 rfl) (#[0x11113190d12011c20112cd102,is.length,gs.length] fX hl) (oz rfl) fun h3' N3=>?_))
 have m2:⇑h≤⇑h2:=H2.kp.size
 have m3:⇑h2<⇑h3':=aj N3.at_
 refine mh.b2 (RA.less rfl) B H2.k (by have e:=N3.at_;rw[H2.size]at e⊢;exact H2.rep.new N3.kp e) (fun h3 _ H3=>.code (g8 (H3.get 0 rfl) (by simp;exact #[0x111133e7d12011c20112cd102,is.length,gs.length] fX hl) fun z3 k3=>?_))
 refine mh.b3 (RA.less rfl) B H3.k H3.rep (fun h4 _ H4=>.code (g8 (H4.rep.keep _ _ (kNc nI kNn) hI) (by left) fun z4 k4=>?_))
 refine mh.b4 (RA.less rfl) B H4.k H4.rep (fun h5 _ H5=>.code (HQ (show(((gs++[kv z0 u tu]).length:Int)<(is.length:Int)) by rw[List.length_append,List.length_singleton];lia) ?_))
 refine mh.b5 (RA.less rfl) B H5.k H5.rep (fun h6 _ H6=>.code (dZ (H6.get 0 rfl) (by show fs.length≤1000;left) fun h7 U7=>?_))
 refine mh.b6 (RA.less rfl) B H6.k (H6.rep.upd (H6.bg 0 rfl rfl) U7) (fun h8 _ H8=>.code (g8 (H8.get 0 rfl) (by simp;exact #[0x111133e7d12011c20112cd102,is.length,gs.length] fX hl) fun z5 k5=>?_))
 refine mh.b7 (RA.less rfl) B H8.k H8.rep (fun h9 _ H9=>.code (iJ (H9.rep.keep _ _ (kNc nI kNn) hI) (Int.natCast_nonneg _) (by left) (by rw[List.length_append,List.length_singleton];exact hy) ?_))
 exact mh.b8 (RA.less rfl) B H9.k H9.rep (fun h' _ dS=>
  H h' _ _ _ _ _ _ dS.rep.kp (dS.get 0 rfl) (by show ⇑h≤_;left) (dS.get 2 rfl) m2 (dS.get 1 rfl) (by show ⇑h≤_;left) (dS.get 3 rfl))
theorem MH{z0:Bool}(RA:aa A 60)(TT:aE J.P h)(hF:h.get? F=some (lst (fs++[.ref T]) e1))(hz:fs.length≤500)(lF:534≤F)(nT:T≠F)(hT:h.get? T=some (tup [.str s_call t1,.ref I,.ref G,.ref E]))(hG:h.get? G=some (lst gs eg))(hI:h.get? I=some (lst is ei))(nG:G≠F)(nI:I≠F)(fX:is.length≤300){KD SH:Addr}(lK:534≤KD)(lS:534≤SH)(nK:KD≠F)(nS:SH≠F)(n1:T≠KD)(n2:G≠KD)(n3:I≠KD)(n4:T≠SH)(n5:G≠SH)(n6:I≠SH)(zK:KD<⇑h)(zS:SH<⇑h)
 (hl:gs.length+1=is.length) {y:Addr} {tl:List Value} (hg:gs++[kv z0 u tu]=.ref y::tl)
 (H:∀(A':Around)(R':RR) h1 aB p ep e3,aa A' 47→Kp [F] h h1→h1.get? F=some (lst fs e3)→⇑h≤p→h1.get? p=some (lst tl ep)→
  (∀h2 ao o,Kp [KD,SH] h1 h2→(∀h3 az,h3.get? F=some (lst fs e3)→(∀b ob,b≠F→(b<⇑h∨⇑h1≤b)→h2.get? b=some ob→h3.get? b=some ob)→⇑h2≤⇑h3→R (rt (.ref o)) (J.S h3 az))→R' (rt (.ref o)) (J.S h2 ao))→
  codeAny J.M A' (aK 485 [.ref y,.ref p,.ref S,.ref F]) R' (J.S h1 aB)):codeAny J.M A (aK 506 [kv z0 u tu,.ref F,.ref S]) R (J.S h tk):=by
 have B:=aG (prog:=pw) (w:=J.W) (mods:=[F]) TT (by k_in) (ro:=[(T,_),(G,_),(I,_)]) (rC hT (by k_in) (rC hG (by k_in) (rC hI (by k_in) rN)))
 refine mj.b0 z0 (zy F S e1 (e1+1) T t1 I G E ei eg tu ⇑h tk u 0 _ fs is gs) (RA.less rfl) B (gV hF) (fun bS _ H1=>.code (kQ (H1.get 0 rfl) (by left) fun h2' U=>?_))
 refine mj.b1 (RA.less rfl) B H1.k (H1.rep.upd (H1.bg 0 rfl rfl) U) (fun h2 _ H2=>.code (ig (H2.rep.keep _ _ (kNc nG kNn) hG) (H2.get 0 rfl) (#[0x110114190d12011c20212cd102,is.length,gs.length] fX hl) (oz rfl) fun h3' N3=>?_))
 have m2:⇑h≤⇑h2:=H2.kp.size
 have m3:⇑h2<⇑h3':=aj N3.at_
 refine mj.b2 (RA.less rfl) B H2.k (by have e:=N3.at_;rw[H2.size]at e⊢;exact H2.rep.new N3.kp e) (fun h3 _ H3=>.code (g8 (H3.get 0 rfl) (by simp;exact #[0x1101143e7d12011c20212cd102,is.length,gs.length] fX hl) fun z3 k3=>?_))
 refine mj.b3 (RA.less rfl) B H3.k H3.rep (fun h4 _ H4=>.code (g8 (H4.rep.keep _ _ (kNc nI kNn) hI) (by left) fun z4 k4=>?_))
 refine mj.b4 (RA.less rfl) B H4.k H4.rep (fun h5 _ H5=>.code (HS (show¬(((gs++[kv z0 u tu]).length:Int)<(is.length:Int)) by rw[List.length_append,List.length_singleton];lia) ?_))
 refine mj.b5 (RA.less rfl) B H5.k H5.rep (fun h6 _ H6=>.code (iJ (H6.get 0 rfl) (Int.le_refl 0) (by simp;exact #[0x1101143e7d12011c20212cd102,is.length,gs.length] fX hl) (x:=.ref y) (by show(gs++[_])[0]? =_;rw[hg];rfl) ?_))
 refine mj.b6 (RA.less rfl) B H6.k H6.rep (fun h7 _ H7=>.code (SM (x:=.ref y) (vs:=tl) (by have e:=H7.get 1 rfl;rw[←hg];exact e) (H7.get 0 rfl) (by have:=congrArg List.length hg;simp at this;exact #[0x11100116384d13032211c20212cd103,is.length,gs.length,tl.length] fX hl this) fun h8 N8=>?_))
 have m7:⇑h≤⇑h7:=H7.kp.size
 refine mj.b7 (RA.less rfl) B H7.k (H7.rep.grow N8.kp) (fun h9 _ H9=>.code ?_)
 have e9:h9.get? ⇑h7=some (lst tl 0):=H9.seg.keep _ _ (H7.rep.dI (Nat.le_of_eq H7.size.symm)) N8.at_
 refine H _ _ _ _ _ _ _ (aa.up H9.k RA rfl) H9.kp (H9.get 0 rfl) m7 e9 (fun h2 _ o kk hR=>?_)
 obtain⟨B2,D2⟩:=xQ B H9.rep kk (kAc ⟨⟨zK,by k_in⟩,sP lK,by simp[n1,n2,n3]⟩ (kAc ⟨⟨zS,by k_in⟩,sP lS,by simp[n4,n5,n6]⟩ kAn))
 refine mj.b8 (RA.less rfl) B2 H9.k D2 (fun h' _ dS=>hR h' _ (dS.get 0 rfl) (fun b ob nb hb e=>dS.seg.keep _ _ (fun q=>?_) e) dS.seg.size)
 obtain⟨p,hp,e'⟩:=mM q
 have l9:b<⇑h9:=e'▸aj (H9.rep.at_ p hp)
 rcases H9.rep.own p hp with z|z
 ·exact nb (e'▸mS z)
 ·have z':⇑h≤b:=e'▸z
  rcases hb with hb|hb
  ·exact Nat.lt_irrefl _ (aJ hb z')
  ·exact Nat.lt_irrefl _ (aJ l9 hb)
end
end
section
variable [Zero Heap]
section
variable {J:WX}{A:Around}{R:RR}{h:Heap}{tk:Nat}{fr F S:Nat}{t0 t1 t2 t3 t4 fe:Nat}{rest:List DictEntry}{m:List Addr}{P:Heap→Addr→Value→Value→Prop}
theorem Base.add{V:Vw}{h₀:Heap}{mods:List Addr}{T:Addr}(B:Base V h₀ mods)(h1:∀o,V.kt.get T≠some o)(h2:∀p∈V.ro,p.1≠T):Base V h₀ (mods++[T]):=
 ⟨fun j o e=>⟨(B.kt j o e).1,fun q=>by
  rcases mA q with q|q
  ·exact(B.kt j o e).2 q
  ·exact h1 o (mS q▸e)⟩,fun p hp=>⟨(B.ro p hp).1,fun q=>by
  rcases mA q with q|q
  ·exact(B.ro p hp).2 q
  ·exact h2 p hp (mS q)⟩,B.st⟩
theorem Rep.add{V:Vw}{h₀ h:Heap}{mods:List Addr}{mu:List Ent}{sz:Nat}{T:Addr}{o:Obj}(D:Rep V h₀ mods h mu sz)(e:h.get? T=some o)(hn:∀p∈mu,p.1≠T):Rep V h₀ (mods++[T]) h (mu++[(T,o)]) sz:=by
 refine⟨D.size,?_,?_,?_,fun b ob hb e'=>D.keep b ob (fun q=>hb (cC q)) e',D.le⟩
 ·intro p hp
  rcases mA hp with hp|hp
  ·exact D.at_ p hp
  ·rw[mS hp];exact e
 ·rw[List.map_append,List.nodup_append]
  refine⟨D.nd,by simp,?_⟩
  intro x hx b hb
  obtain⟨p,hp,rfl⟩:=mM hx
  simp only[List.map_cons,List.map_nil,List.mem_singleton]at hb
  rw[hb];exact hn p hp
 ·intro p hp
  rcases mA hp with hp|hp
  ·rcases D.own p hp with z|z
   ·exact .inl (cC z)
   ·exact .inr z
  ·rw[mS hp];exact .inl (bD (by k_in))
theorem own_one{A:Around}{h₀ h h₁:Heap}{fr:Nat}{s:Sg}(H:At A h₀ [fr] h₁ s h)(hs:s.hd.sz=⇑h₀):∀p∈fc s.r,p.1=fr:=fun p hp=>by
 rcases H.rep.own p hp with z|z
 ·exact mS z
 ·have:=aj (H.rep.at_ p hp)
  rw[H.size,hs]at this
  exact absurd z (Nat.not_le_of_lt this)
theorem VM{z:Bool}{u:Int}{tu:Nat}(RA:aa A 80)(TT:aE J.P h)(hfr:h.get? fr=some (DK J.P t0 t1 t2 t3 t4 (kv z u tu) F S rest fe))(qn:534≤fr)(hm:∀x∈m,x<⇑h∧534≤x∧x≠fr)
 (G:∀A' R' h1 aB,aa A' 60→Kp [fr] h h1→⇑h1=⇑h→(∀h2 ao T x y q1 q2 q3,Kp m h1 h2→⇑h≤T→h2.get? T=some (tup [kx x q1,kv y q2 q3])→P h2 T (kx x q1) (kv y q2 q3)→R' (rt (.ref T)) (J.S h2 ao))→codeAny J.M A' (aK 506 [kv z u tu,.ref F,.ref S]) R' (J.S h1 aB))
 (K:∀h1 h2 T h3 az a b,Kp [fr] h h1→Kp m h1 h2→P h2 T a b→Kp [fr,T] h2 h3→h3.get? fr=some (ai ([ent J.P fq t1 a,ent J.P gx t2 b,ent J.P jZ t3 (.ref F),ent J.P jq t4 (.ref S)]++rest) fe)→codeAny J.M A (bO J.P fr) R (J.S h3 az)):
 wpAny J.M A (jg (mK (mJ (iG (j7 J.P))) (fEnv 513 (g_ J.P) fr)))
  (X.postC pw J.W A (rF fun f s'=>f=.next∧codeAny J.M A (bO J.P fr) R s')) (X.postE (rF fun f s'=>f=.next∧codeAny J.M A (bO J.P fr) R s')) (J.S h tk):=by
 have B:=aG (prog:=pw) (w:=J.W) (mods:=[fr]) TT (by k_in) (ro:=[]) trivial
 let vv:zh.A:=⟨z,fr,t0,F,S,t1,t2,t3,t4,fe,tu,⇑h,tk,u,rest⟩
 refine zh.b0 vv rfl (RA.less rfl) B (gV hfr) (fun h1 aB H1=>.code ?_)
 refine G _ _ h1 aB (aa.up H1.k RA rfl) H1.kp H1.size (fun h2 ao T x y q1 q2 q3 kk lT eT hP=>?_)
 obtain⟨B2,D2⟩:=xQ B H1.rep kk (fun x hx=>⟨⟨(hm x hx).1,kNc (hm x hx).2.2 kNn⟩,sP (hm x hx).2.1,iU⟩)
 have one:=own_one H1 rfl
 refine zh.b1 (e:=⇑h2) (RA.less rfl) (B2.add (sP (aq qn (Nat.le_of_lt (aJ (aj hfr) lT)))) iU) H1.k (D2.add eT (fun p hp=>by
  rw[one p hp]
  exact gP (aJ (aj hfr) lT))) (fun h3 az H3=>⟨rfl,?_⟩)
 refine K h1 h2 T h3 az _ _ H1.kp kk hP (H3.kp.more fun x hx=>?_) (H3.get 0 rfl)
 rcases mA hx with hx|hx
 ·obtain⟨p,hp,e⟩:=mM hx
  rw[←e,one p hp];exact kMi 0 rfl
 ·rw[mS hx];exact kMi 1 rfl
end
end
section
variable [Zero Heap]
noncomputable abbrev VN(P:Params)(t1 t2 t3 t4:Nat)(x y:Value)(F S:Addr)(fe:Nat):Obj:=
 ai [ent P fq t1 x,ent P gx t2 y,ent P jZ t3 (.ref F),ent P jq t4 (.ref S)] fe
noncomputable abbrev VO(P:Params)(t1 t2 t3 t4 t5:Nat)(x y:Value)(F S:Addr)(v:Value)(fe:Nat):Obj:=
 ai [ent P fq t1 x,ent P gx t2 y,ent P jZ t3 (.ref F),ent P jq t4 (.ref S),ent P gw t5 v] fe
theorem Jy{l:List Ent}{fr:Addr}(one:∀p∈l,p.1=fr):∀x∈l.map (·.1),x∈[fr]:=fun x hx=>by
 obtain⟨p,hp,e⟩:=mM hx
 rw[←e,one p hp];exact kMi 0 rfl
theorem VP{l:List Ent}{fr:Addr}(h:∀p∈l,p.1∈[fr]):∀p∈l,p.1=fr:=fun p hp=>mS (h p hp)
theorem VQ{l:List Ent}{fr T:Addr}{o:Obj}(one:∀p∈l,p.1=fr):∀x∈(l++[(T,o)]).map (·.1),x∈[fr,T]:=fun x hx=>by
 obtain⟨p,hp,e⟩:=mM hx
 rcases mA hp with hp|hp
 ·rw[←e,one p hp];exact kMi 0 rfl
 ·rw[←e,mS hp];exact kMi 1 rfl
inductive eE (P:Params) (h:Heap) (fr F S:Addr) (x y:Value):Prop
 |four {t1 t2 t3 t4 fe}:h.get? fr=some (VN P t1 t2 t3 t4 x y F S fe)→eE P h fr F S x y
 |rD {t1 t2 t3 t4 t5 v fe}:h.get? fr=some (VO P t1 t2 t3 t4 t5 x y F S v fe)→eE P h fr F S x y
theorem eE.lt{P:Params}{h:Heap}{fr F S:Addr}{x y:Value}(f:eE P h fr F S x y):fr<⇑h:=by
 cases f with
 |four e=>exact aj e
 |rD e=>exact aj e
theorem eE.z{J:WX}{h:Heap}{fr F S:Addr}{x y:Value}(f:eE J.P h fr F S x y):∃t1 t2 t3 t4 z t5 v fe,h.get? fr=some (ai ([ent J.P fq t1 x,ent J.P gx t2 y,ent J.P jZ t3 (.ref F),ent J.P jq t4 (.ref S)]++fn J z t5 v) fe):=by
 cases f with
 |four e=>exact⟨_,_,_,_,false,0,.none,_,e⟩
 |rD e=>exact⟨_,_,_,_,true,_,_,_,e⟩
section
variable {J:WX}{A:Around}{R:RR}{h:Heap}{tk:Nat}{fr a d E F S:Nat}
theorem tR(x y:Bool){P:Heap→Value→Prop}(RA:aa A 80)(TT:aE J.P h)(f:eE J.P h fr F S (.ref a) (.ref E))(qn:534≤fr)(ha:h.get? a=some (ins (nc true x y) d))(na:a≠fr)
 (G:∀A' R' h1 aB,aa A' 60→Kp [fr] h h1→⇑h1=⇑h→(∀h2 ao r u t,Kp [] h1 h2→P h2 (kv r u t)→R' (rt (kv r u t)) (J.S h2 ao))→codeAny J.M A' (aK 492 [.ref a,.ref E,.ref F]) R' (J.S h1 aB))
 (K:∀h1 h2 h3 az y q1,Kp [fr] h h1→Kp [] h1 h2→P h2 y→Kp [fr] h2 h3→eE J.P h3 fr F S (.str aX q1) y→codeAny J.M A (bO J.P fr) R (J.S h3 az)):
 codeAny J.M A (bO J.P fr) R (J.S h tk):=by
 have B:=aG (prog:=pw) (w:=J.W) (mods:=[fr]) TT (by k_in) (ro:=[(a,_)]) (rC ha (kNc na kNn) rN)
 obtain⟨t1,t2,t3,t4,z,t5,y0,fe,hfr⟩:=f.z
 let vv:rl.A:=⟨z,x,y,fr,a,d,E,F,S,t1,t2,t3,t4,fe,t5,⇑h,tk,y0⟩
 refine rl.b0 vv (RA.less rfl) B (gV hfr) (fun h1 aB H1=>.code ?_)
 refine G _ _ h1 aB (aa.up H1.k RA rfl) H1.kp H1.size (fun h2 ao r u t kk hP=>?_)
 obtain⟨B2,D2⟩:=xQ B H1.rep kk kAn
 refine rl.b1 (c:=⇑h2) (RA.less rfl) B2 H1.k D2 (fun h3 az H3=>?_)
 rw[rl.k1]
 exact K h1 h2 h3 az _ _ H1.kp kk hP (H3.kp.more (Jy (own_one H1 rfl))) (.rD (H3.get 0 rfl))
theorem VR{A:Around}{h₀ h h₁:Heap}{mods:List Addr}{s:Sg}(H:At A h₀ mods h₁ s h)(hs:s.hd.sz=⇑h₀):∀p∈fc s.r,p.1∈mods:=fun p hp=>by
 rcases H.rep.own p hp with z|z
 ·exact z
 ·have:=aj (H.rep.at_ p hp)
  rw[H.size,hs]at this
  exact absurd z (Nat.not_le_of_lt this)
theorem Cp(x y:Bool){P:Heap→Prop}{Q:Heap→Addr→Addr→Prop}(RA:aa A 80)(TT:aE J.P h)(f:eE J.P h fr F S (.ref a) (.ref E))(qn:534≤fr)(ha:h.get? a=some (ins (nc false x y) d))(na:a≠fr)(gF:534≤F)(lF:F<⇑h)(nF:F≠fr)(VS:a≠F)
 (G:∀A' R' h1 aB,aa A' 60→Kp [fr] h h1→⇑h1=⇑h→(∀h2 ao,Kp [F] h1 h2→P h2→R' (rt .none) (J.S h2 ao))→codeAny J.M A' (aK 492 [.ref a,.ref E,.ref F]) R' (J.S h1 aB))
 (G2:∀A' R' h2 h3 az,aa A' 60→P h2→Kp [fr] h2 h3→⇑h3=⇑h2→aE J.P h3→(∀h4 av T x E2,Kp [] h3 h4→⇑h3≤T→h4.get? T=some (tup [.ref x,.ref E2])→Q h4 x E2→R' (rt (.ref T)) (J.S h4 av))→codeAny J.M A' (aK 499 [.ref F]) R' (J.S h3 az))
 (K:∀h1 h2 h3 h4 h5 aY T x E2,Kp [fr] h h1→Kp [F] h1 h2→P h2→Kp [fr] h2 h3→Kp [] h3 h4→⇑h3≤T→Q h4 x E2→Kp [fr,T] h4 h5→eE J.P h5 fr F S (.ref x) (.ref E2)→codeAny J.M A (bO J.P fr) R (J.S h5 aY)):
 codeAny J.M A (bO J.P fr) R (J.S h tk):=by
 have B:=aG (prog:=pw) (w:=J.W) (mods:=[fr]) TT (by k_in) (ro:=[(a,_)]) (rC ha (kNc na kNn) rN)
 obtain⟨t1,t2,t3,t4,z,t5,y0,fe,hfr⟩:=f.z
 let vv:rl.A:=⟨z,x,y,fr,a,d,E,F,S,t1,t2,t3,t4,fe,t5,⇑h,tk,y0⟩
 refine rg.b0 vv (RA.less rfl) B (gV hfr) (fun h1 aB H1=>.code ?_)
 refine G _ _ h1 aB (aa.up H1.k RA rfl) H1.kp H1.size (fun h2 ao kk hP=>?_)
 obtain⟨B2,D2⟩:=xQ B H1.rep kk (kAc ⟨⟨lF,kNc nF kNn⟩,sP gF,c_ VS iU⟩ kAn)
 have sub:=Jy (own_one H1 rfl)
 have l1:⇑h≤⇑h2:=aq H1.kp.size kk.size
 have l2:fr<⇑h2:=aJ (aj hfr) l1
 refine rg.b1 (a:=⇑h2) (RA.less rfl) B2 H1.k D2 (fun h3 az H3=>.code ?_)
 have K3:Kp [fr] h2 h3:=H3.kp.more sub
 refine G2 _ _ h2 h3 az (aa.up H3.k RA rfl) hP K3 H3.size (((TT.kp H1.kp (by k_in)).kp kk (by k_in)).kp K3 (by k_in)) (fun h4 av T x E2 k4 lT eT hQ=>?_)
 have Jz:fr<T:=aJ (aJ l2 K3.size) lT
 have JA:=VP (fun p hp=>sub _ (VR H3 rfl p hp))
 refine rg.b2 (f:=⇑h4) (RA.less rfl) (B2.add (sP (Nat.le_of_lt (Nat.lt_of_le_of_lt qn Jz))) (c_ (gP (aJ (aJ (aj ha) l1) (aq K3.size lT))) iU)) H3.k ((H3.rep.grow k4).add eT (fun p hp=>by rw[JA p hp];exact gP Jz)) (fun h5 aY H5=>?_)
 rw[rg.k2]
 exact K h1 h2 h3 h4 h5 aY T x E2 H1.kp kk hP K3 k4 lT hQ (H5.seg.more (VQ JA)) (.rD (H5.get 0 rfl))
end
end
noncomputable abbrev View:=Addr→Obj→Prop
noncomputable abbrev refs(l:List Addr):List Value:=l.map .ref
inductive aM (P:Params) (V:View):Nd→Addr→Prop
 |int {i a d t ti ed}:V a (ins 66 d)→V d (dct [ent P aX t (.int i ti)] ed)→aM P V (.int i) a
 |aS {a d t ed}:V a (ins 66 d)→V d (dct [ent P aX t (.ref 275)] ed)→aM P V .aS a
 |loc {n a d t tn ed}:V a (ins 85 d)→V d (dct [ent P cD t (.int n tn)] ed)→aM P V (.loc n) a
 |glob {g a d t tg ed}:V a (ins 104 d)→V d (dct [ent P qe t (.int g tg)] ed)→aM P V (.glob g) a
 |lam {ps b a d t2 t3 t4 t5 lb tl pl rs tr bd ed ep} {xs:List (Int×Nat)}:V a (ins 184 d)→V d (dct [ent P jW t2 (.int lb tl),ent P p9 t3 (.ref pl),ent P iz t4 (.int rs tr),ent P iO t5 (.ref bd)] ed)→
  V pl (lst (xs.map rL) ep)→xs.map (·.1)=ps→aM P V b bd→aM P V (.lam lb ps b) a
 |aP {n v a d t1 tn t2 x ed}:V a (ins 137 d)→V d (dct [ent P cD t1 (.int n tn),ent P aX t2 (.ref x)] ed)→aM P V v x→aM P V (.aP n v) a
 |call {o as a d t1 x t2 L ed el} {ls:List Addr}:V a (ins 217 d)→V d (dct [ent P nR t1 (.ref x),ent P nU t2 (.ref L)] ed)→aM P V o x→V L (lst (refs ls) el)→
  as.length=ls.length→as.length≤200→(∀(j:Nat)(n:Nd)(l:Addr),as[j]? =some n→ls[j]? =some l→aM P V n l)→aM P V (.call o as) a
 |seq {is a d t1 L ed el} {ls:List Addr}:V a (ins 250 d)→V d (dct [ent P p_ t1 (.ref L)] ed)→V L (lst (refs ls) el)→
  is.length=ls.length→is.length≤200→(∀(j:Nat)(n:Nd)(l:Addr),is[j]? =some n→ls[j]? =some l→aM P V n l)→aM P V (.seq is) a
noncomputable def HG(P:Params)(V:View):Nd→Addr→Prop
 |.int i,a=>∀G:Prop,(∀d t ti ed,V a (ins 66 d)→V d (dct [ent P aX t (.int i ti)] ed)→G)→G
 |.aS,a=>∀G:Prop,(∀d t ed,V a (ins 66 d)→V d (dct [ent P aX t (.ref 275)] ed)→G)→G
 |.loc n,a=>∀G:Prop,(∀d t tn ed,V a (ins 85 d)→V d (dct [ent P cD t (.int n tn)] ed)→G)→G
 |.glob g,a=>∀G:Prop,(∀d t tg ed,V a (ins 104 d)→V d (dct [ent P qe t (.int g tg)] ed)→G)→G
 |.lam lb ps b,a=>∀G:Prop,(∀d t2 t3 t4 t5 tl pl rs tr bd ed ep (xs:List (Int×Nat)),V a (ins 184 d)→V d (dct [ent P jW t2 (.int lb tl),ent P p9 t3 (.ref pl),ent P iz t4 (.int rs tr),ent P iO t5 (.ref bd)] ed)→V pl (lst (xs.map rL) ep)→xs.map (·.1)=ps→aM P V b bd→G)→G
 |.aP n v,a=>∀G:Prop,(∀d t1 tn t2 x ed,V a (ins 137 d)→V d (dct [ent P cD t1 (.int n tn),ent P aX t2 (.ref x)] ed)→aM P V v x→G)→G
 |.call o as,a=>∀G:Prop,(∀d t1 x t2 L ed el (ls:List Addr),V a (ins 217 d)→V d (dct [ent P nR t1 (.ref x),ent P nU t2 (.ref L)] ed)→aM P V o x→V L (lst (refs ls) el)→as.length=ls.length→as.length≤200→(∀(j:Nat)(n:Nd)(l:Addr),as[j]? =some n→ls[j]? =some l→aM P V n l)→G)→G
 |.seq is,a=>∀G:Prop,(∀d t1 L ed el (ls:List Addr),V a (ins 250 d)→V d (dct [ent P p_ t1 (.ref L)] ed)→V L (lst (refs ls) el)→is.length=ls.length→is.length≤200→(∀(j:Nat)(n:Nd)(l:Addr),is[j]? =some n→ls[j]? =some l→aM P V n l)→G)→G
theorem aM.out{P:Params}{V:View}{n:Nd}{a:Addr}(x:aM P V n a):HG P V n a:=
 aM.casesOn (motive:=fun n a _=>HG P V n a) x
  (fun h1 h2 _ k=>k _ _ _ _ h1 h2)
  (fun h1 h2 _ k=>k _ _ _ h1 h2)
  (fun h1 h2 _ k=>k _ _ _ _ h1 h2)
  (fun h1 h2 _ k=>k _ _ _ _ h1 h2)
  (fun h1 h2 h3 h4 h5 _ k=>k _ _ _ _ _ _ _ _ _ _ _ _ _ h1 h2 h3 h4 h5)
  (fun h1 h2 h3 _ k=>k _ _ _ _ _ _ h1 h2 h3)
  (fun h1 h2 h3 h4 h5 h6 h7 _ k=>k _ _ _ _ _ _ _ _ h1 h2 h3 h4 h5 h6 h7)
  (fun h1 h2 h3 h4 h5 h6 _ k=>k _ _ _ _ _ _ h1 h2 h3 h4 h5 h6)
noncomputable def aQ(P:Params)(V:View)(is:List Nd)(ls:List Addr):Prop:=is.length=ls.length∧∀(j:Nat)(n:Nd)(l:Addr),is[j]? =some n→ls[j]? =some l→aM P V n l
theorem aM.mono{P:Params}{V V':View}(m:∀a o,V a o→V' a o){n:Nd}{a:Addr}(x:aM P V n a):aM P V' n a:=by
 induction x with
 |int h1 h2=>exact .int (m _ _ h1) (m _ _ h2)
 |aS h1 h2=>exact .aS (m _ _ h1) (m _ _ h2)
 |loc h1 h2=>exact .loc (m _ _ h1) (m _ _ h2)
 |glob h1 h2=>exact .glob (m _ _ h1) (m _ _ h2)
 |lam h1 h2 h3 h4 _ ih=>exact .lam (m _ _ h1) (m _ _ h2) (m _ _ h3) h4 ih
 |aP h1 h2 _ ih=>exact .aP (m _ _ h1) (m _ _ h2) ih
 |call h1 h2 _ h4 h5 h6 _ ih1 ih2=>exact .call (m _ _ h1) (m _ _ h2) ih1 (m _ _ h4) h5 h6 ih2
 |seq h1 h2 h4 h5 h6 _ ih=>exact .seq (m _ _ h1) (m _ _ h2) (m _ _ h4) h5 h6 ih
theorem aQ.mono{P:Params}{V V':View}(m:∀a o,V a o→V' a o){is:List Nd}{ls:List Addr}(x:aQ P V is ls):aQ P V' is ls:=⟨x.1,fun j n l h1 h2=>(x.2 j n l h1 h2).mono m⟩
noncomputable def bu(w:World)(o:Obj)(kvs:List (Int×Value)):Prop:=∃es ep,o.ExactDict∧o.data=.dict es ep∧KeysOf (intKind pw w) es∧Pairs (intKind pw w) es.toList kvs∧(kvs.map (·.1)).Nodup
theorem bu.of{w:World}{h:Heap}{d:Addr}{kvs:List (Int×Value)}(x:h.DictOf (intKind pw w) d kvs):∃o,h.get? d=some o∧bu w o kvs:=by
 obtain⟨o,es,ep,ho,r⟩:=x
 exact⟨o,ho,es,ep,r⟩
theorem bu.fS{G:Prop}{w:World}{h:Heap}{d:Addr}{kvs:List (Int×Value)}(x:h.DictOf (intKind pw w) d kvs)(kk:∀o,h.get? d=some o→bu w o kvs→G):G:=by
 obtain⟨v0,q0,q1⟩:=bu.of x
 exact kk v0 q0 q1
theorem bu.at{w:World}{h:Heap}{d:Addr}{kvs:List (Int×Value)}{o:Obj}(e:h.get? d=some o)(x:bu w o kvs):h.DictOf (intKind pw w) d kvs:=by
 obtain⟨es,ep,r⟩:=x
 exact⟨o,es,ep,e,r⟩
noncomputable def g7(w:World)(V:View)(κ:List Addr)(ρ:bH)(E:Addr):Prop:=534≤E∧ρ.length≤100∧(∀kv∈ρ,kv.2<κ.length)∧∃o,V E o∧bu w o (ρ.map fun kv=>(kv.1,.ref (κ.getD kv.2 0)))
inductive RV (P:Params) (w:World) (V:View) (κ:List Addr):AV→Value→Prop
 |int {i t}:RV P w V κ (.int i) (.int i t)
 |aS:RV P w V κ .aS (.ref 275)
 |glob {g p t tg}:V p (tup [.str kJ t,.int g tg])→RV P w V κ (.glob g) (.ref p)
 |di {lb ps b ρ p t a E}:V p (tup [.str fk t,.ref a,.ref E])→aM P V (.lam lb ps b) a→g7 w V κ ρ E→RV P w V κ (.di ps b ρ) (.ref p)
noncomputable def HH(P:Params)(w:World)(V:View)(κ:List Addr):AV→Value→Prop
 |.int i,y=>∀G:Value→Prop,(∀t,G (.int i t))→G y
 |.aS,y=>∀G:Value→Prop,G (.ref 275)→G y
 |.glob g,y=>∀G:Value→Prop,(∀p t tg,V p (tup [.str kJ t,.int g tg])→G (.ref p))→G y
 |.di ps b ρ,y=>∀G:Value→Prop,(∀lb p t a E,V p (tup [.str fk t,.ref a,.ref E])→aM P V (.lam lb ps b) a→g7 w V κ ρ E→G (.ref p))→G y
theorem RV.out{P:Params}{w:World}{V:View}{κ:List Addr}{v:AV}{y:Value}(x:RV P w V κ v y):HH P w V κ v y:=
 RV.casesOn (motive:=fun v y _=>HH P w V κ v y) x
  (fun _ k=>k _)
  (fun _ k=>k)
  (fun h _ k=>k _ _ _ h)
  (fun h1 h2 h3 _ k=>k _ _ _ _ _ h1 h2 h3)
theorem RV.AP{P:Params}{w:World}{V:View}{κ:List Addr}{i:Int}{y:Value}(x:RV P w V κ (.int i) y):∃t,y=.int i t:=x.out (fun y=>∃t,y=.int i t) fun t=>⟨t,rfl⟩
theorem RV.EI{P:Params}{w:World}{V:View}{κ:List Addr}{g:Int}{y:Addr}(x:RV P w V κ (.glob g) (.ref y)):∃t tg,V y (tup [.str kJ t,.int g tg]):=
 x.out (fun z=>match z with|.ref y=>∃t tg,V y (tup [.str kJ t,.int g tg])|_=>True) fun _ t tg h=>⟨t,tg,h⟩
theorem RV.MK{P:Params}{w:World}{V:View}{κ:List Addr}{ps:List Int}{b:Nd}{ρ:bH}{y:Addr}(x:RV P w V κ (.di ps b ρ) (.ref y)):∃lb t a E,V y (tup [.str fk t,.ref a,.ref E])∧aM P V (.lam lb ps b) a∧g7 w V κ ρ E:=
 x.out (fun z=>match z with|.ref y=>∃lb t a E,V y (tup [.str fk t,.ref a,.ref E])∧aM P V (.lam lb ps b) a∧g7 w V κ ρ E|_=>True) fun lb _ t a E h1 h2 h3=>⟨lb,t,a,E,h1,h2,h3⟩
theorem g7.mono{w:World}{V V':View}{κ κ':List Addr}(m:∀a o,V a o→V' a o)(k:κ<+:κ'){ρ:bH}{E:Addr}(x:g7 w V κ ρ E):g7 w V' κ' ρ E:=by
 obtain⟨x0,x1,x2,o,x3,x4⟩:=x
 obtain⟨cs,rfl⟩:=k
 refine⟨x0,x1,fun kv h=>by have:=x2 kv h;rw[List.length_append];exact #[0x11123201112111,kv.snd,κ.length,cs.length] this,o,m _ _ x3,?_⟩
 have e:(ρ.map fun kv=>((kv.1,.ref ((κ++cs).getD kv.2 0)):Int×Value))=ρ.map fun kv=>(kv.1,.ref (κ.getD kv.2 0)):=by
  refine List.map_congr_left fun kv h=>?_
  have:=x2 kv h
  simp only[List.getD_eq_getElem?_getD,dm this]
 rw[e];exact x4
theorem RV.mono{P:Params}{w:World}{V V':View}{κ κ':List Addr}(m:∀a o,V a o→V' a o)(k:κ<+:κ'){v:AV}{x:Value}(r:RV P w V κ v x):RV P w V' κ' v x:=by
 cases r with
 |int=>exact .int
 |aS=>exact .aS
 |glob h=>exact .glob (m _ _ h)
 |di h1 h2 h3=>exact .di (m _ _ h1) (h2.mono m) (h3.mono m k)
inductive jr (P:Params) (w:World) (V:View) (κ:List Addr):bG→Addr→Prop
 |set {c T t x E}:c<κ.length→V T (tup [.str lU t,.ref (κ.getD c 0),.ref x,.ref E])→jr P w V κ (.set c) T
 |seq {is at_ ρ T t I z E ei ls}:V T (tup [.str nV t,.ref I,.int (at_:Nat) z,.ref E])→V I (lst (refs ls) ei)→aQ P V is ls→is.length≤200→g7 w V κ ρ E→jr P w V κ (.seq is at_ ρ) T
 |call {is gs ρ T t I G E ei eg ls} {gv:List Value}:V T (tup [.str s_call t,.ref I,.ref G,.ref E])→V I (lst (refs ls) ei)→aQ P V is ls→is.length≤201→V G (lst gv eg)→gs.length=gv.length→
  (∀(j:Nat)(v:AV)(x:Value),gs[j]? =some v→gv[j]? =some x→RV P w V κ v x)→g7 w V κ ρ E→jr P w V κ (.call is gs ρ) T
noncomputable def HJ(P:Params)(w:World)(V:View)(κ:List Addr):bG→Addr→Prop
 |.set c,T=>∀G:Prop,(∀t x E,c<κ.length→V T (tup [.str lU t,.ref (κ.getD c 0),.ref x,.ref E])→G)→G
 |.seq is at_ ρ,T=>∀G:Prop,(∀t I z E ei (ls:List Addr),V T (tup [.str nV t,.ref I,.int (at_:Nat) z,.ref E])→V I (lst (refs ls) ei)→aQ P V is ls→is.length≤200→g7 w V κ ρ E→G)→G
 |.call is gs ρ,T=>∀G:Prop,(∀t I G' E ei eg (ls:List Addr)(gv:List Value),V T (tup [.str s_call t,.ref I,.ref G',.ref E])→V I (lst (refs ls) ei)→aQ P V is ls→is.length≤201→V G' (lst gv eg)→gs.length=gv.length→
  (∀(j:Nat)(v:AV)(x:Value),gs[j]? =some v→gv[j]? =some x→RV P w V κ v x)→g7 w V κ ρ E→G)→G
theorem jr.out{P:Params}{w:World}{V:View}{κ:List Addr}{f:bG}{T:Addr}(x:jr P w V κ f T):HJ P w V κ f T:=
 jr.casesOn (motive:=fun f T _=>HJ P w V κ f T) x
  (fun h1 h2 _ k=>k _ _ _ h1 h2)
  (fun h1 h2 h3 h4 h5 _ k=>k _ _ _ _ _ _ h1 h2 h3 h4 h5)
  (fun h1 h2 h3 h4 h5 h6 h7 h8 _ k=>k _ _ _ _ _ _ _ _ h1 h2 h3 h4 h5 h6 h7 h8)
theorem jr.mono{P:Params}{w:World}{V V':View}{κ κ':List Addr}(m:∀a o,V a o→V' a o)(k:κ<+:κ'){f:bG}{a:Addr}(x:jr P w V κ f a):jr P w V' κ' f a:=by
 cases x with
 |set h1 h2=>
  obtain⟨cs,rfl⟩:=k
  have e:∀c,c<κ.length→(κ++cs).getD c 0=κ.getD c 0:=fun c hc=>by
   rw[List.getD_eq_getElem?_getD,dm hc,←List.getD_eq_getElem?_getD]
  have h3:=m _ _ h2
  rw[←e _ h1]at h3
  exact .set (by rw[List.length_append];lia) h3
 |seq h1 h2 h3 h4 h5=>exact .seq (m _ _ h1) (m _ _ h2) (h3.mono m) h4 (h5.mono m k)
 |call h1 h2 h3 h4 h5 h6 h7 h8=>exact .call (m _ _ h1) (m _ _ h2) (h3.mono m) h4 (m _ _ h5) h6 (fun j v x a b=>(h7 j v x a b).mono m k) (h8.mono m k)
noncomputable def ff(P:Params)(w:World)(V:View)(κ:List Addr)(fs:List bG)(vs:List Addr):Prop:=fs.length=vs.length∧∀(j:Nat)(f:bG)(a:Addr),fs.reverse[j]? =some f→vs[j]? =some a→jr P w V κ f a
theorem ff.mono{P:Params}{w:World}{V V':View}{κ κ':List Addr}(m:∀a o,V a o→V' a o)(k:κ<+:κ'){fs:List bG}{vs:List Addr}(x:ff P w V κ fs vs):ff P w V' κ' fs vs:=⟨x.1,fun j f a h1 h2=>(x.2 j f a h1 h2).mono m k⟩
theorem ff.push{P:Params}{w:World}{V:View}{κ:List Addr}{fs:List bG}{vs:List Addr}(x:ff P w V κ fs vs){f:bG}{a:Addr}(h:jr P w V κ f a):ff P w V κ (f::fs) (vs++[a]):=by
 refine⟨by simp[x.1],fun j g b h1 h2=>?_⟩
 rw[List.reverse_cons]at h1
 have hl:fs.reverse.length=vs.length:=by simp[x.1]
 by_cases hj:j<vs.length
 ·rw[dm (oH hl hj)]at h1
  rw[dm hj]at h2
  exact x.2 j g b h1 h2
 ·rw[eY (ox hl (oV hj))]at h1
  rw[eY (by left)]at h2
  rw[hl]at h1
  cases hk:j-vs.length with
  |zero=>
   rw[hk]at h1 h2
   simp at h1 h2
   rw[←h1,←h2];exact h
  |succ k=>
   rw[hk]at h1
   simp at h1
theorem ff.pop{P:Params}{w:World}{V:View}{κ:List Addr}{f:bG}{fs:List bG}{vs:List Addr}(x:ff P w V κ (f::fs) vs):∃us a,vs=us++[a]∧ff P w V κ fs us∧jr P w V κ f a:=by
 have hne:vs≠[]:=fun e=>by have:=x.1;rw[e]at this;simp at this
 refine⟨vs.dropLast,vs.getLast hne,(List.dropLast_concat_getLast hne).symm,⟨by have:=x.1;simp at this⊢;exact #[0x1101105110015311221c30221c1022,fs.length,vs.length,vs.length-1] this (Nat.sub_add_cancel (#[0x11013211c021c1021,fs.length,vs.length] this)),fun j g b h1 h2=>?_⟩,?_⟩
 ·refine x.2 j g b ?_ ?_
  ·rw[List.reverse_cons]
   have:=(fN h1).1
   rw[dm this];exact h1
  ·rw[List.getElem?_dropLast]at h2
   split at h2
   ·exact h2
   ·cases h2
 ·refine x.2 (vs.length-1) f _ ?_ ?_
  ·have:=x.1
   simp only[List.length_cons]at this
   rw[List.reverse_cons,eY (by simp;exact by exact #[0x1110015311021c30221c1022,fs.length,vs.length,vs.length-1] this (Nat.sub_add_cancel (#[0x11013211c021c1021,fs.length,vs.length] this)))]
   simp
   rw[←this];simp
  ·rw[List.getLast_eq_getElem]
   exact a_ _
section
variable [Zero Heap]
structure aV where
 F:Addr
 K:Addr
 H:Addr
 S:Addr
 L:List Ent
 Y:List Ent
noncomputable abbrev aV.N(I:aV)(κ:List Addr):List Addr:=I.F::I.K::I.H::κ
noncomputable abbrev aV.M(I:aV)(κ:List Addr):List Addr:=I.F::I.K::I.H::(I.Y.map (·.1)++κ)
noncomputable abbrev view(M:List Addr)(h:Heap):View:=fun a o=>a∉M∧h.get? a=some o
inductive jE:Sh→Value→Prop
 |int {i t}:jE (.int i) (.int i t)
 |proc {t}:jE .proc (.str fk t)
structure Inv (P:Params) (w:World) (I:aV) (X:List Addr) (κ:List Addr) (S:MS) (h:Heap):Prop where
 top:aE P h
 nd:(I.M κ).Nodup
 lo:∀x∈I.M κ,534≤x
 fs:∃vs e,h.get? I.F=some (lst (refs vs) e)∧ff P w (view (X++I.M κ) h) κ S.fs vs
 len:κ.length=S.σ.length
 cells:∀(c:Nat)(v:AV)(a:Addr),S.σ[c]? =some v→κ[c]? =some a→∃x e,h.get? a=some (lst [x] e)∧RV P w (view (X++I.M κ) h) κ v x
 kept:∃kvs,h.DictOf (intKind pw w) I.K kvs∧kvs.length=S.kept.length∧∀(j:Nat)(kv:Int×Value)(af:Int×List bG),kvs[j]? =some kv→S.kept[j]? =some af→kv.1=af.1∧∃m vs e,kv.2=.ref m∧view (X++I.M κ) h m (lst (refs vs) e)∧ff P w (view (X++I.M κ) h) κ af.2 vs
 shown:∃qs e,h.get? I.H=some (lst (refs qs) e)∧qs.length=S.shown.length∧∀(j:Nat)(q:Addr)(l:List Sh),qs[j]? =some q→S.shown[j]? =some l→∃ys e,view (X++I.M κ) h q (lst ys e)∧ys.length=l.length∧∀(i:Nat)(s:Sh)(y:Value),l[i]? =some s→ys[i]? =some y→jE s y
 st:∃t3 t4 es,view (X++I.M κ) h I.S (iT P t3 t4 I.K I.H es)
 own:∀p∈I.L,view (X++I.M κ) h p.1 p.2
 ys:∀p∈I.Y,h.get? p.1=some p.2
 xy:∀p∈I.Y,p.1∉X
theorem Inv.gW{P:Params}{w:World}{I:aV}{X κ:List Addr}{S:MS}{h:Heap}{G:Prop}(x:Inv P w I X κ S h)(k:∀vs e,h.get? I.F=some (lst (refs vs) e)→ff P w (view (X++I.M κ) h) κ S.fs vs→G):G:=by
 obtain⟨a,b,c,d⟩:=x.fs
 exact k a b c d
theorem Inv.qQ{P:Params}{w:World}{I:aV}{X κ:List Addr}{S:MS}{h:Heap}{G:Prop}(x:Inv P w I X κ S h)(k:∀kvs,h.DictOf (intKind pw w) I.K kvs→kvs.length=S.kept.length→(∀(j:Nat)(kv:Int×Value)(af:Int×List bG),kvs[j]? =some kv→S.kept[j]? =some af→kv.1=af.1∧∃m vs e,kv.2=.ref m∧view (X++I.M κ) h m (lst (refs vs) e)∧ff P w (view (X++I.M κ) h) κ af.2 vs)→G):G:=by
 ac_rfl
 obtain⟨a,b,c,d⟩:=x.kept
 exact k a b c d
theorem Inv.sQ{P:Params}{w:World}{I:aV}{X κ:List Addr}{S:MS}{h:Heap}{G:Prop}(x:Inv P w I X κ S h)(k:∀qs e,h.get? I.H=some (lst (refs qs) e)→qs.length=S.shown.length→(∀(j:Nat)(q:Addr)(l:List Sh),qs[j]? =some q→S.shown[j]? =some l→∃ys e,view (X++I.M κ) h q (lst ys e)∧ys.length=l.length∧∀(i:Nat)(s:Sh)(y:Value),l[i]? =some s→ys[i]? =some y→jE s y)→G):G:=by
 ac_rfl
 obtain⟨a,b,c,d,e⟩:=x.shown
 exact k a b c d e
theorem Inv.e_{P:Params}{w:World}{I:aV}{X κ:List Addr}{S:MS}{h:Heap}{G:Prop}(x:Inv P w I X κ S h)(k:∀t3 t4 es,view (X++I.M κ) h I.S (iT P t3 t4 I.K I.H es)→G):G:=by
 obtain⟨a,b,c,d⟩:=x.st
 exact k a b c d
theorem ny{M M':List Addr}{h h':Heap}(k:∀a o,a∉M→h.get? a=some o→a∉M'∧h'.get? a=some o):∀a o,view M h a o→view M' h' a o:=fun a o x=>k a o x.1 x.2
theorem Inv.move{P:Params}{w:World}{I:aV}{X X' κ:List Addr}{S:MS}{h h':Heap}(x:Inv P w I X κ S h)(top:aE P h')(km:∀a∈I.M κ,∀o,h.get? a=some o→h'.get? a=some o)(kv:∀a o,a∉X++I.M κ→h.get? a=some o→a∉X'++I.M κ∧h'.get? a=some o)(xy:∀p∈I.Y,p.1∉X':=by exact x.xy):Inv P w I X' κ S h':=by
 have m:=ny kv
 have pre:κ<+:κ:=List.prefix_refl κ
 ac_rfl
 obtain⟨vs,e,f1,f2⟩:=x.fs
 obtain⟨kvs,k1,k2,k3⟩:=x.kept
 obtain⟨qs,e2,q1,q2,q3⟩:=x.shown
 obtain⟨t3,t4,es,s1⟩:=x.st
 refine⟨top,x.nd,x.lo,⟨vs,e,km _ (by k_in) _ f1,f2.mono m pre⟩,x.len,?_,⟨kvs,?_,k2,?_⟩,⟨qs,e2,km _ (by k_in) _ q1,q2,?_⟩,⟨t3,t4,es,m _ _ s1⟩,fun p hp=>m _ _ (x.own p hp),fun p hp=>km _ (by simp only[aV.M,eZ,List.mem_append,List.mem_map];exact .inr (.inr (.inr (.inl ⟨p,hp,rfl⟩)))) _ (x.ys p hp),xy⟩
 ·intro c v a h1 h2
  ac_rfl
  obtain⟨y,e,y1,y2⟩:=x.cells c v a h1 h2
  exact⟨y,e,km _ (by simp[List.mem_of_getElem? h2]) _ y1,y2.mono m pre⟩
 ·refine bu.fS k1 fun o ho hd=>?_
  exact bu.at (km _ (by k_in) _ ho) hd
 ·intro j kv af h1 h2
  ac_rfl
  obtain⟨a,m',vs',e',b,c,d⟩:=k3 j kv af h1 h2
  exact⟨a,m',vs',e',b,m _ _ c,d.mono m pre⟩
 ·intro j q l h1 h2
  ac_rfl
  obtain⟨ys,e',a,b,c⟩:=q3 j q l h1 h2
  exact⟨ys,e',m _ _ a,b,c⟩
end
theorem aO{D M:List Addr}{h h':Heap}(K:Kp M h h')(hM:∀x∈M,x∈D):∀a o,view D h a o→view D h' a o:=fun a o x=>⟨x.1,K.keep _ _ (fun q=>x.1 (hM _ q)) x.2⟩
theorem iI{D:List Addr}{h':Heap}{N c:Nat}{o:Obj}(hD:∀x∈D,x<N)(hc:N≤c)(e:h'.get? c=some o):view D h' c o:=⟨fun q=>Nat.lt_irrefl _ (aJ (hD _ q) hc),e⟩
theorem jf{D D':List Addr}{h:Heap}(hs:∀x∈D',x∈D):∀a o,view D h a o→view D' h a o:=fun a o x=>⟨fun q=>x.1 (hs _ q),x.2⟩
theorem gI{D D':List Addr}{h:Heap}(hs:∀x∈D',x∈D∨⇑h≤x):∀a o,view D h a o→view D' h a o:=fun a o x=>⟨fun q=>(hs _ q).elim x.1 fun z=>Nat.lt_irrefl _ (aJ (aj x.2) z),x.2⟩
theorem aQ.nil{P:Params}{V:View}:aQ P V [] []:=⟨rfl,fun j n l h=>by simp at h⟩
theorem aQ.append{P:Params}{V:View}{is js:List Nd}{ls ms:List Addr}(x:aQ P V is ls)(y:aQ P V js ms):aQ P V (is++js) (ls++ms):=by
 refine⟨by rw[List.length_append,List.length_append,x.1,y.1],fun j n l h1 h2=>?_⟩
 by_cases hj:j<is.length
 ·rw[dm hj]at h1
  rw[dm (x.1▸hj)]at h2
  exact x.2 j n l h1 h2
 ·rw[eY (by left)]at h1
  rw[eY (by have:=x.1;exact by exact #[0x11101411303221202,j,is.length,ls.length] (Nat.le_of_not_lt hj) this),←x.1]at h2
  exact y.2 _ n l h1 h2
theorem aQ.one{P:Params}{V:View}{n:Nd}{l:Addr}(x:aM P V n l):aQ P V [n] [l]:=⟨rfl,fun j m k h1 h2=>by
 cases j with
 |zero=>simp at h1 h2;rw[←h1,←h2];exact x
 |succ j=>simp at h1⟩
theorem aQ.snoc{P:Params}{V:View}{is:List Nd}{ls:List Addr}{n:Nd}{l:Addr}(x:aQ P V is ls)(y:aM P V n l):aQ P V (is++[n]) (ls++[l]):=x.append (.one y)
theorem aQ.cons{P:Params}{V:View}{is:List Nd}{ls:List Addr}{n:Nd}{l:Addr}(y:aM P V n l)(x:aQ P V is ls):aQ P V (n::is) (l::ls):=(aQ.one y).append x
theorem aQ.take{P:Params}{V:View}{is:List Nd}{ls:List Addr}(x:aQ P V is ls)(k:Nat):aQ P V (is.take k) (ls.take k):=
 ⟨by rw[List.length_take,List.length_take,x.1],fun j n l h1 h2=>by
  rw[List.getElem?_take]at h1 h2
  split at h1
  ·rename_i hj;rw[if_pos hj]at h2;exact x.2 j n l h1 h2
  ·cases h1⟩
theorem aQ.drop{P:Params}{V:View}{is:List Nd}{ls:List Addr}(x:aQ P V is ls)(k:Nat):aQ P V (is.drop k) (ls.drop k):=
 ⟨by rw[List.length_drop,List.length_drop,x.1],fun j n l h1 h2=>by
  rw[List.getElem?_drop]at h1 h2
  exact x.2 _ n l h1 h2⟩
theorem aQ.seq{P:Params}{V:View}{is:List Nd}{ls:List Addr}(x:aQ P V is ls){a d t1 L ed el:Nat}(h1:V a (ins 250 d))(h2:V d (dct [ent P p_ t1 (.ref L)] ed))(h3:V L (lst (refs ls) el))(hz:is.length≤200):aM P V (.seq is) a:=.seq h1 h2 h3 x.1 hz x.2
theorem aQ.call{P:Params}{V:View}{as:List Nd}{ls:List Addr}{o:Nd}(x:aQ P V as ls){a d t1 t2 b L ed el:Nat}(h1:V a (ins 217 d))(h2:V d (dct [ent P nR t1 (.ref b),ent P nU t2 (.ref L)] ed))(ho:aM P V o b)(h3:V L (lst (refs ls) el))(hz:as.length≤200):aM P V (.call o as) a:=.call h1 h2 ho h3 x.1 hz x.2
theorem sF(as:List Addr)(a:Addr):refs (as++[a])=refs as++[.ref a]:=by simp[refs]
theorem pF{α:Type}{l:List α}{k:Nat}{x:α}(h:l[k]? =some x):l.take (k+1)=l.take k++[x]:=by
 rw[List.take_succ,h];rfl
noncomputable def fW(P:Params)(V:View)(ps:List (Nd×Sh))(gs:List Value):Prop:=gs.length=ps.length∧∀(j:Nat)(q:Nd×Sh)(v:Value),ps[j]? =some q→gs[j]? =some v→∃p a y,v=.ref p∧V p (tup [.ref a,y])∧aM P V q.1 a∧jE q.2 y
theorem fW.mono{P:Params}{V V':View}(m:∀a o,V a o→V' a o){ps:List (Nd×Sh)}{gs:List Value}(x:fW P V ps gs):fW P V' ps gs:=⟨x.1,fun j q v h1 h2=>by
 obtain⟨p,a,y,e,a1,a2,a3⟩:=x.2 j q v h1 h2
 exact⟨p,a,y,e,m _ _ a1,a2.mono m,a3⟩⟩
noncomputable def bR(ss:List Sh)(ys:List Value):Prop:=ys.length=ss.length∧∀(j:Nat)(s:Sh)(y:Value),ss[j]? =some s→ys[j]? =some y→jE s y
theorem bR.nil:bR [] []:=⟨rfl,fun j s y h=>by simp at h⟩
theorem bR.snoc{ss:List Sh}{ys:List Value}{s:Sh}{y:Value}(x:bR ss ys)(h:jE s y):bR (ss++[s]) (ys++[y]):=by
 refine⟨by simp[x.1],fun j s' y' h1 h2=>?_⟩
 by_cases hj:j<ss.length
 ·rw[dm hj]at h1
  rw[dm (x.1▸hj)]at h2
  exact x.2 j s' y' h1 h2
 ·rw[eY (by left)]at h1
  rw[eY (by have:=x.1;exact by exact #[0x11011411302321202,j,ss.length,ys.length] (Nat.le_of_not_lt hj) this),x.1]at h2
  cases hk:j-ss.length with
  |zero=>rw[hk]at h1 h2;simp at h1 h2;rw[←h1,←h2];exact h
  |succ k=>rw[hk]at h1;simp at h1
theorem fW.snoc{P:Params}{V:View}{ps:List (Nd×Sh)}{gs:List Value}{q:Nd×Sh}{p a:Addr}{y:Value}(x:fW P V ps gs)(h1:V p (tup [.ref a,y]))(h2:aM P V q.1 a)(h3:jE q.2 y):fW P V (ps++[q]) (gs++[.ref p]):=by
 refine⟨by simp[x.1],fun j q' v' e1 e2=>?_⟩
 by_cases hj:j<ps.length
 ·rw[dm hj]at e1
  rw[dm (x.1▸hj)]at e2
  exact x.2 j q' v' e1 e2
 ·rw[eY (by left)]at e1
  rw[eY (by have:=x.1;exact by exact #[0x11011411302321202,j,ps.length,gs.length] (Nat.le_of_not_lt hj) this),x.1]at e2
  cases hk:j-ps.length with
  |zero=>rw[hk]at e1 e2;simp at e1 e2;exact⟨p,a,y,e2.symm,h1,e1▸h2,e1▸h3⟩
  |succ k=>rw[hk]at e1;simp at e1
noncomputable def cls:Nd→Nat:=Nd.rec (motive_1:=fun _=>Nat) (motive_2:=fun _=>Unit) (fun _=>66) 66 (fun _=>85) (fun _=>104) (fun _ _ _ _=>184) (fun _ _ _=>137) (fun _ _ _ _=>217) (fun _ _=>250) () (fun _ _ _ _=>())
theorem aM.obj{P:Params}{V:View}{n:Nd}{a:Addr}(x:aM P V n a):∃(C:Nat)(d:Addr),V a (ins C d)∧C=cls n:=
 aM.casesOn (motive:=fun n a _=>∃(C:Nat)(d:Addr),V a (ins C d)∧C=cls n) x (fun h _=>⟨_,_,h,rfl⟩) (fun h _=>⟨_,_,h,rfl⟩) (fun h _=>⟨_,_,h,rfl⟩) (fun h _=>⟨_,_,h,rfl⟩) (fun h _ _ _ _=>⟨_,_,h,rfl⟩) (fun h _ _=>⟨_,_,h,rfl⟩) (fun h _ _ _ _ _ _=>⟨_,_,h,rfl⟩) (fun h _ _ _ _ _=>⟨_,_,h,rfl⟩)
section
variable {A:Around}{h₀ h h' h₁:Heap}{mods:List Addr}{s:Sg}{D:List Addr}
theorem At.mlt(H:At A h₀ mods h₁ s h):∀x∈bZ s.r,x<⇑h:=fun x hx=>by
 obtain⟨p,hp,e⟩:=mM hx
 exact e▸aj (H.rep.at_ p hp)
theorem DQ(H:At A h₀ mods h₁ s h)(hm:∀x∈s.mu.map (·.1),x∈D):∀a o,view D h₁ a o→view (bZ s.r++D) h a o:=fun a o x=>by
 have h1:a∉s.mu.map (·.1):=fun q=>x.1 (hm _ q)
 refine⟨fun q=>?_,H.seg.keep _ _ h1 x.2⟩
 rcases mA q with q|q
 ·exact H.dI h1 (aj x.2) q
 ·exact x.1 q
theorem Ek{h h':Heap}{l:Addr}{o':Obj}(U:dz l o' h h')(hl:l∈D):∀a o,view D h a o→view D h' a o:=fun a o x=>⟨x.1,(U.sO _ (fun q=>x.1 (by rw[q];exact hl))).trans x.2⟩
theorem Li(mu:List Ent)(i:Nat)(o:Obj):(put mu i o).map (·.1)=mu.map (·.1):=xP ..
theorem uD{mu:List Ent}{i:Nat}{o:Obj}{x:Addr}(h:x∉mu.map (·.1)):x∉(put mu i o).map (·.1):=by rw[Li];exact h
theorem VF(H:At A h₀ mods h₁ s h)(e:s.mu=fc s.o.p):∀a o,view (bZ s.o.p++D) h₁ a o→view (bZ s.r++(bZ s.o.p++D)) h a o:=DQ H (fun x hx=>cC (by rw[e]at hx;exact hx))
theorem Ej{r0:Res}{i:Nat}{o':Obj}(H:At A h₀ mods h₁ s h)(a:Addr)(o:Obj)(x:view (bZ r0++D) h₁ a o)(e:s.mu=put (fc r0) i o':=by rfl):view (bZ s.r++(bZ r0++D)) h a o:=
 DQ H (fun x hx=>cC (by rw[e,Li]at hx;exact hx)) a o x
theorem xG{r0:Res}(H:At A h₀ mods h₁ s h)(a:Addr)(o:Obj)(x:view (bZ r0++D) h₁ a o)(e:s.mu=fc r0:=by rfl):view (bZ s.r++(bZ r0++D)) h a o:=DQ H (fun x hx=>cC (by rw[e]at hx;exact hx)) a o x
end
section
variable [Zero Heap]
section
variable {J:WX}{A:Around}{R:RR}{h:Heap}{tk:Nat}{it acc L fr:Nat}{D:List Addr}
theorem LU{G N ea le eg:Nat}{gs:List Value}{ns:List Int}(RA:aa A 30)(hz:gs.length≤100)(n0:it≠acc)(n1:it≠L)(n2:L≠acc)(n3:G≠it)(n4:G≠acc)(n5:G≠L)(g1:534≤it)(g2:534≤acc)(g3:534≤L)
 (hN:N≤⇑h) (hD:∀x∈D,x<N) (d1:it∈D) (d2:acc∈D) (d3:L∈D)
 (TT:aE J.P h) (hI:h.IsListIter it G 0) (hG:h.get? G=some (lst gs eg)) (hgs:IntsAre gs ns) (hT:Tl [it] h) (ha:h.get? acc=some (lst [] ea)) (hL:h.get? L=some (dct [] le))
 (H:∀h' tk' as ea',Kp [it,acc,L] h h'→h'.get? acc=some (lst (refs as) ea')→aQ J.P (view D h') (ns.map fun i=>Nd.loc i) as→bA J.P h' L cD gs.length→R (.ok .next) (J.S h' tk')):
 codeAny J.M A (aT (jz J.P) (bF J.P (jz J.P) [] L fr) it acc) (ay R) (J.S h tk):=by
 have fP:gs.length=ns.length:=IntsAre.length hgs
 have M1:∀x∈([it]:List Addr),x∈D:=by k_in
 have M2:∀x∈([L,acc]:List Addr),x∈D:=by k_in
 refine pD (cy:=J.P) (G:=G) (gs:=gs) (M:=[L]) (fun k ys h=>N≤⇑h∧bA J.P h L cD k∧∃as,ys=refs as∧aQ J.P (view D h) ((ns.take k).map fun i=>Nd.loc i) as)
  RA.handled ∅ dH ak au au (fun k ys h h' x K=>⟨aq x.1 K.size,x.2.1.kp K ak,by
   obtain⟨as,e,z⟩:=x.2.2
   exact⟨as,e,z.mono (aO K M1)⟩⟩) ?_ TT hI hG n3 hT ha
  ⟨hN,.inl ⟨rfl,le,hL⟩,[],rfl,.nil⟩ (fun h' tk' ys ea' K ha' x=>by
   obtain⟨as,e,z⟩:=x.2.2
   rw[e]at ha'
   rw[fP,List.take_length]at z
   exact H h' tk' as ea' K ha' z x.2.1)
 intro k h tk x ys ea hk hx TT hT ha hY next
 obtain⟨i,t,rfl,hi⟩:=pC hgs hx
 obtain⟨hN,hL,as,hys,hnd⟩:=hY
 have hys:ys.length≤200:=by have:=hnd.1;rw[List.length_map,List.length_take]at this;rw[hys];simp[refs];exact #[0x111101160c8d140230432121064d104,gs.length,k,min k ns.length,as.length] hz hk this (Nat.min_le_left _ _)
 have B:=aG (prog:=pw) (w:=J.W) (mods:=[L,acc]) TT bB (ro:=[]) trivial
 have go:∀h4 av aW aU c e a,Kp [L,acc] h h4→h4.get? c=some e→⇑h≤c→⇑h4=c+1→h4.get? acc=some (lst aW aU)→aW=ys++[.ref a]→bA J.P h4 L cD (k+1)→aM J.P (view D h4) (Nd.loc i) a→codeAny J.M A (aT (jz J.P) (bF J.P (jz J.P) [] L fr) it acc) (ay R) (J.S h4 av):=by
  intro h4 av aW aU c e a K he hc hs cg hy bP j9
  refine next h4 av _ aU (K.more (by k_in)) (hT.of hc he hs.symm) cg ⟨aq hN K.size,bP,as++[a],?_,?_⟩
  ·rw[hy,sF];congr 1
  ·rw[pF hi,List.map_append];exact(hnd.mono (aO K M2)).snoc j9
 refine hL.iH fun z0 t5 y0 le hLe=>?_
 let vv:Vv:=gm it acc L fr le ea t t5 ⇑h tk 0 0 i y0 ys []
 refine xg.b0 z0 vv rfl (RA.less rfl) B (cj hLe ha n2) (fun h2 _ H2=>.code (dZ (H2.get 0 rfl) (by show ys.length≤1000;left) fun h3 U=>?_))
 refine xg.b1 (RA.less rfl) B H2.k (H2.rep.upd (H2.bg 0 rfl rfl) U) (fun h4 _ H4=>?_)
 rw[xg.k1]
 have hv:∀{c:Nat}{o:Obj},⇑h≤c→h4.get? c=some o→view D h4 c o:=fun hc e=>iI hD (aq hN hc) e
 exact go h4 _ _ _ _ _ _ H4.kp (H4.get 4 rfl) (br) H4.size (H4.get 1 rfl) rfl (.inr ⟨_,_,_,H4.get 0 rfl⟩) (.loc (hv (br) (H4.get 3 rfl)) (hv (bl) (H4.get 2 rfl)))
theorem LV{G N ea le eg:Nat}{gs:List Value}{ns:List Int}(RA:aa A 30)(hz:gs.length≤100)(n0:it≠acc)(n1:it≠L)(n2:L≠acc)(n3:G≠it)(n4:G≠acc)(n5:G≠L)(g1:534≤it)(g2:534≤acc)(g3:534≤L)
 (hN:N≤⇑h) (hD:∀x∈D,x<N) (d1:it∈D) (d2:acc∈D) (d3:L∈D)
 (TT:aE J.P h) (hI:h.IsListIter it G 0) (hG:h.get? G=some (lst gs eg)) (hgs:IntsAre gs ns) (hT:Tl [it] h) (ha:h.get? acc=some (lst [] ea)) (hL:h.get? L=some (dct [] le))
 (H:∀h' tk' as ea',Kp [it,acc,L] h h'→h'.get? acc=some (lst (refs as) ea')→aQ J.P (view D h') (ns.map fun i=>Nd.aP i (.int (100+i))) as→bA J.P h' L cD gs.length→R (.ok .next) (J.S h' tk')):
 codeAny J.M A (aT (jA J.P) (bF J.P (jA J.P) [] L fr) it acc) (ay R) (J.S h tk):=by
 have fP:gs.length=ns.length:=IntsAre.length hgs
 have M1:∀x∈([it]:List Addr),x∈D:=by k_in
 have M2:∀x∈([L,acc]:List Addr),x∈D:=by k_in
 refine pD (cy:=J.P) (G:=G) (gs:=gs) (M:=[L]) (fun k ys h=>N≤⇑h∧bA J.P h L cD k∧∃as,ys=refs as∧aQ J.P (view D h) ((ns.take k).map fun i=>Nd.aP i (.int (100+i))) as)
  RA.handled ∅ dH ak au au (fun k ys h h' x K=>⟨aq x.1 K.size,x.2.1.kp K ak,by
   obtain⟨as,e,z⟩:=x.2.2
   exact⟨as,e,z.mono (aO K M1)⟩⟩) ?_ TT hI hG n3 hT ha
  ⟨hN,.inl ⟨rfl,le,hL⟩,[],rfl,.nil⟩ (fun h' tk' ys ea' K ha' x=>by
   obtain⟨as,e,z⟩:=x.2.2
   rw[e]at ha'
   rw[fP,List.take_length]at z
   exact H h' tk' as ea' K ha' z x.2.1)
 intro k h tk x ys ea hk hx TT hT ha hY next
 obtain⟨i,t,rfl,hi⟩:=pC hgs hx
 obtain⟨hN,hL,as,hys,hnd⟩:=hY
 have hys:ys.length≤200:=by have:=hnd.1;rw[List.length_map,List.length_take]at this;rw[hys];simp[refs];exact #[0x111101160c8d140230432121064d104,gs.length,k,min k ns.length,as.length] hz hk this (Nat.min_le_left _ _)
 have B:=aG (prog:=pw) (w:=J.W) (mods:=[L,acc]) TT bB (ro:=[]) trivial
 have go:∀h4 av aW aU c e a,Kp [L,acc] h h4→h4.get? c=some e→⇑h≤c→⇑h4=c+1→h4.get? acc=some (lst aW aU)→aW=ys++[.ref a]→bA J.P h4 L cD (k+1)→aM J.P (view D h4) (Nd.aP i (.int (100+i))) a→codeAny J.M A (aT (jA J.P) (bF J.P (jA J.P) [] L fr) it acc) (ay R) (J.S h4 av):=by
  intro h4 av aW aU c e a K he hc hs cg hy bP j9
  refine next h4 av _ aU (K.more (by k_in)) (hT.of hc he hs.symm) cg ⟨aq hN K.size,bP,as++[a],?_,?_⟩
  ·rw[hy,sF];congr 1
  ·rw[pF hi,List.map_append];exact(hnd.mono (aO K M2)).snoc j9
 refine hL.iH fun z0 t5 y0 le hLe=>?_
 let vv:Vv:=gm it acc L fr le ea t t5 ⇑h tk 0 0 i y0 ys []
 refine xh.b0 z0 vv rfl (RA.less rfl) B (cj hLe ha n2) (fun h2 _ H2=>.code (dZ (H2.get 0 rfl) (by show ys.length≤1000;left) fun h3 U=>?_))
 refine xh.b1 (RA.less rfl) B H2.k (H2.rep.upd (H2.bg 0 rfl rfl) U) (fun h4 _ H4=>?_)
 rw[xh.k1]
 have hv:∀{c:Nat}{o:Obj},⇑h≤c→h4.get? c=some o→view D h4 c o:=fun hc e=>iI hD (aq hN hc) e
 exact go h4 _ _ _ _ _ _ H4.kp (H4.get 6 rfl) (br) H4.size (H4.get 1 rfl) rfl (.inr ⟨_,_,_,H4.get 0 rfl⟩) (.aP (hv (br) (H4.get 5 rfl)) (hv (br) (H4.get 4 rfl)) (.int (hv (br) (H4.get 3 rfl)) (hv (bl) (H4.get 2 rfl))))
theorem Aq{G N ea le eg:Nat}{gs:List Value}{ns:List Int}(RA:aa A 30)(hz:gs.length≤100)(n0:it≠acc)(n1:it≠L)(n2:L≠acc)(n3:G≠it)(n4:G≠acc)(n5:G≠L)(g1:534≤it)(g2:534≤acc)(g3:534≤L)
 (hN:N≤⇑h) (hD:∀x∈D,x<N) (d1:it∈D) (d2:acc∈D) (d3:L∈D)
 (TT:aE J.P h) (hI:h.IsListIter it G 0) (hG:h.get? G=some (lst gs eg)) (hgs:IntsAre gs ns) (hT:Tl [it] h) (ha:h.get? acc=some (lst [] ea)) (hL:h.get? L=some (dct [] le))
 (H:∀h' tk' as ea',Kp [it,acc,L] h h'→h'.get? acc=some (lst (refs as) ea')→aQ J.P (view D h') (ns.map fun i=>Nd.aS) as→bA J.P h' L cD gs.length→R (.ok .next) (J.S h' tk')):
 codeAny J.M A (aT (h_ J.P) (fE J.P (h_ J.P) L fr) it acc) (ay R) (J.S h tk):=by
 have fP:gs.length=ns.length:=IntsAre.length hgs
 have M1:∀x∈([it]:List Addr),x∈D:=by k_in
 have M2:∀x∈([L,acc]:List Addr),x∈D:=by k_in
 refine pD (cy:=J.P) (G:=G) (gs:=gs) (M:=[L]) (fun k ys h=>N≤⇑h∧bA J.P h L cD k∧∃as,ys=refs as∧aQ J.P (view D h) ((ns.take k).map fun i=>Nd.aS) as)
  RA.handled ∅ dH ak au au (fun k ys h h' x K=>⟨aq x.1 K.size,x.2.1.kp K ak,by
   obtain⟨as,e,z⟩:=x.2.2
   exact⟨as,e,z.mono (aO K M1)⟩⟩) ?_ TT hI hG n3 hT ha
  ⟨hN,.inl ⟨rfl,le,hL⟩,[],rfl,.nil⟩ (fun h' tk' ys ea' K ha' x=>by
   obtain⟨as,e,z⟩:=x.2.2
   rw[e]at ha'
   rw[fP,List.take_length]at z
   exact H h' tk' as ea' K ha' z x.2.1)
 intro k h tk x ys ea hk hx TT hT ha hY next
 obtain⟨i,t,rfl,hi⟩:=pC hgs hx
 obtain⟨hN,hL,as,hys,hnd⟩:=hY
 have hys:ys.length≤200:=by have:=hnd.1;rw[List.length_map,List.length_take]at this;rw[hys];simp[refs];exact #[0x111101160c8d140230432121064d104,gs.length,k,min k ns.length,as.length] hz hk this (Nat.min_le_left _ _)
 have B:=aG (prog:=pw) (w:=J.W) (mods:=[L,acc]) TT bB (ro:=[]) trivial
 have go:∀h4 av aW aU c e a,Kp [L,acc] h h4→h4.get? c=some e→⇑h≤c→⇑h4=c+1→h4.get? acc=some (lst aW aU)→aW=ys++[.ref a]→bA J.P h4 L cD (k+1)→aM J.P (view D h4) (Nd.aS) a→codeAny J.M A (aT (h_ J.P) (fE J.P (h_ J.P) L fr) it acc) (ay R) (J.S h4 av):=by
  intro h4 av aW aU c e a K he hc hs cg hy bP j9
  refine next h4 av _ aU (K.more (by k_in)) (hT.of hc he hs.symm) cg ⟨aq hN K.size,bP,as++[a],?_,?_⟩
  ·rw[hy,sF];congr 1
  ·rw[pF hi,List.map_append];exact(hnd.mono (aO K M2)).snoc j9
 refine hL.iH fun z0 t5 y0 le hLe=>?_
 let vv:Vv:=gm it acc L fr le ea t t5 ⇑h tk 0 0 i y0 ys []
 refine xj.b0 z0 vv rfl (RA.less rfl) B (cj hLe ha n2) (fun h2 _ H2=>.code (dZ (H2.get 0 rfl) (by show ys.length≤1000;left) fun h3 U=>?_))
 refine xj.b1 (RA.less rfl) B H2.k (H2.rep.upd (H2.bg 0 rfl rfl) U) (fun h4 _ H4=>?_)
 rw[xj.k1]
 have hv:∀{c:Nat}{o:Obj},⇑h≤c→h4.get? c=some o→view D h4 c o:=fun hc e=>iI hD (aq hN hc) e
 exact go h4 _ _ _ _ _ _ H4.kp (H4.get 4 rfl) (br) H4.size (H4.get 1 rfl) rfl (.inr ⟨_,_,_,H4.get 0 rfl⟩) (.aS (hv (br) (H4.get 3 rfl)) (hv (bl) (H4.get 2 rfl)))
end
end
section
variable [Zero Heap]
section
variable {J:WX}{A:Around}{R:RR}{h:Heap}{tk:Nat}{it acc L fr:Nat}{D:List Addr}
theorem LW{c:Wc}{G cw W_ wd ea le eg:Nat}{gs:List Value}{ns:List Int}{l:Int}(RA:aa A 30)(hn:gs.length≤10)(hgs:IntsAre gs ns)(hG:h.get? G=some (lst gs eg))(n0:G∉[it,acc,L,wd])(nd:([it,acc,L,wd]:List Nat).Nodup)(n1:cw∉[it,acc,L,wd])(n2:W_∉[it,acc,L,wd])(gi:∀a∈([it,acc,L,wd]:List Nat),534≤a)
 (TT:aE J.P h) (hI:h.IsListIter it G 0) (hT:Tl [it] h) (ha:h.get? acc=some (lst [] ea)) (hL:h.get? L=some (dct [] le)) (hcw:h.get? cw=some (bL (.ref W_))) (hW:h.get? W_=some (ins 464 wd)) (ck:cP J.P h c wd l)
 (H:∀h' tk' ys ea',Kp [it,acc,L,wd] h h'→h'.get? acc=some (lst ys ea')→IntsAre ys ((List.range gs.length).map fun j:Nat=>l+1+(j:Int))→cP J.P h' c wd (l+gs.length)→bA J.P h' L cD gs.length→R (.ok .next) (J.S h' tk')):
 codeAny J.M A (aT (jB J.P) (jC J.P (jB J.P) [(gz,cw)] L fr) it acc) (ay R) (J.S h tk):=by
 refine w_ nd fun q1 q2 q3 q4 q5 q6=>?_
 refine gS n0 fun Ar LX D9 D_=>?_
 refine gS n1 fun q7 q8 q9 sD=>?_
 refine gS n2 fun xd D6 D7 An=>?_
 refine Ao gi fun g1 g2 g3 g4=>?_
 have uz:([L,acc,wd]:List Nat).Nodup:=sE
 refine pD (cy:=J.P) (G:=G) (gs:=gs) (M:=[L,wd]) (fun k ys h=>IntsAre ys ((List.range k).map fun j:Nat=>l+1+(j:Int))∧bA J.P h L cD k∧cP J.P h c wd (l+k)∧h.get? cw=some (bL (.ref W_))∧h.get? W_=some (ins 464 wd))
  RA.handled ∅ mP ak bw bw (fun k ys h h' x K=>⟨x.1,x.2.1.kp K ak,x.2.2.1.kp K ak,K.keep _ _ ak x.2.2.2.1,K.keep _ _ ak x.2.2.2.2⟩) ?_ TT hI hG Ar hT ha
  ⟨.nil,.inl ⟨rfl,le,hL⟩,by simpa using ck,hcw,hW⟩ (fun h' tk' ys ea' K ha' x=>H h' tk' ys ea' (K.more (by k_in)) ha' x.1 x.2.2.1 x.2.1)
 intro k h tk x ys ea hk hx TT hT ha hY next
 obtain⟨i,t,rfl,hi⟩:=pC hgs hx
 obtain⟨hI,hL,⟨tl,hW⟩,hc,hw⟩:=hY
 have hys:ys.length=k:=by have:=IntsAre.length hI;simpa using this
 have B:=aG (prog:=pw) (w:=J.W) (mods:=[L,acc,wd]) TT dH (ro:=[(cw,_),(W_,_)]) (rC hc bw (rC hw bw rN))
 have go:∀h4 av aW aU e,Kp [L,acc,wd] h h4→h4.get? ⇑h=some e→⇑h4=⇑h+1→h4.get? acc=some (lst aW aU)→(∃u,aW=ys++[.int (l+k+1) u])→bA J.P h4 L cD (k+1)→(∃tl,h4.get? wd=some (mO J.P c (l+k+1) tl))→codeAny J.M A (aT (jB J.P) (jC J.P (jB J.P) [(gz,cw)] L fr) it acc) (ay R) (J.S h4 av):=by
  intro h4 av aW aU e K he hs cg hy bP qC
  obtain⟨u,rfl⟩:=hy
  obtain⟨qD,qC⟩:=qC
  exact next h4 av _ aU (K.more (by k_in)) (hT.of (bl) he hs.symm) cg ⟨by rw[D5];exact uy hI _ _,bP,⟨qD,by rw[qC];congr 2;simp;lia⟩,K.keep _ _ bw hc,K.keep _ _ bw hw⟩
 refine hL.iH fun z0 t5 y0 le hLe=>?_
 let vv:Vv:=fD it acc L fr le ea t cw W_ wd c.w1 c.w2 c.w3 c.w4 c.w5 c.TB c.TT c.OP tl c.ew t5 ⇑h tk 0 0 0 0 i (l+k) y0 ys [] [] []
 refine xm.b0 z0 vv rfl (RA.less rfl) B (w7 hLe ha hW uz) (fun h2 _ H2=>.code (dZ (H2.get 0 rfl) (by show ys.length≤1000;left) fun h3 U=>?_))
 refine xm.b1 (RA.less rfl) B H2.k (H2.rep.upd (H2.bg 0 rfl rfl) U) (fun h4 _ H4=>?_)
 rw[xm.k1]
 exact go h4 _ _ _ _ H4.kp (H4.get 3 rfl) H4.size (H4.get 1 rfl) ⟨_,rfl⟩ (.inr ⟨_,_,_,H4.get 0 rfl⟩) ⟨_,H4.get 2 rfl⟩
theorem LY{G N ea le eg:Nat}{gs:List Value}{ps:List (Nd×Sh)}(RA:aa A 30)(hz:gs.length≤100)(n0:it≠acc)(n1:it≠L)(n2:L≠acc)(n3:G≠it)(n4:G≠acc)(n5:G≠L)(g1:534≤it)(g2:534≤acc)(g3:534≤L)
 (d1:it∈D) (d2:acc∈D) (d3:L∈D)
 (TT:aE J.P h) (hI:h.IsListIter it G 0) (hG:h.get? G=some (lst gs eg)) (hgs:fW J.P (view D h) ps gs) (hT:Tl [it] h) (ha:h.get? acc=some (lst [] ea)) (hL:h.get? L=some (dct [] le))
 (H:∀h' tk' ys ea',Kp [it,acc,L] h h'→h'.get? acc=some (lst ys ea')→bR (ps.map Prod.snd) ys→bA J.P h' L jd gs.length→R (.ok .next) (J.S h' tk')):
 codeAny J.M A (aT (jD J.P) (bF J.P (jD J.P) [] L fr) it acc) (ay R) (J.S h tk):=by
 have fP:gs.length=ps.length:=hgs.1
 have M1:∀x∈([it]:List Addr),x∈D:=by k_in
 have M2:∀x∈([L,acc]:List Addr),x∈D:=by k_in
 refine pD (cy:=J.P) (G:=G) (gs:=gs) (M:=[L]) (fun k ys h=>bA J.P h L jd k∧fW J.P (view D h) ps gs∧ys.length=k∧bR ((ps.take k).map Prod.snd) ys)
  RA.handled ∅ dH ak au au (fun k ys h h' x K=>⟨x.1.kp K ak,x.2.1.mono (aO K M1),x.2.2.1,x.2.2.2⟩) ?_ TT hI hG n3 hT ha
  ⟨.inl ⟨rfl,le,hL⟩,hgs,rfl,.nil⟩ (fun h' tk' ys ea' K ha' x=>by
   have z:=x.2.2.2
   rw[fP,List.take_length]at z
   exact H h' tk' ys ea' K ha' z x.1)
 intro k h tk x ys ea hk hx TT hT ha hY next
 obtain⟨hL,hgs,hys,hY⟩:=hY
 have hk':k<ps.length:=by rw[←fP];exact hk
 obtain⟨⟨nq,sq⟩,hq⟩:∃q,ps[k]? =some q:=⟨_,a_ hk'⟩
 obtain⟨p,nd,y,rfl,hp,hnd,hsh⟩:=hgs.2 k _ _ hq hx
 have pn:p∉([L,acc]:List Addr):=fun q=>hp.1 (M2 _ q)
 have go:∀h4 av aW aU v,Kp [L,acc] h h4→⇑h4=⇑h→(∃o,h4.get? L=some o)→h4.get? acc=some (lst aW aU)→aW=ys++[v]→bA J.P h4 L jd (k+1)→jE sq v→codeAny J.M A (aT (jD J.P) (bF J.P (jD J.P) [] L fr) it acc) (ay R) (J.S h4 av):=by
  intro h4 av aW aU v K hs hl cg hy bP hv
  refine next h4 av _ aU (K.more (by k_in)) (hT.same K hs fun c hc _=>?_) cg ⟨bP,hgs.mono (aO K M2),by rw[hy,List.length_append,hys];rfl,?_⟩
  ·rcases mC hc with e|e
   ·rw[e];exact hl
   ·rw[mS e];exact⟨_,cg⟩
  ·rw[pF hq,List.map_append,hy]
   exact hY.snoc hv
 have B:∀{o},h.get? p=some o→Base ⟨pw,J.W,kt J.P,[(p,o)]⟩ h [L,acc]:=fun hp=>aG (prog:=pw) (w:=J.W) (mods:=[L,acc]) TT bB (ro:=[(p,_)]) (rC hp pn rN)
 cases hsh with
 |@int i t=>
  have B:=B hp.2
  refine hL.iH fun z0 t5 y0 le hLe=>?_
  let vv:Vv:=mQ it acc L fr le ea p nd t t5 ⇑h tk 0 0 i y0 ys []
  refine xq.b0 z0 vv rfl (RA.less rfl) B (cj hLe ha n2) (fun h2 _ H2=>.code (dZ (H2.get 0 rfl) (by show ys.length≤1000;exact ox hys (ol (oS hz rfl) hk)) fun h3 U=>?_))
  refine xq.b1 (RA.less rfl) B H2.k (H2.rep.upd (H2.bg 0 rfl rfl) U) (fun h4 _ H4=>?_)
  rw[xq.k1]
  exact go h4 _ _ _ _ H4.kp H4.size ⟨_,H4.get 0 rfl⟩ (H4.get 1 rfl) rfl (.inr ⟨_,_,_,H4.get 0 rfl⟩) .int
 |@proc t=>
  have B:=B hp.2
  refine hL.iH fun z0 t5 y0 le hLe=>?_
  let vv:Vv:=mQ it acc L fr le ea p nd t t5 ⇑h tk 0 0 0 y0 ys []
  refine xr.b0 z0 vv rfl (RA.less rfl) B (cj hLe ha n2) (fun h2 _ H2=>.code (dZ (H2.get 0 rfl) (by show ys.length≤1000;exact ox hys (ol (oS hz rfl) hk)) fun h3 U=>?_))
  refine xr.b1 (RA.less rfl) B H2.k (H2.rep.upd (H2.bg 0 rfl rfl) U) (fun h4 _ H4=>?_)
  rw[xr.k1]
  exact go h4 _ _ _ _ H4.kp H4.size ⟨_,H4.get 0 rfl⟩ (H4.get 1 rfl) rfl (.inr ⟨_,_,_,H4.get 0 rfl⟩) .proc
theorem LZ{G N ea le eg:Nat}{gs:List Value}{ps:List (Nd×Sh)}(RA:aa A 30)(hz:gs.length≤100)(n0:it≠acc)(n1:it≠L)(n2:L≠acc)(n3:G≠it)(n4:G≠acc)(n5:G≠L)(g1:534≤it)(g2:534≤acc)(g3:534≤L)
 (d1:it∈D) (d2:acc∈D) (d3:L∈D)
 (TT:aE J.P h) (hI:h.IsListIter it G 0) (hG:h.get? G=some (lst gs eg)) (hgs:fW J.P (view D h) ps gs) (hT:Tl [it] h) (ha:h.get? acc=some (lst [] ea)) (hL:h.get? L=some (dct [] le))
 (H:∀h' tk' ys ea',Kp [it,acc,L] h h'→h'.get? acc=some (lst ys ea')→(∃as,ys=refs as∧aQ J.P (view D h') (ps.map Prod.fst) as)→bA J.P h' L jd gs.length→R (.ok .next) (J.S h' tk')):
 codeAny J.M A (aT (jF J.P) (bF J.P (jF J.P) [] L fr) it acc) (ay R) (J.S h tk):=by
 have fP:gs.length=ps.length:=hgs.1
 have M1:∀x∈([it]:List Addr),x∈D:=by k_in
 have M2:∀x∈([L,acc]:List Addr),x∈D:=by k_in
 refine pD (cy:=J.P) (G:=G) (gs:=gs) (M:=[L]) (fun k ys h=>bA J.P h L jd k∧fW J.P (view D h) ps gs∧ys.length=k∧∃as,ys=refs as∧aQ J.P (view D h) ((ps.take k).map Prod.fst) as)
  RA.handled ∅ dH ak au au (fun k ys h h' x K=>⟨x.1.kp K ak,x.2.1.mono (aO K M1),x.2.2.1,by
   obtain⟨as,e,z⟩:=x.2.2.2
   exact⟨as,e,z.mono (aO K M1)⟩⟩) ?_ TT hI hG n3 hT ha
  ⟨.inl ⟨rfl,le,hL⟩,hgs,rfl,[],rfl,.nil⟩ (fun h' tk' ys ea' K ha' x=>by
   have z:=x.2.2.2
   rw[fP,List.take_length]at z
   obtain⟨as,e,z⟩:=z
   rw[e]at ha'
   exact H h' tk' (refs as) ea' K ha' ⟨as,rfl,z⟩ x.1)
 intro k h tk x ys ea hk hx TT hT ha hY next
 obtain⟨hL,hgs,hys,hY⟩:=hY
 have hk':k<ps.length:=by rw[←fP];exact hk
 obtain⟨⟨nq,sq⟩,hq⟩:∃q,ps[k]? =some q:=⟨_,a_ hk'⟩
 obtain⟨p,nd,y,rfl,hp,hnd,hsh⟩:=hgs.2 k _ _ hq hx
 have pn:p∉([L,acc]:List Addr):=fun q=>hp.1 (M2 _ q)
 have go:∀h4 av aW aU v,Kp [L,acc] h h4→⇑h4=⇑h→(∃o,h4.get? L=some o)→h4.get? acc=some (lst aW aU)→aW=ys++[v]→bA J.P h4 L jd (k+1)→(∃a,v=.ref a∧aM J.P (view D h4) nq a)→codeAny J.M A (aT (jF J.P) (bF J.P (jF J.P) [] L fr) it acc) (ay R) (J.S h4 av):=by
  intro h4 av aW aU v K hs hl cg hy bP hv
  refine next h4 av _ aU (K.more (by k_in)) (hT.same K hs fun c hc _=>?_) cg ⟨bP,hgs.mono (aO K M2),by rw[hy,List.length_append,hys];rfl,?_⟩
  ·rcases mC hc with e|e
   ·rw[e];exact hl
   ·rw[mS e];exact⟨_,cg⟩
  ·rw[pF hq,List.map_append,hy]
   obtain⟨as,e,z⟩:=hY
   obtain⟨a,e',hv⟩:=hv
   exact⟨as++[a],by rw[sF,e,e'],(z.mono (aO K M2)).snoc hv⟩
 have B:=aG (prog:=pw) (w:=J.W) (mods:=[L,acc]) TT bB (ro:=[(p,_)]) (rC hp.2 pn rN)
 refine hL.iH fun z0 t5 y0 le hLe=>?_
 let vv:Vv:=gn it acc L fr le ea p nd t5 ⇑h tk 0 0 0 0 0 0 0 0 y y0 ys [] []
 refine xu.b0 z0 vv rfl (RA.less rfl) B (cj hLe ha n2) (fun h2 _ H2=>.code (dZ (H2.get 0 rfl) (by show ys.length≤1000;exact ox hys (ol (oS hz rfl) hk)) fun h3 U=>?_))
 refine xu.b1 (RA.less rfl) B H2.k (H2.rep.upd (H2.bg 0 rfl rfl) U) (fun h4 _ H4=>?_)
 rw[xu.k1]
 exact go h4 _ _ _ _ H4.kp H4.size ⟨_,H4.get 0 rfl⟩ (H4.get 1 rfl) rfl (.inr ⟨_,_,_,H4.get 0 rfl⟩) ⟨_,rfl,hnd.mono (aO H4.kp M2)⟩
end
end
section
variable [Zero Heap]
noncomputable def gA:Nd→Bool
 |.call ..|.seq _|.aP ..=>false
 |_=>true
noncomputable def qE:Nd→Prop
 |.int _|.lam ..|.call ..=>True
 |_=>False
section
variable {J:WX}{A:Around}{R:RR}{h:Heap}{tk:Nat}{it acc L fr:Nat}{D:List Addr}
theorem Ea{G N ea le eg:Nat}{as:List Addr}{aC:List Nd}(RA:aa A 30)(hz:as.length≤100)(n0:it≠acc)(n1:it≠L)(n2:L≠acc)(n3:G≠it)(n4:G≠acc)(n5:G≠L)(g1:534≤it)(g2:534≤acc)(g3:534≤L)
 (d1:it∈D) (d2:acc∈D) (d3:L∈D) (qF:∀x∈aC,qE x)
 (TT:aE J.P h) (hI:h.IsListIter it G 0) (hG:h.get? G=some (lst (refs as) eg)) (hgs:aQ J.P (view D h) aC as) (hT:Tl [it] h) (ha:h.get? acc=some (lst [] ea)) (hL:h.get? L=some (dct [] le))
 (H:∀h' tk' ea',Kp [it,acc,L] h h'→h'.get? acc=some (lst (aC.map fun n=>Value.bool (gA n)) ea')→bA J.P h' L aX (refs as).length→R (.ok .next) (J.S h' tk')):
 codeAny J.M A (aT (e_ J.P) (fE J.P (e_ J.P) L fr) it acc) (ay R) (J.S h tk):=by
 have Eb:(refs as).length=as.length:=List.length_map ..
 have fP:(refs as).length=aC.length:=Eb.trans hgs.1.symm
 have M1:∀x∈([it]:List Addr),x∈D:=by k_in
 have M2:∀x∈([L,acc]:List Addr),x∈D:=by k_in
 refine pD (cy:=J.P) (G:=G) (gs:=refs as) (M:=[L]) (fun k ys h=>bA J.P h L aX k∧aQ J.P (view D h) aC as∧ys=(aC.take k).map fun n=>Value.bool (gA n))
  RA.handled ∅ dH ak au au (fun k ys h h' x K=>⟨x.1.kp K ak,x.2.1.mono (aO K M1),x.2.2⟩) ?_ TT hI hG n3 hT ha
  ⟨.inl ⟨rfl,le,hL⟩,hgs,rfl⟩ (fun h' tk' ys ea' K ha' x=>by
   have z:=x.2.2
   rw[fP,List.take_length]at z
   exact H h' tk' ea' K (z▸ha') x.1)
 intro k h tk x ys ea hk hx TT hT ha hY next
 ac_rfl
 obtain⟨hL,hgs,hY⟩:=hY
 have hk':k<aC.length:=by rw[←fP];exact hk
 obtain⟨n,hq⟩:∃q,aC[k]? =some q:=⟨_,a_ hk'⟩
 have hka:k<as.length:=by rw[←Eb];exact hk
 obtain⟨a,uA⟩:∃q,as[k]? =some q:=⟨_,a_ hka⟩
 obtain rfl:x=.ref a:=by
  have hx:(refs as)[k]? =some x:=hx
  simp only[refs,List.getElem?_map,uA,Option.map_some,Option.some.injEq]at hx
  exact hx.symm
 have hnd:=hgs.2 k _ _ hq uA
 ac_rfl
 obtain⟨Cl,d,hp,qG⟩:=hnd.obj
 have pn:a∉([L,acc]:List Addr):=fun q=>hp.1 (M2 _ q)
 have hys:ys.length≤200:=by rw[hY,List.length_map,List.length_take];exact #[0x1111140c8d130230121064d103,as.length,k,min k aC.length] hz hka (Nat.min_le_left _ _)
 have As:534≤⇑h:=Nat.le_of_lt (Nat.lt_of_le_of_lt g2 (aj ha))
 obtain⟨Ec,hn0⟩:∃n0,⇑h=n0+300:=⟨⇑h-300,#[0x11013110312cd10122212cd1021,⇑h-300,⇑h] (Nat.sub_add_cancel (#[0x11121112cd01216d01,⇑h] As))⟩
 have RP:∀{o},h.get? L=some o→Rep ⟨pw,J.W,kt J.P,[(a,ins Cl d)]⟩ h [L,acc] h [(L,o),(acc,lst ys ea)] (Ec+300):=fun e=>by
  have z:=cj (V:=⟨pw,J.W,kt J.P,[(a,ins Cl d)]⟩) e ha n2
  rw[hn0]at z
  exact z
 have go:∀h4 av aW aU (c:Nat)(e:Obj)(v:Bool),Kp [L,acc] h h4→h4.get? c=some e→⇑h≤c→⇑h4=c+1→h4.get? acc=some (lst aW aU)→aW=ys++[.bool v]→bA J.P h4 L aX (k+1)→gA n=v→codeAny J.M A (aT (e_ J.P) (fE J.P (e_ J.P) L fr) it acc) (ay R) (J.S h4 av):=by
  intro h4 av aW aU c e v K he hc hs cg hy bP hv
  refine next h4 av _ aU (K.more (by k_in)) (hT.of hc he hs.symm) cg ⟨bP,hgs.mono (aO K M2),?_⟩
  rw[pF hq,List.map_append,hy,hY,List.map_singleton,hv]
 have Au:=qF n (List.mem_of_getElem? hq)
 ac_rfl
 obtain⟨p,q,rfl,hv⟩:∃p q,Cl=cond p 66 (cond q 184 217)∧gA n=or p q:=by
  cases n with
  |int i=>exact⟨true,true,qG,rfl⟩
  |lam lb ps b=>exact⟨false,true,qG,rfl⟩
  |call o cs=>exact⟨false,false,qG,rfl⟩
  |_=>exact Au.elim
 have B:=aG (prog:=pw) (w:=J.W) (mods:=[L,acc]) TT bB (ro:=[(a,_)]) (rC hp.2 pn rN)
 refine hL.iH fun z0 t5 y0 le hLe=>?_
 let vv:Vv:=gm it acc L fr le ea a d t5 Ec tk 0 0 y0 ys []
 refine xw.b0 z0 p q vv rfl (RA.less rfl) B (RP hLe) (fun h2 _ H2=>.code (dZ (H2.get 0 rfl) (by show ys.length≤1000;left) fun h3 U=>?_))
 refine xw.b1 (RA.less rfl) B H2.k (H2.rep.upd (H2.bg 0 rfl rfl) U) (fun h4 _ H4=>?_)
 rw[xw.k1]
 exact go h4 _ _ _ _ _ (or p q) H4.kp (H4.get 2 rfl) (by rw[hn0];exact Nat.le_succ _) H4.size (H4.get 1 rfl) rfl (.inr ⟨_,_,_,H4.get 0 rfl⟩) hv
theorem L0{G ea le eg:Nat}{as:List Addr}(RA:aa A 30)(n0:it≠acc)(n1:it≠L)(n2:L≠acc)(n3:G≠it)(n4:G≠acc)(n5:G≠L)(g1:534≤it)(g2:534≤acc)(g3:534≤L)
 (d1:it∈D) (d2:acc∈D) (d3:L∈D)
 (TT:aE J.P h) (hI:h.IsListIter it G 0) (hG:h.get? G=some (lst (refs as) eg)) (hgs:∀(j:Nat) a,as[j]? =some a→aM J.P (view D h) .aS a) (hT:Tl [it] h) (ha:h.get? acc=some (lst [] ea)) (hL:h.get? L=some (dct [] le))
 (H:∀h' tk' ea',Kp [it,acc,L] h h'→h'.get? acc=some (lst [] ea')→bA J.P h' L jG (refs as).length→R (.ok .next) (J.S h' tk')):
 codeAny J.M A (ia (jH J.P) (bF J.P (jH J.P) [] L fr) it acc) (ay R) (J.S h tk):=by
 have M1:∀x∈([it]:List Addr),x∈D:=by k_in
 have M2:∀x∈([L,acc]:List Addr),x∈D:=by k_in
 refine L_ (cy:=J.P) (G:=G) (gs:=refs as) (M:=[L]) (fun k ys h=>bA J.P h L jG k∧(∀(j:Nat) a,as[j]? =some a→aM J.P (view D h) .aS a)∧ys=[])
  RA.handled ∅ dH ak au au (fun k ys h h' x K=>⟨x.1.kp K ak,fun j a e=>(x.2.1 j a e).mono (aO K M1),x.2.2⟩) ?_ TT hI hG n3 hT ha
  ⟨.inl ⟨rfl,le,hL⟩,hgs,rfl⟩ (fun h' tk' ys ea' K ha' x=>H h' tk' ea' K (x.2.2▸ha') x.1)
 intro k h tk x ys ea hk hx TT hT ha hY next
 ac_rfl
 obtain⟨hL,hgs,rfl⟩:=hY
 have hka:k<as.length:=by simpa[refs]using hk
 obtain⟨a,uA⟩:∃q,as[k]? =some q:=⟨_,a_ hka⟩
 obtain rfl:x=.ref a:=by
  have hx:(refs as)[k]? =some x:=hx
  simp only[refs,List.getElem?_map,uA,Option.map_some,Option.some.injEq]at hx
  exact hx.symm
 have hnd:=hgs k _ uA
 refine hnd.out _ fun d tv ed hp hp2=>?_
 have pn:a∉([L,acc]:List Addr):=fun q=>hp.1 (M2 _ q)
 have xx:d∉([L,acc]:List Addr):=fun q=>hp2.1 (M2 _ q)
 have B:=aG (prog:=pw) (w:=J.W) (mods:=[L,acc]) TT bB (ro:=[(a,_),(d,_)]) (rC hp.2 pn (rC hp2.2 xx rN))
 have go:∀h4 av aU,Kp [L,acc] h h4→⇑h4=⇑h→(∃o,h4.get? L=some o)→h4.get? acc=some (lst [] aU)→bA J.P h4 L jG (k+1)→codeAny J.M A (ia (jH J.P) (bF J.P (jH J.P) [] L fr) it acc) (ay R) (J.S h4 av):=by
  intro h4 av aU K hs hl cg bP
  refine next h4 av _ aU (K.more (by k_in)) (hT.same K hs fun c hc _=>?_) cg ⟨bP,fun j a e=>(hgs j a e).mono (aO K M2),rfl⟩
  rcases mC hc with e|e
  ·rw[e];exact hl
  ·rw[mS e];exact⟨_,cg⟩
 refine hL.iH fun z0 t5 y0 le hLe=>?_
 let vv:Vv:=mQ it acc L fr le ea a d tv ed t5 ⇑h tk 0 0 y0 [] []
 refine Av.b0 z0 vv rfl (RA.less rfl) B (cj hLe ha n2) (fun h4 av H4=>?_)
 rw[Av.k0]
 exact go h4 _ _ H4.kp H4.size ⟨_,H4.get 0 rfl⟩ (H4.get 1 rfl) (.inr ⟨_,_,_,H4.get 0 rfl⟩)
theorem Ma(cl:Nat→Bool)(k:Nat):(((List.range (k+1)).filter cl).map fun(j:Nat)=>(j:Int))=(((List.range k).filter cl).map fun(j:Nat)=>(j:Int))++(if cl k=true then [(k:Int)]else []):=by
 rw[List.range_succ,List.filter_append,List.map_append]
 congr 1
 by_cases h:cl k=true<;>simp[h]
theorem Mb{ea le eg cp pl:Nat}{gs:List Value}{ps:List (Nd×Sh)}{cl:Nat→Bool}(RA:aa A 30)(hz:gs.length≤100)(n0:it≠acc)(n1:it≠L)(n2:L≠acc)(g1:534≤it)(g2:534≤acc)(g3:534≤L)
 (q1:cp≠it) (q2:cp≠acc) (q3:cp≠L) (q4:pl≠it) (q5:pl≠acc) (q6:pl≠L)
 (d1:it∈D) (d2:acc∈D) (d3:L∈D) (qF:∀(j:Nat) x,ps[j]? =some x→qE x.1∧cl j=!gA x.1)
 (TT:aE J.P h) (hI:IsRangeIter h it (0:Nat) gs.length 1) (hcp:h.get? cp=some (bL (.ref pl))) (hpl:h.get? pl=some (lst gs eg)) (hgs:fW J.P (view D h) ps gs) (hT:Tl [it] h) (ha:h.get? acc=some (lst [] ea)) (hL:h.get? L=some (dct [] le))
 (H:∀h' tk' ys ea',Kp [it,acc,L] h h'→h'.get? acc=some (lst ys ea')→IntsAre ys (((List.range gs.length).filter cl).map fun(j:Nat)=>(j:Int))→bA J.P h' L cE gs.length→R (.ok .next) (J.S h' tk')):
 codeAny J.M A (ia (jI J.P) (bF J.P (jI J.P) [(qH,cp)] L fr) it acc) (ay R) (J.S h tk):=by
 have fP:gs.length=ps.length:=hgs.1
 have M1:∀x∈([it]:List Addr),x∈D:=by k_in
 have M2:∀x∈([L,acc]:List Addr),x∈D:=by k_in
 refine Mc (cy:=J.P) (n:=gs.length) (M:=[L]) (fun k ys h=>bA J.P h L cE k∧fW J.P (view D h) ps gs∧h.get? cp=some (bL (.ref pl))∧h.get? pl=some (lst gs eg)∧IntsAre ys (((List.range k).filter cl).map fun(j:Nat)=>(j:Int)))
  RA.handled ∅ dH ak au (fun k ys h h' x K=>⟨x.1.kp K ak,x.2.1.mono (aO K M1),K.keep _ _ ak x.2.2.1,K.keep _ _ ak x.2.2.2.1,x.2.2.2.2⟩) ?_ TT hI hT ha
  ⟨.inl ⟨rfl,le,hL⟩,hgs,hcp,hpl,.nil⟩ (fun h' tk' ys ea' K ha' x=>H h' tk' ys ea' K ha' x.2.2.2.2 x.1)
 intro k h tk x ys ea hk hx TT hT ha hY next
 ac_rfl
 obtain⟨t,rfl⟩:=hx
 obtain⟨hL,hgs,hcp,hpl,hY⟩:=hY
 have hk':k<ps.length:=by rw[←fP];exact hk
 obtain⟨⟨nq,sq⟩,hq⟩:∃q,ps[k]? =some q:=⟨_,a_ hk'⟩
 obtain⟨v,hx'⟩:∃v,gs[k]? =some v:=⟨_,a_ hk⟩
 obtain⟨p,nd,y,rfl,hp,hnd,hsh⟩:=hgs.2 k _ _ hq hx'
 obtain⟨Cl,d,hp2,qG⟩:=hnd.obj
 have pn:p∉([L,acc]:List Addr):=fun q=>hp.1 (M2 _ q)
 have xx:nd∉([L,acc]:List Addr):=fun q=>hp2.1 (M2 _ q)
 have hys:ys.length≤200:=by have z:=IntsAre.length hY;rw[List.length_map]at z;have z2:=List.length_filter_le cl (List.range k);rw[List.length_range]at z2;lia
 have go:∀h4 av aW aU,Kp [L,acc] h h4→⇑h4=⇑h→(∃o,h4.get? L=some o)→h4.get? acc=some (lst aW aU)→bA J.P h4 L cE (k+1)→IntsAre aW ((((List.range k).filter cl).map fun(j:Nat)=>(j:Int))++(if cl k=true then [(k:Int)]else []))→codeAny J.M A (ia (jI J.P) (bF J.P (jI J.P) [(qH,cp)] L fr) it acc) (ay R) (J.S h4 av):=by
  intro h4 av aW aU K hs hl cg bP hy
  refine next h4 av _ aU (K.more (by k_in)) (hT.same K hs fun c hc _=>?_) cg ⟨bP,hgs.mono (aO K M2),K.keep _ _ au hcp,K.keep _ _ au hpl,by rw[Ma];exact hy⟩
  rcases mC hc with e|e
  ·rw[e];exact hl
  ·rw[mS e];exact⟨_,cg⟩
 obtain⟨Au,hc⟩:=qF k _ hq
 rcases(show(∃q:Bool,Cl=cond q 66 184∧cl k=false)∨(Cl=217∧cl k=true) by
  cases nq with
  |int i=>exact .inl ⟨true,qG,hc⟩
  |lam lb ps b=>exact .inl ⟨false,qG,hc⟩
  |call o cs=>exact .inr ⟨qG,hc⟩
  |_=>exact Au.elim)with⟨q,rfl,hc⟩|⟨rfl,hc⟩
 ·have B:=aG (prog:=pw) (w:=J.W) (mods:=[L,acc]) TT bB (ro:=[(cp,_),(pl,_),(p,_),(nd,_)]) (rC hcp au (rC hpl au (rC hp.2 pn (rC hp2.2 xx rN))))
  refine hL.iH fun z0 t5 y0 le hLe=>?_
  let vv:Vv:=gn it acc L fr le ea t cp pl eg p nd d t5 ⇑h tk 0 k 0 y y0 ys gs []
  refine xA.b0 z0 q vv rfl (RA.less rfl) B (cj hLe ha n2) (fun h2 _ H2=>.code (iJ (H2.kp.keep _ _ au hpl) (Int.natCast_nonneg k) (by left) hx' ?_))
  refine xA.b1 (RA.less rfl) B H2.k H2.rep (fun h4 _ H4=>?_)
  rw[xA.k1]
  exact go h4 _ _ _ H4.kp H4.size ⟨_,H4.get 0 rfl⟩ (H4.get 1 rfl) (.inr ⟨_,_,_,H4.get 0 rfl⟩) (by rw[hc];simpa using hY)
 ·have B:=aG (prog:=pw) (w:=J.W) (mods:=[L,acc]) TT bB (ro:=[(cp,_),(pl,_),(p,_),(nd,_)]) (rC hcp au (rC hpl au (rC hp.2 pn (rC hp2.2 xx rN))))
  refine hL.iH fun z0 t5 y0 le hLe=>?_
  let vv:Vv:=gn it acc L fr le ea t cp pl eg p nd d t5 ⇑h tk 0 k 0 y y0 ys gs []
  refine uB.b0 z0 vv rfl (RA.less rfl) B (cj hLe ha n2) (fun h2 _ H2=>.code (iJ (H2.kp.keep _ _ au hpl) (Int.natCast_nonneg k) (by left) hx' ?_))
  refine uB.b1 (RA.less rfl) B H2.k H2.rep (fun h3 _ H3=>.code (dZ (H3.get 0 rfl) (by show ys.length≤1000;left) fun h3 U=>?_))
  refine uB.b2 (RA.less rfl) B H3.k (H3.rep.upd (H3.bg 0 rfl rfl) U) (fun h4 _ H4=>?_)
  rw[uB.k2]
  exact go h4 _ _ _ H4.kp H4.size ⟨_,H4.get 0 rfl⟩ (H4.get 1 rfl) (.inr ⟨_,_,_,H4.get 0 rfl⟩) (by rw[hc];exact uy hY _ _)
end
end
inductive Go:MS→MS→Prop
 |refl {S:MS}:Go S S
 |step {S S' T:MS}:lI S→nA S=some S'→Go S' T→Go S T
theorem Go.trans{S T U:MS}(a:Go S T)(b:Go T U):Go S U:=by
 induction a with
 |refl=>exact b
 |step h1 h2 _ ih=>exact .step h1 h2 (ih b)
theorem Go.one{S S':MS}(h:lI S)(e:nA S=some S'):Go S S':=.step h e .refl
theorem Go.runs{S T:MS}{i:Int}(a:Go S T)(h1:T.aR=.val (.int i))(h2:T.fs=[]):jL S T:=by
 induction a with
 |refl=>exact .fin h1 h2
 |step q1 q2 _ ih=>exact .step q1 q2 (ih h1 h2)
theorem uM(ρ:bH)(n n':Int)(c:Nat):look (cI ρ n c) n'=if n'=n then some c else look ρ n':=by
 unfold look cI
 split
 ·rename_i h
  induction ρ with
  |nil=>simp at h
  |cons kv ρ ih=>
   rw[List.map_cons,List.find?_cons,List.find?_cons]
   by_cases e:kv.1=n
   ·rw[if_pos e]
    by_cases e2:n'=n
    ·subst e2;simp[e]
    ·have:¬kv.1=n':=fun q=>e2 (q.symm.trans e)
     simp only[this,decide_false,e2,if_false]
     by_cases h2:(ρ.any fun kv=>decide (kv.1=n))=true
     ·rw[ih h2,if_neg e2]
     ·have:(ρ.map fun kv=>if kv.1=n then(kv.1,c)else kv)=ρ:=by
       conv=>rhs;rw[←List.map_id ρ]
       refine List.map_congr_left fun x hx=>?_
       have:¬x.1=n:=fun q=>h2 (List.any_eq_true.mpr ⟨x,hx,by simpa using q⟩)
       simp[this]
      rw[this]
   ·rw[if_neg e]
    by_cases e2:kv.1=n'
    ·have:¬n'=n:=fun q=>e (e2.trans q)
     simp[e2,this]
    ·simp only[e2,decide_false]
     exact ih (by simpa[e]using h)
 ·rename_i h
  rw[List.find?_append]
  by_cases e:n'=n
  ·subst e
   have:ρ.find? (fun kv=>decide (kv.1=n'))=none:=by
    rw[List.find?_eq_none]
    intro x hx q
    exact h (List.any_eq_true.mpr ⟨x,hx,q⟩)
   simp[this]
  ·rw[if_neg e]
   cases hf:ρ.find? (fun kv=>decide (kv.1=n'))with
   |some x=>simp
   |none=>
    have:¬n=n':=fun q=>e q.symm
    simp[this]
theorem NQ{α:Type}(l:List (Int×α))(n:Int)(c:α):(cI l n c).map (·.1)=if n∈l.map (·.1)then l.map (·.1)else l.map (·.1)++[n]:=by
 unfold cI
 have e:(l.any fun kv=>decide (kv.1=n))=true↔n∈l.map (·.1):=by
  simp[List.any_eq_true,List.mem_map]
 by_cases h:n∈l.map (·.1)
 ·rw[if_pos (e.mpr h),if_pos h,List.map_map]
  refine List.map_congr_left fun x _=>?_
  simp only[Function.comp]
  split<;>simp_all
 ·rw[if_neg (fun q=>h (e.mp q)),if_neg h]
  simp
theorem NR{α:Type}{l:List (Int×α)}{n:Int}{c:α}{x:Int×α}(h:x∈cI l n c):x=(n,c)∨(x∈l∧x.1≠n):=by
 unfold cI at h
 split at h
 ·obtain⟨y,hy,e⟩:=mM h
  by_cases q:y.1=n
  ·rw[if_pos q]at e
   exact .inl (by rw[←e,←q])
  ·rw[if_neg q]at e
   exact .inr ⟨e▸hy,e▸q⟩
 ·rename_i hn
  rcases mA h with h|h
  ·exact .inr ⟨h,fun q=>hn (List.any_eq_true.mpr ⟨x,h,by simpa using q⟩)⟩
  ·exact .inl (mS h)
noncomputable def Bd(fs:List bG)(k:List (Int×List bG))(s:List (List Sh)):Prop:=fs.length≤300∧k.length≤100∧s.length≤400
theorem Bd.ok{fs:List bG}{k:List (Int×List bG)}{s:List (List Sh)}(b:Bd fs k s){c:pP}{σ:List AV}:lI ⟨c,fs,σ,k,s⟩:=⟨by have:=b.1;show fs.length≤400;left,b.2.1,by have:=b.2.2;show s.length≤500;left⟩
noncomputable def sR(ρ:bH)(x:Nd)(σ:List AV)(v:AV):Prop:=∀fs k s,fs.length≤320→k.length≤100→s.length≤400→Go ⟨.ev x ρ,fs,σ,k,s⟩ ⟨.val v,fs,σ,k,s⟩
noncomputable def A2(ρ:bH)(x:Nd)(σ:List AV)(s:List (List Sh))(σ':List AV)(s':List (List Sh)):Prop:=∀fs k,fs.length≤310→k.length≤100→s.length≤400→∃v,Go ⟨.ev x ρ,fs,σ,k,s⟩ ⟨.val v,fs,σ',k,s'⟩
inductive jM (ρ:bH):List Nd→List AV→List (List Sh)→List AV→List (List Sh)→Prop
 |nil {σ s}:jM ρ [] σ s σ s
 |cons {x xs σ s σ1 s1 σ2 s2}:A2 ρ x σ s σ1 s1→s1.length≤400→jM ρ xs σ1 s1 σ2 s2→jM ρ (x::xs) σ s σ2 s2
theorem jM.append{ρ:bH}{xs ys:List Nd}{σ σ1 σ2:List AV}{s s1 s2:List (List Sh)}(a:jM ρ xs σ s σ1 s1)(b:jM ρ ys σ1 s1 σ2 s2):jM ρ (xs++ys) σ s σ2 s2:=by
 induction a with
 |nil=>exact b
 |cons h1 h2 _ ih=>exact .cons h1 h2 (ih b)
theorem cM{fs:List bG}{k:List (Int×List bG)}{s:List (List Sh)}{c:pP}{σ:List AV}(h1:fs.length≤400)(h2:k.length≤100)(h3:s.length≤400):lI ⟨c,fs,σ,k,s⟩:=⟨h1,h2,by show s.length≤500;left⟩
theorem qR(ρ:bH)(i:Int)(σ:List AV):sR ρ (.int i) σ (.int i):=fun fs k s h1 h2 h3=>.one (cM (by left) h2 h3) rfl
theorem NS(ρ:bH)(σ:List AV):sR ρ .aS σ .aS:=fun fs k s h1 h2 h3=>.one (cM (by left) h2 h3) rfl
theorem A3{ρ:bH}{n:Int}{σ:List AV}{c:Nat}{v:AV}(h:look ρ n=some c)(hv:σ[c]? =some v):sR ρ (.loc n) σ v:=fun fs k s h1 h2 h3=>.one (cM (by left) h2 h3) (by
 show(match look ρ n with
  |some c=>match σ[c]? with
   |some v=>some (⟨.val v,fs,σ,k,s⟩:MS)
   |none=>none
  |none=>none)=_
 rw[h]
 simp only[hv])
theorem evSet{ρ:bH}{n:Int}{x:Nd}{σ:List AV}{c:Nat}{v:AV}{s:List (List Sh)}(h:look ρ n=some c)(hc:c<σ.length)(hx:sR ρ x σ v):A2 ρ (.aP n x) σ s (σ.set c v) s:=fun fs k h1 h2 h3=>
 ⟨.int 0,.step (cM (by left) h2 h3) (S':=⟨.ev x ρ,.set c::fs,σ,k,s⟩) (by
  show(match look ρ n with
   |some c=>if c<σ.length then some (⟨.ev x ρ,.set c::fs,σ,k,s⟩:MS)else none
   |none=>none)=_
  rw[h]
  simp only[hc,if_true]) ((hx _ _ _ (by simp;left) h2 h3).trans (.one (cM (by simp;left) h2 h3) (by
   show(if c<σ.length then some (⟨.val (.int 0),fs,σ.set c v,k,s⟩:MS)else none)=_
   rw[if_pos hc])))⟩
theorem uN{is:List Nd}{ρ:bH}{σ:List AV}{fs:List bG}{k:List (Int×List bG)}{s:List (List Sh)}(h1:fs.length≤315)(h2:k.length≤100)(h3:s.length≤400):∀(xs:List Nd)(vs gs:List AV)(v:AV),xs.length=vs.length→(∀(j:Nat) x u,xs[j]? =some x→vs[j]? =some u→sR ρ x σ u)→is.drop (gs.length+1)=xs→gs.length+1≤is.length→
 ∃gs' v',gs'++[v']=gs++[v]++vs∧gs'.length+1=is.length∧Go ⟨.val v,.call is gs ρ::fs,σ,k,s⟩ ⟨.val v',.call is gs' ρ::fs,σ,k,s⟩
 | [],[],gs,v,_,_,hd,hl=>⟨gs,v,by simp,by have:=congrArg List.length hd;simp at this;exact #[0x111001061000016211c10221c103020c3221c1003,gs.length,is.length,is.length-(gs.length+1)] hl this (Nat.sub_add_cancel (#[0x1112211c10021c1001,gs.length,is.length] hl)),.refl⟩
 |x::xs,u::vs,gs,v,hl,he,hd,hl2=>by
  have hlt:gs.length+1<is.length:=by have:=congrArg List.length hd;simp at this;exact #[0x1101105411c30141c301021c20122,is.length-(gs.length+1),xs.length,gs.length,is.length] this (Nat.sub_add_cancel (#[0x1112211c10021c1001,gs.length,is.length] hl2))
  have hx:is[gs.length+1]? =some x:=by
   have:=congrArg (fun l=>l[0]?) hd
   simpa using this
  obtain⟨gs',v',e1,e2,g⟩:=uN h1 h2 h3 xs vs (gs++[v]) u (by simpa using hl) (fun j x' u' a b=>he (j+1) x' u' (by simpa using a) (by simpa using b)) (by
   have e:is.drop (gs.length+1)=x::is.drop (gs.length+1+1):=by
    rw[List.drop_eq_getElem_cons hlt]
    congr 1
    rw[a_ hlt]at hx
    exact bV hx
   rw[e]at hd
   simp only[List.cons.injEq]at hd
   simpa using hd.2) (by simp;exact oi hlt)
  refine⟨gs',v',by rw[e1];simp,e2,.step (cM (by simp;left) h2 h3) (S':=⟨.ev x ρ,.call is (gs++[v]) ρ::fs,σ,k,s⟩) ?_ ((he 0 x u rfl rfl _ _ _ (by simp;left) h2 h3).trans g)⟩
  show(match is[gs.length+1]? with
   |some x=>some (⟨.ev x ρ,.call is (gs++[v]) ρ::fs,σ,k,s⟩:MS)
   |none=>_)=_
  rw[hx]
theorem uO{is:List Nd}{gs:List AV}{v:AV}{ρ:bH}{σ:List AV}{fs:List bG}{k:List (Int×List bG)}{s:List (List Sh)}(h:gs.length+1=is.length):nA ⟨.val v,.call is gs ρ::fs,σ,k,s⟩=A4 ⟨.val v,.call is gs ρ::fs,σ,k,s⟩ fs (gs++[v]):=by
 show(match is[gs.length+1]? with
  |some x=>_
  |none=>if gs.length+1=is.length then A4 _ fs (gs++[v])else none)=_
 rw[List.getElem?_eq_none (oG h oR)]
 simp only[h,if_true]
theorem EV:∀{vs:List AV}{l:List Sh},vs.length=l.length→(∀(j:Nat) v s,vs[j]? =some v→l[j]? =some s→v.sh=some s)→nj vs=some l
 | [],[],_,_=>rfl
 |v::vs,s::l,hl,h=>by
  have e1:=h 0 v s rfl rfl
  have e2:=EV (vs:=vs) (l:=l) (by simpa using hl) (fun j v s a b=>h (j+1) v s (by simpa using a) (by simpa using b))
  show(match v.sh,nj vs with
  |some s,some l=>some (s::l)
  |_,_=>none)=_
  rw[e1,e2]
theorem A5{is:List Nd}{ρ:bH}{fs:List bG}{k:List (Int×List bG)}(h1:fs.length≤305)(h2:k.length≤100){xs:List Nd}{σ σ':List AV}{s s':List (List Sh)}(E:jM ρ xs σ s σ' s'):∀(v:AV)(a:Nat),s.length≤400→is.drop (a+1)=xs++[.int 5]→
 s'.length≤400∧Go ⟨.val v,.seq is a ρ::fs,σ,k,s⟩ ⟨.val (.int 5),fs,σ',k,s'⟩:=by
 induction E with
 |nil=>
  intro v a h3 hd
  have hl:=congrArg List.length hd
  simp at hl
  have hx:is[a+1]? =some (.int 5):=by
   have:=congrArg (fun l=>l[0]?) hd
   simpa using this
  refine⟨h3,.step (cM (by simp;left) h2 h3) (S':=⟨.ev (.int 5) ρ,fs,_,k,_⟩) ?_ (.one (cM (by left) h2 h3) rfl)⟩
  ·show(match is[a+1]? with
    |some x=>if a+2<is.length then some (⟨.ev x ρ,.seq is (a+1) ρ::fs,_,k,_⟩:MS)else some ⟨.ev x ρ,fs,_,k,_⟩
    |none=>none)=_
   rw[hx]
   simp only
   rw[if_neg (by exact Nat.not_lt_of_le (#[0x1110142c301201c3010201c122,is.length-(a+1),is.length,a] hl (zs _ _)))]
 |@cons x xs σ s σ1 s1 σ2 s2 hx hs1 _ ih=>
  intro v a h3 hd
  have hl:=congrArg List.length hd
  simp at hl
  have hx':is[a+1]? =some x:=by
   have:=congrArg (fun l=>l[0]?) hd
   simpa using this
  obtain⟨v',g⟩:=hx (.seq is (a+1) ρ::fs) k (by simp;left) h2 h3
  obtain⟨q1,q2⟩:=ih v' (a+1) hs1 (by
   have hlt:a+1<is.length:=by lia
   rw[List.drop_eq_getElem_cons hlt]at hd
   simp only[List.cons_append,List.cons.injEq]at hd
   exact hd.2)
  refine⟨q1,.step (cM (by simp;left) h2 h3) ?_ (g.trans q2)⟩
  show(match is[a+1]? with
   |some x=>if a+2<is.length then some (⟨.ev x ρ,.seq is (a+1) ρ::fs,_,k,_⟩:MS)else some ⟨.ev x ρ,fs,_,k,_⟩
   |none=>none)=_
  rw[hx']
  simp only
  rw[if_pos (by lia)]
structure Cfg where
 m:Nat
 N:Nat→Int
 K:Nat→Int
 part:Nat→Nd
 iV:Nat→Sh
 cl:Nat→Bool
 lb:Nat→Int
inductive sS (j:Nat):Nd→Sh→Bool→Prop
 |int (i:Int):sS j (.int i) (.int i) false
 |lam (lb i:Int):sS j (.lam lb [] (.int i)) .proc false
 |call (i:Int):sS j (.call (.glob 1) [.int j,.int i]) (.int i) true
structure Cfg.OK (C:Cfg):Prop where
 m1:1≤C.m
 m4:C.m≤4
 nn:∀i j,i<C.m→j<C.m→C.N i=C.N j→i=j
 kk:∀i j,i<C.m→j<C.m→C.K i=C.K j→i=j
 nk:∀i j,i<C.m→j<C.m→C.N i≠C.K j
 part:∀j,j<C.m→sS j (C.part j) (C.iV j) (C.cl j)
namespace Cfg
variable (C:Cfg)
noncomputable def uP:Nd:=.call (.glob 2) ((List.range C.m).map fun j=>.loc (C.N j))
noncomputable def uQ:List Nd:=(List.range C.m).map fun j=>.aP (C.N j) (.int (100+C.N j))
noncomputable def sets:List Nd:=(List.range C.m).map fun j=>.aP (C.N j) (.loc (C.K j))
noncomputable def tail:List Nd:=C.uP::C.uQ
noncomputable def found:Nat→List Nd
 |0=>(C.sets++C.tail)++[.int 5]
 |i+1=>[.call (.lam (C.lb (C.m-1-i)) [C.K (C.m-1-i)] (.seq (.aP (C.N (C.m-1-i)) (.loc (C.K (C.m-1-i)))::found i))) [C.part (C.m-1-i)]]
noncomputable def sU(i:Nat):Nd:=.seq (.aP (C.N (C.m-1-i)) (.loc (C.K (C.m-1-i)))::C.found i)
noncomputable def uR(i:Nat):Nd:=.lam (C.lb (C.m-1-i)) [C.K (C.m-1-i)] (C.sU i)
noncomputable def nest(i:Nat):Nd:=.call (C.uR i) [C.part (C.m-1-i)]
noncomputable def fr(i:Nat)(ρ:bH):List bG:=[.call [C.uR i,C.part (C.m-1-i)] [.di [C.K (C.m-1-i)] (C.sU i) ρ] ρ]
end Cfg
noncomputable def Ext(m:Nat)(σ σ':List AV):Prop:=σ.length≤σ'.length∧∀c x,m≤c→σ[c]? =some x→σ'[c]? =some x
theorem Ext.refl{m:Nat}{σ:List AV}:Ext m σ σ:=⟨bl,fun _ _ _ h=>h⟩
theorem Ext.trans{m:Nat}{σ σ' EW:List AV}(a:Ext m σ σ')(b:Ext m σ' EW):Ext m σ EW:=⟨aq a.1 b.1,fun c x h e=>b.2 c x h (a.2 c x h e)⟩
theorem Ext.set{m:Nat}{σ:List AV}{c:Nat}{v:AV}(h:c<m):Ext m σ (σ.set c v):=⟨by simp,fun d x hd e=>by rw[List.getElem?_set_ne (oM (oJ hd h))];exact e⟩
theorem Ext.push{m:Nat}{σ:List AV}{v:AV}:Ext m σ (σ++[v]):=⟨by simp,fun d x hd e=>by rw[dm (fN e).1];exact e⟩
structure jh (C:Cfg) (p:Nat) (ρ:bH) (σ:List AV) (pre:List Sh):Prop where
 n:∀j,j<C.m→look ρ (C.N j)=some j
 k:∀j,j<p→∃c x s,look ρ (C.K j)=some c∧C.m≤c∧σ[c]? =some x∧x.sh=some s∧pre[j]? =some s
 len:ρ.length≤C.m+p
 sl:C.m≤σ.length
 pl:pre.length=p
theorem jh.mono{C:Cfg}{p:Nat}{ρ:bH}{σ σ':List AV}{pre:List Sh}(E:jh C p ρ σ pre)(x:Ext C.m σ σ'):jh C p ρ σ' pre:=
 ⟨E.n,fun j hj=>by
  ac_rfl
  obtain⟨c,u,s,h1,h2,h3,h4,h5⟩:=E.k j hj
  exact⟨c,u,s,h1,h2,x.2 c u h2 h3,h4,h5⟩,E.len,aq E.sl x.1,E.pl⟩
theorem jh.push{C:Cfg}(O:C.OK){p:Nat}{ρ:bH}{σ:List AV}{pre:List Sh}(E:jh C p ρ σ pre){v:AV}{s:Sh}(hv:v.sh=some s)(hp:p<C.m):jh C (p+1) (cI ρ (C.K p) σ.length) (σ++[v]) (pre++[s]):=by
 refine⟨fun j hj=>by rw[uM,if_neg (O.nk j p hj hp)];exact E.n j hj,fun j hj=>?_,by have:=EX ρ (C.K p) σ.length;have:=E.len;lia,by have:=E.sl;simp;exact oE this,by simp[E.pl]⟩
 by_cases e:j=p
 ·subst e
  refine⟨σ.length,v,s,by rw[uM,if_pos rfl],E.sl,by simp,hv,by rw[←E.pl];simp⟩
 ·ac_rfl
  obtain⟨c,u,s',h1,h2,h3,h4,h5⟩:=E.k j (by lia)
  refine⟨c,u,s',?_,h2,Ext.push.2 c u h2 h3,h4,?_⟩
  ·rw[uM,if_neg (fun q=>e (O.kk j p (oJ (oi hp) hj) hp q))];exact h1
  ·rw[dm (by rw[E.pl];lia)];exact h5
noncomputable def qS(σ:List AV)(dl:List Sh)(j:Nat):Prop:=∃x s,σ[j]? =some x∧x.sh=some s∧dl[j]? =some s
section
variable {C:Cfg}{ρ:bH}{dl:List Sh}
theorem EY(O:C.OK){s:List (List Sh)}(hs:s.length≤400):∀(l:List Nat)(σ:List AV),(∀j∈l,j<C.m)→jh C C.m ρ σ dl→∃σ',jM ρ (l.map fun j=>.aP (C.N j) (.loc (C.K j))) σ s σ' s∧Ext C.m σ σ'∧(∀j,j∈l∨qS σ dl j→qS σ' dl j)
 | [],σ,_,E=>⟨σ,.nil,.refl,fun j h=>by simpa using h⟩
 |i::l,σ,hl,E=>by
  have hi:i<C.m:=hl i (by simp)
  ac_rfl
  obtain⟨c,x,sx,h1,h2,h3,h4,h5⟩:=E.k i hi
  have e1:Ext C.m σ (σ.set i x):=.set hi
  obtain⟨σ',q1,q2,q3⟩:=EY O hs l (σ.set i x) (fun j hj=>hl j (by simp[hj])) (E.mono e1)
  have li:i<σ.length:=aJ hi E.sl
  refine⟨σ',.cons (evSet (E.n i hi) li (A3 h1 h3)) hs q1,e1.trans q2,fun j h=>q3 j ?_⟩
  by_cases e:j=i
  ·subst e
   exact .inr ⟨x,sx,by simp[li],h4,h5⟩
  ·rcases h with h|⟨y,sy,a1,a2,a3⟩
   ·rcases mC h with h|h
    ·exact absurd h e
    ·exact .inl h
   ·exact .inr ⟨y,sy,by rw[List.getElem?_set_ne (by exact(Ne.symm e))];exact a1,a2,a3⟩
theorem EZ(hn:∀j,j<C.m→look ρ (C.N j)=some j){s:List (List Sh)}(hs:s.length≤400):∀(l:List Nat)(σ:List AV),(∀j∈l,j<C.m)→C.m≤σ.length→∃σ',jM ρ (l.map fun j=>.aP (C.N j) (.int (100+C.N j))) σ s σ' s∧Ext C.m σ σ'
 | [],σ,_,_=>⟨σ,.nil,.refl⟩
 |i::l,σ,hl,hσ=>by
  have hi:i<C.m:=hl i (by simp)
  have e1:Ext C.m σ (σ.set i (.int (100+C.N i))):=.set hi
  obtain⟨σ',q1,q2⟩:=EZ hn hs l (σ.set i (.int (100+C.N i))) (fun j hj=>hl j (by simp[hj])) (by simpa using hσ)
  exact⟨σ',.cons (evSet (hn i hi) (oJ hσ hi) (qR ρ _ σ)) hs q1,e1.trans q2⟩
theorem NT(hn:∀j,j<C.m→look ρ (C.N j)=some j)(h1:1≤C.m){σ:List AV}{s:List (List Sh)}(hl:dl.length=C.m)(hd:∀j,j<C.m→qS σ dl j):A2 ρ C.uP σ s σ (s++[dl]):=by
 intro fs k b1 b2 b3
 have hl2:∀j,j<C.m→∃x,σ[j]? =some x:=fun j hj=>by
  ac_rfl
  obtain⟨x,_,e,_⟩:=hd j hj
  exact⟨x,e⟩
 let xs:List Nd:=(List.range C.m).map fun j=>.loc (C.N j)
 let vs:List AV:=(List.range C.m).map fun j=>(σ[j]?).getD .aS
 have hg:∀j,j<C.m→σ[j]? =some ((σ[j]?).getD .aS):=fun j hj=>by
  obtain⟨x,e⟩:=hl2 j hj
  rw[e];rfl
 have rg:∀{j i:Nat},(List.range C.m)[j]? =some i→i=j∧i<C.m:=fun{j i} h=>by
  obtain⟨h1,h2⟩:=fN h
  rw[List.getElem_range]at h2
  exact⟨h2.symm,h2▸(by simpa using h1)⟩
 ac_rfl
 obtain⟨gs',v',e1,e2,g⟩:=uN (is:=.glob 2::xs) (ρ:=ρ) (σ:=σ) (fs:=fs) (k:=k) (s:=s) (by left) b2 b3 xs vs [] (.glob 2) (by simp[xs,vs]) (fun j x u a b=>by
  simp only[xs,vs,List.getElem?_map,Option.map_eq_some_iff]at a b
  ac_rfl
  obtain⟨j1,a1,rfl⟩:=a
  obtain⟨j2,a2,rfl⟩:=b
  obtain⟨r1,r2⟩:=rg a1
  obtain⟨r3,r4⟩:=rg a2
  subst r1;subst r3
  exact A3 (hn _ r2) (hg _ r2)) rfl (by simp)
 have hsh:nj vs=some dl:=EV (by simp[vs,hl]) (fun j v sx a b=>by
  simp only[vs,List.getElem?_map,Option.map_eq_some_iff]at a
  obtain⟨j1,a1,rfl⟩:=a
  obtain⟨r1,r2⟩:=rg a1
  subst r1
  obtain⟨x,s',q1,q2,q3⟩:=hd _ r2
  rw[q3]at b
  rw[q1,←bV b];exact q2)
 ac_rfl
 obtain⟨u,us,hvs⟩:∃u us,vs=u::us:=by
  cases hv:vs with
  |nil=>
   have:=congrArg List.length hv
   simp[vs]at this
   lia
  |cons u us=>exact⟨u,us,rfl⟩
 refine⟨.int 0,.step (cM (by left) b2 b3) (S':=⟨.ev (.glob 2) ρ,.call (.glob 2::xs) [] ρ::fs,σ,k,s⟩) rfl (.step (cM (by simp;left) b2 b3) (S':=⟨.val (.glob 2),.call (.glob 2::xs) [] ρ::fs,σ,k,s⟩) rfl (g.trans (.one (cM (by simp;left) b2 b3) ?_)))⟩
 rw[uO e2,e1,List.nil_append,List.singleton_append,hvs]
 show((nj (u::us)).map _)=_
 rw[←hvs,hsh]
 rfl
theorem A6(O:C.OK)(hn:∀j,j<C.m→look ρ (C.N j)=some j){σ:List AV}{s:List (List Sh)}(hs:s.length≤399)(hl:dl.length=C.m)(hd:∀j,j<C.m→qS σ dl j)(hσ:C.m≤σ.length):∃σ',jM ρ C.tail σ s σ' (s++[dl])∧Ext C.m σ σ':=by
 ac_rfl
 obtain⟨σ',q1,q2⟩:=EZ (C:=C) hn (s:=s++[dl]) (by simp;left) (List.range C.m) σ (fun j hj=>List.mem_range.mp hj) hσ
 exact⟨σ',.cons (NT hn O.m1 hl hd) (by simp;left) q1,q2⟩
end
noncomputable def jN(C:Cfg)(σ:List AV)(kept:List (Int×List bG))(ah:Nat→List Sh):Prop:=∀a fs,(a,fs)∈kept→∃j:Nat,a=(j:Int)∧j<C.m∧∃ρ,jh C j ρ σ (ah j)∧fs=C.fr (C.m-1-j) ρ
noncomputable def bE(C:Cfg)(p:Nat):List Int:=((List.range p).filter C.cl).map fun(j:Nat)=>(j:Int)
noncomputable def iW(C:Cfg)(p:Nat)(ks:List Int):Prop:=ks=bE C p∨ks=bE C C.m
theorem jN.mono{C:Cfg}{σ σ':List AV}{kept:List (Int×List bG)}{ah:Nat→List Sh}(h:jN C σ kept ah)(x:Ext C.m σ σ'):jN C σ' kept ah:=fun a fs hm=>by
 ac_rfl
 obtain⟨j,e,hj,ρ,E,hf⟩:=h a fs hm
 exact⟨j,e,hj,ρ,E.mono x,hf⟩
theorem uS{C:Cfg}{p j:Nat}:(j:Int)∈bE C p↔j<p∧C.cl j=true:=by
 simp only[bE,List.mem_map,List.mem_filter,List.mem_range]
 constructor
 ·rintro⟨i,⟨h1,h2⟩,e⟩
  have:i=j:=by lia
  exact this▸⟨h1,h2⟩
 ·rintro⟨h1,h2⟩;exact⟨j,⟨h1,h2⟩,rfl⟩
theorem E0{C:Cfg}{p:Nat}:bE C (p+1)=if C.cl p then bE C p++[(p:Int)]else bE C p:=by
 unfold bE
 rw[List.range_succ,List.filter_append]
 by_cases h:C.cl p=true
 ·simp[h]
 ·simp[h]
theorem iW.mem{C:Cfg}{p:Nat}{ks:List Int}(h:iW C p ks)(hp:p≤C.m){j:Nat}(hj:(j:Int)∈ks):j<C.m∧C.cl j=true:=by
 rcases h with rfl|rfl
 ·obtain⟨a,b⟩:=uS.mp hj
  exact⟨oJ hp a,b⟩
 ·exact uS.mp hj
theorem qT(C:Cfg)(p:Nat):(bE C p).length≤p:=by
 unfold bE
 rw[List.length_map]
 exact aq (List.length_filter_le _ _) (by simp)
theorem iW.len{C:Cfg}{p:Nat}{ks:List Int}(h:iW C p ks)(hp:p≤C.m):ks.length≤C.m:=by
 rcases h with rfl|rfl
 ·exact aq (qT C p) hp
 ·exact qT C C.m
theorem iW.step{C:Cfg}{p:Nat}{ks:List Int}(h:iW C p ks)(hp:p<C.m):(C.cl p=false→iW C (p+1) ks)∧(C.cl p=true→iW C (p+1) (if(p:Int)∈ks then ks else ks++[(p:Int)])):=by
 constructor
 ·intro hc
  rcases h with rfl|rfl
  ·left;rw[E0,hc];rfl
  ·exact .inr rfl
 ·intro hc
  rcases h with rfl|rfl
  ·rw[if_neg (fun q=>by have:=(uS.mp q).1;exact by exact #[0x11100c41111,p] this)]
   left;rw[E0,hc];rfl
  ·rw[if_pos (uS.mpr ⟨hp,hc⟩)];exact .inr rfl
noncomputable def After(C:Cfg)(S:MS)(σ:List AV)(s:List (List Sh))(dl:List Sh)(xT:Nat→List Sh):Prop:=
 ∃σ' kept',Go S ⟨.val (.int 5),[],σ',kept',s++[dl]⟩∧Ext C.m σ σ'∧jN C σ' kept' xT∧iW C C.m (kept'.map (·.1))
noncomputable def xU(C:Cfg)(i:Nat):Prop:=∀ρ σ pre v sv kept s ah,jh C (C.m-1-i) ρ σ pre→v.sh=some sv→jN C σ kept ah→iW C (C.m-1-i+1) (kept.map (·.1))→s.length≤399→
 ∀dl,dl=pre++[sv]++(List.range' (C.m-i) i).map C.iV→After C ⟨.val v,C.fr i ρ,σ,kept,s⟩ σ s dl (fun j=>if C.m-1-i<j then dl.take j else ah j)
noncomputable def A7(C:Cfg)(i:Nat):Prop:=∀ρ σ pre kept s ah,jh C (C.m-1-i) ρ σ pre→jN C σ kept ah→iW C (C.m-1-i) (kept.map (·.1))→s.length≤399→
 ∀dl,dl=pre++(List.range' (C.m-1-i) (i+1)).map C.iV→After C ⟨.ev (C.nest i) ρ,[],σ,kept,s⟩ σ s dl (fun j=>if C.m-1-i≤j then dl.take j else ah j)
section
variable [Zero Heap]
section
variable {A:Around}{h₀ h h' h₁:Heap}{mods:List Addr}{s:Sg}
theorem At.pR(H:At A h₀ mods h₁ s h){a:Nat}(k:Kp [a] h h')(ha:a∈mods)(hn:a∉s.mu.map (·.1))(hl:a<⇑h₁):Rep s.V h₀ mods h' (fc s.r) ⇑h':=
 H.rep.other k (by k_in) (fun p hp q=>H.dI hn hl (by rw[←mS q];exact List.mem_map_of_mem hp))
end
inductive qI (at_ l:Int):Nd→Sh→Int→Prop
 |int (i:Int):qI at_ l (.int i) (.int i) l
 |lam (i:Int):qI at_ l (.lam (l+1) [] (.int i)) .proc (l+1)
 |call (i:Int):qI at_ l (.call (.glob 1) [.int at_,.int i]) (.int i) l
section
variable {J:WX}{A:Around}{R:RR}{h:Heap}{tk:Nat}{D:List Addr}
theorem Mj{c:Wc}{W_ wd dk ta:Nat}{l at_:Int}(RA:aa A 60)(TT:aE J.P h)(hd:cZ h dk)(hW:h.get? W_=some (ins 464 wd))(ck:cP J.P h c wd l)(g1:534≤dk)(g2:534≤wd)(n1:W_≠dk)(n2:W_≠wd)(n3:dk≠wd)(hD:∀x∈D,x<⇑h)
 (H:∀h' tk' (q a:Nat) y nd s l',Kp [dk,wd] h h'→cZ h' dk→cP J.P h' c wd l'→⇑h≤q→q+1=⇑h'→view D h' q (tup [.ref a,y])→aM J.P (view D h') nd a→jE s y→qI at_ l nd s l'→R (rt (.ref q)) (J.S h' tk')):
 codeAny J.M A (aK 520 [.ref dk,.ref W_,.int at_ ta]) R (J.S h tk):=by
 obtain⟨tl,ck⟩:=ck
 have aA:dk<⇑h:=by obtain⟨ys,e,ns,e1,_⟩:=hd;exact aj e1
 have B:=aG (prog:=pw) (w:=J.W) (mods:=[dk,wd]) TT bB (ro:=[(W_,_)]) (rC hW au rN)
 have D0:=Az (V:=⟨pw,J.W,kt J.P,[(W_,ins 464 wd)]⟩) (h:=h) (mods:=[dk,wd]) (mu:=[(wd,mO J.P c l tl)]) (c_ ck iU) (by simp) (c_ (kMi 1 rfl) iU)
 let vv:Vv:=gn dk W_ wd ta c.TB c.TT c.OP c.w1 c.w2 c.w3 c.w4 c.w5 tl c.ew ⇑h tk 0 at_ l .none .none [] [] []
 refine uc.b0 vv (RA.less rfl) B D0 (fun h1 aB H1=>.code (pQ (aa.up H1.k RA rfl) (TT.kp H1.kp bB) ?_ g1 (by lia) (by lia) fun h2 ao f t K2 hd2 f0 f4=>?_))
 ·refine hd.kp H1.seg ak
 have R2:=H1.pR K2 (by k_in) ak aA
 have nn:=H1.dI (a:=dk) ak aA
 have l1:dk<⇑h2:=aJ aA (aq H1.kp.size K2.size)
 have fin:∀{h3 h4 h5:Heap}{m3:List Addr},Kp [dk,wd] h h3→Kp [dk] h3 h4→Kp [dk,wd] h4 h5→Kp [dk,wd] h h5:=fun a b c=>(a.trans (b.more (by k_in))).trans c
 have hv:∀{n:Nat}{h5:Heap}{c:Nat}{o:Obj},⇑h≤n→n≤c→h5.get? c=some o→view D h5 c o:=fun a hc e=>iI hD (aq a hc) e
 by_cases f1:f=0
 ·subst f1
  refine CI.b1 (v:=gn dk W_ wd ta c.TB c.TT c.OP c.w1 c.w2 c.w3 c.w4 c.w5 tl c.ew ⇑h tk 0 at_ l .none .none [] [] []) (RA.less rfl) B H1.k R2 (fun h3 az H3=>.code (pQ (aa.up H3.k RA rfl) (TT.kp H3.kp bB) (hd2.kp H3.seg nn) g1 (by lia) (by lia) fun h4 av y t4 K4 mU y0 y9=>?_))
  have n4:⇑h≤⇑h4:=aq H3.kp.size K4.size
  refine CI.b2 (RA.less rfl) B H3.k (H3.pR K4 (by k_in) nn l1) (fun h5 aY H5=>?_)
  have X6:=H5.dI (a:=dk) (H3.dI nn l1) (aJ l1 (aq H3.seg.size K4.size))
  exact H h5 _ _ _ _ _ _ _ H5.kp (mU.kp H5.seg (H3.dI nn l1)) ⟨_,H5.get 0 rfl⟩ (aq n4 (br)) H5.size.symm (hv n4 (br) (H5.get 3 rfl)) (.int (hv n4 (br) (H5.get 2 rfl)) (hv n4 (br) (H5.get 1 rfl))) .int (.int _)
 by_cases yx:f=1
 ·subst yx
  refine CJ.b1 (v:=gn dk W_ wd ta c.TB c.TT c.OP c.w1 c.w2 c.w3 c.w4 c.w5 tl c.ew ⇑h tk 0 at_ l .none .none [] [] []) (RA.less rfl) B H1.k R2 (fun h3 az H3=>.code (pQ (aa.up H3.k RA rfl) (TT.kp H3.kp bB) (hd2.kp H3.seg nn) g1 (by lia) (by lia) fun h4 av y t4 K4 mU y0 y9=>?_))
  have n4:⇑h≤⇑h4:=aq H3.kp.size K4.size
  refine CJ.b2 (RA.less rfl) B H3.k (H3.pR K4 (by k_in) nn l1) (fun h5 aY H5=>?_)
  exact H h5 _ _ _ _ _ _ _ H5.kp (mU.kp H5.seg (H3.dI nn l1)) ⟨_,H5.get 0 rfl⟩ (aq n4 (br)) H5.size.symm (hv n4 (br) (H5.get 6 rfl))
   (.lam (xs:=[]) (hv n4 (br) (H5.get 5 rfl)) (hv n4 (br) (H5.get 4 rfl)) (hv n4 (br) (H5.get 1 rfl)) rfl (.int (hv n4 (br) (H5.get 3 rfl)) (hv n4 (br) (H5.get 2 rfl)))) .proc (.lam _)
 ·refine uc.b1 (v:=gn dk W_ wd ta c.TB c.TT c.OP c.w1 c.w2 c.w3 c.w4 c.w5 tl c.ew ⇑h tk 0 at_ l .none .none [] [] []) (RA.less rfl) B H1.k R2 (fun h3 az H3=>.code (pQ (aa.up H3.k RA rfl) (TT.kp H3.kp bB) (hd2.kp H3.seg nn) g1 (by lia) (by lia) fun h4 av y t4 K4 mU y0 y9=>?_))
  have n4:⇑h≤⇑h4:=aq H3.kp.size K4.size
  have m4:=H3.dI nn l1
  have l4:dk<⇑h4:=aJ l1 (aq H3.seg.size K4.size)
  refine uc.b2 (RA.less rfl) B H3.k (H3.pR K4 (by k_in) nn l1) (fun h5 aY H5=>.code (vY f1 ?_))
  have m5:=H5.dI m4 l4
  refine uc.b3 (RA.less rfl) B H5.k H5.rep (fun h6 gG H6=>.code (vY yx ?_))
  refine uc.b4 (RA.less rfl) B H6.k H6.rep (fun h7 d_ H7=>?_)
  have m6:=H6.dI m5 (aJ l4 H5.seg.size)
  refine H h7 _ _ _ _ _ _ _ H7.kp (((mU.kp H5.seg m4).kp H6.seg m5).kp H7.seg m6) ⟨_,H7.get 0 rfl⟩ (aq n4 (br)) H7.size.symm (hv n4 (br) (H7.get 10 rfl)) ?_ .int (.call _)
  refine aQ.call (ls:=[_,_]) (.cons (.int (hv n4 (br) (H7.get 4 rfl)) (hv n4 (br) (H7.get 3 rfl))) (.one (.int (hv n4 (br) (H7.get 6 rfl)) (hv n4 (br) (H7.get 5 rfl))))) (hv n4 (br) (H7.get 9 rfl)) (hv n4 (br) (H7.get 8 rfl)) (.glob (hv n4 (br) (H7.get 2 rfl)) (hv n4 (br) (H7.get 1 rfl))) (hv n4 (br) (H7.get 7 rfl)) (oz rfl)
end
end
section
variable [Zero Heap]
inductive j_ (l:Int):List (Nd×Sh)→Int→Prop
 |nil:j_ l [] l
 |snoc {ps l1 nd s l2}:j_ l ps l1→qI (ps.length:Nat) l1 nd s l2→j_ l (ps++[(nd,s)]) l2
section
variable {A:Around}{h₀ h h' h₁:Heap}{mods:List Addr}{s:Sg}
theorem At.Eh(H:At A h₀ mods h₁ s h){a b:Nat}(k:Kp [a,b] h h')(ha:a∈mods)(hb:b∈mods)(hn:a∉s.mu.map (·.1))(hn2:b∉s.mu.map (·.1))(hl:a<⇑h₁)(hl2:b<⇑h₁):Rep s.V h₀ mods h' (fc s.r) ⇑h':=
 H.rep.other k (by k_in) (fun p hp q=>by
  have Ei:=List.mem_map_of_mem (f:=(·.1)) hp
  rcases mC q with q|q
  ·exact H.dI hn hl (q▸Ei)
  ·exact H.dI hn2 hl2 (mS q▸Ei))
end
section
variable {J:WX}{A:Around}{R:RR}{h:Heap}{tk:Nat}{it acc L fr:Nat}{D:List Addr}
theorem Mf{c:Wc}{n cw cd W_ wd dk ea le N:Nat}{l:Int}(RA:aa A 80)(hn:n≤10)(nd:([it,acc,L,wd,dk]:List Nat).Nodup)(n1:cw∉[it,acc,L,wd,dk])(n2:W_∉[it,acc,L,wd,dk])(n3:cd∉[it,acc,L,wd,dk])(gi:∀a∈([it,acc,L,wd,dk]:List Nat),534≤a)
 (hN:N≤⇑h) (hD:∀x∈D,x<N) (dM:∀a∈([it,acc,L,wd,dk]:List Nat),a∈D)
 (TT:aE J.P h) (hI:IsRangeIter h it (0:Nat) n 1) (hT:Tl [it] h) (ha:h.get? acc=some (lst [] ea)) (hL:h.get? L=some (dct [] le)) (hcw:h.get? cw=some (bL (.ref W_))) (hW:h.get? W_=some (ins 464 wd)) (hcd:h.get? cd=some (bL (.ref dk))) (ck:cP J.P h c wd l) (bY:cZ h dk)
 (H:∀h' tk' ys ea' ps l',Kp [it,acc,L,wd,dk] h h'→h'.get? acc=some (lst ys ea')→fW J.P (view D h') ps ys→ps.length=n→j_ l ps l'→cP J.P h' c wd l'→cZ h' dk→bA J.P h' L cE n→R (.ok .next) (J.S h' tk')):
 codeAny J.M A (aT (mR J.P) (bF J.P (mR J.P) [(gz,cw),(qJ,cd)] L fr) it acc) (ay R) (J.S h tk):=by
 have Mg:∀x∈([it]:List Addr),x∈D:=kAc (dM _ (by k_in)) kAn
 have Mh:∀x∈([L,acc,dk,wd]:List Addr),x∈D:=kAc (dM _ (by k_in)) (kAc (dM _ (by k_in)) (kAc (dM _ (by k_in)) (kAc (dM _ (by k_in)) kAn)))
 refine Ax nd fun q1 q2 q3 q4 q5 q6 q7 q8 q9 sD=>?_
 refine sG n1 fun c1 c2 c3 c4 c5=>?_
 refine sG n2 fun d1 d2 d3 d4 d5=>?_
 refine sG n3 fun e1 e2 e3 e4 e5=>?_
 refine Mi gi fun g1 g2 g3 g4 g5=>?_
 refine D8 (cy:=J.P) (n:=n) (M:=[L,dk,wd]) (fun k ys h=>N≤⇑h∧bA J.P h L cE k∧h.get? cw=some (bL (.ref W_))∧h.get? W_=some (ins 464 wd)∧h.get? cd=some (bL (.ref dk))∧cZ h dk∧∃ps l',fW J.P (view D h) ps ys∧ps.length=k∧j_ l ps l'∧cP J.P h c wd l')
  RA.handled ∅ Ay ak d7 (fun k ys h h' x K=>⟨aq x.1 K.size,x.2.1.kp K ak,K.keep _ _ ak x.2.2.1,K.keep _ _ ak x.2.2.2.1,K.keep _ _ ak x.2.2.2.2.1,x.2.2.2.2.2.1.kp K ak,by
   ac_rfl
   obtain⟨ps,l',a,b,c,d⟩:=x.2.2.2.2.2.2
   exact⟨ps,l',a.mono (aO K Mg),b,c,d.kp K ak⟩⟩) ?_ TT hI hT ha
  ⟨hN,.inl ⟨rfl,le,hL⟩,hcw,hW,hcd,bY,[],l,⟨rfl,fun j q v e=>by simp at e⟩,rfl,.nil,ck⟩ (fun h' tk' ys ea' K ha' x=>by
   ac_rfl
   obtain⟨ps,l',a,b,c,d⟩:=x.2.2.2.2.2.2
   exact H h' tk' ys ea' ps l' (K.more (by k_in)) ha' a b c d x.2.2.2.2.2.1 x.2.1)
 intro k h tk x ys ea hk hx TT hT ha hY next
 ac_rfl
 obtain⟨t,rfl⟩:=hx
 obtain⟨hN,hL,hcw,hW,hcd,bY,ps,l',hps,hpk,hpl,ck⟩:=hY
 have hys:ys.length=k:=hps.1.trans hpk
 have aA:dk<⇑h:=by obtain⟨ys,e,ns,e1,_⟩:=bY;exact aj e1
 have aD:wd<⇑h:=by obtain⟨tl,e1⟩:=ck;exact aj e1
 have B:=aG (prog:=pw) (w:=J.W) (mods:=[L,acc,dk,wd]) TT mP (ro:=[(cw,_),(W_,_),(cd,_)]) (rC hcw d7 (rC hW d7 (rC hcd d7 rN)))
 have B2:=aG (prog:=pw) (w:=J.W) (mods:=[L,acc,dk,wd]) TT mP (ro:=[(cw,_),(cd,_)]) (rC hcw d7 (rC hcd d7 rN))
 have RP:∀{o},h.get? L=some o→Rep ⟨pw,J.W,kt J.P,[(cw,bL (.ref W_)),(cd,bL (.ref dk))]⟩ h [L,acc,dk,wd] h [(L,o),(acc,lst ys ea)] ⇑h:=fun{o} e=>Az (fun p hp=>by
  rcases mC hp with hp|hp
  ·rw[hp];exact e
  ·rw[mS hp];exact ha) (by simp;exact fun q=>q5 q.symm) (fun p hp=>by
  rcases mC hp with hp|hp
  ·rw[hp];exact kMi 0 rfl
  ·rw[mS hp];exact kMi 1 rfl)
 have go:∀h4 av aW aU (q a:Nat) y sH s l2,Kp [L,acc,dk,wd] h h4→⇑h≤q→q+1=⇑h4→h4.get? acc=some (lst aW aU)→aW=ys++[.ref q]→bA J.P h4 L cE (k+1)→view D h4 q (tup [.ref a,y])→aM J.P (view D h4) sH a→jE s y→qI k l' sH s l2→cP J.P h4 c wd l2→cZ h4 dk→
  codeAny J.M A (aT (mR J.P) (bF J.P (mR J.P) [(gz,cw),(qJ,cd)] L fr) it acc) (ay R) (J.S h4 av):=by
  intro h4 av aW aU q a y sH s l2 K hq hs cg hy bP hv hnd hsh hpart mT mU
  refine next h4 av _ aU (K.more (by k_in)) (hT.of hq hv.2 hs) cg ⟨aq hN K.size,bP,K.keep _ _ d7 hcw,K.keep _ _ d7 hW,K.keep _ _ d7 hcd,mU,ps++[(sH,s)],l2,?_,by simp[hpk],.snoc hpl (hpk▸hpart),mT⟩
  rw[hy]
  exact(hps.mono (aO K Mh)).snoc hv hnd hsh
 have dN:∀{h2:Heap},⇑h≤⇑h2→∀x∈D,x<⇑h2:=fun a x hx=>aJ (hD x hx) (aq hN a)
 refine hL.iH fun z0 t5 y0 le hLe=>?_
 let vv:Vv:=gn it acc L fr le ea t cw W_ cd dk t5 ⇑h tk 0 0 0 k 0 y0 .none ys [] []
 refine uC.b0 z0 vv rfl (RA.less rfl) B2 (RP hLe) (fun h2 _ H2=>.code (Mj (D:=bZ _++D) (aa.up H2.k RA rfl) (TT.kp H2.kp mP) (bY.kp H2.seg au) (H2.kp.keep _ _ d7 hW) (ck.kp H2.seg au) g5 g4 d5 d4 (Ne.symm sD) (fun x hx=>(mA hx).elim (H2.mlt x) (dN H2.kp.size x)) fun h3 az q a y sH s l2 K3 je AA hq hs hv hnd hsh hpart=>?_))
 refine uC.b1 (b:=⇑h3) (RA.less rfl) B2 H2.k (H2.Eh K3 (by k_in) (by k_in) au au aA aD) (fun h4 _ H4=>.code (dZ (H4.get 0 rfl) (by show ys.length≤1000;left) fun h5 U=>?_))
 have m1:=H2.dI (a:=dk) au aA
 have m2:=H2.dI (a:=wd) au aD
 have Mk:dk<⇑h3:=aJ aA (aq H2.kp.size K3.size)
 have Ml:wd<⇑h3:=aJ aD (aq H2.kp.size K3.size)
 have m3:=H4.dI m1 Mk
 have m4:=H4.dI m2 Ml
 have K5:Kp [acc] h4 h5:=U.kp
 have G4:=fun a o x=>xG (D:=D) H4 a o x
 refine uC.b2 (RA.less rfl) B2 H4.k (H4.rep.upd (H4.bg 0 rfl rfl) U) (fun h6 _ H6=>?_)
 have G6:=fun D a o x=>Ej (D:=D) H6 a o x
 have G:=fun a o z=>jf (D':=D) (fun x hx=>bD (bD (bD hx))) a o (G6 _ a o (Ek U (bD (bD (dM acc (by k_in)))) a o (G4 a o z)))
 rw[uC.k2]
 exact go h6 _ _ _ q a y sH s l2 H6.kp (aq H2.kp.size hq) (by rw[hs];exact H6.size.symm) (H6.get 1 rfl) rfl (.inr ⟨_,_,_,H6.get 0 rfl⟩) (G _ _ hv) (hnd.mono G) hsh hpart (((AA.kp H4.seg m2).kp K5 ak).kp H6.seg (uD m4)) (((je.kp H4.seg m1).kp K5 ak).kp H6.seg (uD m3))
end
end
section
variable [Zero Heap]
section
variable {J:WX}{cy:Params}{A:Around}{R:RR}{e:PySem.Expr}{env:Env}{it acc d ep n:Nat}{M:List Addr}{kvs:List (Int×Value)}
noncomputable abbrev El(kvs:List (Int×Value))(k:Nat)(x:Value)(_:Heap):Prop:=∃q y t,kvs[k]? =some (q,y)∧x=.int q t
theorem Mm(Y:Nat→List Value→Heap→Prop)(hh:A.handled=none)(hn:isName (fO e)=true)(gM:∀a∈[it]++acc::M,534≤a)(na:acc∉[it])(nM:it∉acc::M)(nd:d∉acc::M)(WY:d≠it)
 (Yk:∀k ys h h',Y k ys h→Kp [it] h h'→Y k ys h') (turn:sI J cy A R (aT e env it acc) (fF e env it acc) [it] M acc kvs.length (El kvs) Y)
 {h:Heap} {tk:Nat} {ea:Nat} (TT:aE cy h) (hI:h.IsKeyIter it d 0 kvs.length ep) (hD:h.DictAt (intKind pw J.W) d kvs ep) (hT:Tl [it] h) (ha:h.get? acc=some (lst [] ea)) (hY:Y 0 [] h)
 (H:∀h' tk' ys' ea',Kp ([it]++acc::M) h h'→h'.get? acc=some (lst ys' ea')→Y kvs.length ys' h'→R (.ok .next) (J.S h' tk')):codeAny J.M A (aT e env it acc) (ay R) (J.S h tk):=by
 refine turns (C:=aT e env it acc) (tree:=fF e env it acc) (El kvs) (fun k h=>h.IsKeyIter it d k kvs.length ep∧h.DictAt (intKind pw J.W) d kvs ep) Y gM na (fun k h tk hI hk H=>?_) (fun h tk hI H=>?_) (fun k h h' hI K=>⟨hI.1.at fun o e=>K.keep _ _ nM e,hI.2.at' fun o e=>K.keep _ _ nd e⟩) Yk turn kvs.length 0 (#[0x111111110c020,kvs.length]) h tk [] ea TT ⟨hI,hD⟩ hT ha hY H
 ·refine LI (q:=kvs[k].1) (y:=kvs[k].2) hI.1 hI.2 (by rw[a_ hk]) (lB hn _) fun h1 t a b=>?_
  rw[uE]
  have K:Kp [it] h h1:=.but b
  exact H h1 _ _ ⟨_,_,_,a_ hk,rfl⟩ ⟨a,hI.2.at' fun o e=>K.keep _ _ (by k_in) e⟩ K fun T=>T.same K b.1 (fun c hc hn=>absurd hc hn)
 ·exact LJ hh hI.1 hI.2 (by simp) fun h1 b=>H h1 (qK b (by k_in))
end
noncomputable def xH(V:View)(fs:List Value)(kvs:List (Int×Value))(ys:List Value):Prop:=∀(j:Nat)(kv:Int×Value)(v:Value),kvs[j]? =some kv→ys[j]? =some v→∃p a t e,v=.ref p∧V p (tup [.int kv.1 t,.ref a])∧V a (lst (fs.take kv.1.toNat) e)
section
variable {J:WX}{A:Around}{R:RR}{h:Heap}{tk:Nat}{it acc L fr:Nat}{D:List Addr}
theorem Mn{d ep cf F1 ef N ea le:Nat}{kvs:List (Int×Value)}{fs:List Value}(RA:aa A 30)(hz:kvs.length≤100)(hf:fs.length≤100)(n0:it≠acc)(n1:it≠L)(n2:L≠acc)(n3:d≠it)(n4:d≠acc)(n5:d≠L)(g1:534≤it)(g2:534≤acc)(g3:534≤L)
 (q1:cf≠it) (q2:cf≠acc) (q3:cf≠L) (q4:F1≠it) (q5:F1≠acc) (q6:F1≠L) (hk0:∀kv∈kvs,(0:Int)≤kv.1)
 (hN:N≤⇑h) (hD:∀x∈D,x<N) (d1:it∈D) (d2:acc∈D) (d3:L∈D)
 (TT:aE J.P h) (hI:h.IsKeyIter it d 0 kvs.length ep) (hd:h.DictAt (intKind pw J.W) d kvs ep) (hcf:h.get? cf=some (bL (.ref F1))) (hF:h.get? F1=some (lst fs ef)) (hT:Tl [it] h) (ha:h.get? acc=some (lst [] ea)) (hL:h.get? L=some (dct [] le))
 (H:∀h' tk' ys ea',Kp [it,acc,L] h h'→h'.get? acc=some (lst ys ea')→ys.length=kvs.length→xH (view D h') fs kvs ys→bA J.P h' L cE kvs.length→R (.ok .next) (J.S h' tk')):
 codeAny J.M A (aT (mV J.P) (bF J.P (mV J.P) [(xJ,cf)] L fr) it acc) (ay R) (J.S h tk):=by
 have M1:∀x∈([it]:List Addr),x∈D:=by k_in
 have M2:∀x∈([L,acc]:List Addr),x∈D:=by k_in
 have am:∀{V V':View}{ys},(∀a o,V a o→V' a o)→xH V fs kvs ys→xH V' fs kvs ys:=fun m x j kv v e1 e2=>by
  obtain⟨p,a,t,e,z1,z2,z3⟩:=x j kv v e1 e2
  exact⟨p,a,t,e,z1,m _ _ z2,m _ _ z3⟩
 refine Mm (cy:=J.P) (d:=d) (kvs:=kvs) (M:=[L]) (fun k ys h=>N≤⇑h∧bA J.P h L cE k∧h.get? cf=some (bL (.ref F1))∧h.get? F1=some (lst fs ef)∧ys.length=k∧xH (view D h) fs kvs ys)
  RA.handled ∅ dH ak au au n3 (fun k ys h h' x K=>⟨aq x.1 K.size,x.2.1.kp K ak,K.keep _ _ ak x.2.2.1,K.keep _ _ ak x.2.2.2.1,x.2.2.2.2.1,am (aO K M1) x.2.2.2.2.2⟩) ?_ TT hI hd hT ha
  ⟨hN,.inl ⟨rfl,le,hL⟩,hcf,hF,rfl,fun j kv v _ e=>by simp at e⟩ (fun h' tk' ys ea' K ha' x=>H h' tk' ys ea' K ha' x.2.2.2.2.1 x.2.2.2.2.2 x.2.1)
 intro k h tk x ys ea hk hx TT hT ha hY next
 obtain⟨q,y0,t,hq,rfl⟩:=hx
 obtain⟨hN,hL,hcf,hF,hys,hY⟩:=hY
 obtain⟨b,rfl⟩:=Int.eq_ofNat_of_zero_le (hk0 _ (List.mem_of_getElem? hq))
 have B:=aG (prog:=pw) (w:=J.W) (mods:=[L,acc]) TT bB (ro:=[(cf,_),(F1,_)]) (rC hcf au (rC hF au rN))
 have go:∀h4 av aW aU (p a e t2:Nat),Kp [L,acc] h h4→⇑h≤p→p+1=⇑h4→h4.get? acc=some (lst aW aU)→aW=ys++[.ref p]→bA J.P h4 L cE (k+1)→view D h4 p (tup [.int (b:Int) t2,.ref a])→view D h4 a (lst (fs.take b) e)→
  codeAny J.M A (aT (mV J.P) (bF J.P (mV J.P) [(xJ,cf)] L fr) it acc) (ay R) (J.S h4 av):=by
  intro h4 av aW aU p a e t2 K hp hs cg hy bP v1 v2
  refine next h4 av _ aU (K.more (by k_in)) (hT.of hp v1.2 hs) cg ⟨aq hN K.size,bP,K.keep _ _ au hcf,K.keep _ _ au hF,by rw[hy];simp[hys],?_⟩
  intro j kv v e1 e2
  rw[hy]at e2
  by_cases hj:j<ys.length
  ·rw[dm hj]at e2
   exact am (aO K M2) hY j kv v e1 e2
  ·rw[eY (by left)]at e2
   cases hjk:j-ys.length with
   |zero=>
    rw[hjk]at e2
    obtain rfl:j=k:=#[0x11000011081100100182132314020c423102124,ys.length,k,j,j-ys.length] hys (Nat.le_of_not_lt hj) hjk (Nat.sub_add_cancel (#[0x111211201201,j,ys.length] (Nat.le_of_not_lt hj)))
    rw[hq]at e1
    obtain rfl:=bV e1
    obtain rfl:Value.ref p=v:=by simpa using e2
    exact⟨p,a,t2,e,rfl,v1,v2⟩
   |succ i=>rw[hjk]at e2;simp at e2
 refine hL.iH fun z0 t5 y5 le hLe=>?_
 let vv:Vv:=mQ it acc L fr le ea t cf F1 ef t5 ⇑h tk 0 b y5 ys fs
 refine uF.b0 z0 vv rfl (RA.less rfl) B (cj hLe ha n2) (fun h2 _ H2=>.code (mW (H2.kp.keep _ _ au hF) (H2.get 0 rfl) (by left) fun h3 U3=>?_))
 refine uF.b1 (b:=⇑h3) (RA.less rfl) B H2.k (H2.rep.grow U3.kp) (fun h4 _ H4=>.code (dZ (H4.get 0 rfl) (by show ys.length≤1000;left) fun h5 U=>?_))
 refine uF.b2 (RA.less rfl) B H4.k (H4.rep.upd (H4.bg 0 rfl rfl) U) (fun h6 _ H6=>?_)
 have Em:⇑h≤⇑h3:=aq H2.kp.size U3.kp.size
 have v3:view (bZ _++D) h3 _ _:=⟨fun q=>by
  rcases mA q with q|q
  ·exact Nat.lt_irrefl _ (H2.mlt _ q)
  ·exact Nat.lt_irrefl _ (aJ (hD _ q) (aq hN H2.kp.size)),U3.at_⟩
 have v4:=xG (D:=D) H4 _ _ v3
 have v6:=Ej H6 _ _ (Ek U (bD (bD d2)) _ _ v4)
 rw[uF.k2]
 exact go h6 _ _ _ _ _ _ _ H6.kp Em H6.size.symm (H6.get 1 rfl) rfl (.inr ⟨_,_,_,H6.get 0 rfl⟩) (iI hD (aq hN Em) (H6.get 2 rfl)) (jf (fun x hx=>bD (bD (bD hx))) _ _ v6)
theorem Mp{G ea le eg:Nat}{gs:List Value}{ns:List Int}(RA:aa A 30)(hz:gs.length≤100)(n0:it≠acc)(n1:it≠L)(n2:L≠acc)(n3:G≠it)(n4:G≠acc)(n5:G≠L)(g1:534≤it)(g2:534≤acc)(g3:534≤L)
 (TT:aE J.P h) (hI:h.IsListIter it G 0) (hG:h.get? G=some (lst gs eg)) (hgs:IntsAre gs ns) (hT:Tl [it] h) (ha:h.get? acc=some (lst [] ea)) (hL:h.get? L=some (dct [] le))
 (H:∀h' tk' ys ea' ms,Kp [it,acc,L] h h'→h'.get? acc=some (lst ys ea')→IntsAre ys ms→ys.length=gs.length→bA J.P h' L sJ gs.length→R (.ok .next) (J.S h' tk')):
 codeAny J.M A (aT (pG J.P) (qL J.P L fr) it acc) (ay R) (J.S h tk):=by
 refine pD (cy:=J.P) (G:=G) (gs:=gs) (M:=[L]) (fun k ys h=>bA J.P h L sJ k∧ys.length=k∧∃ms,IntsAre ys ms)
  RA.handled ∅ dH ak au au (fun k ys h h' x K=>⟨x.1.kp K ak,x.2⟩) ?_ TT hI hG n3 hT ha
  ⟨.inl ⟨rfl,le,hL⟩,rfl,[],.nil⟩ (fun h' tk' ys ea' K ha' x=>by
   obtain⟨ms,z⟩:=x.2.2
   exact H h' tk' ys ea' ms K ha' z x.2.1 x.1)
 intro k h tk x ys ea hk hx TT hT ha hY next
 obtain⟨i,t,rfl,hi⟩:=pC hgs hx
 obtain⟨hL,hys,ms,hm⟩:=hY
 have B:=aG (prog:=pw) (w:=J.W) (mods:=[L,acc]) TT bB (ro:=[]) trivial
 have go:∀h4 av aW aU,Kp [L,acc] h h4→⇑h4=⇑h→(∃o,h4.get? L=some o)→h4.get? acc=some (lst aW aU)→(∃i t,aW=ys++[.int i t])→bA J.P h4 L sJ (k+1)→codeAny J.M A (aT (pG J.P) (qL J.P L fr) it acc) (ay R) (J.S h4 av):=by
  intro h4 av aW aU K hs hl cg hy bP
  obtain⟨i,t,rfl⟩:=hy
  refine next h4 av _ aU (K.more (by k_in)) (hT.same K hs fun c hc _=>?_) cg ⟨bP,by simp[hys],_,uy hm i t⟩
  rcases mC hc with e|e
  ·rw[e];exact hl
  ·rw[mS e];exact⟨_,cg⟩
 refine hL.iH fun z0 t5 y0 le hLe=>?_
 let vv:Vv:=gm it acc L fr le ea t t5 ⇑h tk 0 0 i y0 ys []
 refine sL.b0 z0 vv rfl (RA.less rfl) B (cj hLe ha n2) (fun h2 _ H2=>.call (Mq fun u tk'=>?_))
 refine sL.b1 (RA.less rfl) B H2.k H2.rep (fun h3 _ H3=>.call (En (by decide) fun u tk'=>?_))
 refine sL.b2 (RA.less rfl) B H3.k H3.rep (fun h4 _ H4=>.code (dZ (H4.get 0 rfl) (by show ys.length≤1000;left) fun h5 U=>?_))
 refine sL.b3 (RA.less rfl) B H4.k (H4.rep.upd (H4.bg 0 rfl rfl) U) (fun h6 _ H6=>?_)
 rw[sL.k3]
 exact go h6 _ _ _ H6.kp H6.size ⟨_,H6.get 0 rfl⟩ (H6.get 1 rfl) ⟨_,_,rfl⟩ (.inr ⟨_,_,_,H6.get 0 rfl⟩)
end
end
section
variable [Zero Heap]
section
variable {J:WX}{A:Around}{R:RR}{h:Heap}{tk:Nat}
theorem Dk{p e:Nat}{vs:List Value}(RA:aa A 30)(TT:aE J.P h)(hp:h.get? p=some (lst vs e))(h2:2≤vs.length)(hz:vs.length≤1000)
 (H:∀h' tk' a d t ed,Kp [] h h'→⇑h≤a→⇑h≤d→h'.get? a=some (ins 250 d)→h'.get? d=some (dct [ent J.P p_ t (.ref p)] ed)→R (rt (.ref a)) (J.S h' tk')):
 codeAny J.M A (aK 367 [.ref p]) R (J.S h tk):=by
 have B:=aG (prog:=pw) (w:=J.W) (mods:=[]) TT (by k_in) (ro:=[]) trivial
 let vv:Vv:=dj p ⇑h tk 0 0 0 0 0 0 0 [] []
 refine y_.b0 vv (RA.less rfl) B fG (fun h1 aB H1=>.code (g8 (H1.kp.keep _ _ (by k_in) hp) hz fun tm ur=>?_))
 refine y_.b1 (RA.less rfl) B H1.k H1.rep (fun h3 az H3=>.code (vY (by lia) ?_))
 refine y_.b2 (RA.less rfl) B H3.k H3.rep (fun h5 aY H5=>?_)
 exact H h5 _ _ _ _ _ H5.kp (br) (br) (H5.get 1 rfl) (H5.get 0 rfl)
theorem VE{p e x:Nat}(RA:aa A 30)(TT:aE J.P h)(hp:h.get? p=some (lst [.ref x] e))
 (H:∀h' tk',Kp [] h h'→R (rt (.ref x)) (J.S h' tk')):
 codeAny J.M A (aK 367 [.ref p]) R (J.S h tk):=by
 have B:=aG (prog:=pw) (w:=J.W) (mods:=[]) TT (by k_in) (ro:=[(p,lst [.ref x] e)]) (rC hp (by k_in) rN)
 let vv:Vv:=dj p x e ⇑h tk 0 0 0 0 0 [] []
 refine vW.b0 vv (RA.less rfl) B fG (fun h1 aB H1=>.code (g8 (H1.kp.keep _ _ (by k_in) hp) (oz rfl) fun tm ur=>?_))
 refine vW.b1 (RA.less rfl) B H1.k H1.rep (fun h3 az H3=>.code (CO rfl ?_))
 refine vW.b2 (RA.less rfl) B H3.k H3.rep (fun h5 aY H5=>.code (iJ (x:=.ref x) (H5.kp.keep _ _ (by k_in) hp) (Int.le_refl 0) (oz rfl) rfl ?_))
 refine vW.b3 (RA.less rfl) B H5.k H5.rep (fun h7 d_ H7=>?_)
 exact H h7 _ H7.kp
end
section
variable {J:WX}{A:Around}{R:RR}{h:Heap}{tk:Nat}{tgt:PySem.Expr}{body:List Stmt}{env:Env}
theorem BG{it:Addr}{x left step:Int}(hit:IsRangeIter h it x left step)(hl:0<left)(ht:∀v,letOwnedTupleGo tgt (.ref it) v=pure ())
 (H:∀h',IsRangeIter h' it (x+step) (left-1) step→Heap.SameBut it h h'→
  wpAny J.M A (mX tgt (.ref it) body [] env (.int x tk)) (X.postC pw J.W A (ay R)) (X.postE (ay R)) (J.S h' (tk+1))):
 codeAny J.M A (.forLoop tgt (.ref it) body [] env) (ay R) (J.S h tk):=by
 refine codeAny_of_tree ?_
 show wpAny _ _ ((forTurn tgt (.ref it) body [] env).onRaise (fun x=>do noteFrame x env;theTreesLotGoes x)) _ _ _
 refine wpAny_noted ?_
 simp only[forTurn]
 refine wpAny_bind (wpAny_standAt (wpAny_bind (wpAny_onRaise (wpAny_pyNext_range_item (s:=(J.S h tk)) hit hl fun h' a1 a2=>?_))))
 refine wpAny_bind (wpAny_of_eq (ht _) ?_)
 have H':=H h' a1 a2
 rw[←zo]at H'
 exact wpAny_mono H' (fun f s' hf=>hf) (fun e s' he=>he.elim)
theorem Gn{it:Addr}{x left step:Int}(hh:A.handled=none)(hit:IsRangeIter h it x left step)(hl:left≤0)
 (H:∀h',Heap.ExtBut it h h'→R (.ok .next) (J.S h' tk)):
 codeAny J.M A (.forLoop tgt (.ref it) body [] env) (ay R) (J.S h tk):=by
 refine codeAny_of_tree ?_
 show wpAny _ _ ((forTurn tgt (.ref it) body [] env).onRaise (fun x=>do noteFrame x env;theTreesLotGoes x)) _ _ _
 refine wpAny_noted ?_
 simp only[forTurn]
 refine wpAny_bind (wpAny_standAt (wpAny_bind (wpAny_onRaise (wpAny_pyNext_range_end (s:=(J.S h tk)) hh hit hl fun h' a1=>?_))))
 refine wpAny_pure ⟨rfl,codeAny_block ?_⟩
 exact wpAny_pure (H h' a1)
end
end
section
variable [Zero Heap]
noncomputable def tE:PySem.Expr→List PySem.Expr
 |.Tuple es _ _=>es
 |_=>[]
noncomputable def tQ:PySem.Expr→Nat
 |.Tuple _ q _=>q
 |_=>0
noncomputable def tP:PySem.Expr→Pos
 |.Tuple _ _ p=>p
 |_=>⟨0,0,0,0⟩
theorem xB{h:Heap}{a b:Addr}{o:Obj}{vs:List Value}(h1:h.get? a=some o)(h2:h.get? b=some (tup vs)){T:String}(hc:o.cls=.type T)(hT:T≠"tuple"):b≠a:=fun e=>by
 rw[e,h1]at h2
 rw[bV h2]at hc
 exact hT (by injection hc with q;exact q.symm)
section
variable {J:WX}{A:Around}{R:RR}{h:Heap}{tk:Nat}{z acc L fr:Nat}{D:List Addr}
theorem Ed{TI TO i1 i2 l1 l2 N ea le e1 e2:Nat}{xs zs:List Value}{ns:List Int}{vs:List Nd}{bs:List Addr}(RA:aa A 30)(hz:xs.length≤100)(hl:xs.length=zs.length)(n2:L≠acc)(g0:∀a∈([z,TO,i1,i2]++acc::[L]:List Nat),534≤a)(na:acc∉[z,TO,i1,i2])(nL:L∉[z,TO,i1,i2])
 (m1:z∉[acc,L]) (m2:TI∉[acc,L]) (m3:TO∉[acc,L]) (m4:i1∉[acc,L]) (m5:i2∉[acc,L]) (m6:l1∉[acc,L]) (m7:l2∉[acc,L]) (m8:l1∉[z,TO,i1,i2]) (m9:l2∉[z,TO,i1,i2]) (ZD:ZipApart z TI TO i1 i2 l1 l2)
 (hN:N≤⇑h) (hD:∀x∈D,x<N) (d0:∀x∈([z,TO,i1,i2]:List Nat),x∈D) (d2:acc∈D) (d3:L∈D)
 (TT:aE J.P h) (hI:gp z TI TO i1 i2 l1 l2 0 h) (h1:h.get? l1=some (lst xs e1)) (h2:h.get? l2=some (lst zs e2)) (hgs:IntsAre xs ns) (hzs:zs=refs bs) (hvs:aQ J.P (view D h) vs bs) (hvl:ns.length=vs.length) (hT:Tl [z,TO,i1,i2] h) (ha:h.get? acc=some (lst [] ea)) (hL:h.get? L=some (dct [] le))
 (H:∀h' tk' as ea',Kp ([z,TO,i1,i2]++acc::[L]) h h'→h'.get? acc=some (lst (refs as) ea')→aQ J.P (view D h') ((ns.zip vs).map fun q=>Nd.aP q.1 q.2) as→gk J.P h' L cD aX xs.length→R (.ok .next) (J.S h' tk')):
 codeAny J.M A (aT (gU J.P) (fE J.P (gU J.P) L fr) z acc) (ay R) (J.S h tk):=by
 have fP:xs.length=ns.length:=IntsAre.length hgs
 have M2:∀x∈([L,acc]:List Addr),x∈D:=by k_in
 have g2:534≤acc:=g0 _ (by k_in)
 have g3:534≤L:=g0 _ (by k_in)
 refine Ef (cy:=J.P) (xs:=xs) (zs:=zs) (l1:=l1) (l2:=l2) (M:=[L]) (fun k ys h=>N≤⇑h∧gk J.P h L cD aX k∧aQ J.P (view D h) vs bs∧∃as,ys=refs as∧aQ J.P (view D h) (((ns.zip vs).map fun q=>Nd.aP q.1 q.2).take k) as)
  RA.handled (elts:=tE (fO (gU J.P))) (q:=tQ (fO (gU J.P))) (tp:=tP (fO (gU J.P))) ∅ g0 na m1 m2 m3 m4 m5 m6 m7 m8 m9 ZD (fun k ys h h' x K=>⟨aq x.1 K.size,x.2.1.kp K nL,x.2.2.1.mono (aO K d0),by
   ac_rfl
   obtain⟨as,e,z⟩:=x.2.2.2
   exact⟨as,e,z.mono (aO K d0)⟩⟩) ?_ hl TT hI h1 h2 hT ha
  ⟨hN,.inl ⟨rfl,le,hL⟩,hvs,[],rfl,.nil⟩ (fun h' tk' ys ea' K ha' x=>by
   ac_rfl
   obtain⟨as,e,z⟩:=x.2.2.2
   rw[e]at ha'
   rw[List.take_of_length_le (by rw[List.length_map,List.length_zip,fP];exact Nat.min_le_left _ _)]at z
   exact H h' tk' as ea' K ha' z x.2.1)
 intro k h tk x ys ea hk hx TT hT ha hY next
 ac_rfl
 obtain⟨p,x1,y1,rfl,Aw,hy1,hp,hps⟩:=hx
 obtain⟨i,t,rfl,hi⟩:=pC hgs Aw
 obtain⟨hN,hL,xC,as,hys,hnd⟩:=hY
 have hkz:k<vs.length:=by rw[←hvl,←fP];exact hk
 obtain⟨vn,hvn⟩:∃q,vs[k]? =some q:=⟨_,a_ hkz⟩
 have hka:k<bs.length:=by rw[←xC.1];exact hkz
 obtain⟨b,Eg⟩:∃q,bs[k]? =some q:=⟨_,a_ hka⟩
 obtain rfl:y1=.ref b:=by
  rw[hzs]at hy1
  simp only[refs,List.getElem?_map,Eg,Option.map_some,Option.some.injEq]at hy1
  exact hy1.symm
 have hnb:=xC.2 k _ _ hvn Eg
 have xD:((ns.zip vs).map fun q=>Nd.aP q.1 q.2)[k]? =some (.aP i vn):=by rw[List.getElem?_map,(List.getElem?_zip_eq_some (z:=(i,vn))).mpr ⟨hi,hvn⟩];rfl
 have hys:ys.length≤200:=by have:=hnd.1;rw[List.length_take]at this;rw[hys];simp only[refs,List.length_map];lia
 have go:∀h4 av aW aU c e a,Kp [L,acc] h h4→h4.get? c=some e→⇑h≤c→⇑h4=c+1→h4.get? acc=some (lst aW aU)→aW=ys++[.ref a]→gk J.P h4 L cD aX (k+1)→aM J.P (view D h4) (.aP i vn) a→codeAny J.M A (aT (gU J.P) (fE J.P (gU J.P) L fr) z acc) (ay R) (J.S h4 av):=by
  intro h4 av aW aU c e a K he hc hs cg hy bP j9
  refine next h4 av _ aU (K.more (by k_in)) (hT.of hc he hs.symm) cg ⟨aq hN K.size,bP,xC.mono (aO K M2),as++[a],?_,?_⟩
  ·rw[hy,sF];congr 1
  ·rw[pF xD];exact(hnd.mono (aO K M2)).snoc j9
 refine hL.D4 fun z0 t5 y0 t6 y6 le hLe=>?_
 have B:=aG (prog:=pw) (w:=J.W) (mods:=[L,acc]) TT bB (ro:=[(p,_)]) (rC hp (au (xB hLe hp rfl (by decide)) (xB ha hp rfl (by decide))) rN)
 let vv:Vv:=gn z acc L fr le ea p t b t5 t6 ⇑h tk 0 0 0 0 i 0 y0 y6 ys [] []
 refine xE.b0 z0 vv rfl (RA.less rfl) B (cj hLe ha n2) (fun h2 _ H2=>.code (dZ (H2.get 0 rfl) (by show ys.length≤1000;left) fun h3 U=>?_))
 refine xE.b1 (RA.less rfl) B H2.k (H2.rep.upd (H2.bg 0 rfl rfl) U) (fun h4 _ H4=>?_)
 rw[xE.k1]
 have hv:∀{c:Nat}{o:Obj},⇑h≤c→h4.get? c=some o→view D h4 c o:=fun hc e=>iI hD (aq hN hc) e
 exact go h4 _ _ _ _ _ _ H4.kp (H4.get 4 rfl) (br) H4.size (H4.get 1 rfl) rfl (.inr ⟨_,_,_,_,_,H4.get 0 rfl⟩) (.aP (hv (br) (H4.get 3 rfl)) (hv (br) (H4.get 2 rfl)) (hnb.mono (aO H4.kp M2)))
theorem Me{TI TO i1 i2 l1 l2 N ea le e1 e2:Nat}{xs zs:List Value}{ns:List Int}{ks:List Int}(RA:aa A 30)(hz:xs.length≤100)(hl:xs.length=zs.length)(n2:L≠acc)(g0:∀a∈([z,TO,i1,i2]++acc::[L]:List Nat),534≤a)(na:acc∉[z,TO,i1,i2])(nL:L∉[z,TO,i1,i2])
 (m1:z∉[acc,L]) (m2:TI∉[acc,L]) (m3:TO∉[acc,L]) (m4:i1∉[acc,L]) (m5:i2∉[acc,L]) (m6:l1∉[acc,L]) (m7:l2∉[acc,L]) (m8:l1∉[z,TO,i1,i2]) (m9:l2∉[z,TO,i1,i2]) (ZD:ZipApart z TI TO i1 i2 l1 l2)
 (hN:N≤⇑h) (hD:∀x∈D,x<N) (d0:∀x∈([z,TO,i1,i2]:List Nat),x∈D) (d2:acc∈D) (d3:L∈D)
 (TT:aE J.P h) (hI:gp z TI TO i1 i2 l1 l2 0 h) (h1:h.get? l1=some (lst xs e1)) (h2:h.get? l2=some (lst zs e2)) (hgs:IntsAre xs ns) (hks:IntsAre zs ks) (hT:Tl [z,TO,i1,i2] h) (ha:h.get? acc=some (lst [] ea)) (hL:h.get? L=some (dct [] le))
 (H:∀h' tk' as ea',Kp ([z,TO,i1,i2]++acc::[L]) h h'→h'.get? acc=some (lst (refs as) ea')→aQ J.P (view D h') ((ns.zip ks).map fun q=>Nd.aP q.1 (.loc q.2)) as→gk J.P h' L cD jG xs.length→R (.ok .next) (J.S h' tk')):
 codeAny J.M A (aT (iK J.P) (jC J.P (iK J.P) [] L fr) z acc) (ay R) (J.S h tk):=by
 have fP:xs.length=ns.length:=IntsAre.length hgs
 have M2:∀x∈([L,acc]:List Addr),x∈D:=by k_in
 have g2:534≤acc:=g0 _ (by k_in)
 have g3:534≤L:=g0 _ (by k_in)
 refine Ef (cy:=J.P) (xs:=xs) (zs:=zs) (l1:=l1) (l2:=l2) (M:=[L]) (fun k ys h=>N≤⇑h∧gk J.P h L cD jG k∧True∧∃as,ys=refs as∧aQ J.P (view D h) (((ns.zip ks).map fun q=>Nd.aP q.1 (.loc q.2)).take k) as)
  RA.handled (elts:=tE (fO (iK J.P))) (q:=tQ (fO (iK J.P))) (tp:=tP (fO (iK J.P))) ∅ g0 na m1 m2 m3 m4 m5 m6 m7 m8 m9 ZD (fun k ys h h' x K=>⟨aq x.1 K.size,x.2.1.kp K nL,trivial,by
   ac_rfl
   obtain⟨as,e,z⟩:=x.2.2.2
   exact⟨as,e,z.mono (aO K d0)⟩⟩) ?_ hl TT hI h1 h2 hT ha
  ⟨hN,.inl ⟨rfl,le,hL⟩,trivial,[],rfl,.nil⟩ (fun h' tk' ys ea' K ha' x=>by
   ac_rfl
   obtain⟨as,e,z⟩:=x.2.2.2
   rw[e]at ha'
   rw[List.take_of_length_le (by rw[List.length_map,List.length_zip,fP];exact Nat.min_le_left _ _)]at z
   exact H h' tk' as ea' K ha' z x.2.1)
 intro k h tk x ys ea hk hx TT hT ha hY next
 ac_rfl
 obtain⟨p,x1,y1,rfl,Aw,hy1,hp,hps⟩:=hx
 obtain⟨i,t,rfl,hi⟩:=pC hgs Aw
 obtain⟨hN,hL,xC,as,hys,hnd⟩:=hY
 obtain⟨j,u,rfl,hj⟩:=pC hks hy1
 have xD:((ns.zip ks).map fun q=>Nd.aP q.1 (.loc q.2))[k]? =some (.aP i (.loc j)):=by rw[List.getElem?_map,(List.getElem?_zip_eq_some (z:=(i,j))).mpr ⟨hi,hj⟩];rfl
 have hys:ys.length≤200:=by have:=hnd.1;rw[List.length_take]at this;rw[hys];simp only[refs,List.length_map];lia
 have go:∀h4 av aW aU c e a,Kp [L,acc] h h4→h4.get? c=some e→⇑h≤c→⇑h4=c+1→h4.get? acc=some (lst aW aU)→aW=ys++[.ref a]→gk J.P h4 L cD jG (k+1)→aM J.P (view D h4) (.aP i (.loc j)) a→codeAny J.M A (aT (iK J.P) (jC J.P (iK J.P) [] L fr) z acc) (ay R) (J.S h4 av):=by
  intro h4 av aW aU c e a K he hc hs cg hy bP j9
  refine next h4 av _ aU (K.more (by k_in)) (hT.of hc he hs.symm) cg ⟨aq hN K.size,bP,trivial,as++[a],?_,?_⟩
  ·rw[hy,sF];congr 1
  ·rw[pF xD];exact(hnd.mono (aO K M2)).snoc j9
 refine hL.D4 fun z0 t5 y0 t6 y6 le hLe=>?_
 have B:=aG (prog:=pw) (w:=J.W) (mods:=[L,acc]) TT bB (ro:=[(p,_)]) (rC hp (au (xB hLe hp rfl (by decide)) (xB ha hp rfl (by decide))) rN)
 let vv:Vv:=gn z acc L fr le ea p t u t5 t6 ⇑h tk 0 0 0 0 i j y0 y6 ys [] []
 refine xF.b0 z0 vv rfl (RA.less rfl) B (cj hLe ha n2) (fun h2 _ H2=>.code (dZ (H2.get 0 rfl) (by show ys.length≤1000;left) fun h3 U=>?_))
 refine xF.b1 (RA.less rfl) B H2.k (H2.rep.upd (H2.bg 0 rfl rfl) U) (fun h4 _ H4=>?_)
 rw[xF.k1]
 have hv:∀{c:Nat}{o:Obj},⇑h≤c→h4.get? c=some o→view D h4 c o:=fun hc e=>iI hD (aq hN hc) e
 exact go h4 _ _ _ _ _ _ H4.kp (H4.get 6 rfl) (br) H4.size (H4.get 1 rfl) rfl (.inr ⟨_,_,_,_,_,H4.get 0 rfl⟩) (.aP (hv (br) (H4.get 5 rfl)) (hv (br) (H4.get 4 rfl)) (.loc (hv (br) (H4.get 3 rfl)) (hv (br) (H4.get 2 rfl))))
end
end
section
variable [Zero Heap]
theorem gC{h:Heap}{it c:Nat}{o:Obj}(e:h.get? c=some o)(hs:⇑h=c+1)(hi:it<c):Tl [it] h:=⟨fun a ha=>by rw[mS ha,hs];exact Nat.lt_succ_of_lt hi,c,o,e,hs.symm,fun q=>Nat.ne_of_gt hi (mS q)⟩
noncomputable def qu(P:Params)(h:Heap)(fr nu va re kl fo:Nat)(a b c d e:Nat):Prop:=∃fe,h.get? fr=some (ai [ent P gB a (.ref nu),ent P qd b (.ref va),ent P iz c (.ref re),ent P cT d (.ref kl),ent P gw e (.ref fo)] fe)∨
 ∃t5 t6 t7 z5 z6 z7,h.get? fr=some (ai ([ent P gB a (.ref nu),ent P qd b (.ref va),ent P iz c (.ref re),ent P cT d (.ref kl),ent P gw e (.ref fo)]++[ent P fZ t5 z5,ent P jW t6 z6,ent P CA t7 z7]) fe)
theorem qu.pk{J:WX}{h:Heap}{fr nu va re kl fo a b c d e:Nat}(x:qu J.P h fr nu va re kl fo a b c d e):∃z fe t5 z5 t6 z6 t7 z7,h.get? fr=some (ai ([ent J.P gB a (.ref nu),ent J.P qd b (.ref va),ent J.P iz c (.ref re),ent J.P cT d (.ref kl),ent J.P gw e (.ref fo)]++Mine.pk J z t5 z5 t6 z6 t7 z7) fe):=by
 obtain⟨fe,x|⟨t5,t6,t7,z5,z6,z7,x⟩⟩:=x
 ·exact⟨false,fe,0,.none,0,.none,0,.none,x⟩
 ·exact⟨true,fe,t5,z5,t6,z6,t7,z7,x⟩
theorem qu.UQ{G:Prop}{J:WX}{h:Heap}{fr nu va re kl fo a b c d e:Nat}(x:qu J.P h fr nu va re kl fo a b c d e)(kk:∀z fe t5 z5 t6 z6 t7 z7,h.get? fr=some (ai ([ent J.P gB a (.ref nu),ent J.P qd b (.ref va),ent J.P iz c (.ref re),ent J.P cT d (.ref kl),ent J.P gw e (.ref fo)]++Mine.pk J z t5 z5 t6 z6 t7 z7) fe)→G):G:=by
 obtain⟨v0,v1,v2,v3,v4,v5,v6,v7,q0⟩:=qu.pk x
 exact kk v0 v1 v2 v3 v4 v5 v6 v7 q0
noncomputable def fY(m:Nat)(l:Int)(N K:Nat→Int)(pf:Nat→Nd)(F:List Nd):Nat→List Nd
 |0=>F
 |i+1=>[.call (.lam (l+i+1) [K (m-1-i)] (.seq (.aP (N (m-1-i)) (.loc (K (m-1-i)))::fY m l N K pf F i))) [pf (m-1-i)]]
theorem UR(m:Nat)(l:Int)(N K:Nat→Int)(pf:Nat→Nd)(F:List Nd)(h1:1≤F.length)(h2:F.length≤100):∀i,1≤(fY m l N K pf F i).length∧(fY m l N K pf F i).length≤100
 |0=>⟨h1,h2⟩
 |i+1=>by simp[fY]
section
variable {J:WX}{A:Around}{R:RR}{it fr cw W_ wd nu va re kl:Nat}{c:Wc}{ns vs ks:List Value}{en ev ek t0 t1 t2 t3 t4 m qh:Nat}{l:Int}{Nf Kf:Nat→Int}{pf:Nat→Nd}{F:List Nd}{D:List Addr}
theorem I6(RA:aa A 60)(nd:([it,fr,wd,c.TT]:List Nat).Nodup)(gi:∀a∈([it,fr,wd,c.TT]:List Nat),534≤a)(n1:cw∉[it,fr,wd,c.TT])(n2:W_∉[it,fr,wd,c.TT])(n3:kl∉[it,fr,wd,c.TT])(n4:va∉[it,fr,wd,c.TT])(n5:nu∉[it,fr,wd,c.TT])
 (I7:1≤F.length) (pV:F.length≤100) (zn:ns.length≤100) (zv:vs.length≤100) (zk:ks.length≤100) (hN:∀j,j<m→∃t,ns[j]? =some (.int (Nf j) t)) (hK:∀j,j<m→∃t,ks[j]? =some (.int (Kf j) t))
 (dM:∀x∈([it,fr,wd,c.TT]:List Nat),x∈D) (hD:∀x∈D,x<qh):
 ∀(r i:Nat),i+r=m→∀(h:Heap)(tk fo eo:Nat)(ls:List Addr)(kvs:List (Int×Value)),qh≤⇑h→aE J.P h→IsRangeIter h it ((r:Int)-1) r (-1)→(r=0→Tl [it] h)→h.get? cw=some (bL (.ref W_))→h.get? W_=some (ins 464 wd)→h.get? kl=some (lst ks ek)→h.get? va=some (lst vs ev)→h.get? nu=some (lst ns en)→
  cP J.P h c wd (l+i)→h.DictOf (intKind pw J.W) c.TT kvs→kvs.length+r≤900→qu J.P h fr nu va re kl fo t0 t1 t2 t3 t4→view D h fo (lst (refs ls) eo)→aQ J.P (view D h) (fY m l Nf Kf pf F i) ls→(∀j,j<m→∃b,vs[j]? =some (.ref b)∧aM J.P (view D h) (pf j) b)→
  (∀h' tk' fm Dd ls' kvs',Kp [it,fr,wd,c.TT] h h'→cP J.P h' c wd (l+m)→h'.DictOf (intKind pw J.W) c.TT kvs'→kvs'.length≤kvs.length+r→qu J.P h' fr nu va re kl fm t0 t1 t2 t3 t4→view D h' fm (lst (refs ls') Dd)→aQ J.P (view D h') (fY m l Nf Kf pf F m) ls'→R (.ok .next) (J.S h' tk'))→
  codeAny J.M A (uJ J.P it fr cw) (ay R) (J.S h tk)
 |0,i,e,h,tk,fo,eo,ls,kvs,hS,TT,hit,hT,hcw,hW,iX,kF,bJ,ck,hTT,hz,hfr,hfo,hnd,De,H=>by
  obtain rfl:i=m:=e
  refine Gn RA.handled hit (by simp) (fun h' a1=>?_)
  have K1:Kp [it] h h':=(hT rfl).kp (qK a1 (by k_in))
  have K:Kp [it,fr,wd,c.TT] h h':=K1.more (by k_in)
  refine w_ nd fun q1 q2 q3 q4 q5 q6=>?_
  refine DictOf.objE hTT fun es ee j5=>?_
  have v1:=aO K1 (D:=D) (kAc (dM _ (by k_in)) kAn)
  refine H h' tk fo eo ls kvs K (ck.kp K1 ak) (DictOf.at hTT j5 (K1.keep _ _ ak j5)) (by left) ?_ (v1 _ _ hfo) (hnd.mono v1)
  obtain⟨fe,x|⟨t5,t6,t7,z5,z6,z7,x⟩⟩:=hfr
  ·exact⟨fe,.inl (K1.keep _ _ ak x)⟩
  ·exact⟨fe,.inr ⟨t5,t6,t7,z5,z6,z7,K1.keep _ _ ak x⟩⟩
 |r+1,i,e,h,tk,fo,eo,ls,kvs,hS,TT,hit,hT,hcw,hW,iX,kF,bJ,ck,hTT,hz,hfr,hfo,hnd,De,H=>by
  refine BG (tgt:=iS (qN J.P 2)) hit (by lia) (fun v=>lB ∅ _ v) (fun h1 qp I8=>?_)
  have hx:((r+1:Nat):Int)-1=(r:Int):=by lia
  rw[hx]at qp⊢
  have US:IsRangeIter h1 it ((r:Int)-1) r (-1):=by
   have e1:(r:Int)+-1=(r:Int)-1:=by lia
   have e2:((r+1:Nat):Int)-1=(r:Int):=hx
   rw[e1]at qp
   simpa using qp
  have ND:=nd
  have GI:=gi
  refine w_ nd fun q1 q2 q3 q4 q5 q6=>?_
  refine Ao gi fun g1 g2 g3 g4=>?_
  refine gS n1 fun a1 a2 a3 a4=>?_
  refine gS n2 fun a5 a6 a7 a8=>?_
  refine gS n3 fun a9 vI vJ G9=>?_
  refine gS n4 fun G_ XH XI XJ=>?_
  refine gS n5 fun XK XM XN XO=>?_
  have K1:Kp [it] h h1:=⟨fun b o hb eo=>(I8.2 b (by simpa using hb)).trans eo,Nat.le_of_eq I8.1.symm⟩
  have v1:=aO K1 (D:=D) (kAc (dM _ (by k_in)) kAn)
  have eG:=TT.kp K1 bI
  have I9:=K1.keep _ _ ak hcw
  have I_:=K1.keep _ _ ak hW
  have zG:=K1.keep _ _ ak iX
  have Df:=K1.keep _ _ ak kF
  have Dg:=K1.keep _ _ ak bJ
  obtain⟨tl,ck⟩:=ck
  have UT:=K1.keep _ _ ak ck
  refine DictOf.objE hTT fun ts et j5=>?_
  have Dh:=K1.keep _ _ ak j5
  have UU:=DictOf.at hTT j5 Dh
  have Ja:=v1 _ _ hfo
  have f1:fo≠fr:=fun q=>hfo.1 (q▸dM fr (by k_in))
  have f2:fo≠wd:=fun q=>hfo.1 (q▸dM wd (by k_in))
  have f3:fo≠c.TT:=fun q=>hfo.1 (q▸dM c.TT (by k_in))
  have uz:([fr,wd,c.TT]:List Nat).Nodup:=sE
  have hp:m-1-i=r:=#[0x1110100171010110721524150231c40231c201023,i,r,m,m-1,m-1-i] e (Nat.sub_add_cancel (#[0x11013311c031c201021,i,r,m] e)) (Nat.sub_add_cancel (#[0x1110015411031c40231c201022,i,r,m,m-1] e (Nat.sub_add_cancel (#[0x11013311c031c201021,i,r,m] e))))
  have hr:r<m:=#[0x11013312131c201021,i,r,m] e
  ac_rfl
  obtain⟨tn,UW⟩:=hN r hr
  obtain⟨tq,Jb⟩:=hK r hr
  obtain⟨b,hb,hbn⟩:=De r hr
  have hlen:=UR m l Nf Kf pf F I7 pV i
  have hlr:(refs ls).length=(fY m l Nf Kf pf F i).length:=by rw[refs,List.length_map,hnd.1]
  have qq:∀v:Value,([v]++refs ls).length=(fY m l Nf Kf pf F i).length+1:=fun v=>by rw[List.length_append,hlr,List.length_singleton,Nat.add_comm]
  have Di:qh≤⇑h1:=aq hS K1.size
  have B:=aG (prog:=pw) (w:=J.W) (mods:=[fr,wd,c.TT]) eG dH (ro:=[(cw,_),(W_,_),(kl,_),(va,_),(nu,_),(fo,_)]) (rC I9 bw (rC I_ bw (rC zG bw (rC Df bw (rC Dg bw (rC Ja.2 bw rN))))))
  have go:∀(h4:Heap)(av um Dj:Nat)(x4:Addr)(uo:List (Int×Value)),Kp [fr,wd,c.TT] h1 h4→h4.get? um=some (lst [.ref x4] Dj)→⇑h1≤um→um+1=⇑h4→aM J.P (view D h4) (.call (.lam (l+i+1) [Kf r] (.seq (.aP (Nf r) (.loc (Kf r))::fY m l Nf Kf pf F i))) [pf r]) x4→cP J.P h4 c wd (l+i+1)→h4.DictOf (intKind pw J.W) c.TT uo→uo.length≤kvs.length+1→qu J.P h4 fr nu va re kl um t0 t1 t2 t3 t4→
   codeAny J.M A (uJ J.P it fr cw) (ay R) (J.S h4 av):=by
   intro h4 av um Dj x4 uo K4 Jc lf zf UX mT UY Jd C2
   have v4:=aO K4 (D:=D) (fun x hx=>dM x (List.mem_cons_of_mem _ hx))
   refine I6 RA ND GI d7 d7 d7 d7 d7 I7 pV zn zv zk hN hK dM hD r (i+1) (#[0x1110310133121c100231c201021,i,r,m] e) h4 av um Dj [x4] uo (aq Di K4.size) (eG.kp K4 dH) (K4.keep _ _ bw US) (fun _=>gC Jc zf.symm (aJ (aj hit) (aq K1.size lf))) (K4.keep _ _ bw I9) (K4.keep _ _ bw I_) (K4.keep _ _ bw zG) (K4.keep _ _ bw Df) (K4.keep _ _ bw Dg)
    (by have e5:l+((i+1:Nat):Int)=l+i+1:=(by lia);rw[e5];exact mT) UY (#[0x11113384d123001c1030384d1c201002,kvs.length,r,uo.length] hz Jd) C2 (iI hD (aq Di lf) Jc) (by rw[fY,hp];exact .one UX) (fun j hj=>by
     ac_rfl
     obtain⟨b,e1,e2⟩:=De j hj
     exact⟨b,e1,(e2.mono v1).mono v4⟩) (fun h' tk' fm Dd ls' kvs' K5 a1 a2 a3 a4 a5 a6=>?_)
   exact H h' tk' fm Dd ls' kvs' (((K1.more (by k_in)).trans (K4.more (by k_in))).trans K5) a1 a2 (#[0x111131c4020130410301c20102,uo.length,kvs.length,kvs'.length,r] Jd a3) a4 a5 a6
  have Je:∀x∈([fr,wd,c.TT]:List Nat),x∈D:=fun x hx=>dM x (List.mem_cons_of_mem _ hx)
  have hv:∀{c:Nat}{o:Obj}{h4:Heap},⇑h1≤c→h4.get? c=some o→view D h4 c o:=fun hc e=>iI hD (aq Di hc) e
  refine hfr.UQ fun zz fe t5 z5 t6 z6 t7 z7 x=>?_
  let vv:kO.A:=⟨fr,fe,cw,W_,wd,c,l+i,tl,nu,ns,en,va,vs,ev,re,kl,ks,ek,fo,refs ls,eo,ts,et,it,r,tk,t0,t1,t2,t3,t4,t5,t6,t7,z5,z6,z7,⇑h1,tk+1⟩
  refine kO.b0 zz vv rfl (RA.less rfl) B (w7 (K1.keep _ _ ak x) UT Dh uz) (fun h2 _ H2=>.code (CP (DictOf.at UU Dh (H2.get 0 rfl)) (#[0x11123e8d110384d1c201001,kvs.length,r] hz) fun h3 az Jf sb=>?_))
  refine DictOf.objE Jf fun XQ XR zH=>?_
  refine kO.b1 (RA.less rfl) B H2.k (H2.rep.upd (H2.bg 0 rfl rfl) (dz.same sb zH)) (fun h4 _ H4=>.code (iJ (H4.kp.keep _ _ bw Dg) (Int.natCast_nonneg r) (by left) UW ?_))
  refine kO.b2 (RA.less rfl) B H4.k H4.rep (fun h5 _ H5=>.code (iJ (H5.kp.keep _ _ bw zG) (Int.natCast_nonneg r) (by left) Jb ?_))
  refine kO.b3 (RA.less rfl) B H5.k H5.rep (fun h6 _ H6=>.code (iJ (H6.kp.keep _ _ bw zG) (Int.natCast_nonneg r) (by left) Jb ?_))
  refine kO.b4 (RA.less rfl) B H6.k H6.rep (fun h7 _ H7=>.code (ig (H7.get 0 rfl) (H7.kp.keep _ _ bw Ja.2) (oz rfl) (by rw[hlr];exact oS hlen.2 rfl) fun h8 N8=>?_))
  refine kO.b5 (m:=⇑h7) (p:=⇑h8) (RA.less rfl) B H7.k (by have e:=N8.at_;rw[H7.size]at e⊢;exact H7.rep.new N8.kp e) (fun h9 _ H9=>.code (Dk (aa.up H9.k RA rfl) (eG.kp H9.kp dH) (H9.get 0 rfl) (by refine aq ?_ (Nat.le_of_eq (qq _).symm);exact #[0x11121c1012c011c01,(fY m l Nf Kf pf F i).length] hlen.1) (by refine aq (Nat.le_of_eq (qq _)) ?_;exact oi (xV hlen.2 rfl)) fun bU s_ a d t ed jT a0 d0 ha hd=>?_))
  refine kO.b6 (s:=a) (RA.less rfl) B H9.k (H9.rep.grow jT) (fun h11 _ aZ=>.code (iJ (aZ.kp.keep _ _ bw Df) (Int.natCast_nonneg r) (by left) hb ?_))
  refine kO.b7 (RA.less rfl) B aZ.k aZ.rs (fun h12 pU dO=>?_)
  rw[kO.k7]
  have s8:⇑h8=⇑h7+1:=N8.size
  have s7:⇑h7=⇑h1+9:=H7.size
  have s9:⇑h8≤⇑h9:=H9.seg.size
  have cJ:⇑bU≤⇑h11:=aZ.seg.size
  have cV:=jT.size
  have la:=aj ha
  have ld:=aj hd
  have zI:∀{x:Nat},⇑h9≤x→x∉bZ _:=fun hx q=>Nat.lt_irrefl _ (aJ (H9.mlt _ q) hx)
  have UZ:=dO.seg.keep _ _ (aZ.dI (zI a0) la) (aZ.seg.keep _ _ (zI a0) ha)
  have U0:=dO.seg.keep _ _ (aZ.dI (zI d0) ld) (aZ.seg.keep _ _ (zI d0) hd)
  have U1:=DictOf.at Jf zH (dO.get 14 rfl)
  refine go h12 pU _ _ _ _ dO.kp (dO.get 12 rfl) (by left) (by have e:=dO.size;change _=_+_ at e;lia) ?_ ⟨_,dO.get 1 rfl⟩ U1 (Ir _ _ _) ⟨_,.inr ⟨_,_,_,_,_,_,dO.get 0 rfl⟩⟩
  refine aQ.call (ls:=[b]) (.one ((hbn.mono v1).mono (aO dO.kp ?_))) (hv (by left) (dO.get 11 rfl)) (hv (by left) (dO.get 10 rfl)) ?_ (hv (by left) (dO.get 9 rfl)) (oz rfl)
  ·exact Je
  ·refine .lam (xs:=[(Kf r,tq)]) (hv (by left) (dO.get 8 rfl)) (hv (by left) (dO.get 7 rfl)) (hv (br) (dO.get 6 rfl)) rfl ?_
   refine aQ.seq (ls:=_::ls) (.cons (.aP (hv (br) (dO.get 5 rfl)) (hv (br) (dO.get 4 rfl)) (.loc (hv (br) (dO.get 3 rfl)) (hv (br) (dO.get 2 rfl)))) ((hnd.mono v1).mono (aO dO.kp Je))) (hv (oI a0 (oI s9 (oG s8 (oE (oG s7 oA))))) UZ) (hv (oI d0 (oI s9 (oG s8 (oE (oG s7 oA))))) U0) (hv (oG s7 oA) (dO.get 13 rfl)) (by simp;exact oS hlen.2 rfl)
end
end
section
variable {J:WX}{A:Around}{R:RR}{h:Heap}{tk:Nat}{e:PySem.Expr}{env:Env}{it acc:Addr}
theorem jU{G k:Nat}(hit:h.IsListIter it G k)(H:codeAny J.M A (aT e env it acc) (ay R) (J.S h tk)):
 codeAny J.M A (.compStart (dY e) 0 (.ref it) (.ref acc) env) R (J.S h tk):=
 have H':=codeAny_mono H o5
 codeAny_compStart_list H' (wpAny_pyIter_listiter hit H')
theorem Fo{x l s:Int}(hit:IsRangeIter h it x l s)(H:codeAny J.M A (aT e env it acc) (ay R) (J.S h tk)):
 codeAny J.M A (.compStart (dY e) 0 (.ref it) (.ref acc) env) R (J.S h tk):=
 have H':=codeAny_mono H o5
 codeAny_compStart_list H' (wpAny_pyIter_rangeiter hit H')
theorem RO{x l s:Int}(hit:IsRangeIter h it x l s)(H:codeAny J.M A (ia e env it acc) (ay R) (J.S h tk)):
 codeAny J.M A (.compStart (uH e) 0 (.ref it) (.ref acc) env) R (J.S h tk):=
 have H':=codeAny_mono H o5
 codeAny_compStart_list H' (wpAny_pyIter_rangeiter hit H')
theorem Rg{G k:Nat}(hit:h.IsListIter it G k)(H:codeAny J.M A (ia e env it acc) (ay R) (J.S h tk)):
 codeAny J.M A (.compStart (uH e) 0 (.ref it) (.ref acc) env) R (J.S h tk):=
 have H':=codeAny_mono H o5
 codeAny_compStart_list H' (wpAny_pyIter_listiter hit H')
theorem Dm{TI TO i1 i2 l1 l2 k:Nat}(Z:gp it TI TO i1 i2 l1 l2 k h)(H:codeAny J.M A (aT e env it acc) (ay R) (J.S h tk)):
 codeAny J.M A (.compStart (dY e) 0 (.ref it) (.ref acc) env) R (J.S h tk):=
 have H':=codeAny_mono H o5
 codeAny_compStart_list H' (wpAny_pyIter_zip Z.z_ H')
theorem Rv{d i n ep:Nat}(hit:h.IsKeyIter it d i n ep)(H:codeAny J.M A (aT e env it acc) (ay R) (J.S h tk)):
 codeAny J.M A (.compStart (dY e) 0 (.ref it) (.ref acc) env) R (J.S h tk):=
 have H':=codeAny_mono H o5
 codeAny_compStart_list H' (wpAny_pyIter_keyiter hit H')
theorem xY{r:Addr}{a b c n:Int}{t u v:Tok}(hr:IsRange h r a b c t u v)(hs:Builtin.Range.small a b c=true)(hn:Builtin.Range.rangeSize a b c=n)
 (H:∀h',eF ⟨.type "range_iterator",none,.fields #[rawInt a,rawInt n,rawInt c],#[]⟩ h h'→R (rt (.ref ⇑h)) (J.S h' tk)):codeAny J.M A (blt "range.__iter__" [.ref r]) R (J.S h tk):=by
 have hT:((J.S h tk):Shared).TypeIs (.ref r) "range":=⟨_,hr,rfl⟩
 refine mz F.slot_range_iter hT F.entry_range_iter (F.args_range_iter_1 _) (AutoRange.range___iter___range_1 r a b c t u v (fun q=>by unfold Builtin.Range.small at hs;rw[hs]at q;cases q)) ⟨hr,?_⟩
 unfold Builtin.Range.small at hs
 rw[if_pos hs,hn]
 exact H _ (eF.of rfl)
theorem pS{m:Nat}(hm:m≤100):Builtin.Range.small 0 m 1=true∧Builtin.Range.rangeSize 0 m 1=(m:Int):=by
 have e:Builtin.Range.rangeSize 0 m 1=(m:Int):=by
  unfold Builtin.Range.rangeSize
  simp
  lia
 refine⟨?_,e⟩
 unfold Builtin.Range.small
 rw[e,if_pos (show(1:Int)>0 by decide)]
 simp only[Builtin.Range.rangeFitsLong,Bool.and_eq_true,Bool.or_eq_true,decide_eq_true_eq,beq_iff_eq]
 lia
theorem Jj{m:Nat}(hm:m≤100):Builtin.Range.small ((m:Int)-1) (-1) (-1)=true∧Builtin.Range.rangeSize ((m:Int)-1) (-1) (-1)=(m:Int):=by
 have e:Builtin.Range.rangeSize ((m:Int)-1) (-1) (-1)=(m:Int):=by
  unfold Builtin.Range.rangeSize
  simp only[show¬((-1:Int)>0) by decide,if_false,show(-(-1):Int)=1 from rfl,Int.ediv_one]
  split<;>lia
 refine⟨?_,e⟩
 unfold Builtin.Range.small
 rw[e]
 simp only[Builtin.Range.rangeFitsLong,Bool.and_eq_true,Bool.or_eq_true,decide_eq_true_eq,beq_iff_eq,show¬((-1:Int)>0) by decide,if_false]
 lia
end
section
variable [Zero Heap]
theorem Kp.step{m m':List Addr}{h₀ h h':Heap}(a:Kp m h₀ h)(b:Kp m' h h')(s:∀x∈m',x∈m∨⇑h₀≤x):Kp m h₀ h':=
 ⟨fun x o hx e=>b.keep x o (fun q=>(s x q).elim hx fun z=>Nat.lt_irrefl _ (aJ (aj e) z)) (a.keep x o hx e),aq a.size b.size⟩
theorem vG{V:Vw}{h₀ h:Heap}{mods:List Addr}{mu:List Ent}(K:Kp mods h₀ h)(hm:∀p∈mu,h.get? p.1=some p.2)(nd:(mu.map (·.1)).Nodup)(hs:∀p∈mu,p.1∈mods∨⇑h₀≤p.1):Rep V h₀ mods h mu ⇑h:=
 ⟨rfl,hm,nd,hs,K.keep,K.size⟩
theorem vZ{V:Vw}{h₀ h:Heap}{mods:List Addr}(K:Kp mods h₀ h):Rep V h₀ mods h [] ⇑h:=vG K (fun _ hp=>absurd hp g9) List.nodup_nil (fun _ hp=>absurd hp g9)
theorem cQ{V:Vw}{h₀ h:Heap}{mods:List Addr}{a:Nat}{o:Obj}(K:Kp mods h₀ h)(e:h.get? a=some o)(s:a∈mods∨⇑h₀≤a):Rep V h₀ mods h [(a,o)] ⇑h:=
 vG K (by simp[e]) (by simp) (by simpa using s)
theorem iZ{V:Vw}{h₀ h:Heap}{mods:List Addr}{a b:Nat}{o p:Obj}(K:Kp mods h₀ h)(e:h.get? a=some o)(e2:h.get? b=some p)(n1:a≠b)(s:a∈mods∨⇑h₀≤a)(s2:b∈mods∨⇑h₀≤b):Rep V h₀ mods h [(a,o),(b,p)] ⇑h:=
 vG K (by simp[e,e2]) (by simp[n1]) (by simpa using⟨s,s2⟩)
theorem jQ{V:Vw}{h₀ h:Heap}{mods:List Addr}{a b c:Nat}{o p q:Obj}(K:Kp mods h₀ h)(e:h.get? a=some o)(e2:h.get? b=some p)(e3:h.get? c=some q)(n1:a≠b)(n2:a≠c)(n3:b≠c)(s:a∈mods∨⇑h₀≤a)(s2:b∈mods∨⇑h₀≤b)(s3:c∈mods∨⇑h₀≤c):Rep V h₀ mods h [(a,o),(b,p),(c,q)] ⇑h:=
 vG K (by simp[e,e2,e3]) (by simp[n1,n2,n3]) (by simpa using⟨s,s2,s3⟩)
theorem qD{h:Heap}{a b d f c:Nat}{o:Obj}(e:h.get? c=some o)(hs:⇑h=c+1)(h1:a<c)(h2:b<c)(h3:d<c)(h4:f<c):Tl [a,b,d,f] h:=⟨by simp only[eZ,g9,or_false,forall_eq_or_imp,forall_eq];rw[hs];exact⟨Nat.lt_succ_of_lt h1,Nat.lt_succ_of_lt h2,Nat.lt_succ_of_lt h3,Nat.lt_succ_of_lt h4⟩,c,o,e,hs.symm,by simp only[eZ,g9,or_false,not_or];exact⟨Nat.ne_of_gt h1,Nat.ne_of_gt h2,Nat.ne_of_gt h3,Nat.ne_of_gt h4⟩⟩
theorem bA.pos{P:Params}{h:Heap}{L:Addr}{s:Str}{k:Nat}(x:bA P h L s k)(hk:1≤k):∃t y le,h.get? L=some (dct [ent P s t y] le):=by
 rcases x with⟨a,_⟩|x
 ·lia
 ·exact x
theorem bA.gX{G:Prop}{P:Params}{h:Heap}{L:Addr}{s:Str}{k:Nat}(x:bA P h L s k)(hk:1≤k)(kk:∀t y le,h.get? L=some (dct [ent P s t y] le)→G):G:=by
 obtain⟨v0,v1,v2,q0⟩:=bA.pos x hk
 exact kk v0 v1 v2 q0
theorem gk.pos{P:Params}{h:Heap}{L:Addr}{s s':Str}{k:Nat}(x:gk P h L s s' k)(hk:1≤k):∃t y t' y' le,h.get? L=some (dct [ent P s t y,ent P s' t' y'] le):=by
 rcases x with⟨a,_⟩|x
 ·lia
 ·exact x
theorem gk.gX{G:Prop}{P:Params}{h:Heap}{L:Addr}{s s':Str}{k:Nat}(x:gk P h L s s' k)(hk:1≤k)(kk:∀t y t' y' le,h.get? L=some (dct [ent P s t y,ent P s' t' y'] le)→G):G:=by
 obtain⟨v0,v1,v2,v3,v4,q0⟩:=gk.pos x hk
 exact kk v0 v1 v2 v3 v4 q0
theorem At.eO{A:Around}{h₀ h h₁ hb:Heap}{mods M:List Addr}{g:Sg}(H:At A h₀ mods h₁ g h)(z:⇑hb≤⇑h₁)(s:∀x∈g.mu.map (·.1),x∈M∨⇑hb≤x):∀x∈bZ g.r,x∈M∨⇑hb≤x:=fun x hx=>by
 obtain⟨p,hp,e⟩:=mM hx
 rw[←e]
 rcases H.rep1.own p hp with q|q
 ·exact s _ q
 ·exact .inr (aq z q)
section
variable {J:WX}{A:Around}{R:RR}{h:Heap}{tk:Nat}{D:List Addr}
theorem run_get{l:Int}{m j:Nat}(hj:j<m):((List.range m).map fun j:Nat=>l+1+(j:Int))[j]? =some (l+1+(j:Int)):=by
 rw[List.getElem?_map,List.getElem?_range hj];rfl
theorem xZ{vs:List Value}{ns:List Int}(x:IntsAre vs ns){k:Nat}{i:Int}(h:ns[k]? =some i):∃t,vs[k]? =some (.int i t):=by
 induction x generalizing k with
 |nil=>simp at h
 |cons n t _ ih=>
  cases k with
  |zero=>exact⟨t,by simpa using h⟩
  |succ k=>exact ih (by simpa using h)
theorem U5{c:Wc}{W_ nu va re wd en ev er:Nat}{ns vs:List Value}{Ns:List Int}{l:Int}{pf:Nat→Nd}{Rs:List Nd}{rs:List Addr}{kvs:List (Int×Value)}(RA:aa A 80)(TT:aE J.P h)(bJ:h.get? nu=some (lst ns en))(kF:h.get? va=some (lst vs ev))(Dl:h.get? re=some (lst (refs rs) er))(hW:h.get? W_=some (ins 464 wd))(ck:cP J.P h c wd l)
 (hTT:h.DictOf (intKind pw J.W) c.TT kvs) (hz:kvs.length+10≤900) (h0:1≤ns.length) (hn:ns.length≤10) (hv:vs.length≤100) (hNs:IntsAre ns Ns) (hR:aQ J.P (view D h) Rs rs) (r1:1≤Rs.length) (r2:Rs.length≤80) (hp:∀j,j<ns.length→∃b,vs[j]? =some (.ref b)∧aM J.P (view D h) (pf j) b)
 (g1:534≤wd) (g2:534≤c.TT) (n1:wd≠c.TT) (n2:W_≠wd) (n3:W_≠c.TT) (n4:nu≠wd) (n5:nu≠c.TT) (n6:va≠wd) (n7:va≠c.TT) (n8:re≠wd) (n9:re≠c.TT) (d1:wd∈D) (d2:c.TT∈D) (hD:∀x∈D,x<⇑h)
 (H:∀h' tk' fo eo ls kvs',Kp [wd,c.TT] h h'→cP J.P h' c wd (l+ns.length+ns.length)→h'.DictOf (intKind pw J.W) c.TT kvs'→kvs'.length≤kvs.length+ns.length→view D h' fo (lst (refs ls) eo)→
  aQ J.P (view D h') (fY ns.length (l+ns.length) (fun j=>Ns.getD j 0) (fun j=>l+1+(j:Int)) pf (((Ns.zip ((List.range ns.length).map fun j:Nat=>l+1+(j:Int))).map fun q=>Nd.aP q.1 (.loc q.2))++Rs) ns.length) ls→R (rt (.ref fo)) (J.S h' tk')):
 codeAny J.M A (aK 379 [.ref W_,.ref nu,.ref va,.ref re]) R (J.S h tk):=by
 have bh:nu<⇑h:=aj bJ
 have Jg:va<⇑h:=aj kF
 have XS:re<⇑h:=aj Dl
 have lW:W_<⇑h:=aj hW
 have aD:wd<⇑h:=hD _ d1
 have iD:c.TT<⇑h:=hD _ d2
 refine DictOf.objE hTT fun ts et j5=>?_
 have fu:ns.length=Ns.length:=IntsAre.length hNs
 have B:=aG (prog:=pw) (w:=J.W) (mods:=[wd,c.TT]) TT bB (ro:=[(nu,_),(re,_)]) (rC bJ au (rC Dl au rN))
 let vv:Vv:=dj W_ nu en va re er ⇑h tk 0 0 ns (refs rs)
 refine qc.b0 vv (RA.less rfl) B (vZ .refl) (fun h1 aB H1=>.code ?_)
 have K1:Kp [wd,c.TT] h h1:=H1.kp
 have s1:⇑h1=⇑h+5:=H1.size
 have S1:Kp [] h h1:=H1.seg
 have qp:h1.IsListIter (⇑h+2) nu 0:=fR (H1.get 2 rfl)
 have T1:Tl [⇑h+2] h1:=gC (c:=⇑h+4) (H1.get 4 rfl) s1 (by left)
 refine jU qp (LW (G:=nu) (W_:=W_) (it:=⇑h+2) (acc:=⇑h+3) (L:=⇑h+4) (fr:=⇑h) (cw:=⇑h+1) (c:=c) (wd:=wd) (aa.up H1.k RA rfl) hn hNs (S1.keep _ _ (by k_in) bJ) (by exact kNc (#[0x110132c201132111,nu,⇑h] bh) (kNc (#[0x110133c201132111,nu,⇑h] bh) (kNc (#[0x110134c201132111,nu,⇑h] bh) (kNc n4 kNn)))) sV (by exact #[0x111210031003100314c203c202c2041c2052111,wd,⇑h] aD) (by exact kNc (#[0x110132c201132111,W_,⇑h] lW) (kNc (#[0x110133c201132111,W_,⇑h] lW) (kNc (#[0x110134c201132111,W_,⇑h] lW) (kNc n2 kNn)))) mP (TT.kp S1 (by k_in)) qp T1 (H1.get 3 rfl) (H1.get 4 rfl) (H1.get 1 rfl) (S1.keep _ _ (by k_in) hW) (ck.kp S1 (by k_in)) fun h2 ao ks ek K2 hk2 hks U8 qq=>?_)
 have jV:Kp [wd,c.TT] h h2:=K1.step K2 (by k_in)
 have pY:=TT.kp jV bB
 have iX:ks.length=ns.length:=by have:=IntsAre.length hks;simpa using this
 have z2:=K2.size
 have Jh:=K2.keep _ _ (by exact kNc (#[0x110132c201132111,c.TT,⇑h] iD) (kNc (#[0x110133c201132111,c.TT,⇑h] iD) (kNc (#[0x110134c201132111,c.TT,⇑h] iD) (kNc (Ne.symm n1) kNn)))) (S1.keep _ _ (by k_in) j5)
 have XT:=DictOf.at hTT j5 Jh
 refine qq.gX h0 fun a1 a2 a3 qq=>?_
 have f2:h2.get? ⇑h=some _:=K2.keep _ _ (by exact #[0x111210031003100314c203c202c204252111,wd,⇑h] aD) (H1.get 0 rfl)
 refine qc.b1 (f:=⇑h2) (RA.less rfl) B H1.k (jQ (a:=⇑h) (b:=⇑h+3) (c:=⇑h+4) jV f2 hk2 qq (by left) (by left) (by left) (.inr (by left)) (.inr (by left)) (.inr (by left))) (fun h3 az H3=>.code ?_)
 have lJ:Kp [wd,c.TT] h h3:=H3.kp
 have s3:⇑h3=⇑h2+7:=H3.size
 have S3:Kp [⇑h,⇑h+3,⇑h+4] h2 h3:=H3.seg
 have U9:=S3.keep _ _ (by exact #[0x1102102114c103c10131c1050,⇑h]) (K2.keep (⇑h+1) _ (by exact #[0x111210031003100314c203c202c2041c2052111,wd,⇑h] aD) (H1.get 1 rfl))
 have AA:=U8.kp S3 (by exact #[0x11013101310134c203c2023152111,wd,⇑h] aD)
 have zH:=S3.keep _ _ (by exact #[0x11013101310134c203c2023152111,c.TT,⇑h] iD) Jh
 have Z:gp (⇑h2+4) (⇑h2+2) (⇑h2+3) ⇑h2 (⇑h2+1) nu (⇑h+3) 0 h3:=⟨H3.get 5 rfl,H3.get 3 rfl,⟨_,_,H3.get 4 rfl⟩,(fR (H3.get 1 rfl)),(fR (H3.get 2 rfl))⟩
 have Ji:h3.get? (⇑h+3)=some (lst ks ek):=H3.get 8 rfl
 have D2:List Addr:=D
 have T3:Tl [⇑h2+4,⇑h2+3,⇑h2,⇑h2+1] h3:=qD (c:=⇑h2+6) (H3.get 7 rfl) s3 (by left) (by left) (by left) (by left)
 have ZA:ZipApart (⇑h2+4) (⇑h2+2) (⇑h2+3) ⇑h2 (⇑h2+1) nu (⇑h+3):=zipApart_new (show nu<⇑h2 from #[0x111101541114305c20322113,nu,⇑h,⇑h1,⇑h2] bh s1 z2) (show ⇑h+3<⇑h2 by left)
 refine Dm Z (Me (z:=⇑h2+4) (TI:=⇑h2+2) (TO:=⇑h2+3) (i1:=⇑h2) (i2:=⇑h2+1) (l1:=nu) (l2:=⇑h+3) (L:=⇑h2+6) (acc:=⇑h2+5) (fr:=⇑h) (D:=[⇑h,⇑h2+4,⇑h2+3,⇑h2,⇑h2+1,⇑h2+5,⇑h2+6]++D) (N:=⇑h3) (aa.up H3.k RA rfl) (by left) iX.symm (by right) Dn (by exact #[0x1111111111c1013c104c1045c1050,⇑h2]) (by exact #[0x1111111111c1013c104c1046c1050,⇑h2]) au au au au au (by exact #[0x1101101610110166c405c402154305c20322113,nu,⇑h,⇑h1,⇑h2] bh s1 z2) au (by exact #[0x110110161011016101101610110161c4043c404c404154305c20322113,nu,⇑h,⇑h1,⇑h2] bh s1 z2) d7 ZA (bl) ?_ (by k_in) (by k_in) (by k_in) (TT.kp lJ bB) Z (lJ.keep _ _ au bJ) Ji hNs hks T3 (H3.get 6 rfl) (H3.get 7 rfl) fun h4 av as IK K4 cg zJ bP=>?_)
 ·exact kAa (by k_in) fun x hx=>aJ (hD x hx) lJ.size
 have gY:Kp [wd,c.TT] h h4:=lJ.step K4 (by k_in)
 refine bP.gX h0 fun a4 a5 a6 a7 a8 bP=>?_
 have z4:=K4.size
 have f4:h4.get? ⇑h=some _:=K4.keep _ _ Dp (H3.get 0 rfl)
 refine qc.b2 (p:=⇑h4) (RA.less rfl) B H3.k (jQ (a:=⇑h) (b:=⇑h2+5) (c:=⇑h2+6) gY f4 cg bP (by left) (by left) (by left) (.inr (by left)) (.inr (by left)) (.inr (by left))) (fun h5 aY H5=>.code (ig (H5.get 1 rfl) (H5.kp.keep _ _ au Dl) ?_ ?_ fun h6 N6=>?_))
 ·simp only[refs,List.length_map];have:=zJ.1;simp only[List.length_map,List.length_zip,List.length_range]at this;exact #[0x1111015190d130120322ac103,ns.length,min Ns.length ns.length,as.length] hn this (Nat.min_le_right _ _)
 ·simp only[refs,List.length_map];have:=hR.1;exact #[0x111014190d120212050d102,Rs.length,rs.length] r2 this
 have XU:as.length=ns.length:=by have:=zJ.1;simp only[List.length_map,List.length_zip,List.length_range]at this;exact #[0x111000101810011000811422321304322124,ns.length,Ns.length,min Ns.length ns.length,as.length] fu this (Nat.min_le_right _ _) (Nat.min_eq_left (#[0x1110311202121,ns.length,Ns.length] fu))
 have z5:⇑h4≤⇑h5:=H5.seg.size
 have s6:⇑h6=⇑h5+1:=N6.size
 have U_:h6.get? ⇑h5=some _:=N6.at_
 refine qc.b3 (s:=⇑h5) (t:=⇑h6) (RA.less rfl) B H5.k (H5.rep.grow N6.kp) (fun h7 d_ H7=>.code (g8 (H7.kp.keep _ _ au bJ) (by left) fun tm fT=>?_))
 have M7:∀x∈bZ _,x<⇑h5:=H5.mlt
 have nq:⇑h5∉bZ _:=fun q=>Nat.lt_irrefl _ (M7 _ q)
 have Dq:h7.get? ⇑h5=some _:=H7.seg.keep _ _ nq U_
 have z7:⇑h6≤⇑h7:=H7.seg.size
 refine qc.b4 (RA.less rfl) B H7.k H7.rep (fun h8 ie H8=>.code (xY (n:=(ns.length:Int)) (H8.get 1 rfl) (Jj (by left)).1 (Jj (by left)).2 fun h9 N9=>?_))
 have s7:⇑h7=⇑h6:=H7.size
 have s8:⇑h8=⇑h6+1:=H8.size
 have s9:⇑h9=⇑h8+1:=N9.size
 refine qc.b5 (z:=⇑h8) (B:=⇑h9) (RA.less rfl) B H8.k (by have e:=N9.at_;rw[H8.size]at e⊢;exact H8.rep.new N9.kp e) (fun bU s_ dS=>.code ?_)
 have cV:⇑bU=⇑h9:=dS.size
 have L3:Kp [⇑h,⇑h2+4,⇑h2+3,⇑h2,⇑h2+1,⇑h2+5,⇑h2+6] h3 h4:=K4.more (by k_in)
 have m5:=At.eO (hb:=h4) (M:=[⇑h,⇑h2+4,⇑h2+3,⇑h2,⇑h2+1,⇑h2+5,⇑h2+6]) H5 (bl) (fun x hx=>.inl (pK [0,5,6] rfl x hx))
 have L5:Kp [⇑h,⇑h2+4,⇑h2+3,⇑h2,⇑h2+1,⇑h2+5,⇑h2+6] h4 h5:=H5.seg.more (pK [0,5,6] rfl)
 have L6:=L5.step N6.kp (by k_in)
 have m7:=At.eO H7 L6.size m5
 have L7:=L6.step H7.seg m5
 have m8:=At.eO H8 L7.size m7
 have L8:=L7.step H8.seg m7
 have L9:=L8.step N9.kp (by k_in)
 have kX:=L9.step dS.seg (by
  intro x hx
  change x∈List.map _ (_++_)at hx
  rw[List.map_append]at hx
  rcases mA hx with hx|hx
  ·exact m8 x hx
  ·rw[mS hx];exact .inr L8.size)
 have rW:Kp [wd,c.TT] h bU:=dS.kp
 have zL:=L3.trans kX
 have v0:∀a o,view D h a o→view ([⇑h8]++([⇑h,⇑h2+4,⇑h2+3,⇑h2,⇑h2+1,⇑h2+5,⇑h2+6]++D)) h a o:=gI (kAa (kAc (.inr (by left)) kAn) (ic (by k_in)))
 have v1:=fun a o (x:view D h a o)=>aO rW (D:=[⇑h8]++([⇑h,⇑h2+4,⇑h2+3,⇑h2,⇑h2+1,⇑h2+5,⇑h2+6]++D)) (fun x hx=>bD (bD (by rcases mC hx with rfl|hx;exact d1;rw[mS hx];exact d2))) a o (v0 a o x)
 have v4:∀a o,view ([⇑h,⇑h2+4,⇑h2+3,⇑h2,⇑h2+1,⇑h2+5,⇑h2+6]++D) h4 a o→view ([⇑h8]++([⇑h,⇑h2+4,⇑h2+3,⇑h2,⇑h2+1,⇑h2+5,⇑h2+6]++D)) bU a o:=fun a o x=>aO kX (fun x hx=>bD (cC hx)) a o (gI (ic (by k_in)) a o x)
 have Jk:⇑h5∉bZ _:=H7.dI nq (show @LT.lt Nat instLTNat _ _ by left)
 have U':=H8.seg.keep ⇑h5 _ Jk Dq
 have Va:=H8.dI Jk (show @LT.lt Nat instLTNat _ _ by left)
 have Vb:=dS.seg.keep ⇑h5 _ (fun q=>by
  change _∈List.map _ (_++_)at q
  rw[List.map_append]at q
  rcases mA q with q|q
  ·exact Va q
  ·have q:=mS q
   have q:⇑h5=⇑h8:=q
   exact #[0x1101010600c43221c10321c20123,⇑h6,⇑h5,⇑h8] s6 s8 q) (N9.kp.keep _ _ (by k_in) U')
 have Vc:=zL.keep (⇑h+1) _ (by exact #[0x1101105101105101105101105101105101105100046c305c301c3033c304c30271c2053105c20122,⇑h1,⇑h,⇑h2] s1 z2) U9
 have Vd:=zL.keep (⇑h+3) _ (by exact #[0x1101105101105101105101105101105101105100046c305c301c3033c304c30273c2053105c20122,⇑h1,⇑h,⇑h2] s1 z2) Ji
 have Ve:=AA.kp zL (by exact #[0x110110161011016101101610110161011016101101610000166c405c401c4043c404c4027154305c20322113,wd,⇑h,⇑h1,⇑h2] aD s1 z2)
 have Vf:=DictOf.at hTT j5 (zL.keep c.TT _ (by exact #[0x110110161011016101101610110161011016101101610000166c405c401c4043c404c4027154305c20322113,c.TT,⇑h,⇑h1,⇑h2] iD s1 z2) zH)
 refine codeAny_mono (I6 (it:=⇑h8) (fr:=⇑h) (cw:=⇑h+1) (W_:=W_) (wd:=wd) (nu:=nu) (va:=va) (re:=re) (kl:=⇑h+3) (c:=c) (ns:=ns) (vs:=vs) (ks:=ks) (m:=ns.length) (qh:=⇑bU) (l:=l+ns.length) (Nf:=fun j=>Ns.getD j 0) (Kf:=fun j=>l+1+(j:Int)) (pf:=pf) (F:=((Ns.zip ((List.range ns.length).map fun j:Nat=>l+1+(j:Int))).map fun q=>Nd.aP q.1 (.loc q.2))++Rs) (D:=[⇑h8]++([⇑h,⇑h2+4,⇑h2+3,⇑h2,⇑h2+1,⇑h2+5,⇑h2+6]++D)) (aa.up dS.k RA rfl) sV mP (by exact #[0x110000000000010e10000000000001e10000000000000e1010101110110000ff312a41c2051c90a21c80928707607c50625405c20422312119,wd,⇑h,c.TT,⇑h1,⇑h2,⇑h3,⇑h4,⇑h5,⇑h6,⇑h8] aD iD s1 z2 s3 z4 z5 s6 s8) (by exact kNc (#[0x110101011101101e91131c80921c70827606507c40524305c20322118,W_,⇑h,⇑h1,⇑h2,⇑h3,⇑h4,⇑h5,⇑h6,⇑h8] lW s1 z2 s3 z4 z5 s6 s8) (kNc (#[0x1101321132111,W_,⇑h] lW) (kNc n2 (kNc n3 kNn)))) (by exact #[0x110000000000010e10000000000001e10000000000000e1010101110110000ff312a43c2051c90a21c80928707607c50625405c20422312119,wd,⇑h,c.TT,⇑h1,⇑h2,⇑h3,⇑h4,⇑h5,⇑h6,⇑h8] aD iD s1 z2 s3 z4 z5 s6 s8) (by exact kNc (#[0x110101011101101e91131c80921c70827606507c40524305c20322118,va,⇑h,⇑h1,⇑h2,⇑h3,⇑h4,⇑h5,⇑h6,⇑h8] Jg s1 z2 s3 z4 z5 s6 s8) (kNc (#[0x1101321132111,va,⇑h] Jg) (kNc n6 (kNc n7 kNn)))) (by exact kNc (#[0x110101011101101e91131c80921c70827606507c40524305c20322118,nu,⇑h,⇑h1,⇑h2,⇑h3,⇑h4,⇑h5,⇑h6,⇑h8] bh s1 z2 s3 z4 z5 s6 s8) (kNc (#[0x1101321132111,nu,⇑h] bh) (kNc n4 (kNc n5 kNn)))) ?_ ?_ (oS hn rfl) hv (ox iX (oS hn rfl)) ?_ ?_ ?_ ?_ ns.length 0 (#[0x111111110c020,ns.length]) bU s_ ⇑h5 0 (as++rs) kvs (bl) (TT.kp rW bB) (dS.get 1 rfl) (fun e=>by lia) Vc (rW.keep _ _ au hW) Vd (rW.keep _ _ au kF) (rW.keep _ _ au bJ) (by simpa using Ve) Vf (#[0x11113384d12100ac20384dac1002,kvs.length,ns.length] hz hn) ⟨_,.inl (dS.get 0 rfl)⟩ ?_ (aQ.append (zJ.mono v4) (hR.mono v1)) (fun j hj=>by
  obtain⟨b,e1,e2⟩:=hp j hj
  exact⟨b,e1,e2.mono v1⟩) (fun h11 jk fo eo ls kvs' Bp Vg i9 Vh ⟨fe,tB⟩ vf Vj=>?_)) o5
 ·simp;exact #[0x111212011c011c01,Rs.length,min Ns.length ns.length] r1
 ·have:=zJ.1;simp;exact #[0x111114064d12300130050d20ac103,ns.length,Rs.length,min Ns.length ns.length] hn r2 (Nat.min_le_right _ _)
 ·intro j hj
  exact xZ hNs (by rw[List.getD_eq_getElem?_getD,List.getElem?_eq_getElem (fu▸hj)];rfl)
 ·intro j hj
  exact xZ hks (run_get hj)
 ·exact kAc (uY (kMi 0 rfl)) (kAc (kMr (uY (kMi 0 rfl))) (kAc (kMr (kMr d1)) (kAc (kMr (kMr d2)) kAn)))
 ·have q1:=rW.size
  exact kAa (by k_in) (kAa (by k_in) fun x hx=>aJ (hD x hx) q1)
 ·refine⟨fun q=>?_,by have e:refs (as++rs)=refs as++refs rs:=(by simp[refs]);rw[e];exact Vb⟩
  rcases mA q with hx|hx
  ·have q:=mS hx
   have q:⇑h5=⇑h8:=q
   exact #[0x1101010600c43221c10321c20123,⇑h6,⇑h5,⇑h8] s6 s8 q
  rcases mA hx with hx|hx
  ·simp only[eZ,g9,or_false]at hx
   rcases hx with q|q|q|q|q|q|q<;>(have q:@Eq Nat _ _:=q;lia)
  ·have q:⇑h5<⇑h:=hD _ hx
   exact #[0x111110110800c42616505407c30423105c20126,⇑h1,⇑h,⇑h2,⇑h3,⇑h4,⇑h5] s1 z2 s3 z4 z5 q
 have Vk:Kp [wd,c.TT] h h11:=rW.step Bp (by k_in)
 obtain⟨es,ef⟩:∃es,h11.get? ⇑h=some (ai ([ent J.P gB tk (.ref nu),ent J.P qd (tk+1) (.ref va),ent J.P iz (tk+2) (.ref re),ent J.P cT ao (.ref (⇑h+3)),ent J.P gw aY (.ref fo)]++es) fe):=by
  rcases tB with f|⟨_,_,_,_,_,_,f⟩
  ·exact⟨[],f⟩
  ·exact⟨_,f⟩
 refine DictOf.objE i9 fun XW XX Jl=>?_
 refine qc.b6 (D:=fo) (E:=fe) (F:=es) (G:=⇑h11) (H:=jk) (RA.less rfl) B dS.k (cQ (a:=⇑h) Vk ef (.inr (bl))) (fun h12 pU dO=>?_)
 have Dr:Kp [⇑h] h11 h12:=dO.seg
 have Jm:∀a o,view _ h11 a o→view D h12 a o:=fun a o x=>jf (D:=[⇑h8]++([⇑h,⇑h2+4,⇑h2+3,⇑h2,⇑h2+1,⇑h2+5,⇑h2+6]++D)) (fun x hx=>bD (bD hx)) a o (aO Dr (kAc (kMr (uY (kMi 0 rfl))) kAn) a o x)
 exact H h12 pU fo eo ls kvs' dO.kp (Vg.kp Dr ak) (DictOf.at i9 Jl (Dr.keep _ _ ak Jl)) Vh (Jm _ _ vf) (Vj.mono Jm)
end
end
section
variable [Zero Heap]
theorem Uz{vs:List Value}{ns:List Int}(x:IntsAre vs ns):∀k,IntsAre (vs.take k) (ns.take k):=by
 induction x with
 |nil=>intro k;simp;exact .nil
 |cons n t _ ih=>
  intro k
  cases k with
  |zero=>exact .nil
  |succ k=>exact .cons n t (ih k)
section
variable {J:WX}{A:Around}{R:RR}{h:Heap}{tk:Nat}
theorem Oo{sc ex:Nat}{xs:List Value}{ns:List Int}(RA:aa A 45)(TT:aE J.P h)(hsc:h.get? sc=some (lst xs ex))(hi:IntsAre xs ns)(hz:xs.length≤900)(l5:534≤⇑h)
 (H:∀h' tk' (dk:Nat),Kp [] h h'→cZ h' dk→⇑h≤dk→R (rt (.ref dk)) (J.S h' tk')):
 codeAny J.M A (aK 473 [.ref sc]) R (J.S h tk):=by
 have yy:sc<⇑h:=aj hsc
 have B:=aG (prog:=pw) (w:=J.W) (mods:=[]) TT (by k_in) (ro:=[(sc,_)]) (rC hsc (by k_in) rN)
 by_cases hx:xs.length=0
 ·let vv:Vv:=dj sc ex ⇑h tk 0 0 0 0 0 0 xs []
  refine yX.b0 vv (RA.less rfl) B fG (fun h1 aB H1=>.code (mW (b:=14) (H1.kp.keep _ _ (by k_in) hsc) (H1.get 0 rfl) hz fun h2 N2=>?_))
  have s1:⇑h1=⇑h+2:=H1.size
  have s2:⇑h2=⇑h1+1:=N2.size
  refine yX.b1 (a:=⇑h1) (b:=xs.take 14) (c:=⇑h2) (RA.less rfl) B H1.k (by have e:=N2.at_;rw[H1.size]at e⊢;exact H1.rep.new N2.kp e) (fun h3 az H3=>.code ?_)
  have s3:⇑h3=⇑h2+3:=H3.size
  have K3:Kp [] h h3:=H3.kp
  have hit:h3.IsListIter ⇑h2 ⇑h1 0:=fR (H3.get 1 rfl)
  have T3:Tl [⇑h2] h3:=gC (c:=⇑h2+2) (H3.get 3 rfl) s3 (by left)
  refine jU hit (C4 (aa.up (m:=0) H3.k RA rfl).handled hit (H3.get 0 rfl) (by simp[List.length_eq_zero_iff.mp hx]) fun h4 bt=>?_)
  have K4:Kp [⇑h2] h3 h4:=T3.kp (qK bt (by k_in))
  have ha:h4.get? (⇑h2+1)=some (lst [] 0):=K4.keep _ _ (by exact #[0x111111c1050,⇑h2]) (H3.get 2 rfl)
  have hL:h4.get? (⇑h2+2)=some (dct [] 0):=K4.keep _ _ (by exact #[0x111112c1050,⇑h2]) (H3.get 3 rfl)
  have gY:Kp [] h h4:=K3.step K4 (by k_in)
  have f4:h4.get? ⇑h=some _:=K4.keep _ _ ak (H3.get 4 rfl)
  refine yX.b2 (f:=⇑h4) (RA.less rfl) B H3.k (iZ (a:=⇑h) (b:=⇑h2+2) gY f4 hL (by left) (.inr (by left)) (.inr (by left))) (fun h5 aY H5=>?_)
  have S5:Kp [⇑h,⇑h2+2] h4 h5:=H5.seg
  exact H h5 aY (⇑h2+1) H5.kp ⟨[],0,[],S5.keep _ _ (by exact #[0x110000061101052c30221c3051c10322c20122,⇑h1,⇑h,⇑h2] s1 s2) ha,.nil,Nat.zero_le _⟩ (by left)
 ·let vv:Vv:=dj sc ex ⇑h tk 0 0 0 0 0 0 xs []
  refine yW.b0 vv (RA.less rfl) B fG (fun h1 aB H1=>.code (mW (b:=14) (H1.kp.keep _ _ (by k_in) hsc) (H1.get 0 rfl) hz fun h2 N2=>?_))
  have s1:⇑h1=⇑h+2:=H1.size
  have s2:⇑h2=⇑h1+1:=N2.size
  refine yW.b1 (a:=⇑h1) (b:=xs.take 14) (c:=⇑h2) (RA.less rfl) B H1.k (by have e:=N2.at_;rw[H1.size]at e⊢;exact H1.rep.new N2.kp e) (fun h3 az H3=>.code ?_)
  have s3:⇑h3=⇑h2+3:=H3.size
  have K3:Kp [] h h3:=H3.kp
  have hit:h3.IsListIter ⇑h2 ⇑h1 0:=fR (H3.get 1 rfl)
  have T3:Tl [⇑h2] h3:=gC (c:=⇑h2+2) (H3.get 3 rfl) s3 (by left)
  refine jU hit (Mp (G:=⇑h1) (it:=⇑h2) (acc:=⇑h2+1) (L:=⇑h2+2) (fr:=⇑h) (aa.up H3.k RA rfl) (by simp;exact #[0x1112064d110ec101,min 14 xs.length] (Nat.min_le_left _ _)) (oW rfl) (oW rfl) (oO rfl) (oM (oH s2 (oD rfl))) (oM (oF (oH s2 (oD rfl)))) (oM (oF (oH s2 (oD rfl)))) (oI (oG s2 (oE (oG s1 oA))) l5) (oE (oI (oG s2 (oE (oG s1 oA))) l5)) (oE (oI (oG s2 (oE (oG s1 oA))) l5)) (TT.kp K3 (by k_in)) hit (H3.get 0 rfl) (Uz hi 14) T3 (H3.get 2 rfl) (H3.get 3 rfl) fun h4 av ys ea ms K4 ha hm hl hL=>?_)
  have gY:Kp [] h h4:=K3.step K4 (by k_in)
  have f4:h4.get? ⇑h=some _:=K4.keep _ _ bw (H3.get 4 rfl)
  refine hL.gX (by simp;lia) fun t5 y5 le hL=>?_
  refine yW.b2 (h:=⇑h4) (RA.less rfl) B H3.k (iZ (a:=⇑h) (b:=⇑h2+2) gY f4 hL (by left) (.inr (by left)) (.inr (by left))) (fun h5 aY H5=>?_)
  have S5:Kp [⇑h,⇑h2+2] h4 h5:=H5.seg
  exact H h5 aY (⇑h2+1) H5.kp ⟨ys,ea,ms,S5.keep _ _ (by exact #[0x110000061101052c30221c3051c10322c20122,⇑h1,⇑h,⇑h2] s1 s2) ha,hm,by rw[hl];simp;exact #[0x1112ec110ec101,min 14 xs.length] (Nat.min_le_left _ _)⟩ (oE (oG s2 (oE (oG s1 oA))))
end
end
section
variable [Zero Heap]
section
variable {J:WX}{A:Around}{E:Value→Shared→Prop}{Q:Value→Shared→Prop}{h:Heap}{tk:Nat}
theorem Jo{l:Addr}{bs:List Bool}{ep:Nat}(hh:A.handled=none)(hl:h.get? l=some (lst (bs.map Value.bool) ep))
 (H:∀h' tk',(∀b o,h.get? b=some o→h'.get? b=some o)→Q (.bool (bs.all id)) (J.S h' tk')):wpAny J.M A (PySem.call (.builtin "all") [.ref l]) Q E (J.S h tk):=by
 have hl':h.IsList l ⟨bs.map Value.bool⟩:=zm hl
 have hlt:l<⇑h:=aj hl
 refine call_all_walk (wpAny_pyIter_list (s:=(J.S h tk)) hl' ?_)
 refine⟨⇑h,[⇑h,l],[⇑h],(⟨bs.map Value.bool⟩:Array Value).size,_,_,fun i=>(bs[i]?).getD true,rfl,Walks.list (A:=A.in1) hh _ l (gP hlt) ⟨bs.map Value.bool⟩,
  ⟨⟨_,Heap.get?_push_size _ rfl,rfl,rfl⟩,hl'.push _⟩,fun i v s' Q' E' hP hQ=>?_,fun h' tk hk=>?_⟩
 ·have hP:(bs.map Value.bool)[i]? =some v:=by simpa using hP
  rw[List.getElem?_map,Option.map_eq_some_iff]at hP
  obtain⟨b,e,rfl⟩:=hP
  simp only[e,Option.getD_some]at hQ
  exact wpAny_truthy_bool hQ
 ·have e:((List.range (⟨bs.map Value.bool⟩:Array Value).size).all fun i=>(bs[i]?).getD true)=bs.all id:=by
   rw[List.size_toArray,List.length_map];exact LSm.range_all bs
  rw[e]
  exact H h' tk fun b o eb=>hk b o (fun hm=>by rw[mS hm]at eb;exact Nat.lt_irrefl _ (aj eb)) (Heap.get?_push_of_some _ eb)
end
theorem Rep.all{V:Vw}{h₀ h h':Heap}{mods:List Addr}{mu:List Ent}{sz:Nat}(D:Rep V h₀ mods h mu sz)(k:∀b o,h.get? b=some o→h'.get? b=some o)(z:⇑h₀≤⇑h'):Rep V h₀ mods h' mu ⇑h':=
 ⟨rfl,fun p hp=>k _ _ (D.at_ p hp),D.nd,D.own,fun b o hb e=>k _ _ (D.keep b o hb e),z⟩
theorem Ds{vs:List Value}{ns:List Int}(x:IntsAre vs ns):∃xs:List (Int×Nat),vs=xs.map rL∧xs.map (·.1)=ns:=by
 induction x with
 |nil=>exact⟨[],rfl,rfl⟩
 |cons n t _ ih=>
  obtain⟨xs,e1,e2⟩:=ih
  exact⟨(n,t)::xs,by rw[e1];rfl,by rw[←e2];rfl⟩
theorem wC(as:List Addr)(k:Nat):(refs as).take k=refs (as.take k):=by simp[refs,List.map_take]
theorem Dt(as:List Addr)(k:Nat):(refs as).drop k=refs (as.drop k):=by simp[refs,List.map_drop]
theorem qm(as bs:List Addr):refs as++refs bs=refs (as++bs):=by simp[refs]
noncomputable def rootOf(lb:Int)(Ns:List Int)(body:Nd):Nd:=.call (.lam lb Ns body) (Ns.map fun _=>.aS)
noncomputable def iN(Ns:List Int)(aC:List Nd):List Nd:=((Ns.zip (aC.take Ns.length)).map fun q=>Nd.aP q.1 q.2)++aC.drop Ns.length
section
variable {J:WX}{A:Around}{R:RR}{h:Heap}{tk:Nat}{D:List Addr}
theorem QT{W_ nu pp en ep lR:Nat}{lb:Int}{ns:List Value}{Ns:List Int}{aC:List Nd}{as:List Addr}(RA:aa A 110)(TT:aE J.P h)(bJ:h.get? nu=some (lst ns en))(hpp:h.get? pp=some (lst (refs as) ep))(hNs:IntsAre ns Ns)(hn:aQ J.P (view D h) aC as)(hm1:1≤ns.length)(hm2:ns.length=1)(hl:ns.length+2≤aC.length)(hl2:aC.length≤60)(hD:∀x∈D,x<⇑h)(nD:nu∉D)(l5:534≤⇑h)
 (H:∀h' tk' (a:Nat),Kp [] h h'→aM J.P (view D h') (rootOf lb Ns (.seq (iN Ns aC))) a→R (rt (.ref a)) (J.S h' tk')):
 codeAny J.M A (aK 384 [.ref W_,.int lb lR,.ref nu,.ref pp]) R (J.S h tk):=by
 have bh:nu<⇑h:=aj bJ
 have Jp:pp<⇑h:=aj hpp
 have fu:ns.length=Ns.length:=IntsAre.length hNs
 have hal:aC.length=as.length:=hn.1
 have mF:(refs as).length=as.length:=List.length_map ..
 have B:=aG (prog:=pw) (w:=J.W) (mods:=[]) TT (by k_in) (ro:=[(nu,_),(pp,_)]) (rC bJ (by k_in) (rC hpp (by k_in) rN))
 let vv:Vv:=dj W_ lR nu en pp ep ⇑h tk 0 lb ns (refs as)
 refine l_.b0 vv (RA.less rfl) B (vZ .refl) (fun h1 aB H1=>.code (g8 (H1.kp.keep _ _ (by k_in) bJ) (#[0x110133e8d1101c121,ns.length] hm2) fun tm ao=>?_))
 refine l_.b1 (RA.less rfl) B H1.k H1.rep (fun h2 az H2=>.code (vo (c:=false) (by simp;lia) ?_))
 refine l_.b2 (RA.less rfl) B H2.k H2.rep (fun h3 av H3=>.code (mW (b:=ns.length) (H3.kp.keep _ _ (by k_in) hpp) (H3.get 0 rfl) (ox mF (ox hal.symm (oS hl2 rfl))) fun h4 N4=>?_))
 have s3:⇑h3=⇑h+2:=H3.size
 have s4:⇑h4=⇑h3+1:=N4.size
 refine l_.b3 (e:=⇑h3) (f:=(refs as).take ns.length) (g:=⇑h4) (RA.less rfl) B H3.k (by have e:=N4.at_;rw[H3.size]at e⊢;exact H3.rep.new N4.kp e) (fun h5 aY H5=>.code ?_)
 have s5:⇑h5=⇑h4+7:=H5.size
 have K5:Kp [] h h5:=H5.kp
 have Z:gp (⇑h4+4) (⇑h4+2) (⇑h4+3) ⇑h4 (⇑h4+1) nu ⇑h3 0 h5:=⟨H5.get 5 rfl,H5.get 3 rfl,⟨_,_,H5.get 4 rfl⟩,(fR (H5.get 1 rfl)),(fR (H5.get 2 rfl))⟩
 have ZA:ZipApart (⇑h4+4) (⇑h4+2) (⇑h4+3) ⇑h4 (⇑h4+1) nu ⇑h3:=zipApart_new (show nu<⇑h4 from #[0x1110101641111c30422c20322113,nu,⇑h,⇑h3,⇑h4] bh s3 s4) (show ⇑h3<⇑h4 by left)
 have T5:Tl [⇑h4+4,⇑h4+3,⇑h4,⇑h4+1] h5:=qD (c:=⇑h4+6) (H5.get 7 rfl) s5 (by left) (by left) (by left) (by left)
 have vM:∀a o,view D h a o→view ([⇑h,⇑h4+4,⇑h4+3,⇑h4,⇑h4+1,⇑h4+5,⇑h4+6]++D) h a o:=gI (ic (by k_in))
 refine Dm Z (Ed (z:=⇑h4+4) (TI:=⇑h4+2) (TO:=⇑h4+3) (i1:=⇑h4) (i2:=⇑h4+1) (l1:=nu) (l2:=⇑h3) (L:=⇑h4+6) (acc:=⇑h4+5) (fr:=⇑h) (D:=[⇑h,⇑h4+4,⇑h4+3,⇑h4,⇑h4+1,⇑h4+5,⇑h4+6]++D) (N:=⇑h5) (vs:=aC.take ns.length) (bs:=as.take ns.length) (aa.up H5.k RA rfl) (ox hm2 (oz rfl)) (by simp[refs];exact #[0x1100141100411222122102,min ns.length as.length,ns.length] (Nat.min_le_left _ _) (Nat.min_eq_left (#[0x110114311032222c1002,ns.length,aC.length,as.length] hl hal))) (oO rfl) Dn (by exact #[0x1111111111c1013c104c1045c1050,⇑h4]) (by exact #[0x1111111111c1013c104c1046c1050,⇑h4]) au au au au au (by exact #[0x110101017101010176c405c402151c30422c20322113,nu,⇑h,⇑h3,⇑h4] bh s3 s4) au (by exact #[0x1101010171010101710101017101010171c4043c404c404151c30422c20322113,nu,⇑h,⇑h3,⇑h4] bh s3 s4) d7 ZA (bl) ?_ (by k_in) (by k_in) (by k_in) (TT.kp K5 (by k_in)) Z (K5.keep _ _ (by k_in) bJ) (H5.get 8 rfl) hNs (wC _ _) ((hn.take ns.length).mono fun a o x=>aO K5 (by k_in) a o (vM a o x)) (by simp;exact #[0x11001016110010631221321302123,ns.length,Ns.length,min ns.length aC.length] fu (Nat.min_le_left _ _) (Nat.min_eq_left (#[0x1112211022c1001,ns.length,aC.length] hl))) T5 (H5.get 6 rfl) (H5.get 7 rfl) fun h6 gG kY Vl K6 Du rX rY=>?_)
 ·exact kAa (by k_in) fun x hx=>aJ (hD x hx) K5.size
 have Dv:Kp [] h h6:=K5.step K6 (by k_in)
 refine rY.gX hm1 fun a4 a5 a6 a7 a8 rY=>?_
 have z6:=K6.size
 have f6:h6.get? ⇑h=some _:=K6.keep _ _ Dp (H5.get 0 rfl)
 refine l_.b4 (r:=⇑h6) (RA.less rfl) B H5.k (jQ (a:=⇑h) (b:=⇑h4+5) (c:=⇑h4+6) Dv f6 Du rY (oM (oF (oH s4 (oF (oH s3 (oD rfl)))))) (oM (oF (oH s4 (oF (oH s3 (oD rfl)))))) (oO rfl) (.inr oR) (.inr (oE (oG s4 (oE (oG s3 oA))))) (.inr (oE (oG s4 (oE (oG s3 oA)))))) (fun h7 d_ H7=>.code (yd (b:=ns.length) (H7.kp.keep _ _ (by k_in) hpp) (H7.get 0 rfl) (ox mF (ox hal.symm (oS hl2 rfl))) fun h8 N8=>?_))
 have s7:⇑h7=⇑h6+1:=H7.size
 have s8:⇑h8=⇑h7+1:=N8.size
 refine l_.b5 (t:=⇑h7) (u:=(refs as).drop ns.length) (w:=⇑h8) (RA.less rfl) B H7.k (by have e:=N8.at_;rw[H7.size]at e⊢;exact H7.rep.new N8.kp e) (fun h9 ie H9=>.code (ig (H9.get 0 rfl) (H9.get 1 rfl) ?_ ?_ fun bU jw=>?_))
 ·have:=rX.1;simp only[List.length_map,List.length_zip,List.length_take]at this;simp only[refs,List.length_map];exact #[0x1111010018190d1402304322121c124,ns.length,Ns.length,min Ns.length (min ns.length aC.length),kY.length] hm2 fu this (Nat.min_le_left _ _)
 ·simp[refs];exact #[0x1110143190d012021203cd102,aC.length,as.length,ns.length] hl2 hal
 have s9:⇑h9=⇑h8:=H9.size
 have cV:⇑bU=⇑h9+1:=jw.size
 have hsl:=rX.1
 simp only[List.length_map,List.length_zip,List.length_take]at hsl
 have Dw:(iN Ns aC).length=aC.length:=by unfold iN;simp;exact #[0x111010061010016413102423022122103,min Ns.length aC.length,Ns.length,aC.length-Ns.length,aC.length] (Nat.min_le_left _ _) (Nat.min_eq_left (#[0x111014213031222c1002,ns.length,aC.length,Ns.length] hl fu)) (Nat.sub_add_cancel (#[0x111014213031222c1002,ns.length,aC.length,Ns.length] hl fu))
 have wD:(kY++as.drop ns.length).length=aC.length:=by simp;exact #[0x1110010010101c100101101010c317602252250417026524322126,ns.length,Ns.length,aC.length,as.length,min Ns.length (min ns.length aC.length),kY.length,as.length-ns.length] fu hal hsl (Nat.sub_add_cancel (#[0x110114311032222c1002,ns.length,aC.length,as.length] hl hal)) (Nat.min_le_left _ _) (Nat.min_eq_left (#[0x111010531201322122,ns.length,Ns.length,min ns.length aC.length] fu (Nat.min_eq_left (#[0x1112211022c1001,ns.length,aC.length] hl))))
 have Dy:bU.get? ⇑h9=some (lst (refs (kY++as.drop ns.length)) 0):=by have e:=jw.at_;rw[Dt,qm]at e;exact e
 refine l_.b6 (y:=⇑h9) (z:=⇑bU) (RA.less rfl) B H9.k (H9.rep.grow jw.kp) (fun h11 jk aZ=>.code ?_)
 have wF:⇑h9∉bZ _:=fun q=>Nat.lt_irrefl _ (H9.mlt _ q)
 have wG:=aZ.seg.keep ⇑h9 _ wF Dy
 have cJ:⇑h11=⇑bU:=aZ.size
 have m7:=At.eO (hb:=h6) (M:=[⇑h,⇑h4+4,⇑h4+3,⇑h4,⇑h4+1,⇑h4+5,⇑h4+6]) H7 (bl) (fun x hx=>.inl (pK [0,5,6] rfl x hx))
 have L7:Kp [⇑h,⇑h4+4,⇑h4+3,⇑h4,⇑h4+1,⇑h4+5,⇑h4+6] h6 h7:=H7.seg.more (pK [0,5,6] rfl)
 have L8:=L7.step N8.kp (by k_in)
 have m8:∀x∈((fc _++[(⇑h7,lst ((refs as).drop ns.length) 0)]).map (·.1):List Nat),x∈[⇑h,⇑h4+4,⇑h4+3,⇑h4,⇑h4+1,⇑h4+5,⇑h4+6]∨⇑h6≤x:=fun x hx=>by
  change _∈List.map _ (_++_)at hx
  rw[List.map_append]at hx
  rcases mA hx with hx|hx
  ·exact m7 x hx
  ·rw[mS hx];exact .inr L7.size
 have m9:=At.eO (hb:=h6) (M:=[⇑h,⇑h4+4,⇑h4+3,⇑h4,⇑h4+1,⇑h4+5,⇑h4+6]) H9 L8.size m8
 have L9:=L8.step H9.seg m8
 have kX:=L9.step jw.kp (by k_in)
 have qv:=At.eO aZ kX.size m9
 have rZ:=kX.step aZ.seg m9
 refine Dk (aa.up aZ.k RA rfl) (TT.kp aZ.kp (by k_in)) wG (by simp only[refs,List.length_map,wD];exact oI hl (Oi hm2 (oz rfl))) (by simp only[refs,List.length_map,wD];left) fun h12 pU sq sd t ed dG a0 d0 wH wI=>?_
 have qw:=rZ.step dG (by k_in)
 refine l_.b7 (C:=sq) (D:=⇑h12) (RA.less rfl) B aZ.k (aZ.rep.grow dG) (fun cX ri bk=>.code ?_)
 have wJ:∀{x:Nat},⇑h11≤x→x∉bZ _:=fun hx q=>Nat.lt_irrefl _ (aJ (aZ.mlt _ q) hx)
 have Dz:=bk.seg.keep sq _ (wJ a0) wH
 have DA:=bk.seg.keep sd _ (wJ d0) wI
 have DB:=bk.seg.keep ⇑h9 _ (aZ.dI wF (show @LT.lt Nat instLTNat _ _ by left)) (dG.keep _ _ (by k_in) wG)
 have r_:=qw.step bk.seg qv
 have j6:⇑cX=⇑h12+6:=bk.size
 have cu:=dG.size
 have iw:Kp [] h cX:=bk.kp
 have qx:cX.IsListIter (⇑h12+3) nu 0:=fR (bk.get 2 rfl)
 have dP:Tl [⇑h12+3] cX:=gC (c:=⇑h12+5) (bk.get 4 rfl) j6 (by left)
 refine jU qx (Aq (G:=nu) (it:=⇑h12+3) (acc:=⇑h12+4) (L:=⇑h12+5) (fr:=⇑h) (D:=[⇑h,⇑h12+3,⇑h12+4,⇑h12+5]++D) (N:=⇑cX) (aa.up bk.k RA rfl) (ox hm2 (oz rfl)) (oO rfl) (oO rfl) (oO rfl) (oM (oF (oJ (oI cu (oG cJ (oG cV (oE (oG s9 (oG s8 (oE (oG s7 (oE (oI z6 (oG s5 (oE (oG s4 (oE (oG s3 oA))))))))))))))) bh))) (oM (oF (oJ (oI cu (oG cJ (oG cV (oE (oG s9 (oG s8 (oE (oG s7 (oE (oI z6 (oG s5 (oE (oG s4 (oE (oG s3 oA))))))))))))))) bh))) (oM (oF (oJ (oI cu (oG cJ (oG cV (oE (oG s9 (oG s8 (oE (oG s7 (oE (oI z6 (oG s5 (oE (oG s4 (oE (oG s3 oA))))))))))))))) bh))) (oE (oI (oI cu (oG cJ (oG cV (oE (oG s9 (oG s8 (oE (oG s7 (oE (oI z6 (oG s5 (oE (oG s4 (oE (oG s3 oA))))))))))))))) l5)) (oE (oI (oI cu (oG cJ (oG cV (oE (oG s9 (oG s8 (oE (oG s7 (oE (oI z6 (oG s5 (oE (oG s4 (oE (oG s3 oA))))))))))))))) l5)) (oE (oI (oI cu (oG cJ (oG cV (oE (oG s9 (oG s8 (oE (oG s7 (oE (oI z6 (oG s5 (oE (oG s4 (oE (oG s3 oA))))))))))))))) l5)) (bl) ?_ (by k_in) (by k_in) (by k_in) (TT.kp iw (by k_in)) qx (iw.keep _ _ (by k_in) bJ) hNs dP (bk.get 3 rfl) (bk.get 4 rfl) fun gy vh us Jq eB wK wL kZ=>?_)
 ·exact kAa (by k_in) fun x hx=>aJ (hD x hx) iw.size
 refine kZ.gX hm1 fun a9 vI vJ kZ=>?_
 have wM:Kp [] h gy:=iw.step eB (by k_in)
 have wN:gy.get? ⇑h=some _:=eB.keep _ _ bw (bk.get 5 rfl)
 have qy:=eB.size
 refine l_.b8 (I:=⇑gy) (RA.less rfl) B bk.k (iZ (a:=⇑h) (b:=⇑h12+5) wM wN kZ (by left) (.inr (by left)) (.inr (by left))) (fun cY ud gO=>?_)
 have iE:Kp [⇑h,⇑h12+5] gy cY:=gO.seg
 have ja:∀{x:Nat}{o:Obj},x≠⇑h→(x<⇑h12+3)→cX.get? x=some o→cY.get? x=some o:=fun{x o} a b e=>iE.keep x o (by exact kNc a (kNc (#[0x110135c201133c20111,x,⇑h12] b) kNn)) (eB.keep x o (by exact #[0x11013101310135c204c203c203153c20111,x,⇑h12] b) e)
 have mG:Kp [] h cY:=gO.kp
 have hv:∀{x:Nat}{o:Obj},⇑h≤x→cY.get? x=some o→view D cY x o:=fun hc e=>iI hD hc e
 ac_rfl
 obtain⟨xs,wO,wQ⟩:=Ds hNs
 have wR:Kp [⇑h,⇑h12+3,⇑h12+4,⇑h12+5] cX cY:=(eB.more (by k_in)).trans (iE.more (by k_in))
 have vL:∀a o,view ([⇑h,⇑h4+4,⇑h4+3,⇑h4,⇑h4+1,⇑h4+5,⇑h4+6]++D) h6 a o→view D cY a o:=fun a o x=>jf (D:=[⇑h12+3,⇑h12+4,⇑h12+5]++([⇑h,⇑h4+4,⇑h4+3,⇑h4,⇑h4+1,⇑h4+5,⇑h4+6]++D)) (fun x hx=>bD (bD hx)) a o (aO wR (fun x hx=>by
  rcases mC hx with rfl|hx
  ·exact kMr (uY (kMi 0 rfl))
  ·exact cC hx) a o (aO r_ (fun x hx=>bD (cC hx)) a o (gI (ic (have CY:⇑h6≤⇑h12:=qw.size;by k_in)) a o x)))
 have DC:aQ J.P (view D cY) (iN Ns aC) (kY++as.drop ns.length):=by
  unfold iN
  rw[←fu]
  exact(rX.mono vL).append ((hn.drop ns.length).mono (aO mG (by k_in)))
 have hbody:aM J.P (view D cY) (.seq (iN Ns aC)) sq:=by
  have l1:sq<⇑h12:=aj wH
  have l2:sd<⇑h12:=aj wI
  have o8:⇑h6≤⇑h11:=rZ.size
  refine DC.seq (hv (#[0x11111101010a71206507605407c30421c10322c20126,⇑h3,⇑h,⇑h4,⇑h5,⇑h6,⇑h11,sq] s3 s4 s5 z6 a0 o8) (ja (#[0x11111101010a21736507605407c30421c10322c20126,⇑h3,⇑h,⇑h4,⇑h5,⇑h6,⇑h11,sq] s3 s4 s5 z6 a0 o8) (#[0x11123c201112111,sq,⇑h12] l1) Dz)) (hv (#[0x11111101010a71206507605407c30421c10322c20126,⇑h3,⇑h,⇑h4,⇑h5,⇑h6,⇑h11,sd] s3 s4 s5 z6 d0 o8) (ja (#[0x11111101010a21736507605407c30421c10322c20126,⇑h3,⇑h,⇑h4,⇑h5,⇑h6,⇑h11,sd] s3 s4 s5 z6 d0 o8) (#[0x11123c201112111,sd,⇑h12] l2) DA)) (hv (#[0x111010101101010e81207821c60721c50625407c30421c10322c20127,⇑h3,⇑h,⇑h4,⇑h5,⇑h6,⇑h7,⇑h8,⇑h9] s3 s4 s5 z6 s7 s8 s9) (ja (#[0x111010101101010e21837821c60721c50625407c30421c10322c20127,⇑h3,⇑h,⇑h4,⇑h5,⇑h6,⇑h7,⇑h8,⇑h9] s3 s4 s5 z6 s7 s8 s9) (#[0x111101063c401214301321c20123,⇑bU,⇑h9,⇑h11,⇑h12] cV cJ cu) DB)) (by rw[Dw];left)
 refine H cY ud (⇑gy+1) mG (aQ.call (wL.mono (fun a o x=>jf (D:=[⇑h,⇑h12+3,⇑h12+4,⇑h12+5]++D) (fun x hx=>bD hx) a o (aO iE (by k_in) a o x))) (hv (oE (oI qy (oG j6 (oE (oI cu (oG cJ (oG cV (oE (oG s9 (oG s8 (oE (oG s7 (oE (oI z6 (oG s5 (oE (oG s4 (oE (oG s3 oA))))))))))))))))))) (gO.get 1 rfl)) (hv (oI qy (oG j6 (oE (oI cu (oG cJ (oG cV (oE (oG s9 (oG s8 (oE (oG s7 (oE (oI z6 (oG s5 (oE (oG s4 (oE (oG s3 oA)))))))))))))))))) (gO.get 0 rfl)) ?_ (hv (oE (oI cu (oG cJ (oG cV (oE (oG s9 (oG s8 (oE (oG s7 (oE (oI z6 (oG s5 (oE (oG s4 (oE (oG s3 oA)))))))))))))))) (iE.keep _ _ (by exact #[0x11000000000000000000014f111010101010110101013f5cb0224cb05ba09a21c80927821c60721c50625407c30421c10322c2012a,⇑h3,⇑h,⇑h4,⇑h5,⇑h6,⇑h7,⇑h8,⇑h9,⇑bU,⇑h11,⇑h12] s3 s4 s5 z6 s7 s8 s9 cV cJ cu) wK)) (by simp;exact ox fu.symm (ox hm2 (oz rfl))))
 refine .lam (hv (by left) (ja (by right) (by left) (bk.get 1 rfl))) (hv (by left) (ja (by right) (by left) (bk.get 0 rfl))) (xs:=xs) (ep:=en) ⟨nD,by rw[←wO];exact mG.keep _ _ (by k_in) bJ⟩ wQ hbody
theorem QU{W_ nu pp en ep lR:Nat}{lb:Int}{ns:List Value}{Ns:List Int}{aC:List Nd}{as:List Addr}(RA:aa A 110)(TT:aE J.P h)(bJ:h.get? nu=some (lst ns en))(hpp:h.get? pp=some (lst (refs as) ep))(hNs:IntsAre ns Ns)(hn:aQ J.P (view D h) aC as)(hm1:1≤ns.length)(hm2:2≤ns.length)(qz:ns.length≤10)(hst:∀x∈aC.take ns.length,qE x)(hall:((aC.take ns.length).map gA).all id=true)(hl:ns.length+2≤aC.length)(hl2:aC.length≤60)(hD:∀x∈D,x<⇑h)(nD:nu∉D)(l5:534≤⇑h)
 (H:∀h' tk' (a:Nat),Kp [] h h'→aM J.P (view D h') (rootOf lb Ns (.seq (iN Ns aC))) a→R (rt (.ref a)) (J.S h' tk')):
 codeAny J.M A (aK 384 [.ref W_,.int lb lR,.ref nu,.ref pp]) R (J.S h tk):=by
 have bh:nu<⇑h:=aj bJ
 have Jp:pp<⇑h:=aj hpp
 have fu:ns.length=Ns.length:=IntsAre.length hNs
 have hal:aC.length=as.length:=hn.1
 have mF:(refs as).length=as.length:=List.length_map ..
 have B:=aG (prog:=pw) (w:=J.W) (mods:=[]) TT (by k_in) (ro:=[(nu,_),(pp,_)]) (rC bJ (by k_in) (rC hpp (by k_in) rN))
 let vv:Vv:=dj W_ lR nu en pp ep ⇑h tk 0 lb ns (refs as)
 refine ju.b0 vv (RA.less rfl) B (vZ .refl) (fun h1 aB H1=>.code (g8 (H1.kp.keep _ _ (by k_in) bJ) (by left) fun tm ao=>?_))
 refine ju.b1 (RA.less rfl) B H1.k H1.rep (fun h2 az H2=>.code (vo (c:=true) (by simp;lia) ?_))
 refine ju.b2 (RA.less rfl) B H2.k H2.rep (fun e3 av G3=>.code (mW (b:=ns.length) (G3.kp.keep _ _ (by k_in) hpp) (G3.get 0 rfl) (#[0x11011016384d13023221203cd103,aC.length,as.length,(refs as).length] hl2 hal mF) fun e4 N0=>?_))
 have z3:⇑e3=⇑h+2:=G3.size
 have z4:⇑e4=⇑e3+1:=N0.size
 refine ju.b3 (e:=⇑e3) (f:=(refs as).take ns.length) (g:=⇑e4) (RA.less rfl) B G3.k (by have e:=N0.at_;rw[G3.size]at e⊢;exact G3.rep.new N0.kp e) (fun e5 Vn G5=>.code ?_)
 have z5:⇑e5=⇑e4+3:=G5.size
 have ite:e5.IsListIter ⇑e4 ⇑e3 0:=⟨_,G5.get 1 rfl,rfl,rfl⟩
 have Te:Tl [⇑e4] e5:=gC (c:=⇑e4+2) (G5.get 3 rfl) z5 (by left)
 have sf:Kp [] h e5:=G5.kp
 have q_:e5.get? ⇑e3=some (lst (refs (as.take ns.length)) 0):=by rw[←wC];exact G5.get 4 rfl
 refine jU ite (Ea (N:=0) (G:=⇑e3) (it:=⇑e4) (acc:=⇑e4+1) (L:=⇑e4+2) (fr:=⇑h) (D:=[⇑e4,⇑e4+1,⇑e4+2]++D) (as:=as.take ns.length) (aC:=aC.take ns.length) (aa.up G5.k RA rfl) (by simp;exact #[0x11113064d120120ac102,ns.length,min ns.length as.length] qz (Nat.min_le_left _ _)) (oW rfl) (oW rfl) (oO rfl) (oM (oH z4 (oD rfl))) (oM (oF (oH z4 (oD rfl)))) (oM (oF (oH z4 (oD rfl)))) (oI (oG z4 (oE (oG z3 oA))) l5) (oE (oI (oG z4 (oE (oG z3 oA))) l5)) (oE (oI (oG z4 (oE (oG z3 oA))) l5)) (by k_in) (by k_in) (by k_in) hst (TT.kp sf (by k_in)) ite q_ ((hn.take ns.length).mono fun a o x=>aO sf (by k_in) a o (gI (ic (by k_in)) a o x)) Te (G5.get 2 rfl) (G5.get 3 rfl) fun e6 IS ee uq DE hLe=>?_)
 ac_rfl
 obtain⟨Vo,Vp,Vr,hLe⟩:=hLe.pos (by simp[refs];exact #[0x111014211c012212c02,ns.length,min ns.length as.length] hm2 (Nat.min_eq_left (#[0x110114311032222c1002,ns.length,aC.length,as.length] hl hal)))
 have DF:Kp [] h e6:=sf.step uq (by k_in)
 have DG:e6.get? ⇑h=some _:=uq.keep _ _ bw (G5.get 0 rfl)
 refine ju.b4 (n:=⇑e6) (RA.less rfl) B G5.k (jQ (a:=⇑h) (b:=⇑e4+1) (c:=⇑e4+2) DF DG DE hLe (by left) (by left) (by left) (.inr (by left)) (.inr (by left)) (.inr (by left))) (fun e7 Vs G7=>.call (Jo (bs:=(aC.take ns.length).map gA) (aa.up (m:=0) G7.k RA rfl).handled (by rw[List.map_map];exact G7.get 0 rfl) fun e8 IU ka=>?_))
 rw[hall]
 have z8:⇑e4+1<⇑e8:=aj (ka _ _ (G7.get 0 rfl))
 refine ju.b5 (r:=⇑e8) (RA.less rfl) B G7.k (G7.rep.all ka (oL z8 (oE (oG z4 (oE (oG z3 oA)))))) (fun h3 av H3=>.code (mW (b:=ns.length) (H3.kp.keep _ _ (by k_in) hpp) (H3.get 0 rfl) (ox mF (ox hal.symm (oS hl2 rfl))) fun h4 N4=>?_))
 have s3:⇑h3=⇑e8+1:=H3.size
 have s4:⇑h4=⇑h3+1:=N4.size
 refine ju.b6 (t:=⇑h3) (u:=(refs as).take ns.length) (w:=⇑h4) (RA.less rfl) B H3.k (by have e:=N4.at_;rw[H3.size]at e⊢;exact H3.rep.new N4.kp e) (fun h5 aY H5=>.code ?_)
 have s5:⇑h5=⇑h4+7:=H5.size
 have K5:Kp [] h h5:=H5.kp
 have Z:gp (⇑h4+4) (⇑h4+2) (⇑h4+3) ⇑h4 (⇑h4+1) nu ⇑h3 0 h5:=⟨H5.get 5 rfl,H5.get 3 rfl,⟨_,_,H5.get 4 rfl⟩,(fR (H5.get 1 rfl)),(fR (H5.get 2 rfl))⟩
 have ZA:ZipApart (⇑h4+4) (⇑h4+2) (⇑h4+3) ⇑h4 (⇑h4+1) nu ⇑h3:=zipApart_new (show nu<⇑h4 from #[0x111010110101b71111c60721c506251c4011c30422c20322116,nu,⇑h,⇑e3,⇑e4,⇑e8,⇑h3,⇑h4] bh z3 z4 z8 s3 s4) (show ⇑h3<⇑h4 by left)
 have T5:Tl [⇑h4+4,⇑h4+3,⇑h4,⇑h4+1] h5:=qD (c:=⇑h4+6) (H5.get 7 rfl) s5 (by left) (by left) (by left) (by left)
 have vM:∀a o,view D h a o→view ([⇑h,⇑h4+4,⇑h4+3,⇑h4,⇑h4+1,⇑h4+5,⇑h4+6]++D) h a o:=gI (ic (by k_in))
 refine Dm Z (Ed (z:=⇑h4+4) (TI:=⇑h4+2) (TO:=⇑h4+3) (i1:=⇑h4) (i2:=⇑h4+1) (l1:=nu) (l2:=⇑h3) (L:=⇑h4+6) (acc:=⇑h4+5) (fr:=⇑h) (D:=[⇑h,⇑h4+4,⇑h4+3,⇑h4,⇑h4+1,⇑h4+5,⇑h4+6]++D) (N:=⇑h5) (vs:=aC.take ns.length) (bs:=as.take ns.length) (aa.up H5.k RA rfl) (by left) (by simp[refs];exact #[0x1100141100411222122102,min ns.length as.length,ns.length] (Nat.min_le_left _ _) (Nat.min_eq_left (#[0x110114311032222c1002,ns.length,aC.length,as.length] hl hal))) (by right) Dn (by exact #[0x1111111111c1013c104c1045c1050,⇑h4]) (by exact #[0x1111111111c1013c104c1046c1050,⇑h4]) au au au au au (by exact #[0x1101010110101c101010110101c6c705c702151c60721c506251c4011c30422c20322116,nu,⇑h,⇑e3,⇑e4,⇑e8,⇑h3,⇑h4] bh z3 z4 z8 s3 s4) au (by exact #[0x1101010110101c101010110101c101010110101c101010110101c1c7073c704c704151c60721c506251c4011c30422c20322116,nu,⇑h,⇑e3,⇑e4,⇑e8,⇑h3,⇑h4] bh z3 z4 z8 s3 s4) d7 ZA (bl) ?_ (by k_in) (by k_in) (by k_in) (TT.kp K5 (by k_in)) Z (K5.keep _ _ (by k_in) bJ) (H5.get 8 rfl) hNs (wC _ _) ((hn.take ns.length).mono fun a o x=>aO K5 (by k_in) a o (vM a o x)) (by simp;exact #[0x11001016110010631221321302123,ns.length,Ns.length,min ns.length aC.length] fu (Nat.min_le_left _ _) (Nat.min_eq_left (#[0x1112211022c1001,ns.length,aC.length] hl))) T5 (H5.get 6 rfl) (H5.get 7 rfl) fun h6 gG kY Vl K6 Du rX rY=>?_)
 ·exact kAa (by k_in) fun x hx=>aJ (hD x hx) K5.size
 have Dv:Kp [] h h6:=K5.step K6 (by k_in)
 refine rY.gX hm1 fun a4 a5 a6 a7 a8 rY=>?_
 have z6:=K6.size
 have f6:h6.get? ⇑h=some _:=K6.keep _ _ Dp (H5.get 0 rfl)
 refine ju.b7 (G:=⇑h6) (RA.less rfl) B H5.k (jQ (a:=⇑h) (b:=⇑h4+5) (c:=⇑h4+6) Dv f6 Du rY (oM (oF (oH s4 (oF (oH s3 (oF (oK z8 (oE (oG z4 (oE (oG z3 oA))))))))))) (oM (oF (oH s4 (oF (oH s3 (oF (oK z8 (oE (oG z4 (oE (oG z3 oA))))))))))) (oO rfl) (.inr oR) (.inr (oE (oG s4 (oE (oG s3 (oE (oL z8 (oE (oG z4 (oE (oG z3 oA))))))))))) (.inr (oE (oG s4 (oE (oG s3 (oE (oL z8 (oE (oG z4 (oE (oG z3 oA)))))))))))) (fun h7 d_ H7=>.code (yd (b:=ns.length) (H7.kp.keep _ _ (by k_in) hpp) (H7.get 0 rfl) (ox mF (ox hal.symm (oS hl2 rfl))) fun h8 N8=>?_))
 have s7:⇑h7=⇑h6+1:=H7.size
 have s8:⇑h8=⇑h7+1:=N8.size
 refine ju.b8 (I:=⇑h7) (N:=(refs as).drop ns.length) (O:=⇑h8) (RA.less rfl) B H7.k (by have e:=N8.at_;rw[H7.size]at e⊢;exact H7.rep.new N8.kp e) (fun h9 ie H9=>.code (ig (H9.get 0 rfl) (H9.get 1 rfl) ?_ ?_ fun bU jw=>?_))
 ·have:=rX.1;simp only[List.length_map,List.length_zip,List.length_take]at this;simp only[refs,List.length_map];exact #[0x111101017190d140230432212ac104,ns.length,Ns.length,min Ns.length (min ns.length aC.length),kY.length] qz fu this (Nat.min_le_left _ _)
 ·simp[refs];exact #[0x1110143190d012021203cd102,aC.length,as.length,ns.length] hl2 hal
 have s9:⇑h9=⇑h8:=H9.size
 have cV:⇑bU=⇑h9+1:=jw.size
 have hsl:=rX.1
 simp only[List.length_map,List.length_zip,List.length_take]at hsl
 have Dw:(iN Ns aC).length=aC.length:=by unfold iN;simp;exact #[0x111010061010016413102423022122103,min Ns.length aC.length,Ns.length,aC.length-Ns.length,aC.length] (Nat.min_le_left _ _) (Nat.min_eq_left (#[0x111014213031222c1002,ns.length,aC.length,Ns.length] hl fu)) (Nat.sub_add_cancel (#[0x111014213031222c1002,ns.length,aC.length,Ns.length] hl fu))
 have wD:(kY++as.drop ns.length).length=aC.length:=by simp;exact #[0x1110010010101c100101101010c317602252250417026524322126,ns.length,Ns.length,aC.length,as.length,min Ns.length (min ns.length aC.length),kY.length,as.length-ns.length] fu hal hsl (Nat.sub_add_cancel (#[0x110114311032222c1002,ns.length,aC.length,as.length] hl hal)) (Nat.min_le_left _ _) (Nat.min_eq_left (#[0x111010531201322122,ns.length,Ns.length,min ns.length aC.length] fu (Nat.min_eq_left (#[0x1112211022c1001,ns.length,aC.length] hl))))
 have Dy:bU.get? ⇑h9=some (lst (refs (kY++as.drop ns.length)) 0):=by have e:=jw.at_;rw[Dt,qm]at e;exact e
 refine ju.b9 (S:=⇑h9) (T:=⇑bU) (RA.less rfl) B H9.k (H9.rep.grow jw.kp) (fun h11 jk aZ=>.code ?_)
 have wF:⇑h9∉bZ _:=fun q=>Nat.lt_irrefl _ (H9.mlt _ q)
 have wG:=aZ.seg.keep ⇑h9 _ wF Dy
 have cJ:⇑h11=⇑bU:=aZ.size
 have m7:=At.eO (hb:=h6) (M:=[⇑h,⇑h4+4,⇑h4+3,⇑h4,⇑h4+1,⇑h4+5,⇑h4+6]) H7 (bl) (fun x hx=>.inl (pK [0,5,6] rfl x hx))
 have L7:Kp [⇑h,⇑h4+4,⇑h4+3,⇑h4,⇑h4+1,⇑h4+5,⇑h4+6] h6 h7:=H7.seg.more (pK [0,5,6] rfl)
 have L8:=L7.step N8.kp (by k_in)
 have m8:∀x∈((fc _++[(⇑h7,lst ((refs as).drop ns.length) 0)]).map (·.1):List Nat),x∈[⇑h,⇑h4+4,⇑h4+3,⇑h4,⇑h4+1,⇑h4+5,⇑h4+6]∨⇑h6≤x:=fun x hx=>by
  change _∈List.map _ (_++_)at hx
  rw[List.map_append]at hx
  rcases mA hx with hx|hx
  ·exact m7 x hx
  ·rw[mS hx];exact .inr L7.size
 have m9:=At.eO (hb:=h6) (M:=[⇑h,⇑h4+4,⇑h4+3,⇑h4,⇑h4+1,⇑h4+5,⇑h4+6]) H9 L8.size m8
 have L9:=L8.step H9.seg m8
 have kX:=L9.step jw.kp (by k_in)
 have qv:=At.eO aZ kX.size m9
 have rZ:=kX.step aZ.seg m9
 refine Dk (aa.up aZ.k RA rfl) (TT.kp aZ.kp (by k_in)) wG (by simp only[refs,List.length_map,wD];exact oI (oI hl oA) hm2) (by simp only[refs,List.length_map,wD];left) fun h12 pU sq sd t ed dG a0 d0 wH wI=>?_
 have qw:=rZ.step dG (by k_in)
 refine ju.Cy (Y:=sq) (Z:=⇑h12) (RA.less rfl) B aZ.k (aZ.rep.grow dG) (fun cX ri bk=>.code ?_)
 have wJ:∀{x:Nat},⇑h11≤x→x∉bZ _:=fun hx q=>Nat.lt_irrefl _ (aJ (aZ.mlt _ q) hx)
 have Dz:=bk.seg.keep sq _ (wJ a0) wH
 have DA:=bk.seg.keep sd _ (wJ d0) wI
 have DB:=bk.seg.keep ⇑h9 _ (aZ.dI wF (show @LT.lt Nat instLTNat _ _ by left)) (dG.keep _ _ (by k_in) wG)
 have r_:=qw.step bk.seg qv
 have j6:⇑cX=⇑h12+6:=bk.size
 have cu:=dG.size
 have iw:Kp [] h cX:=bk.kp
 have qx:cX.IsListIter (⇑h12+3) nu 0:=fR (bk.get 2 rfl)
 have dP:Tl [⇑h12+3] cX:=gC (c:=⇑h12+5) (bk.get 4 rfl) j6 (by left)
 refine jU qx (Aq (G:=nu) (it:=⇑h12+3) (acc:=⇑h12+4) (L:=⇑h12+5) (fr:=⇑h) (D:=[⇑h,⇑h12+3,⇑h12+4,⇑h12+5]++D) (N:=⇑cX) (aa.up bk.k RA rfl) (by left) (by left) (by left) (by right) (oM (oF (oJ (oI cu (oG cJ (oG cV (oE (oG s9 (oG s8 (oE (oG s7 (oE (oI z6 (oG s5 (oE (oG s4 (oE (oG s3 (oE (oL z8 (oE (oG z4 (oE (oG z3 oA))))))))))))))))))))) bh))) (oM (oF (oJ (oI cu (oG cJ (oG cV (oE (oG s9 (oG s8 (oE (oG s7 (oE (oI z6 (oG s5 (oE (oG s4 (oE (oG s3 (oE (oL z8 (oE (oG z4 (oE (oG z3 oA))))))))))))))))))))) bh))) (oM (oF (oJ (oI cu (oG cJ (oG cV (oE (oG s9 (oG s8 (oE (oG s7 (oE (oI z6 (oG s5 (oE (oG s4 (oE (oG s3 (oE (oL z8 (oE (oG z4 (oE (oG z3 oA))))))))))))))))))))) bh))) (by left) (by left) (by left) (bl) ?_ (by k_in) (by k_in) (by k_in) (TT.kp iw (by k_in)) qx (iw.keep _ _ (by k_in) bJ) hNs dP (bk.get 3 rfl) (bk.get 4 rfl) fun gy vh us Jq eB wK wL kZ=>?_)
 ·exact kAa (by k_in) fun x hx=>aJ (hD x hx) iw.size
 refine kZ.gX hm1 fun a9 vI vJ kZ=>?_
 have wM:Kp [] h gy:=iw.step eB (by k_in)
 have wN:gy.get? ⇑h=some _:=eB.keep _ _ bw (bk.get 5 rfl)
 have qy:=eB.size
 refine ju.Sd (ε:=⇑gy) (RA.less rfl) B bk.k (iZ (a:=⇑h) (b:=⇑h12+5) wM wN kZ (by left) (.inr (by left)) (.inr (by left))) (fun cY ud gO=>?_)
 have iE:Kp [⇑h,⇑h12+5] gy cY:=gO.seg
 have ja:∀{x:Nat}{o:Obj},x≠⇑h→(x<⇑h12+3)→cX.get? x=some o→cY.get? x=some o:=fun{x o} a b e=>iE.keep x o (by exact kNc a (kNc (#[0x110135c201133c20111,x,⇑h12] b) kNn)) (eB.keep x o (by exact #[0x11013101310135c204c203c203153c20111,x,⇑h12] b) e)
 have mG:Kp [] h cY:=gO.kp
 have hv:∀{x:Nat}{o:Obj},⇑h≤x→cY.get? x=some o→view D cY x o:=fun hc e=>iI hD hc e
 ac_rfl
 obtain⟨xs,wO,wQ⟩:=Ds hNs
 have wR:Kp [⇑h,⇑h12+3,⇑h12+4,⇑h12+5] cX cY:=(eB.more (by k_in)).trans (iE.more (by k_in))
 have vL:∀a o,view ([⇑h,⇑h4+4,⇑h4+3,⇑h4,⇑h4+1,⇑h4+5,⇑h4+6]++D) h6 a o→view D cY a o:=fun a o x=>jf (D:=[⇑h12+3,⇑h12+4,⇑h12+5]++([⇑h,⇑h4+4,⇑h4+3,⇑h4,⇑h4+1,⇑h4+5,⇑h4+6]++D)) (fun x hx=>bD (bD hx)) a o (aO wR (fun x hx=>by
  rcases mC hx with rfl|hx
  ·exact kMr (uY (kMi 0 rfl))
  ·exact cC hx) a o (aO r_ (fun x hx=>bD (cC hx)) a o (gI (ic (have CY:⇑h6≤⇑h12:=qw.size;by k_in)) a o x)))
 have DC:aQ J.P (view D cY) (iN Ns aC) (kY++as.drop ns.length):=by
  unfold iN
  rw[←fu]
  exact(rX.mono vL).append ((hn.drop ns.length).mono (aO mG (by k_in)))
 have hbody:aM J.P (view D cY) (.seq (iN Ns aC)) sq:=by
  have l1:sq<⇑h12:=aj wH
  have l2:sd<⇑h12:=aj wI
  have o8:⇑h6≤⇑h11:=rZ.size
  refine DC.seq (hv (#[0x11111101010110100ffa120980a908707c60721c50621c405241c3011c10322c20129,⇑e3,⇑h,⇑e4,⇑e8,⇑h3,⇑h4,⇑h5,⇑h6,⇑h11,sq] z3 z4 z8 s3 s4 s5 z6 a0 o8) (ja (#[0x11111101010110100ff21a3980a908707c60721c50621c405241c3011c10322c20129,⇑e3,⇑h,⇑e4,⇑e8,⇑h3,⇑h4,⇑h5,⇑h6,⇑h11,sq] z3 z4 z8 s3 s4 s5 z6 a0 o8) (#[0x11123c201112111,sq,⇑h12] l1) Dz)) (hv (#[0x11111101010110100ffa120980a908707c60721c50621c405241c3011c10322c20129,⇑e3,⇑h,⇑e4,⇑e8,⇑h3,⇑h4,⇑h5,⇑h6,⇑h11,sd] z3 z4 z8 s3 s4 s5 z6 d0 o8) (ja (#[0x11111101010110100ff21a3980a908707c60721c50621c405241c3011c10322c20129,⇑e3,⇑h,⇑e4,⇑e8,⇑h3,⇑h4,⇑h5,⇑h6,⇑h11,sd] z3 z4 z8 s3 s4 s5 z6 d0 o8) (#[0x11123c201112111,sd,⇑h12] l2) DA)) (hv (#[0x1110101011010101101013fb120ab21c90a21c80928707c60721c50621c405241c3011c10322c2012a,⇑e3,⇑h,⇑e4,⇑e8,⇑h3,⇑h4,⇑h5,⇑h6,⇑h7,⇑h8,⇑h9] z3 z4 z8 s3 s4 s5 z6 s7 s8 s9) (ja (#[0x1110101011010101101013f21b3ab21c90a21c80928707c60721c50621c405241c3011c10322c2012a,⇑e3,⇑h,⇑e4,⇑e8,⇑h3,⇑h4,⇑h5,⇑h6,⇑h7,⇑h8,⇑h9] z3 z4 z8 s3 s4 s5 z6 s7 s8 s9) (#[0x111101063c401214301321c20123,⇑bU,⇑h9,⇑h11,⇑h12] cV cJ cu) DB)) (by rw[Dw];left)
 refine H cY ud (⇑gy+1) mG (aQ.call (wL.mono (fun a o x=>jf (D:=[⇑h,⇑h12+3,⇑h12+4,⇑h12+5]++D) (fun x hx=>bD hx) a o (aO iE (by k_in) a o x))) (hv (oE (oI qy (oG j6 (oE (oI cu (oG cJ (oG cV (oE (oG s9 (oG s8 (oE (oG s7 (oE (oI z6 (oG s5 (oE (oG s4 (oE (oG s3 (oE (oL z8 (oE (oG z4 (oE (oG z3 oA))))))))))))))))))))))))) (gO.get 1 rfl)) (hv (oI qy (oG j6 (oE (oI cu (oG cJ (oG cV (oE (oG s9 (oG s8 (oE (oG s7 (oE (oI z6 (oG s5 (oE (oG s4 (oE (oG s3 (oE (oL z8 (oE (oG z4 (oE (oG z3 oA)))))))))))))))))))))))) (gO.get 0 rfl)) ?_ (hv (oE (oI cu (oG cJ (oG cV (oE (oG s9 (oG s8 (oE (oG s7 (oE (oI z6 (oG s5 (oE (oG s4 (oE (oG s3 (oE (oL z8 (oE (oG z4 (oE (oG z3 oA)))))))))))))))))))))) (iE.keep _ _ (by exact #[0x1100000000000000000000000019f11101010101011010101101018f5c2e0224c2e052e1e00e1e21cb00e2ab21c90a21c80928707c60721c50621c405241c3011c10322c2012d,⇑e3,⇑h,⇑e4,⇑e8,⇑h3,⇑h4,⇑h5,⇑h6,⇑h7,⇑h8,⇑h9,⇑bU,⇑h11,⇑h12] z3 z4 z8 s3 s4 s5 z6 s7 s8 s9 cV cJ cu) wK)) (by simp;exact ox fu.symm (oS qz rfl)))
 refine .lam (hv (by left) (ja (by right) (by left) (bk.get 1 rfl))) (hv (by left) (ja (by right) (by left) (bk.get 0 rfl))) (xs:=xs) (ep:=en) ⟨nD,by rw[←wO];exact mG.keep _ _ (by k_in) bJ⟩ wQ hbody
end
end
section
variable [Zero Heap]
theorem At.vw{A:Around}{h₀ h h₁:Heap}{mods D:List Addr}{s:Sg}(H:At A h₀ mods h₁ s h)(hm:∀x∈mods,x∈D):∀a o,view D h₀ a o→view (bZ s.r++D) h a o:=fun a o x=>
 aO H.kp (fun x hx=>bD (hm x hx)) a o (gI (fun x hx=>(mA hx).elim (fun q=>by
  obtain⟨p,hp,e⟩:=mM q
  rw[←e]
  rcases H.rep.own p hp with z|z
  ·exact .inl (hm _ z)
  ·exact .inr z) .inl) a o x)
noncomputable def iY(aC:List Nd)(j:Nat):Nd:=(aC[j]?).getD .aS
section
variable {J:WX}{A:Around}{R:RR}{h:Heap}{tk:Nat}{D:List Addr}
theorem QV{c:Wc}{W_ nu pp en ep lR wd:Nat}{lb l:Int}{kvs:List (Int×Value)}{ns:List Value}{Ns:List Int}{aC:List Nd}{as:List Addr}(RA:aa A 110)(TT:aE J.P h)(bJ:h.get? nu=some (lst ns en))(hpp:h.get? pp=some (lst (refs as) ep))(hNs:IntsAre ns Ns)(hn:aQ J.P (view D h) aC as)(hm2:2≤ns.length)(qz:ns.length≤10)(hst:∀x∈aC.take ns.length,qE x)(hall:((aC.take ns.length).map gA).all id=false)(hW:h.get? W_=some (ins 464 wd))(ck:cP J.P h c wd l)(hTT:h.DictOf (intKind pw J.W) c.TT kvs)(hz:kvs.length+10≤900)
 (g1:534≤wd) (g2:534≤c.TT) (n1:wd≠c.TT) (n2:W_≠wd) (n3:W_≠c.TT) (n4:nu≠wd) (n5:nu≠c.TT) (n6:pp≠wd) (n7:pp≠c.TT) (d1:wd∈D) (d2:c.TT∈D) (hl:ns.length+2≤aC.length) (hl2:aC.length≤60) (hD:∀x∈D,x<⇑h) (nD:nu∉D) (l5:534≤⇑h)
 (H:∀h' tk' (a:Nat) bd kvs',Kp [wd,c.TT] h h'→cP J.P h' c wd (l+ns.length+ns.length)→h'.DictOf (intKind pw J.W) c.TT kvs'→kvs'.length≤kvs.length+ns.length→
  fY ns.length (l+ns.length) (fun j=>Ns.getD j 0) (fun j=>l+1+(j:Int)) (iY aC) (((Ns.zip ((List.range ns.length).map fun j:Nat=>l+1+(j:Int))).map fun q=>Nd.aP q.1 (.loc q.2))++aC.drop ns.length) ns.length=[bd]→
  aM J.P (view D h') (rootOf lb Ns bd) a→R (rt (.ref a)) (J.S h' tk')):
 codeAny J.M A (aK 384 [.ref W_,.int lb lR,.ref nu,.ref pp]) R (J.S h tk):=by
 have bh:nu<⇑h:=aj bJ
 have Jp:pp<⇑h:=aj hpp
 have fu:ns.length=Ns.length:=IntsAre.length hNs
 have hal:aC.length=as.length:=hn.1
 have mF:(refs as).length=as.length:=List.length_map ..
 have hm1:1≤ns.length:=oI hm2 (oz rfl)
 have Jr:∀x∈([wd,c.TT]:List Nat),x∈D:=fun x hx=>by
  rcases mC hx with rfl|hx
  ·exact d1
  ·rw[mS hx];exact d2
 have B:=aG (prog:=pw) (w:=J.W) (mods:=[wd,c.TT]) TT bB (ro:=[(nu,_),(pp,_)]) (rC bJ au (rC hpp au rN))
 let vv:Vv:=dj W_ lR nu en pp ep ⇑h tk 0 lb ns (refs as)
 refine jY.b0 vv (RA.less rfl) B (vZ .refl) (fun h1 aB H1=>.code (g8 (H1.kp.keep _ _ au bJ) (by left) fun tm ao=>?_))
 refine jY.b1 (RA.less rfl) B H1.k H1.rep (fun h2 az H2=>.code (vo (c:=true) (by simp;lia) ?_))
 refine jY.b2 (RA.less rfl) B H2.k H2.rep (fun e3 av G3=>.code (mW (b:=ns.length) (G3.kp.keep _ _ au hpp) (G3.get 0 rfl) (ox mF (ox hal.symm (oS hl2 rfl))) fun e4 N0=>?_))
 have z3:⇑e3=⇑h+2:=G3.size
 have z4:⇑e4=⇑e3+1:=N0.size
 refine jY.b3 (e:=⇑e3) (f:=(refs as).take ns.length) (g:=⇑e4) (RA.less rfl) B G3.k (by have e:=N0.at_;rw[G3.size]at e⊢;exact G3.rep.new N0.kp e) (fun e5 Vn G5=>.code ?_)
 have z5:⇑e5=⇑e4+3:=G5.size
 have ite:e5.IsListIter ⇑e4 ⇑e3 0:=⟨_,G5.get 1 rfl,rfl,rfl⟩
 have Te:Tl [⇑e4] e5:=gC (c:=⇑e4+2) (G5.get 3 rfl) z5 (by left)
 have sf:Kp [wd,c.TT] h e5:=G5.kp
 have q_:e5.get? ⇑e3=some (lst (refs (as.take ns.length)) 0):=by rw[←wC];exact G5.get 4 rfl
 refine jU ite (Ea (N:=0) (G:=⇑e3) (it:=⇑e4) (acc:=⇑e4+1) (L:=⇑e4+2) (fr:=⇑h) (D:=[⇑e4,⇑e4+1,⇑e4+2]++D) (as:=as.take ns.length) (aC:=aC.take ns.length) (aa.up G5.k RA rfl) (by simp;exact #[0x11113064d120120ac102,ns.length,min ns.length as.length] qz (Nat.min_le_left _ _)) (oW rfl) (oW rfl) (oO rfl) (oM (oH z4 (oD rfl))) (oM (oF (oH z4 (oD rfl)))) (oM (oF (oH z4 (oD rfl)))) (oI (oG z4 (oE (oG z3 oA))) l5) (oE (oI (oG z4 (oE (oG z3 oA))) l5)) (oE (oI (oG z4 (oE (oG z3 oA))) l5)) (by k_in) (by k_in) (by k_in) hst (TT.kp sf bB) ite q_ ((hn.take ns.length).mono fun a o x=>aO sf (fun x hx=>bD (Jr x hx)) a o (gI (ic (by k_in)) a o x)) Te (G5.get 2 rfl) (G5.get 3 rfl) fun e6 IS ee uq DE hLe=>?_)
 obtain⟨Vo,Vp,Vr,hLe⟩:=hLe.pos (by simp[refs];exact #[0x111014211c012212c02,ns.length,min ns.length as.length] hm2 (Nat.min_eq_left (#[0x110114311032222c1002,ns.length,aC.length,as.length] hl hal)))
 have DF:Kp [wd,c.TT] h e6:=sf.step uq (by k_in)
 have DG:e6.get? ⇑h=some _:=uq.keep _ _ bw (G5.get 0 rfl)
 refine jY.b4 (n:=⇑e6) (RA.less rfl) B G5.k (jQ (a:=⇑h) (b:=⇑e4+1) (c:=⇑e4+2) DF DG DE hLe (by left) (by left) (by left) (.inr (by left)) (.inr (by left)) (.inr (by left))) (fun e7 Vs G7=>.call (Jo (bs:=(aC.take ns.length).map gA) (aa.up (m:=0) G7.k RA rfl).handled (by rw[List.map_map];exact G7.get 0 rfl) fun e8 IU ka=>?_))
 rw[hall]
 have z8:⇑e4+1<⇑e8:=aj (ka _ _ (G7.get 0 rfl))
 refine jY.b5 (r:=⇑e8) (RA.less rfl) B G7.k (G7.rep.all ka (oL z8 (oE (oG z4 (oE (oG z3 oA)))))) (fun h3 av H3=>.code (mW (b:=ns.length) (H3.kp.keep _ _ au hpp) (H3.get 0 rfl) (ox mF (ox hal.symm (oS hl2 rfl))) fun h4 N4=>?_))
 have s3:⇑h3=⇑e8+1:=H3.size
 have s4:⇑h4=⇑h3+1:=N4.size
 refine jY.b6 (t:=⇑h3) (u:=⇑h4) (RA.less rfl) B H3.k (H3.rep.grow N4.kp) (fun h5 aY H5=>.code (yd (b:=ns.length) (H5.kp.keep _ _ au hpp) (H5.get 0 rfl) (ox mF (ox hal.symm (oS hl2 rfl))) fun h6 N6=>?_))
 have s5:⇑h5=⇑h4+1:=H5.size
 have s6:⇑h6=⇑h5+1:=N6.size
 have Js:⇑h3∉bZ _:=fun q=>Nat.lt_irrefl _ (H3.mlt _ q)
 have Vt:=H5.seg.keep ⇑h3 _ Js N4.at_
 have Vu:=H5.dI Js (show @LT.lt Nat instLTNat _ _ by left)
 have Vx:⇑h5∉bZ _:=fun q=>Nat.lt_irrefl _ (H5.mlt _ q)
 refine jY.b7 (x:=⇑h5) (y:=⇑h6) (RA.less rfl) B H5.k (H5.rep.grow N6.kp) (fun h7 d_ H7=>.code ?_)
 have s7:⇑h7=⇑h6:=H7.size
 have Dq:h7.get? ⇑h3=some (lst (refs (as.take ns.length)) 0):=by rw[←wC];exact H7.seg.keep ⇑h3 _ Vu (N6.kp.keep _ _ (by k_in) Vt)
 have Vy:h7.get? ⇑h5=some (lst (refs (as.drop ns.length)) 0):=by rw[←Dt];exact H7.seg.keep ⇑h5 _ Vx N6.at_
 have aD:wd<⇑h:=hD _ d1
 have iD:c.TT<⇑h:=hD _ d2
 have XY:⇑h≤⇑e8:=by left
 refine DictOf.objE hTT fun ts et j5=>?_
 have K7:Kp [wd,c.TT] h h7:=H7.kp
 have m1:=At.eO (hb:=h) (M:=[]) H1 (bl) (fun x hx=>nomatch (show x∈([]:List Addr)from hx))
 have L1:Kp [] h h1:=H1.seg
 have L2:=L1.step H2.seg m1
 have m2:=At.eO H2 L1.size m1
 have L3:=L2.step G3.seg m2
 have m3:=At.eO G3 L2.size m2
 have L4:=L3.step N0.kp (by k_in)
 have L5:=L4.step G5.seg (fun x hx=>by
  change _∈List.map _ (_++_)at hx
  rw[List.map_append]at hx
  rcases mA hx with hx|hx
  ·exact m3 x hx
  ·rw[mS hx];exact .inr L3.size)
 have L6:=L5.step uq (by k_in)
 have m7:=At.eO (hb:=h) (M:=[]) G7 L6.size (fun(x:Nat) hx=>by have hx:x∈([_,_,_]:List Nat):=hx;simp at hx⊢;lia)
 have L7:=L6.step G7.seg (fun(x:Nat) hx=>by have hx:x∈([_,_,_]:List Nat):=hx;simp at hx⊢;lia)
 have L8:Kp [] h e8:=⟨fun b o hb e=>ka _ _ (L7.keep b o hb e),by left⟩
 have L9:=L8.step H3.seg m7
 have m9:=At.eO H3 L8.size m7
 have kX:=L9.step N4.kp (by k_in)
 have rZ:=kX.step H5.seg m9
 have qv:=At.eO H5 kX.size m9
 have qw:=rZ.step N6.kp (by k_in)
 have r_:=qw.step H7.seg qv
 have DH:=At.eO H7 qw.size qv
 have out:∀{M:List Nat}{x:Nat},(∀y∈M,y∈([]:List Nat)∨⇑h≤y)→x<⇑h→x∉M:=fun a l q=>(a _ q).elim (fun z=>absurd z (by k_in)) (fun z=>Nat.lt_irrefl _ (aJ l z))
 have Vz:=ck.kp r_ (by k_in)
 have VB:=r_.keep _ _ (by k_in) j5
 have VC:=DictOf.at hTT j5 VB
 have v7:∀a o,view D h a o→view (bZ _++⇑h::D) h7 a o:=fun a o x=>H7.vw (fun x hx=>List.mem_cons_of_mem _ (Jr x hx)) a o (gI (fun x hx=>(mC hx).elim (fun q=>.inr (by rw[q];exact bl)) .inl) a o x)
 refine U5 (c:=c) (W_:=W_) (nu:=nu) (va:=⇑h3) (re:=⇑h5) (wd:=wd) (pf:=iY aC) (Rs:=aC.drop ns.length) (rs:=as.drop ns.length) (aa.up H7.k RA rfl) (TT.kp K7 bB) (K7.keep _ _ au bJ) Dq Vy (K7.keep _ _ au hW) Vz VC hz hm1 qz (by simp[refs];exact #[0x11113064d120120ac102,ns.length,min ns.length as.length] qz (Nat.min_le_left _ _)) hNs ((hn.drop ns.length).mono v7) (by simp;exact #[0x111014311c02130222c1002,ns.length,aC.length,aC.length-ns.length] hl (Nat.sub_add_cancel (#[0x1112211022c1001,ns.length,aC.length] hl))) (by simp;exact #[0x11122050d011003cd101,aC.length,ns.length] hl2) (fun j hj=>?_) g1 g2 n1 n2 n3 n4 n5 (oN (oH s3 (oF (oK z8 (oE (oG z4 (oE (oG z3 (ol oA aD))))))))) (#[0x1111011010961532611c405241c3011c10322c20125,⇑e3,⇑h,⇑e4,⇑e8,⇑h3,c.TT] z3 z4 z8 s3 iD) (oN (oH s5 (oF (oH s4 (oF (oH s3 (oF (oK z8 (oE (oG z4 (oE (oG z3 (ol oA aD))))))))))))) (#[0x11110101011010d81732811c60721c50621c405241c3011c10322c20127,⇑e3,⇑h,⇑e4,⇑e8,⇑h3,⇑h4,⇑h5,c.TT] z3 z4 z8 s3 s4 s5 iD) (bD (List.mem_cons_of_mem _ d1)) (bD (List.mem_cons_of_mem _ d2)) (fun x hx=>?_) fun h8 fT fo eo ls kvs' K8 w8 T8 l8 vf DI=>?_
 ·obtain⟨b,eb⟩:∃b,as[j]? =some b:=⟨_,List.getElem?_eq_getElem (oH hal.symm (oJ hl (oF hj)))⟩
  obtain⟨nd,en⟩:∃q,aC[j]? =some q:=⟨_,List.getElem?_eq_getElem (oJ hl (oF hj))⟩
  refine⟨b,by simp[refs,List.getElem?_take,hj,eb],?_⟩
  unfold iY
  rw[en]
  exact(hn.2 j nd b en eb).mono v7
 ·rcases mA hx with hx|hx
  ·exact H7.mlt _ hx
  ·rcases mC hx with rfl|hx
   ·show @LT.lt Nat instLTNat _ _;exact oH s7 (oH s6 (oF (oH s5 (oF (oH s4 (oF (oH s3 (oF (oK z8 (oE (oG z4 (oE (oG z3 oA)))))))))))))
   ·exact aJ (hD x hx) K7.size
 obtain⟨Jt,Ju⟩:∃x,fY ns.length (l+ns.length) (fun j=>Ns.getD j 0) (fun j=>l+1+(j:Int)) (iY aC) (((Ns.zip ((List.range ns.length).map fun j:Nat=>l+1+(j:Int))).map fun q=>Nd.aP q.1 (.loc q.2))++aC.drop ns.length) ns.length=[x]:=by
  obtain⟨k,hk⟩:∃k,ns.length=k+1:=⟨ns.length-1,#[0x1101311031c1012221c1021,ns.length-1,ns.length] (Nat.sub_add_cancel (#[0x1112111c012c01,ns.length] hm2))⟩
  rw[hk]
  exact⟨_,rfl⟩
 rw[Ju]at DI
 refine DictOf.objE T8 fun XZ X0 Jv=>?_
 obtain⟨x,rfl⟩:∃x,ls=[x]:=by
  have:=DI.1
  match ls,this with
  | [x],_=>exact⟨x,rfl⟩
 have VD:aM J.P (view (bZ _++⇑h::D) h8) Jt x:=DI.2 0 _ _ rfl rfl
 refine jY.b8 (B:=fo) (C:=⇑h8) (RA.less rfl) B H7.k (H7.Eh K8 (by k_in) (by k_in) (out qv aD) (out qv iD) (aJ aD (by left)) (aJ iD (by left))) (fun h9 ie H9=>.code (VE (x:=x) (aa.up H9.k RA rfl) (TT.kp H9.kp bB) (xG H9 _ _ vf).2 fun h12 pU dG=>?_))
 have X3:=xG H9 _ _ vf
 refine jY.b9 (E:=x) (F:=⇑h12) (RA.less rfl) B H9.k (H9.rep.grow dG) (fun cX ri bk=>.code ?_)
 have Jw:=At.eO H9 (aq r_.size K8.size) DH
 have z9:⇑h8≤⇑h9:=H9.seg.size
 have iF:=K8.size
 have j6:⇑cX=⇑h12+6:=bk.size
 have cu:=dG.size
 have iw:Kp [wd,c.TT] h cX:=bk.kp
 have qx:cX.IsListIter (⇑h12+3) nu 0:=fR (bk.get 2 rfl)
 have dP:Tl [⇑h12+3] cX:=gC (c:=⇑h12+5) (bk.get 4 rfl) j6 (by left)
 refine jU qx (Aq (G:=nu) (it:=⇑h12+3) (acc:=⇑h12+4) (L:=⇑h12+5) (fr:=⇑h) (D:=[⇑h,⇑h12+3,⇑h12+4,⇑h12+5]++D) (N:=⇑cX) (aa.up bk.k RA rfl) (by left) (by left) (by left) (by right) (oM (oF (oJ (oI cu (oI z9 (oI iF (oG s7 (oG s6 (oE (oG s5 (oE (oG s4 (oE (oG s3 (oE (oL z8 (oE (oG z4 (oE (oG z3 oA))))))))))))))))) bh))) (oM (oF (oJ (oI cu (oI z9 (oI iF (oG s7 (oG s6 (oE (oG s5 (oE (oG s4 (oE (oG s3 (oE (oL z8 (oE (oG z4 (oE (oG z3 oA))))))))))))))))) bh))) (oM (oF (oJ (oI cu (oI z9 (oI iF (oG s7 (oG s6 (oE (oG s5 (oE (oG s4 (oE (oG s3 (oE (oL z8 (oE (oG z4 (oE (oG z3 oA))))))))))))))))) bh))) (by left) (by left) (by left) (bl) ?_ (by k_in) (by k_in) (by k_in) (TT.kp iw bB) qx (iw.keep _ _ au bJ) hNs dP (bk.get 3 rfl) (bk.get 4 rfl) fun gy vh us Jq eB wK wL kZ=>?_)
 ·exact kAa (#[0x110100000000000000000015f10100000000000000000015f10100000000000000000015f11101110101010101101015f5c1e04c1e03c1e0240e71eb06c1e00e2a90ba08921c70821c60721c50621c405241c3011c10322c2012c,⇑e3,⇑h,⇑e4,⇑e8,⇑h3,⇑h4,⇑h5,⇑h6,⇑h7,⇑h8,⇑h9,⇑cX,⇑h12] z3 z4 z8 s3 s4 s5 s6 s7 z9 iF j6 cu) fun x hx=>aJ (hD x hx) iw.size
 refine kZ.gX hm1 fun a9 vI vJ kZ=>?_
 have wM:Kp [wd,c.TT] h gy:=iw.step eB (by k_in)
 have wN:gy.get? ⇑h=some _:=eB.keep _ _ (by exact #[0x11011110101010101101014f1011110101010101101014f1011110101010101101014f5c0e04c0e03c0e03250eb0a90ba08921c70821c60721c50621c405241c3011c10322c2012b,⇑e3,⇑h,⇑e4,⇑e8,⇑h3,⇑h4,⇑h5,⇑h6,⇑h7,⇑h8,⇑h9,⇑h12] z3 z4 z8 s3 s4 s5 s6 s7 z9 iF cu) (bk.get 5 rfl)
 have qy:=eB.size
 refine jY.Cy (O:=⇑gy) (RA.less rfl) B bk.k (iZ (a:=⇑h) (b:=⇑h12+5) wM wN kZ (#[0x11011110101010101101014f5c0e01230eb0a90ba08921c70821c60721c50621c405241c3011c10322c2012b,⇑e3,⇑h,⇑e4,⇑e8,⇑h3,⇑h4,⇑h5,⇑h6,⇑h7,⇑h8,⇑h9,⇑h12] z3 z4 z8 s3 s4 s5 s6 s7 z9 iF cu) (.inr (by left)) (.inr (by left))) (fun cY ud gO=>?_)
 have iE:Kp [⇑h,⇑h12+5] gy cY:=gO.seg
 have ja:∀{x:Nat}{o:Obj},x≠⇑h→(x<⇑h12+3)→cX.get? x=some o→cY.get? x=some o:=fun{x o} a b e=>iE.keep x o (by exact kNc a (kNc (#[0x110135c201133c20111,x,⇑h12] b) kNn)) (eB.keep x o (by exact #[0x11013101310135c204c203c203153c20111,x,⇑h12] b) e)
 have mG:Kp [wd,c.TT] h cY:=gO.kp
 have hv:∀{x:Nat}{o:Obj},⇑h≤x→cY.get? x=some o→view D cY x o:=fun hc e=>iI hD hc e
 obtain⟨xs,wO,wQ⟩:=Ds hNs
 have wR:Kp [⇑h,⇑h12+3,⇑h12+4,⇑h12+5] cX cY:=(eB.more (by k_in)).trans (iE.more (by k_in))
 have vL:∀a o,view (bZ _++⇑h::D) h8 a o→view D cY a o:=fun a o x=>jf (D:=[⇑h12+3,⇑h12+4,⇑h12+5]++(bZ _++(bZ _++⇑h::D))) (fun x hx=>bD (bD (bD (List.mem_cons_of_mem _ hx)))) a o (aO wR (fun x hx=>by
  rcases mC hx with rfl|hx
  ·exact bD (bD (bD (List.mem_cons_self ..)))
  ·exact cC hx) a o (aO bk.seg (fun x hx=>bD (cC hx)) a o (gI (ic (by k_in)) a o (aO dG (by k_in) a o (VF H9 rfl a o x)))))
 have hbody:=VD.mono vL
 refine H cY ud (⇑gy+1) Jt kvs' mG (((((w8.kp H9.seg (out DH aD)).kp dG (by k_in)).kp bk.seg (out Jw aD)).kp eB (by exact #[0x110111110101010101101015f10111110101010101101015f10111110101010101101015f5c1e04c1e03c1e03a51e0e0b900eb02a18921c70821c60721c50621c405241c3011c10322c2012c,⇑e3,⇑h,⇑e4,⇑e8,⇑h3,⇑h4,⇑h5,⇑h6,⇑h7,wd,⇑h8,⇑h9,⇑h12] z3 z4 z8 s3 s4 s5 s6 s7 aD z9 iF cu)).kp iE (by exact #[0x110111110101010101101015f10000100000000000000015f5c1e022a51e0e0b900eb02a18921c70821c60721c50621c405241c3011c10322c2012c,⇑e3,⇑h,⇑e4,⇑e8,⇑h3,⇑h4,⇑h5,⇑h6,⇑h7,wd,⇑h8,⇑h9,⇑h12] z3 z4 z8 s3 s4 s5 s6 s7 aD z9 iF cu)) (DictOf.at T8 Jv (iE.keep c.TT _ (by exact #[0x110111110101010101101015f10000100000000000000015f5c1e022a51e0e0b900eb02a18921c70821c60721c50621c405241c3011c10322c2012c,⇑e3,⇑h,⇑e4,⇑e8,⇑h3,⇑h4,⇑h5,⇑h6,⇑h7,c.TT,⇑h8,⇑h9,⇑h12] z3 z4 z8 s3 s4 s5 s6 s7 iD z9 iF cu) (eB.keep c.TT _ (by exact #[0x110111110101010101101015f10111110101010101101015f10111110101010101101015f5c1e04c1e03c1e03a51e0e0b900eb02a18921c70821c60721c50621c405241c3011c10322c2012c,⇑e3,⇑h,⇑e4,⇑e8,⇑h3,⇑h4,⇑h5,⇑h6,⇑h7,c.TT,⇑h8,⇑h9,⇑h12] z3 z4 z8 s3 s4 s5 s6 s7 iD z9 iF cu) (bk.seg.keep c.TT _ (out Jw iD) (dG.keep _ _ (by k_in) (H9.seg.keep c.TT _ (out DH iD) Jv)))))) l8 Ju (aQ.call (wL.mono (fun a o x=>jf (D:=[⇑h,⇑h12+3,⇑h12+4,⇑h12+5]++D) (fun x hx=>bD hx) a o (aO iE (by k_in) a o x))) (hv (oE (oI qy (oG j6 (oE (oI cu (oI z9 (oI iF (oG s7 (oG s6 (oE (oG s5 (oE (oG s4 (oE (oG s3 (oE (oL z8 (oE (oG z4 (oE (oG z3 oA))))))))))))))))))))) (gO.get 1 rfl)) (hv (oI qy (oG j6 (oE (oI cu (oI z9 (oI iF (oG s7 (oG s6 (oE (oG s5 (oE (oG s4 (oE (oG s3 (oE (oL z8 (oE (oG z4 (oE (oG z3 oA)))))))))))))))))))) (gO.get 0 rfl)) ?_ (hv (oE (oI cu (oI z9 (oI iF (oG s7 (oG s6 (oE (oG s5 (oE (oG s4 (oE (oG s3 (oE (oL z8 (oE (oG z4 (oE (oG z3 oA)))))))))))))))))) (iE.keep _ _ (by exact #[0x11000000000000000000014f111110101010101101013f5c0e0224c0e050eb0a90ba08921c70821c60721c50621c405241c3011c10322c2012b,⇑e3,⇑h,⇑e4,⇑e8,⇑h3,⇑h4,⇑h5,⇑h6,⇑h7,⇑h8,⇑h9,⇑h12] z3 z4 z8 s3 s4 s5 s6 s7 z9 iF cu) wK)) (by simp;exact ox fu.symm (oS qz rfl)))
 refine .lam (hv (by left) (ja (oN (oF (oJ cu (oJ z9 (oJ iF (oH s7 (oH s6 (oF (oH s5 (oF (oH s4 (oF (oH s3 (oF (oK z8 (oE (oG z4 (oE (oG z3 oA))))))))))))))))))) (by left) (bk.get 1 rfl))) (hv (by left) (ja (oN (oJ cu (oJ z9 (oJ iF (oH s7 (oH s6 (oF (oH s5 (oF (oH s4 (oF (oH s3 (oF (oK z8 (oE (oG z4 (oE (oG z3 oA)))))))))))))))))) (by left) (bk.get 0 rfl))) (xs:=xs) (ep:=en) ⟨nD,by rw[←wO];exact mG.keep _ _ au bJ⟩ wQ hbody
end
end
section
variable [Zero Heap]
mutual
noncomputable def bq:Nd→List Int
 |.lam lb _ b=>lb::bq b
 |.call o as=>bq o++bM as
 |.seq is=>bM is
 |.aP _ v=>bq v
 |.int _|.aS|.loc _|.glob _=>[]
noncomputable def bM:List Nd→List Int
 | []=>[]
 |x::xs=>bq x++bM xs
end
mutual
noncomputable def nums:Nd→List Int
 |.lam _ ps b=>ps++nums b
 |.call o as=>nums o++bQ as
 |.seq is=>bQ is
 |.aP _ v=>nums v
 |.int _|.aS|.loc _|.glob _=>[]
noncomputable def bQ:List Nd→List Int
 | []=>[]
 |x::xs=>nums x++bQ xs
end
mutual
noncomputable def cH:Nd→Nat
 |.lam _ _ b=>1+cH b
 |.call o as=>1+cH o+bT as
 |.seq is=>1+bT is
 |.aP _ v=>1+cH v
 |.int _|.aS|.loc _|.glob _=>1
noncomputable def bT:List Nd→Nat
 | []=>0
 |x::xs=>cH x+bT xs
end
omit [Zero Heap]in
theorem ku:∀(a b:List Nd),bM (a++b)=bM a++bM b
 | [],b=>rfl
 |x::a,b=>by rw[List.cons_append,bM,bM,ku a b,List.append_assoc]
omit [Zero Heap]in
theorem kB:∀(a b:List Nd),bQ (a++b)=bQ a++bQ b
 | [],b=>rfl
 |x::a,b=>by rw[List.cons_append,bQ,bQ,kB a b,List.append_assoc]
omit [Zero Heap]in
theorem kr:∀(a b:List Nd),bT (a++b)=bT a+bT b
 | [],b=>by simp[bT]
 |x::a,b=>by rw[List.cons_append,bT,bT,kr a b,Nat.add_assoc]
theorem HZ(n:Nd):1≤cH n:=by cases n<;>simp[cH]<;>left
noncomputable def H_:Nd→Bool
 |.int _|.aS|.loc _|.glob _=>true
 |_=>false
theorem aM.leaf{P:Params}{V:View}{n:Nd}{a:Addr}(x:aM P V n a){G:Prop}:(∀(y z:Bool)(d:Addr)(es:List DictEntry)(ed:Nat),V a (ins (cond y 66 (cond z 104 85)) d)→V d (dct es ed)→bq n=[]→nums n=[]→G)→(H_ n=false→G)→G:=
 aM.casesOn (motive:=fun n a _=>(∀(y z:Bool)(d:Addr)(es:List DictEntry)(ed:Nat),V a (ins (cond y 66 (cond z 104 85)) d)→V d (dct es ed)→bq n=[]→nums n=[]→G)→(H_ n=false→G)→G) x
  (fun h1 h2 k _=>k true true _ _ _ h1 h2 rfl rfl) (fun h1 h2 k _=>k true true _ _ _ h1 h2 rfl rfl) (fun h1 h2 k _=>k false false _ _ _ h1 h2 rfl rfl) (fun h1 h2 k _=>k false true _ _ _ h1 h2 rfl rfl)
  (fun _ _ _ _ _ _ k=>k rfl) (fun _ _ _ _ k=>k rfl) (fun _ _ _ _ _ _ _ _ k=>k rfl) (fun _ _ _ _ _ _ _ k=>k rfl)
theorem Ia:∀(a:List Nd),a.length≤bT a
 | []=>bl
 |x::a=>by have:=Ia a;have:=HZ x;simp[bT];lia
theorem Tj{vs us:List Value}{ns ms:List Int}(x:IntsAre vs ns)(y:IntsAre us ms):IntsAre (vs++us) (ns++ms):=by
 induction x with
 |nil=>exact y
 |cons n t _ ih=>exact .cons n t ih
theorem Ib:∀(xs:List (Int×Nat)),IntsAre (xs.map rL) (xs.map (·.1))
 | []=>.nil
 |(n,t)::xs=>.cons n t (Ib xs)
theorem Tn{P:Params}{V:View}{init:List Nd}{x:Nd}{ls:List Addr}(z:aQ P V (init++[x]) ls):∃li a,ls=li++[a]∧aQ P V init li∧aM P V x a:=by
 have hl:=z.1
 rw[List.length_append,List.length_singleton]at hl
 have e:=List.dropLast_concat_getLast (l:=ls) (by intro e;rw[e]at hl;simp at hl)
 refine⟨ls.dropLast,_,e.symm,?_,?_⟩
 ·have:=z.take init.length
  rw[List.take_left' rfl]at this
  rw[List.dropLast_eq_take,show ls.length-1=init.length from by exact #[0x1110015101105113221c30221c1022,init.length,ls.length,ls.length-1] hl (Nat.sub_add_cancel (#[0x11013211c021c1021,init.length,ls.length] hl))]
  exact this
 ·refine z.2 init.length x _ (by simp) ?_
  rw[List.getLast_eq_getElem,List.getElem?_eq_getElem (oH hl.symm (oD rfl))]
  congr 2
  exact #[0x1101105110015311221c30221c1022,init.length,ls.length,ls.length-1] hl (Nat.sub_add_cancel (#[0x11013211c021c1021,init.length,ls.length] hl))
section
variable {J:WX}{A:Around}{E:Value→Shared→Prop}{Q:Value→Shared→Prop}{h:Heap}{tk:Nat}
theorem Ic{a n:Nat}{o:Obj}{S:Int→Bool}(ho:h.get? a=some o)(hs:o.SetObjOf (intKind pw J.W) S n)(hn:n≤1000)(H:∀t tk',Q (.int n t) (J.S h tk')):wpAny J.M A (PySem.call (.builtin "len") [.ref a]) Q E (J.S h tk):=by
 ac_rfl
 obtain⟨hex,es,ep,t,hd,hel,hmem,hn',hf⟩:=hs
 refine call_len_set (s:=(J.S h tk)) ho hex hd hf (by lia) ?_
 rw[hn']
 exact H _ _
end
noncomputable def kR(P:Params):Stmt:=dX (bodyOf (dF P)) 1
theorem To(P:Params):bodyOf (dF P)=dX (bodyOf (dF P)) 0::.While (aL (kR P)) (cO (kR P)) [] (yr (kR P))::[dX (bodyOf (dF P)) 2]:=by kernel_rfl
theorem Tp(P:Params):aL (kR P)=.Compare (fB (aL (kR P))) [.NotEq] [fC (aL (kR P))] (jx (aL (kR P))):=by kernel_rfl
theorem At.kn{A:Around}{h₀ h h₁:Heap}{mods:List Addr}{s:Sg}(H:At A h₀ mods h₁ s h){q:Nat}{o:Obj}(n:q∉s.mu.map (·.1))(e:h₁.get? q=some o):h.get? q=some o∧q∉bZ s.r:=⟨H.seg.keep _ _ n e,H.dI n (aj e)⟩
theorem At.gr{G:Prop}{A:Around}{h₀ h h₁:Heap}{mods:List Addr}{s:Sg}(H:At A h₀ mods h₁ s h){q:Nat}{o:Obj}(n:q∉s.mu.map (·.1))(e:h₁.get? q=some o)(kk:h.get? q=some o→q∉bZ s.r→G):G:=by
 obtain⟨q0,q1⟩:=At.kn H n e
 exact kk q0 q1
noncomputable def CU(P:Params)(h:Heap)(fr nd wl l2 l1 t0 t1 t2 t3:Nat)(b:Bool):Prop:=∃es fe,h.get? fr=some (ai ([ent P fq t0 (.ref nd),ent P HF t1 (.ref wl),ent P gB t2 (.ref l2),ent P lV t3 (.ref l1)]++es) fe)∧if b then∃t z,es=[ent P rG t z]else es=[]
section
variable {J:WX}{A:Around}{R:RR}{fr nd wl t0 t1 t2 t3 qh:Nat}{D:List Addr}
theorem Tq(RA:aa A 40)(g1:534≤fr)(g2:534≤wl)(n0:fr≠wl)(d1:fr∈D)(d2:wl∈D)(hD:∀x∈D,x<qh):
 ∀(n:Nat)(b:Bool)(h:Heap)(tk:Nat)(aC:List Nd)(ws:List Addr)(ew l1 l2 e1 e2:Nat)(qi qj:List Value)(L1 L2:List Int),bT aC≤n→n≤200→qh≤⇑h→aE J.P h→CU J.P h fr nd wl l2 l1 t0 t1 t2 t3 b→(b=false→∃o as,aC=[.call o as])→
  h.get? wl=some (lst (refs ws) ew)→aQ J.P (view D h) aC ws→h.get? l1=some (lst qi e1)→IntsAre qi L1→h.get? l2=some (lst qj e2)→IntsAre qj L2→l1≠fr→l1≠wl→l2≠fr→l2≠wl→L1.length+(bM aC).length≤200→L2.length+(bQ aC).length≤200→
  (∀h' tk' b' i7 mD nO sY rM rO qk ql,Kp [fr,wl] h h'→CU J.P h' fr nd wl mD i7 t0 t1 t2 t3 b'→h'.get? i7=some (lst rM nO)→IntsAre rM qk→h'.get? mD=some (lst rO sY)→IntsAre rO ql→i7≠fr→mD≠fr→qk.Perm (L1++bM aC)→ql.Perm (L2++bQ aC)→R (.ok .next) (J.S h' tk'))→
  codeAny J.M A (.whileLoop (aL (kR J.P)) (cO (kR J.P)) [] (fEnv 527 (dF J.P) fr)) R (J.S h tk):=by
 intro n
 induction n using Nat.strongRecOn with
 |ind n ih=>
  intro b h tk aC ws ew l1 l2 e1 e2 qi qj L1 L2 hz hn hS TT hfr hb hwl hnd hl1 hi1 hl2 hi2 m1 m2 m3 m4 z1 z2 H
  refine codeAny_of_tree ?_
  show wpAny _ A ((whileTurn (aL (kR J.P)) (cO (kR J.P)) [] (fEnv 527 (dF J.P) fr)).onRaise (fun x=>do noteFrame x (fEnv 527 (dF J.P) fr);theTreesLotGoes x)) _ _ _
  refine wpAny_noted ?_
  unfold whileTurn
  refine wpAny_bind ?_
  rw[Tp]
  ac_rfl
  obtain⟨es,fe,hfr,hes⟩:=hfr
  have dM:∀x∈([fr,wl]:List Nat),x∈D:=fun x hx=>by
   rcases mC hx with rfl|hx
   ·exact d1
   ·rw[mS hx];exact d2
  have B:=fun{h':Heap}(K:Kp [fr,wl] h h')=>aG (prog:=pw) (w:=J.W) (mods:=[fr,wl]) (TT.kp K bB) bB (ro:=[]) trivial
  let vv:Vv:=gm fr nd wl l2 l1 t0 t1 t2 t3 fe ⇑h tk 0 .none [] es
  refine wpAny_isTrue_Compare1 (eH (Hh.b0 vv rfl (RA.less rfl) (B .refl) (cQ .refl hfr (.inl (by k_in))) (fun h1 aB H1=>?_))) rfl
  have Tr:h1.get? wl=some (lst (refs ws) ew):=H1.seg.keep wl _ (by show wl∉[fr];exact ak) hwl
  let vv:Vv:=gm fr nd wl l2 l1 t0 t1 t2 t3 fe ⇑h1 aB 0 .none [] es
  refine eH (Hi.b0 vv rfl (RA.less rfl) (B H1.kp) (cQ .refl (H1.get 0 rfl) (.inl (by k_in))) (fun h2 ao H2=>?_))
  have K2:Kp [fr,wl] h h2:=H1.kp.trans H2.kp
  have kT:h2.get? wl=some (lst (refs ws) ew):=H2.seg.keep wl _ (by show wl∉[fr];exact ak) Tr
  refine yD (vs:=refs ws) kT (H2.get 1 rfl) (by have:=RA.units;left) ?_
  have kU:=H2.get 0 rfl
  rcases List.eq_nil_or_concat aC with e0|⟨init,x,e0⟩
  ·obtain rfl:ws=[]:=List.length_eq_zero_iff.mp (hnd.1.symm.trans (by rw[e0];rfl))
   show wpAny _ _ _ _ _ _
   exact wpAny_bind (wpAny_execs_nil (wpAny_pure (H h2 ao b l1 l2 e1 e2 qi qj L1 L2 K2 ⟨es,fe,kU,hes⟩ (K2.keep _ _ au hl1) hi1 (K2.keep _ _ au hl2) hi2 m1 m3 (by rw[e0,bM,fz]) (by rw[e0,bQ,fz]))))
  have e0:aC=init++[x]:=e0.trans (List.concat_eq_append ..)
  obtain⟨li,a,Ie,hni,hna⟩:=Tn (e0▸hnd)
  have ee:(!(refs ws).isEmpty)=true:=by rw[Ie];simp[refs]
  rw[ee]
  show wpAny _ _ _ _ _ _
  refine wpAny_bind (Oh fun R' hR=>?_)
  have kT:h2.get? wl=some (lst (refs li++[.ref a]) ew):=by rw[show refs li++[Value.ref a]=refs (li++[a])from qm li [a],←Ie];exact kT
  have pY:=TT.kp K2 bB
  have up:∀{x:Nat}{o:Obj},view D h x o→h2.get? x=some o∧x∉([fr,wl]:List Nat):=fun v=>⟨K2.keep _ _ (fun q=>v.1 (dM _ q)) v.2,fun q=>v.1 (dM _ q)⟩
  have rP:=K2.keep _ _ (au:l1∉[fr,wl]) hl1
  have rR:=K2.keep _ _ (au:l2∉[fr,wl]) hl2
  have eL:bM aC=bM init++bq x:=by rw[e0,ku,bM,bM,fz]
  have eN:bQ aC=bQ init++nums x:=by rw[e0,kB,bQ,bQ,fz]
  have hz:bT init+cH x≤n:=by rw[e0,kr,bT,bT,Nat.add_zero]at hz;exact hz
  rw[eL]at z1
  rw[eN]at z2
  have hli:=hni.1
  have hin:init.length≤200:=by have:=Ia init;exact #[0x1111140c8d140240132000c8d103,n,bT init,cH x,init.length] hn hz this
  have B2:=fun{ro:List Ent}(r:pJ h2 [fr,wl] ro)=>aG (prog:=pw) (w:=J.W) (mods:=[fr,wl]) pY bB (ro:=ro) r
  have rep2:=cj (V:=⟨pw,J.W,kt J.P,[]⟩) kU kT n0
  have go:∀(h4:Heap)(av:Nat)(kW:List Nd)(zu:List Addr)(CV i7 mD nO sY:Nat)(rM rO:List Value)(qk ql:List Int),Kp [fr,wl] h2 h4→bT kW<bT init+cH x→CU J.P h4 fr nd wl mD i7 t0 t1 t2 t3 true→h4.get? wl=some (lst (refs zu) CV)→aQ J.P (view D h) kW zu→
   h4.get? i7=some (lst rM nO)→IntsAre rM qk→h4.get? mD=some (lst rO sY)→IntsAre rO ql→i7≠fr→i7≠wl→mD≠fr→mD≠wl→(qk++bM kW).Perm (L1++(bM init++bq x))→(ql++bQ kW).Perm (L2++(bQ init++nums x))→
   R' (.ok .next) (J.S h4 av):=by
   intro h4 av kW zu CV i7 mD nO sY rM rO qk ql K4 hlt f4 mT j9 a1 a2 a3 a4 a5 a6 a7 a8 p1 p2
   have rz:=K2.trans K4
   have q1:=p1.length_eq
   have q2:=p2.length_eq
   rw[List.length_append,List.length_append]at q1 q2
   refine hR _ _ (wpAny_pure ⟨rfl,ih (bT kW) (#[0x11113314121041321002,bT init,cH x,n,bT kW] hz hlt) true h4 av kW zu CV i7 mD nO sY rM rO qk ql (bl) (#[0x1111140c8d14032041132000c8d103,n,bT init,cH x,bT kW] hn hz hlt) (aq hS rz.size) (TT.kp rz bB) f4 (fun e=>by cases e) mT (j9.mono (aO rz dM)) a1 a2 a3 a4 a5 a6 a7 a8 (#[0x1101140c8d1430021043020c8d21002,L1.length,(bM init++bq x).length,qk.length,(bM kW).length] z1 q1) (#[0x1101140c8d1430021043020c8d21002,L2.length,(bQ init++nums x).length,ql.length,(bQ kW).length] z2 q2) (fun h' tk' b' Tt Tu Tv Tw Tz TF TG TH K5 c1 c2 c3 c4 c5 c6 c7 c8 c9=>?_)⟩)
   exact H h' tk' b' Tt Tu Tv Tw Tz TF TG TH (rz.trans K5) c1 c2 c3 c4 c5 c6 c7 (by rw[eL];exact c8.trans p1) (by rw[eN];exact c9.trans p2)
  clear H ih hnd eL eN TT hl1 hl2 hfr hwl
  cases b with
  |false=>
   obtain rfl:es=[]:=hes
   ac_rfl
   obtain⟨o,as,eo⟩:=hb rfl
   obtain⟨rfl,rfl⟩:init=[]∧x=.call o as:=by
    rw[e0]at eo
    cases init with
    |nil=>simpa using eo
    |cons y ys=>simp at eo
   cases hna with
   |@call o as _ d u1 op u2 os' ed el ls ha hd hop hos hle oq hin=>
    ac_rfl
    obtain⟨ha2,jv⟩:=up ha
    obtain⟨hd2,je⟩:=up hd
    obtain⟨ho2,v9⟩:=up hos
    have lr:(refs li).length=([]:List Nd).length:=by rw[refs,List.length_map,←hli]
    have BB:=B2 (ro:=[(a,_),(d,_)]) (rC ha2 jv (rC hd2 je rN))
    let vv:Vv:=fD fr nd wl l2 l1 t0 t1 t2 t3 fe ew a d u1 u2 op os' ed ⇑h2 ao 0 0 0 0 0 0 0 0 0 .none (refs li++[.ref a]) [] [] []
    refine tW.b0 vv rfl (RA.less rfl) BB (cj kU kT n0) (fun h3 az H3=>.code (kQ (H3.get 0 rfl) (by rw[lr];left) fun h4 U4=>?_))
    refine tW.b1 (RA.less rfl) BB H3.k (H3.rep.upd (H3.bg 0 rfl rfl) U4) (fun h5 aY H5=>.call (qZ (H5.kp.keep _ _ v9 ho2) (by simp[refs];exact ox hle.symm (oS oq rfl)) fun h6 c6 k6 e6=>?_))
    have N6:Kp [] h5 h6:=⟨fun b o _ e=>k6 b o e,Nat.le_of_lt (aj e6)⟩
    refine tW.b2 (d:=⇑h5) (g:=⇑h6) (RA.less rfl) BB H5.k (by rw[H5.size]at e6⊢;exact H5.rep.new N6 e6) (fun h7 d_ H7=>.code (ig (H7.get 0 rfl) (H7.get 1 rfl) (oz rfl) (by simp[refs];exact ox hle.symm (oS oq rfl)) fun h8 N8=>?_))
    refine tW.b3 (i:=⇑h7) (j:=⇑h8) (RA.less rfl) BB H7.k (H7.rep.grow N8.kp) (fun h9 ie H9=>.code (CQ (H9.get 0 rfl) (H9.kn (fun q=>Nat.lt_irrefl _ (H7.mlt _ q)) N8.at_).1 (by rw[lr];lia) (by simp[refs];exact #[0x11110418fd1200c8d102122,as.length,ls.length] hle oq) fun bU yl CW=>?_))
    refine tW.b4 (RA.less rfl) BB H9.k (H9.rep.upd (H9.bg 0 rfl rfl) CW) (fun h11 jk aZ=>?_)
    refine go h11 jk ([]++(o::as)) (li++(op::ls)) _ l1 l2 _ _ _ _ L1 L2 aZ.kp (by simp[kr,bT,cH]<;>left) ⟨[_],_,aZ.get 0 rfl,_,_,rfl⟩ (by rw[←qm];exact aZ.get 1 rfl) (hni.append (.cons hop ⟨hle,hin⟩)) (aZ.kp.keep _ _ au rP) hi1 (aZ.kp.keep _ _ au rR) hi2 m1 m2 m3 m4 ?_ ?_
    ·simp[ku,bM,bq]
    ·simp[kB,bQ,nums]
  |true=>
   ac_rfl
   obtain⟨t4,z4,rfl⟩:=hes
   refine hna.leaf (fun y z d es' ed ha hd el en=>?_) fun hx=>?_
   ·obtain⟨ha2,jv⟩:=up ha
    obtain⟨hd2,je⟩:=up hd
    have lr:(refs li).length=init.length:=by rw[refs,List.length_map,←hli]
    have BB:=B2 (ro:=[(a,_),(d,_)]) (rC ha2 jv (rC hd2 je rN))
    refine Cr.b0 y z (gn fr nd wl l2 l1 t0 t1 t2 t3 t4 fe ew a d ed ⇑h2 ao 0 0 z4 .none (refs li++[.ref a]) [] _) rfl (RA.less rfl) BB (cj kU kT n0) (fun h3 az H3=>.code (kQ (H3.get 0 rfl) (by rw[lr];left) fun h4 U4=>?_))
    refine Cr.b1 (RA.less rfl) BB H3.k (H3.rep.upd (H3.bg 0 rfl rfl) U4) (fun h5 aY H5=>?_)
    exact go h5 aY init li _ l1 l2 _ _ _ _ L1 L2 H5.kp (Nat.lt_add_of_pos_right (HZ x)) ⟨[_],_,H5.get 0 rfl,_,_,rfl⟩ (H5.get 1 rfl) hni (H5.kp.keep _ _ au rP) hi1 (H5.kp.keep _ _ au rR) hi2 m1 m2 m3 m4 (by rw[el,fz]) (by rw[en,fz])
   cases hna with
   |int=>cases hx
   |aS=>cases hx
   |loc=>cases hx
   |glob=>cases hx
   |@lam ps bo _ d u1 u2 u3 u4 lb v1 pl rs v3 bd ed Xl xs ha hd hpl exs TJ=>
    ac_rfl
    obtain⟨ha2,jv⟩:=up ha
    obtain⟨hd2,je⟩:=up hd
    obtain⟨hp2,hp3⟩:=up hpl
    have TL:xs.length≤200:=by have e:=congrArg List.length exs;simp only[nums,List.length_append,List.length_map]at z2 e;exact #[0x1101140c8d1503520c8d430201002,L2.length,(bQ init).length,ps.length,(nums bo).length,xs.length] z2 e
    have Ig:=IntsAre.length hi1
    have Ii:=IntsAre.length hi2
    have lr:(refs li).length=init.length:=by rw[refs,List.length_map,←hli]
    have BB:=B2 (ro:=[(a,_),(d,_),(l1,_),(l2,_)]) (rC ha2 jv (rC hd2 je (rC rP au (rC rR au rN))))
    let vv:Vv:=fD fr nd wl l2 l1 t0 t1 t2 t3 t4 fe ew a d u1 u2 u3 u4 v1 pl v3 bd ed e1 e2 ⇑h2 ao lb rs z4 (refs li++[.ref a]) qi qj []
    refine rE.b0 vv rfl (RA.less rfl) BB (cj kU kT n0) (fun h3 az H3=>.code (kQ (H3.get 0 rfl) (by rw[lr];left) fun h4 U4=>?_))
    refine rE.b1 (RA.less rfl) BB H3.k (H3.rep.upd (H3.bg 0 rfl rfl) U4) (fun h5 aY H5=>.code (ig (H5.kp.keep _ _ au rP) (H5.get 0 rfl) (#[0x110114190d1301320c8d21002,L1.length,(bM init++bq (Nd.lam lb ps bo)).length,qi.length] z1 Ig) (oz rfl) fun h6 N6=>?_))
    refine rE.b2 (d:=⇑h5) (e:=⇑h6) (RA.less rfl) BB H5.k (H5.rep.grow N6.kp) (fun h7 d_ H7=>.call (qZ (H7.kp.keep _ _ hp3 hp2) (by simp;left) fun h8 c8 k8 e8=>?_))
    have N8:Kp [] h7 h8:=⟨fun b o _ e=>k8 b o e,Nat.le_of_lt (aj e8)⟩
    refine rE.b3 (g:=⇑h7) (j:=⇑h8) (RA.less rfl) BB H7.k (by rw[H7.size]at e8⊢;exact H7.rep.new N8 e8) (fun h9 ie H9=>.code (ig (H9.kp.keep _ _ au rR) (H9.get 0 rfl) (#[0x110114190d1301320c8d21002,L2.length,(bQ init++nums (Nd.lam lb ps bo)).length,qj.length] z2 Ii) (by simp;exact oS TL rfl) fun bU jw=>?_))
    refine rE.b4 (l:=⇑h9) (m:=⇑bU) (RA.less rfl) BB H9.k (H9.rep.grow jw.kp) (fun h11 jk aZ=>.code (dZ (aZ.get 0 rfl) (by rw[lr];left) fun h12 CX=>?_))
    refine rE.b5 (RA.less rfl) BB aZ.k (aZ.rep.upd (aZ.bg 0 rfl rfl) CX) (fun cX ri bk=>?_)
    have Ij:∀{x:Nat}{o:Obj},h2.get? x=some o→x<⇑h2:=fun e=>aj e
    have aN:=Ij kU
    have zw:=Ij kT
    have s5:⇑h2≤⇑h5:=H5.kp.size
    have s9:⇑h2≤⇑h9:=H9.kp.size
    have TM:⇑h6≤⇑h7:=H7.seg.size
    have s6:⇑h6=⇑h5+1:=N6.size
    refine H7.gr (fun q=>Nat.lt_irrefl _ (H5.mlt _ q)) N6.at_ fun x1 y1=>?_
    obtain⟨x2,y2⟩:=H9.kn (fun q=>by
     change _∈List.map _ (_++_)at q
     rw[List.map_append]at q
     rcases mA q with q|q
     ·exact y1 q
     ·have q:⇑h5=⇑h7:=mS q
      exact #[0x110101500c42321c30122103,⇑h6,⇑h7,⇑h5] TM s6 q) (k8 _ _ x1)
    refine aZ.gr y2 (jw.kp.keep _ _ (by k_in) x2) fun x3 y3=>?_
    obtain⟨x4,y4⟩:=bk.kn (uD y3) (CX.kp.keep ⇑h5 _ (by show _∉[wl];exact(by exact #[0x1111311353202112,wl,⇑h2,⇑h5] zw s5)) x3)
    refine aZ.gr (fun q=>Nat.lt_irrefl _ (H9.mlt _ q)) jw.at_ fun x5 y5=>?_
    obtain⟨x6,y6⟩:=bk.kn (uD y5) (CX.kp.keep ⇑h9 _ (by show _∉[wl];exact(by exact #[0x1111311353202112,wl,⇑h2,⇑h9] zw s9)) x5)
    refine go cX ri (init++[bo]) (li++[bd]) _ ⇑h5 ⇑h9 _ _ _ _ (L1++[lb]) (L2++ps) bk.kp (by simp[kr,bT,cH]<;>left) ⟨[_],_,bk.get 0 rfl,_,_,rfl⟩ (by rw[←qm];exact bk.get 1 rfl) (hni.snoc TJ) x4 (uy hi1 _ _) x6 (Tj hi2 (exs▸Ib xs)) (Nat.ne_of_gt (aJ aN s5)) (Nat.ne_of_gt (aJ zw s5)) (Nat.ne_of_gt (aJ aN s9)) (Nat.ne_of_gt (aJ zw s9)) ?_ ?_
    ·rw[ku,bM,bM,bq,fz,List.append_assoc]
     refine List.Perm.append_left _ ?_
     rw[List.singleton_append]
     exact List.perm_middle.symm
    ·rw[kB,bQ,bQ,nums,fz,List.append_assoc]
     refine List.Perm.append_left _ ?_
     rw[←List.append_assoc,←List.append_assoc]
     exact List.Perm.append_right _ List.perm_append_comm
   |@aP nn v _ d u1 v1 u2 y ed ha hd hv=>
    ac_rfl
    obtain⟨ha2,jv⟩:=up ha
    obtain⟨hd2,je⟩:=up hd
    have lr:(refs li).length=init.length:=by rw[refs,List.length_map,←hli]
    have BB:=B2 (ro:=[(a,_),(d,_)]) (rC ha2 jv (rC hd2 je rN))
    let vv:Vv:=fD fr nd wl l2 l1 t0 t1 t2 t3 t4 fe ew a d u1 v1 u2 y ed ⇑h2 ao 0 0 0 0 0 0 nn 0 z4 (refs li++[.ref a]) [] [] []
    refine yO.b0 vv rfl (RA.less rfl) BB (cj kU kT n0) (fun h3 az H3=>.code (kQ (H3.get 0 rfl) (by rw[lr];left) fun h4 U4=>?_))
    refine yO.b1 (RA.less rfl) BB H3.k (H3.rep.upd (H3.bg 0 rfl rfl) U4) (fun h5 aY H5=>.code (dZ (H5.get 0 rfl) (by rw[lr];left) fun h6 U6=>?_))
    refine yO.b2 (RA.less rfl) BB H5.k (H5.rep.upd (H5.bg 0 rfl rfl) U6) (fun h7 d_ H7=>?_)
    refine go h7 d_ (init++[v]) (li++[y]) _ l1 l2 _ _ _ _ L1 L2 H7.kp (by simp[kr,bT,cH]<;>left) ⟨[_],_,H7.get 0 rfl,_,_,rfl⟩ (by rw[←qm];exact H7.get 1 rfl) (hni.snoc hv) (H7.kp.keep _ _ au rP) hi1 (H7.kp.keep _ _ au rR) hi2 m1 m2 m3 m4 ?_ ?_
    ·rw[ku,bM,bM,bq,fz]
    ·rw[kB,bQ,bQ,nums,fz]
   |@seq is _ d u1 os' ed el ls ha hd hos hle oq hin=>
    ac_rfl
    obtain⟨ha2,jv⟩:=up ha
    obtain⟨hd2,je⟩:=up hd
    obtain⟨ho2,v9⟩:=up hos
    have lr:(refs li).length=init.length:=by rw[refs,List.length_map,←hli]
    have BB:=B2 (ro:=[(a,_),(d,_)]) (rC ha2 jv (rC hd2 je rN))
    let vv:Vv:=fD fr nd wl l2 l1 t0 t1 t2 t3 t4 fe ew a d u1 os' ed ⇑h2 ao 0 0 0 0 0 0 0 0 0 0 z4 (refs li++[.ref a]) [] [] []
    refine yN.b0 vv rfl (RA.less rfl) BB (cj kU kT n0) (fun h3 az H3=>.code (kQ (H3.get 0 rfl) (by rw[lr];left) fun h4 U4=>?_))
    refine yN.b1 (RA.less rfl) BB H3.k (H3.rep.upd (H3.bg 0 rfl rfl) U4) (fun h5 aY H5=>.code (CQ (H5.get 0 rfl) (H5.kp.keep _ _ v9 ho2) (by rw[lr];lia) (by simp[refs];exact #[0x111104190d1200c8d102122,is.length,ls.length] hle oq) fun h6 e6 U6=>?_))
    refine yN.b2 (RA.less rfl) BB H5.k (H5.rep.upd (H5.bg 0 rfl rfl) U6) (fun h7 d_ H7=>?_)
    refine go h7 d_ (init++is) (li++ls) _ l1 l2 _ _ _ _ L1 L2 H7.kp (by simp[kr,cH]<;>left) ⟨[_],_,H7.get 0 rfl,_,_,rfl⟩ (by rw[←qm];exact H7.get 1 rfl) (hni.append ⟨hle,hin⟩) (H7.kp.keep _ _ au rP) hi1 (H7.kp.keep _ _ au rR) hi2 m1 m2 m3 m4 ?_ ?_
    ·rw[ku,bq]
    ·rw[kB,nums]
   |@call o as _ d u1 op u2 os' ed el ls ha hd hop hos hle oq hin=>
    ac_rfl
    obtain⟨ha2,jv⟩:=up ha
    obtain⟨hd2,je⟩:=up hd
    obtain⟨ho2,v9⟩:=up hos
    have lr:(refs li).length=init.length:=by rw[refs,List.length_map,←hli]
    have BB:=B2 (ro:=[(a,_),(d,_)]) (rC ha2 jv (rC hd2 je rN))
    let vv:Vv:=fD fr nd wl l2 l1 t0 t1 t2 t3 t4 fe ew a d u1 u2 op os' ed ⇑h2 ao 0 0 0 0 0 0 0 0 z4 (refs li++[.ref a]) [] [] []
    refine tV.b0 vv rfl (RA.less rfl) BB (cj kU kT n0) (fun h3 az H3=>.code (kQ (H3.get 0 rfl) (by rw[lr];left) fun h4 U4=>?_))
    refine tV.b1 (RA.less rfl) BB H3.k (H3.rep.upd (H3.bg 0 rfl rfl) U4) (fun h5 aY H5=>.call (qZ (H5.kp.keep _ _ v9 ho2) (by simp[refs];exact ox hle.symm (oS oq rfl)) fun h6 c6 k6 e6=>?_))
    have N6:Kp [] h5 h6:=⟨fun b o _ e=>k6 b o e,Nat.le_of_lt (aj e6)⟩
    refine tV.b2 (d:=⇑h5) (g:=⇑h6) (RA.less rfl) BB H5.k (by rw[H5.size]at e6⊢;exact H5.rep.new N6 e6) (fun h7 d_ H7=>.code (ig (H7.get 0 rfl) (H7.get 1 rfl) (oz rfl) (by simp[refs];exact ox hle.symm (oS oq rfl)) fun h8 N8=>?_))
    refine tV.b3 (i:=⇑h7) (j:=⇑h8) (RA.less rfl) BB H7.k (H7.rep.grow N8.kp) (fun h9 ie H9=>.code (CQ (H9.get 0 rfl) (H9.kn (fun q=>Nat.lt_irrefl _ (H7.mlt _ q)) N8.at_).1 (by rw[lr];lia) (by simp[refs];exact #[0x11110418fd1200c8d102122,as.length,ls.length] hle oq) fun bU yl CW=>?_))
    refine tV.b4 (RA.less rfl) BB H9.k (H9.rep.upd (H9.bg 0 rfl rfl) CW) (fun h11 jk aZ=>?_)
    refine go h11 jk (init++(o::as)) (li++(op::ls)) _ l1 l2 _ _ _ _ L1 L2 aZ.kp (by simp[kr,bT,cH]<;>left) ⟨[_],_,aZ.get 0 rfl,_,_,rfl⟩ (by rw[←qm];exact aZ.get 1 rfl) (hni.append (.cons hop ⟨hle,hin⟩)) (aZ.kp.keep _ _ au rP) hi1 (aZ.kp.keep _ _ au rR) hi2 m1 m2 m3 m4 ?_ ?_
    ·simp[ku,bM,bq]
    ·simp[kB,bQ,nums]
end
end
section
variable [Zero Heap]
theorem getD_inj{L:List Int}(hn:L.Nodup):∀i j,i<L.length→j<L.length→L.getD i 0=L.getD j 0→i=j:=fun i j hi hj e=>by
 rw[List.getD_eq_getElem?_getD,List.getD_eq_getElem?_getD,a_ hi,a_ hj]at e
 have P:=List.pairwise_iff_getElem.mp hn
 simp only[Option.getD_some]at e
 rcases Nat.lt_trichotomy i j with q|q|q
 ·exact absurd e (P i j hi hj q)
 ·exact q
 ·exact absurd e.symm (P j i hj hi q)
section
variable {J:WX}{A:Around}{R:RR}{h:Heap}{tk:Nat}{D:List Addr}
theorem Rf{nd:Nat}{o:Nd}{as:List Nd}(RA:aa A 60)(TT:aE J.P h)(hn:aM J.P (view D h) (.call o as) nd)(hz:cH (.call o as)≤200)(h1:(bq (.call o as)).Nodup)(h2:(nums (.call o as)).Nodup)(h3:(bq (.call o as)).length≤200)(h4:(nums (.call o as)).length≤200)(hD:∀x∈D,x<⇑h)(l5:534≤⇑h)
 (H:∀h' tk',Kp [] h h'→R (rt (.bool true)) (J.S h' tk')):
 codeAny J.M A (aK 527 [.ref nd]) R (J.S h tk):=by
 have B0:=aG (prog:=pw) (w:=J.W) (mods:=[]) TT (by k_in) (ro:=[]) trivial
 let vv:Vv:=dj nd ⇑h tk 0 0 0 0 0 0 0 [] []
 refine Cq.b0 vv (RA.less rfl) B0 fG (fun e1 aB H1=>?_)
 rw[Cq.k0]
 show codeAny _ A (.func (bodyOf (dF J.P)) (fEnv 527 (dF J.P) ⇑h)) R _
 refine codeAny_func ?_
 have cz:aa (A.deeper (fEnv 527 (dF J.P) ⇑h)) 59:=RA.under (c:=.func (bodyOf (dF J.P)) (fEnv 527 (dF J.P) ⇑h)) rfl
 rw[To]
 have K1:Kp [] h e1:=H1.kp
 have s1:⇑e1=⇑h+1:=H1.size
 let vv:Vv:=dj ⇑h nd tk 1 ⇑e1 aB 0 0 0 0 [] []
 refine ko fun R hR=>Hg.b0 vv rfl (cz.less rfl) B0 (cQ K1 (H1.get 0 rfl) (.inr (bl))) (fun e2 ao H2=>?_)
 have K2:Kp [] h e2:=H2.kp
 have s2:⇑e2=⇑e1+7:=H2.size
 refine hR _ ?_
 refine wpAny_execs_cons (wpAny_While ?_)
 have vD:∀a o,view D h a o→view ([⇑h,⇑e1+2]++D) e2 a o:=fun a o x=>aO K2 (by k_in) a o (gI (ic (by k_in)) a o x)
 refine Tq (fr:=⇑h) (wl:=⇑e1+2) (nd:=nd) (t0:=tk) (t1:=aB) (t2:=aB+1) (t3:=aB+2) (qh:=⇑e2) (D:=[⇑h,⇑e1+2]++D) (cz.less rfl) l5 (by left) (by left) (by k_in) (by k_in) ?_ (cH (.call o as)) false e2 ao [.call o as] [nd] 0 ⇑e1 (⇑e1+1) 0 0 [] [] [] [] oR hz (bl) (TT.kp K2 (by k_in)) ⟨[],_,H2.get 0 rfl,rfl⟩ (fun _=>⟨o,as,rfl⟩) (H2.get 3 rfl) (.one (hn.mono vD)) (H2.get 1 rfl) .nil (H2.get 2 rfl) .nil (by right) (by left) (by right) (by left) (by simpa[bM]using h3) (by simpa[bQ]using h4) (fun e3 az b' l1 l2 x1 x2 qi qj L1 L2 K3 f3 c1 c2 c3 c4 c5 c6 p1 p2=>?_)
 ·exact kAa (by k_in) fun x hx=>aJ (hD x hx) K2.size
 have p1:L1.Perm (bq (.call o as)):=by simpa[bM]using p1
 have p2:L2.Perm (nums (.call o as)):=by simpa[bQ]using p2
 have n1:=p1.nodup_iff.mpr h1
 have n2:=p2.nodup_iff.mpr h2
 have q1:=p1.length_eq
 have q2:=p2.length_eq
 have r1:=IntsAre.length c2
 have r2:=IntsAre.length c4
 obtain⟨es,fe,hfr,_⟩:=f3
 have lJ:Kp [] h e3:=K2.step K3 (by k_in)
 have M1:=(CR (fun i=>L1.getD i 0) qi.length (fun i j a b e=>getD_inj n1 i j (oH r1.symm a) (oH r1.symm b) e)).1
 have M2:=(CR (fun i=>L2.getD i 0) qj.length (fun i j a b e=>getD_inj n2 i j (oH r2.symm a) (oH r2.symm b) e)).1
 have kk:∀{a b:Heap},(∀c p,a.get? c=some p→b.get? c=some p)→∀{o:Obj},b.get? ⇑a=some o→Kp [] a b:=fun k _ e=>⟨fun c p _ x=>k c p x,Nat.le_of_lt (aj e)⟩
 have Ig:l1<⇑e3:=aj c1
 have Ii:l2<⇑e3:=aj c3
 let vv:Vv:=gm ⇑h nd (⇑e1+2) l2 l1 tk aB (aB+1) (aB+2) fe ⇑e3 az 0 .none [] es
 refine pO (lY.b0 vv rfl (cz.less rfl) B0 (cQ lJ hfr (.inr (bl))) (fun e4 av H4=>?_))
 refine H4.gr (q:=l1) (by show l1∉[⇑h];exact ak) c1 fun y4 w4=>?_
 refine H4.gr (q:=l2) (by show l2∉[⇑h];exact ak) c3 fun z4 v4=>?_
 refine .call (HT (aa.up (m:=0) H4.k cz rfl).handled y4 c2 (ox r1 (ox q1 (oS h3 rfl))) fun e5 aY so k5 eo hso=>?_)
 rw[M1]at hso
 have N5:=kk k5 eo
 refine lY.b1 (a:=⇑e4) (b:=⇑e5) (cz.less rfl) B0 H4.k (H4.rep.grow N5) (fun e6 gG H6=>.call (Ic (H6.kn (fun q=>Nat.lt_irrefl _ (H4.mlt _ q)) eo).1 hso (ox r1 (ox q1 (oS h3 rfl))) fun t d_=>?_))
 refine H6.gr w4 (k5 _ _ y4) fun y6 w6=>?_
 refine H6.gr v4 (k5 _ _ z4) fun z6 v6=>?_
 refine lY.b2 (cz.less rfl) B0 H6.k H6.rep (fun e8 fT H8=>.code (g8 (H8.kn w6 y6).1 (ox r1 (ox q1 (oS h3 rfl))) fun t2 ie=>?_))
 refine H8.gr v6 z6 fun z8 v8=>?_
 refine lY.b3 (cz.less rfl) B0 H8.k H8.rep (fun yl s_ dS=>.code (CO rfl ?_))
 refine dS.gr v8 z8 fun TN v10=>?_
 refine lY.b4 (cz.less rfl) B0 dS.k dS.rep (fun tw jk aZ=>?_)
 refine aZ.gr v10 TN fun Ik v11=>?_
 refine .call (HT (aa.up (m:=0) aZ.k cz rfl).handled Ik c4 (ox r2 (ox q2 (oS h4 rfl))) fun vg pU Xm Il Im Io=>?_)
 rw[M2]at Io
 have TP:=kk Il Im
 refine lY.b5 (k:=⇑tw) (l:=⇑vg) (cz.less rfl) B0 aZ.k (aZ.rep.grow TP) (fun Xn ri bk=>.call (Ic (bk.kn (fun q=>Nat.lt_irrefl _ (aZ.mlt _ q)) Im).1 Io (ox r2 (ox q2 (oS h4 rfl))) fun t3 vh=>?_))
 refine bk.gr v11 (Il _ _ Ik) fun CY TQ=>?_
 refine lY.b6 (cz.less rfl) B0 bk.k bk.rep (fun Xo ud gO=>.code (g8 (gO.kn TQ CY).1 (ox r2 (ox q2 (oS h4 rfl))) fun t4 Xp=>?_))
 refine lY.b7 (cz.less rfl) B0 gO.k gO.rep (fun Xq Xr Ip=>.code (CO rfl ?_))
 refine lY.b8 (cz.less rfl) B0 Ip.k Ip.rep (fun TR TS TU=>?_)
 exact H TR TS TU.kp
end
end
section
variable [Zero Heap]
theorem Bb{prog:Program}{w:World}{h:Heap}{a ep:Nat}(e:h.get? a=some (dct [] ep)):h.DictOf (intKind prog w) a []:=
 ⟨_,#[],ep,e,⟨rfl,rfl,rfl⟩,rfl,fun _ he=>by simp at he,Pairs.nil,List.nodup_nil⟩
section
variable {J:WX}{A:Around}{E:Value→Shared→Prop}{h:Heap}{tk:Nat}{Q:Flow→Shared→Prop}{rest:List Stmt}{fr cd cw cp cf sc:Nat}
theorem Om{t0 ex fe:Nat}{xs:List Value}{ns:List Int}(RA:aa A 80)(TT:aE J.P h)(hfr:h.get? fr=some (ai [ent J.P fJ t0 (.ref sc)] fe))(hcd:h.get? cd=some fQ)(hcw:h.get? cw=some fQ)(hsc:h.get? sc=some (lst xs ex))(hi:IntsAre xs ns)(hz:xs.length≤900)(g1:534≤fr)(g2:534≤cd)(g3:534≤cw)(n1:fr≠cd)(n2:fr≠cw)(n3:cd≠cw)(n4:sc≠fr)(n5:sc≠cd)(n6:sc≠cw)
 (H:∀h' tk' (dk wd W_:Nat)(c:Wc),Kp [fr,cd,cw] h h'→h'.get? fr=some (ai [ent J.P fJ t0 (.ref sc)] fe)→h'.get? cd=some (bL (.ref dk))→h'.get? cw=some (bL (.ref W_))→cZ h' dk→h'.get? W_=some (ins 464 wd)→cP J.P h' c wd 0→h'.DictOf (intKind pw J.W) c.TT []→⇑h≤dk→dk<wd→W_=wd+1→c.TT=wd+8→c.TT<⇑h'→
  wpAny J.M A (execs rest (bC J.P fr cd cw cp cf)) Q E (J.S h' tk')):
 wpAny J.M A (execs (aF J.P 0::rest) (bC J.P fr cd cw cp cf)) Q E (J.S h tk):=by
 have aN:fr<⇑h:=aj hfr
 have xX:cd<⇑h:=aj hcd
 have nC:cw<⇑h:=aj hcw
 have B:=aG (prog:=pw) (w:=J.W) (mods:=[fr,cd,cw]) TT dH (ro:=[(sc,_)]) (rC hsc bw rN)
 let vv:Vv:=gm fr fe t0 sc cd cw cp cf ⇑h tk 0 0 0 .none [] []
 refine ko fun R hR=>s0.b0 vv rfl (RA.less rfl) (aG (mods:=[fr,cd,cw]) TT dH (ro:=[]) trivial) (w7 hfr hcd hcw sE) (fun h1 aB H1=>.code (Oo (aa.up H1.k RA rfl) (TT.kp H1.kp dH) (H1.kp.keep _ _ bw hsc) hi hz (aq (by left) H1.kp.size) fun h2 ao dk K2 bY d0=>?_))
 have s1:⇑h1=⇑h:=H1.size
 obtain⟨ys,e,ns',e1,e2,e3⟩:=bY
 have aA:dk<⇑h2:=aj e1
 have Oq:∀x∈bZ _,x<⇑h1:=H1.mlt
 refine s0.b1 (a:=dk) (b:=⇑h2) (RA.less rfl) (aG (mods:=[fr,cd,cw]) TT dH (ro:=[]) trivial) H1.k (H1.rep.grow K2) (fun h3 az H3=>?_)
 refine hR _ ?_
 have s3:⇑h3=⇑h2+14:=H3.size
 have nn:dk∉bZ _:=fun q=>Nat.lt_irrefl _ (aJ (Oq _ q) d0)
 exact H h3 az dk ⇑h2 (⇑h2+1) ⟨_,_,_,_,_,_,_,_,_⟩ H3.kp (H3.get 0 rfl) (H3.get 1 rfl) (H3.get 2 rfl) ⟨ys,e,ns',H3.seg.keep _ _ nn e1,e2,e3⟩ (H3.get 4 rfl) ⟨_,H3.get 3 rfl⟩ (Bb (H3.get 5 rfl)) (by left) aA rfl rfl (by show ⇑h2+8<_;left)
theorem Ot{t0 fe dk:Nat}(RA:aa A 80)(TT:aE J.P h)(hfr:h.get? fr=some (ai [ent J.P fJ t0 (.ref sc)] fe))(hcd:h.get? cd=some (bL (.ref dk)))(bY:cZ h dk)(g1:534≤fr)(g2:534≤dk)(n1:fr≠cd)(n2:fr≠dk)(n3:cd≠dk)
 (H:∀h' tk' (t1 tm dR m:Nat),Kp [fr,dk] h h'→h'.get? fr=some (ai [ent J.P fJ t0 (.ref sc),ent J.P cG t1 (.int (m:Int) tm)] dR)→cZ h' dk→1≤m→m≤4→
  wpAny J.M A (execs rest (bC J.P fr cd cw cp cf)) Q E (J.S h' tk')):
 wpAny J.M A (execs (aF J.P 1::rest) (bC J.P fr cd cw cp cf)) Q E (J.S h tk):=by
 have aN:fr<⇑h:=aj hfr
 obtain⟨ys,e,ns',e1,e2,e3⟩:=bY
 have aA:dk<⇑h:=aj e1
 have B:=aG (prog:=pw) (w:=J.W) (mods:=[fr,dk]) TT bB (ro:=[(cd,_)]) (rC hcd au rN)
 let vv:Vv:=gm fr fe t0 sc cd cw cp cf dk ⇑h tk 0 0 .none [] []
 refine ko fun R hR=>s1.b0 vv rfl (RA.less rfl) B (cQ .refl hfr (.inl (by k_in))) (fun h1 aB H1=>.code (pQ (aa.up H1.k RA rfl) (TT.kp H1.kp bB) ⟨ys,e,ns',H1.seg.keep dk _ (by show _∉[fr];exact ak) e1,e2,e3⟩ g2 (by lia) (by lia) fun h2 ao f t K2 u0 f0 f4=>?_))
 refine s1.b1 (c:=⇑h2) (RA.less rfl) B H1.k (H1.pR K2 (by k_in) (by show dk∉[fr];exact ak) aA) (fun h3 az H3=>?_)
 refine hR _ ?_
 obtain⟨k,rfl⟩:∃k:Nat,f=(k:Int):=⟨f.toNat,by lia⟩
 have hf:=H3.get 0 rfl
 have e:(1+(k:Int))=((1+k:Nat):Int):=by lia
 refine H h3 az _ _ _ (1+k) H3.kp (by rw[←e];exact hf) (u0.kp H3.seg (H1.dI (by show dk∉[fr];exact ak) aA)) (Nat.le_add_right 1 k) (by lia)
theorem Ou{t0 t1 tm fe m W_ wd:Nat}{c:Wc}{l:Int}(RA:aa A 80)(TT:aE J.P h)(hfr:h.get? fr=some (ai [ent J.P fJ t0 (.ref sc),ent J.P cG t1 (.int (m:Int) tm)] fe))(hcw:h.get? cw=some (bL (.ref W_)))(hW:h.get? W_=some (ins 464 wd))(ck:cP J.P h c wd l)(g1:534≤fr)(g2:534≤wd)(n1:fr≠cw)(n2:fr≠W_)(n3:fr≠wd)(n4:cw≠wd)(n5:W_≠wd)(m1:1≤m)(m4:m≤4)
 (H:∀h' tk' (t2 dR nu en:Nat) ns,Kp [fr,wd] h h'→h'.get? fr=some (ai [ent J.P fJ t0 (.ref sc),ent J.P cG t1 (.int (m:Int) tm),ent J.P gB t2 (.ref nu)] dR)→cP J.P h' c wd (l+m)→⇑h≤nu→h'.get? nu=some (lst ns en)→IntsAre ns ((List.range m).map fun j:Nat=>l+1+(j:Int))→
  wpAny J.M A (execs rest (bC J.P fr cd cw cp cf)) Q E (J.S h' tk')):
 wpAny J.M A (execs (aF J.P 2::rest) (bC J.P fr cd cw cp cf)) Q E (J.S h tk):=by
 have aN:fr<⇑h:=aj hfr
 have nC:cw<⇑h:=aj hcw
 have lW:W_<⇑h:=aj hW
 have aD:wd<⇑h:=by obtain⟨tl,e⟩:=ck;exact aj e
 have B:=aG (prog:=pw) (w:=J.W) (mods:=[fr,wd]) TT bB (ro:=[]) trivial
 let vv:Vv:=gm fr fe t0 sc t1 tm cd cw cp cf ⇑h tk m .none [] []
 refine ko fun R hR=>s2.b0 vv rfl (RA.less rfl) B (cQ .refl hfr (.inl (by k_in))) (fun h1 aB H1=>.code (xY (n:=(m:Int)) (H1.get 1 rfl) (pS (by left)).1 (pS (by left)).2 fun h2 N2=>?_))
 have y1:⇑h1=⇑h+1:=H1.size
 have y2:⇑h2=⇑h1+1:=N2.size
 refine s2.b1 (a:=⇑h1) (b:=⇑h2) (RA.less rfl) B H1.k (by have e:=N2.at_;rw[H1.size]at e⊢;exact H1.rep.new N2.kp e) (fun h3 az H3=>.code ?_)
 have y3:⇑h3=⇑h2+2:=H3.size
 have S1:Kp [fr] h h1:=H1.seg
 have Bc:=At.eO (hb:=h) (M:=[fr]) H1 (bl) (fun x hx=>.inl (pK [0] rfl x hx))
 have S3:Kp [fr] h h3:=(S1.step N2.kp (by k_in)).step H3.seg (fun x hx=>by
  change _∈List.map _ (_++_)at hx
  rw[List.map_append]at hx
  rcases mA hx with hx|hx
  ·exact Bc x hx
  ·rw[mS hx];exact .inr S1.size)
 have u_:IsRangeIter h3 ⇑h1 ((0:Nat):Int) m 1:=H3.get 1 rfl
 have T3:Tl [⇑h1] h3:=gC (c:=⇑h2+1) (H3.get 3 rfl) y3 (by left)
 refine Fo u_ (LS (c:=c) (it:=⇑h1) (acc:=⇑h2) (L:=⇑h2+1) (fr:=fr) (cw:=cw) (W_:=W_) (wd:=wd) (n:=m) (l:=l) (aa.up H3.k RA rfl) (by left) sV (by exact kNc (#[0x110101531131c20322112,cw,⇑h,⇑h1] nC y1) (kNc (#[0x11010101741131c30421c20322113,cw,⇑h,⇑h1,⇑h2] nC y1 y2) (kNc (#[0x1101010171c401131c30421c20322113,cw,⇑h,⇑h1,⇑h2] nC y1 y2) (kNc n4 kNn)))) (by exact kNc (#[0x110101531131c20322112,W_,⇑h,⇑h1] lW y1) (kNc (#[0x11010101741131c30421c20322113,W_,⇑h,⇑h1,⇑h2] lW y1 y2) (kNc (#[0x1101010171c401131c30421c20322113,W_,⇑h,⇑h1,⇑h2] lW y1 y2) (kNc n5 kNn)))) mP (TT.kp S3 bI) u_ T3 (H3.get 2 rfl) (H3.get 3 rfl) (S3.keep _ _ ak hcw) (S3.keep _ _ ak hW) (ck.kp S3 ak) fun h4 av ys ea K4 hys hI mT bP=>?_)
 refine bP.gX m1 fun a1 a2 a3 bP=>?_
 have lJ:Kp [fr,wd] h h3:=H3.kp
 have gY:Kp [fr,wd] h h4:=lJ.step K4 (by k_in)
 have f4:h4.get? fr=some _:=K4.keep _ _ (by exact kNc (#[0x110101531131c20322112,fr,⇑h,⇑h1] aN y1) (kNc (#[0x11010101741131c30421c20322113,fr,⇑h,⇑h1,⇑h2] aN y1 y2) (kNc (#[0x1101010171c401131c30421c20322113,fr,⇑h,⇑h1,⇑h2] aN y1 y2) (kNc n3 kNn)))) (H3.get 0 rfl)
 refine s2.b2 (g:=⇑h4) (RA.less rfl) B H3.k (iZ (a:=fr) (b:=⇑h2+1) gY f4 bP (oM (oF (oJ (oG y2 (oE (oG y1 oA))) aN))) (.inl (by k_in)) (.inr (by left))) (fun h5 aY H5=>?_)
 refine hR _ ?_
 have S5:Kp [fr,⇑h2+1] h4 h5:=H5.seg
 exact H h5 aY _ _ ⇑h2 ea ys H5.kp (H5.get 0 rfl) (mT.kp S5 (by exact kNc (Ne.symm n3) (kNc (#[0x1101010171c401131c30421c20322113,wd,⇑h,⇑h1,⇑h2] aD y1 y2) kNn))) (by left) (S5.keep _ _ (by exact #[0x11000000711010161c4012451c30421c20322113,fr,⇑h,⇑h1,⇑h2] aN y1 y2) hys) hI
theorem Ov{t0 t1 tm t2 fe m W_ wd nu dk:Nat}{c:Wc}{l:Int}(RA:aa A 110)(TT:aE J.P h)(hfr:h.get? fr=some (ai [ent J.P fJ t0 (.ref sc),ent J.P cG t1 (.int (m:Int) tm),ent J.P gB t2 (.ref nu)] fe))(hcp:h.get? cp=some fQ)(hcw:h.get? cw=some (bL (.ref W_)))(hcd:h.get? cd=some (bL (.ref dk)))(hW:h.get? W_=some (ins 464 wd))(ck:cP J.P h c wd l)(bY:cZ h dk)
 (nd:([fr,cp,cw,cd,W_,wd,dk]:List Nat).Nodup) (g1:534≤fr) (g2:534≤wd) (g3:534≤cp) (g4:534≤dk) (m1:1≤m) (m4:m≤4) {D:List Addr} (hD:∀x∈D,x<⇑h)
 (H:∀h' tk' (dR pl ep:Nat) gs ps l',Kp [fr,cp,wd,dk] h h'→h'.get? fr=some (ai [ent J.P fJ t0 (.ref sc),ent J.P cG t1 (.int (m:Int) tm),ent J.P gB t2 (.ref nu)] dR)→cP J.P h' c wd l'→cZ h' dk→h'.get? cp=some (bL (.ref pl))→⇑h≤pl→h'.get? pl=some (lst gs ep)→fW J.P (view D h') ps gs→ps.length=m→j_ l ps l'→
  wpAny J.M A (execs rest (bC J.P fr cd cw cp cf)) Q E (J.S h' tk')):
 wpAny J.M A (execs (aF J.P 3::rest) (bC J.P fr cd cw cp cf)) Q E (J.S h tk):=by
 refine A_ nd fun q1 q2 q3 q4 q5 q6 q7 q8 q9 sD xd D6 D7 An Ar LX D9 D_ Ow Ox W3=>?_
 have aN:fr<⇑h:=aj hfr
 have jP:cp<⇑h:=aj hcp
 have nC:cw<⇑h:=aj hcw
 have xX:cd<⇑h:=aj hcd
 have lW:W_<⇑h:=aj hW
 have aD:wd<⇑h:=by obtain⟨tl,e⟩:=ck;exact aj e
 have aA:dk<⇑h:=by obtain⟨ys,e,ns',e1,_⟩:=bY;exact aj e1
 have B:=aG (prog:=pw) (w:=J.W) (mods:=[fr,cp,wd,dk]) TT mP (ro:=[]) trivial
 let vv:Vv:=gn fr fe t0 sc t1 tm t2 nu cd cw cp cf ⇑h tk 0 0 0 m 0 .none .none [] [] []
 refine ko fun R hR=>s3.b0 vv rfl (RA.less rfl) B (iZ .refl hfr hcp (by left) (.inl (by k_in)) (.inl (by k_in))) (fun h1 aB H1=>.code (xY (n:=(m:Int)) (H1.get 2 rfl) (pS (by left)).1 (pS (by left)).2 fun h2 N2=>?_))
 have y1:⇑h1=⇑h+1:=H1.size
 have y2:⇑h2=⇑h1+1:=N2.size
 refine s3.b1 (a:=⇑h1) (b:=⇑h2) (RA.less rfl) B H1.k (by have e:=N2.at_;rw[H1.size]at e⊢;exact H1.rep.new N2.kp e) (fun h3 az H3=>.code ?_)
 have y3:⇑h3=⇑h2+2:=H3.size
 have S1:Kp [fr,cp] h h1:=H1.seg
 have Bc:=At.eO (hb:=h) (M:=[fr,cp]) H1 (bl) (fun x hx=>.inl (pK [0,1] rfl x hx))
 have S3:Kp [fr,cp] h h3:=(S1.step N2.kp (by k_in)).step H3.seg (fun x hx=>by
  change _∈List.map _ (_++_)at hx
  rw[List.map_append]at hx
  rcases mA hx with hx|hx
  ·exact Bc x hx
  ·rw[mS hx];exact .inr S1.size)
 have u_:IsRangeIter h3 ⇑h1 ((0:Nat):Int) m 1:=H3.get 2 rfl
 have T3:Tl [⇑h1] h3:=gC (c:=⇑h2+1) (H3.get 4 rfl) y3 (by left)
 refine Fo u_ (Mf (c:=c) (it:=⇑h1) (acc:=⇑h2) (L:=⇑h2+1) (fr:=fr) (cw:=cw) (cd:=cd) (W_:=W_) (wd:=wd) (dk:=dk) (n:=m) (l:=l) (N:=⇑h3) (D:=[fr,cp,⇑h1,⇑h2,⇑h2+1,wd,dk]++D) (aa.up H3.k RA rfl) (by left) Be (by exact kNc (#[0x110101531131c20322112,cw,⇑h,⇑h1] nC y1) (kNc (#[0x11010101741131c30421c20322113,cw,⇑h,⇑h1,⇑h2] nC y1 y2) (kNc (#[0x1101010171c401131c30421c20322113,cw,⇑h,⇑h1,⇑h2] nC y1 y2) (kNc An (kNc Ar kNn))))) (by exact kNc (#[0x110101531131c20322112,W_,⇑h,⇑h1] lW y1) (kNc (#[0x11010101741131c30421c20322113,W_,⇑h,⇑h1,⇑h2] lW y1 y2) (kNc (#[0x1101010171c401131c30421c20322113,W_,⇑h,⇑h1,⇑h2] lW y1 y2) (kNc Ow (kNc Ox kNn))))) (by exact kNc (#[0x110101531131c20322112,cd,⇑h,⇑h1] xX y1) (kNc (#[0x11010101741131c30421c20322113,cd,⇑h,⇑h1,⇑h2] xX y1 y2) (kNc (#[0x1101010171c401131c30421c20322113,cd,⇑h,⇑h1,⇑h2] xX y1 y2) (kNc D9 (kNc D_ kNn))))) Ay (bl) ?_ ?_ (TT.kp S3 bB) u_ T3 (H3.get 3 rfl) (H3.get 4 rfl) (S3.keep _ _ au hcw) (S3.keep _ _ au hW) (S3.keep _ _ au hcd) (ck.kp S3 au) (bY.kp S3 au) fun h4 av ys ea ps l' K4 hys hgs hps hpl mT mU bP=>?_)
 ·exact kAa (#[0x111010101000b11010100100b11000000000b11000000000b11010000000b11010100010b11010100001b541c7076317872c70821c60721c20622512412312117,fr,⇑h,cp,wd,dk,⇑h1,⇑h2,⇑h3] aN jP aD aA y1 y2 y3) fun x hx=>aJ (hD x hx) (by left)
 ·k_in
 refine bP.gX m1 fun a1 a2 a3 bP=>?_
 have lJ:Kp [fr,cp,wd,dk] h h3:=H3.kp
 have gY:Kp [fr,cp,wd,dk] h h4:=lJ.step K4 (by k_in)
 have f4:h4.get? fr=some _:=K4.keep _ _ (by exact kNc (#[0x110101531131c20322112,fr,⇑h,⇑h1] aN y1) (kNc (#[0x11010101741131c30421c20322113,fr,⇑h,⇑h1,⇑h2] aN y1 y2) (kNc (#[0x1101010171c401131c30421c20322113,fr,⇑h,⇑h1,⇑h2] aN y1 y2) (kNc q5 (kNc q6 kNn))))) (H3.get 0 rfl)
 have p4:h4.get? cp=some _:=K4.keep _ _ (by exact kNc (#[0x110101531131c20322112,cp,⇑h,⇑h1] jP y1) (kNc (#[0x11010101741131c30421c20322113,cp,⇑h,⇑h1,⇑h2] jP y1 y2) (kNc (#[0x1101010171c401131c30421c20322113,cp,⇑h,⇑h1,⇑h2] jP y1 y2) (kNc sD (kNc xd kNn))))) (H3.get 1 rfl)
 refine s3.b2 (g:=⇑h4) (RA.less rfl) B H3.k (jQ (a:=fr) (b:=cp) (c:=⇑h2+1) gY f4 p4 bP (by left) (oM (oF (oJ (oG y2 (oE (oG y1 oA))) aN))) (oM (oF (oJ (oG y2 (oE (oG y1 oA))) jP))) (.inl (by k_in)) (.inl (by k_in)) (.inr (by left))) (fun h5 aY H5=>?_)
 refine hR _ ?_
 have S5:Kp [fr,cp,⇑h2+1] h4 h5:=H5.seg
 exact H h5 aY _ ⇑h2 ea ys ps l' H5.kp (H5.get 0 rfl) (mT.kp S5 (by exact kNc (Ne.symm q5) (kNc (Ne.symm sD) (kNc (#[0x1101010171c401131c30421c20322113,wd,⇑h,⇑h1,⇑h2] aD y1 y2) kNn)))) (mU.kp S5 (by exact kNc (Ne.symm q6) (kNc (Ne.symm xd) (kNc (#[0x1101010171c401131c30421c20322113,dk,⇑h,⇑h1,⇑h2] aA y1 y2) kNn)))) (H5.get 1 rfl) (by left) (S5.keep _ _ (by exact #[0x110000000811010107110100171c50313551c40521c20422312114,fr,⇑h,cp,⇑h1,⇑h2] aN jP y1 y2) hys) (hgs.mono fun a o x=>jf (fun x hx=>bD hx) a o (aO S5 (by k_in) a o x)) hps hpl
end
end
section
variable [Zero Heap]
noncomputable abbrev F3(P:Params)(t0 sc t1 m tm t2 nu:Nat):List DictEntry:=[ent P fJ t0 (.ref sc),ent P cG t1 (.int (m:Int) tm),ent P gB t2 (.ref nu)]
noncomputable abbrev F4(P:Params)(t0 sc t1 m tm t2 nu t3 sh:Nat):List DictEntry:=[ent P fJ t0 (.ref sc),ent P cG t1 (.int (m:Int) tm),ent P gB t2 (.ref nu),ent P jo t3 (.ref sh)]
noncomputable abbrev F5(P:Params)(t0 sc t1 m tm t2 nu t3 sh t4 sp:Nat):List DictEntry:=[ent P fJ t0 (.ref sc),ent P cG t1 (.int (m:Int) tm),ent P gB t2 (.ref nu),ent P jo t3 (.ref sh),ent P pZ t4 (.ref sp)]
noncomputable abbrev F6(P:Params)(t0 sc t1 m tm t2 nu t3 sh t4 sp t5 nd:Nat):List DictEntry:=[ent P fJ t0 (.ref sc),ent P cG t1 (.int (m:Int) tm),ent P gB t2 (.ref nu),ent P jo t3 (.ref sh),ent P pZ t4 (.ref sp),ent P fq t5 (.ref nd)]
noncomputable abbrev F7(P:Params)(t0 sc t1 m tm t2 nu t3 sh t4 sp t5 nd t6 st:Nat):List DictEntry:=[ent P fJ t0 (.ref sc),ent P cG t1 (.int (m:Int) tm),ent P gB t2 (.ref nu),ent P jo t3 (.ref sh),ent P pZ t4 (.ref sp),ent P fq t5 (.ref nd),ent P jq t6 (.ref st)]
section
variable {J:WX}{A:Around}{E:Value→Shared→Prop}{h:Heap}{tk:Nat}{Q:Flow→Shared→Prop}{rest:List Stmt}{fr cd cw cp cf sc t0 t1 m tm t2 nu fe:Nat}{D:List Addr}
theorem Qn{pl ep:Nat}{gs:List Value}{ps:List (Nd×Sh)}(RA:aa A 80)(TT:aE J.P h)(hfr:h.get? fr=some (ai (F3 J.P t0 sc t1 m tm t2 nu) fe))(hcf:h.get? cf=some fQ)(hcp:h.get? cp=some (bL (.ref pl)))(hpl:h.get? pl=some (lst gs ep))(hgs:fW J.P (view D h) ps gs)(g1:534≤fr)(g2:534≤cf)(n1:fr≠cf)(n2:cp≠fr)(n3:cp≠cf)(n4:pl≠fr)(n5:pl≠cf)(m1:1≤gs.length)(m4:gs.length≤10)(dM:fr∈D∧cf∈D)(hD:∀x∈D,x<⇑h)
 (H:∀h' tk' (fl ef:Nat) fs,Kp [fr,cf] h h'→h'.get? fr=some (ai (F3 J.P t0 sc t1 m tm t2 nu) fe)→h'.get? cf=some (bL (.ref fl))→⇑h≤fl→h'.get? fl=some (lst fs ef)→bR (ps.map Prod.snd) fs→
  wpAny J.M A (execs rest (bC J.P fr cd cw cp cf)) Q E (J.S h' tk')):
 wpAny J.M A (execs (aF J.P 4::rest) (bC J.P fr cd cw cp cf)) Q E (J.S h tk):=by
 have aN:fr<⇑h:=aj hfr
 have lQ:cf<⇑h:=aj hcf
 have jP:cp<⇑h:=aj hcp
 have bK:pl<⇑h:=aj hpl
 have B:=aG (prog:=pw) (w:=J.W) (mods:=[fr,cf]) TT bB (ro:=[(cp,_),(pl,_)]) (rC hcp au (rC hpl au rN))
 let vv:Vv:=gn fr fe t0 sc t1 tm t2 nu cd cw cp cf pl ep ⇑h tk 0 m 0 .none .none gs [] []
 refine ko fun R hR=>s4.b0 vv rfl (RA.less rfl) B (cj hfr hcf n1) (fun h1 aB H1=>.code ?_)
 have y1:⇑h1=⇑h+3:=H1.size
 have K1:Kp [fr,cf] h h1:=H1.kp
 have hit:h1.IsListIter ⇑h pl 0:=fR (H1.get 2 rfl)
 have T1:Tl [⇑h] h1:=gC (c:=⇑h+2) (H1.get 4 rfl) y1 (by left)
 have vD:∀a o,view D h a o→view ([⇑h,⇑h+1,⇑h+2]++D) h1 a o:=fun a o x=>aO K1 (fun x hx=>bD (by rcases mC hx with rfl|hx;exact dM.1;rw[mS hx];exact dM.2)) a o (gI (ic (by k_in)) a o x)
 refine jU hit (LY (G:=pl) (N:=0) (it:=⇑h) (acc:=⇑h+1) (L:=⇑h+2) (fr:=fr) (D:=[⇑h,⇑h+1,⇑h+2]++D) (aa.up H1.k RA rfl) (oS m4 rfl) (oW rfl) (oW rfl) (oO rfl) (oM bK) (oM (oF bK)) (oM (oF bK)) (oL lQ g2) (oE (oL lQ g2)) (oE (oL lQ g2)) (by k_in) (by k_in) (by k_in) (TT.kp K1 bB) hit (K1.keep _ _ au hpl) (hgs.mono vD) T1 (H1.get 3 rfl) (H1.get 4 rfl) fun h2 ao ys ea K2 hys hsh hL=>?_)
 refine hL.gX m1 fun a1 a2 a3 hL=>?_
 have jV:Kp [fr,cf] h h2:=K1.step K2 (by k_in)
 have f2:h2.get? fr=some _:=K2.keep _ _ (by exact #[0x11013101310132c201c2023152111,fr,⇑h] aN) (H1.get 0 rfl)
 have c2:h2.get? cf=some _:=K2.keep _ _ (by exact #[0x11013101310132c201c2023152111,cf,⇑h] lQ) (H1.get 1 rfl)
 have z2:=K2.size
 refine s4.b1 (d:=⇑h2) (RA.less rfl) B H1.k (jQ (a:=fr) (b:=cf) (c:=⇑h+2) jV f2 c2 hL (by left) (oM (oF aN)) (oM (oF lQ)) (.inl (by k_in)) (.inl (by k_in)) (.inr (by left))) (fun h3 az H3=>?_)
 refine hR _ ?_
 have S3:Kp [fr,cf,⇑h+2] h2 h3:=H3.seg
 exact H h3 az (⇑h+1) ea ys H3.kp (H3.get 0 rfl) (H3.get 1 rfl) (by left) (S3.keep _ _ (by exact #[0x110004110310132c203131c2052312112,fr,⇑h,cf] aN lQ) hys) hsh
theorem Qp{en:Nat}{ns:List Value}{Ns:List Int}(RA:aa A 80)(TT:aE J.P h)(hfr:h.get? fr=some (ai (F3 J.P t0 sc t1 m tm t2 nu) fe))(bJ:h.get? nu=some (lst ns en))(hi:IntsAre ns Ns)(g1:534≤fr)(n1:nu≠fr)(m1:1≤ns.length)(m4:ns.length≤10)(hD:∀x∈D,x<⇑h)
 (H:∀h' tk' (dR t3 sh:Nat),Kp [fr] h h'→h'.get? fr=some (ai (F4 J.P t0 sc t1 m tm t2 nu t3 sh) dR)→aM J.P (view D h') (.call (.glob 2) (Ns.map fun i=>.loc i)) sh→
  wpAny J.M A (execs rest (bC J.P fr cd cw cp cf)) Q E (J.S h' tk')):
 wpAny J.M A (execs (aF J.P 5::rest) (bC J.P fr cd cw cp cf)) Q E (J.S h tk):=by
 have aN:fr<⇑h:=aj hfr
 have bh:nu<⇑h:=aj bJ
 have hl:=IntsAre.length hi
 have B:=aG (prog:=pw) (w:=J.W) (mods:=[fr]) TT bI (ro:=[(nu,_)]) (rC bJ ak rN)
 let vv:Vv:=gn fr fe t0 sc t1 tm t2 nu cd cw cp cf en ⇑h tk 0 0 m 0 .none .none ns [] []
 refine ko fun R hR=>s5.b0 vv rfl (RA.less rfl) B (cQ .refl hfr (.inl (by k_in))) (fun h1 aB H1=>.code ?_)
 have y1:⇑h1=⇑h+6:=H1.size
 have K1:Kp [fr] h h1:=H1.kp
 have hit:h1.IsListIter (⇑h+3) nu 0:=fR (H1.get 3 rfl)
 have T1:Tl [⇑h+3] h1:=gC (c:=⇑h+5) (H1.get 5 rfl) y1 (by left)
 refine jU hit (LU (G:=nu) (N:=⇑h1) (it:=⇑h+3) (acc:=⇑h+4) (L:=⇑h+5) (fr:=fr) (D:=[fr,⇑h+3,⇑h+4,⇑h+5]++D) (aa.up H1.k RA rfl) (oS m4 rfl) (oO rfl) (oO rfl) (oO rfl) (oM (oF bh)) (oM (oF bh)) (oM (oF bh)) (oE (oL aN g1)) (oE (oL aN g1)) (oE (oL aN g1)) (bl) ?_ (by k_in) (by k_in) (by k_in) (TT.kp K1 bI) hit (K1.keep _ _ ak bJ) hi T1 (H1.get 4 rfl) (H1.get 5 rfl) fun h2 ao as ea K2 has hnd hL=>?_)
 ·exact kAa (#[0x1110041100411004110145c204c203c2014376c20322112,fr,⇑h,⇑h1] aN y1) fun x hx=>aJ (hD x hx) K1.size
 refine hL.gX m1 fun a1 a2 a3 hL=>?_
 have jV:Kp [fr] h h2:=K1.step K2 (by k_in)
 have f2:h2.get? fr=some _:=K2.keep _ _ (by exact #[0x11013101310135c204c203c203152111,fr,⇑h] aN) (H1.get 0 rfl)
 have z2:=K2.size
 refine s5.b1 (d:=⇑h2) (RA.less rfl) B H1.k (iZ (a:=fr) (b:=⇑h+5) jV f2 hL (oM (oF aN)) (.inl (by k_in)) (.inr (by left))) (fun h3 az H3=>?_)
 refine hR _ ?_
 have S3:Kp [fr,⇑h+5] h2 h3:=H3.seg
 have hv:∀{x:Nat}{o:Obj},⇑h≤x→h3.get? x=some o→view D h3 x o:=fun hc e=>iI hD hc e
 refine H h3 az _ _ (⇑h2+1) H3.kp (H3.get 0 rfl) (aQ.call (hnd.mono (fun a o x=>jf (fun x hx=>bD hx) a o (aO S3 (by k_in) a o x))) (hv (aq (oI z2 (oG y1 oA)) (br)) (H3.get 2 rfl)) (hv (oI z2 (oG y1 oA)) (H3.get 1 rfl)) (.glob (hv (br) (S3.keep (⇑h+1) _ (by exact #[0x110031125c20121c2052111,fr,⇑h] aN) (K2.keep _ _ bw (H1.get 2 rfl)))) (hv (bl) (S3.keep ⇑h _ (by exact #[0x110031125c2012252111,fr,⇑h] aN) (K2.keep _ _ bw (H1.get 1 rfl))))) (hv (br) (S3.keep (⇑h+4) _ (by exact #[0x110031125c20124c2052111,fr,⇑h] aN) has)) (by simp;exact ox hl.symm (oS m4 rfl)))
theorem Qq{en t3 sh:Nat}{ns:List Value}{Ns:List Int}(RA:aa A 80)(TT:aE J.P h)(hfr:h.get? fr=some (ai (F4 J.P t0 sc t1 m tm t2 nu t3 sh) fe))(bJ:h.get? nu=some (lst ns en))(hi:IntsAre ns Ns)(g1:534≤fr)(n1:nu≠fr)(m1:1≤ns.length)(m4:ns.length≤10)(hD:∀x∈D,x<⇑h)
 (H:∀h' tk' (dR t4 sp es:Nat) as,Kp [fr] h h'→h'.get? fr=some (ai (F5 J.P t0 sc t1 m tm t2 nu t3 sh t4 sp) dR)→⇑h≤sp→h'.get? sp=some (lst (refs as) es)→aQ J.P (view D h') (Ns.map fun i=>Nd.aP i (.int (100+i))) as→
  wpAny J.M A (execs rest (bC J.P fr cd cw cp cf)) Q E (J.S h' tk')):
 wpAny J.M A (execs (aF J.P 6::rest) (bC J.P fr cd cw cp cf)) Q E (J.S h tk):=by
 have aN:fr<⇑h:=aj hfr
 have bh:nu<⇑h:=aj bJ
 have hl:=IntsAre.length hi
 have B:=aG (prog:=pw) (w:=J.W) (mods:=[fr]) TT bI (ro:=[(nu,_)]) (rC bJ ak rN)
 let vv:Vv:=gn fr fe t0 sc t1 tm t2 nu t3 sh cd cw cp cf en ⇑h tk m 0 .none .none ns [] []
 refine ko fun R hR=>s6.b0 vv rfl (RA.less rfl) B (cQ .refl hfr (.inl (by k_in))) (fun h1 aB H1=>.code ?_)
 have y1:⇑h1=⇑h+3:=H1.size
 have K1:Kp [fr] h h1:=H1.kp
 have hit:h1.IsListIter ⇑h nu 0:=fR (H1.get 1 rfl)
 have T1:Tl [⇑h] h1:=gC (c:=⇑h+2) (H1.get 3 rfl) y1 (by left)
 refine jU hit (LV (G:=nu) (N:=⇑h1) (it:=⇑h) (acc:=⇑h+1) (L:=⇑h+2) (fr:=fr) (D:=[fr,⇑h,⇑h+1,⇑h+2]++D) (aa.up H1.k RA rfl) (oS m4 rfl) (oW rfl) (oW rfl) (oO rfl) (oM bh) (oM (oF bh)) (oM (oF bh)) (oL aN g1) (oE (oL aN g1)) (oE (oL aN g1)) (bl) ?_ (by k_in) (by k_in) (by k_in) (TT.kp K1 bI) hit (K1.keep _ _ ak bJ) hi T1 (H1.get 2 rfl) (H1.get 3 rfl) fun h2 ao as ea K2 has hnd hL=>?_)
 ·exact kAa (#[0x1110041100411004110142c201c20214373c20322112,fr,⇑h,⇑h1] aN y1) fun x hx=>aJ (hD x hx) K1.size
 refine hL.gX m1 fun a1 a2 a3 hL=>?_
 have jV:Kp [fr] h h2:=K1.step K2 (by k_in)
 have f2:h2.get? fr=some _:=K2.keep _ _ (by exact #[0x11013101310132c201c2023152111,fr,⇑h] aN) (H1.get 0 rfl)
 have z2:=K2.size
 refine s6.b1 (d:=⇑h2) (RA.less rfl) B H1.k (iZ (a:=fr) (b:=⇑h+2) jV f2 hL (oM (oF aN)) (.inl (by k_in)) (.inr (by left))) (fun h3 az H3=>?_)
 refine hR _ ?_
 have S3:Kp [fr,⇑h+2] h2 h3:=H3.seg
 refine H h3 az _ _ (⇑h+1) ea as H3.kp (H3.get 0 rfl) (by left) (S3.keep (⇑h+1) _ (by exact #[0x110031122c20121c2052111,fr,⇑h] aN) has) (hnd.mono (fun a o x=>jf (fun x hx=>bD hx) a o (aO S3 (by k_in) a o x)))
theorem Qx{t3 sh t4 sp t5 nd:Nat}(RA:aa A 80)(TT:aE J.P h)(hfr:h.get? fr=some (ai (F6 J.P t0 sc t1 m tm t2 nu t3 sh t4 sp t5 nd) fe))(g1:534≤fr)
 (H:∀h' tk' (dR t6 st t8 t9:Nat),Kp [fr] h h'→h'.get? fr=some (ai (F7 J.P t0 sc t1 m tm t2 nu t3 sh t4 sp t5 nd t6 st) dR)→st=⇑h→h'.get? st=some (iT J.P t8 t9 (st+1) (st+2) 2)→h'.get? (st+1)=some (dct [] 0)→h'.get? (st+2)=some (lst [] 0)→
  wpAny J.M A (execs rest (bC J.P fr cd cw cp cf)) Q E (J.S h' tk')):
 wpAny J.M A (execs (aF J.P 8::rest) (bC J.P fr cd cw cp cf)) Q E (J.S h tk):=by
 have B:=aG (prog:=pw) (w:=J.W) (mods:=[fr]) TT bI (ro:=[]) trivial
 refine A1 ?_
 let vv:Vv:=fD fr fe t0 sc t1 tm t2 nu t3 sh t4 sp t5 nd cd cw cp cf ⇑h tk 0 0 0 0 0 0 0 m 0 .none [] [] [] []
 refine s8.b0 vv rfl (RA.less rfl) B (cQ .refl hfr (.inl (by k_in))) ?_
 intro h1 aB H1
 show wpAny _ _ _ _ _ _
 have a0:=H1.get 0 rfl
 have a1:=H1.get 1 rfl
 have a2:=H1.get 2 rfl
 have a3:=H1.get 3 rfl
 exact H h1 aB (fe+1) (tk+4) ⇑h tk (tk+1) H1.kp a0 rfl a1 a2 a3
end
end
section
variable {C:Cfg}
theorem jN.weak{σ:List AV}{kept:List (Int×List bG)}{ah xT:Nat→List Sh}(h:jN C σ kept ah)(e:∀j:Nat,(j:Int)∈kept.map (·.1)→ah j=xT j):jN C σ kept xT:=fun a fs hm=>by
 ac_rfl
 obtain⟨j,rfl,hj,ρ,E,hf⟩:=h a fs hm
 exact⟨j,rfl,hj,ρ,e j (List.mem_map.mpr ⟨_,hm,rfl⟩)▸E,hf⟩
theorem enter(O:C.OK){i:Nat}(hi:i<C.m){ρ:bH}{σ:List AV}{pre:List Sh}{v:AV}{sv:Sh}{kept:List (Int×List bG)}{s:List (List Sh)}(E:jh C (C.m-1-i) ρ σ pre)(hv:v.sh=some sv)(hk:kept.length≤100)(hs:s.length≤400):
 ∃uT σ2 v',Go ⟨.val v,C.fr i ρ,σ,kept,s⟩ ⟨.val v',[.seq (.aP (C.N (C.m-1-i)) (.loc (C.K (C.m-1-i)))::C.found i) 0 uT],σ2,kept,s⟩∧Ext C.m σ σ2∧jh C (C.m-1-i+1) uT σ2 (pre++[sv]):=by
 have hp:C.m-1-i<C.m:=#[0x110114311131c2022102,C.m-1-i,C.m-1,C.m] (Nat.sub_le _ _) (Nat.sub_add_cancel (#[0x1112211c02111,i,C.m] hi))
 have E1:=E.push O hv hp
 generalize hpp:C.m-1-i=p at*
 have e1:Ext C.m (σ++[v]) ((σ++[v]).set p v):=.set hp
 have lk:look (cI ρ (C.K p) σ.length) (C.K p)=some σ.length:=by rw[uM,if_pos rfl]
 have AK:p<(σ++[v]).length:=by have:=E.sl;simp;exact oF (oJ this hp)
 obtain⟨v',g⟩:=evSet (E1.n p hp) AK (A3 (v:=v) lk (by simp)) (s:=s) [.seq (.aP (C.N p) (.loc (C.K p))::C.found i) 0 (cI ρ (C.K p) σ.length)] kept (oz rfl) hk hs
 refine⟨_,_,v',.step (cM (oz rfl) hk hs) (S':=⟨.ev (C.sU i) (cI ρ (C.K p) σ.length),[],σ++[v],kept,s⟩) ?_ (.step (cM (Nat.zero_le _) hk hs) (S':=⟨.ev (.aP (C.N p) (.loc (C.K p))) (cI ρ (C.K p) σ.length),[.seq (.aP (C.N p) (.loc (C.K p))::C.found i) 0 (cI ρ (C.K p) σ.length)],σ++[v],kept,s⟩) ?_ g),Ext.push.trans e1,E1.mono e1⟩
 ·unfold Cfg.fr
  rw[hpp,uO rfl]
  show(if([]:List Int).length=([]:List AV).length∧([]:List AV).all (fun v=>!v.isInt)=true∧ρ.length+([]:List Int).length<100 then some (⟨.ev (C.sU i) (kg ρ [C.K p] σ.length),[],σ++[v],kept,s⟩:MS)else none)=_
  rw[if_pos ⟨rfl,rfl,by have:=E.len;have:=O.m4;simp;lia⟩]
  rfl
 ·unfold Cfg.sU
  rw[hpp];rfl
theorem E3(O:C.OK):xU C 0:=by
 intro ρ σ pre v sv kept s ah E hv hk hks hs dl hdl
 have m1:=O.m1
 have iX:kept.length≤100:=by have z:=hks.len (#[0x110114311c10031c2022102,C.m-1-0,C.m-1,C.m] (Nat.sub_le _ _) (Nat.sub_add_cancel (#[0x1112111c011c01,C.m] m1)));have:=O.m4;rw[List.length_map]at z;exact #[0x11113064d1104c202102,kept.length,C.m] z this
 ac_rfl
 obtain⟨uT,σ2,v',g,x1,E1⟩:=enter O (i:=0) (s:=s) (by left) E hv iX (by left)
 have NU:dl=pre++[sv]:=by simpa using hdl
 rw[show C.m-1-0+1=C.m from by exact #[0x111010061010016311c10231c20220c1022103,C.m-1-0,C.m-1,C.m] (Nat.sub_le _ _) (Nat.sub_add_cancel (#[0x111110c00,C.m-1])) (Nat.sub_add_cancel (#[0x1112111c011c01,C.m] m1)),←NU]at E1
 have hl:dl.length=C.m:=by rw[E1.pl]
 ac_rfl
 obtain⟨σ3,q1,q2,q3⟩:=EY O (s:=s) (by left) (List.range C.m) σ2 (fun j hj=>List.mem_range.mp hj) E1
 obtain⟨NV,q4,q5⟩:=A6 O E1.n hs hl (fun j hj=>q3 j (.inl (List.mem_range.mpr hj))) (aq E1.sl q2.1)
 obtain⟨_,g2⟩:=A5 (is:=.aP (C.N (C.m-1-0)) (.loc (C.K (C.m-1-0)))::C.found 0) (fs:=[]) (k:=kept) (Nat.zero_le _) iX (q1.append q4) v' 0 (by left) rfl
 have X:=x1.trans (q2.trans q5)
 refine⟨NV,kept,g.trans g2,X,(hk.mono X).weak (fun j hj=>?_),?_⟩
 ·rw[if_neg]
  have:=(hks.mem (#[0x110114311c10031c2022102,C.m-1-0,C.m-1,C.m] (Nat.sub_le _ _) (Nat.sub_add_cancel (#[0x1112111c011c01,C.m] m1))) hj).1
  exact Nat.not_lt_of_le (#[0x11101016411030c40221c3022113,j,C.m,C.m-1,C.m-1-0] this (Nat.sub_add_cancel (#[0x1112111c011c01,C.m] m1)) (Nat.sub_add_cancel (#[0x111110c00,C.m-1])))
 ·rw[show C.m-1-0+1=C.m from by exact #[0x111010061010016311c10231c20220c1022103,C.m-1-0,C.m-1,C.m] (Nat.sub_le _ _) (Nat.sub_add_cancel (#[0x111110c00,C.m-1])) (Nat.sub_add_cancel (#[0x1112111c011c01,C.m] m1))]at hks
  exact hks
theorem NW(O:C.OK){i:Nat}(hi:i+1<C.m)(B:A7 C i):xU C (i+1):=by
 intro ρ σ pre v sv kept s ah E hv hk hks hs dl hdl
 have iX:kept.length≤100:=by have z:=hks.len (#[0x110114311c10031c2022102,C.m-1-(i+1),C.m-1,C.m] (Nat.sub_le _ _) (Nat.sub_add_cancel (#[0x1112211c021c1011,i,C.m] hi)));have:=O.m4;rw[List.length_map]at z;exact #[0x11113064d1104c202102,kept.length,C.m] z this
 ac_rfl
 obtain⟨uT,σ2,v',g,x1,E1⟩:=enter O (s:=s) hi E hv iX (by left)
 rw[show C.m-1-(i+1)+1=C.m-1-i by lia]at E1 hks
 ac_rfl
 obtain⟨σ',kept',q1,q2,q3,q4⟩:=B uT σ2 _ kept s ah E1 (hk.mono x1) hks hs dl (by rw[hdl,show C.m-(i+1)=C.m-1-i from by exact #[0x1101011071101001751124250231c40231c201023,C.m-(i+1),i,C.m,C.m-1,C.m-1-i] (Nat.sub_add_cancel (#[0x1112211c10021c1011,i,C.m] hi)) (Nat.sub_add_cancel (#[0x1112211c021c1011,i,C.m] hi)) (Nat.sub_add_cancel (#[0x111014311021c30221c1012,i,C.m,C.m-1] hi (Nat.sub_add_cancel (#[0x1112211c021c1011,i,C.m] hi))))])
 refine⟨σ',kept',g.trans (.step (cM (oz rfl) iX (by left)) rfl q1),x1.trans q2,?_,q4⟩
 have e:(fun j=>if C.m-1-i≤j then dl.take j else ah j)=fun j=>if C.m-1-(i+1)<j then dl.take j else ah j:=by
  funext j
  by_cases h:C.m-1-i≤j
  ·rw[if_pos h,if_pos (by exact #[0x1110011621315410251c403022103,C.m-1-i,j,C.m-1-(i+1),i,C.m-1] h (Nat.sub_add_cancel (#[0x111014311c10021c30221c1012,i,C.m,C.m-1] hi (Nat.sub_add_cancel (#[0x1112211c021c1011,i,C.m] hi)))) (Nat.sub_add_cancel (#[0x11013312031c201021,C.m-1-(i+1),i,C.m-1] (Nat.sub_add_cancel (#[0x111014311c10021c30221c1012,i,C.m,C.m-1] hi (Nat.sub_add_cancel (#[0x1112211c021c1011,i,C.m] hi)))))))]
  ·rw[if_neg h,if_neg (by exact Nat.not_lt_of_le (#[0x1101101631205410251c403021213,C.m-1-i,j,C.m-1-(i+1),i,C.m-1] (Nat.lt_of_not_le h) (Nat.sub_add_cancel (#[0x111014311c10021c30221c1012,i,C.m,C.m-1] hi (Nat.sub_add_cancel (#[0x1112211c021c1011,i,C.m] hi)))) (Nat.sub_add_cancel (#[0x11013312031c201021,C.m-1-(i+1),i,C.m-1] (Nat.sub_add_cancel (#[0x111014311c10021c30221c1012,i,C.m,C.m-1] hi (Nat.sub_add_cancel (#[0x1112211c021c1011,i,C.m] hi))))))))]
 rw[←e];exact q3
theorem E4(O:C.OK){i:Nat}(hi:i<C.m)(A:xU C i):A7 C i:=by
 intro ρ σ pre kept s ah E hk hks hs dl hdl
 have hp:C.m-1-i<C.m:=#[0x110114311131c2022102,C.m-1-i,C.m-1,C.m] (Nat.sub_le _ _) (Nat.sub_add_cancel (#[0x1112211c02111,i,C.m] hi))
 have hp1:C.m-i=C.m-1-i+1:=#[0x110101107110100171c501124250231c402321023,C.m-i,i,C.m,C.m-1,C.m-1-i] (Nat.sub_add_cancel (#[0x111221102111,i,C.m] hi)) (Nat.sub_add_cancel (#[0x1112211c02111,i,C.m] hi)) (Nat.sub_add_cancel (#[0x111014311021c3022112,i,C.m,C.m-1] hi (Nat.sub_add_cancel (#[0x1112211c02111,i,C.m] hi))))
 have iX:kept.length≤50:=by have z:=hks.len (#[0x111221102111,C.m-1-i,C.m] hp);have:=O.m4;rw[List.length_map]at z;exact #[0x11113032d1104c202102,kept.length,C.m] z this
 have hpre:pre.length=C.m-1-i:=E.pl
 have htk:dl.take (C.m-1-i)=pre:=by rw[hdl,←hpre];simp
 have g0:Go ⟨.ev (C.nest i) ρ,[],σ,kept,s⟩ ⟨.ev (C.part (C.m-1-i)) ρ,C.fr i ρ,σ,kept,s⟩:=
  .step (cM (Nat.zero_le _) (by left) (by left)) (S':=⟨.ev (C.uR i) ρ,[.call [C.uR i,C.part (C.m-1-i)] [] ρ],σ,kept,s⟩) rfl
   (.step (cM (oz rfl) (by left) (by left)) (S':=⟨.val (.di [C.K (C.m-1-i)] (C.sU i) ρ),[.call [C.uR i,C.part (C.m-1-i)] [] ρ],σ,kept,s⟩) rfl
    (.one (cM (oz rfl) (by left) (by left)) rfl))
 have done:∀v kept',Go ⟨.ev (C.part (C.m-1-i)) ρ,C.fr i ρ,σ,kept,s⟩ ⟨.val v,C.fr i ρ,σ,kept',s⟩→v.sh=some (C.iV (C.m-1-i))→jN C σ kept' (fun j=>if j=C.m-1-i then pre else ah j)→iW C (C.m-1-i+1) (kept'.map (·.1))→
  After C ⟨.ev (C.nest i) ρ,[],σ,kept,s⟩ σ s dl (fun j=>if C.m-1-i≤j then dl.take j else ah j):=fun v kept' g hv hk' NX=>by
  ac_rfl
  obtain⟨σ',NY,q1,q2,q3,q4⟩:=A ρ σ pre v _ kept' s _ E hv hk' NX hs dl (by rw[hdl,hp1,List.range'_succ];simp)
  refine⟨σ',NY,g0.trans (g.trans q1),q2,?_,q4⟩
  have e:(fun j=>if C.m-1-i<j then dl.take j else if j=C.m-1-i then pre else ah j)=fun j=>if C.m-1-i≤j then dl.take j else ah j:=by
   funext j
   by_cases h:C.m-1-i<j
   ·rw[if_pos h,if_pos (by left)]
   ·rw[if_neg h]
    by_cases h2:j=C.m-1-i
    ·rw[if_pos h2,if_pos (by left),h2,htk]
    ·rw[if_neg h2,if_neg (by lia)]
  rw[←e];exact q3
 have hnk:∀(hc:C.cl (C.m-1-i)=false),jN C σ kept (fun j=>if j=C.m-1-i then pre else ah j):=fun hc=>hk.weak fun j hj=>by
  by_cases h3:j=C.m-1-i
  ·have:=(hks.mem (by left) hj).2
   rw[h3,hc]at this;cases this
  ·rw[if_neg h3]
 have P:=O.part _ hp
 generalize hx:C.part (C.m-1-i)=x at P done
 generalize hy:C.iV (C.m-1-i)=y at P done
 generalize hz:C.cl (C.m-1-i)=z at P
 have bf:(C.fr i ρ).length≤1:=oR
 cases P with
 |int n=>exact done _ kept (qR ρ n σ _ kept s (by left) (by left) (by left)) rfl (hnk hz) ((hks.step hp).1 hz)
 |lam lb n=>exact done (.di [] (.int n) ρ) kept (.one (cM (by left) (by left) (by left)) rfl) rfl (hnk hz) ((hks.step hp).1 hz)
 |call n=>
  ac_rfl
  obtain⟨gs',v',e1,e2,g⟩:=uN (is:=[.glob 1,.int ((C.m-1-i:Nat):Int),.int n]) (ρ:=ρ) (σ:=σ) (fs:=C.fr i ρ) (k:=kept) (s:=s) (by left) (by left) (by left) [.int ((C.m-1-i:Nat):Int),.int n] [.int ((C.m-1-i:Nat):Int),.int n] [] (.glob 1) rfl (fun j x u a b=>by
   match j,a,b with
   |0,a,b=>cases a;cases b;exact qR _ _ _
   |1,a,b=>cases a;cases b;exact qR _ _ _) rfl (oz rfl)
  refine done (.int n) (cI kept ((C.m-1-i:Nat):Int) (C.fr i ρ)) (.step (cM (by left) (by left) (by left)) (S':=⟨.ev (.glob 1) ρ,.call [.glob 1,.int ((C.m-1-i:Nat):Int),.int n] [] ρ::C.fr i ρ,σ,kept,s⟩) rfl (.step (cM (by simp;left) (by left) (by left)) (S':=⟨.val (.glob 1),.call [.glob 1,.int ((C.m-1-i:Nat):Int),.int n] [] ρ::C.fr i ρ,σ,kept,s⟩) rfl (g.trans (.one (cM (by simp;left) (by left) (by left)) ?_)))) rfl ?_ ?_
  ·rw[uO e2,e1];rfl
  ·intro a fs hm
   rcases NR hm with e|⟨hm,hne⟩
   ·cases e
    exact⟨C.m-1-i,rfl,hp,ρ,by simp only[if_true];exact E,by rw[show C.m-1-(C.m-1-i)=i from by exact #[0x1110015101105214231402321022,C.m-1-i,i,C.m-1,C.m-1-(C.m-1-i)] (Nat.sub_add_cancel (#[0x111014311021c3022112,i,C.m,C.m-1] hi (Nat.sub_add_cancel (#[0x1112211c02111,i,C.m] hi)))) (Nat.sub_add_cancel (#[0x111221102101,C.m-1-i,C.m-1] (Nat.sub_le _ _)))]⟩
   ·ac_rfl
    obtain⟨j,rfl,hj,ρ',E',hf⟩:=hk a fs hm
    refine⟨j,rfl,hj,ρ',?_,hf⟩
    have hne':¬j=C.m-1-i:=fun q=>hne (by rw[q])
    simp only[if_neg hne'];exact E'
  ·rw[NQ]
   exact(hks.step hp).2 hz
theorem A8(O:C.OK):∀i,i<C.m→xU C i∧A7 C i
 |0,h=>⟨E3 O,E4 O h (E3 O)⟩
 |i+1,h=>by
  have ih:=A8 O i (by left)
  have a:=NW O h ih.2
  exact⟨a,E4 O h a⟩
end
namespace Cfg
variable (C:Cfg)
noncomputable def ns:List Int:=(List.range C.m).map C.N
noncomputable def cU:List Nd:=(((List.range C.m).map fun j=>.aP (C.N j) (C.part j))++C.tail)++[.int 5]
noncomputable def root(cx:Bool)(L:Int):Nd:=.call (.lam L C.ns (if cx then C.nest (C.m-1)else .seq C.cU)) ((List.range C.m).map fun _=>.aS)
noncomputable def dJ:bH:=kg [] C.ns 0
noncomputable def nB:List bG:=[.set 0,.seq C.cU 0 C.dJ]
noncomputable def firsts:List Sh:=(List.range C.m).map C.iV
end Cfg
theorem E5(N:Nat→Int):∀(k a:Nat)(ρ:bH)(n:Int),look (kg ρ ((List.range' a k).map N) a) n=(match(List.range' a k).reverse.find? (fun j=>N j=n)with
 |some j=>some j
 |none=>look ρ n)
 |0,a,ρ,n=>by exact rfl
 |k+1,a,ρ,n=>by
  rw[List.range'_succ,List.map_cons,kg,E5 N k (a+1),List.reverse_cons,List.find?_append]
  cases(List.range' (a+1) k).reverse.find? (fun j=>N j=n)with
  |some j=>rfl
  |none=>
   simp only[Option.none_or,List.find?_singleton,uM]
   by_cases h:N a=n
   ·simp[h]
   ·have:¬n=N a:=fun q=>h q.symm
    simp[h,this]
section
variable {C:Cfg}
theorem uU(O:C.OK){j:Nat}(hj:j<C.m):look C.dJ (C.N j)=some j:=by
 unfold Cfg.dJ Cfg.ns
 rw[List.range_eq_range',E5]
 cases h:(List.range' 0 C.m).reverse.find? (fun i=>C.N i=C.N j)with
 |none=>
  rw[List.find?_eq_none]at h
  exact absurd (by simp) (h j (by simp[List.mem_range'_1,hj]))
 |some i=>
  have h1:=List.find?_some h
  have h2:=List.mem_of_find?_eq_some h
  simp[List.mem_range'_1]at h1 h2
  rw[O.nn i j h2 hj h1]
theorem NZ(O:C.OK){σ:List AV}(h:C.m≤σ.length):jh C 0 C.dJ σ []:=⟨fun j hj=>uU O hj,fun j hj=>by lia,by have:=AO C.ns [] 0;unfold Cfg.dJ;simp[Cfg.ns]at this⊢;exact this,h,rfl⟩
theorem N1(O:C.OK)(cx:Bool)(L:Int):Go ⟨.ev (C.root cx L) [],[],[],[],[]⟩ ⟨.ev (if cx then C.nest (C.m-1)else .seq C.cU) C.dJ,[],List.replicate C.m .aS,[],[]⟩:=by
 generalize hb:(if cx then C.nest (C.m-1)else .seq C.cU)=b
 have hr:C.root cx L=.call (.lam L C.ns b) ((List.range C.m).map fun _=>.aS):=by unfold Cfg.root;rw[hb]
 rw[hr]
 let xs:List Nd:=(List.range C.m).map fun _=>.aS
 have hvs:((List.range C.m).map fun _=>AV.aS)=List.replicate C.m .aS:=by rw[List.map_const',List.length_range]
 ac_rfl
 obtain⟨gs',v',e1,e2,g⟩:=uN (is:=.lam L C.ns b::xs) (ρ:=[]) (σ:=[]) (fs:=[]) (k:=[]) (s:=[]) (Nat.zero_le _) (Nat.zero_le _) (Nat.zero_le _) xs ((List.range C.m).map fun _=>AV.aS) [] (.di C.ns b []) (by simp[xs]) (fun j x u a b=>by
  simp only[xs,List.getElem?_map,Option.map_eq_some_iff]at a b
  ac_rfl
  obtain⟨j1,a1,rfl⟩:=a
  obtain⟨j2,a2,rfl⟩:=b
  exact NS [] []) rfl (oz rfl)
 have z4:∀{n m:Nat},n≤1→n≤m+1:=fun h=>by left
 refine .step (cM (Nat.zero_le _) (Nat.zero_le _) (Nat.zero_le _)) (S':=⟨.ev (.lam L C.ns b) [],[.call (.lam L C.ns b::xs) [] []],[],[],[]⟩) rfl (.step (cM (z4 (bl)) (Nat.zero_le _) (Nat.zero_le _)) (S':=⟨.val (.di C.ns b []),[.call (.lam L C.ns b::xs) [] []],[],[],[]⟩) rfl (g.trans (.one (cM (z4 (bl)) (Nat.zero_le _) (Nat.zero_le _)) ?_)))
 rw[uO e2,e1,hvs]
 obtain⟨n,hn⟩:∃n,C.m=n+1:=⟨C.m-1,by have:=O.m1;exact #[0x1101311031c1012221c1021,C.m-1,C.m] (Nat.sub_add_cancel (#[0x1112111c011c01,C.m] this))⟩
 have hns:C.ns=C.N 0::(List.range' 1 n).map C.N:=by
  unfold Cfg.ns;rw[hn,List.range_eq_range',List.range'_succ];rfl
 rw[hn,List.replicate_succ,List.nil_append,List.singleton_append]
 have:C.dJ=kg [] (C.N 0::(List.range' 1 n).map C.N) 0:=by unfold Cfg.dJ;rw[hns]
 rw[this,hns]
 show(if((List.range' 1 n).map C.N).length=(List.replicate n AV.aS).length∧(List.replicate n AV.aS).all (fun v=>!v.isInt)=true∧([]:bH).length+((List.range' 1 n).map C.N).length<100 then _ else none)=_
 rw[if_pos ⟨by simp,by simp[AV.isInt],by have:=O.m4;simp;exact oj (ox hn.symm (oS this rfl))⟩]
 rfl
noncomputable def LK(C:Cfg)(cx:Bool)(σ:List AV)(kept:List (Int×List bG))(ah:Nat→List Sh):Prop:=
 if cx then jN C σ kept ah else∀a fs,(a,fs)∈kept→C.m=1∧a=0∧fs=C.nB∧ah 0=[]∧1≤σ.length
structure iM (C:Cfg) (cx:Bool) (S:MS) (ah:Nat→List Sh):Prop where
 aR:S.aR=.val (.int 5)
 fs:S.fs=[]
 keys:S.kept.map (·.1)=bE C C.m
 lk:LK C cx S.σ S.kept ah
theorem iW.full{ks:List Int}(h:iW C C.m ks):ks=bE C C.m:=by rcases h with h|h<;>exact h
theorem After.jO{S:MS}{σ:List AV}{s:List (List Sh)}{dl:List Sh}{ah:Nat→List Sh}(a:After C S σ s dl ah):∃T,jL S T∧iM C true T ah∧T.shown=s++[dl]:=by
 ac_rfl
 obtain⟨σ',kept',g,x,k,ks⟩:=a
 exact⟨_,g.runs rfl rfl,⟨rfl,rfl,ks.full,by unfold LK;rw[if_pos rfl];exact k⟩,rfl⟩
theorem E6(O:C.OK)(h1:C.m=1){v:AV}{sv:Sh}(hv:v.sh=some sv){σ:List AV}{kept:List (Int×List bG)}{s:List (List Sh)}(hσ:1≤σ.length)(hk:kept.length≤100)(hs:s.length≤399):∃σ',Go ⟨.val v,C.nB,σ,kept,s⟩ ⟨.val (.int 5),[],σ',kept,s++[[sv]]⟩∧1≤σ'.length:=by
 have hd:C.cU.drop (0+1)=C.tail++[.int 5]:=by unfold Cfg.cU;rw[h1];rfl
 have hH:∀j,j<C.m→qS (σ.set 0 v) [sv] j:=fun j hj=>by
  have:j=0:=#[0x110004110140c1221211c122,C.m,j] h1 hj
  subst this
  exact⟨v,sv,by rw[List.getElem?_set_self (by left)],hv,rfl⟩
 ac_rfl
 obtain⟨σ',q1,q2⟩:=A6 O (ρ:=C.dJ) (dl:=[sv]) (fun j hj=>uU O hj) (σ:=σ.set 0 v) (s:=s) hs (by rw[h1];rfl) hH (by rw[h1];simpa using hσ)
 obtain⟨_,g⟩:=A5 (is:=C.cU) (fs:=[]) (k:=kept) (Nat.zero_le _) hk q1 (.int 0) 0 (by left) hd
 refine⟨σ',.step (cM (oz rfl) hk (by left)) (S':=⟨.val (.int 0),[.seq C.cU 0 C.dJ],σ.set 0 v,kept,s⟩) ?_ g,aq (by simpa using hσ) q2.1⟩
 show(if 0<σ.length then _ else none)=_
 rw[if_pos (by left)]
theorem E7(O:C.OK)(hc:∀j,j<C.m→C.cl j=false):∀(l:List Nat)(σ:List AV),(∀j∈l,j<C.m)→C.m≤σ.length→∃σ',jM C.dJ (l.map fun j=>.aP (C.N j) (C.part j)) σ [] σ' []∧Ext C.m σ σ'∧(∀j,j∈l∨qS σ C.firsts j→qS σ' C.firsts j)
 | [],σ,_,_=>⟨σ,.nil,.refl,fun j h=>by simpa using h⟩
 |i::l,σ,hl,hσ=>by
  have hi:i<C.m:=hl i (by simp)
  obtain⟨v,hv,hsh⟩:∃v,sR C.dJ (C.part i) σ v∧v.sh=some (C.iV i):=by
   have P:=O.part i hi
   rw[hc i hi]at P
   generalize C.part i=x at P⊢
   generalize C.iV i=y at P⊢
   cases P with
   |int n=>exact⟨_,qR _ n _,rfl⟩
   |lam lb n=>exact⟨.di [] (.int n) C.dJ,fun fs k s h1 h2 h3=>.one (cM (by left) h2 h3) rfl,rfl⟩
  have e1:Ext C.m σ (σ.set i v):=.set hi
  obtain⟨σ',q1,q2,q3⟩:=E7 O hc l (σ.set i v) (fun j hj=>hl j (by simp[hj])) (by simpa using hσ)
  refine⟨σ',.cons (evSet (uU O hi) (oJ hσ hi) hv) (Nat.zero_le _) q1,e1.trans q2,fun j h=>q3 j ?_⟩
  by_cases e:j=i
  ·subst e
   exact .inr ⟨v,C.iV j,by rw[List.getElem?_set_self (oJ hσ hi)],hsh,by simp[Cfg.firsts,hi]⟩
  ·rcases h with h|⟨y,sy,a1,a2,a3⟩
   ·rcases mC h with h|h
    ·exact absurd h e
    ·exact .inl h
   ·exact .inr ⟨y,sy,by rw[List.getElem?_set_ne (by exact(Ne.symm e))];exact a1,a2,a3⟩
theorem N_(hc:∀j,j<C.m→C.cl j=false):bE C C.m=[]:=by
 unfold bE
 have:(List.range C.m).filter C.cl=[]:=by
  rw[List.filter_eq_nil_iff]
  intro j hj
  rw[hc j (List.mem_range.mp hj)];simp
 rw[this];rfl
theorem Oa(O:C.OK)(cx:Bool)(h2:cx=true→2≤C.m)(h1:cx=false→C.m=1∨∀j,j<C.m→C.cl j=false)(L:Int):
 ∃T,jL ⟨.ev (C.root cx L) [],[],[],[],[]⟩ T∧iM C cx T (fun j=>C.firsts.take j)∧T.shown=[C.firsts]:=by
 have g0:=N1 O cx L
 have m1:=O.m1
 cases cx with
 |true=>
  have B:=(A8 O (C.m-1) (#[0x11013211121c1021,C.m-1,C.m] (Nat.sub_add_cancel (#[0x1112111c011c01,C.m] m1)))).2 C.dJ (List.replicate C.m .aS) [] [] [] (fun _=>[]) (by rw[show C.m-1-(C.m-1)=0 from by exact #[0x1100310130c112221021,C.m-1-(C.m-1),C.m-1] (Nat.sub_add_cancel (#[0x11111100,C.m-1]))];exact NZ O (by simp)) (fun a fs h=>by simp at h) (.inl (by rw[show C.m-1-(C.m-1)=0 from by exact #[0x1100310130c112221021,C.m-1-(C.m-1),C.m-1] (Nat.sub_add_cancel (#[0x11111100,C.m-1]))];rfl)) (Nat.zero_le _) C.firsts (by
   rw[show C.m-1-(C.m-1)=0 from by exact #[0x1100310130c112221021,C.m-1-(C.m-1),C.m-1] (Nat.sub_add_cancel (#[0x11111100,C.m-1])),show C.m-1+1=C.m from by exact #[0x111031013211c10221c1021,C.m-1,C.m] (Nat.sub_add_cancel (#[0x1112111c011c01,C.m] m1)),List.nil_append,←List.range_eq_range'];rfl)
  ac_rfl
  obtain⟨σ',kept',g,x,k,ks⟩:=B
  refine After.jO (σ:=List.replicate C.m .aS) (s:=[]) ⟨σ',kept',g0.trans g,x,?_,ks⟩
  have e:(fun j=>if C.m-1-(C.m-1)≤j then C.firsts.take j else [])=fun j=>C.firsts.take j:=by
   funext j;rw[if_pos (by exact #[0x110133110221021,C.m-1-(C.m-1),C.m-1,j] (Nat.sub_add_cancel (#[0x11111100,C.m-1])))]
  rw[←e];exact k
 |false=>
  have hseq:∀(σ:List AV),C.cU=.aP (C.N 0) (C.part 0)::C.cU.drop 1:=fun σ=>by
   unfold Cfg.cU
   obtain⟨n,hn⟩:∃n,C.m=n+1:=⟨C.m-1,#[0x1101311031c1012221c1021,C.m-1,C.m] (Nat.sub_add_cancel (#[0x1112111c011c01,C.m] m1))⟩
   rw[hn,List.range_eq_range',List.range'_succ];rfl
  have gs:Go ⟨.ev (.seq C.cU) C.dJ,[],List.replicate C.m .aS,[],[]⟩ ⟨.ev (.aP (C.N 0) (C.part 0)) C.dJ,[.seq C.cU 0 C.dJ],List.replicate C.m .aS,[],[]⟩:=.one (cM (by simp) (by simp) (Nat.zero_le _)) (by
   conv=>lhs;rw[hseq []]
   conv=>rhs;rw[hseq []]
   rfl)
  by_cases hc:∀j,j<C.m→C.cl j=false
  ·ac_rfl
   obtain⟨σ1,q1,q2,q3⟩:=E7 O hc (List.range C.m) (List.replicate C.m .aS) (fun j hj=>List.mem_range.mp hj) (by simp)
   obtain⟨σ2,q4,q5⟩:=A6 O (ρ:=C.dJ) (dl:=C.firsts) (s:=[]) (fun j hj=>uU O hj) (Nat.zero_le _) (by simp[Cfg.firsts]) (fun j hj=>q3 j (.inl (List.mem_range.mpr hj))) (aq (by simp) q2.1)
   have E:=q1.append q4
   rw[show(List.range C.m).map (fun j=>Nd.aP (C.N j) (C.part j))++C.tail=.aP (C.N 0) (C.part 0)::(((List.range C.m).map (fun j=>Nd.aP (C.N j) (C.part j))++C.tail).drop 1)from by
    obtain⟨n,hn⟩:∃n,C.m=n+1:=⟨C.m-1,#[0x1101311031c1012221c1021,C.m-1,C.m] (Nat.sub_add_cancel (#[0x1112111c011c01,C.m] m1))⟩
    rw[hn,List.range_eq_range',List.range'_succ];rfl]at E
   generalize hX:((List.range C.m).map (fun j=>Nd.aP (C.N j) (C.part j))++C.tail).drop 1=X at E
   have hd:C.cU.drop (0+1)=X++[.int 5]:=by
    rw[←hX];unfold Cfg.cU
    obtain⟨n,hn⟩:∃n,C.m=n+1:=⟨C.m-1,#[0x1101311031c1012221c1021,C.m-1,C.m] (Nat.sub_add_cancel (#[0x1112111c011c01,C.m] m1))⟩
    rw[hn,List.range_eq_range',List.range'_succ];rfl
   cases E with
   |cons e1 e2 e3=>
   ac_rfl
   obtain⟨v,g1⟩:=e1 [.seq C.cU 0 C.dJ] [] (by simp) (by simp) (Nat.zero_le _)
   obtain⟨_,g2⟩:=A5 (is:=C.cU) (fs:=[]) (k:=[]) (by simp) (Nat.zero_le _) e3 v 0 e2 hd
   exact⟨_,(g0.trans (gs.trans (g1.trans g2))).runs rfl rfl,⟨rfl,rfl,(N_ hc).symm,by unfold LK;rw[if_neg (by simp)];intro a fs h;simp at h⟩,rfl⟩
  ·have hm:C.m=1:=(h1 rfl).resolve_right hc
   have hc0:C.cl 0=true:=by
    cases h:C.cl 0 with
    |true=>rfl
    |false=>exact absurd (fun j hj=>by have:j=0:=#[0x110004110140c1221211c122,C.m,j] hm hj;rw[this];exact h) hc
   have P:=O.part 0 (by left)
   rw[hc0]at P
   have hf:C.firsts=[C.iV 0]:=by unfold Cfg.firsts;rw[hm];rfl
   have Ob:=uU O (j:=0) (by left)
   generalize hx:C.part 0=x at P
   generalize hy:C.iV 0=y at P
   cases P with
   |call n=>
   rw[hx]at gs
   ac_rfl
   obtain⟨gs',v',e1,e2,g⟩:=uN (is:=[.glob 1,.int ((0:Nat):Int),.int n]) (ρ:=C.dJ) (σ:=List.replicate C.m .aS) (fs:=C.nB) (k:=[]) (s:=[]) (oz rfl) (by simp) (Nat.zero_le _) [.int ((0:Nat):Int),.int n] [.int ((0:Nat):Int),.int n] [] (.glob 1) rfl (fun j x u a b=>by
    match j,a,b with
    |0,a,b=>cases a;cases b;exact qR _ _ _
    |1,a,b=>cases a;cases b;exact qR _ _ _) rfl (oz rfl)
   ac_rfl
   obtain⟨σ',r1,r2⟩:=E6 O hm (v:=.int n) rfl (σ:=List.replicate C.m .aS) (kept:=[(0,C.nB)]) (s:=[]) (by simp[hm]) (by simp) (Nat.zero_le _)
   have ga:Go ⟨.ev (.aP (C.N 0) (.call (.glob 1) [.int ((0:Nat):Int),.int n])) C.dJ,[.seq C.cU 0 C.dJ],List.replicate C.m .aS,[],[]⟩ ⟨.val (.int n),C.nB,List.replicate C.m .aS,[(0,C.nB)],[]⟩:=
    .step (cM (by simp) (by simp) (Nat.zero_le _)) (S':=⟨.ev (.call (.glob 1) [.int ((0:Nat):Int),.int n]) C.dJ,C.nB,List.replicate C.m .aS,[],[]⟩) (by
     show(match look C.dJ (C.N 0)with
      |some c=>if c<(List.replicate C.m AV.aS).length then _ else none
      |none=>none)=_
     rw[Ob]
     simp only[List.length_replicate]
     rw[if_pos (by left)];rfl)
    (.step (cM (oz rfl) (by simp) (Nat.zero_le _)) (S':=⟨.ev (.glob 1) C.dJ,.call [.glob 1,.int ((0:Nat):Int),.int n] [] C.dJ::C.nB,List.replicate C.m .aS,[],[]⟩) rfl
    (.step (cM (oz rfl) (by simp) (Nat.zero_le _)) (S':=⟨.val (.glob 1),.call [.glob 1,.int ((0:Nat):Int),.int n] [] C.dJ::C.nB,List.replicate C.m .aS,[],[]⟩) rfl
    (g.trans (.one (cM (oz rfl) (by simp) (Nat.zero_le _)) (by rw[uO e2,e1];rfl)))))
   refine⟨_,(g0.trans (gs.trans (ga.trans r1))).runs rfl rfl,⟨rfl,rfl,by rw[show bE C C.m=[0]from by unfold bE;rw[hm];simp[List.range_succ,hc0]];rfl,?_⟩,by rw[hf,hy];rfl⟩
   unfold LK
   rw[if_neg (by simp)]
   intro a fs h
   simp at h
   exact⟨hm,h.1,h.2,by simp,r2⟩
theorem Oc(O:C.OK){cx:Bool}{S:MS}{ah:Nat→List Sh}(L:iM C cx S ah)(hs:S.shown.length≤399){a:Int}{fs:List bG}(hm:(a,fs)∈S.kept)(u:Int):
 ∃(j:Nat)(T:MS)(dl:List Sh),a=(j:Int)∧j<C.m∧(ah j).length=j∧jL ⟨.val (.int u),fs,S.σ,S.kept,S.shown⟩ T∧T.shown=S.shown++[dl]∧dl=ah j++[.int u]++C.firsts.drop (j+1)∧iM C cx T (fun i=>if j<i then dl.take i else ah i):=by
 have iX:S.kept.length≤100:=by
  have k:=congrArg List.length L.keys
  have k2:=qT C C.m
  have k3:=O.m4
  rw[List.length_map]at k
  lia
 have lk:=L.lk
 cases cx with
 |true=>
  unfold LK at lk
  rw[if_pos rfl]at lk
  ac_rfl
  obtain⟨j,rfl,hj,ρ,E,rfl⟩:=lk a fs hm
  have hi:C.m-1-(C.m-1-j)=j:=#[0x1110015101105214231402321022,C.m-1-j,j,C.m-1,C.m-1-(C.m-1-j)] (Nat.sub_add_cancel (#[0x111014311021c3022112,j,C.m,C.m-1] hj (Nat.sub_add_cancel (#[0x1112211c02111,j,C.m] hj)))) (Nat.sub_add_cancel (#[0x111221102101,C.m-1-j,C.m-1] (Nat.sub_le _ _)))
  have A:=(A8 O (C.m-1-j) (#[0x110114311131c2022102,C.m-1-j,C.m-1,C.m] (Nat.sub_le _ _) (Nat.sub_add_cancel (#[0x1112211c02111,j,C.m] hj)))).1 ρ S.σ (ah j) (.int u) (.int u) S.kept S.shown ah (by rw[hi];exact E) rfl lk (.inr L.keys) (by left) _ rfl
  obtain⟨T,t1,t2,t3⟩:=A.jO
  have hdl:ah j++[.int u]++(List.range' (C.m-(C.m-1-j)) (C.m-1-j)).map C.iV=ah j++[.int u]++C.firsts.drop (j+1):=by
   congr 1
   unfold Cfg.firsts
   rw[←List.map_drop,List.range_eq_range',List.drop_range']
   congr 1
   rw[show C.m-(C.m-1-j)=j+1 from by exact #[0x111001017101101071c40152235021430221c1023,C.m-1,C.m,C.m-1-j,j,C.m-(C.m-1-j)] (Nat.sub_add_cancel (#[0x1112211c02111,j,C.m] hj)) (Nat.sub_add_cancel (#[0x111014311021c3022112,j,C.m,C.m-1] hj (Nat.sub_add_cancel (#[0x1112211c02111,j,C.m] hj)))) (Nat.sub_add_cancel (#[0x111014213013021c1022,C.m-1,C.m,C.m-1-j] (Nat.sub_add_cancel (#[0x1112211c02111,j,C.m] hj)) (Nat.sub_le _ _))),show C.m-1-j=C.m-(j+1)from by exact #[0x11011010711001017513221c405021430221c1023,C.m-1,C.m,C.m-1-j,j,C.m-(j+1)] (Nat.sub_add_cancel (#[0x1112211c02111,j,C.m] hj)) (Nat.sub_add_cancel (#[0x111014311021c3022112,j,C.m,C.m-1] hj (Nat.sub_add_cancel (#[0x1112211c02111,j,C.m] hj)))) (Nat.sub_add_cancel (#[0x1112211c1002111,j,C.m] hj))]
   simp
  rw[hdl]at t2 t3
  rw[hi]at t2
  exact⟨j,T,_,rfl,hj,E.pl,t1,t3,rfl,t2⟩
 |false=>
  unfold LK at lk
  rw[if_neg (by simp)]at lk
  ac_rfl
  obtain⟨q1,rfl,rfl,q4,q5⟩:=lk a fs hm
  obtain⟨σ',r1,r2⟩:=E6 O q1 (v:=.int u) rfl (σ:=S.σ) (kept:=S.kept) (s:=S.shown) q5 iX hs
  refine⟨0,_,[.int u],rfl,by left,by rw[q4];rfl,r1.runs rfl rfl,rfl,?_,⟨rfl,rfl,L.keys,?_⟩⟩
  ·rw[q4];unfold Cfg.firsts;rw[q1];rfl
  ·unfold LK
   rw[if_neg (by simp)]
   intro a' fs' h
   ac_rfl
   obtain⟨z1,z2,z3,z4,_⟩:=lk a' fs' h
   exact⟨z1,z2,z3,by simpa using z4,r2⟩
end
theorem E8{l l':Int}{ps:List (Nd×Sh)}(x:j_ l ps l'):l≤l'∧(∀(j:Nat) q,ps[j]? =some q→(∃a b,qI j a q.1 q.2 b)∧∀y∈bq q.1,l<y∧y≤l')∧
 (∀(i j:Nat) p q y,ps[i]? =some p→ps[j]? =some q→y∈bq p.1→y∈bq q.1→i=j):=by
 induction x with
 |nil=>exact⟨Int.le_refl _,fun j q h=>by simp at h,fun i j p q y h=>by simp at h⟩
 |@snoc ps l1 nd s l2 _ P ih=>
  obtain⟨a1,a2,a3⟩:=ih
  have b1:l1≤l2∧∀y∈bq nd,l1<y∧y≤l2:=by
   cases P with
   |int i=>exact⟨Int.le_refl _,fun y hy=>by simp[bq]at hy⟩
   |lam i=>exact⟨by lia,fun y hy=>by simp[bq]at hy;lia⟩
   |call i=>exact⟨Int.le_refl _,fun y hy=>by simp[bq,bM]at hy⟩
  have sp:∀(j:Nat) q,(ps++[(nd,s)])[j]? =some q→ps[j]? =some q∨(j=ps.length∧q=(nd,s)):=fun j q h=>by
   by_cases hj:j<ps.length
   ·rw[dm hj]at h;exact .inl h
   ·rw[eY (by left)]at h
    cases hk:j-ps.length with
    |zero=>rw[hk]at h;simp at h;exact .inr ⟨#[0x1100001611001062112123020c321203,j,ps.length,j-ps.length] (Nat.le_of_not_lt hj) hk (Nat.sub_add_cancel (#[0x111211201201,j,ps.length] (Nat.le_of_not_lt hj))),h.symm⟩
    |succ k=>rw[hk]at h;simp at h
  refine⟨by lia,fun j q h=>?_,fun i j p q y h1 h2 h3 h4=>?_⟩
  ·rcases sp j q h with h|⟨rfl,rfl⟩
   ·obtain⟨c1,c2⟩:=a2 j q h
    exact⟨c1,fun y hy=>by have:=c2 y hy;lia⟩
   ·exact⟨⟨_,_,P⟩,fun y hy=>by have:=b1.2 y hy;lia⟩
  ·rcases sp i p h1 with h1|⟨rfl,rfl⟩<;>rcases sp j q h2 with h2|⟨rfl,rfl⟩
   ·exact a3 i j p q y h1 h2 h3 h4
   ·have:=(a2 i p h1).2 y h3;have:=b1.2 y h4;lia
   ·have:=(a2 j q h2).2 y h4;have:=b1.2 y h3;lia
   ·rfl
noncomputable def cfgOf(m:Nat)(l2:Int)(ps:List (Nd×Sh)):Cfg where
 m:=m
 N j:=0+1+(j:Int)
 K j:=l2+1+(j:Int)
 part j:=iY (ps.map Prod.fst) j
 iV j:=((ps.map Prod.snd)[j]?).getD .proc
 cl j:=!gA (iY (ps.map Prod.fst) j)
 lb j:=l2+(m:Int)+((m-1-j:Nat):Int)+1
section
variable {m:Nat}{l1:Int}{ps:List (Nd×Sh)}
theorem E9(hm:ps.length=m){j:Nat}(hj:j<m):∃q,ps[j]? =some q∧(cfgOf m (l1+1) ps).part j=q.1∧(cfgOf m (l1+1) ps).iV j=q.2:=by
 have hj':j<ps.length:=oH hm hj
 refine⟨ps[j],a_ hj',?_,?_⟩
 ·show iY (ps.map Prod.fst) j=_
  simp[iY,a_ hj']
 ·show((ps.map Prod.snd)[j]?).getD .proc=_
  simp[a_ hj']
theorem A9(m1:1≤m)(m4:m≤4)(hm:ps.length=m)(x:j_ (0+(m:Int)) ps l1):(cfgOf m (l1+1) ps).OK:=by
 obtain⟨a1,a2,a3⟩:=E8 x
 refine⟨m1,m4,fun i j hi hj e=>?_,fun i j hi hj e=>?_,fun i j hi hj e=>?_,fun j hj=>?_⟩
 ·have e:0+1+(i:Int)=0+1+(j:Int):=e
  lia
 ·have e:l1+1+1+(i:Int)=l1+1+1+(j:Int):=e
  lia
 ·have e:0+1+(i:Int)=l1+1+1+(j:Int):=e
  have hi:i<m:=hi
  lia
 ·obtain⟨q,h1,h2,h3⟩:=E9 (l1:=l1) hm hj
  have hc:(cfgOf m (l1+1) ps).cl j=!gA ((cfgOf m (l1+1) ps).part j):=rfl
  rw[hc,h2,h3]
  obtain⟨⟨a,b,P⟩,_⟩:=a2 j q h1
  obtain⟨q1,q2⟩:=q
  cases P with
  |int i=>exact .int i
  |lam i=>exact .lam _ i
  |call i=>exact .call i
theorem E_{C:Cfg}{l:Int}{F:List Nd}(hF:F=C.found 0)(hl:∀i,i<C.m→l+(i:Int)+1=C.lb (C.m-1-i)):∀i,i≤C.m→fY C.m l C.N C.K C.part F i=C.found i
 |0,_=>hF
 |i+1,h=>by
  rw[fY,Cfg.found,E_ hF hl i (by left),hl i (by left)]
end
section
variable {C:Cfg}
theorem uV{α:Type}(f:α→Nd)(k:Nat)(h:∀x,cH (f x)=k):∀l:List α,bT (l.map f)=l.length*k
 | []=>by simp[bT]
 |x::l=>by rw[List.map_cons,bT,h,uV f k h l,List.length_cons,Nat.add_mul];lia
theorem uW{α:Type}(f:α→Nd)(h:∀x,bq (f x)=[]):∀l:List α,bM (l.map f)=[]
 | []=>by exact rfl
 |x::l=>by rw[List.map_cons,bM,h,uW f h l];rfl
theorem uX{α:Type}(f:α→Nd)(h:∀x,nums (f x)=[]):∀l:List α,bQ (l.map f)=[]
 | []=>by exact rfl
 |x::l=>by rw[List.map_cons,bQ,h,uX f h l];rfl
theorem Fb:bT (C.tail++[.int 5])=3*C.m+3∧bM (C.tail++[.int 5])=[]∧bQ (C.tail++[.int 5])=[]:=by
 have e1:=uV (fun j=>Nd.loc (C.N j)) 1 (fun _=>rfl) (List.range C.m)
 have e2:=uV (fun j=>Nd.aP (C.N j) (.int (100+C.N j))) 2 (fun _=>by simp[cH]) (List.range C.m)
 have f1:=uW (fun j=>Nd.loc (C.N j)) (fun _=>by simp[bq]) (List.range C.m)
 have f2:=uW (fun j=>Nd.aP (C.N j) (.int (100+C.N j))) (fun _=>by simp[bq]) (List.range C.m)
 have k1:=uX (fun j=>Nd.loc (C.N j)) (fun _=>by simp[nums]) (List.range C.m)
 have k2:=uX (fun j=>Nd.aP (C.N j) (.int (100+C.N j))) (fun _=>by simp[nums]) (List.range C.m)
 unfold Cfg.tail Cfg.uP Cfg.uQ
 refine⟨?_,?_,?_⟩
 ·rw[List.cons_append,bT,cH,kr,e1,e2]
  simp[bT,cH];lia
 ·rw[List.cons_append,bM,bq,ku,f1,f2]
  exact rfl
 ·rw[List.cons_append,bQ,nums,kB,k1,k2]
  exact rfl
theorem Fc{j:Nat}{x:Nd}{s:Sh}{c:Bool}(P:sS j x s c):cH x≤4∧(bq x).length≤1∧nums x=[]:=by
 cases P<;>simp[cH,bT,bq,bM,nums,bQ]
structure Shape (C:Cfg) (X:Nd):Prop where
 sz:cH X≤200
 l1:(bq X).Nodup
 l2:(bq X).length≤200
 n1:(nums X).Nodup
 n2:(nums X).length≤200
theorem Fd{l:List Int}(h:l.length≤1):l.Nodup:=by
 match l,h with
 | [],_=>exact List.nodup_nil
 | [a],_=>simp
theorem Fe(O:C.OK){B:Int}(hd:∀i j y,i<C.m→j<C.m→y∈bq (C.part i)→y∈bq (C.part j)→i=j)(hB:∀i y,i<C.m→y∈bq (C.part i)→y≤B)(hl:∀i,i<C.m→C.lb (C.m-1-i)=B+1+C.m+i+1):
 ∀i,i≤C.m→bT (C.found i)≤5*C.m+3+9*i∧(bM (C.found i)).Nodup∧(bM (C.found i)).length≤2*i∧(bQ (C.found i)).Nodup∧(bQ (C.found i)).length≤i∧
  (∀y∈bM (C.found i),(∃j,C.m-i≤j∧j<C.m∧y∈bq (C.part j))∨(B+1+C.m<y∧y≤B+1+C.m+i))∧(∀y∈bQ (C.found i),∃j,C.m-i≤j∧j<C.m∧y=C.K j)
 |0,_=>by
  obtain⟨t1,t2,t3⟩:=Fb (C:=C)
  have e1:=uV (fun j=>Nd.aP (C.N j) (.loc (C.K j))) 2 (fun _=>by simp[cH]) (List.range C.m)
  have f1:=uW (fun j=>Nd.aP (C.N j) (.loc (C.K j))) (fun _=>by simp[bq]) (List.range C.m)
  have k1:=uX (fun j=>Nd.aP (C.N j) (.loc (C.K j))) (fun _=>by simp[nums]) (List.range C.m)
  unfold Cfg.found Cfg.sets
  rw[List.append_assoc,kr,ku,kB,t1,t2,t3,e1,f1,k1]
  simp;lia
 |i+1,h=>by
  obtain⟨a1,a2,a3,a4,a5,a6,a7⟩:=Fe O hd hB hl i (by left)
  have hp:C.m-1-i<C.m:=#[0x110114311131c2022102,C.m-1-i,C.m-1,C.m] (Nat.sub_le _ _) (Nat.sub_add_cancel (#[0x1112211c021c1001,i,C.m] h))
  obtain⟨p1,p2,p3⟩:=Fc (O.part _ hp)
  have hlb:=hl i (by left)
  rw[Cfg.found]
  generalize hpx:C.m-1-i=p at*
  have eL:bM [Nd.call (.lam (C.lb p) [C.K p] (.seq (.aP (C.N p) (.loc (C.K p))::C.found i))) [C.part p]]=C.lb p::(bM (C.found i)++bq (C.part p)):=by simp[bM,bq]
  have eN:bQ [Nd.call (.lam (C.lb p) [C.K p] (.seq (.aP (C.N p) (.loc (C.K p))::C.found i))) [C.part p]]=C.K p::bQ (C.found i):=by simp[bQ,nums,p3]
  have eS:bT [Nd.call (.lam (C.lb p) [C.K p] (.seq (.aP (C.N p) (.loc (C.K p))::C.found i))) [C.part p]]=5+bT (C.found i)+cH (C.part p):=by simp[bT,cH];exact #[0x1111115c0112c01c01c01c020,bT (C.found i)]
  rw[eL,eN,eS]
  refine⟨by lia,?_,by simp;lia,?_,by simp;exact a5,?_,?_⟩
  ·rw[List.nodup_cons,List.nodup_append]
   refine⟨fun q=>?_,a2,Fd p2,fun y hy z hz e=>?_⟩
   ·rcases mA q with q|q
    ·rcases a6 _ q with⟨j,_,j2,j3⟩|⟨_,q2⟩
     ·have:=hB j _ j2 j3;lia
     ·lia
    ·have:=hB p _ hp q;lia
   ·subst e
    rcases a6 _ hy with⟨j,j1,j2,j3⟩|⟨q1,q2⟩
    ·have:=hd j p y j2 hp j3 hz;exact #[0x110010101110b00c4673025710261c5022424302126,C.m-1-i,p,C.m-i,j,C.m-1,C.m,i] hpx j1 this (Nat.sub_add_cancel (#[0x1112211c021c1001,i,C.m] h)) (Nat.sub_add_cancel (#[0x111014311021c30221c1002,i,C.m,C.m-1] h (Nat.sub_add_cancel (#[0x1112211c021c1001,i,C.m] h)))) (Nat.sub_add_cancel (#[0x1112211021c1001,i,C.m] h))
    ·have:=hB p _ hp hz;lia
  ·rw[List.nodup_cons]
   refine⟨fun q=>?_,a4⟩
   obtain⟨j,j1,j2,e⟩:=a7 _ q
   have:=O.kk _ _ hp j2 e;exact #[0x110010110110b00c4673025710261c5024224302126,C.m-1-i,p,C.m-i,j,C.m-1,C.m,i] hpx j1 this (Nat.sub_add_cancel (#[0x1112211c021c1001,i,C.m] h)) (Nat.sub_add_cancel (#[0x111014311021c30221c1002,i,C.m,C.m-1] h (Nat.sub_add_cancel (#[0x1112211c021c1001,i,C.m] h)))) (Nat.sub_add_cancel (#[0x1112211021c1001,i,C.m] h))
  ·intro y hy
   rcases mC hy with rfl|hy
   ·exact .inr ⟨by lia,by lia⟩
   rcases mA hy with hy|hy
   ·rcases a6 _ hy with⟨j,j1,j2,j3⟩|⟨q1,q2⟩
    ·exact .inl ⟨j,#[0x1110011621305410251c403022103,C.m-i,j,C.m-(i+1),i,C.m] j1 (Nat.sub_add_cancel (#[0x1112211c10021c1001,i,C.m] h)) (Nat.sub_add_cancel (#[0x1112211021c1001,i,C.m] h)),j2,j3⟩
    ·exact .inr ⟨q1,by lia⟩
   ·exact .inl ⟨p,#[0x1110101018213051c6024106051c403022124,C.m-1-i,p,C.m-(i+1),i,C.m,C.m-1] hpx (Nat.sub_add_cancel (#[0x1112211c10021c1001,i,C.m] h)) (zs _ _) (Nat.sub_add_cancel (#[0x1112211c021c1001,i,C.m] h)),hp,hy⟩
  ·intro y hy
   rcases mC hy with rfl|hy
   ·exact⟨p,#[0x1110101018213051c6024106051c403022124,C.m-1-i,p,C.m-(i+1),i,C.m,C.m-1] hpx (Nat.sub_add_cancel (#[0x1112211c10021c1001,i,C.m] h)) (zs _ _) (Nat.sub_add_cancel (#[0x1112211c021c1001,i,C.m] h)),hp,rfl⟩
   ·obtain⟨j,j1,j2,e⟩:=a7 _ hy
    exact⟨j,#[0x1110011621305410251c403022103,C.m-i,j,C.m-(i+1),i,C.m] j1 (Nat.sub_add_cancel (#[0x1112211c10021c1001,i,C.m] h)) (Nat.sub_add_cancel (#[0x1112211021c1001,i,C.m] h)),j2,e⟩
theorem Ff(O:C.OK)(hd:∀i j y,i<C.m→j<C.m→y∈bq (C.part i)→y∈bq (C.part j)→i=j):∀k,k≤C.m→bT ((List.range k).map fun j=>Nd.aP (C.N j) (C.part j))≤5*k∧(bM ((List.range k).map fun j=>Nd.aP (C.N j) (C.part j))).Nodup∧(bM ((List.range k).map fun j=>Nd.aP (C.N j) (C.part j))).length≤k∧
 bQ ((List.range k).map fun j=>Nd.aP (C.N j) (C.part j))=[]∧∀y∈bM ((List.range k).map fun j=>Nd.aP (C.N j) (C.part j)),∃j,j<k∧y∈bq (C.part j)
 |0,_=>by simp[bT,bM,bQ]
 |k+1,h=>by
  obtain⟨a1,a2,a3,a4,a5⟩:=Ff O hd k (by left)
  obtain⟨p1,p2,p3⟩:=Fc (O.part k (by left))
  rw[List.range_succ,List.map_append,kr,ku,kB,a4]
  simp only[List.map_cons,List.map_nil,bT,bM,bQ,cH,bq,nums,p3,fz]
  refine⟨by lia,?_,by simp;lia,trivial,?_⟩
  ·rw[List.nodup_append]
   refine⟨a2,Fd p2,fun y hy z hz e=>?_⟩
   subst e
   obtain⟨j,j1,j2⟩:=a5 y hy
   have:=hd j k y (oJ h (oF j1)) (by left) j2 hz;exact #[0x1101300c42122112,j,k] j1 this
  ·intro y hy
   rcases mA hy with hy|hy
   ·obtain⟨j,j1,j2⟩:=a5 y hy
    exact⟨j,oF j1,j2⟩
   ·exact⟨k,by left,hy⟩
theorem Od(O:C.OK)(cx:Bool){B:Int}(hd:∀i j y,i<C.m→j<C.m→y∈bq (C.part i)→y∈bq (C.part j)→i=j)(hB:∀i y,i<C.m→y∈bq (C.part i)→y≤B)(hl:∀i,i<C.m→C.lb (C.m-1-i)=B+1+C.m+i+1):Shape C (C.root cx (B+1)):=by
 have m1:=O.m1
 have m4:=O.m4
 have hns:C.ns.Nodup:=by
  rw[Cfg.ns,List.nodup_iff_pairwise_ne,List.pairwise_map]
  exact List.Pairwise.imp_of_mem (fun{i j} hi hj q e=>q (O.nn i j (List.mem_range.mp hi) (List.mem_range.mp hj) e)) (List.nodup_iff_pairwise_ne.mp List.nodup_range)
 have hnl:C.ns.length=C.m:=by simp[Cfg.ns]
 have e1:=uV (fun _:Nat=>Nd.aS) 1 (fun _=>rfl) (List.range C.m)
 have f1:=uW (fun _:Nat=>Nd.aS) (fun _=>rfl) (List.range C.m)
 have k1:=uX (fun _:Nat=>Nd.aS) (fun _=>rfl) (List.range C.m)
 rw[List.length_range]at e1
 have go:∀b,cH b≤100→(bq b).Nodup→(bq b).length≤100→(nums b).Nodup→(nums b).length≤100→(∀y∈bq b,y≠B+1)→(∀y∈nums b,y∉C.ns)→Shape C (.call (.lam (B+1) C.ns b) ((List.range C.m).map fun _=>.aS)):=fun b s1 s2 s3 s4 s5 s6 s7=>
  ⟨by rw[cH,cH,e1];lia,by rw[bq,bq,f1,fz,List.nodup_cons];exact⟨fun q=>s6 _ q rfl,s2⟩,by rw[bq,bq,f1];simp;exact oS s3 rfl,
   by rw[nums,nums,k1,fz,List.nodup_append];exact⟨hns,s4,fun a ha b hb e=>s7 _ hb (e▸ha)⟩,by rw[nums,nums,k1];simp[hnl];exact #[0x111130c8d12100064d204c102,C.m,(nums b).length] m4 s5⟩
 unfold Cfg.root
 cases cx with
 |true=>
  obtain⟨i,hi⟩:∃i,C.m=i+1:=⟨C.m-1,#[0x1101311031c1012221c1021,C.m-1,C.m] (Nat.sub_add_cancel (#[0x1112111c011c01,C.m] m1))⟩
  obtain⟨a1,a2,a3,a4,a5,a6,a7⟩:=Fe O hd hB hl (i+1) (by left)
  have e:C.found (i+1)=[C.nest (C.m-1)]:=by rw[hi];exact rfl
  rw[e]at a1 a2 a3 a4 a5 a6 a7
  simp only[bT,bM,bQ,fz,Nat.add_zero]at a1 a2 a3 a4 a5 a6 a7
  refine go _ (by simp;lia) a2 (by simp;lia) a4 (by simp;exact oI (ox hi.symm (oS m4 rfl)) a5) (fun y hy=>?_) (fun y hy=>?_)
  ·rcases a6 y hy with⟨j,j1,j2,j3⟩|⟨q1,q2⟩
   ·have:=hB j y j2 j3;lia
   ·lia
  ·obtain⟨j,j1,j2,rfl⟩:=a7 y hy
   intro q
   obtain⟨n,n1,n2⟩:=mM q
   exact O.nk n j (List.mem_range.mp n1) j2 n2
 |false=>
  obtain⟨t1,t2,t3⟩:=Fb (C:=C)
  obtain⟨a1,a2,a3,a4,a5⟩:=Ff O hd C.m (bl)
  have eb:(if(false:Bool)=true then C.nest (C.m-1)else Nd.seq C.cU)=Nd.seq C.cU:=if_neg (by simp)
  rw[eb]
  have u1:cH (.seq C.cU)≤100:=by rw[cH,Cfg.cU,List.append_assoc,kr,t1];lia
  have u2:bq (.seq C.cU)=bM ((List.range C.m).map fun j=>Nd.aP (C.N j) (C.part j)):=by rw[bq,Cfg.cU,List.append_assoc,ku,t2,fz]
  have u3:nums (.seq C.cU)=[]:=by rw[nums,Cfg.cU,List.append_assoc,kB,t3,a4];rfl
  refine go _ u1 (u2▸a2) (by rw[u2];exact oI (oS m4 rfl) a3) (by rw[u3];exact List.nodup_nil) (by rw[u3];exact Nat.zero_le _) (fun y hy=>?_) (fun y hy=>by rw[u3]at hy;simp at hy)
  rw[u2]at hy
  obtain⟨j,j1,j2⟩:=a5 y hy
  have:=hB j y j1 j2;lia
end
section
variable [Zero Heap]
theorem GG{m:Nat}{l:Int}{N N' K K':Nat→Int}{pf B7:Nat→Nd}{F:List Nd}(m1:1≤m)(h1:∀j,j<m→N j=N' j)(h2:∀j,j<m→K j=K' j)(h3:∀j,j<m→pf j=B7 j):∀i,fY m l N K pf F i=fY m l N' K' B7 F i
 |0=>rfl
 |i+1=>by
  rw[fY,fY,GG m1 h1 h2 h3 i,h1 _ (by exact #[0x110114311131c2022102,m-1-i,m-1,m] (Nat.sub_le _ _) (Nat.sub_add_cancel (#[0x1112111c011c01,m] m1))),h2 _ (by exact #[0x110114311131c2022102,m-1-i,m-1,m] (Nat.sub_le _ _) (Nat.sub_add_cancel (#[0x1112111c011c01,m] m1))),h3 _ (by exact #[0x110114311131c2022102,m-1-i,m-1,m] (Nat.sub_le _ _) (Nat.sub_add_cancel (#[0x1112111c011c01,m] m1)))]
section
variable {m:Nat}{l1:Int}{ps:List (Nd×Sh)}
noncomputable abbrev eU(C:Cfg)(ps:List (Nd×Sh)):List Nd:=ps.map Prod.fst++(C.tail++[.int 5])
theorem B9(hm:ps.length=m):ps.map Prod.fst=(List.range m).map (iY (ps.map Prod.fst)):=by
 subst hm
 refine List.ext_getElem (by simp) fun j h1 h2=>?_
 have hj:j<ps.length:=by simpa using h1
 simp[iY,a_ hj]
theorem GH{C:Cfg}(hm:ps.length=m):(eU C ps).take m=ps.map Prod.fst:=by
 unfold eU
 rw[List.take_append_of_le_length (by simp[hm])]
 exact List.take_of_length_le (by simp[hm])
theorem GJ{C:Cfg}(hm:ps.length=m):(eU C ps).drop m=C.tail++[.int 5]:=by
 unfold eU
 rw[List.drop_append_of_le_length (by simp[hm]),List.drop_of_length_le (by simp[hm])]
 rfl
theorem GK{α β γ:Type}(f:γ→α)(g:γ→β)(l:List γ):(l.map f).zip (l.map g)=l.map fun x=>(f x,g x):=by
 induction l with
 |nil=>rfl
 |cons x l ih=>simp[ih]
theorem QK(hm:ps.length=m):iN (cfgOf m (l1+1) ps).ns (eU (cfgOf m (l1+1) ps) ps)=(cfgOf m (l1+1) ps).cU:=by
 have e:(cfgOf m (l1+1) ps).ns.length=m:=by simp[Cfg.ns,cfgOf]
 unfold iN
 rw[e,GH hm,GJ hm,Cfg.cU,List.append_assoc,B9 hm]
 show(((List.range m).map _).zip ((List.range m).map _)).map _++_=(List.range m).map _++_
 rw[GK,List.map_map]
 rfl
theorem QL(hm:ps.length=m):(((cfgOf m (l1+1) ps).ns.zip ((List.range m).map fun j:Nat=>l1+1+1+(j:Int))).map fun q=>Nd.aP q.1 (.loc q.2))++(eU (cfgOf m (l1+1) ps) ps).drop m=(cfgOf m (l1+1) ps).found 0:=by
 rw[GJ hm,Cfg.found,List.append_assoc]
 unfold Cfg.ns Cfg.sets
 show(((List.range m).map _).zip ((List.range m).map _)).map _++_=(List.range m).map _++_
 rw[GK,List.map_map]
 rfl
theorem QM{C:Cfg}(hC:cfgOf m (l1+1) ps=C)(hm:ps.length=m):((C.ns.zip ((List.range m).map fun j:Nat=>l1+1+1+(j:Int))).map fun q=>Nd.aP q.1 (.loc q.2))++(eU C ps).drop m=C.found 0:=by
 subst hC;exact QL hm
theorem QN{C:Cfg}(m1:1≤C.m):C.found C.m=[C.nest (C.m-1)]:=by
 obtain⟨i,hi⟩:∃i,C.m=i+1:=⟨C.m-1,#[0x1101311031c1012221c1021,C.m-1,C.m] (Nat.sub_add_cancel (#[0x1112111c011c01,C.m] m1))⟩
 rw[hi];exact rfl
end
section
variable {J:WX}{A:Around}{R:RR}{h:Heap}{tk:Nat}{D:List Addr}
theorem QO{c:Wc}{W_ nu pp en ep lR wd m:Nat}{l1:Int}{ps:List (Nd×Sh)}{kvs:List (Int×Value)}{ns:List Value}{as:List Addr}(RA:aa A 110)(TT:aE J.P h)(bJ:h.get? nu=some (lst ns en))(hpp:h.get? pp=some (lst (refs as) ep))(m1:1≤m)(m4:m≤4)(hm:ps.length=m)(hP:j_ (0+(m:Int)) ps l1)(hNs:IntsAre ns (cfgOf m (l1+1) ps).ns)(hn:aQ J.P (view D h) (eU (cfgOf m (l1+1) ps) ps) as)(hW:h.get? W_=some (ins 464 wd))(ck:cP J.P h c wd (l1+1))(hTT:h.DictOf (intKind pw J.W) c.TT kvs)(hz:kvs.length+10≤900)
 (g1:534≤wd) (g2:534≤c.TT) (n1:wd≠c.TT) (n2:W_≠wd) (n3:W_≠c.TT) (n4:nu≠wd) (n5:nu≠c.TT) (n6:pp≠wd) (n7:pp≠c.TT) (d1:wd∈D) (d2:c.TT∈D) (hD:∀x∈D,x<⇑h) (nD:nu∉D) (l5:534≤⇑h)
 (H:∀h' tk' (a:Nat) cx l',Kp [wd,c.TT] h h'→cP J.P h' c wd l'→(cx=true→2≤m)→(cx=false→m=1∨∀j,j<m→(cfgOf m (l1+1) ps).cl j=false)→aM J.P (view D h') ((cfgOf m (l1+1) ps).root cx (l1+1)) a→R (rt (.ref a)) (J.S h' tk')):
 codeAny J.M A (aK 384 [.ref W_,.int (l1+1) lR,.ref nu,.ref pp]) R (J.S h tk):=by
 have O:=A9 m1 m4 hm hP
 generalize hC:cfgOf m (l1+1) ps=C at*
 have p6:C.m=m:=by rw[←hC];rfl
 have vF:C.ns.length=m:=by rw[←hC];simp[Cfg.ns,cfgOf]
 have hl:=IntsAre.length hNs
 have nl:ns.length=m:=by rw[hl,vF]
 have tl:(C.tail++[Nd.int 5]).length=m+2:=by simp[Cfg.tail,Cfg.uQ,p6]
 have tN:(eU C ps).length=m+(m+2):=by rw[eU,List.length_append,tl];simp[hm]
 have aB:(eU C ps).take ns.length=ps.map Prod.fst:=by rw[nl];exact GH hm
 have hseq:iN C.ns (eU C ps)=C.cU:=by rw[←hC];exact QK hm
 have hpart:∀j,j<m→∃s c,sS j (iY (ps.map Prod.fst) j) s c:=fun j hj=>by
  have:=O.part j (oH p6 hj)
  rw[←hC]at this
  exact⟨_,_,this⟩
 have hst:∀x∈(eU C ps).take ns.length,qE x:=fun x hx=>by
  rw[aB,B9 hm]at hx
  obtain⟨j,hj,rfl⟩:=mM hx
  obtain⟨s,c,P⟩:=hpart j (List.mem_range.mp hj)
  generalize iY (ps.map Prod.fst) j=x at P
  cases P<;>exact trivial
 have hall:∀b,(((eU C ps).take ns.length).map gA).all id=b→(b=true→∀j,j<m→C.cl j=false):=fun b hb QS j hj=>by
  rw[aB,B9 hm,QS,List.all_eq_true]at hb
  have:=hb (gA (iY (ps.map Prod.fst) j)) (List.mem_map.mpr ⟨_,List.mem_map.mpr ⟨j,List.mem_range.mpr hj,rfl⟩,rfl⟩)
  rw[←hC]
  show(!gA (iY (ps.map Prod.fst) j))=false
  simp only[id]at this
  rw[this];rfl
 have B_:∀cx,C.root cx (l1+1)=rootOf (l1+1) C.ns (if cx then C.nest (C.m-1)else .seq C.cU):=fun cx=>by
  unfold Cfg.root rootOf
  rw[Cfg.ns,List.map_map]
  rfl
 by_cases e1:m=1
 ·refine QT (D:=D) RA TT bJ hpp hNs hn (oG hl (oG vF (oG e1 oR))) (#[0x1100101610101061c1221c1212211c03,m,ns.length] m1 nl e1) (#[0x11100116312c2002c10103212211c03,m,ns.length,(eU C ps).length] m1 nl tN) (#[0x110201503cd1101c222c2020122,(eU C ps).length,m] tN e1) hD nD l5 (fun h' tk' a K hN=>?_)
  exact H h' tk' a false (l1+1) (K.more (by k_in)) (ck.kp K (by k_in)) (by simp) (fun _=>.inl e1) (by rw[B_,if_neg (by simp),←hseq];exact hN)
 ·cases hb:(((eU C ps).take ns.length).map gA).all id with
  |true=>
   refine QU (D:=D) RA TT bJ hpp hNs hn (oG hl (oG vF m1)) (by lia) (ox hl (ox vF (oS m4 rfl))) hst hb (#[0x11100116312c2002c10103212211c03,m,ns.length,(eU C ps).length] m1 nl tN) (#[0x11012403cd1202c1010224c102,m,(eU C ps).length] m4 tN) hD nD l5 (fun h' tk' a K hN=>?_)
   exact H h' tk' a false (l1+1) (K.more (by k_in)) (ck.kp K (by k_in)) (by simp) (fun _=>.inr (hall _ hb rfl)) (by rw[B_,if_neg (by simp),←hseq];exact hN)
  |false=>
   refine QV (D:=D) (c:=c) (kvs:=kvs) RA TT bJ hpp hNs hn (by lia) (ox hl (ox vF (oS m4 rfl))) hst hb hW ck hTT hz g1 g2 n1 n2 n3 n4 n5 n6 n7 d1 d2 (#[0x11100116312c2002c10103212211c03,m,ns.length,(eU C ps).length] m1 nl tN) (#[0x11012403cd1202c1010224c102,m,(eU C ps).length] m4 tN) hD nD l5 (fun h' tk' a bd kvs' K QW _ _ hf hN=>?_)
   refine H h' tk' a true _ K QW (fun _=>by lia) (by simp) ?_
   rw[B_,if_pos rfl]
   have e2:bd=C.nest (C.m-1):=by
    have f0:=QN (C:=C) (by left)
    rw[nl,QM hC hm,GG (N':=C.N) (K':=C.K) (B7:=C.part) m1 ?_ ?_ ?_,←p6,E_ rfl ?_ C.m (bl),f0]at hf
    ·exact(List.cons.inj hf).1.symm
    ·intro i hi;rw[←hC];rw[p6]at hi;show l1+1+(m:Int)+(i:Int)+1=l1+1+(m:Int)+((m-1-(m-1-i):Nat):Int)+1;lia
    ·intro j hj
     have:C.ns.getD j 0=C.N j:=by simp[Cfg.ns,p6,hj,List.getD_eq_getElem?_getD]
     exact this
    ·intro j hj;rw[←hC];rfl
    ·intro j hj
     rw[←hC]
     show(((eU _ ps)[j]?).getD .aS)=((ps.map Prod.fst)[j]?).getD .aS
     unfold eU
     rw[dm (by simp[hm,hj])]
   rw[←e2];exact hN
end
end
section
variable [Zero Heap]
theorem QX{V:Vw}{h₀ h:Heap}{mods:List Addr}{a b c d:Nat}{o p q r:Obj}(K:Kp mods h₀ h)(e:h.get? a=some o)(e2:h.get? b=some p)(e3:h.get? c=some q)(e4:h.get? d=some r)(nd:([a,b,c,d]:List Nat).Nodup)(s:a∈mods∨⇑h₀≤a)(s2:b∈mods∨⇑h₀≤b)(s3:c∈mods∨⇑h₀≤c)(s4:d∈mods∨⇑h₀≤d):Rep V h₀ mods h [(a,o),(b,p),(c,q),(d,r)] ⇑h:=
 vG K (c_ e (c_ e2 (c_ e3 (c_ e4 iU)))) nd (c_ s (c_ s2 (c_ s3 (c_ s4 iU))))
section
variable {J:WX}{A:Around}{E:Value→Shared→Prop}{h:Heap}{tk:Nat}{Q:Flow→Shared→Prop}{rest:List Stmt}{fr cd cw cp cf sc t0 t1 m tm t2 nu fe:Nat}{D:List Addr}
theorem Qw{pl ep t3 sh t4 sp es en W_ wd:Nat}{gs ns:List Value}{ps:List (Nd×Sh)}{c:Wc}{l1:Int}{nQ:List Addr}(RA:aa A 130)(TT:aE J.P h)(hfr:h.get? fr=some (ai (F5 J.P t0 sc t1 m tm t2 nu t3 sh t4 sp) fe))
 (hcw:h.get? cw=some (bL (.ref W_))) (hW:h.get? W_=some (ins 464 wd)) (ck:cP J.P h c wd l1) (hTT:h.DictOf (intKind pw J.W) c.TT []) (hcp:h.get? cp=some (bL (.ref pl))) (hpl:h.get? pl=some (lst gs ep)) (hgs:fW J.P (view D h) ps gs) (hm:ps.length=m) (hP:j_ (0+(m:Int)) ps l1) (m1:1≤m) (m4:m≤4)
 (bJ:h.get? nu=some (lst ns en)) (hNs:IntsAre ns (cfgOf m (l1+1) ps).ns) (hsh:aM J.P (view D h) (cfgOf m (l1+1) ps).uP sh) (tL:h.get? sp=some (lst (refs nQ) es)) (hss:aQ J.P (view D h) (cfgOf m (l1+1) ps).uQ nQ)
 (hD:∀x∈D,x<⇑h) (d1:fr∈D) (d2:wd∈D) (d3:c.TT∈D) (lT:c.TT<⇑h) (nd:([fr,wd,c.TT,cw,W_,cp]:List Nat).Nodup) (g1:534≤fr) (g2:534≤wd) (g3:534≤c.TT) (q1:nu∉D) (q2:pl∉D) (q3:sp∉D)
 (H:∀h' tk' (dR t5 nd:Nat) cx,Kp [fr,wd,c.TT] h h'→h'.get? fr=some (ai (F6 J.P t0 sc t1 m tm t2 nu t3 sh t4 sp t5 nd) dR)→(cx=true→2≤m)→(cx=false→m=1∨∀j,j<m→(cfgOf m (l1+1) ps).cl j=false)→aM J.P (view D h') ((cfgOf m (l1+1) ps).root cx (l1+1)) nd→
  wpAny J.M A (execs rest (bC J.P fr cd cw cp cf)) Q E (J.S h' tk')):
 wpAny J.M A (execs (aF J.P 7::rest) (bC J.P fr cd cw cp cf)) Q E (J.S h tk):=by
 refine uZ nd fun u1 u2 u3 u4 u5 u6 u7 u8 u9 QY GL Xf QZ Xg Xh=>?_
 have aN:fr<⇑h:=aj hfr
 have nC:cw<⇑h:=aj hcw
 have jP:cp<⇑h:=aj hcp
 have bK:pl<⇑h:=aj hpl
 have jS:sp<⇑h:=aj tL
 have bh:nu<⇑h:=aj bJ
 have lW:W_<⇑h:=aj hW
 have n1:fr≠pl:=fun e=>q2 (e▸d1)
 have n2:wd≠pl:=fun e=>q2 (e▸d2)
 have n3:c.TT≠pl:=fun e=>q2 (e▸d3)
 have n4:fr≠sp:=fun e=>q3 (e▸d1)
 have n5:wd≠sp:=fun e=>q3 (e▸d2)
 have n6:c.TT≠sp:=fun e=>q3 (e▸d3)
 have n7:fr≠nu:=fun e=>q1 (e▸d1)
 have n8:wd≠nu:=fun e=>q1 (e▸d2)
 have n9:c.TT≠nu:=fun e=>q1 (e▸d3)
 have hM:∀x∈([fr,wd,c.TT]:List Nat),x∈D:=kAc d1 (kAc d2 (kAc d3 kAn))
 obtain⟨tl,ck⟩:=ck
 have aD:wd<⇑h:=aj ck
 have B:=aG (prog:=pw) (w:=J.W) (mods:=[fr,wd,c.TT]) TT dH (ro:=[(cw,_),(W_,_),(cp,_),(pl,_),(sp,_)]) (rC hcw bw (rC hW bw (rC hcp bw (rC hpl bw (rC tL bw rN)))))
 let vv:s7.A:=⟨fr,fe,t0,sc,t1,m,tm,t2,nu,t3,sh,t4,sp,cd,cw,cp,cf,W_,wd,c,l1,tl,pl,gs,ep,refs nQ,es,⇑h,tk⟩
 refine ko fun R hR=>s7.b0 vv rfl (RA.less rfl) B (iZ .refl hfr ck (by left) (.inl (by k_in)) (.inl (by k_in))) (fun h1 aB H1=>.code ?_)
 have y1:⇑h1=⇑h+4:=H1.size
 have K1:Kp [fr,wd,c.TT] h h1:=H1.kp
 have hit:h1.IsListIter (⇑h+1) pl 0:=fR (H1.get 2 rfl)
 have T1:Tl [⇑h+1] h1:=gC (c:=⇑h+3) (H1.get 4 rfl) y1 (by left)
 have vD:∀a o,view D h a o→view ([⇑h+1,⇑h+2,⇑h+3]++D) h1 a o:=fun a o x=>aO K1 (fun x hx=>bD (hM x hx)) a o (gI (ic (by k_in)) a o x)
 refine jU hit (LZ (G:=pl) (N:=0) (it:=⇑h+1) (acc:=⇑h+2) (L:=⇑h+3) (fr:=fr) (D:=[⇑h+1,⇑h+2,⇑h+3]++D) (aa.up H1.k RA rfl) (by have:=hgs.1;exact #[0x11011016064d1301324c202123,ps.length,m,gs.length] hm m4 this) (oO rfl) (oO rfl) (oO rfl) (oM (oF bK)) (oM (oF bK)) (oM (oF bK)) (oE (oL lT g3)) (oE (oL lT g3)) (oE (oL lT g3)) (by k_in) (by k_in) (by k_in) (TT.kp K1 dH) hit (K1.keep _ _ bw hpl) (hgs.mono vD) T1 (H1.get 3 rfl) (H1.get 4 rfl) fun h2 ao ys ea K2 hys has hL=>?_)
 obtain⟨as,rfl,has⟩:=has
 refine hL.gX (by have:=hgs.1;left) fun a1 a2 a3 hL=>?_
 have jV:Kp [fr,wd,c.TT] h h2:=K1.step K2 (by k_in)
 have f2:h2.get? fr=some _:=K2.keep _ _ (by exact #[0x11013101310133c202c201c203152111,fr,⇑h] aN) (H1.get 0 rfl)
 have w2:h2.get? wd=some (mO J.P c (l1+1) (tk+3)):=K2.keep _ _ (by exact #[0x11013101310133c202c201c203152111,wd,⇑h] aD) (H1.get 1 rfl)
 have z2:=K2.size
 refine s7.b1 (h:=⇑h2) (c:=refs as) (RA.less rfl) B H1.k (QX (a:=fr) (b:=wd) (c:=⇑h+2) (d:=⇑h+3) jV f2 w2 hys hL (sV (by left) (oM (oF aN)) (oM (oF aN)) (oM (oF aD)) (oM (oF aD)) (by left)) (.inl (by k_in)) (.inl (by k_in)) (.inr (by left)) (.inr (by left))) (fun h3 az H3=>.code ?_)
 have y3:⇑h3=⇑h2+1:=H3.size
 have al:as.length=ps.length:=by have:=has.1;simpa using this.symm
 have nl:nQ.length=m:=by have:=hss.1;simpa[Cfg.uQ,cfgOf]using this.symm
 have S3:Kp [fr,wd,⇑h+2,⇑h+3] h2 h3:=H3.seg
 have m3:=At.eO (hb:=h2) (M:=[fr,wd,⇑h+2,⇑h+3]) H3 (bl) (fun x hx=>.inl hx)
 refine ig (H3.get 2 rfl) (H3.get 3 rfl) (by simp[refs,al];left) (oz rfl) fun h4 N4=>?_
 have y4:⇑h4=⇑h3+1:=N4.size
 refine s7.b2 (j:=⇑h3) (k:=refs as++[.ref sh]) (l:=⇑h4) (RA.less rfl) B H3.k (by have e:=N4.at_;rw[H3.size]at e⊢;exact H3.rep.new N4.kp e) (fun h5 aY H5=>.code ?_)
 have vH:Kp [fr,wd,c.TT] h h5:=H5.kp
 have mm:∀{r:Res}{q:Nat}{o:Obj},⇑h2≤q→(∀x∈bZ r,x∈([fr,wd,⇑h+2,⇑h+3]:List Nat)∨⇑h2≤x)→∀x∈(fc r++[(q,o)]).map (·.1),x∈([fr,wd,⇑h+2,⇑h+3]:List Nat)∨⇑h2≤x:=fun hq hr x hx=>by
  change _∈List.map _ (_++_)at hx
  rw[List.map_append]at hx
  rcases mA hx with hx|hx
  ·exact hr x hx
  ·rw[mS hx];exact .inr hq
 have l3:⇑h2≤⇑h3:=by left
 have S5:=(S3.step N4.kp (by k_in)).step H5.seg (mm l3 m3)
 have m5:=At.eO (hb:=h2) H5 (by left) (mm l3 m3)
 refine ig (H5.get 1 rfl) (vH.keep _ _ bw tL) (by simp[refs,al];left) (by simp[refs,nl];left) fun h6 N6=>?_
 have y5:⇑h5=⇑h4:=H5.size
 have y6:⇑h6=⇑h5+1:=N6.size
 refine s7.b3 (n:=⇑h5) (p:=refs as++[.ref sh]++refs nQ) (r:=⇑h6) (RA.less rfl) B H5.k (by have e:=N6.at_;rw[H5.size]at e⊢;exact H5.rep.new N6.kp e) (fun h7 d_ H7=>.code ?_)
 have y7:⇑h7=⇑h6+4:=H7.size
 have Xi:Kp [fr,wd,c.TT] h h7:=H7.kp
 have l5:⇑h2≤⇑h5:=by left
 have S7:=(S5.step N6.kp (by k_in)).step H7.seg (mm l5 m5)
 have m7:=At.eO (hb:=h2) H7 (by left) (mm l5 m5)
 refine ig (H7.get 1 rfl) (H7.get 5 rfl) (by simp[refs,al,nl];exact #[0x112014190d11c201004c202122,ps.length,m] hm m4) (oz rfl) fun h8 N8=>?_
 have y8:⇑h8=⇑h7+1:=N8.size
 refine s7.b4 (t:=⇑h7) (u:=⇑h8) (RA.less rfl) B H7.k (H7.rep.grow N8.kp) (fun h9 ie H9=>.code ?_)
 have y9:⇑h9=⇑h8:=H9.size
 have ru:Kp [fr,wd,c.TT] h h9:=H9.kp
 have S9:=(S7.step N8.kp (by k_in)).step H9.seg m7
 have hn:aQ J.P (view D h9) (eU (cfgOf m (l1+1) ps) ps) (as++(sh::nQ++[⇑h6+1])):=by
  refine(has.mono fun a o x=>?_).append ((aQ.cons (hsh.mono fun a o x=>aO ru hM a o x) (hss.mono fun a o x=>aO ru hM a o x)).append (.one (.int (d:=⇑h6) (iI hD (by left) (H9.get 3 rfl)) (iI hD (by left) (H9.get 2 rfl)))))
  ·refine jf (D:=[⇑h+1,⇑h+2,⇑h+3]++D) (fun x hx=>bD hx) a o (aO S9 (fun x hx=>?_) a o x)
   exact(show∀x∈([fr,wd,⇑h+2,⇑h+3]:List Nat),x∈[⇑h+1,⇑h+2,⇑h+3]++D by k_in) x hx
 have e8:refs as++[.ref sh]++refs nQ++[.ref (⇑h6+1)]=refs (as++(sh::nQ++[⇑h6+1])):=by simp[refs]
 have hpp:h8.get? ⇑h7=some (lst (refs (as++(sh::nQ++[⇑h6+1]))) 0):=e8▸N8.at_
 have Q_:h9.get? ⇑h7=some _:=H9.seg.keep _ _ (fun q=>Nat.lt_irrefl _ (H7.mlt _ q)) hpp
 have T9:h9.DictOf (intKind pw J.W) c.TT []:=by
  refine bu.fS hTT fun o ho hd=>?_
  exact bu.at (S9.keep _ _ (by exact kNc (Ne.symm u2) (kNc (Ne.symm u6) (kNc (#[0x110132c201132111,c.TT,⇑h] lT) (kNc (#[0x110133c201132111,c.TT,⇑h] lT) kNn)))) (K2.keep _ _ (by exact #[0x11013101310133c202c201c203152111,c.TT,⇑h] lT) (H1.seg.keep _ _ au ho))) hd
 refine QO (c:=c) (ps:=ps) (D:=D) (aa.up H9.k RA rfl) (TT.kp ru dH) (ru.keep _ _ bw bJ) Q_ m1 m4 hm hP hNs hn (ru.keep _ _ bw hW) ⟨tk+3,H9.get 1 rfl⟩ T9 (oz rfl) g2 g3 u6 (Ne.symm u8) (Ne.symm GL) (Ne.symm n8) (Ne.symm n9) (oN (oJ (oG y7 (oE (oG y6 (oE (oG y5 (oG y4 (oE (oG y3 (oE (oI z2 (oG y1 oA))))))))))) aD)) (oN (oJ (oG y7 (oE (oG y6 (oE (oG y5 (oG y4 (oE (oG y3 (oE (oI z2 (oG y1 oA))))))))))) lT)) d2 d3 (fun x hx=>aJ (hD x hx) ru.size) q1 (by left) (fun bU s_ nd cx l' jT hw BZ B3 hN=>?_)
 obtain⟨tl',hw⟩:=hw
 have l9:⇑h≤⇑h9:=by left
 refine s7.b5 (x:=nd) (y:=l') (z:=tl') (B:=⇑bU) (RA.less rfl) B H9.k (iZ (a:=fr) (b:=wd) (ru.step jT (by k_in)) (jT.keep _ _ au (H9.get 0 rfl)) hw u1 (.inl (by k_in)) (.inl (by k_in))) (fun h11 jk aZ=>?_)
 refine hR _ ?_
 have Ra:Kp [fr,wd] bU h11:=aZ.seg
 exact H h11 jk _ _ nd cx aZ.kp (aZ.get 0 rfl) BZ B3 (hN.mono fun a o x=>aO Ra (by k_in) a o x)
end
end
section
variable [Zero Heap]
section
variable {prog:Program}{w:World}{A:Around}{E:Value→Shared→Prop}{s:Shared}
open PySem.SeqAt in
theorem GN{vs us:List Value}{ss:List Sh}(x:bR ss vs)(y:bR ss us):∀j (h1:j<(⟨vs⟩:Array Value).size)(h2:j<(⟨us⟩:Array Value).size),EqAt A s (⟨vs⟩:Array Value)[j] (⟨us⟩:Array Value)[j] true:=fun j h1 h2=>by
 have h1:j<vs.length:=by simpa using h1
 have h2:j<us.length:=by simpa using h2
 have hs:j<ss.length:=by rw[←x.1];exact h1
 have a:=x.2 j _ _ (a_ hs) (a_ h1)
 have b:=y.2 j _ _ (a_ hs) (a_ h2)
 show EqAt A s vs[j] us[j] true
 generalize ss[j]=s0 at a b
 generalize vs[j]=v at a
 generalize us[j]=u at b
 cases a with
 |@int i t=>
  cases b with
  |@int i t'=>
   have e:(i==i)=true:=by simp
   exact e▸EqAt.int_int i t i t'
 |@proc t=>
  cases b with
  |@proc t'=>
   have e:(fk==fk)=true:=rfl
   exact e▸EqAt.str_str fk t fk t'
theorem all_true{n:Nat}:(List.range n).all (fun _=>true)=true:=by simp
open PySem.SeqAt in
theorem FP{l b:Addr}{vs us:List Value}{ss:List Sh}{e1 e2:Nat}{Q:Bool→Shared→Prop}(hl:s.heap.get? l=some (lst vs e1))(hb:s.heap.get? b=some (lst us e2))(x:bR ss vs)(y:bR ss us)(hu:A.units<cLine)(H:Q false s):
 wpAny (model prog w) A (compareOp .NotEq (.ref l) (.ref b)) (fun c s'=>wpAny (model prog w) A (truthy c) Q E s') E s:=by
 show wpAny _ _ (richCompare .NotEq (.ref l) (.ref b)) _ _ _
 have z:=RcNeAt.lists (A:=A) (e:=fun _=>true) (dw hl) (dw hb) (by simp[x.1,y.1]) hu (fun j h1 h2=>GN x y j h1 h2)
 rw[all_true]at z
 exact z prog w E _ (wpAny_truthy_bool H)
open PySem.SeqAt in
theorem Rb{l b:Addr}{vs us:List Value}{ns:List Int}{e1 e2:Nat}{Q:Bool→Shared→Prop}(hl:s.heap.get? l=some (lst vs e1))(hb:s.heap.get? b=some (lst us e2))(x:IntsAre vs ns)(y:IntsAre us ns)(hu:A.units<cLine)(H:Q false s):
 wpAny (model prog w) A (compareOp .NotEq (.ref l) (.ref b)) (fun c s'=>wpAny (model prog w) A (truthy c) Q E s') E s:=by
 have go:∀{vs:List Value}{ns:List Int},IntsAre vs ns→bR (ns.map .int) vs:=fun{vs ns} x=>by
  refine⟨by rw[List.length_map];exact IntsAre.length x,fun j s v h1 h2=>?_⟩
  rw[List.getElem?_map,Option.map_eq_some_iff]at h1
  obtain⟨i,h1,rfl⟩:=h1
  obtain⟨t,e⟩:=xZ x h1
  rw[h2]at e
  obtain rfl:=bV e
  exact .int
 exact FP hl hb (go x) (go y) hu H
open PySem.SeqAt in
theorem Rc{l b p q:Addr}{vs us:List Value}{ss:List Sh}{e1 e2 e3 e4:Nat}{Q:Bool→Shared→Prop}(hl:s.heap.get? l=some (lst [.ref p] e3))(hb:s.heap.get? b=some (lst [.ref q] e4))(hp:s.heap.get? p=some (lst vs e1))(hq:s.heap.get? q=some (lst us e2))(x:bR ss vs)(y:bR ss us)(hu:A.units<cLine)(GO:A.in1.units<cLine)(H:Q false s):
 wpAny (model prog w) A (compareOp .NotEq (.ref l) (.ref b)) (fun c s'=>wpAny (model prog w) A (truthy c) Q E s') E s:=by
 show wpAny _ _ (richCompare .NotEq (.ref l) (.ref b)) _ _ _
 have i:=RcAt.lists (A:=A.in1) (e:=fun _=>true) (dw hp) (dw hq) (by simp[x.1,y.1]) GO (fun j h1 h2=>GN x y j h1 h2)
 rw[all_true]at i
 have z:=RcNeAt.lists (A:=A) (e:=fun _=>true) (dw hl) (dw hb) rfl hu (fun j h1 h2=>by
  have h0:j=0:=by have:j<1:=h1;exact #[0x11021120c1121c111,j] this
  subst h0
  by_cases n:p=q
  ·subst n;exact .same _
  ·exact .of_refs n i)
 rw[all_true]at z
 exact z prog w E _ (wpAny_truthy_bool H)
end
theorem Rd(P:Params):aF P 9=.If (.BoolOp .Or [bW (aL (aF P 9)) 0,bW (aL (aF P 9)) 1,.Compare (fB (bW (aL (aF P 9)) 2)) [.NotEq] [fC (bW (aL (aF P 9)) 2)] (jx (bW (aL (aF P 9)) 2))] (sX (aL (aF P 9)))) (iG (aF P 9)) [] (qB (aF P 9)):=by kernel_rfl
section
variable {J:WX}{A:Around}{E:Value→Shared→Prop}{h:Heap}{tk:Nat}{Q:Flow→Shared→Prop}{rest:List Stmt}{fr cd cw cp cf sc t0 t1 m tm t2 nu t3 sh t4 sp t5 nd t6 st fe:Nat}{D:List Addr}
theorem P9{C:Cfg}{cx:Bool}{L:Int}(RA:aa A 100)(TT:aE J.P h)(hfr:h.get? fr=some (ai (F7 J.P t0 sc t1 m tm t2 nu t3 sh t4 sp t5 nd t6 st) fe))(g1:534≤fr)(hn:aM J.P (view D h) (C.root cx L) nd)(S:Shape C (C.root cx L))(m1:1≤C.m)(hD:∀x∈D,x<⇑h)(d1:fr∈D)
 (H:∀h' tk',Kp [fr] h h'→h'.get? fr=some (ai (F7 J.P t0 sc t1 m tm t2 nu t3 sh t4 sp t5 nd t6 st) fe)→
  wpAny J.M A (execs rest (bC J.P fr cd cw cp cf)) Q E (J.S h' tk')):
 wpAny J.M A (execs (aF J.P 9::rest) (bC J.P fr cd cw cp cf)) Q E (J.S h tk):=by
 have aN:fr<⇑h:=aj hfr
 rw[Rd]
 let vv:Vv:=fD fr fe t0 sc t1 tm t2 nu t3 sh t4 sp t5 nd t6 st cd cw cp cf ⇑h tk 0 0 0 0 0 m 0 .none [] [] [] []
 refine wpAny_execs_cons (wpAny_If (wpAny_isTrue_BoolOp (wpAny_allTrue_Or_cons (qU (Ca.b0 vv rfl (RA.less rfl) (aG (mods:=[fr]) TT bI (ro:=[]) trivial) (cQ .refl hfr (.inl (by k_in))) (fun h1 aB H1=>.code (Rf (D:=D) (aa.up H1.k RA rfl) (TT.kp H1.kp bI) (hn.mono fun a o x=>aO H1.kp (by k_in) a o x) S.sz S.l1 S.n1 S.l2 S.n2 (fun x hx=>aJ (hD x hx) H1.kp.size) (by have:=H1.kp.size;left) fun h2 ao K2=>?_)))))))
 refine Ca.b1 (a:=⇑h2) (RA.less rfl) (aG (mods:=[fr]) TT bI (ro:=[]) trivial) H1.k (H1.rep.grow K2) (fun h3 az H3=>?_)
 have K3:Kp [fr] h h3:=H3.kp
 obtain⟨d,e1,e2⟩:∃d:Nat,view D h3 nd (ins 217 d)∧∃(u1 op u2 os ed:Nat)(ls:List Addr)(el:Nat),ls.length=C.m∧view D h3 d (dct [ent J.P nR u1 (.ref op),ent J.P nU u2 (.ref os)] ed)∧view D h3 os (lst (refs ls) el)∧∀(j:Nat) a,ls[j]? =some a→aM J.P (view D h3) .aS a:=by
  have z:=hn.mono fun a o x=>aO K3 (by k_in) a o x
  unfold Cfg.root at z
  cases z with
  |@call _ _ _ _ _ _ _ _ _ _ ls v1 v2 _ v3 v4 _ v6=>
   refine⟨_,v1,_,_,_,_,_,ls,_,by rw[←v4];simp,v2,v3,fun j a ha=>?_⟩
   have hj:j<((List.range C.m).map fun _=>Nd.aS).length:=by rw[v4];exact(fN ha).1
   exact v6 j .aS a (by rw[a_ hj];simp) ha
 obtain⟨u1,op,u2,os',ed,ls,el,e0,e3,e4,e5⟩:=e2
 have m0:nd≠fr:=fun e=>e1.1 (e▸d1)
 have m2:d≠fr:=fun e=>e3.1 (e▸d1)
 have m3:os'≠fr:=fun e=>e4.1 (e▸d1)
 show wpAny _ _ _ _ _ _
 let vv:Vv:=fD fr fe t0 sc t1 tm t2 nu t3 sh t4 sp t5 nd t6 st cd cw cp cf d ⇑h3 az 0 0 0 0 m 0 .none [] [] [] []
 refine wpAny_allTrue_Or_cons (qU (GP.b0 vv rfl (RA.less rfl) (aG (mods:=[fr]) (TT.kp K3 bI) bI (ro:=[(nd,_)]) (rC e1.2 ak rN)) (cQ .refl (H3.get 0 rfl) (.inl (by k_in))) (fun h4 av H4=>?_)))
 have K4:Kp [fr] h3 h4:=H4.kp
 have kD:=(TT.kp K3 bI).kp K4 bI
 have pT:=K4.size
 have yz:=K3.size
 show wpAny _ _ _ _ _ _
 let vv:Vv:=jj fr fe t0 sc t1 tm t2 nu t3 sh t4 sp t5 nd t6 st cd cw cp cf d u1 op u2 os' ed el ⇑h4 av 0 0 0 0 0 0 0 0 m 0 0 0 .none .none .none .none .none (refs ls) [] []
 refine wpAny_allTrue_Or_cons (wpAny_isTrue_Compare1 (eH (Cb.b0 vv rfl (RA.less rfl) (aG (mods:=[fr]) kD bI (ro:=[(nd,_),(d,_),(os',_)]) (rC (K4.keep _ _ ak e1.2) ak (rC (K4.keep _ _ ak e3.2) ak (rC (K4.keep _ _ ak e4.2) ak rN)))) (cQ .refl (H4.get 0 rfl) (.inl (by k_in))) (fun h5 aY H5=>.code ?_))) rfl)
 have y5:⇑h5=⇑h4+3:=H5.size
 have K5:Kp [fr] h4 h5:=H5.kp
 have Cc:os'<⇑h3:=aj e4.2
 have hit:h5.IsListIter ⇑h4 os' 0:=fR (H5.get 1 rfl)
 have T5:Tl [⇑h4] h5:=gC (c:=⇑h4+2) (H5.get 3 rfl) y5 (by left)
 have vD:∀a o,view D h3 a o→view ([⇑h4,⇑h4+1,⇑h4+2]++D) h5 a o:=fun a o x=>aO K5 (by k_in) a o (gI (ic (by k_in)) a o (aO K4 (by k_in) a o x))
 refine Rg hit (L0 (G:=os') (it:=⇑h4) (acc:=⇑h4+1) (L:=⇑h4+2) (fr:=fr) (as:=ls) (D:=[⇑h4,⇑h4+1,⇑h4+2]++D) (aa.up H5.k RA rfl) (by left) (by left) (by right) (oM (oJ pT Cc)) (oM (oF (oJ pT Cc))) (oM (oF (oJ pT Cc))) (by left) (by left) (by left) (by k_in) (by k_in) (by k_in) (kD.kp K5 bI) hit (K5.keep _ _ ak (K4.keep _ _ ak e4.2)) (fun j a ha=>(e5 j a ha).mono vD) T5 (H5.get 2 rfl) (H5.get 3 rfl) fun h6 gG ea K6 hys hL=>?_)
 refine hL.gX (by simp[refs,e0,m1]) fun a1 a2 a3 hL=>?_
 have yC:Kp [fr] h4 h6:=K5.step K6 (by k_in)
 have f6:h6.get? fr=some _:=K6.keep _ _ (by exact #[0x11011151011151011152c401c4043153204302113,fr,⇑h,⇑h3,⇑h4] aN pT yz) (H5.get 0 rfl)
 have z6:=K6.size
 refine Cb.b1 (e:=⇑h6) (RA.less rfl) (aG (mods:=[fr]) kD bI (ro:=[(nd,_),(d,_),(os',_)]) (rC (K4.keep _ _ ak e1.2) ak (rC (K4.keep _ _ ak e3.2) ak (rC (K4.keep _ _ ak e4.2) ak rN)))) H5.k (jQ (a:=fr) (b:=⇑h4+1) (c:=⇑h4+2) yC f6 hys hL (#[0x11011151c401133204302113,fr,⇑h,⇑h3,⇑h4] aN pT yz) (#[0x11011152c401133204302113,fr,⇑h,⇑h3,⇑h4] aN pT yz) (by left) (.inl (by k_in)) (.inr (by left)) (.inr (by left))) (fun h7 d_ H7=>?_)
 have K7:Kp [fr] h4 h7:=H7.kp
 show wpAny _ _ _ _ _ _
 let vv:Vv:=fD fr fe t0 sc t1 tm t2 nu t3 sh t4 sp t5 nd t6 st cd cw cp cf ⇑h7 d_ 0 0 0 0 0 m 0 .none [] [] [] []
 refine eH (GQ.b0 vv rfl (RA.less rfl) (aG (mods:=[fr]) (kD.kp K7 bI) bI (ro:=[]) trivial) (cQ .refl (H7.get 0 rfl) (.inl (by k_in))) (fun h8 fT H8=>?_))
 have K8:Kp [fr] h7 h8:=H8.kp
 refine yD (vs:=[]) (K8.keep (⇑h4+1) _ (by exact #[0x111114111c4053204302113,fr,⇑h,⇑h3,⇑h4] aN pT yz) (H7.get 1 rfl)) (H8.get 1 rfl) (by have:=RA.units;left) ?_
 refine wpAny_allTrue_Or_nil ?_
 exact wpAny_execs_nil (H h8 fT (((K3.trans K4).trans K7).trans K8) (H8.get 0 rfl))
end
end
section
variable [Zero Heap]
inductive m_ (P:Params) (w:World) (V:View) (κ:List Addr):pP→Value→Value→Prop
 |ev {n ρ a E}:aM P V n a→g7 w V κ ρ E→m_ P w V κ (.ev n ρ) (.ref a) (.ref E)
 |val {v t y}:RV P w V κ v y→m_ P w V κ (.val v) (.str aX t) y
noncomputable def HX(P:Params)(w:World)(V:View)(κ:List Addr):pP→Value→Value→Prop
 |.ev n ρ,x,y=>∀G:Value→Value→Prop,(∀a E,aM P V n a→g7 w V κ ρ E→G (.ref a) (.ref E))→G x y
 |.val v,x,y=>∀G:Value→Value→Prop,(∀t,RV P w V κ v y→G (.str aX t) y)→G x y
theorem m_.out{P:Params}{w:World}{V:View}{κ:List Addr}{c:pP}{x y:Value}(z:m_ P w V κ c x y):HX P w V κ c x y:=
 z.casesOn (motive:=fun c x y _=>HX P w V κ c x y) (fun h1 h2 _ k=>k _ _ h1 h2) (fun h _ k=>k _ h)
structure cR (P:Params) (w:World) (I:aV) (fr:Addr) (κ:List Addr) (S:MS) (h:Heap):Prop where
 inv:Inv P w I [fr] κ S h
 lo:534≤fr
 ni:fr∉I.M κ
 aR:∃x y,m_ P w (view ([fr]++I.M κ) h) κ S.aR x y∧eE P h fr I.F I.S x y
theorem cR.p7{P:Params}{w:World}{I:aV}{fr:Addr}{κ:List Addr}{S:MS}{h:Heap}{n:Nd}{ρ:bH}{G:Prop}(x:cR P w I fr κ S h)(hc:S.aR=.ev n ρ)
 (k:∀a E,aM P (view ([fr]++I.M κ) h) n a→g7 w (view ([fr]++I.M κ) h) κ ρ E→eE P h fr I.F I.S (.ref a) (.ref E)→G):G:=by
 obtain⟨vx,vy,c,f⟩:=x.aR
 rw[hc]at c
 exact c.out (fun vx vy=>eE P h fr I.F I.S vx vy→G) (fun a E hn hE f=>k a E hn hE f) f
theorem cR.HL{P:Params}{w:World}{I:aV}{fr:Addr}{κ:List Addr}{S:MS}{h:Heap}{v:AV}{G:Prop}(x:cR P w I fr κ S h)(hc:S.aR=.val v)
 (k:∀t y,RV P w (view ([fr]++I.M κ) h) κ v y→eE P h fr I.F I.S (.str aX t) y→G):G:=by
 obtain⟨vx,vy,c,f⟩:=x.aR
 rw[hc]at c
 exact c.out (fun vx vy=>eE P h fr I.F I.S vx vy→G) (fun t r f=>k t vy r f) f
theorem Inv.p8{P:Params}{w:World}{I:aV}{fr:Addr}{κ:List Addr}{S:MS}{h h':Heap}(x:Inv P w I [fr] κ S h)(K:Kp [fr] h h')(lo:534≤fr)(ni:fr∉I.M κ):Inv P w I [fr] κ S h':=
 x.move (x.top.kp K (by k_in)) (fun a ha o e=>K.keep _ _ (fun q=>ni (mS q▸ha)) e) (fun a o hn e=>⟨hn,K.keep _ _ (fun q=>hn (cC q)) e⟩)
theorem Inv.aR{P:Params}{w:World}{I:aV}{X κ:List Addr}{S S':MS}{h:Heap}(x:Inv P w I X κ S h)(e1:S'.fs=S.fs)(e2:S'.σ=S.σ)(e3:S'.kept=S.kept)(e4:S'.shown=S.shown):Inv P w I X κ S' h:=by
 obtain⟨a,b,c,d,e,f,k,s,t,u,v,z⟩:=x
 exact⟨a,b,c,e1▸d,e2▸e,e2▸f,e3▸k,e4▸s,t,u,v,z⟩
theorem Inv.lt{P:Params}{w:World}{I:aV}{X κ:List Addr}{S:MS}{h:Heap}(x:Inv P w I X κ S h):∀a∈I.M κ,a<⇑h:=by
 intro a ha
 refine x.gW fun vs e f1 _=>?_
 refine x.qQ fun kvs k1 _ _=>?_
 refine bu.fS k1 fun o ho _=>?_
 refine x.sQ fun qs e2 q1 _ _=>?_
 rcases mC ha with rfl|ha
 ·exact aj f1
 rcases mC ha with rfl|ha
 ·exact aj ho
 rcases mC ha with rfl|ha
 ·exact aj q1
 rcases mA ha with ha|ha
 ·obtain⟨p,hp,rfl⟩:=mM ha
  exact aj (x.ys p hp)
 obtain⟨c,hc,hca⟩:=List.getElem_of_mem ha
 have hcs:c<S.σ.length:=x.len▸hc
 obtain⟨y,e3,y1,_⟩:=x.cells c S.σ[c] a (a_ hcs) (by rw[a_ hc,hca])
 exact aj y1
section
variable {J:WX}{A:Around}{R:RR}{h:Heap}{tk:Nat}{fr:Addr}{I:aV}{κ:List Addr}{S:MS}
theorem cR.HY{P:Params}{w:World}{I:aV}{fr:Addr}{κ:List Addr}{S:MS}{h:Heap}(x:cR P w I fr κ S h){u:Addr}(lu:⇑h≤u)(lf:fr<⇑h):u∉[fr]++I.M κ:=fun q=>by
 rcases mA q with q|q
 ·exact Nat.lt_irrefl _ (aJ lf (mS q▸lu))
 ·exact Nat.lt_irrefl _ (aJ (x.inv.lt u q) lu)
theorem Sn{i:Int}{ρ:bH}(RA:aa A 80)(x:cR J.P J.W I fr κ S h)(hc:S.aR=.ev (.int i) ρ)
 (H:∀h' tk',cR J.P J.W I fr κ {S with aR:=.val (.int i)} h'→codeAny J.M A (bO J.P fr) R (J.S h' tk')):
 codeAny J.M A (bO J.P fr) R (J.S h tk):=by
 refine x.p7 hc fun a E hn hE f=>?_
 refine hn.out _ fun _ _ _ _ h1 h2=>?_
 have n1:=fun q=>h1.1 (cC (List.mem_singleton.mpr q))
 have n2:=fun q=>h2.1 (cC (List.mem_singleton.mpr q))
 refine tR true true (P:=fun _ y=>∃t,y=.int i t) RA x.inv.top f x.lo h1.2 n1 (fun A' R' k1 aB cF K1 sz HR=>Td (cF.less rfl) (x.inv.top.kp K1 (by simpa using x.lo)) (K1.keep _ _ (by k_in) h1.2) (K1.keep _ _ (by k_in) h2.2) (fun h2 ao k2=>HR h2 ao true _ _ k2 ⟨_,rfl⟩)) (fun k1 k2 k3 az y q1 K1 K2 hu K3 hf=>?_)
 obtain⟨_,rfl⟩:=hu
 exact H k3 az ⟨(x.inv.p8 ((K1.trans (K2.more (by k_in))).trans K3) x.lo x.ni).aR rfl rfl rfl rfl,x.lo,x.ni,_,_,.val .int,hf⟩
theorem So{ρ:bH}(RA:aa A 80)(x:cR J.P J.W I fr κ S h)(hc:S.aR=.ev .aS ρ)
 (H:∀h' tk',cR J.P J.W I fr κ {S with aR:=.val .aS} h'→codeAny J.M A (bO J.P fr) R (J.S h' tk')):
 codeAny J.M A (bO J.P fr) R (J.S h tk):=by
 refine x.p7 hc fun a E hn hE f=>?_
 refine hn.out _ fun _ _ _ h1 h2=>?_
 have n1:=fun q=>h1.1 (cC (List.mem_singleton.mpr q))
 have n2:=fun q=>h2.1 (cC (List.mem_singleton.mpr q))
 refine tR true true (P:=fun _ y=>y=.ref 275) RA x.inv.top f x.lo h1.2 n1 (fun A' R' k1 aB cF K1 sz HR=>Tf (cF.less rfl) (x.inv.top.kp K1 (by simpa using x.lo)) (K1.keep _ _ (by k_in) h1.2) (K1.keep _ _ (by k_in) h2.2) (fun h2 ao k2=>HR h2 ao false 0 _ k2 rfl)) (fun k1 k2 k3 az y q1 K1 K2 hu K3 hf=>?_)
 subst hu
 exact H k3 az ⟨(x.inv.p8 ((K1.trans (K2.more (by k_in))).trans K3) x.lo x.ni).aR rfl rfl rfl rfl,x.lo,x.ni,_,_,.val .aS,hf⟩
theorem Sp{i:Int}{ρ:bH}(RA:aa A 80)(x:cR J.P J.W I fr κ S h)(hc:S.aR=.ev (.glob i) ρ)
 (H:∀h' tk',cR J.P J.W I fr κ {S with aR:=.val (.glob i)} h'→codeAny J.M A (bO J.P fr) R (J.S h' tk')):
 codeAny J.M A (bO J.P fr) R (J.S h tk):=by
 refine x.p7 hc fun a E hn hE f=>?_
 refine hn.out _ fun _ _ _ _ h1 h2=>?_
 have n1:=fun q=>h1.1 (cC (List.mem_singleton.mpr q))
 have n2:=fun q=>h2.1 (cC (List.mem_singleton.mpr q))
 refine tR false true (P:=fun k y=>∃u,y=.ref u∧⇑h≤u∧∃t tg,k.get? u=some (tup [.str kJ t,.int i tg])) RA x.inv.top f x.lo h1.2 n1 (fun A' R' k1 aB cF K1 sz HR=>Th (cF.less rfl) (x.inv.top.kp K1 (by simpa using x.lo)) (K1.keep _ _ (by k_in) h1.2) (K1.keep _ _ (by k_in) h2.2) (fun h2 ao p t k2 lp ep=>HR h2 ao false 0 p k2 ⟨p,rfl,sz▸lp,_,_,ep⟩)) (fun k1 k2 k3 az y q1 K1 K2 hu K3 hf=>?_)
 obtain⟨u,rfl,lu,t,tg,eu⟩:=hu
 have nu:u∉[fr]++I.M κ:=x.HY lu f.lt
 exact H k3 az ⟨(x.inv.p8 ((K1.trans (K2.more (by k_in))).trans K3) x.lo x.ni).aR rfl rfl rfl rfl,x.lo,x.ni,_,_,.val (.glob ⟨nu,K3.keep _ _ (fun q=>nu (cC q)) eu⟩),hf⟩
theorem Sq{lb:Int}{ps:List Int}{b:Nd}{ρ:bH}(RA:aa A 80)(x:cR J.P J.W I fr κ S h)(hc:S.aR=.ev (.lam lb ps b) ρ)
 (H:∀h' tk',cR J.P J.W I fr κ {S with aR:=.val (.di ps b ρ)} h'→codeAny J.M A (bO J.P fr) R (J.S h' tk')):
 codeAny J.M A (bO J.P fr) R (J.S h tk):=by
 refine x.p7 hc fun a E hn hE f=>?_
 refine hn.out _ fun _ _ _ _ _ _ _ _ _ _ _ _ _ h1 h2 h3 h4 h5=>?_
 have n1:=fun q=>h1.1 (cC (List.mem_singleton.mpr q))
 have n2:=fun q=>h2.1 (cC (List.mem_singleton.mpr q))
 refine tR false false (P:=fun k y=>∃u,y=.ref u∧⇑h≤u∧∃t,k.get? u=some (tup [.str fk t,.ref _,.ref _])) RA x.inv.top f x.lo h1.2 n1 (fun A' R' k1 aB cF K1 sz HR=>Ti (cF.less rfl) (x.inv.top.kp K1 (by simpa using x.lo)) (K1.keep _ _ (by k_in) h1.2) (fun h2 ao p t k2 lp ep=>HR h2 ao false 0 p k2 ⟨p,rfl,sz▸lp,_,ep⟩)) (fun k1 k2 k3 az y q1 K1 K2 hu K3 hf=>?_)
 obtain⟨u,rfl,lu,t,eu⟩:=hu
 have nu:u∉[fr]++I.M κ:=x.HY lu f.lt
 have mv:∀a o,view ([fr]++I.M κ) h a o→view ([fr]++I.M κ) k3 a o:=ny fun a o hn e=>⟨hn,((K1.trans (K2.more (by k_in))).trans K3).keep _ _ (fun q=>hn (cC q)) e⟩
 exact H k3 az ⟨(x.inv.p8 ((K1.trans (K2.more (by k_in))).trans K3) x.lo x.ni).aR rfl rfl rfl rfl,x.lo,x.ni,_,_,.val (.di ⟨nu,K3.keep _ _ (fun q=>nu (cC q)) eu⟩ ((aM.lam h1 h2 h3 h4 h5).mono mv) (hE.mono mv (bX))),hf⟩
end
end
section
variable [Zero Heap]
noncomputable def ES(P:Params)(w:World)(V:View)(κ:List Addr)(F:Addr)(fs:List bG)(h:Heap):Prop:=∃vs e,h.get? F=some (lst (refs vs) e)∧ff P w V κ fs vs
noncomputable def ET(P:Params)(w:World)(V:View)(κ:List Addr)(σ:List AV)(h:Heap):Prop:=∀(c:Nat)(v:AV)(a:Addr),σ[c]? =some v→κ[c]? =some a→∃x e,h.get? a=some (lst [x] e)∧RV P w V κ v x
noncomputable def AW(P:Params)(w:World)(V:View)(κ:List Addr)(K:Addr)(kept:List (Int×List bG))(h:Heap):Prop:=
 ∃kvs,h.DictOf (intKind pw w) K kvs∧kvs.length=kept.length∧∀(j:Nat)(kv:Int×Value)(af:Int×List bG),kvs[j]? =some kv→kept[j]? =some af→kv.1=af.1∧∃m vs e,kv.2=.ref m∧V m (lst (refs vs) e)∧ff P w V κ af.2 vs
noncomputable def AX(V:View)(H:Addr)(shown:List (List Sh))(h:Heap):Prop:=
 ∃qs e,h.get? H=some (lst (refs qs) e)∧qs.length=shown.length∧∀(j:Nat)(q:Addr)(l:List Sh),qs[j]? =some q→shown[j]? =some l→∃ys e,V q (lst ys e)∧ys.length=l.length∧∀(i:Nat)(s:Sh)(y:Value),l[i]? =some s→ys[i]? =some y→jE s y
section
variable {P:Params}{w:World}{I:aV}{X X' κ κ' cs:List Addr}{S S':MS}{h h':Heap}{V:View}
theorem Inv.fh(x:Inv P w I X κ S h):534≤⇑h:=aq (x.lo I.F (by k_in)) (Nat.le_of_lt (x.lt I.F (by k_in)))
theorem AY{a:Addr}(h:a∈I.N κ):a∈I.M κ:=by
 simp only[aV.N,aV.M,eZ,List.mem_append]at h⊢
 rcases h with h|h|h|h<;>simp[h]
theorem Inv.NO(x:Inv P w I X κ S h):∀p∈I.Y,p.1∉I.N κ:=fun p hp=>by
 have:=x.nd
 simp only[aV.M,List.nodup_cons,eZ,List.mem_append,not_or,List.nodup_append]at this
 have m:p.1∈I.Y.map (·.1):=List.mem_map_of_mem hp
 simp only[aV.N,eZ,not_or]
 exact⟨fun e=>this.1.2.2.1 (e▸m),fun e=>this.2.1.2.1 (e▸m),fun e=>this.2.2.1.1 (e▸m),fun e=>this.2.2.2.2.2 _ m _ e rfl⟩
theorem Inv.AZ(x:Inv P w I X κ S h)(kp:Kp (X++I.N κ) h h')(hX:∀a∈X',a∈X∨⇑h≤a)(hk:κ'=κ++cs)(hc:∀a∈cs,⇑h≤a):∀a o,view (X++I.M κ) h a o→view (X'++I.M κ') h' a o:=by
 subst hk
 refine ny fun a o hn e=>⟨fun q=>?_,kp.keep _ _ (fun q=>hn ((mA q).elim (cC) fun z=>bD (AY z))) e⟩
 have la:=aj e
 rcases mA q with q|q
 ·rcases hX a q with z|z
  ·exact hn (cC z)
  ·exact Nat.lt_irrefl _ (aJ la z)
 ·have q':a∈I.M κ++cs:=by simpa[aV.M]using q
  rcases mA q' with z|z
  ·exact hn (bD z)
  ·exact Nat.lt_irrefl _ (aJ la (hc a z))
theorem Inv.lift(x:Inv P w I X κ S h)(kp:Kp (I.N κ) h h')(hX:∀a∈X',a∈X∨⇑h≤a)(hk:κ'=κ++cs)(hc:∀a∈cs,⇑h≤a):∀a o,view (X++I.M κ) h a o→view (X'++I.M κ') h' a o:=
 x.AZ (kp.more fun a ha=>bD ha) hX hk hc
theorem Inv.EU(x:Inv P w I X κ S h)(top:aE P h')(kp:Kp (X++I.N κ) h h')(hX:∀a∈X',a∈X∨⇑h≤a)(hk:κ'=κ++cs)(hc:∀a∈cs,⇑h≤a)(A0:cs.Nodup)
 (a1:ES P w (view (X'++I.M κ') h') κ' I.F S'.fs h') (a2:κ'.length=S'.σ.length) (a3:ET P w (view (X'++I.M κ') h') κ' S'.σ h') (a4:AW P w (view (X'++I.M κ') h') κ' I.K S'.kept h') (a5:AX (view (X'++I.M κ') h') I.H S'.shown h'):Inv P w I X' κ' S' h':=by
 have L:=x.AZ kp hX hk hc
 refine x.e_ fun t3 t4 es s1=>?_
 have M:I.M κ'=I.M κ++cs:=by subst hk;simp[aV.M]
 refine⟨top,?_,?_,a1,a2,a3,a4,a5,⟨t3,t4,es,L _ _ s1⟩,fun p hp=>L _ _ (x.own p hp),fun p hp=>kp.keep _ _ (fun q=>(mA q).elim (x.xy p hp) (x.NO p hp)) (x.ys p hp),fun p hp q=>(hX _ q).elim (x.xy p hp) fun z=>Nat.lt_irrefl _ (aJ (aj (x.ys p hp)) z)⟩
 ·rw[M,List.nodup_append]
  exact⟨x.nd,A0,fun a ha b hb e=>Nat.lt_irrefl _ (aJ (x.lt a ha) (e▸hc b hb))⟩
 ·rw[M]
  intro a ha
  rcases mA ha with z|z
  ·exact x.lo a z
  ·exact aq x.fh (hc a z)
theorem Inv.next(x:Inv P w I X κ S h)(kp:Kp (I.N κ) h h')(hX:∀a∈X',a∈X∨⇑h≤a)(hk:κ'=κ++cs)(hc:∀a∈cs,⇑h≤a)(A0:cs.Nodup)
 (a1:ES P w (view (X'++I.M κ') h') κ' I.F S'.fs h') (a2:κ'.length=S'.σ.length) (a3:ET P w (view (X'++I.M κ') h') κ' S'.σ h') (a4:AW P w (view (X'++I.M κ') h') κ' I.K S'.kept h') (a5:AX (view (X'++I.M κ') h') I.H S'.shown h'):Inv P w I X' κ' S' h':=
 x.EU (x.top.kp kp fun m hm=>x.lo m (AY hm)) (kp.more fun a ha=>bD ha) hX hk hc A0 a1 a2 a3 a4 a5
theorem Inv.pL(x:Inv P w I X κ S h)(L:∀a o,view (X++I.M κ) h a o→V a o)(pk:κ<+:κ')(hk:∀o,h.get? I.K=some o→h'.get? I.K=some o):AW P w V κ' I.K S.kept h':=by
 refine x.qQ fun kvs k1 k2 k3=>?_
 refine bu.fS k1 fun o ho hd=>?_
 refine⟨kvs,bu.at (hk o ho) hd,k2,fun j kv af h1 h2=>?_⟩
 ac_rfl
 obtain⟨a,m',vs',e',b,c,d⟩:=k3 j kv af h1 h2
 exact⟨a,m',vs',e',b,L _ _ c,d.mono L pk⟩
theorem Inv.pM(x:Inv P w I X κ S h)(L:∀a o,view (X++I.M κ) h a o→V a o)(hk:∀o,h.get? I.H=some o→h'.get? I.H=some o):AX V I.H S.shown h':=by
 refine x.sQ fun qs e2 q1 q2 q3=>?_
 refine⟨qs,e2,hk _ q1,q2,fun j q l h1 h2=>?_⟩
 ac_rfl
 obtain⟨ys,e',a,b,c⟩:=q3 j q l h1 h2
 exact⟨ys,e',L _ _ a,b,c⟩
theorem Inv.AL(x:Inv P w I X κ S h)(L:∀a o,view (X++I.M κ) h a o→V a o)(pk:κ<+:κ'){c:Nat}{v:AV}{a:Addr}(h1:S.σ[c]? =some v)(h2:κ[c]? =some a)(hk:∀o,h.get? a=some o→h'.get? a=some o):∃x e,h'.get? a=some (lst [x] e)∧RV P w V κ' v x:=by
 ac_rfl
 obtain⟨y,e,y1,y2⟩:=x.cells c v a h1 h2
 exact⟨y,e,hk _ y1,y2.mono L pk⟩
theorem Inv.qP(x:Inv P w I X κ S h)(L:∀a o,view (X++I.M κ) h a o→V a o)(pk:κ<+:κ')(hk:∀a∈κ,∀o,h.get? a=some o→h'.get? a=some o):∀(c:Nat)(v:AV)(a:Addr),S.σ[c]? =some v→κ[c]? =some a→∃x e,h'.get? a=some (lst [x] e)∧RV P w V κ' v x:=
 fun c v a h1 h2=>x.AL L pk h1 h2 (hk a (List.mem_of_getElem? h2))
theorem RV.ir{v:AV}{y:Value}(r:RV P w V κ v y):(∃u t,y=.int u t)∨∃u,y=.ref u:=by
 cases r with
 |int=>exact .inl ⟨_,_,rfl⟩
 |aS=>exact .inr ⟨_,rfl⟩
 |glob=>exact .inr ⟨_,rfl⟩
 |di=>exact .inr ⟨_,rfl⟩
theorem RV.kv{v:AV}{y:Value}(r:RV P w V κ v y):∃z u t,y=Mine.kv z u t:=by
 rcases r.ir with⟨u,t,rfl⟩|⟨u,rfl⟩
 ·exact⟨true,u,t,rfl⟩
 ·exact⟨false,0,u,rfl⟩
theorem Inv.ne(x:Inv P w I X κ S h):I.F≠I.K∧I.F≠I.H∧I.K≠I.H∧(∀c∈κ,c≠I.F∧c≠I.K∧c≠I.H):=by
 have:=x.nd
 simp only[aV.M,List.nodup_cons,eZ,List.mem_append,not_or]at this
 exact⟨this.1.1,this.1.2.1,this.2.1.1,fun c hc=>⟨fun e=>this.1.2.2.2 (e▸hc),fun e=>this.2.1.2.2 (e▸hc),fun e=>this.2.2.1.2 (e▸hc)⟩⟩
theorem dc{a:Addr}{o:Obj}(v:view (X++I.M κ) h a o):a≠I.F∧a≠I.K∧a≠I.H∧a∉κ∧a∉X:=by
 have:=v.1
 simp only[aV.M,List.mem_append,eZ,not_or]at this
 exact⟨this.2.1,this.2.2.1,this.2.2.2.1,this.2.2.2.2.2,this.1⟩
end
end
section
variable [Zero Heap]
noncomputable def qO(P:Params)(w:World)(I:aV)(X κ:List Addr)(S':MS)(h h2:Heap)(T:Addr):Prop:=
 Kp (I.N κ) h h2∧⇑h≤T∧∃cs x' y',(∀a∈cs,⇑h≤a)∧h2.get? T=some (tup [x',y'])∧Inv P w I (T::X) (κ++cs) S' h2∧m_ P w (view ((T::X)++I.M (κ++cs)) h2) (κ++cs) S'.aR x' y'
theorem ng(us:List Addr)(T:Addr):refs (us++[T])=refs us++[.ref T]:=by simp[refs]
theorem gq(us:List Addr):(refs us).length=us.length:=by simp[refs]
theorem Ey{ls:List Addr}{j:Nat}{a:Addr}(h:ls[j]? =some a):(refs ls)[j]? =some (.ref a):=by simp[refs,h]
theorem Ez{κ:List Addr}{c:Nat}(h:c<κ.length):κ[c]? =some (κ.getD c 0):=by simp[List.getD_eq_getElem?_getD,h]
theorem Mv{κ:List Addr}(nd:κ.Nodup){i j:Nat}{a:Addr}(h1:κ[i]? =some a)(h2:κ[j]? =some a):i=j:=by
 obtain⟨l1,e1⟩:=fN h1
 obtain⟨l2,e2⟩:=fN h2
 exact(List.getElem_inj nd).mp (e1.trans e2.symm)
section
variable {J:WX}{A:Around}{R:RR}{h:Heap}{tk:Nat}{I:aV}{X κ:List Addr}{S:MS}{v:AV}{y:Value}{fs:List bG}{ρ:bH}{is:List Nd}{nx:Nd}
theorem newX{T:Addr}{X:List Addr}{n:Nat}(l:n≤T):∀a∈T::X,a∈X∨n≤a:=fun a ha=>by
 rcases mC ha with e|ha
 ·exact .inr (e▸l)
 ·exact .inl ha
theorem Inv.Mw{P:Params}{w:World}{I:aV}{X κ:List Addr}{S:MS}{h:Heap}(x:Inv P w I X κ S h):κ.Nodup:=by
 have:=x.nd
 simp only[aV.M,List.nodup_cons,List.nodup_append]at this
 exact this.2.2.2.2.1
theorem Mx{c:Nat}(RA:aa A 60)(x:Inv J.P J.W I X κ S h)(hX:∀a∈X,a<⇑h)(r:RV J.P J.W (view (X++I.M κ) h) κ v y)(hf:S.fs=.set c::fs)(hl:S.fs.length≤400)
 (H:∀h2 ao T,qO J.P J.W I X κ {S with aR:=.val (.int 0),fs:=fs,σ:=S.σ.set c v} h h2 T→R (rt (.ref T)) (J.S h2 ao)):
 codeAny J.M A (aK 506 [y,.ref I.F,.ref I.S]) R (J.S h tk):=by
 obtain⟨z0,u,tu,rfl⟩:=r.kv
 refine x.gW fun vs e f1 f2=>?_
 rw[hf]at f2
 ac_rfl
 obtain⟨us,T,rfl,f3,f4⟩:=f2.pop
 rw[ng]at f1
 refine f4.out _ fun _ _ _ q1 q2=>?_
 ·have jJ:=Ez q1
  generalize κ.getD c 0=a at jJ q2
  have hm:=List.mem_of_getElem? jJ
  have AK:c<S.σ.length:=x.len▸q1
  ac_rfl
  obtain⟨old,ec,o1,_⟩:=x.cells c S.σ[c] _ (a_ AK) jJ
  obtain⟨n1,n2,n3,n4⟩:=x.ne
  have v2:=dc q2
  have hz:(refs us).length≤500:=by
   have:=f3.1
   rw[hf,List.length_cons]at hl
   rw[gq];exact #[0x1110141f4d120212190d1c1002,fs.length,us.length] hl this
  ac_rfl
  refine My RA x.top f1 hz (x.lo _ (kMi 0 rfl)) v2.1 q2.2 o1 (x.lo _ (by simp[hm])) (n4 _ hm).1.symm (fun e=>v2.2.2.2.1 (e▸hm)) ?_
  (intro h' tk' p t z e3 K1 F1 C1 lp ep
   have kp:Kp (I.N κ) h h':=K1.more (by intro b ha;simp at ha;rcases ha with rfl|rfl<;>simp[hm])
   have L:=x.lift kp (newX (X:=X) lp) (List.append_nil κ).symm kAn
   refine H h' tk' p ⟨kp,lp,[],_,_,kAn,ep,?_⟩
   rw[fz]
   refine⟨x.next kp (newX lp) (List.append_nil κ).symm kAn List.nodup_nil ⟨us,e3,F1,f3.mono L (bX)⟩ (by simpa using x.len) ?_
    (x.pL L (bX) fun o ho=>K1.keep _ _ (by simp[n1.symm,(n4 _ hm).2.1.symm]) ho) (x.pM L fun o ho=>K1.keep _ _ (by simp[n2.symm,(n4 _ hm).2.2.symm]) ho),.val .int⟩
   intro c' v' a' h1 h2
   simp only at h1
   rw[List.getElem?_set]at h1
   split at h1
   ·rename_i ec
    subst ec
    have ea:a=a':=bV (jJ.symm.trans h2)
    obtain rfl:=bV h1
    rw[←ea]
    exact⟨_,_,C1,r.mono L (bX)⟩
   ·rename_i nc
    refine x.AL L (bX) h1 h2 (fun o ho=>K1.keep _ _ ?_ ho)
    exact kNc (n4 _ (List.mem_of_getElem? h2)).1 (kNc (fun e=>nc (Mv x.Mw jJ (e▸h2))) kNn))
theorem Mz{at_:Nat}(RA:aa A 60)(x:Inv J.P J.W I X κ S h)(hX:∀a∈X,a<⇑h)(r:RV J.P J.W (view (X++I.M κ) h) κ v y)(hf:S.fs=.seq is at_ ρ::fs)(hl:S.fs.length≤400)(hx:is[at_+1]? =some nx)
 (H:∀h2 ao T,qO J.P J.W I X κ {S with aR:=.ev nx ρ,fs:=if at_+2<is.length then .seq is (at_+1) ρ::fs else fs} h h2 T→R (rt (.ref T)) (J.S h2 ao)):
 codeAny J.M A (aK 506 [y,.ref I.F,.ref I.S]) R (J.S h tk):=by
 obtain⟨z0,u,tu,rfl⟩:=r.kv
 refine x.gW fun vs e f1 f2=>?_
 rw[hf]at f2
 ac_rfl
 obtain⟨us,T,rfl,f3,f4⟩:=f2.pop
 rw[ng]at f1
 refine f4.out _ fun _ _ _ _ _ ls q1 q2 q3 q4 q5=>?_
 ·ac_rfl
  obtain⟨n1,n2,n3,n4⟩:=x.ne
  have v1:=dc q1
  have v2:=dc q2
  have hz:(refs us).length≤500:=by
   have:=f3.1
   rw[hf,List.length_cons]at hl
   rw[gq];exact #[0x1110141f4d120212190d1c1002,fs.length,us.length] hl this
  have hlt:=(fN hx).1
  have dB:is.length=ls.length:=q3.1
  have hy:ls[at_+1]? =some (ls[at_+1]'(oH dB.symm hlt)):=List.getElem?_eq_getElem (oH dB.symm hlt)
  have hn:=q3.2 _ _ _ hx hy
  have hy':(refs ls)[(((at_:Nat):Int)+1).toNat]? =some (.ref (ls[at_+1]'(oH dB.symm hlt))):=by
   rw[show(((at_:Nat):Int)+1).toNat=at_+1 by lia];exact Ey hy
  have fX:(refs ls).length≤500:=by rw[gq];exact ox dB.symm (oS q4 rfl)
  have h0:(0:Int)≤(at_:Nat):=by lia
  have xR:∀a,a∈κ→a∉[I.F]:=fun a ha=>by simp[(n4 a ha).1]
  by_cases EA:at_+2<is.length
  ·rw[if_pos EA]at H
   have hl2:(((at_:Nat):Int)+1<((refs ls).length:Int)-1):=by rw[gq];lia
   ac_rfl
   refine MA RA x.top f1 hz (x.lo _ (kMi 0 rfl)) v1.1 q1.2 q2.2 v2.1 fX h0 hl2 hy' ?_
   (intro h' tk' p t z q e3 K1 F1 lq eq lp ep
    have kp:Kp (I.N κ) h h':=K1.more (by intro a ha;simp at ha;simp[ha])
    have L:=x.lift kp (newX (X:=X) lp) (List.append_nil κ).symm kAn
    have pq:q≠p:=fun e=>by rw[e,ep]at eq;simp at eq
    have Vq:view ((p::X)++I.M κ) h' q _:=⟨fun m=>by
     rcases mC m with e|m
     ·exact pq e
     ·rcases mA m with m|m
      ·exact absurd (hX q m) (Nat.not_lt_of_le lq)
      ·exact Nat.lt_irrefl _ (aJ (x.lt q m) lq),eq⟩
    refine H h' tk' p ⟨kp,lp,[],_,_,kAn,ep,?_⟩
    rw[fz]
    refine⟨x.next kp (newX lp) (List.append_nil κ).symm kAn List.nodup_nil ⟨us++[q],e3,by rw[ng];exact F1,(f3.mono L (bX)).push (.seq Vq (L _ _ q2) (q3.mono L) q4 (q5.mono L (bX)))⟩ (by simpa using x.len)
     (x.qP L (bX) fun a ha o ho=>K1.keep _ _ (xR a ha) ho)
     (x.pL L (bX) fun o ho=>K1.keep _ _ (kNc (Ne.symm n1) kNn) ho) (x.pM L fun o ho=>K1.keep _ _ (kNc (Ne.symm n2) kNn) ho),.ev (hn.mono L) (q5.mono L (bX))⟩)
  ·rw[if_neg EA]at H
   have hl2:(((at_:Nat):Int)+1=((refs ls).length:Int)-1):=by rw[gq];lia
   ac_rfl
   refine MB RA x.top f1 hz (x.lo _ (kMi 0 rfl)) v1.1 q1.2 q2.2 v2.1 fX h0 hl2 hy' ?_
   (intro h' tk' p e3 K1 F1 lp ep
    have kp:Kp (I.N κ) h h':=K1.more (by intro a ha;simp at ha;simp[ha])
    have L:=x.lift kp (newX (X:=X) lp) (List.append_nil κ).symm kAn
    refine H h' tk' p ⟨kp,lp,[],_,_,kAn,ep,?_⟩
    rw[fz]
    refine⟨x.next kp (newX lp) (List.append_nil κ).symm kAn List.nodup_nil ⟨us,e3,F1,f3.mono L (bX)⟩ (by simpa using x.len)
     (x.qP L (bX) fun a ha o ho=>K1.keep _ _ (xR a ha) ho)
     (x.pL L (bX) fun o ho=>K1.keep _ _ (kNc (Ne.symm n1) kNn) ho) (x.pM L fun o ho=>K1.keep _ _ (kNc (Ne.symm n2) kNn) ho),.ev (hn.mono L) (q5.mono L (bX))⟩)
end
end
section
variable [Zero Heap]
section
variable {J:WX}{A:Around}{R:RR}{h:Heap}{tk:Nat}{I:aV}{X κ:List Addr}{S:MS}{v:AV}{y:Value}{fs:List bG}{ρ:bH}{is:List Nd}{gs:List AV}{nx:Nd}
theorem xS{P:Params}{w:World}{I:aV}{X κ:List Addr}{S:MS}{h h':Heap}(x:Inv P w I X κ S h)(hX:∀a∈X,a<⇑h){p q:Addr}{o:Obj}(lq:⇑h≤q)(pq:q≠p)(eq:h'.get? q=some o):view ((p::X)++I.M κ) h' q o:=
 ⟨fun m=>by
  rcases mC m with e|m
  ·exact pq e
  ·rcases mA m with m|m
   ·exact absurd (hX q m) (Nat.not_lt_of_le lq)
   ·exact Nat.lt_irrefl _ (aJ (x.lt q m) lq),eq⟩
theorem EB{P:Params}{w:World}{V V':View}{κ κ':List Addr}{gs:List AV}{gv:List Value}{v:AV}{y:Value}(hl:gs.length=gv.length)(h:∀(j:Nat)(v:AV)(x:Value),gs[j]? =some v→gv[j]? =some x→RV P w V κ v x)(m:∀a o,V a o→V' a o)(k:κ<+:κ')(r:RV P w V κ v y):
 ∀(j:Nat)(v':AV)(x:Value),(gs++[v])[j]? =some v'→(gv++[y])[j]? =some x→RV P w V' κ' v' x:=by
 intro j v' x h1 h2
 by_cases hj:j<gs.length
 ·rw[dm hj]at h1
  rw[dm (oH hl.symm hj)]at h2
  exact(h j v' x h1 h2).mono m k
 ·rw[eY (by left)]at h1
  rw[eY (ox hl.symm (oV hj))]at h2
  rw[hl]at h1
  cases hk:j-gv.length with
  |zero=>
   rw[hk]at h1 h2
   simp only[List.getElem?_cons_zero,Option.some.injEq]at h1 h2
   rw[←h1,←h2];exact r.mono m k
  |succ n=>
   rw[hk]at h1
   simp at h1
theorem MC(RA:aa A 60)(x:Inv J.P J.W I X κ S h)(hX:∀a∈X,a<⇑h)(r:RV J.P J.W (view (X++I.M κ) h) κ v y)(hf:S.fs=.call is gs ρ::fs)(hl:S.fs.length≤400)(hx:is[gs.length+1]? =some nx)
 (H:∀h2 ao T,qO J.P J.W I X κ {S with aR:=.ev nx ρ,fs:=.call is (gs++[v]) ρ::fs} h h2 T→R (rt (.ref T)) (J.S h2 ao)):
 codeAny J.M A (aK 506 [y,.ref I.F,.ref I.S]) R (J.S h tk):=by
 obtain⟨z0,u,tu,rfl⟩:=r.kv
 refine x.gW fun vs e f1 f2=>?_
 rw[hf]at f2
 obtain⟨us,T,rfl,f3,f4⟩:=f2.pop
 rw[ng]at f1
 refine f4.out _ fun _ _ _ _ _ _ ls gv q1 q2 q3 q4 q5 q6 q7 q8=>?_
 ·obtain⟨n1,n2,n3,n4⟩:=x.ne
  have v1:=dc q1
  have v2:=dc q2
  have v5:=dc q5
  have hz:(refs us).length≤500:=by
   have:=f3.1
   rw[hf,List.length_cons]at hl
   rw[gq];exact #[0x1110141f4d120212190d1c1002,fs.length,us.length] hl this
  have hlt:=(fN hx).1
  have dB:is.length=ls.length:=q3.1
  have hy:ls[gs.length+1]? =some (ls[gs.length+1]'(oH dB.symm hlt)):=List.getElem?_eq_getElem (oH dB.symm hlt)
  have hn:=q3.2 _ _ _ hx hy
  have hy':(refs ls)[gv.length+1]? =some (.ref (ls[gs.length+1]'(oH dB.symm hlt))):=by rw[←q6];exact Ey hy
  have fX:(refs ls).length≤300:=by rw[gq];exact ox dB.symm (oS q4 rfl)
  have hl2:gv.length+1<(refs ls).length:=by rw[gq];exact MD q6.symm (oH dB.symm hlt)
  have xR:∀a,a∈κ→a∉[I.F]:=fun a ha=>by k_in
  refine ME RA x.top f1 hz (x.lo _ (by k_in)) v1.1 q1.2 q5.2 q2.2 v5.1 v2.1 fX hl2 hy' ?_
  (intro h' tk' p t q m e3 K1 F1 lq eq lm em lp ep
   have kp:Kp (I.N κ) h h':=K1.more (by intro a ha;simp at ha;simp[ha])
   have L:=x.lift kp (newX (X:=X) lp) (List.append_nil κ).symm (by k_in)
   have Vq:=xS x hX lq (fun e=>by rw[e,ep]at eq;simp at eq) eq
   have Vm:=xS x hX lm (fun e=>by rw[e,ep]at em;simp at em) em
   refine H h' tk' p ⟨kp,lp,[],_,_,by k_in,ep,?_⟩
   rw[fz]
   refine⟨x.next kp (newX lp) (List.append_nil κ).symm (by k_in) List.nodup_nil ⟨us++[q],e3,by rw[ng];exact F1,(f3.mono L (bX)).push (.call Vq (L _ _ q2) (q3.mono L) q4 Vm (by simp[q6]) (EB q6 q7 L (bX) r) (q8.mono L (bX)))⟩ (by simpa using x.len)
    (x.qP L (bX) fun a ha o ho=>K1.keep _ _ (xR a ha) ho)
    (x.pL L (bX) fun o ho=>K1.keep _ _ (by k_in) ho) (x.pM L fun o ho=>K1.keep _ _ (by k_in) ho),.ev (hn.mono L) (q8.mono L (bX))⟩)
theorem AM(RA:aa A 60)(x:Inv J.P J.W I X κ S h)(hX:∀a∈X,a<⇑h)(r:RV J.P J.W (view (X++I.M κ) h) κ v y)(hf:S.fs=.call is gs ρ::fs)(hl:S.fs.length≤400)(hx:gs.length+1=is.length){f0:AV}{as:List AV}(ha:gs++[v]=f0::as)(hi:f0.isInt=false)
 (H:∀(A':Around)(R':RR) h1 aB y0 us as' p ep e3,aa A' 47→Kp [I.F] h h1→h1.get? I.F=some (lst (refs us) e3)→ff J.P J.W (view (X++I.M κ) h) κ fs us→⇑h≤p→h1.get? p=some (lst as' ep)→
  RV J.P J.W (view (X++I.M κ) h) κ f0 (.ref y0)→as.length=as'.length→(∀(j:Nat)(v:AV)(x:Value),as[j]? =some v→as'[j]? =some x→RV J.P J.W (view (X++I.M κ) h) κ v x)→as'.length≤200→
  (∀h2 ao o,Kp [I.K,I.H] h1 h2→(∀h3 az,h3.get? I.F=some (lst (refs us) e3)→(∀b ob,b≠I.F→(b<⇑h∨⇑h1≤b)→h2.get? b=some ob→h3.get? b=some ob)→⇑h2≤⇑h3→R (rt (.ref o)) (J.S h3 az))→R' (rt (.ref o)) (J.S h2 ao))→
  codeAny J.M A' (aK 485 [.ref y0,.ref p,.ref I.S,.ref I.F]) R' (J.S h1 aB)):
 codeAny J.M A (aK 506 [y,.ref I.F,.ref I.S]) R (J.S h tk):=by
 obtain⟨z0,u,tu,rfl⟩:=r.kv
 refine x.gW fun vs e f1 f2=>?_
 rw[hf]at f2
 obtain⟨us,T,rfl,f3,f4⟩:=f2.pop
 rw[ng]at f1
 refine f4.out _ fun _ _ _ _ _ _ ls gv q1 q2 q3 q4 q5 q6 q7 q8=>?_
 ·obtain⟨n1,n2,n3,n4⟩:=x.ne
  have v1:=dc q1
  have v2:=dc q2
  have v5:=dc q5
  have hz:(refs us).length≤500:=by
   have:=f3.1
   rw[hf,List.length_cons]at hl
   rw[gq];exact #[0x1110141f4d120212190d1c1002,fs.length,us.length] hl this
  have dB:is.length=ls.length:=q3.1
  have fX:(refs ls).length≤300:=by rw[gq];exact ox dB.symm (oS q4 rfl)
  have hl2:gv.length+1=(refs ls).length:=by rw[gq];exact #[0x11100110710110017411c30242231221c1023,gs.length,is.length,gv.length,ls.length] hx q6 dB
  have all:=EB q6 q7 (fun _ _ z=>z) (List.prefix_refl κ) r
  cases hg:gv++[kv z0 u tu]with
  |nil=>simp at hg
  |cons z as'=>
   rw[ha,hg]at all
   have r0:=all 0 f0 z rfl rfl
   have MF:as.length=as'.length:=by
    have e1:=congrArg List.length ha
    have e2:=congrArg List.length hg
    simp at e1 e2
    exact #[0x1110011071011001741324223122123,gs.length,gv.length,as.length,as'.length] q6 e1 e2
   have MG:as'.length≤200:=by
    have e2:=congrArg List.length hg
    simp at e2
    exact #[0x11101010180c8d1404323120c9d2021c1024,gs.length,is.length,gv.length,as'.length] hx q4 q6 e2
   have lC:∀(j:Nat)(v:AV)(x:Value),as[j]? =some v→as'[j]? =some x→RV J.P J.W (view (X++I.M κ) h) κ v x:=fun j v x h1 h2=>all (j+1) v x (by simpa using h1) (by simpa using h2)
   obtain⟨y0,rfl⟩:∃y0,z=.ref y0:=by
    cases r0 with
    |int=>cases hi
    |aS=>exact⟨_,rfl⟩
    |glob=>exact⟨_,rfl⟩
    |di=>exact⟨_,rfl⟩
   refine MH RA x.top f1 hz (x.lo _ (by k_in)) v1.1 q1.2 q5.2 q2.2 v5.1 v2.1 fX (x.lo I.K (by k_in)) (x.lo I.H (by k_in)) n1.symm n2.symm v1.2.1 v5.2.1 v2.2.1 v1.2.2.1 v5.2.2.1 v2.2.2.1 (x.lt I.K (by k_in)) (x.lt I.H (by k_in)) hl2 hg ?_
   exact fun A' R' h1 aB p ep e3 cF K1 F1 lp hp HR=>H A' R' h1 aB y0 us as' p ep e3 cF K1 F1 f3 lp hp r0 MF lC MG HR
end
end
section
variable [Zero Heap]
theorem MI{α β:Type}(G:α→β)(ρ:List (Int×α))(n:Int)(c:α):(cI ρ n c).map (fun kv=>(kv.1,G kv.2))=cI (ρ.map fun kv=>(kv.1,G kv.2)) n (G c):=by
 unfold cI
 have e:((ρ.map fun kv=>((kv.1,G kv.2):Int×β)).any fun kv=>decide (kv.1=n))=ρ.any fun kv=>decide (kv.1=n):=by
  rw[List.any_map];rfl
 rw[e]
 split
 ·rw[List.map_map,List.map_map]
  refine List.map_congr_left fun kv _=>?_
  simp only[Function.comp]
  split<;>rfl
 ·simp
theorem EC{α:Type}{ρ:List (Int×α)}{n:Int}{c:α}{kv:Int×α}(h:kv∈cI ρ n c):kv∈ρ∨kv.2=c:=by
 unfold cI at h
 split at h
 ·obtain⟨x,hx,e⟩:=mM h
  split at e
  ·exact .inr (by rw[←e])
  ·exact .inl (e▸hx)
 ·rcases mA h with h|h
  ·exact .inl h
  ·exact .inr (by rw[mS h])
theorem ED:∀(ps:List Int)(ρ:bH)(n:Nat),(∀kv∈ρ,kv.2<n)→∀kv∈kg ρ ps n,kv.2<n+ps.length
 | [],_,_,h,kv,hk=>h kv hk
 |p::ps,ρ,n,h,kv,hk=>by
  have:=ED ps (cI ρ p n) (n+1) (fun kv hk=>by
   rcases EC hk with z|z
   ·have:=h kv z;exact #[0x11121c201112111,kv.snd,n] this
   ·exact oy z (oD rfl)) kv hk
  simp only[List.length_cons];exact #[0x11121c302011131c200111,kv.snd,n,ps.length] this
theorem EE:∀(xs:List (Int×Nat))(cs:List Addr)(ρ:bH)(κ:List Addr),xs.length=cs.length→(∀kv∈ρ,kv.2<κ.length)→
 bindAll (ρ.map fun kv=>(kv.1,.ref (κ.getD kv.2 0))) xs cs=(kg ρ (xs.map (·.1)) κ.length).map fun kv=>(kv.1,.ref ((κ++cs).getD kv.2 0))
 | [],[],ρ,κ,_,_=>by rw[fz];rfl
 |x::xs,c::cs,ρ,κ,hl,jJ=>by
  have ih:=EE xs cs (cI ρ x.1 κ.length) (κ++[c]) (by simpa using hl) (fun kv hk=>by
   rw[List.length_append]
   rcases EC hk with z|z
   ·have:=jJ kv z;simp;exact oF this
   ·simp;exact oy z (oD rfl))
  have e2:(ρ.map fun kv=>((kv.1,.ref ((κ++[c]).getD kv.2 0)):Int×Value))=ρ.map fun kv=>(kv.1,.ref (κ.getD kv.2 0)):=by
   refine List.map_congr_left fun kv h=>?_
   have:=jJ kv h
   simp only[List.getD_eq_getElem?_getD,dm this]
  have e1:(cI ρ x.1 κ.length).map (fun kv=>((kv.1,.ref ((κ++[c]).getD kv.2 0)):Int×Value))=cI (ρ.map fun kv=>(kv.1,.ref (κ.getD kv.2 0))) x.1 (.ref c):=by
   rw[MI (fun n:Nat=>(.ref ((κ++[c]).getD n 0):Value)),e2]
   simp[List.getD_eq_getElem?_getD]
  rw[e1]at ih
  simp only[List.length_append,List.length_singleton,List.append_assoc,List.singleton_append]at ih
  exact ih
section
variable {J:WX}{A:Around}{R:RR}{h:Heap}{tk:Nat}{I:aV}{X κ:List Addr}{S:MS}{v:AV}{y:Value}{fs:List bG}{ρ:bH}{is:List Nd}{gs:List AV}
theorem MJ(RA:aa A 60)(x:Inv J.P J.W I X κ S h)(hX:∀a∈X,a<⇑h)(r:RV J.P J.W (view (X++I.M κ) h) κ v y)(hf:S.fs=.call is gs ρ::fs)(hl:S.fs.length≤400)(hx:gs.length+1=is.length)
 {p:Int} {ps:List Int} {b:Nd} {ρ':bH} {g0:AV} {as:List AV} (ha:gs++[v]=.di (p::ps) b ρ'::g0::as) (hc:ps.length=as.length∧as.all (fun v=>!v.isInt)∧ρ'.length+ps.length<100)
 (H:∀h2 ao T,qO J.P J.W I X κ {S with aR:=.ev b (kg ρ' (p::ps) S.σ.length),fs:=fs,σ:=S.σ++g0::as} h h2 T→R (rt (.ref T)) (J.S h2 ao)):
 codeAny J.M A (aK 506 [y,.ref I.F,.ref I.S]) R (J.S h tk):=by
 ac_rfl
 obtain⟨c1,c2,c3⟩:=hc
 refine AM RA x hX r hf hl hx ha rfl (fun A' R' h1 aB y0 us as' q ep e3 cF K1 F1 f3 lq hq r0 dB lC hz HR=>?_)
 ac_rfl
 obtain⟨n1,n2,n3,n4⟩:=x.ne
 have eG:aE J.P h1:=x.top.kp K1 (by simpa using x.lo I.F (kMi 0 rfl))
 obtain⟨_,t,a,E,w1,w2,w3⟩:=r0.MK
 refine w2.out _ fun d t2 t3 t4 t5 tl pl rs tr bd ed WZ xs u1 u2 u3 u4 u5=>?_
 ac_rfl
 obtain⟨gE,lE,zE,oE,vE,dE⟩:=w3
 cases xs with
 |nil=>cases u4
 |cons x0 xs=>
 simp only[List.map_cons,List.cons.injEq]at u4
 obtain⟨rfl,rfl⟩:=u4
 cases as' with
 |nil=>simp at dB
 |cons y1 ys=>
 have jK:∀{c:Addr}{o:Obj},view (X++I.M κ) h c o→h1.get? c=some o:=fun v=>K1.keep _ _ (by simpa using(dc v).1) v.2
 have ry:=lC 0 _ _ rfl rfl
 have ML:xs.length=as.length:=by simpa using c1
 have EF:as.length=ys.length:=by simpa using dB
 have hxy:xs.length=ys.length:=ML.trans EF
 have hyl:∀j,j<ys.length+1→∃z,(y1::ys)[j]? =some z:=fun j hj=>⟨_,List.getElem?_eq_getElem (by simpa using hj)⟩
 have hr:∀j,j<ys.length→∃a,ys[j]? =some (.ref a):=fun j hj=>by
  have hj2:j<as.length:=by simp at dB;exact oH EF hj
  have z:=lC (j+1) as[j] ys[j] (by simp[hj2]) (by simp[hj])
  have ni:as[j].isInt=false:=by have:=List.all_eq_true.mp c2 _ (List.getElem_mem hj2);simpa using this
  rw[a_ hj]
  generalize as[j]=v' at z ni
  generalize ys[j]=y' at z
  cases z with
  |int=>cases ni
  |aS=>exact⟨_,rfl⟩
  |glob=>exact⟨_,rfl⟩
  |di=>exact⟨_,rfl⟩
 have hz2:(ρ'.map fun kv=>((kv.1,.ref (κ.getD kv.2 0)):Int×Value)).length+xs.length≤899:=by simp at c3⊢;exact #[0x1112383d12100064d21011,List.length ρ',xs.length] c3
 have E1:=bu.at (jK vE) dE
 ac_rfl
 obtain⟨z0,i1,ti1,rfl⟩:=ry.kv
 refine MM (cF.less rfl) eG (jK w1) (jK u1) (jK u2) (jK u3) hq E1 gE hxy hr hz2 ?_
 (intro h2 ao o D cs K2 lc gc pc hcs lD hD lo eo
  have l1:⇑h≤⇑h1:=K1.size
  refine HR h2 ao o (K2.more (by k_in)) (fun h3 az F3 kk s3=>?_)
  have kp:Kp (I.N κ) h h3:=⟨fun b ob hb e=>kk b ob (fun q=>hb (by simp[q])) (.inl (aj e)) (K2.keep _ _ (by k_in) (K1.keep _ _ (fun q=>hb (by simp at q;simp[q])) e)),aq l1 (aq K2.size s3)⟩
  have kq:∀b ob,b≠I.F→h.get? b=some ob→h3.get? b=some ob:=fun b ob nb e=>kk b ob nb (.inl (aj e)) (K2.keep _ _ (by k_in) (K1.keep _ _ (by k_in) e))
  have kh:⇑h≤o:=aq l1 lo
  have AN:∀c∈cs,⇑h≤c:=fun c hc=>aq l1 (gc c hc)
  have L:=x.lift kp (newX (X:=X) kh) rfl AN
  have lF:I.F<⇑h:=x.lt _ (by k_in)
  have kj:∀b ob,⇑h1≤b→h2.get? b=some ob→h3.get? b=some ob:=fun b ob lb e=>kk b ob (fun q=>absurd lF (Nat.not_lt_of_le (aq l1 (q▸lb)))) (.inr lb) e
  refine H h3 az o ⟨kp,kh,cs,_,_,AN,kj _ _ lo eo,?_,?_⟩
  ·refine x.next kp (newX kh) rfl AN (pc.imp (fun l=>gP l)) ⟨us,e3,F3,f3.mono L (List.prefix_append _ _)⟩ (by simp[x.len,lc];left) ?_
    (x.pL L (List.prefix_append _ _) fun o ho=>kq _ _ n1.symm ho) (x.pM L fun o ho=>kq _ _ n2.symm ho)
   intro c v' a' bS h2'
   by_cases EG:c<κ.length
   ·rw[dm (by rw[←x.len];exact EG)]at bS
    rw[dm EG]at h2'
    exact x.AL L (List.prefix_append _ _) bS h2' (fun o ho=>kq _ _ (n4 _ (List.mem_of_getElem? h2')).1 ho)
   ·rw[eY (by rw[←x.len];left),←x.len]at bS
    rw[eY (by left)]at h2'
    have lj:=(fN h2').1
    have W0:=(fN bS).1
    obtain⟨z,hz'⟩:=hyl (c-κ.length) (#[0x111010161c201413411c10322123,xs.length,ys.length,cs.length,c-κ.length] hxy lc lj)
    exact⟨z,0,kj _ _ (gc _ (List.mem_of_getElem? h2')) (hcs _ _ _ h2' hz'),(lC _ _ _ bS hz').mono L (List.prefix_append _ _)⟩
  ·refine bu.fS hD fun oD uK dD=>?_
   refine .ev (u5.mono L) ⟨aq x.fh (aq l1 lD),?_,?_,oD,⟨?_,kj _ _ lD uK⟩,?_⟩
   ·have:=AO (x0.1::xs.map (·.1)) ρ' S.σ.length
    simp at this c3⊢
    lia
   ·intro kv hk
    have:=ED (x0.1::xs.map (·.1)) ρ' S.σ.length (by rw[←x.len];exact zE) kv hk
    simp at this⊢
    rw[lc,x.len];left
   ·have dict:∀{a:Addr}{ob:Obj},h2.get? a=some ob→ob.cls≠.type "dict"→D≠a:=fun e n q=>by
     rw[q,e]at uK
     ac_rfl
     obtain⟨_,_,⟨q1,_⟩,_⟩:=dD
     exact n ((bV uK)▸q1)
    intro m
    rcases mC m with m|m
    ·exact dict eo (by simp) m
    rcases mA m with m|m
    ·exact absurd (hX D m) (Nat.not_lt_of_le (aq l1 lD))
    have m':D∈I.M κ++cs:=by simpa[aV.M]using m
    rcases mA m' with m|m
    ·exact absurd (x.lt D m) (Nat.not_lt_of_le (aq l1 lD))
    ·ac_rfl
     obtain⟨j,hj⟩:=List.getElem?_of_mem m
     have lj:=(fN hj).1
     obtain⟨z,hz'⟩:=hyl j (#[0x111010161c201413411c10322123,xs.length,ys.length,cs.length,j] hxy lc lj)
     exact dict (hcs _ _ _ hj hz') (by simp) rfl
   ·have e:=EE (x0::xs) cs ρ' κ (by simp[lc]) zE
    rw[show bindAll _ (x0::xs) cs=_ from e]at dD
    rw[←x.len]
    exact dD)
end
end
section
variable [Zero Heap]
theorem EH{α β:Type}{n:Int}:∀{k:List (Int×α)}{l:List (Int×β)},k.map (·.1)=l.map (·.1)→(k.any fun kv=>decide (kv.1=n))=l.any fun kv=>decide (kv.1=n)
 | [],[],_=>rfl
 |a::k,b::l,h=>by
  simp only[List.map_cons,List.cons.injEq]at h
  simp only[List.any_cons,h.1,EH h.2]
theorem MN{α β:Type}{k:List (Int×α)}{l:List (Int×β)}{R:α→β→Prop}{n:Int}{u:α}{v:β}(hl:k.length=l.length)(h:∀(j:Nat) x y,k[j]? =some x→l[j]? =some y→x.1=y.1∧R x.2 y.2)(huv:R u v):
 (cI k n u).length=(cI l n v).length∧∀(j:Nat) x y,(cI k n u)[j]? =some x→(cI l n v)[j]? =some y→x.1=y.1∧R x.2 y.2:=by
 have hk:k.map (·.1)=l.map (·.1):=by
  refine List.ext_getElem? fun j=>?_
  rw[List.getElem?_map,List.getElem?_map]
  by_cases hj:j<k.length
  ·have hj2:j<l.length:=oH hl.symm hj
   rw[a_ hj,a_ hj2]
   simp only[Option.map_some,Option.some.injEq]
   exact(h j _ _ (a_ hj) (a_ hj2)).1
  ·rw[List.getElem?_eq_none (by left),List.getElem?_eq_none (ox hl.symm (oV hj))]
   rfl
 unfold cI
 rw[EH hk]
 split
 ·refine⟨by simp[hl],fun j x y h1 h2=>?_⟩
  rw[List.getElem?_map,Option.map_eq_some_iff]at h1 h2
  obtain⟨x',hx,rfl⟩:=h1
  obtain⟨y',hy,rfl⟩:=h2
  have z:=h j _ _ hx hy
  by_cases e:x'.1=n
  ·rw[if_pos e,if_pos (z.1▸e)];exact⟨z.1,huv⟩
  ·rw[if_neg e,if_neg (z.1▸e)];exact z
 ·refine⟨by simp[hl],fun j x y h1 h2=>?_⟩
  by_cases hj:j<k.length
  ·rw[dm hj]at h1
   rw[dm (oH hl.symm hj)]at h2
   exact h j _ _ h1 h2
  ·rw[eY (by left)]at h1
   rw[eY (ox hl.symm (oV hj))]at h2
   rw[hl]at h1
   cases hk:j-l.length with
   |zero=>
    rw[hk]at h1 h2
    simp only[List.getElem?_cons_zero,Option.some.injEq]at h1 h2
    rw[←h1,←h2];exact⟨rfl,huv⟩
   |succ m=>
    rw[hk]at h1
    simp at h1
section
variable {J:WX}{A:Around}{R:RR}{h:Heap}{tk:Nat}{I:aV}{X κ:List Addr}{S:MS}{v:AV}{y:Value}{fs:List bG}{ρ:bH}{is:List Nd}{gs:List AV}
theorem MO(RA:aa A 60)(x:Inv J.P J.W I X κ S h)(hX:∀a∈X,a<⇑h)(r:RV J.P J.W (view (X++I.M κ) h) κ v y)(hf:S.fs=.call is gs ρ::fs)(hl:S.fs.length≤400)(hx:gs.length+1=is.length)(xD:S.kept.length≤100)
 {a b:Int} (ha:gs++[v]=[.glob 1,.int a,.int b])
 (H:∀h2 ao T,qO J.P J.W I X κ {S with aR:=.val (.int b),fs:=fs,kept:=cI S.kept a fs} h h2 T→R (rt (.ref T)) (J.S h2 ao)):
 codeAny J.M A (aK 506 [y,.ref I.F,.ref I.S]) R (J.S h tk):=by
 refine AM RA x hX r hf hl hx ha rfl (fun A' R' h1 aB y0 us as' q ep e3 cF K1 F1 f3 lq hq r0 dB lC hz HR=>?_)
 ac_rfl
 obtain⟨n1,n2,n3,n4⟩:=x.ne
 have eG:aE J.P h1:=x.top.kp K1 (by simpa using x.lo I.F (kMi 0 rfl))
 have jK:∀{c:Addr}{o:Obj},view (X++I.M κ) h c o→h1.get? c=some o:=fun v=>K1.keep _ _ (by simpa using(dc v).1) v.2
 obtain⟨z1,z2,rfl⟩:=MP dB.symm
 have e1:=lC 0 _ _ rfl rfl
 have e2:=lC 1 _ _ rfl rfl
 ac_rfl
 obtain⟨ta,rfl⟩:=e1.AP
 obtain⟨tb,rfl⟩:=e2.AP
 obtain⟨_,_,vP⟩:=r0.EI
 refine x.qQ fun kvs k1 k2 k3=>?_
 refine x.e_ fun t3 t4 es s1=>?_
 have vs:=dc s1
 have vp:=dc vP
 have MQ:(refs us).length≤1000:=by
  have:=f3.1
  rw[hf,List.length_cons]at hl
  rw[gq];exact #[0x1110143e8d120212190d1c1002,fs.length,us.length] hl this
 have lK:I.K<⇑h:=x.lt _ (by k_in)
 refine MR (cF.less rfl) eG (jK vP) (jK s1) hq F1 MQ (K1.dict k1 (by k_in)) (by left) (x.lo I.K (by k_in)) vp.2.1 vs.2.1 (fun e=>absurd lK (Nat.not_lt_of_le (e▸lq))) n1
  (fun h2 ao o m em t K2 lm hm hD lo eo=>HR h2 ao o (K2.more (by k_in)) (fun h3 az F3 kk s3=>?_))
 have l1:⇑h≤⇑h1:=K1.size
 have kp:Kp (I.N κ) h h3:=⟨fun b ob hb e=>by
  simp at hb
  exact kk b ob hb.1 (.inl (aj e)) (K2.keep _ _ (kNc hb.2.1 kNn) (K1.keep _ _ (kNc hb.1 kNn) e)),aq l1 (aq K2.size s3)⟩
 have kq:∀b ob,b≠I.F→b≠I.K→h.get? b=some ob→h3.get? b=some ob:=fun b ob nb nk e=>kk b ob nb (.inl (aj e)) (K2.keep _ _ (by k_in) (K1.keep _ _ (by k_in) e))
 have kh:⇑h≤o:=aq l1 lo
 have L:=x.lift kp (newX (X:=X) kh) (List.append_nil κ).symm (by k_in)
 have lF:I.F<⇑h:=x.lt _ (by k_in)
 have kj:∀b ob,⇑h1≤b→h2.get? b=some ob→h3.get? b=some ob:=fun b ob lb e=>kk b ob (fun q=>absurd lF (Nat.not_lt_of_le (aq l1 (q▸lb)))) (.inr lb) e
 have uL:=kj _ _ lo eo
 have Vm:=xS x hX (aq l1 lm) (fun e=>by have:=kj _ _ lm hm;rw[e,uL]at this;simp at this) (kj _ _ lm hm)
 refine H h3 az o ⟨kp,kh,[],_,_,by k_in,uL,?_⟩
 rw[fz]
 refine⟨x.next kp (newX kh) (List.append_nil κ).symm (by k_in) List.nodup_nil ⟨us,e3,F3,f3.mono L (bX)⟩ (by simpa using x.len)
  (x.qP L (bX) fun a ha o ho=>kq _ _ (n4 a ha).1 (n4 a ha).2.1 ho) ?_ (x.pM L fun o ho=>kq _ _ n2.symm n3.symm ho),.val .int⟩
 refine bu.fS hD fun oD uK dD=>?_
 have z:=MN (R:=fun u MT=>∃m vs e,u=.ref m∧view ((o::X)++I.M κ) h3 m (lst (refs vs) e)∧ff J.P J.W (view ((o::X)++I.M κ) h3) κ MT vs) (n:=a) (u:=(.ref m:Value)) (v:=fs) k2
  (fun j x y h1 h2=>by
   ac_rfl
   obtain⟨q1,m',vs',e',q2,q3,q4⟩:=k3 j x y h1 h2
   exact⟨q1,m',vs',e',q2,L _ _ q3,q4.mono L (bX)⟩) ⟨m,us,em,rfl,Vm,f3.mono L (bX)⟩
 exact⟨_,bu.at (kk _ _ n1.symm (.inl lK) uK) dD,z.1,z.2⟩
theorem EJ:∀{vs:List AV}{l:List Sh},nj vs=some l→vs.length=l.length∧∀(j:Nat)(v:AV)(s:Sh),vs[j]? =some v→l[j]? =some s→v.sh=some s
 | [],l,h=>by
  obtain rfl:=bV h
  exact⟨rfl,fun j v s h1=>by simp at h1⟩
 |a::vs,l,h=>by
  simp only[nj]at h
  split at h
  ·rename_i s l' e1 e2
   obtain rfl:=bV h
   have ih:=EJ e2
   refine⟨by simp[ih.1],fun j v s' h1 h2=>?_⟩
   cases j with
   |zero=>
    simp only[List.getElem?_cons_zero,Option.some.injEq]at h1 h2
    rw[←h1,←h2];exact e1
   |succ j=>exact ih.2 j v s' (by simpa using h1) (by simpa using h2)
  ·cases h
theorem MU(RA:aa A 60)(x:Inv J.P J.W I X κ S h)(hX:∀a∈X,a<⇑h)(r:RV J.P J.W (view (X++I.M κ) h) κ v y)(hf:S.fs=.call is gs ρ::fs)(hl:S.fs.length≤400)(hx:gs.length+1=is.length)(hzs:S.shown.length≤500)
 {as:List AV} {l:List Sh} (ha:gs++[v]=.glob 2::as) (h0:as.length≠0) (hs:nj as=some l)
 (H:∀h2 ao T,qO J.P J.W I X κ {S with aR:=.val (.int 0),fs:=fs,shown:=S.shown++[l]} h h2 T→R (rt (.ref T)) (J.S h2 ao)):
 codeAny J.M A (aK 506 [y,.ref I.F,.ref I.S]) R (J.S h tk):=by
 refine AM RA x hX r hf hl hx ha rfl (fun A' R' h1 aB y0 us as' q ep e3 cF K1 F1 f3 lq hq r0 dB lC hz HR=>?_)
 ac_rfl
 obtain⟨n1,n2,n3,n4⟩:=x.ne
 obtain⟨sl,sg⟩:=EJ hs
 have eG:aE J.P h1:=x.top.kp K1 (by simpa using x.lo I.F (kMi 0 rfl))
 have jK:∀{c:Addr}{o:Obj},view (X++I.M κ) h c o→h1.get? c=some o:=fun v=>K1.keep _ _ (by simpa using(dc v).1) v.2
 obtain⟨_,_,vP⟩:=r0.EI
 refine x.sQ fun qs e2 q1 q2 q3=>?_
 refine x.e_ fun t3 t4 es s1=>?_
 have vs:=dc s1
 have vp:=dc vP
 have lH:I.H<⇑h:=x.lt _ (by k_in)
 have AQ:∀(j:Nat)(z:Value),as'[j]? =some z→(∃i t,as[j]? =some (.int i)∧z=.int i t)∨∃u t b c ps bd ρ',as[j]? =some (.di ps bd ρ')∧z=.ref u∧view (X++I.M κ) h u (tup [.str fk t,.ref b,.ref c]):=by
  intro j z hj
  have lj:=(fN hj).1
  have hv:as[j]? =some (as[j]'(oH dB lj)):=List.getElem?_eq_getElem (oH dB lj)
  have hs':l[j]? =some (l[j]'(oH sl.symm (oH dB lj))):=List.getElem?_eq_getElem (oH sl.symm (oH dB lj))
  have rr:=lC j _ _ hv hj
  have sh:=sg j _ _ hv hs'
  generalize as[j]'(oH dB lj)=v' at hv rr sh
  cases rr with
  |int=>exact .inl ⟨_,_,hv,rfl⟩
  |aS=>cases sh
  |glob=>cases sh
  |di c1=>exact .inr ⟨_,_,_,_,_,_,_,hv,rfl,c1⟩
 have EK:∀z∈as',∃j,as'[j]? =some z:=fun z hz=>List.getElem?_of_mem hz
 refine MV (cF.less rfl) eG (jK vP) (jK s1) hq (K1.keep _ _ (by k_in) q1) (by rw[gq];left) (by left) (by lia)
  (fun z hz=>by
   obtain⟨j,hj⟩:=EK z hz
   rcases AQ j z hj with⟨i,t,_,rfl⟩|⟨u,t,b,c,_,_,_,_,rfl,hv⟩
   ·exact .inl ⟨i,t,rfl⟩
   ·exact .inr ⟨u,t,b,c,rfl,jK hv⟩) (x.lo I.H (by k_in)) vp.2.2.1 vs.2.2.1 (fun e=>absurd lH (Nat.not_lt_of_le (e▸lq)))
  (fun z hz u eu=>by
   obtain⟨j,hj⟩:=EK z hz
   rcases AQ j z hj with⟨i,t,_,rfl⟩|⟨u',t,b,c,_,_,_,_,rfl,hv⟩
   ·cases eu
   ·cases eu;exact(dc hv).2.2.1)
  (fun h2 ao o q ys ea t z e4 K2 hH AR hq2 ly hsh lo eo=>HR h2 ao o (K2.more (by k_in)) (fun h3 az F3 kk s3=>?_))
 have l1:⇑h≤⇑h1:=K1.size
 have kp:Kp (I.N κ) h h3:=⟨fun b ob hb e=>by
  simp at hb
  exact kk b ob hb.1 (.inl (aj e)) (K2.keep _ _ (kNc hb.2.2.1 kNn) (K1.keep _ _ (kNc hb.1 kNn) e)),aq l1 (aq K2.size s3)⟩
 have kq:∀b ob,b≠I.F→b≠I.H→h.get? b=some ob→h3.get? b=some ob:=fun b ob nb nk e=>kk b ob nb (.inl (aj e)) (K2.keep _ _ (by k_in) (K1.keep _ _ (by k_in) e))
 have kh:⇑h≤o:=aq l1 lo
 have L:=x.lift kp (newX (X:=X) kh) (List.append_nil κ).symm (by k_in)
 have lF:I.F<⇑h:=x.lt _ (by k_in)
 have kj:∀b ob,⇑h1≤b→h2.get? b=some ob→h3.get? b=some ob:=fun b ob lb e=>kk b ob (fun q=>absurd lF (Nat.not_lt_of_le (aq l1 (q▸lb)))) (.inr lb) e
 have uL:=kj _ _ lo eo
 have Vq:=xS x hX (aq l1 AR) (fun e=>by have:=kj _ _ AR hq2;rw[e,uL]at this;simp at this) (kj _ _ AR hq2)
 refine H h3 az o ⟨kp,kh,[],_,_,by k_in,uL,?_⟩
 rw[fz]
 refine⟨x.next kp (newX kh) (List.append_nil κ).symm (by k_in) List.nodup_nil ⟨us,e3,F3,f3.mono L (bX)⟩ (by simpa using x.len)
  (x.qP L (bX) fun a ha o ho=>kq _ _ (n4 a ha).1 (n4 a ha).2.2 ho) (x.pL L (bX) fun o ho=>kq _ _ n1.symm n3 ho) ?_,.val .int⟩
 refine⟨qs++[q],e4,by rw[ng];exact kk _ _ n2.symm (.inl lH) hH,by simp[q2],fun j q' l' bS h2'=>?_⟩
 by_cases hj:j<qs.length
 ·rw[dm hj]at bS
  simp only at h2'
  rw[dm (oH q2.symm hj)]at h2'
  ac_rfl
  obtain⟨ys',e',c1,c2,c3⟩:=q3 j q' l' bS h2'
  exact⟨ys',e',L _ _ c1,c2,c3⟩
 ·rw[eY (by left)]at bS
  simp only at h2'
  rw[eY (ox q2.symm (oV hj)),←q2]at h2'
  cases hk:j-qs.length with
  |succ n=>
   rw[hk]at bS
   simp at bS
  |zero=>
   rw[hk]at bS h2'
   simp only[List.getElem?_cons_zero,Option.some.injEq]at bS h2'
   subst bS;subst h2'
   refine⟨ys,ea,Vq,#[0x1110100171010110731422423122123,as.length,as'.length,l.length,ys.length] dB sl ly,fun i s yv hs1 hs2=>?_⟩
   have li:=(fN hs1).1
   have ha':as'[i]? =some (as'[i]'(oH dB.symm (oH sl li))):=List.getElem?_eq_getElem (oH dB.symm (oH sl li))
   have sw:=hsh i _ _ ha' hs2
   rcases AQ i _ ha' with⟨k,t',e1,e2⟩|⟨u,t',b,c,_,_,_,e1,e2,hv⟩
   ·have:=sg i _ _ e1 hs1
    obtain rfl:=bV this
    rw[e2]at sw
    cases sw
    exact .int
   ·have:=sg i _ _ e1 hs1
    obtain rfl:=bV this
    rw[e2]at sw
    cases sw
    exact .proc
end
end
section
variable [Zero Heap]
section
variable {J:WX}{A:Around}{R:RR}{h:Heap}{tk:Nat}{I:aV}{X κ:List Addr}{S S':MS}{v:AV}{y:Value}{fr:Addr}
theorem WL(RA:aa A 60)(x:Inv J.P J.W I X κ S h)(hX:∀a∈X,a<⇑h)(r:RV J.P J.W (view (X++I.M κ) h) κ v y)(hc:S.aR=.val v)(hs:nA S=some S')(ok:lI S)
 (H:∀h2 ao T,qO J.P J.W I X κ S' h h2 T→R (rt (.ref T)) (J.S h2 ao)):
 codeAny J.M A (aK 506 [y,.ref I.F,.ref I.S]) R (J.S h tk):=by
 obtain⟨o1,o2,o3⟩:=ok
 unfold nA at hs
 rw[hc]at hs
 simp only at hs
 split at hs
 ·cases hs
 ·rename_i c fs hf
  split at hs
  ·obtain rfl:=bV hs
   exact Mx RA x hX r hf o1 H
  ·cases hs
 ·rename_i is at_ ρ fs hf
  split at hs
  ·rename_i nx hx
   refine Mz RA x hX r hf o1 hx ?_
   split at hs
   ·rename_i hlt
    obtain rfl:=bV hs
    rw[if_pos hlt];exact H
   ·rename_i hlt
    obtain rfl:=bV hs
    rw[if_neg hlt];exact H
  ·cases hs
 ·rename_i is gs ρ fs hf
  split at hs
  ·rename_i nx hx
   obtain rfl:=bV hs
   exact MC RA x hX r hf o1 hx H
  ·split at hs
   ·rename_i hx
    generalize e:gs++[v]=l at hs
    rcases l with _|⟨u,l⟩
    ·cases hs
    cases u with
    |int=>cases hs
    |aS=>cases hs
    |di ps b ρ'=>
     rcases ps with _|⟨p,ps⟩
     ·cases hs
     rcases l with _|⟨g,l⟩
     ·cases hs
     change (if _ then _ else _)=_ at hs
     split at hs
     ·rename_i hcc
      obtain rfl:=bV hs
      exact MJ RA x hX r hf o1 hx e hcc H
     ·cases hs
    |glob k=>
     rcases k with(_|_|_|k)|k
     ·cases hs
     ·rcases l with _|⟨g,l⟩
      ·cases hs
      cases g with
      |int a=>
       rcases l with _|⟨g,l⟩
       ·cases hs
       cases g with
       |int b=>
        cases l with
        |nil=>
         obtain rfl:=bV hs
         exact MO RA x hX r hf o1 hx o2 e H
        |cons=>cases hs
       |_=>cases hs
      |_=>cases hs
     ·rcases l with _|⟨g,l⟩
      ·cases hs
      obtain⟨l,hl,rfl⟩:=Option.map_eq_some_iff.mp hs
      exact MU RA x hX r hf o1 hx o3 e (by simp) hl H
     ·cases hs
     ·cases hs
   ·cases hs
theorem eE.rest{P:Params}{F S:Addr}{x y:Value}(f:eE P h fr F S x y):∃t1 t2 t3 t4 rest fe,(rest=[]∨∃t5 v,rest=[ent P gw t5 v])∧h.get? fr=some (ai ([ent P fq t1 x,ent P gx t2 y,ent P jZ t3 (.ref F),ent P jq t4 (.ref S)]++rest) fe):=by
 cases f with
 |four e=>exact⟨_,_,_,_,_,_,.inl rfl,e⟩
 |rD e=>exact⟨_,_,_,_,_,_,.inr ⟨_,_,rfl⟩,e⟩
theorem eE.of{P:Params}{F S:Addr}{x y:Value}{t1 t2 t3 t4 fe:Nat}{rest:List DictEntry}(hr:rest=[]∨∃t5 v,rest=[ent P gw t5 v])(e:h.get? fr=some (ai ([ent P fq t1 x,ent P gx t2 y,ent P jZ t3 (.ref F),ent P jq t4 (.ref S)]++rest) fe)):eE P h fr F S x y:=by
 rcases hr with rfl|⟨t5,v,rfl⟩
 ·exact .four e
 ·exact .rD e
theorem Inv.WM{P:Params}{w:World}{T:Addr}{l:List Value}(x:Inv P w I X κ S h)(e:h.get? T=some (tup l))(hT:T∈X):T∉I.M κ:=by
 intro m
 refine x.gW fun vs e1 f1 _=>?_
 refine x.qQ fun kvs k1 _ _=>?_
 obtain⟨ob,ho,_,_,⟨q1,_⟩,_⟩:=bu.of k1
 refine x.sQ fun qs e2 q2 _ _=>?_
 rcases mC m with rfl|m
 ·rw[f1]at e;simp at e
 rcases mC m with rfl|m
 ·rw[ho]at e
  obtain rfl:=bV e
  simp at q1
 rcases mC m with rfl|m
 ·rw[q2]at e;simp at e
 rcases mA m with m|m
 ·obtain⟨p,hp,rfl⟩:=mM m
  exact x.xy p hp hT
 obtain⟨c,hc,hca⟩:=List.getElem_of_mem m
 have hcs:c<S.σ.length:=x.len▸hc
 obtain⟨y,e3,y1,_⟩:=x.cells c S.σ[c] T (a_ hcs) (by rw[a_ hc,hca])
 rw[y1]at e;simp at e
noncomputable def wU(P:Params)(w:World)(I:aV)(fr:Addr)(κ:List Addr)(S':MS)(h2:Heap)(T:Addr)(x' y':Value):Prop:=
 ∃cs,fr∉I.M (κ++cs)∧h2.get? T=some (tup [x',y'])∧Inv P w I [T,fr] (κ++cs) S' h2∧m_ P w (view ([T,fr]++I.M (κ++cs)) h2) (κ++cs) S'.aR x' y'
theorem wU.fin{P:Params}{w:World}{h2 h3:Heap}{T:Addr}{x' y':Value}{t1 t2 t3 t4 fe:Nat}{rest:List DictEntry}(v:wU P w I fr κ S' h2 T x' y')(lo:534≤fr)(K:Kp [fr,T] h2 h3)(hr:rest=[]∨∃t5 v,rest=[ent P gw t5 v])
 (e:h3.get? fr=some (ai ([ent P fq t1 x',ent P gx t2 y',ent P jZ t3 (.ref I.F),ent P jq t4 (.ref I.S)]++rest) fe)) (lT:534≤T):∃κ',cR P w I fr κ' S' h3:=by
 obtain⟨cs,n1,eT,x,c⟩:=v
 have nT:=x.WM eT (by k_in)
 have kv:∀a o,a∉[T,fr]++I.M (κ++cs)→h2.get? a=some o→a∉[fr]++I.M (κ++cs)∧h3.get? a=some o:=fun a o hn e=>by
  exact⟨nt hn,K.keep _ _ (kNc (nh (nt hn)) (kNc (nh hn) kNn)) e⟩
 refine⟨κ++cs,x.move (x.top.kp K (by intro m hm;simp at hm;rcases hm with rfl|rfl<;>assumption)) (fun a ha o e=>K.keep _ _ (fun q=>?_) e) kv (fun p hp q=>x.xy p hp (List.mem_cons_of_mem _ q)),lo,n1,x',y',?_,eE.of hr e⟩
 ·simp at q
  rcases q with rfl|rfl
  ·exact n1 ha
  ·exact nT ha
 ·have m:=ny kv
  generalize S'.aR=ct at c⊢
  cases c with
  |ev c1 c2=>exact .ev (c1.mono m) (c2.mono m (bX))
  |val c1=>exact .val (c1.mono m (bX))
theorem m_.kinds{P:Params}{w:World}{V:View}{κ:List Addr}{c:pP}{x y:Value}(z:m_ P w V κ c x y):∃a b q1 q2 q3,x=kx a q1∧y=Mine.kv b q2 q3:=
 z.casesOn (motive:=fun _ x y _=>∃a b q1 q2 q3,x=kx a q1∧y=Mine.kv b q2 q3) (fun{_ _ a E} _ _=>⟨true,false,a,0,E,rfl,rfl⟩) (fun{_ t _} h=>by obtain⟨z,u,k,rfl⟩:=h.kv;exact⟨false,z,t,u,k,rfl,rfl⟩)
theorem Sm(RA:aa A 80)(x:cR J.P J.W I fr κ S h)(hc:S.aR=.val v)(hne:S.fs≠[])(hs:nA S=some S')(ok:lI S)
 (H:∀h' tk' κ',cR J.P J.W I fr κ' S' h'→codeAny J.M A (bO J.P fr) R (J.S h' tk')):
 codeAny J.M A (bO J.P fr) R (J.S h tk):=by
 refine x.HL hc fun _ vy r f=>?_
 ac_rfl
 obtain⟨t1,t2,t3,t4,rest,fe,hr,e⟩:=f.rest
 refine x.inv.gW fun vs e1 f1 f2=>?_
 have nF:I.F≠fr:=fun q=>x.ni (q▸by k_in)
 refine HM (RA.less rfl) x.inv.top e f1 x.lo nF (fun q=>?_) (fun _ h1 aB K1 e'=>?_)
 ·have:=f2.1
  have:vs=[]:=by simpa[refs]using q
  rw[this]at f2
  exact absurd (List.eq_nil_of_length_eq_zero f2.1) hne
 have x1:=x.inv.p8 K1 x.lo x.ni
 have aN:fr<⇑h1:=aj e'
 have hm:∀a∈I.N κ,a<⇑h1∧534≤a∧a≠fr:=fun a ha'=>have ha:=AY ha';⟨x1.lt a ha,x1.lo a ha,fun q=>x.ni (q▸ha)⟩
 have mv:∀a o,view ([fr]++I.M κ) h a o→view ([fr]++I.M κ) h1 a o:=ny fun a o hn e=>⟨hn,K1.keep _ _ (fun q=>hn (cC q)) e⟩
 have r1:=r.mono mv (bX)
 have G:∀A' R' bS ur,aa A' 60→Kp [fr] h1 bS→⇑bS=⇑h1→(∀h2 ao T x' y',Kp (I.N κ) bS h2→⇑h1≤T→h2.get? T=some (tup [x',y'])→wU J.P J.W I fr κ S' h2 T x' y'→R' (rt (.ref T)) (J.S h2 ao))→codeAny J.M A' (aK 506 [vy,.ref I.F,.ref I.S]) R' (J.S bS ur):=by
  intro A' R' bS ur cF K2 sz HR
  have x2:=x1.p8 K2 x.lo x.ni
  have WN:∀a o,view ([fr]++I.M κ) h1 a o→view ([fr]++I.M κ) bS a o:=ny fun a o hn e=>⟨hn,K2.keep _ _ (fun q=>hn (cC q)) e⟩
  refine WL cF x2 (by intro a ha;rw[mS ha,sz];exact aN) (r1.mono WN (bX)) hc hs ok (fun h2 ao T q=>?_)
  ac_rfl
  obtain⟨q1,q2,cs,x',y',q3,q4,q5,q6⟩:=q
  refine HR h2 ao T x' y' q1 (sz▸q2) q4 ⟨cs,fun m=>?_,q4,q5,q6⟩
  have m':fr∈I.M κ++cs:=by simpa[aV.M]using m
  rcases mA m' with m|m
  ·exact x.ni m
  ·exact absurd aN (Nat.not_lt_of_le (sz▸q3 fr m))
 have lT:∀{T:Addr},⇑h1≤T→534≤T:=fun l=>aq x1.fh l
 have K:∀h2 T h3 az a b,(⇑h1≤T∧wU J.P J.W I fr κ S' h2 T a b)→Kp [fr,T] h2 h3→h3.get? fr=some (ai ([ent J.P fq t1 a,ent J.P gx t2 b,ent J.P jZ t3 (.ref I.F),ent J.P jq t4 (.ref I.S)]++rest) fe)→codeAny J.M A (bO J.P fr) R (J.S h3 az):=by
  intro h2 T h3 az a b p1 p2 p3
  obtain⟨κ',z⟩:=p1.2.fin x.lo p2 hr p3 (lT p1.1)
  exact H h3 az κ' z
 ac_rfl
 obtain⟨z,u,tu,rfl⟩:=r.kv
 refine VM (m:=I.N κ) (P:=fun h2 T a b=>⇑h1≤T∧wU J.P J.W I fr κ S' h2 T a b) RA x1.top e' x.lo hm (fun A' R' bS ur cF K2 sz HR=>G A' R' bS ur cF K2 sz (fun h2 ao T x' y' q1 q2 q3 q4=>?_)) (fun bS h2 T h3 az a b _ _ p1 p2 p3=>K h2 T h3 az a b p1 p2 p3)
 ac_rfl
 obtain⟨cs,_,_,_,q6⟩:=id q4
 obtain⟨x,y,k1,k2,k3,rfl,rfl⟩:=q6.kinds
 exact HR h2 ao T x y k1 k2 k3 q1 q2 q3 ⟨q2,q4⟩
end
end
section
variable [Zero Heap]
theorem Cn{κ:List Addr}{n:Int}{c:Nat}:∀{ρ:bH},look ρ n=some c→valueAt (ρ.map fun kv=>((kv.1,.ref (κ.getD kv.2 0)):Int×Value)) n=some (.ref (κ.getD c 0))
 | [],h=>by simp[look]at h
 |kv::ρ,h=>by
  unfold look at h
  unfold valueAt
  rw[List.map_cons,List.find?_cons]
  rw[List.find?_cons]at h
  split at h
  ·rename_i e
   simp only[Option.map_some,Option.some.injEq]at h
   simp only[e,Option.map_some,h]
  ·rename_i e
   simp only[e]
   exact Cn h
section
variable {J:WX}{A:Around}{R:RR}{h:Heap}{tk:Nat}{I:aV}{κ:List Addr}{S S':MS}{fr:Addr}{ρ:bH}
theorem cR.yL{P:Params}(x:cR P w I fr κ S h):fr<⇑h:=by
 obtain⟨_,_,_,f⟩:=x.aR
 cases f with
 |four e=>exact aj e
 |rD e=>exact aj e
theorem RX{n:Int}{c:Nat}{v:AV}(RA:aa A 80)(x:cR J.P J.W I fr κ S h)(hc:S.aR=.ev (.loc n) ρ)(hl:look ρ n=some c)(hv:S.σ[c]? =some v)
 (H:∀h' tk',cR J.P J.W I fr κ {S with aR:=.val v} h'→codeAny J.M A (bO J.P fr) R (J.S h' tk')):
 codeAny J.M A (bO J.P fr) R (J.S h tk):=by
 refine x.p7 hc fun a E hn hE f=>hn.out _ fun _ _ _ _ h1 h2=>?_
 ac_rfl
 obtain⟨gE,lE,zE,oE,vE,dE⟩:=hE
 have lc:c<κ.length:=by rw[x.inv.len];exact(fN hv).1
 have jJ:=Ez lc
 have kF:=Cn (κ:=κ) hl
 generalize κ.getD c 0=ca at jJ kF
 ac_rfl
 obtain⟨y,ec,o1,r⟩:=x.inv.cells c v ca hv jJ
 have n1:∀{a:Addr}{o:Obj},view ([fr]++I.M κ) h a o→a≠fr:=fun v q=>v.1 (cC (List.mem_singleton.mpr q))
 have nc:ca≠fr:=fun q=>x.ni (q▸by simp[List.mem_of_getElem? jJ])
 have fin:∀k1 k2 k3 az q1,Kp [fr] h k1→Kp [] k1 k2→Kp [fr] k2 k3→eE J.P k3 fr I.F I.S (.str aX q1) y→codeAny J.M A (bO J.P fr) R (J.S k3 az):=fun k1 k2 k3 az q1 K1 K2 K3 hf=>by
  have K:=(K1.trans (K2.more (by k_in))).trans K3
  refine H k3 az ⟨(x.inv.p8 K x.lo x.ni).aR rfl rfl rfl rfl,x.lo,x.ni,_,_,.val (r.mono ?_ (bX)),hf⟩
  exact ny fun a o hn e=>⟨hn,K.keep _ _ (fun q=>hn (cC q)) e⟩
 have TT:=fun{k1}(K1:Kp [fr] h k1)=>x.inv.top.kp K1 (by simpa using x.lo)
 rcases r.ir with⟨u,t,rfl⟩|⟨u,rfl⟩
 ·have G:∀A' R' k1 aB,aa A' 60→Kp [fr] h k1→⇑k1=⇑h→(∀h2 ao r' u' t',Kp [] k1 h2→Mine.kv r' u' t'=.int u t→R' (rt (Mine.kv r' u' t')) (J.S h2 ao))→codeAny J.M A' (aK 492 [.ref _,.ref _,.ref I.F]) R' (J.S k1 aB):=fun A' R' k1 aB cF K1 sz HR=>
   RY (cF.less rfl) (TT K1) (K1.keep _ _ (by simpa using n1 h1) h1.2) (K1.keep _ _ (by simpa using n1 h2) h2.2) (bu.at (K1.keep _ _ (by simpa using n1 vE) vE.2) dE) kF (K1.keep _ _ (by k_in) o1) (fun h2 ao k2=>HR h2 ao true u t k2 rfl)
  exact tR true false (P:=fun _ y=>y=.int u t) RA x.inv.top f x.lo h1.2 (n1 h1) G (fun k1 k2 k3 az y q1 K1 K2 hu K3 hf=>fin k1 k2 k3 az q1 K1 K2 K3 (hu▸hf))
 ·have G:∀A' R' k1 aB,aa A' 60→Kp [fr] h k1→⇑k1=⇑h→(∀h2 ao r' u' t',Kp [] k1 h2→Mine.kv r' u' t'=.ref u→R' (rt (Mine.kv r' u' t')) (J.S h2 ao))→codeAny J.M A' (aK 492 [.ref _,.ref _,.ref I.F]) R' (J.S k1 aB):=fun A' R' k1 aB cF K1 sz HR=>
   RZ (cF.less rfl) (TT K1) (K1.keep _ _ (by simpa using n1 h1) h1.2) (K1.keep _ _ (by simpa using n1 h2) h2.2) (bu.at (K1.keep _ _ (by simpa using n1 vE) vE.2) dE) kF (K1.keep _ _ (by k_in) o1) (fun h2 ao k2=>HR h2 ao false 0 u k2 rfl)
  exact tR true false (P:=fun _ y=>y=.ref u) RA x.inv.top f x.lo h1.2 (n1 h1) G (fun k1 k2 k3 az y q1 K1 K2 hu K3 hf=>fin k1 k2 k3 az q1 K1 K2 K3 (hu▸hf))
theorem cR.push{P:Params}{wd:World}{nd:Nd}{f:bG}{vs:List Addr}{p a E:Addr}{e3:Nat}{h1 h2 h3 h4 h5:Heap}{T:Addr}(x:cR P wd I fr κ S h)(hn:aM P (view ([fr]++I.M κ) h) nd a)(hE:g7 wd (view ([fr]++I.M κ) h) κ ρ E)(hf:ff P wd (view ([fr]++I.M κ) h) κ S.fs vs)
 (K1:Kp [fr] h h1) (K2:Kp [I.F] h1 h2) (hF:h2.get? I.F=some (lst (refs vs++[.ref p]) e3)) (K3:Kp [fr] h2 h3) (K4:Kp [] h3 h4) (lT:⇑h3≤T) (K5:Kp [fr,T] h4 h5)
 (hfr:jr P wd (fun b o=>view ([fr]++I.M κ) h b o∨(⇑h≤b∧h2.get? b=some o)) κ f p) (e:eE P h5 fr I.F I.S (.ref a) (.ref E)):cR P wd I fr κ {S with aR:=.ev nd ρ,fs:=f::S.fs} h5:=by
 have s1:⇑h≤⇑h1:=K1.size
 have s2:⇑h1≤⇑h2:=K2.size
 have s3:⇑h2≤⇑h3:=K3.size
 have aN:=x.yL
 have gT:534≤T:=aq x.inv.fh (aq s1 (aq s2 (aq s3 lT)))
 obtain⟨n1,n2,n3,n4⟩:=x.inv.ne
 have nF:I.F≠fr:=fun q=>x.ni (q▸by k_in)
 have Co:∀b o,b≠fr→h2.get? b=some o→h5.get? b=some o:=fun b o nb e=>by
  have e3:=K3.keep _ _ (by k_in) e
  have ne:b≠T:=fun q=>absurd (aj e3) (Nat.not_lt_of_le (q▸lT))
  exact K5.keep _ _ (by k_in) (K4.keep _ _ (by k_in) e3)
 have yM:∀b o,b≠fr→b≠I.F→h.get? b=some o→h5.get? b=some o:=fun b o nb nF e=>Co b o nb (K2.keep _ _ (by k_in) (K1.keep _ _ (by k_in) e))
 have kp:Kp ([fr]++I.N κ) h h5:=⟨fun b o hb e=>yM b o (fun q=>hb (by simp[q])) (fun q=>hb (by simp[q])) e,aq s1 (aq s2 (aq s3 (aq K4.size K5.size)))⟩
 have L:=x.inv.AZ kp (X':=[fr]) (fun a ha=>.inl ha) (List.append_nil κ).symm (by k_in)
 have V5:∀b o,(view ([fr]++I.M κ) h b o∨(⇑h≤b∧h2.get? b=some o))→view ([fr]++I.M κ) h5 b o:=by
  rintro b o (v|⟨lb,e⟩)
  ·exact L _ _ v
  ·have nb:b∉[fr]++I.M κ:=fun m=>by
    rcases mA m with m|m
    ·exact absurd aN (Nat.not_lt_of_le (mS m▸lb))
    ·exact absurd (x.inv.lt b m) (Nat.not_lt_of_le lb)
   exact⟨nb,Co b o (fun q=>nb (by k_in)) e⟩
 have top:aE P h5:=(((((x.inv.top.kp K1 (by simpa using x.lo)).kp K2 (by simpa using x.inv.lo I.F (by simp))).kp K3 (by simpa using x.lo)).kp K4 kAn).kp K5 (by intro m hm;simp at hm;rcases hm with rfl|rfl;exact x.lo;exact gT))
 have kc:∀a∈κ,∀o,h.get? a=some o→h5.get? a=some o:=fun a ha o e=>yM a o (fun q=>x.ni (q▸by simp[ha])) (n4 a ha).1 e
 refine⟨x.inv.EU top kp (fun a ha=>.inl ha) (List.append_nil κ).symm (by k_in) List.nodup_nil ⟨vs++[p],e3,by rw[ng];exact Co _ _ nF hF,(hf.mono L (bX)).push (hfr.mono V5 (bX))⟩ x.inv.len
  (x.inv.qP L (bX) kc) (x.inv.pL L (bX) fun o ho=>yM _ o (fun q=>x.ni (q▸by k_in)) n1.symm ho) (x.inv.pM L fun o ho=>yM _ o (fun q=>x.ni (q▸by k_in)) n2.symm ho),x.lo,x.ni,_,_,.ev (hn.mono L) (hE.mono L (bX)),e⟩
theorem R0{n:Int}{c:Nat}{nv:Nd}(RA:aa A 80)(x:cR J.P J.W I fr κ S h)(hc:S.aR=.ev (.aP n nv) ρ)(hl:look ρ n=some c)(hcs:c<S.σ.length)(ok:lI S)
 (H:∀h' tk',cR J.P J.W I fr κ {S with aR:=.ev nv ρ,fs:=.set c::S.fs} h'→codeAny J.M A (bO J.P fr) R (J.S h' tk')):
 codeAny J.M A (bO J.P fr) R (J.S h tk):=by
 refine x.p7 hc fun a E hn hE f=>hn.out _ fun d t1 tn t2 xa ed h1 h2 h3=>?_
 ac_rfl
 obtain⟨gE,lE,zE,oE,vE,dE⟩:=id hE
 refine x.inv.gW fun vs e f1 f2=>?_
 have n1:∀{a:Addr}{o:Obj},view ([fr]++I.M κ) h a o→a≠fr:=fun v q=>v.1 (cC (List.mem_singleton.mpr q))
 have nF:I.F≠fr:=fun q=>x.ni (q▸by k_in)
 have hz:(refs vs).length≤1000:=by have:=f2.1;have:=ok.1;rw[gq];lia
 have lc:c<κ.length:=by rw[x.inv.len];exact hcs
 have kF:=Cn (κ:=κ) hl
 let PS:Heap→Prop:=fun h2=>∃p t e3,⇑h≤p∧h2.get? I.F=some (lst (refs vs++[.ref p]) e3)∧h2.get? p=some (tup [.str lU t,.ref (κ.getD c 0),.ref xa,.ref E])
 have G:∀A' R' k1 aB,aa A' 60→Kp [fr] h k1→⇑k1=⇑h→(∀h2 ao,Kp [I.F] k1 h2→PS h2→R' (rt .none) (J.S h2 ao))→codeAny J.M A' (aK 492 [.ref a,.ref E,.ref I.F]) R' (J.S k1 aB):=fun A' R' k1 aB cF K1 sz HR=>
  R1 (cF.less rfl) (x.inv.top.kp K1 (by simpa using x.lo)) (K1.keep _ _ (by simpa using n1 h1) h1.2) (K1.keep _ _ (by simpa using n1 h2) h2.2) (bu.at (K1.keep _ _ (by simpa using n1 vE) vE.2) dE) kF (K1.keep _ _ (by k_in) f1) (dc h1).1 (dc h2).1 (dc vE).1 (x.inv.lo _ (by k_in)) hz
   (fun h2 ao p t e3 k2 F2 lp ep=>HR h2 ao k2 ⟨p,t,e3,sz▸lp,F2,ep⟩)
 have G2:∀A' R' h2 h3 az,aa A' 60→PS h2→Kp [fr] h2 h3→⇑h3=⇑h2→aE J.P h3→(∀h4 av T x' E2,Kp [] h3 h4→⇑h3≤T→h4.get? T=some (tup [.ref x',.ref E2])→(x'=xa∧E2=E)→R' (rt (.ref T)) (J.S h4 av))→codeAny J.M A' (aK 499 [.ref I.F]) R' (J.S h3 az):=fun A' R' h2 h3 az cF hP K3 sz T3 HR=>by
  ac_rfl
  obtain⟨p,t,e3,lp,F2,ep⟩:=hP
  have np:∀p,⇑h≤p→p∉[fr]:=fun p lp q=>absurd x.yL (Nat.not_lt_of_le (mS q▸lp))
  exact R3 (cF.less rfl) T3 (K3.keep _ _ (by k_in) F2) (K3.keep _ _ (np p lp) ep) (fun h4 av T k4 lT eT=>HR h4 av T _ _ k4 lT eT ⟨rfl,rfl⟩)
 have K:∀k1 k2 k3 k4 k5 aY T x' E2,Kp [fr] h k1→Kp [I.F] k1 k2→PS k2→Kp [fr] k2 k3→Kp [] k3 k4→⇑k3≤T→(x'=xa∧E2=E)→Kp [fr,T] k4 k5→eE J.P k5 fr I.F I.S (.ref x') (.ref E2)→codeAny J.M A (bO J.P fr) R (J.S k5 aY):=by
  intro k1 k2 k3 k4 k5 aY T x' E2 K1 K2 hP K3 K4 lT hq K5 e5
  rw[hq.1,hq.2]at e5
  ac_rfl
  obtain⟨p,t,e3,lp,F2,ep⟩:=hP
  exact H k5 aY (x.push h3 hE f2 K1 K2 F2 K3 K4 lT K5 (.set lc (.inr ⟨lp,ep⟩)) e5)
 exact Cp true true (P:=PS) (Q:=fun _ x' E2=>x'=xa∧E2=E) RA x.inv.top f x.lo h1.2 (n1 h1) (x.inv.lo _ (by k_in)) (x.inv.lt _ (by k_in)) nF (dc h1).1 G G2 K
theorem R4{n0:Nd}{is:List Nd}(RA:aa A 80)(x:cR J.P J.W I fr κ S h)(hc:S.aR=.ev (.seq (n0::is)) ρ)(ok:lI S)
 (H:∀h' tk',cR J.P J.W I fr κ {S with aR:=.ev n0 ρ,fs:=.seq (n0::is) 0 ρ::S.fs} h'→codeAny J.M A (bO J.P fr) R (J.S h' tk')):
 codeAny J.M A (bO J.P fr) R (J.S h tk):=by
 refine x.p7 hc fun a E hn hE f=>hn.out _ fun d t1 L ed el ls h1 h2 h3 h4 h5 h6=>?_
 ac_rfl
 obtain⟨gE,lE,zE,oE,vE,dE⟩:=id hE
 refine x.inv.gW fun vs e f1 f2=>?_
 have n1:∀{a:Addr}{o:Obj},view ([fr]++I.M κ) h a o→a≠fr:=fun v q=>v.1 (cC (List.mem_singleton.mpr q))
 have nF:I.F≠fr:=fun q=>x.ni (q▸by k_in)
 have hz:(refs vs).length≤1000:=by have:=f2.1;have:=ok.1;rw[gq];lia
 cases ls with
 |nil=>simp at h4
 |cons l0 ls=>
 have tS:(refs (l0::ls)).length≤1000:=by rw[gq,←h4];left
 let PS:Heap→Prop:=fun h2=>∃p t z m em e3,⇑h≤p∧h2.get? I.F=some (lst (refs vs++[.ref p]) e3)∧h2.get? p=some (tup [.str nV t,.ref m,.int 0 z,.ref E])∧⇑h≤m∧h2.get? m=some (lst (refs (l0::ls)) em)
 have G:∀A' R' k1 aB,aa A' 60→Kp [fr] h k1→⇑k1=⇑h→(∀h2 ao,Kp [I.F] k1 h2→PS h2→R' (rt .none) (J.S h2 ao))→codeAny J.M A' (aK 492 [.ref a,.ref E,.ref I.F]) R' (J.S k1 aB):=fun A' R' k1 aB cF K1 sz HR=>
  R5 (cF.less rfl) (x.inv.top.kp K1 (by simpa using x.lo)) (K1.keep _ _ (by simpa using n1 h1) h1.2) (K1.keep _ _ (by simpa using n1 h2) h2.2) (K1.keep _ _ (by simpa using n1 h3) h3.2) tS (K1.keep _ _ (by k_in) f1) (dc h1).1 (dc h2).1 (dc h3).1 (x.inv.lo _ (by k_in)) hz
   (fun h2 ao p t z m em e3 k2 F2 lp ep lm kG=>HR h2 ao k2 ⟨p,t,z,m,em,e3,sz▸lp,F2,ep,sz▸lm,kG⟩)
 have G2:∀A' R' h2 h3 az,aa A' 60→PS h2→Kp [fr] h2 h3→⇑h3=⇑h2→aE J.P h3→(∀h4 av T x' E2,Kp [] h3 h4→⇑h3≤T→h4.get? T=some (tup [.ref x',.ref E2])→(x'=l0∧E2=E)→R' (rt (.ref T)) (J.S h4 av))→codeAny J.M A' (aK 499 [.ref I.F]) R' (J.S h3 az):=fun A' R' h2 h3 az cF hP K3 sz T3 HR=>by
  ac_rfl
  obtain⟨p,t,z,m,em,e3,lp,F2,ep,lm,kG⟩:=hP
  have np:∀p,⇑h≤p→p∉[fr]:=fun p lp q=>absurd x.yL (Nat.not_lt_of_le (mS q▸lp))
  exact R6 (cF.less rfl) T3 (K3.keep _ _ (by k_in) F2) (K3.keep _ _ (np p lp) ep) (K3.keep _ _ (np m lm) kG) (fun h4 av T k4 lT eT=>HR h4 av T _ _ k4 lT eT ⟨rfl,rfl⟩)
 have K:∀k1 k2 k3 k4 k5 aY T x' E2,Kp [fr] h k1→Kp [I.F] k1 k2→PS k2→Kp [fr] k2 k3→Kp [] k3 k4→⇑k3≤T→(x'=l0∧E2=E)→Kp [fr,T] k4 k5→eE J.P k5 fr I.F I.S (.ref x') (.ref E2)→codeAny J.M A (bO J.P fr) R (J.S k5 aY):=by
  intro k1 k2 k3 k4 k5 aY T x' E2 K1 K2 hP K3 K4 lT hq K5 e5
  rw[hq.1,hq.2]at e5
  ac_rfl
  obtain⟨p,t,z,m,em,e3,lp,F2,ep,lm,kG⟩:=hP
  exact H k5 aY (x.push (h6 0 _ _ rfl rfl) hE f2 K1 K2 F2 K3 K4 lT K5 (.seq (.inr ⟨lp,ep⟩) (.inr ⟨lm,kG⟩) ⟨h4,fun j n l q1 q2=>(h6 j n l q1 q2).mono fun _ _ v=>.inl v⟩ h5 (hE.mono (fun _ _ v=>.inl v) (bX))) e5)
 exact Cp false true (P:=PS) (Q:=fun _ x' E2=>x'=l0∧E2=E) RA x.inv.top f x.lo h1.2 (n1 h1) (x.inv.lo _ (by k_in)) (x.inv.lt _ (by k_in)) nF (dc h1).1 G G2 K
theorem step_call{n0:Nd}{as:List Nd}(RA:aa A 80)(x:cR J.P J.W I fr κ S h)(hc:S.aR=.ev (.call n0 as) ρ)(ok:lI S)
 (H:∀h' tk',cR J.P J.W I fr κ {S with aR:=.ev n0 ρ,fs:=.call (n0::as) [] ρ::S.fs} h'→codeAny J.M A (bO J.P fr) R (J.S h' tk')):
 codeAny J.M A (bO J.P fr) R (J.S h tk):=by
 refine x.p7 hc fun a E hn hE f=>hn.out _ fun d t1 xo t2 L ed el ls h1 h2 h3 h4 h5 h6 h7=>?_
 ac_rfl
 obtain⟨gE,lE,zE,oE,vE,dE⟩:=id hE
 refine x.inv.gW fun vs e f1 f2=>?_
 have n1:∀{a:Addr}{o:Obj},view ([fr]++I.M κ) h a o→a≠fr:=fun v q=>v.1 (cC (List.mem_singleton.mpr q))
 have nF:I.F≠fr:=fun q=>x.ni (q▸by k_in)
 have hz:(refs vs).length≤1000:=by have:=f2.1;have:=ok.1;rw[gq];lia
 have tS:(refs ls).length≤300:=by rw[gq,←h5];left
 let PS:Heap→Prop:=fun h2=>∃p t m gg em eg e3,⇑h≤p∧h2.get? I.F=some (lst (refs vs++[.ref p]) e3)∧h2.get? p=some (tup [.str s_call t,.ref m,.ref gg,.ref E])∧⇑h≤m∧h2.get? m=some (lst (.ref xo::refs ls) em)∧⇑h≤gg∧h2.get? gg=some (lst [] eg)
 have G:∀A' R' k1 aB,aa A' 60→Kp [fr] h k1→⇑k1=⇑h→(∀h2 ao,Kp [I.F] k1 h2→PS h2→R' (rt .none) (J.S h2 ao))→codeAny J.M A' (aK 492 [.ref a,.ref E,.ref I.F]) R' (J.S k1 aB):=fun A' R' k1 aB cF K1 sz HR=>
  R7 (cF.less rfl) (x.inv.top.kp K1 (by simpa using x.lo)) (K1.keep _ _ (by simpa using n1 h1) h1.2) (K1.keep _ _ (by simpa using n1 h2) h2.2) (K1.keep _ _ (by simpa using n1 h4) h4.2) tS (K1.keep _ _ (by k_in) f1) (dc h1).1 (dc h2).1 (dc h4).1 (x.inv.lo _ (by k_in)) hz
   (fun h2 ao p t m gg em eg e3 k2 F2 lp ep lm kG lg vN=>HR h2 ao k2 ⟨p,t,m,gg,em,eg,e3,sz▸lp,F2,ep,sz▸lm,kG,sz▸lg,vN⟩)
 have G2:∀A' R' h2 h3 az,aa A' 60→PS h2→Kp [fr] h2 h3→⇑h3=⇑h2→aE J.P h3→(∀h4 av T x' E2,Kp [] h3 h4→⇑h3≤T→h4.get? T=some (tup [.ref x',.ref E2])→(x'=xo∧E2=E)→R' (rt (.ref T)) (J.S h4 av))→codeAny J.M A' (aK 499 [.ref I.F]) R' (J.S h3 az):=fun A' R' h2 h3 az cF hP K3 sz T3 HR=>by
  ac_rfl
  obtain⟨p,t,m,gg,em,eg,e3,lp,F2,ep,lm,kG,lg,vN⟩:=hP
  have np:∀p,⇑h≤p→p∉[fr]:=fun p lp q=>absurd x.yL (Nat.not_lt_of_le (mS q▸lp))
  exact R8 (cF.less rfl) T3 (K3.keep _ _ (by k_in) F2) (K3.keep _ _ (np p lp) ep) (K3.keep _ _ (np gg lg) vN) (K3.keep _ _ (np m lm) kG) (fun h4 av T k4 lT eT=>HR h4 av T _ _ k4 lT eT ⟨rfl,rfl⟩)
 have K:∀k1 k2 k3 k4 k5 aY T x' E2,Kp [fr] h k1→Kp [I.F] k1 k2→PS k2→Kp [fr] k2 k3→Kp [] k3 k4→⇑k3≤T→(x'=xo∧E2=E)→Kp [fr,T] k4 k5→eE J.P k5 fr I.F I.S (.ref x') (.ref E2)→codeAny J.M A (bO J.P fr) R (J.S k5 aY):=by
  intro k1 k2 k3 k4 k5 aY T x' E2 K1 K2 hP K3 K4 lT hq K5 e5
  rw[hq.1,hq.2]at e5
  ac_rfl
  obtain⟨p,t,m,gg,em,eg,e3,lp,F2,ep,lm,kG,lg,vN⟩:=hP
  exact H k5 aY (x.push h3 hE f2 K1 K2 F2 K3 K4 lT K5 (.call (ls:=xo::ls) (gv:=[]) (.inr ⟨lp,ep⟩) (.inr ⟨lm,kG⟩) ⟨by simp[h5],fun j n l q1 q2=>by cases j with
   |zero=>cases q1;cases q2;exact h3.mono fun _ _ v=>.inl v
   |succ j=>exact(h7 j n l (by simpa using q1) (by simpa using q2)).mono fun _ _ v=>.inl v⟩ (by simp;left) (.inr ⟨lg,vN⟩) rfl (fun j v x q=>by simp at q) (hE.mono (fun _ _ v=>.inl v) (bX))) e5)
 exact Cp true false (P:=PS) (Q:=fun _ x' E2=>x'=xo∧E2=E) RA x.inv.top f x.lo h1.2 (n1 h1) (x.inv.lo _ (by k_in)) (x.inv.lt _ (by k_in)) nF (dc h1).1 G G2 K
end
end
section
variable [Zero Heap]
section
variable {J:WX}{A:Around}{R:RR}{I:aV}{fr:Addr}{S T:MS}
theorem HK(RA:aa A 80)(r:jL S T):∀(h:Heap)(tk:Nat)(κ:List Addr),cR J.P J.W I fr κ S h→
 (∀h' tk' κ' i t,T.aR=.val (.int i)→Inv J.P J.W I [fr] κ' T h'→R (rt (.int i t)) (J.S h' tk'))→
 codeAny J.M A (bO J.P fr) R (J.S h tk):=by
 induction r with
 |@fin S i hc hf=>
  intro h tk κ x H
  refine x.HL hc fun _ vy r f=>?_
  obtain⟨_,rfl⟩:=r.AP
  obtain⟨t1,t2,t3,t4,rest,fe,hr,e⟩:=f.rest
  refine x.inv.gW fun vs e1 f1 f2=>?_
  have nF:I.F≠fr:=fun q=>x.ni (q▸by k_in)
  rw[hf]at f2
  have hv:vs=[]:=List.eq_nil_of_length_eq_zero f2.1.symm
  subst hv
  exact HM (RA.less rfl) x.inv.top e f1 x.lo nF (fun _ h' tk' K=>H h' tk' κ _ _ hc (x.inv.p8 K x.lo x.ni)) (fun q=>absurd rfl q)
 |@step S S' T ok hs r ih=>
  intro h tk κ x H
  have ih':=fun h' tk' κ' z=>ih h' tk' κ' z H
  cases hc:S.aR with
  |val v=>
   by_cases hf:S.fs=[]
   ·unfold nA at hs
    rw[hc,hf]at hs
    cases hs
   ·exact Sm RA x hc hf hs ok ih'
  |ev n ρ=>
   unfold nA at hs
   rw[hc]at hs
   simp only at hs
   cases n with
   |int i=>cases hs;exact Sn RA x hc (fun h' tk'=>ih' h' tk' κ)
   |aS=>cases hs;exact So RA x hc (fun h' tk'=>ih' h' tk' κ)
   |glob i=>cases hs;exact Sp RA x hc (fun h' tk'=>ih' h' tk' κ)
   |lam lb ps b=>cases hs;exact Sq RA x hc (fun h' tk'=>ih' h' tk' κ)
   |loc n=>
    simp only at hs
    split at hs
    ·rename_i c hl
     split at hs
     ·rename_i v hv
      cases hs
      exact RX RA x hc hl hv (fun h' tk'=>ih' h' tk' κ)
     ·cases hs
    ·cases hs
   |aP n v=>
    simp only at hs
    split at hs
    ·rename_i c hl
     split at hs
     ·rename_i hv
      cases hs
      exact R0 RA x hc hl hv ok (fun h' tk'=>ih' h' tk' κ)
     ·cases hs
    ·cases hs
   |seq is=>
    cases is with
    |nil=>cases hs
    |cons n0 is=>cases hs;exact R4 RA x hc ok (fun h' tk'=>ih' h' tk' κ)
   |call o as=>cases hs;exact step_call RA x hc ok (fun h' tk'=>ih' h' tk' κ)
theorem Inv.HN{P:Params}{w:World}{κ:List Addr}{S:MS}{h:Heap}{fr:Addr}(x:Inv P w I [fr] κ S h):Inv P w I [] κ S h:=
 x.move x.top (fun _ _ _ e=>e) (fun a o hn e=>⟨fun q=>hn (by simp at q⊢;exact .inr q),e⟩) (fun _ _=>by k_in)
variable {h:Heap}{tk:Nat}{κ:List Addr}
theorem Inv.alloc{P:Params}{w:World}{h':Heap}(x:Inv P w I [] κ S h)(K:Kp [] h h'):Inv P w I [⇑h] κ S h'∧(∀a o,view ([]++I.M κ) h a o→view ([⇑h]++I.M κ) h' a o):=by
 have kv:∀a o,a∉[]++I.M κ→h.get? a=some o→a∉[⇑h]++I.M κ∧h'.get? a=some o:=fun a o hn e=>⟨fun q=>by
  rcases mA q with q|q
  ·exact absurd (aj e) (by rw[mS q];exact Nat.lt_irrefl _)
  ·exact hn (by k_in),K.keep _ _ (by k_in) e⟩
 exact⟨x.move (x.top.kp K (by k_in)) (fun a ha o e=>K.keep _ _ (by k_in) e) kv (fun p hp q=>Nat.lt_irrefl _ (mS q▸aj (x.ys p hp))),ny kv⟩
theorem Rj{n:Nd}{ρ:bH}{a E:Addr}(RA:aa A 120)(x:Inv J.P J.W I [] κ S h)(hc:S.aR=.ev n ρ)(hn:aM J.P (view ([]++I.M κ) h) n a)(hE:g7 J.W (view ([]++I.M κ) h) κ ρ E)(hr:jL S T)
 (H:∀h' tk' κ' i t,T.aR=.val (.int i)→Inv J.P J.W I [] κ' T h'→R (rt (.int i t)) (J.S h' tk')):
 codeAny J.M A (aK 513 [.ref a,.ref E,.ref I.F,.ref I.S]) R (J.S h tk):=by
 let vv:Vv:=dj a E I.F I.S ⇑h tk 0 0 0 0 [] []
 refine CL.b0 vv (RA.less rfl) (aG x.top (by k_in) (ro:=[]) trivial) fG (fun h1 _ H1=>.code ?_)
 obtain⟨x1,L⟩:=x.alloc H1.kp
 have lt:=x.lt
 refine HK (I:=I) (fr:=⇑h) (S:=S) (T:=T) (aa.up H1.k RA rfl) hr h1 _ κ ⟨x1,x.fh,fun q=>Nat.lt_irrefl _ (lt _ q),_,_,by rw[hc];exact .ev (hn.mono L) (hE.mono L (bX)),.four (H1.get 0 rfl)⟩ (fun h' tk' κ' i t e x'=>?_)
 exact CL.b1 (c:=⇑h') (RA.less rfl) (aG x'.top (by k_in) (ro:=[]) trivial) H1.k fG (fun h2 ao H2=>H h2 ao κ' i t e (x'.HN.move (x'.top.kp H2.kp (by k_in)) (fun a ha o e=>H2.kp.keep _ _ (by k_in) e) (fun a o hn e=>⟨hn,H2.kp.keep _ _ (by k_in) e⟩)))
theorem Rm{i:Int}{t0 ti:Nat}(RA:aa A 120)(x:Inv J.P J.W I [] κ S h)(hc:S.aR=.val (.int i))(hr:jL S T)
 (H:∀h' tk' κ' i t,T.aR=.val (.int i)→Inv J.P J.W I [] κ' T h'→R (rt (.int i t)) (J.S h' tk')):
 codeAny J.M A (aK 513 [.str aX t0,.int i ti,.ref I.F,.ref I.S]) R (J.S h tk):=by
 let vv:Vv:=dj t0 ti I.F I.S ⇑h tk 0 0 0 i [] []
 refine CM.b0 vv (RA.less rfl) (aG x.top (by k_in) (ro:=[]) trivial) fG (fun h1 _ H1=>.code ?_)
 obtain⟨x1,L⟩:=x.alloc H1.kp
 have lt:=x.lt
 refine HK (I:=I) (fr:=⇑h) (S:=S) (T:=T) (aa.up H1.k RA rfl) hr h1 _ κ ⟨x1,x.fh,fun q=>Nat.lt_irrefl _ (lt _ q),_,_,by rw[hc];exact .val .int,.four (H1.get 0 rfl)⟩ (fun h' tk' κ' i t e x'=>?_)
 exact CM.b1 (c:=⇑h') (RA.less rfl) (aG x'.top (by k_in) (ro:=[]) trivial) H1.k fG (fun h2 ao H2=>H h2 ao κ' i t e (x'.HN.move (x'.top.kp H2.kp (by k_in)) (fun a ha o e=>H2.kp.keep _ _ (by k_in) e) (fun a o hn e=>⟨hn,H2.kp.keep _ _ (by k_in) e⟩)))
end
end
section
variable [Zero Heap]
noncomputable def stand(M:List Addr)(h:Heap):List Ent:=(List.range ⇑h).filterMap fun a=>if a∈M then none else(h.get? a).map fun o=>(a,o)
theorem Cd{M:List Addr}{h:Heap}{p:Ent}:p∈stand M h↔view M h p.1 p.2:=by
 unfold stand
 rw[List.mem_filterMap]
 constructor
 ·rintro⟨a,_,e⟩
  split at e
  ·cases e
  ·rename_i hn
   rw[Option.map_eq_some_iff]at e
   obtain⟨o,ho,rfl⟩:=e
   exact⟨hn,ho⟩
 ·rintro⟨hn,ho⟩
  exact⟨p.1,List.mem_range.mpr (aj ho),by rw[if_neg hn,ho];rfl⟩
section
variable {P:Params}{w:World}{I:aV}{κ:List Addr}{S:MS}{h h':Heap}
theorem Inv.GR{X:List Addr}(x:Inv P w I X κ S h){l:List Ent}(hl:∀p∈l,view (X++I.M κ) h p.1 p.2):Inv P w {I with L:=l} X κ S h:=
 ⟨x.top,x.nd,x.lo,x.fs,x.len,x.cells,x.kept,x.shown,x.st,hl,x.ys,x.xy⟩
theorem Inv.rebase(x:Inv P w I [] κ S h){F:Addr}{Y:List Ent}{S':MS}{m:List Addr}(K:Kp m h h')(hm:∀a∈m,a∈I.Y.map (·.1)∨⇑h≤a)(hm2:∀a∈m,534≤a)(hY:∀p∈Y,(p.1∈I.Y.map (·.1)∨⇑h≤p.1)∧h'.get? p.1=some p.2)(nY:(Y.map (·.1)).Nodup)(hF:F=I.F∨⇑h≤F)(nF:F∉Y.map (·.1))
 (fs:∃vs e,h'.get? F=some (lst (refs vs) e)∧ff P w (view ([]++I.M κ) h) κ S'.fs vs) (e1:S'.σ=S.σ) (e2:S'.kept=S.kept) (e3:S'.shown=S.shown):
 Inv P w ⟨F,I.K,I.H,I.S,[],Y⟩ [] κ S' h'∧(∀a o,view ([]++I.M κ) h a o→view ([]++(⟨F,I.K,I.H,I.S,[],Y⟩:aV).M κ) h' a o):=by
 have fh:534≤⇑h:=x.fh
 have ne:=x.ne
 have nd:=x.nd
 simp only[aV.M,List.nodup_cons,eZ,List.mem_append,not_or,List.nodup_append]at nd
 ac_rfl
 obtain⟨⟨f1,f2,f3,f4⟩,⟨f5,f6,f7⟩,⟨f8,f9⟩,GC,tB,Bq⟩:=nd
 have oY:∀a,a∉I.Y.map (·.1)→a<⇑h→a∉Y.map (·.1):=fun a hn hl q=>by
  ac_rfl
  obtain⟨p,hp,rfl⟩:=mM q
  rcases(hY p hp).1 with z|z
  ·exact hn z
  ·exact Nat.lt_irrefl _ (aJ hl z)
 have om:∀a,a∉I.Y.map (·.1)→a<⇑h→a∉m:=fun a hn hl q=>by
  rcases hm a q with z|z
  ·exact hn z
  ·exact Nat.lt_irrefl _ (aJ hl z)
 have lt:=x.lt
 have lK:I.K<⇑h:=lt I.K (by k_in)
 have lH:I.H<⇑h:=lt I.H (by k_in)
 have Ce:∀c∈κ,c<⇑h:=fun c hc=>lt c (by simp[hc])
 have GS:∀c∈κ,c∉I.Y.map (·.1):=fun c hc q=>Bq c q c hc rfl
 have fx:∀a,a<⇑h→a≠I.F→a≠F:=fun a hl hn e=>by
  rcases hF with z|z
  ·exact hn (e.trans z)
  ·exact Nat.lt_irrefl _ (aJ hl (e▸z))
 have Rh:534≤F:=by
  rcases hF with rfl|z
  ·exact x.lo _ (by k_in)
  ·exact aq fh z
 have L:∀a o,view ([]++I.M κ) h a o→view ([]++(⟨F,I.K,I.H,I.S,[],Y⟩:aV).M κ) h' a o:=fun a o v=>by
  have la:a<⇑h:=aj v.2
  have v1:=v.1
  simp only[aV.M,List.nil_append,eZ,List.mem_append,not_or]at v1
  refine⟨?_,K.keep _ _ (om a v1.2.2.2.1 la) v.2⟩
  simp only[aV.M,List.nil_append,eZ,List.mem_append,not_or]
  exact⟨fx a la v1.1,v1.2.1,v1.2.2.1,oY a v1.2.2.2.1 la,v1.2.2.2.2⟩
 have pre:=List.prefix_refl κ
 refine⟨⟨x.top.kp K hm2,?_,?_,?_,?_,?_,?_,?_,?_,fun p hp=>by simp at hp,fun p hp=>(hY p hp).2,fun p hp=>by k_in⟩,L⟩
 ·simp only[aV.M,List.nodup_cons,eZ,List.mem_append,not_or,List.nodup_append]
  refine⟨⟨fun e=>fx _ lK (Ne.symm f1) e.symm,fun e=>fx _ lH (Ne.symm f2) e.symm,nF,fun q=>fx _ (Ce _ q) (fun e=>f4 (e▸q)) rfl⟩,⟨f5,oY _ f6 lK,f7⟩,⟨oY _ f8 lH,f9⟩,nY,tB,fun a ha b hb e=>oY b (GS b hb) (Ce b hb) (e▸ha)⟩
 ·intro a ha
  simp only[aV.M,eZ,List.mem_append]at ha
  rcases ha with rfl|rfl|rfl|ha|ha
  ·exact Rh
  ·exact x.lo I.K (by k_in)
  ·exact x.lo I.H (by k_in)
  ·ac_rfl
   obtain⟨p,hp,rfl⟩:=mM ha
   rcases(hY p hp).1 with z|z
   ·exact x.lo _ (by simp only[aV.M,eZ,List.mem_append];exact .inr (.inr (.inr (.inl z))))
   ·exact aq fh z
  ·exact x.lo a (by simp[ha])
 ·ac_rfl
  obtain⟨vs,e,g1,g2⟩:=fs
  exact⟨vs,e,g1,g2.mono L pre⟩
 ·rw[e1];exact x.len
 ·rw[e1]
  exact x.qP L pre (fun a ha o ho=>K.keep _ _ (om a (GS a ha) (Ce a ha)) ho)
 ·rw[e2]
  exact x.pL L pre (fun o ho=>K.keep _ _ (om _ f6 lK) ho)
 ·rw[e3]
  exact x.pM L (fun o ho=>K.keep _ _ (om _ f8 lH) ho)
 ·refine x.e_ fun t3 t4 es s1=>?_
  exact⟨t3,t4,es,L _ _ s1⟩
theorem Inv.first{F St:Addr}{Y:List Ent}{c:pP}{t3 t4 es e1 e3:Nat}(TT:aE P h)(nd:((⟨F,St+1,St+2,St,[],Y⟩:aV).M []).Nodup)(lo:∀a∈(⟨F,St+1,St+2,St,[],Y⟩:aV).M [],534≤a)(hF:h.get? F=some (lst [] e1))(hK:h.DictOf (intKind pw w) (St+1) [])(hH:h.get? (St+2)=some (lst [] e3))(hS:view ([]++(⟨F,St+1,St+2,St,[],Y⟩:aV).M []) h St (iT P t3 t4 (St+1) (St+2) es))(hY:∀p∈Y,h.get? p.1=some p.2):
 Inv P w ⟨F,St+1,St+2,St,[],Y⟩ [] [] ⟨c,[],[],[],[]⟩ h:=
 ⟨TT,nd,lo,⟨[],_,hF,rfl,fun j f a h1=>by simp at h1⟩,rfl,fun c v a h1=>by simp at h1,⟨[],hK,rfl,fun j kv af h1=>by simp at h1⟩,⟨[],_,hH,rfl,fun j q l h1=>by simp at h1⟩,⟨_,_,_,hS⟩,fun p hp=>by simp at hp,hY,fun p hp=>by k_in⟩
end
section
variable {J:WX}{A:Around}{R:RR}{I:aV}{S T:MS}{h:Heap}{tk:Nat}{κ:List Addr}
noncomputable abbrev yE(P:Params)(w:World)(I:aV)(κ:List Addr)(T:MS)(h h':Heap)(κ':List Addr):Prop:=
 Inv P w I [] κ' T h'∧(∀a o,view ([]++I.M κ) h a o→view ([]++I.M κ') h' a o)∧⇑h≤⇑h'
theorem yE.of{P:Params}{w:World}{h':Heap}{κ':List Addr}(hL:I.L=[])(x:Inv P w {I with L:=stand ([]++I.M κ) h} [] κ' T h')(hs:⇑h≤⇑h'):yE P w I κ T h h' κ':=
 ⟨⟨x.top,x.nd,x.lo,x.fs,x.len,x.cells,x.kept,x.shown,x.st,fun p hp=>by rw[hL]at hp;simp at hp,x.ys,x.xy⟩,fun a o v=>x.own (a,o) (Cd.mpr v),hs⟩
theorem Ri{n:Nd}{ρ:bH}{a E:Addr}(RA:aa A 120)(x:Inv J.P J.W I [] κ S h)(hL:I.L=[])(hc:S.aR=.ev n ρ)(hn:aM J.P (view ([]++I.M κ) h) n a)(hE:g7 J.W (view ([]++I.M κ) h) κ ρ E)(hr:jL S T)
 (H:∀h' tk' κ' i t,T.aR=.val (.int i)→yE J.P J.W I κ T h h' κ'→R (rt (.int i t)) (J.S h' tk')):
 codeAny J.M A (aK 513 [.ref a,.ref E,.ref I.F,.ref I.S]) R (J.S h tk):=
 Bs (Rj (I:={I with L:=stand ([]++I.M κ) h}) RA (x.GR fun p hp=>Cd.mp hp) hc hn hE hr (fun h' tk' κ' i t e x' hs=>H h' tk' κ' i t e (.of hL x' hs)))
theorem OZ{i:Int}{t0 ti:Nat}(RA:aa A 120)(x:Inv J.P J.W I [] κ S h)(hL:I.L=[])(hc:S.aR=.val (.int i))(hr:jL S T)
 (H:∀h' tk' κ' i t,T.aR=.val (.int i)→yE J.P J.W I κ T h h' κ'→R (rt (.int i t)) (J.S h' tk')):
 codeAny J.M A (aK 513 [.str aX t0,.int i ti,.ref I.F,.ref I.S]) R (J.S h tk):=
 Bs (Rm (I:={I with L:=stand ([]++I.M κ) h}) RA (x.GR fun p hp=>Cd.mp hp) hc hr (fun h' tk' κ' i t e x' hs=>H h' tk' κ' i t e (.of hL x' hs)))
end
end
section
variable [Zero Heap]
theorem Inv.sZ{P:Params}{w:World}{I:aV}{κ:List Addr}{S:MS}{h h':Heap}(x:Inv P w I [] κ S h){m:List Addr}(K:Kp m h h')(hm:∀a∈m,534≤a∧∃o,(a,o)∈I.Y∧h'.get? a=some o):Inv P w I [] κ S h'∧(∀a o,view ([]++I.M κ) h a o→view ([]++I.M κ) h' a o):=by
 have kv:∀a o,a∉[]++I.M κ→h.get? a=some o→a∉[]++I.M κ∧h'.get? a=some o:=fun a o hn e=>⟨hn,K.keep _ _ (fun q=>by
  obtain⟨_,o',ho,_⟩:=hm a q
  refine hn ?_
  simp only[aV.M,List.nil_append,eZ,List.mem_append]
  exact .inr (.inr (.inr (.inl (List.mem_map_of_mem (f:=(·.1)) ho))))) e⟩
 refine⟨x.move (x.top.kp K fun a ha=>(hm a ha).1) (fun a ha o e=>?_) kv,ny kv⟩
 by_cases q:a∈m
 ·obtain⟨_,o',ho,e'⟩:=hm a q
  have:=x.ys _ ho
  rw[e]at this
  rw[e',bV this]
 ·exact K.keep _ _ q e
theorem Rn(P:Params):aF P 10=.If (.BoolOp .Or [bW (aL (aF P 10)) 0,.Compare (fB (bW (aL (aF P 10)) 1)) [.NotEq] [fC (bW (aL (aF P 10)) 1)] (jx (bW (aL (aF P 10)) 1))] (sX (aL (aF P 10)))) (iG (aF P 10)) [] (qB (aF P 10)):=by kernel_rfl
section
variable {J:WX}{A:Around}{E:Value→Shared→Prop}{h:Heap}{tk:Nat}{Q:Flow→Shared→Prop}{rest:List Stmt}{fr cd cw cp cf sc t0 t1 m tm t2 nu t3 sh t4 sp t5 nd t6 st fe:Nat}{D:List Addr}
theorem P_{C:Cfg}{cx:Bool}{L:Int}{t8 t9 se ek eh dk ed fl ef:Nat}{ys fs:List Value}(RA:aa A 138)(TT:aE J.P h)(hfr:h.get? fr=some (ai (F7 J.P t0 sc t1 m tm t2 nu t3 sh t4 sp t5 nd t6 st) fe))(hst:h.get? st=some (iT J.P t8 t9 (st+1) (st+2) se))(hK:h.get? (st+1)=some (dct [] ek))(hH:h.get? (st+2)=some (lst [] eh))(hcf:h.get? cf=some (bL (.ref fl)))(hfl:h.get? fl=some (lst fs ef))(hfs:bR C.firsts fs)(bY:h.get? dk=some (lst ys ed))
 (hn:aM J.P (view D h) (C.root cx L) nd) (O:C.OK) (c1:cx=true→2≤C.m) (c2:cx=false→C.m=1∨∀j,j<C.m→C.cl j=false) (hD:∀x∈D,x<⇑h) (hM:∀x∈([fr,dk,st+1,st+2]:List Nat),x∈D) (nD:([fr,dk,st,st+1,st+2]:List Nat).Nodup) (q1:cf∉([fr,dk,st+1,st+2]:List Nat)) (q2:fl∉([fr,dk,st+1,st+2]:List Nat)) (g1:534≤fr) (g2:534≤dk) (g3:534≤st)
 (H:∀h' tk' κ' T F,Inv J.P J.W ⟨F,st+1,st+2,st,[],[(fr,ai (F7 J.P t0 sc t1 m tm t2 nu t3 sh t4 sp t5 nd t6 st) fe),(dk,lst ys ed)]⟩ [] κ' T h'→iM C cx T (fun j=>C.firsts.take j)→T.shown=[C.firsts]→
  (∀a o,a∉([fr,dk,st+1,st+2]:List Nat)→h.get? a=some o→view ([]++(⟨F,st+1,st+2,st,[],[(fr,ai (F7 J.P t0 sc t1 m tm t2 nu t3 sh t4 sp t5 nd t6 st) fe),(dk,lst ys ed)]⟩:aV).M κ') h' a o)→⇑h≤⇑h'→
  wpAny J.M A (execs rest (bC J.P fr cd cw cp cf)) Q E (J.S h' tk')):
 wpAny J.M A (execs (aF J.P 10::rest) (bC J.P fr cd cw cp cf)) Q E (J.S h tk):=by
 obtain⟨T,r1,r2,r3⟩:=Oa O cx c1 c2 L
 refine Ax nD fun u1 u2 u3 u4 u5 u6 u7 _ _ _=>?_
 refine gS q1 fun v1 v2 v3 v4=>?_
 refine gS q2 fun v5 v6 v7 v8=>?_
 have aN:fr<⇑h:=aj hfr
 have aA:dk<⇑h:=aj bY
 have Ro:st+2<⇑h:=aj hH
 generalize hY:[(fr,ai (F7 J.P t0 sc t1 m tm t2 nu t3 sh t4 sp t5 nd t6 st) fe),(dk,lst ys ed)]=Y at H
 have B:=fun{ro:List Ent}=>aG (prog:=pw) (w:=J.W) (mods:=[fr,st+1,st+2]) (ro:=ro) TT dH
 rw[Rn]
 let vv:Vv:=fD fr fe t0 sc t1 tm t2 nu t3 sh t4 sp t5 nd t6 st cd cw cp cf ⇑h tk 0 0 0 0 0 m 0 .none [] [] [] []
 refine wpAny_execs_cons (wpAny_If (wpAny_isTrue_BoolOp (wpAny_allTrue_Or_cons (qU (yF.b0 vv rfl (RA.less rfl) (B trivial) (cQ .refl hfr (.inl (by k_in))) (fun h1 aB H1=>.code ?_))))))
 have y1:⇑h1=⇑h+2:=H1.size
 have K1:Kp [fr] h h1:=H1.seg
 have f1:h1.get? fr=some _:=H1.get 0 rfl
 have x:Inv J.P J.W ⟨⇑h+1,st+1,st+2,st,[],Y⟩ [] [] ⟨.ev (C.root cx L) [],[],[],[],[]⟩ h1:=by
  subst hY
  refine .first (TT.kp K1 bI) ?_ ?_ (H1.get 2 rfl) (Bb (K1.keep (st+1) _ ak hK)) (K1.keep (st+2) _ ak hH) ⟨?_,K1.keep st _ ak hst⟩ ?_
  ·show([⇑h+1,st+1,st+2,fr,dk]:List Nat).Nodup
   exact Be
  ·show∀a∈([⇑h+1,st+1,st+2,fr,dk]:List Nat),534≤a
   exact Ay
  ·show st∉([⇑h+1,st+1,st+2,fr,dk]:List Nat)
   exact Rp
  ·exact c_ f1 (c_ (K1.keep _ _ ak bY) iU)
 have M0:∀a,a∉[fr,dk,st+1,st+2]→a<⇑h→a∉[]++(⟨⇑h+1,st+1,st+2,st,[],Y⟩:aV).M []:=fun(a:Nat) ha hl=>by
  clear x
  subst hY
  exact gS ha fun w1 w2 w3 w4=>((by exact kNc (#[0x110131c201132111,a,⇑h] hl) (kNc w3 (kNc w4 (kNc w1 (kNc w2 kNn))))):a∉([⇑h+1,st+1,st+2,fr,dk]:List Nat))
 have T0:∀a o,a∉[fr,dk,st+1,st+2]→h.get? a=some o→view ([]++(⟨⇑h+1,st+1,st+2,st,[],Y⟩:aV).M []) h1 a o:=fun a o ha e=>⟨M0 a ha (aj e),K1.keep _ _ (fun q=>ha (by rw[mS q];exact kMi 0 rfl)) e⟩
 refine Ri (I:=⟨⇑h+1,st+1,st+2,st,[],Y⟩) (E:=⇑h) (aa.up H1.k RA rfl) x rfl rfl (hn.mono fun a o v=>T0 a o (fun q=>v.1 (hM a q)) v.2) ⟨aq g1 (Nat.le_of_lt aN),Nat.zero_le _,by simp,?_⟩ r1 (fun h2 ao κ' i t hi RT=>?_)
 ·refine bu.fS (Bb (w:=J.W) (H1.get 1 rfl)) fun o ho hd=>?_
  refine⟨o,⟨?_,ho⟩,hd⟩
  clear x M0 T0
  subst hY
  show ⇑h∉([⇑h+1,st+1,st+2,fr,dk]:List Nat)
  exact(by exact #[0x110104100141100411004100005312c401c401c2052522c4012312113,fr,⇑h,dk,st] aN aA Ro)
 obtain⟨x2,V2,s2⟩:=RT
 rw[r2.aR]at hi
 obtain rfl:(5:Int)=i:=by injection hi with hi;injection hi
 have T2:∀a o,a∉[fr,dk,st+1,st+2]→h.get? a=some o→view ([]++(⟨⇑h+1,st+1,st+2,st,[],Y⟩:aV).M κ') h2 a o:=fun a o ha e=>V2 a o (T0 a o ha e)
 have f2:h2.get? fr=some (ai (F7 J.P t0 sc t1 m tm t2 nu t3 sh t4 sp t5 nd t6 st) fe):=x2.ys (fr,_) (by rw[←hY];exact b_ 0 rfl)
 have d2:h2.get? dk=some (lst ys ed):=x2.ys (dk,_) (by rw[←hY];exact b_ 1 rfl)
 have yG:⇑h≤⇑h2:=by left
 have jV:Kp [fr,st+1,st+2] h h2:=⟨fun(a:Nat) o ha e=>by
  by_cases q:a=dk
  ·obtain rfl:=q.symm
   rw[bY]at e
   rw[d2,bV e]
  ·exact Fl ha fun w1 w2 w3=>(T2 a o d7 e).2,yG⟩
 refine yF.b1 (c:=⇑h2) (RA.less rfl) (B trivial) H1.k (cQ jV f2 (.inl (by k_in))) (fun h3 az H3=>.code (FI (c:=false) rfl ?_))
 refine yF.b2 (RA.less rfl) (B trivial) H3.k H3.rep (fun h4 av H4=>?_)
 have S3:Kp [fr] h2 h3:=H3.seg
 have rz:Kp [fr] h2 h4:=S3.step H4.seg (At.eO (hb:=h2) (M:=[fr]) H3 (bl) (fun x hx=>.inl hx))
 have f4:h4.get? fr=some (ai (F7 J.P t0 sc t1 m tm t2 nu t3 sh t4 sp t5 nd t6 st) fe):=H4.get 0 rfl
 have Yf:(fr,ai (F7 J.P t0 sc t1 m tm t2 nu t3 sh t4 sp t5 nd t6 st) fe)∈Y:=by rw[←hY];exact b_ 0 rfl
 obtain⟨x4,V4⟩:=x2.sZ rz (kAc ⟨g1,_,Yf,f4⟩ kAn)
 have T4:=fun a o ha e=>V4 a o (T2 a o ha e)
 show wpAny _ _ _ _ _ _
 let vv:Vv:=fD fr fe t0 sc t1 tm t2 nu t3 sh t4 sp t5 nd t6 st cd cw cp cf t8 t9 (st+1) (st+2) se ⇑h4 av m 0 .none [] [] [] []
 refine wpAny_allTrue_Or_cons (wpAny_isTrue_Compare1 (eH (Cf.b0 vv rfl (RA.less rfl) (aG (mods:=[fr]) x4.top bI (ro:=[(st,_)]) (rC ((T4 st _ d7 hst).2) ak rN)) (cQ .refl f4 (.inl (by k_in))) (fun h5 aY H5=>.code (Bo (H5.kp.keep st _ ak (T4 st _ d7 hst).2) fun gG=>?_)))) rfl)
 refine Cf.b1 (RA.less rfl) (aG (mods:=[fr]) x4.top bI (ro:=[(st,_)]) (rC ((T4 st _ d7 hst).2) ak rN)) H5.k H5.rep (fun h6 d_ H6=>?_)
 have yC:Kp [fr] h4 h6:=H6.kp
 obtain⟨x6,V6⟩:=x4.sZ yC (kAc ⟨g1,_,Yf,H6.get 0 rfl⟩ kAn)
 have T6:=fun a o ha e=>V6 a o (T4 a o ha e)
 show wpAny _ _ _ _ _ _
 let vv:Vv:=fD fr fe t0 sc t1 tm t2 nu t3 sh t4 sp t5 nd t6 st cd cw cp cf fl ⇑h6 d_ 0 0 0 0 m 0 .none [] [] [] []
 refine eH (GU.b0 vv rfl (RA.less rfl) (aG (mods:=[fr]) x6.top bI (ro:=[(cf,_)]) (rC ((T6 cf _ d7 hcf).2) ak rN)) (cQ .refl (H6.get 0 rfl) (.inl (by k_in))) (fun h7 fT H7=>?_))
 have GV:Kp [fr] h6 h7:=H7.kp
 obtain⟨x7,V7⟩:=x6.sZ GV (kAc ⟨g1,_,Yf,H7.get 0 rfl⟩ kAn)
 have T7:=fun a o ha e=>V7 a o (T6 a o ha e)
 refine x7.sQ fun qs eq z1 z2 z3=>?_
 rw[r3]at z2 z3
 obtain⟨q,rfl⟩:∃q,qs=[q]:=List.length_eq_one_iff.mp z2
 obtain⟨zs,ez,w1,w2,w3⟩:=z3 0 q C.firsts rfl rfl
 refine Rc z1 (H7.get 1 rfl) w1.2 (T7 fl _ d7 hfl).2 ⟨w2,w3⟩ hfs (by have:=RA.units;left) (by have:=RA.units;simp only[Around.in1_units];left) ?_
 refine wpAny_allTrue_Or_nil (wpAny_execs_nil ?_)
 refine H h7 fT κ' T _ x7 r2 r3 T7 (aq yG (aq rz.size (aq yC.size GV.size)))
end
end
section
variable [Zero Heap]
theorem CS:plainId "dict.update.loop"=true:=by decide+kernel
theorem HU:entryFor table "dict.update.loop"=some Builtin.«dict.update.loop»:=entryFor_of_fast ∅
noncomputable abbrev putAll(acc PQ:List (Int×Value)):List (Int×Value):=PQ.foldl (fun a kv=>stored a kv.1 kv.2) acc
theorem HV:∀(PQ acc:List (Int×Value)),((acc++PQ).map (·.1)).Nodup→putAll acc PQ=acc++PQ
 | [],acc,_=>by simp[putAll]
 |kv::PQ,acc,h=>by
  have e:stored acc kv.1 kv.2=acc++[kv]:=by
   unfold stored
   rw[if_neg]
   intro q
   obtain⟨x,hx,e⟩:=List.any_eq_true.mp q
   have e:x.1=kv.1:=by simpa using e
   rw[List.map_append,List.nodup_append]at h
   exact h.2.2 x.1 (List.mem_map_of_mem hx) kv.1 (b_ 0 rfl) e
  show putAll (stored acc kv.1 kv.2) PQ=_
  rw[e,HV PQ (acc++[kv]) (by simpa using h)]
  simp
section
variable {J:WX}{A:Around}{R:RR}{L it d:Nat}{ys:List Value}{e:Nat}{PQ:List (Int×Value)}
noncomputable def Cm(h:Heap)(PQ:List (Int×Value))(ys:List Value):Prop:=ys.length=PQ.length∧∀(j:Nat) kv y,PQ[j]? =some kv→ys[j]? =some y→∃p t,y=.ref p∧h.get? p=some (tup [.int kv.1 t,kv.2])
theorem HW(hz:PQ.length≤100)(n0:d≠it)(n1:L≠it)(n2:L≠d):∀(r k:Nat),k+r=PQ.length→∀(h:Heap)(tk:Nat)(acc:List (Int×Value)),acc.length≤k→h.IsListIter it L k→h.get? L=some (lst ys e)→Cm h PQ ys→(∀(j:Nat) p,ys[j]? =some (.ref p)→p≠it∧p≠d)→h.DictOf (intKind pw J.W) d acc→A.handled=none→
 (∀h' tk',(∀b o,b≠d→b≠it→h.get? b=some o→h'.get? b=some o)→h'.DictOf (intKind pw J.W) d (putAll acc (PQ.drop k))→R (rt .none) (J.S h' tk'))→
 codeAny J.M A (.builtin "dict.update.loop" ⟨[.ref d,.ref it,.int k 0,.none],[]⟩) R (J.S h tk)
 |0,k,hk,h,tk,acc,ha,hI,hL,hP,hn,hd,hh,H=>by
  refine codeAny_builtin HU ?_
  rw[Around.under_plainId CS _]
  show wpAny _ A.in1 (pyNext (.ref it)>>=_) _ _ _
  refine wpAny_bind (wpAny_pyNext_list_end (s:=(J.S h tk)) hh hI (dw hL) (by have:=hP.1;simp;exact #[0x1101105113023220c1022,k,PQ.length,ys.length] hk this) fun h1 b=>?_)
  show wpAny _ _ (Builtin.Dict.addKeywords d []>>=_) _ _ _
  refine wpAny_bind (wpAny_pure (wpAny_pure (H h1 tk (fun b' o _ h2 ho=>b b' o h2 ho) ?_)))
  rw[List.drop_of_length_le (by exact #[0x11103112020c1021,k,PQ.length] hk)]
  ac_rfl
  obtain⟨o,es,ep,ho,r⟩:=hd
  exact⟨o,es,ep,b _ _ n0 ho,r⟩
 |r+1,k,hk,h,tk,acc,ha,hI,hL,hP,hn,hd,hh,H=>by
  have hk1:k<PQ.length:=#[0x11013311131c201021,k,r,PQ.length] hk
  have hk2:k<ys.length:=by rw[hP.1];exact hk1
  ac_rfl
  obtain⟨p,t,hy,hp⟩:=hP.2 k PQ[k] ys[k] (a_ hk1) (a_ hk2)
  have hy':ys[k]? =some (.ref p):=by rw[a_ hk2,hy]
  have np:=hn k p hy'
  refine codeAny_builtin HU ?_
  rw[Around.under_plainId CS _]
  show wpAny _ A.in1 (pyNext (.ref it)>>=_) _ _ _
  refine wpAny_bind (wpAny_pyNext_list_item (s:=(J.S h tk)) hI (dw hL) (x:=.ref p) (by simpa using hy') fun h1 jc S1=>?_)
  have b1:=S1.extBut
  have hp1:=b1 _ _ np.1 hp
  refine wpAny_bind (m:=holding _ _) (wpAny_holding ?_)
  refine wpAny_bind ?_
  refine wpAny_tryCatch ?_
  show wpAny _ _ (typeOf (.ref p)>>=_) _ _ _
  refine wpAny_bind (wpAny_typeOf (T:="tuple") ⟨_,hp1,rfl⟩ ?_)
  rw[if_pos (by decide)]
  show wpAny _ _ (seqItems? (.ref p)>>=_) _ _ _
  refine wpAny_bind (wpAny_seqItems hp1 rfl (wpAny_pure ?_))
  show wpAny _ _ (holding [Value.int PQ[k].1 t,PQ[k].2] (dictSet d (Value.int PQ[k].1 t) PQ[k].2)) _ _ _
  have hd1:h1.DictOf (intKind pw J.W) d acc:=by
   ac_rfl
   obtain⟨o,es,ep,ho,r⟩:=hd
   exact⟨o,es,ep,b1 _ _ n0 ho,r⟩
  refine wpAny_holding (wpAny_dictSet_pairs (knd:=intKind pw J.W) (k:=PQ[k].1) (by simp[intKind,Value.isInt]) hd1 (fun h2 hd2 S2=>?_) (small (#[0x11101153e8d14024011c30202064d103,PQ.length,k,r,acc.length] hz hk ha)))
  have b2:=S2.extBut
  refine wpAny_pure ⟨plainId_quiet CS _,?_⟩
  have CT:∀b o,b≠d→b≠it→h.get? b=some o→h2.get? b=some o:=fun b o q1 q2 ho=>b2 b o q1 (b1 b o q2 ho)
  have vU:PQ.drop k=PQ[k]::PQ.drop (k+1):=List.drop_eq_getElem_cons hk1
  refine HW hz n0 n1 n2 r (k+1) (#[0x1110310133121c100231c201021,k,r,PQ.length] hk) h2 _ (stored acc PQ[k].1 PQ[k].2) ?_ ?_ (CT _ _ n2 n1 hL) ⟨hP.1,fun j kv y h1 h2=>?_⟩ hn hd2 hh (fun h' tk' b hd'=>H h' tk' (fun b' o q1 q2 ho=>b b' o q1 q2 (CT b' o q1 q2 ho)) (by rw[vU];exact hd'))
  ·unfold stored
   split<;>simp<;>left
  ·ac_rfl
   obtain⟨o,ho,r⟩:=jc
   exact⟨o,b2 _ _ (Ne.symm n0) ho,r⟩
  ·ac_rfl
   obtain⟨p',t',e1,e2⟩:=hP.2 j kv y h1 h2
   subst e1
   exact⟨p',t',rfl,CT _ _ (hn j p' h2).2 (hn j p' h2).1 e2⟩
theorem Rr{h:Heap}{tk ep:Nat}{kvs:List (Int×Value)}(hm:h.DictAt (intKind pw J.W) d kvs ep)(g1:534≤d)
 (H:∀h',eF ⟨.type "dict_keyiterator",none,.fields ⟨[.ref d,rawInt 0,rawInt kvs.length,rawInt ep]⟩,#[]⟩ h h'→R (rt (.ref ⇑h)) (J.S h' tk)):codeAny J.M A (blt "dict.__iter__" [.ref d]) R (J.S h tk):=by
 ac_rfl
 obtain⟨o,es,ho,hc,hdat,hk,hp,hn⟩:=id hm
 have hT:((J.S h tk):Shared).TypeIs (.ref d) "dict":=hm.dictOf.typeIs
 have hds:(d==sysModules)=false:=by
  have e:sysModules<534:=by decide
  exact beq_eq_false_iff_ne.mpr (Nat.ne_of_gt (aJ e g1))
 refine kP F.slot_dict_iter hT F.entry_dict_iter (F.args_dict_iter_1 _) ?_
 unfold Builtin.«dict.__iter__»
 refine wpAny_bind ?_
 unfold Builtin.Dict.dictSlotNone
 refine wpAny_bind (wpAny_notOrdered_dict hT ?_)
 show wpAny _ _ (pure (Value.ref d)) _ _ _
 refine wpAny_pure ?_
 show wpAny _ _ (Builtin.Dict.showsAll d>>=_) _ _ _
 unfold Builtin.Dict.showsAll
 rw[if_neg (by rw[hds];exact Bool.false_ne_true)]
 refine wpAny_bind (wpAny_pure ?_)
 refine wpAny_bind (wpAny_dictEntries ho hdat ?_)
 refine wpAny_bind (wpAny_dictEpoch ho hdat ?_)
 have hsz:es.size=kvs.length:=by rw[←hp.length];exact rfl
 refine wpAny_bind (wpAny_newObj_type (wpAny_pure ⟨_,rfl,?_⟩))
 have N:=eF.of (o:=⟨.type "dict_keyiterator",none,.fields ⟨[.ref d,rawInt 0,rawInt kvs.length,rawInt ep]⟩,#[]⟩) (h:=h) rfl
 simpa[rawInt,hsz]using H _ N
end
section
variable {J:WX}{A:Around}{R:RR}{h:Heap}{tk:Nat}
theorem G0{L e:Nat}{ys:List Value}{PQ:List (Int×Value)}(RA:aa A 30)(TT:aE J.P h)(hL:h.get? L=some (lst ys e))(hP:Cm h PQ ys)(hn:(PQ.map (·.1)).Nodup)(hz:PQ.length≤100)
 (H:∀h' tk' (d:Nat),Kp [] h h'→⇑h≤d→h'.DictOf (intKind pw J.W) d PQ→R (rt (.ref d)) (J.S h' tk')):
 codeAny J.M A (.call (.type "dict") ⟨[.ref L],[]⟩) R (J.S h tk):=by
 have lL:L<⇑h:=aj hL
 have B:=aG (prog:=pw) (w:=J.W) (mods:=[]) TT (by k_in) (ro:=[(L,_)]) (rC hL (by k_in) rN)
 let vv:Vv:=dj L e ⇑h tk 0 0 0 0 0 0 ys []
 refine Ct.b0 vv RA B fG (fun h1 aB H1=>?_)
 have K1:Kp [] h h1:=H1.kp
 have y1:⇑h1=⇑h+4:=H1.size
 have hd1:h1.get? ⇑h=some (dct [] 0):=H1.get 0 rfl
 have hD:h1.DictOf (intKind pw J.W) ⇑h []:=⟨_,#[],0,hd1,⟨rfl,rfl,rfl⟩,rfl,fun _ he=>by simp at he,Pairs.nil,List.nodup_nil⟩
 have hI:h1.IsListIter (⇑h+3) L 0:=fR (H1.get 1 rfl)
 have hpl:∀(j:Nat) p,ys[j]? =some (.ref p)→p<⇑h:=fun j p hj=>by
  have hj2:j<PQ.length:=by rw[←hP.1];exact(fN hj).1
  obtain⟨p',t,e1,e2⟩:=hP.2 j _ _ (a_ hj2) hj
  injection e1 with e1
  exact e1▸aj e2
 refine HW (it:=⇑h+3) (d:=⇑h) (L:=L) (e:=e) (PQ:=PQ) (ys:=ys) hz (by left) (oM (oF lL)) (by left) PQ.length 0 (#[0x111111110c020,PQ.length]) h1 aB [] (Nat.zero_le _) hI (K1.keep _ _ (by k_in) hL) ⟨hP.1,fun j kv y q1 q2=>?_⟩ (fun j p hj=>?_) hD (aa.up (m:=0) H1.k RA rfl).handled (fun h2 ao b2 hd2=>?_)
 ·ac_rfl
  obtain⟨p,t,e1,e2⟩:=hP.2 j kv y q1 q2
  exact⟨p,t,e1,K1.keep _ _ (by k_in) e2⟩
 ·have:=hpl j p hj
  exact⟨gP (aJ this (br)),gP this⟩
 rw[List.drop_zero,HV PQ [] (by simpa using hn),List.nil_append]at hd2
 have s2:⇑h≤⇑h2:=by
  refine bu.fS hd2 fun o ho _=>?_
  exact Nat.le_of_lt (aj ho)
 have K2:Kp [] h h2:=⟨fun b o _ ho=>by
  have l:=aj ho
  exact b2 b o (gP l) (gP (aJ l (br))) (K1.keep _ _ (by k_in) ho),s2⟩
 refine Ct.b1 (a:=⇑h2) RA B H1.k (vZ K2) (fun h3 az H3=>?_)
 have S3:Kp [] h2 h3:=H3.seg
 refine H h3 az ⇑h H3.kp (bl) ?_
 refine bu.fS hd2 fun o ho hd=>?_
 exact bu.at (S3.keep _ _ (by k_in) ho) hd
end
end
section
variable [Zero Heap]
theorem GW{α:Type}{p:Nat→α→Prop}:∀n,(∀j,j<n→∃x,p j x)→∃l:List α,l.length=n∧∀j x,l[j]? =some x→p j x
 |0,_=>⟨[],rfl,fun j x h=>by simp at h⟩
 |n+1,h=>by
  ac_rfl
  obtain⟨l,h1,h2⟩:=GW n (fun j hj=>h j (oF hj))
  obtain⟨x,hx⟩:=h n (by left)
  refine⟨l++[x],by simp[h1],fun j y hy=>?_⟩
  by_cases hj:j<n
  ·rw[dm (oH h1 hj)]at hy;exact h2 j y hy
  ·rw[eY (ox h1 (oV hj))]at hy
   cases hk:j-l.length with
   |zero=>rw[hk]at hy;simp at hy;rw[←hy,show j=n from by exact #[0x11000010081100100182132314020c423202124,l.length,n,j,j-l.length] h1 (Nat.le_of_not_lt hj) hk (Nat.sub_add_cancel (#[0x11101431103202122,l.length,n,j] h1 (Nat.le_of_not_lt hj)))];exact hx
   |succ k=>rw[hk]at hy;simp at hy
noncomputable def rm(V:View)(ks:List Int)(f:Nat→List Sh)(PQ:List (Int×Value)):Prop:=PQ.map (·.1)=ks∧∀(j:Nat) kv,PQ[j]? =some kv→∃a xs e,kv.2=.ref a∧V a (lst xs e)∧bR (f kv.1.toNat) xs
theorem rm.mono{V V':View}{ks:List Int}{f:Nat→List Sh}{PQ:List (Int×Value)}(m:∀a o,V a o→V' a o)(x:rm V ks f PQ):rm V' ks f PQ:=
 ⟨x.1,fun j kv h=>by obtain⟨a,xs,e,h1,h2,h3⟩:=x.2 j kv h;exact⟨a,xs,e,h1,m _ _ h2,h3⟩⟩
theorem bR.take{ss:List Sh}{ys:List Value}(x:bR ss ys)(k:Nat):bR (ss.take k) (ys.take k):=
 ⟨by rw[List.length_take,List.length_take,x.1],fun j s y h1 h2=>by
  rw[List.getElem?_take]at h1 h2
  split at h1
  ·rename_i hj;rw[if_pos hj]at h2;exact x.2 j s y h1 h2
  ·cases h1⟩
theorem yg(C:Cfg)(p:Nat):(bE C p).Nodup:=by
 unfold bE
 rw[List.nodup_iff_pairwise_ne,List.pairwise_map]
 exact List.Pairwise.imp (fun{i j} q e=>q (by lia)) (List.nodup_iff_pairwise_ne.mp (List.nodup_range.filter _))
noncomputable abbrev F8(P:Params)(t0 sc t1 m tm t2 nu t3 sh t4 sp t5 nd t6 st t7 ah:Nat):List DictEntry:=[ent P fJ t0 (.ref sc),ent P cG t1 (.int (m:Int) tm),ent P gB t2 (.ref nu),ent P jo t3 (.ref sh),ent P pZ t4 (.ref sp),ent P fq t5 (.ref nd),ent P jq t6 (.ref st),ent P rA t7 (.ref ah)]
noncomputable abbrev I2(F St fr:Nat)(fo:Obj)(dk:Nat)(aI:Obj):aV:=⟨F,St+1,St+2,St,[],[(fr,fo),(dk,aI)]⟩
noncomputable abbrev I3(F St fr:Nat)(fo:Obj)(dk:Nat)(aI:Obj)(ah:Nat)(aH:Obj):aV:=⟨F,St+1,St+2,St,[],[(fr,fo),(dk,aI),(ah,aH)]⟩
noncomputable abbrev IV(I:aV)(κ:List Addr)(h:Heap):View:=view ([]++I.M κ) h
noncomputable abbrev VA(I:aV)(κ:List Addr)(h:Heap)(fl:Nat):View:=fun a o=>IV I κ h a o∧a≠fl∧534≤a
structure dW (P:Params) (w:World) (C:Cfg) (cx:Bool) (fr dk ah St cf fl cd:Nat) (fo:Obj) (f:Nat→List Sh) (n:Nat) (F:Nat) (κ:List Addr) (T:MS) (aI aH:Obj) (h:Heap):Prop where
 inv:Inv P w (I3 F St fr fo dk aI ah aH) [] κ T h
 jO:iM C cx T f
 shown:T.shown.length≤n
 bY:cZ h dk
 i6:∃PQ,h.DictOf (intKind pw w) ah PQ∧rm (VA (I3 F St fr fo dk aI ah aH) κ h fl) (bE C C.m) f PQ
 hcf:IV (I3 F St fr fo dk aI ah aH) κ h cf (bL (.ref fl))
 hfl:∃fs ef,IV (I3 F St fr fo dk aI ah aH) κ h fl (lst fs ef)∧bR C.firsts fs
 hcd:IV (I3 F St fr fo dk aI ah aH) κ h cd (bL (.ref dk))
section
variable {J:WX}{A:Around}{E:Value→Shared→Prop}{h:Heap}{tk:Nat}{Q:Flow→Shared→Prop}{rest:List Stmt}{fr cd cw cp cf sc t0 t1 m tm t2 nu t3 sh t4 sp t5 nd t6 st fe:Nat}
theorem Qd{C:Cfg}{cx:Bool}{dk ed fl ef F:Nat}{ys fs:List Value}{κ:List Addr}{T:MS}(RA:aa A 138)(x:Inv J.P J.W (I2 F st fr (ai (F7 J.P t0 sc t1 m tm t2 nu t3 sh t4 sp t5 nd t6 st) fe) dk (lst ys ed)) [] κ T h)(L:iM C cx T (fun j=>C.firsts.take j))(hs:T.shown=[C.firsts])(m4:C.m≤4)
 (yH:IV (I2 F st fr (ai (F7 J.P t0 sc t1 m tm t2 nu t3 sh t4 sp t5 nd t6 st) fe) dk (lst ys ed)) κ h cf (bL (.ref fl))) (pX:IV (I2 F st fr (ai (F7 J.P t0 sc t1 m tm t2 nu t3 sh t4 sp t5 nd t6 st) fe) dk (lst ys ed)) κ h fl (lst fs ef)) (hfs:bR C.firsts fs) (Rq:IV (I2 F st fr (ai (F7 J.P t0 sc t1 m tm t2 nu t3 sh t4 sp t5 nd t6 st) fe) dk (lst ys ed)) κ h cd (bL (.ref dk))) (bY:cZ h dk)
 (H:∀h' tk' (dR t7 ah:Nat) aH,dW J.P J.W C cx fr dk ah st cf fl cd (ai (F8 J.P t0 sc t1 m tm t2 nu t3 sh t4 sp t5 nd t6 st t7 ah) dR) (fun j=>C.firsts.take j) 1 F κ T (lst ys ed) aH h'→
  (∀a o,IV (I2 F st fr (ai (F7 J.P t0 sc t1 m tm t2 nu t3 sh t4 sp t5 nd t6 st) fe) dk (lst ys ed)) κ h a o→IV (I3 F st fr (ai (F8 J.P t0 sc t1 m tm t2 nu t3 sh t4 sp t5 nd t6 st t7 ah) dR) dk (lst ys ed) ah aH) κ h' a o)→
  wpAny J.M A (execs rest (bC J.P fr cd cw cp cf)) Q E (J.S h' tk')):
 wpAny J.M A (execs (aF J.P 11::rest) (bC J.P fr cd cw cp cf)) Q E (J.S h tk):=by
 have TT:=x.top
 have g1:534≤fr:=x.lo fr (by k_in)
 have hfr:h.get? fr=some (ai (F7 J.P t0 sc t1 m tm t2 nu t3 sh t4 sp t5 nd t6 st) fe):=x.ys (fr,_) (b_ 0 rfl)
 have gK:534≤st+1:=x.lo (st+1) (by k_in)
 have aN:fr<⇑h:=aj hfr
 refine x.e_ fun t8 t9 se iu=>?_
 refine x.qQ fun kvs hK kl hkv=>?_
 have nD:=x.nd
 have hst:st∉(F::(st+1)::(st+2)::([fr,dk]++κ):List Nat):=iu.1
 refine Ax nD fun u1 u2 u3 u4 u6 u7 u8 QY GL QZ=>sG hst fun s1 s2 s3 s4 s5=>?_
 ac_rfl
 obtain⟨ep,Cg⟩:=hK.dictAt
 obtain⟨oK,es,eK,cK,dK,rK⟩:=id Cg
 have Ci:oK=dct es.toList ep:=by
  ac_rfl
  obtain⟨q1,q2,q3⟩:=cK
  obtain⟨a,b,c,d⟩:=oK
  simp only at q1 q2 q3 dK
  subst q1 q2 q3 dK
  exact rfl
 subst Ci
 have B:=aG (prog:=pw) (w:=J.W) (mods:=[fr]) TT bI (ro:=[(st,_),(st+1,_)]) (rC iu.2 ak (rC eK ak rN))
 let vv:Vv:=jj fr fe t0 sc t1 tm t2 nu t3 sh t4 sp t5 nd t6 st cd cw cp cf t8 t9 (st+1) (st+2) se ep ⇑h tk 0 0 0 0 0 0 0 0 0 m 0 0 0 .none .none .none .none .none [] es.toList []
 refine A1 (cJ.b0 vv rfl (RA.less rfl) B (cQ .refl hfr (.inl (by k_in))) (fun h1 aB H1=>.code (yh (H1.kp.keep st _ ak iu.2) fun ao=>?_)))
 refine cJ.b1 (RA.less rfl) B H1.k H1.rep (fun h2 az H2=>.code (Rr (kvs:=kvs) (ep:=ep) (Cg.at' fun o e=>H2.kp.keep (st+1) _ ak e) gK fun h3 N3=>?_))
 have y1:⇑h1=⇑h:=H1.size
 have y2:⇑h2=⇑h:=H2.size
 have y3:⇑h3=⇑h2+1:=N3.size
 refine cJ.b2 (b:=⇑h2) (c:=⇑h3) (d:=(kvs.length:Int)) (RA.less rfl) B H2.k (by have e:=N3.at_;rw[H2.size]at e⊢;exact H2.rep.new N3.kp e) (fun h4 av H4=>.code ?_)
 have y4:⇑h4=⇑h3+2:=H4.size
 have K4:Kp [fr] h h4:=H4.kp
 have hit:h4.IsKeyIter ⇑h2 (st+1) 0 kvs.length ep:=⟨_,H4.get 1 rfl,rfl,rfl⟩
 have Rt:h4.DictAt (intKind pw J.W) (st+1) kvs ep:=Cg.at' fun o e=>K4.keep (st+1) _ ak e
 have T4:Tl [⇑h2] h4:=gC (c:=⇑h3+1) (H4.get 3 rfl) y4 (by left)
 have kC:kvs.map (·.1)=bE C C.m:=by
  rw[←L.keys]
  refine List.ext_getElem (by simp[kl]) fun j q1 q2=>?_
  have qW:j<kvs.length:=by simpa using q1
  have qX:j<T.kept.length:=by simpa using q2
  rw[List.getElem_map,List.getElem_map]
  exact(hkv j _ _ (a_ qW) (a_ qX)).1
 have GX:kvs.length≤4:=by
  have k:=congrArg List.length kC
  have k2:=qT C C.m
  rw[List.length_map]at k
  lia
 have Bx:∀kv∈kvs,(0:Int)≤kv.1:=fun kv hkv=>by
  have:kv.1∈bE C C.m:=kC▸List.mem_map_of_mem hkv
  ac_rfl
  obtain⟨j,_,e⟩:=mM this
  lia
 have lQ:cf<⇑h:=aj yH.2
 have dU:fl<⇑h:=aj pX.2
 have BD:cf∉(F::(st+1)::(st+2)::([fr,dk]++κ):List Nat):=yH.1
 have Ru:fl∉(F::(st+1)::(st+2)::([fr,dk]++κ):List Nat):=pX.1
 refine sG BD fun n1 n2 n3 n4 n5=>sG Ru fun n7 n8 n9 sW yf=>?_
 have lM:=x.lt
 have lK:st+1<⇑h:=lM (st+1) (by k_in)
 have Xj:fs.length≤4:=by rw[hfs.1];simp[Cfg.firsts,m4]
 refine Rv hit (Mn (cf:=cf) (d:=st+1) (ep:=ep) (kvs:=kvs) (F1:=fl) (N:=⇑h3+2) (it:=⇑h2) (acc:=⇑h3) (L:=⇑h3+1) (fr:=fr) (D:=[⇑h2,⇑h3,⇑h3+1]++(fl::List.range 534++([]++(I2 F st fr (ai (F7 J.P t0 sc t1 m tm t2 nu t3 sh t4 sp t5 nd t6 st) fe) dk (lst ys ed)).M κ))) (aa.up H4.k RA rfl) (by left) (by left) (by left) (by left) (by right) (oM (oH y2 lK)) (by left) (by left) (by left) (by left) (by left) (oM (oH y2 lQ)) (oM (oH y3 (oF (oH y2 lQ)))) (oM (oF (oH y3 (oF (oH y2 lQ))))) (oM (oH y2 dU)) (oM (oH y3 (oF (oH y2 dU)))) (oM (oF (oH y3 (oF (oH y2 dU))))) Bx (by left) ?_ (by k_in) (by k_in) (by k_in) (TT.kp K4 bI) hit Rt (K4.keep cf _ ak yH.2) (K4.keep fl _ ak pX.2) T4 (H4.get 2 rfl) (H4.get 3 rfl) fun h5 aY zs ea K5 hzs Cj Rw hL=>?_)
 ·intro a ha
  rcases mA ha with ha|ha
  ·exact(by k_in:∀x,x∈([⇑h2,⇑h3,⇑h3+1]:List Nat)→x<⇑h3+2) a ha
  rcases mA ha with ha|ha
  ·rcases mC ha with rfl|ha
   ·show @LT.lt Nat instLTNat _ _;exact oF (oH y3 (oF (oH y2 dU)))
   ·have:=List.mem_range.mp ha;show @LT.lt Nat instLTNat _ _;exact oF (oH y3 (oF (oH y2 (oK aN (oI g1 (Oj this rfl))))))
  ·exact aJ (lM a (by k_in)) (by left)
 have z5:=K5.size
 have vH:Kp [fr] h h5:=K4.step K5 (by k_in)
 have f5:h5.get? fr=some (ai (F7 J.P t0 sc t1 m tm t2 nu t3 sh t4 sp t5 nd t6 st) fe):=K5.keep _ _ (by exact #[0x11010101710101017100010171c40433151c30422322113,fr,⇑h,⇑h2,⇑h3] aN y2 y3) (H4.get 0 rfl)
 ac_rfl
 obtain⟨PQ,pl,hPQ⟩:=GW (p:=fun j (kv:Int×Value)=>∃p t a e,zs[j]? =some (.ref p)∧(kvs[j]?).map (·.1)=some kv.1∧kv.2=.ref a∧view ([⇑h2,⇑h3,⇑h3+1]++(fl::List.range 534++([]++(I2 F st fr (ai (F7 J.P t0 sc t1 m tm t2 nu t3 sh t4 sp t5 nd t6 st) fe) dk (lst ys ed)).M κ))) h5 p (tup [.int kv.1 t,.ref a])∧view ([⇑h2,⇑h3,⇑h3+1]++(fl::List.range 534++([]++(I2 F st fr (ai (F7 J.P t0 sc t1 m tm t2 nu t3 sh t4 sp t5 nd t6 st) fe) dk (lst ys ed)).M κ))) h5 a (lst (fs.take kv.1.toNat) e)) kvs.length (fun j hj=>by
  ac_rfl
  obtain⟨p,a,t,e,e1,e2,e3⟩:=Rw j _ _ (a_ hj) (List.getElem?_eq_getElem (Cj▸hj))
  exact⟨(kvs[j].1,.ref a),p,t,a,e,by rw[List.getElem?_eq_getElem (Cj▸hj),e1],by rw[a_ hj];rfl,rfl,e2,e3⟩)
 have hpk:PQ.map (·.1)=bE C C.m:=by
  rw[←kC]
  refine List.ext_getElem (by simp[pl]) fun j q1 q2=>?_
  have qW:j<PQ.length:=by simpa using q1
  have qX:j<kvs.length:=by simpa using q2
  obtain⟨p,t,a,e,_,e2,_⟩:=hPQ j _ (a_ qW)
  rw[a_ qX]at e2
  rw[List.getElem_map,List.getElem_map]
  exact(bV e2).symm
 have fin:∀h6 h7 h8 fT (d t7:Nat),Kp [fr,⇑h3,⇑h3+1] h5 h6→Kp [] h6 h7→⇑h6≤d→h7.DictOf (intKind pw J.W) d PQ→(∃m8,Kp m8 h7 h8∧∀(a:Nat),a∈m8→a∈([fr,⇑h3,⇑h3+1]:List Nat)∨(⇑h5≤a∧a<⇑h6))→h8.get? fr=some (ai (F8 J.P t0 sc t1 m tm t2 nu t3 sh t4 sp t5 nd t6 st t7 d) (fe+1))→wpAny J.M A (execs rest (bC J.P fr cd cw cp cf)) Q E (J.S h8 fT):=fun h6 h7 h8 fT d t7 K6 K7 ld hd Rx f8=>by
  ac_rfl
  obtain⟨m8,K8,GY⟩:=Rx
  have s6:=K6.size
  have s7:=K7.size
  have s8:=K8.size
  have k8:∀(a:Nat),a∉([fr,⇑h3,⇑h3+1]:List Nat)→(a<⇑h5∨⇑h6≤a)→a∉m8:=fun a h1 h2 q=>by
   rcases GY a q with z|z
   ·exact h1 z
   ·lia
  have yI:Kp [fr] h h8:=((vH.step K6 (by k_in)).step K7 (by k_in)).step K8 (fun(a:Nat) ha=>by
   rcases GY a ha with z|z
   ·exact kAc (P:=fun a=>a∈[fr]∨⇑h≤a) (.inl (by k_in)) (kAc (.inr (by left)) (kAc (.inr (by left)) kAn)) a z
   ·exact .inr (ox y2.symm (oI z.1 (oI z5 (oG y4 (oE (oG y3 oA)))))))
  refine bu.fS hd fun aH hao hdo=>?_
  have GZ:h8.get? d=some aH:=K8.keep _ _ (k8 d (by exact #[0x111111000000b11111000000b11111010101b1c40413857608706502c40521c30422322117,fr,⇑h,⇑h2,⇑h3,⇑h4,⇑h5,⇑h6,d] aN y2 y3 y4 z5 ld s6) (.inr ld)) hao
  have R:=x.rebase (F:=F) (Y:=[(fr,ai (F8 J.P t0 sc t1 m tm t2 nu t3 sh t4 sp t5 nd t6 st t7 d) (fe+1)),(dk,lst ys ed),(d,aH)]) (S':=T) yI (fun a ha=>.inl (by rw[mS ha];exact kMi 0 rfl)) bI (c_ ⟨.inl (by k_in),f8⟩ (c_ ⟨.inl (by k_in),yI.keep dk _ ak (x.ys (dk,_) (b_ 1 rfl))⟩ (c_ ⟨.inr (show ⇑h≤d by left),GZ⟩ iU))) (by
   have aA:dk<⇑h:=x.lt dk (by k_in)
   show([fr,dk,d]:List Nat).Nodup
   exact sE) (.inl rfl) (by
   have lF:F<⇑h:=x.lt F (by k_in)
   show F∉([fr,dk,d]:List Nat)
   exact(by exact kNc u3 (kNc u4 (kNc (#[0x1101111101010c71832816507605402c30421c10322127,⇑h2,⇑h,⇑h3,⇑h4,⇑h5,⇑h6,d,F] y2 y3 y4 z5 ld s6 lF) kNn)))) (by
   refine x.gW fun vs e g1 g2=>?_
   exact⟨vs,e,yI.keep F _ ak g1,g2⟩) rfl rfl rfl
  obtain⟨x8,V8⟩:=R
  have vn:∀a o,view ([⇑h2,⇑h3,⇑h3+1]++(fl::List.range 534++([]++(I2 F st fr (ai (F7 J.P t0 sc t1 m tm t2 nu t3 sh t4 sp t5 nd t6 st) fe) dk (lst ys ed)).M κ))) h5 a o→VA (I3 F st fr (ai (F8 J.P t0 sc t1 m tm t2 nu t3 sh t4 sp t5 nd t6 st t7 d) (fe+1)) dk (lst ys ed) d aH) κ h8 fl a o:=fun(a:Nat) o v=>by
   have la:a<⇑h5:=aj v.2
   have v1:a∉([⇑h2,⇑h3,⇑h3+1]++(fl::List.range 534++(F::(st+1)::(st+2)::([fr,dk]++κ))):List Nat):=v.1
   simp only[List.mem_range,eZ,List.mem_append,not_or,g9,or_false,List.cons_append,List.nil_append]at v1
   ac_rfl
   obtain⟨r1,r2,r3,ra,rb,r4,r5,r6,r7,r8,r9⟩:=v1
   refine⟨⟨?_,K8.keep _ _ (k8 a bw (.inl la)) (K7.keep _ _ (by k_in) (K6.keep _ _ bw v.2))⟩,ra,Nat.le_of_not_lt rb⟩
   show a∉(F::(st+1)::(st+2)::([fr,dk,d]++κ):List Nat)
   simp only[eZ,List.mem_append,not_or,g9,or_false,List.cons_append,List.nil_append]
   exact⟨r4,r5,r6,r7,r8,oM (oJ ld (oJ s6 la)),r9⟩
  refine H h8 fT (fe+1) t7 d aH ⟨x8,L,by rw[hs];exact oR,bY.kp yI ak,⟨PQ,bu.at GZ hdo,hpk,fun j kv hj=>?_⟩,V8 _ _ yH,⟨fs,ef,V8 _ _ pX,hfs⟩,V8 _ _ Rq⟩ V8
  ac_rfl
  obtain⟨p,t,a,e,e1,e2,e3,e4,e5⟩:=hPQ j kv hj
  exact⟨a,_,e,e3,vn _ _ e5,hfs.take _⟩
 have pq:∀h6,Kp [fr,⇑h3,⇑h3+1] h5 h6→Cm h6 PQ zs:=fun h6 K6=>⟨Cj.trans pl.symm,fun j kv y q1 q2=>by
  ac_rfl
  obtain⟨p,t,a,e,e1,e2,e3,e4,e5⟩:=hPQ j kv q1
  rw[q2]at e1
  have np:=e4.1
  simp only[List.mem_append,eZ,not_or,g9,or_false]at np
  have nf:p≠fr:=fun e=>e4.1 (by rw[e];exact kMr (kMr (kMr (kMi 3 rfl))))
  exact⟨p,t,bV e1,by rw[e3];exact K6.keep _ _ (by simp only[eZ,g9,or_false,not_or];exact⟨nf,np.1.2.1,np.1.2.2⟩) e4.2⟩⟩
 have hnd:(PQ.map (·.1)).Nodup:=hpk▸yg C C.m
 have m8:∀{A:Around}{mods:List Addr}{s:Sg}{h6:Heap}(H6:At A h mods h5 s h6)(e:s.mu.map (·.1)=[fr,⇑h3,⇑h3+1]),∀a∈bZ s.r,a∈([fr,⇑h3,⇑h3+1]:List Nat)∨(⇑h5≤a∧a<⇑h6):=fun H6 e a ha=>
  (At.eO (hb:=h5) (M:=[fr,⇑h3,⇑h3+1]) H6 (bl) (fun _ q=>.inl (e▸q)) a ha).imp id fun z=>⟨z,H6.mlt a ha⟩
 rcases hL with⟨_,le,hL⟩|⟨t5,y5,le,hL⟩
 ·refine cJ.Ry (k:=⇑h5) (RA.less rfl) B H4.k (jQ (a:=fr) (b:=⇑h3) (c:=⇑h3+1) vH f5 hzs hL (oM (oJ (ox y2.symm (oG y3 oA)) aN)) (oM (oF (oJ (ox y2.symm (oG y3 oA)) aN))) (by left) (.inl (by k_in)) (.inr (by left)) (.inr (by left))) (fun h6 gG H6=>.code ?_)
  have S6:Kp [fr,⇑h3,⇑h3+1] h5 h6:=H6.seg
  refine G0 (aa.up H6.k RA rfl) (TT.kp H6.kp bI) (H6.get 1 rfl) (pq h6 S6) hnd (by left) fun h7 d_ d K7 ld hd=>?_
  refine cJ.Rz (m:=d) (n:=⇑h7) (RA.less rfl) B H6.k (H6.rep.grow K7) (fun h8 fT H8=>?_)
  exact fin h6 h7 h8 fT d _ S6 K7 ld hd ⟨_,H8.seg,m8 H6 rfl⟩ (H8.get 0 rfl)
 ·refine cJ.b3 (k:=⇑h5) (RA.less rfl) B H4.k (jQ (a:=fr) (b:=⇑h3) (c:=⇑h3+1) vH f5 hzs hL (oM (oJ (ox y2.symm (oG y3 oA)) aN)) (oM (oF (oJ (ox y2.symm (oG y3 oA)) aN))) (by left) (.inl (by k_in)) (.inr (by left)) (.inr (by left))) (fun h6 gG H6=>.code ?_)
  have S6:Kp [fr,⇑h3,⇑h3+1] h5 h6:=H6.seg
  refine G0 (aa.up H6.k RA rfl) (TT.kp H6.kp bI) (H6.get 1 rfl) (pq h6 S6) hnd (by left) fun h7 d_ d K7 ld hd=>?_
  refine cJ.b4 (m:=d) (n:=⇑h7) (RA.less rfl) B H6.k (H6.rep.grow K7) (fun h8 fT H8=>?_)
  exact fin h6 h7 h8 fT d _ S6 K7 ld hd ⟨_,H8.seg,m8 H6 rfl⟩ (H8.get 0 rfl)
end
end
section
variable [Zero Heap]
section
variable {P:Params}{w:World}{C:Cfg}{cx:Bool}{fr dk ah St cf fl cd:Nat}{fo fm:Obj}{f:Nat→List Sh}{n F F':Nat}{κ:List Addr}{T T':MS}{aI aH gZ f_:Obj}{h h':Heap}
theorem dW.move(x:dW P w C cx fr dk ah St cf fl cd fo f n F κ T aI aH h){m:List Addr}(K:Kp m h h')(hm:∀(a:Nat),a∈m→a=fr∨a=dk∨a=ah∨⇑h≤a)(e1:h'.get? fr=some fm)(e2:h'.get? dk=some gZ)(e3:h'.get? ah=some f_)
 (hF:F'=F∨⇑h≤F') (fs:∃vs e,h'.get? F'=some (lst (refs vs) e)∧ff P w (IV (I3 F St fr fo dk aI ah aH) κ h) κ T'.fs vs) (q1:T'.σ=T.σ) (q2:T'.kept=T.kept) (q3:T'.shown=T.shown):
 Inv P w (I3 F' St fr fm dk gZ ah f_) [] κ T' h'∧(∀a o,IV (I3 F St fr fo dk aI ah aH) κ h a o→IV (I3 F' St fr fm dk gZ ah f_) κ h' a o):=by
 have nd:=x.inv.nd
 have lt:=x.inv.lt
 have lf:fr<⇑h:=lt fr (by k_in)
 have ld:dk<⇑h:=lt dk (by k_in)
 have la:ah<⇑h:=lt ah (by k_in)
 have fh:534≤⇑h:=x.inv.fh
 refine uZ nd fun u1 u2 u3 u4 u5 _ _ _ _ _ _ _ v1 v2 v4=>?_
 refine x.inv.rebase (F:=F') (Y:=[(fr,fm),(dk,gZ),(ah,f_)]) (S':=T') K (fun(a:Nat) ha=>?_) (fun(a:Nat) ha=>?_) ?_ ?_ hF ?_ fs q1 q2 q3
 ·exact Fj (P:=fun a=>a∈([fr,dk,ah]:List Nat)∨⇑h≤a) (hm a ha) (.inl (kMi 0 rfl)) (.inl (kMi 1 rfl)) (.inl (kMi 2 rfl)) .inr
 ·exact Fj (P:=fun a=>534≤a) (hm a ha) (x.inv.lo _ (kMi 3 rfl)) (x.inv.lo _ (kMi 4 rfl)) (x.inv.lo _ (kMi 5 rfl)) fun z=>aq fh z
 ·exact c_ ⟨.inl (by k_in),e1⟩ (c_ ⟨.inl (by k_in),e2⟩ (c_ ⟨.inl (by k_in),e3⟩ iU))
 ·show([fr,dk,ah]:List Nat).Nodup
  exact sE
 ·show F'∉([fr,dk,ah]:List Nat)
  refine hF.elim (fun e=>by rw[e];exact bw) fun z=>?_
  ·exact(by exact #[0x11110051101051100154313555202412312114,fr,⇑h,dk,ah,F'] lf ld la z)
theorem dW.ai(x:dW P w C cx fr dk ah St cf fl cd fo f n F κ T aI aH h)(K:Kp [fr] h h')(e1:h'.get? fr=some fm):
 dW P w C cx fr dk ah St cf fl cd fm f n F κ T aI aH h'∧(∀a o,IV (I3 F St fr fo dk aI ah aH) κ h a o→IV (I3 F St fr fm dk aI ah aH) κ h' a o):=by
 have nd:=x.inv.nd
 refine uZ nd fun u1 u2 u3 u4 u5 _ _ _ _ _ _ _ v1 v2 v4=>?_
 refine x.inv.gW fun vs e g1 g2=>?_
 have R:=x.move (F':=F) (T':=T) K (fun a ha=>.inl (mS ha)) e1 (K.keep dk _ ak (x.inv.ys (dk,aI) (by simp))) (K.keep ah _ ak (x.inv.ys (ah,aH) (b_ 2 rfl))) (.inl rfl) ⟨vs,e,K.keep F _ ak g1,g2⟩ rfl rfl rfl
 ac_rfl
 obtain⟨i,V⟩:=R
 obtain⟨PQ,a1,a2⟩:=x.i6
 obtain⟨fs,ef,b1,b2⟩:=x.hfl
 refine bu.fS a1 fun o ho hd=>?_
 exact⟨⟨i,x.jO,x.shown,x.bY.kp K ak,⟨PQ,bu.at (K.keep ah _ ak ho) hd,a2.mono fun a o v=>⟨V a o v.1,v.2⟩⟩,V _ _ x.hcf,⟨fs,ef,V _ _ b1,b2⟩,V _ _ x.hcd⟩,V⟩
theorem dW.tK(x:dW P w C cx fr dk ah St cf fl cd fo f n F κ T aI aH h):h.get? fr=some fo:=x.inv.ys (fr,fo) (b_ 0 rfl)
theorem dW.facts(x:dW P w C cx fr dk ah St cf fl cd fo f n F κ T aI aH h):534≤fr∧534≤dk∧534≤ah∧534≤St+1∧fr≠dk∧fr≠ah∧dk≠ah∧St+1≠fr∧St+1≠dk∧St+1≠ah∧St+2≠fr∧St+2≠dk∧St+2≠ah∧St≠fr∧St≠dk∧St≠ah∧cf≠fr∧cf≠dk∧cf≠ah∧fl≠fr∧fl≠dk∧fl≠ah∧cd≠fr∧cd≠dk∧cd≠ah:=by
 have nd:=x.inv.nd
 refine x.inv.e_ fun t8 t9 se iu=>?_
 ac_rfl
 obtain⟨fs,ef,pX,_⟩:=x.hfl
 have q1:St∉(F::(St+1)::(St+2)::([fr,dk,ah]++κ):List Nat):=iu.1
 have q2:cf∉(F::(St+1)::(St+2)::([fr,dk,ah]++κ):List Nat):=x.hcf.1
 have q3:fl∉(F::(St+1)::(St+2)::([fr,dk,ah]++κ):List Nat):=pX.1
 have q4:cd∉(F::(St+1)::(St+2)::([fr,dk,ah]++κ):List Nat):=x.hcd.1
 have l1:534≤fr:=x.inv.lo fr (by k_in)
 have l2:534≤dk:=x.inv.lo dk (by k_in)
 have l3:534≤ah:=x.inv.lo ah (by k_in)
 have l4:534≤St+1:=x.inv.lo (St+1) (by k_in)
 refine uZ nd fun _ _ _ _ _ u1 u2 u3 u4 u5 u6 u7 v1 v2 v4=>?_
 refine xW q1 fun _ _ _ a1 a2 a3=>xW q2 fun _ _ _ a4 a5 a6=>xW q3 fun _ _ _ a7 a8 a9=>xW q4 fun _ _ _ b1 b2 b3=>?_
 exact⟨l1,l2,l3,l4,v1,v2,v4,u2,u3,u4,u5,u6,u7,a1,a2,a3,a4,a5,a6,a7,a8,a9,b1,b2,b3⟩
theorem dW.PW{G:Prop}(x:dW P w C cx fr dk ah St cf fl cd fo f n F κ T aI aH h)(k:534≤fr→534≤dk→534≤ah→534≤St+1→fr≠dk→fr≠ah→dk≠ah→G):G:=by
 obtain⟨a0,a1,a2,a3,a4,a5,a6,_⟩:=x.facts
 exact k a0 a1 a2 a3 a4 a5 a6
theorem dW.RD{G:Prop}(x:dW P w C cx fr dk ah St cf fl cd fo f n F κ T aI aH h)(k:534≤fr→534≤dk→534≤ah→534≤St+1→fr≠dk→fr≠ah→dk≠ah→St+1≠fr→St+1≠dk→St+1≠ah→St+2≠fr→St+2≠dk→St+2≠ah→St≠fr→G):G:=by
 obtain⟨a0,a1,a2,a3,a4,a5,a6,a7,a8,a9,vI,vJ,G9,G_,_⟩:=x.facts
 exact k a0 a1 a2 a3 a4 a5 a6 a7 a8 a9 vI vJ G9 G_
theorem dW.PY{G:Prop}(x:dW P w C cx fr dk ah St cf fl cd fo f n F κ T aI aH h)(k:cd≠fr→cd≠dk→cd≠ah→G):G:=by
 obtain⟨_,_,_,_,_,_,_,_,_,_,_,_,_,_,_,_,_,_,_,_,_,_,a,b,c⟩:=x.facts
 exact k a b c
theorem x_{w:World}{o:Obj}{kvs:List (Int×Value)}(x:bu w o kvs):∃es ep,o=dct es ep:=by
 obtain⟨es,ep,⟨q1,q2,q3⟩,dK,_⟩:=x
 obtain⟨a,b,c,d⟩:=o
 simp only at q1 q2 q3 dK
 subst q1 q2 q3 dK
 exact⟨es.toList,ep,rfl⟩
theorem dW.RE(x:dW P w C cx fr dk ah St cf fl cd fo f n F κ T aI aH h)(m4:C.m≤4):∃t8 t9 se es ep kvs,IV (I3 F St fr fo dk aI ah aH) κ h St (iT P t8 t9 (St+1) (St+2) se)∧h.get? (St+1)=some (dct es ep)∧bu w (dct es ep) kvs∧kvs.map (·.1)=bE C C.m∧kvs.length≤4∧
 ∀(j:Nat)(kv:Int×Value)(af:Int×List bG),kvs[j]? =some kv→T.kept[j]? =some af→kv.1=af.1∧∃m vs e,kv.2=.ref m∧IV (I3 F St fr fo dk aI ah aH) κ h m (lst (refs vs) e)∧ff P w (IV (I3 F St fr fo dk aI ah aH) κ h) κ af.2 vs:=by
 refine x.inv.e_ fun t8 t9 se iu=>?_
 refine x.inv.qQ fun kvs hK kl hkv=>?_
 ac_rfl
 obtain⟨oK,es,ep,eK,cK,dK,rK⟩:=id hK
 have Ci:oK=dct es.toList ep:=by
  ac_rfl
  obtain⟨q1,q2,q3⟩:=cK
  obtain⟨a,b,c,d⟩:=oK
  simp only at q1 q2 q3 dK
  subst q1 q2 q3 dK
  exact rfl
 subst Ci
 have kC:kvs.map (·.1)=bE C C.m:=by
  rw[←x.jO.keys]
  refine List.ext_getElem (by simp[kl]) fun j q1 q2=>?_
  have qW:j<kvs.length:=by simpa using q1
  have qX:j<T.kept.length:=by simpa using q2
  rw[List.getElem_map,List.getElem_map]
  exact(hkv j _ _ (a_ qW) (a_ qX)).1
 refine⟨t8,t9,se,es.toList,ep,kvs,iu,eK,⟨es,ep,cK,dK,rK⟩,kC,?_,hkv⟩
 have k:=congrArg List.length kC
 have k2:=qT C C.m
 rw[List.length_map]at k
 lia
end
theorem RG{C:Cfg}{ns:List Int}(hp:ns.Perm (bE C C.m))(hs:ns.Pairwise (·≤·)):ns=bE C C.m:=by
 refine List.Perm.eq_of_pairwise (le:=(·≤·)) (fun a b _ _ h1 h2=>by lia) hs ?_ hp
 unfold bE
 rw[List.pairwise_map]
 exact List.Pairwise.imp (fun{i j} q=>by lia) ((List.pairwise_lt_range (n:=C.m)).filter _)
theorem RH(P:Params):aF P 12=.If (.Compare (fB (aL (aF P 12))) [.NotEq] [fC (aL (aF P 12))] (jx (aL (aF P 12)))) (iG (aF P 12)) [] (qB (aF P 12)):=by kernel_rfl
section
variable {J:WX}{A:Around}{E:Value→Shared→Prop}{h:Heap}{tk:Nat}{Q:Flow→Shared→Prop}{rest:List Stmt}{fr cd cw cp cf sc t0 t1 m tm t2 nu t3 sh t4 sp t5 nd t6 st t7 ah fe:Nat}
theorem Qe{C:Cfg}{cx:Bool}{f:Nat→List Sh}{dk fl F n pl ep:Nat}{κ:List Addr}{T:MS}{aI aH:Obj}{gs:List Value}{ps:List (Nd×Sh)}(RA:aa A 138)(x:dW J.P J.W C cx fr dk ah st cf fl cd (ai (F8 J.P t0 sc t1 m tm t2 nu t3 sh t4 sp t5 nd t6 st t7 ah) fe) f n F κ T aI aH h)
 (RI:IV (I3 F st fr (ai (F8 J.P t0 sc t1 m tm t2 nu t3 sh t4 sp t5 nd t6 st t7 ah) fe) dk aI ah aH) κ h cp (bL (.ref pl))) (RJ:IV (I3 F st fr (ai (F8 J.P t0 sc t1 m tm t2 nu t3 sh t4 sp t5 nd t6 st t7 ah) fe) dk aI ah aH) κ h pl (lst gs ep))
 (hgs:fW J.P (IV (I3 F st fr (ai (F8 J.P t0 sc t1 m tm t2 nu t3 sh t4 sp t5 nd t6 st t7 ah) fe) dk aI ah aH) κ h) ps gs) (hm:ps.length=m) (p6:C.m=m) (m1:1≤m) (m4:m≤4) (qF:∀(j:Nat) x,ps[j]? =some x→qE x.1∧C.cl j=!gA x.1)
 (H:∀h' tk',dW J.P J.W C cx fr dk ah st cf fl cd (ai (F8 J.P t0 sc t1 m tm t2 nu t3 sh t4 sp t5 nd t6 st t7 ah) fe) f n F κ T aI aH h'→
  wpAny J.M A (execs rest (bC J.P fr cd cw cp cf)) Q E (J.S h' tk')):
 wpAny J.M A (execs (aF J.P 12::rest) (bC J.P fr cd cw cp cf)) Q E (J.S h tk):=by
 refine x.RD fun g1 g2 g3 g4 n1 n2 n3 n4 n5 n6 n7 n8 n9 sW=>?_
 have TT:=x.inv.top
 have hfr:=x.tK
 have aN:fr<⇑h:=aj hfr
 obtain⟨t8,t9,se,es,ek,kvs,iu,eK,dK,kC,GX,_⟩:=x.RE (ox p6 m4)
 have B:=aG (prog:=pw) (w:=J.W) (mods:=[fr]) TT bI (ro:=[(st,_),(st+1,_)]) (rC iu.2 ak (rC eK ak rN))
 rw[RH]
 let vv:Vv:=jj fr fe t0 sc t1 tm t2 nu t3 sh t4 sp t5 nd t6 st t7 ah cd cw cp cf t8 t9 (st+1) (st+2) se ek ⇑h tk 0 0 0 0 0 0 0 m 0 0 0 .none .none .none .none .none [] es []
 refine wpAny_execs_cons (wpAny_If (wpAny_isTrue_Compare1 (eH (vK.b0 vv rfl (RA.less rfl) B (cQ .refl hfr (.inl (by k_in))) (fun h1 aB H1=>.code (yh (H1.kp.keep st _ ak iu.2) fun ao=>?_)))) rfl))
 refine vK.b1 (RA.less rfl) B H1.k H1.rep (fun h2 az H2=>.call (Fp (d:=st+1) (kvs:=kvs) (aa.up (m:=0) H2.k RA rfl).handled (bu.at (H2.kp.keep (st+1) _ ak eK) dK) g4 (oS GX rfl) fun h3 av a out e ns' k3 la ha hi hp RK=>?_))
 have hns:=RG (kC▸hp) RK
 subst hns
 have K2:Kp [fr] h h2:=H2.kp
 have s3:⇑h2≤⇑h3:=aq la (Nat.le_of_lt (aj ha))
 have RL:Kp [] h2 h3:=⟨fun b o _ e=>k3 b o e,s3⟩
 refine vK.b2 (b:=a) (c:=⇑h3) (RA.less rfl) B H2.k (H2.rep.grow RL) (fun h4 aY H4=>?_)
 have K4:Kp [fr] h h4:=H4.kp
 have yi:Kp (bZ (vK.s1 J _ ao).r) h3 h4:=H4.seg
 have cg:h4.get? a=some (lst out e):=yi.keep _ _ (fun q=>Nat.lt_irrefl _ (aJ (H2.mlt _ q) la)) ha
 have Xk:⇑h2≤⇑h4:=aq s3 yi.size
 have f4:=H4.get 0 rfl
 obtain⟨x4,V4⟩:=x.ai K4 f4
 have kD:=x4.inv.top
 have B4:=aG (prog:=pw) (w:=J.W) (mods:=[fr]) kD bI (ro:=[]) trivial
 show wpAny _ _ _ _ _ _
 let vv:Vv:=fD fr fe t0 sc t1 tm t2 nu t3 sh t4 sp t5 nd t6 st t7 ah cd cw cp cf ⇑h4 aY 0 0 0 m 0 .none [] [] [] []
 refine eH (yJ.b0 vv rfl (RA.less rfl) B4 (cQ .refl f4 (.inl (by k_in))) (fun h5 gG H5=>.code (xY (n:=(m:Int)) (H5.get 1 rfl) (pS (oS m4 rfl)).1 (pS (oS m4 rfl)).2 fun h6 N6=>?_)))
 have y5:⇑h5=⇑h4+1:=H5.size
 have y6:⇑h6=⇑h5+1:=N6.size
 refine yJ.b1 (a:=⇑h5) (b:=⇑h6) (RA.less rfl) B4 H5.k (by have e:=N6.at_;rw[H5.size]at e⊢;exact H5.rep.new N6.kp e) (fun h7 d_ H7=>.code ?_)
 have y7:⇑h7=⇑h6+2:=H7.size
 have K7:Kp [fr] h4 h7:=H7.kp
 have rq:gs.length=m:=by rw[hgs.1,hm]
 have Hf:IsRangeIter h7 ⇑h5 ((0:Nat):Int) gs.length 1:=by rw[rq];exact H7.get 1 rfl
 have T7:Tl [⇑h5] h7:=gC (c:=⇑h6+1) (H7.get 3 rfl) y7 (oF (oH y6 (oD rfl)))
 have lM:=x4.inv.lt
 have fh:534≤⇑h4:=x4.inv.fh
 have tO:fr<⇑h4:=aj f4
 have vD:∀a o,IV (I3 F st fr (ai (F8 J.P t0 sc t1 m tm t2 nu t3 sh t4 sp t5 nd t6 st t7 ah) fe) dk aI ah aH) κ h4 a o→view ([⇑h5,⇑h6,⇑h6+1]++([]++(I3 F st fr (ai (F8 J.P t0 sc t1 m tm t2 nu t3 sh t4 sp t5 nd t6 st t7 ah) fe) dk aI ah aH).M κ)) h7 a o:=fun a o v=>aO K7 (by k_in) a o (gI (ic (by k_in)) a o v)
 have pc:=V4 _ _ RI
 have pp:=V4 _ _ RJ
 have RM:cp∉(F::(st+1)::(st+2)::([fr,dk,ah]++κ):List Nat):=pc.1
 have RN:pl∉(F::(st+1)::(st+2)::([fr,dk,ah]++κ):List Nat):=pp.1
 refine gS RM fun _ _ _ nc=>gS RN fun _ _ _ np=>?_
 have jP:cp<⇑h4:=aj pc.2
 have bK:pl<⇑h4:=aj pp.2
 refine RO Hf (Mb (cp:=cp) (pl:=pl) (it:=⇑h5) (acc:=⇑h6) (L:=⇑h6+1) (fr:=fr) (cl:=C.cl) (ps:=ps) (D:=[⇑h5,⇑h6,⇑h6+1]++([]++(I3 F st fr (ai (F8 J.P t0 sc t1 m tm t2 nu t3 sh t4 sp t5 nd t6 st t7 ah) fe) dk aI ah aH).M κ)) (aa.up H7.k RA rfl) (ox rq (oS m4 rfl)) (oM (oH y6 (oD rfl))) (oM (oF (oH y6 (oD rfl)))) (oX rfl) (oI (oG y5 (ol oA tO)) g1) (oI (oG y6 (oE (oG y5 (ol oA tO)))) g1) (oE (oI (oG y6 (oE (oG y5 (ol oA tO)))) g1)) (oM (oH y5 (oF jP))) (oM (oH y6 (oF (oH y5 (oF jP))))) (oM (oF (oH y6 (oF (oH y5 (oF jP)))))) (oM (oH y5 (oF bK))) (oM (oH y6 (oF (oH y5 (oF bK))))) (oM (oF (oH y6 (oF (oH y5 (oF bK)))))) (by k_in) (by k_in) (by k_in) qF (kD.kp K7 bI) Hf (K7.keep cp _ ak pc.2) (K7.keep pl _ ak pp.2) ((hgs.mono V4).mono vD) T7 (H7.get 2 rfl) (H7.get 3 rfl) fun h8 fT zs ea K8 hzs fX hL=>?_)
 refine hL.gX (oG rq m1) fun a1 a2 a3 hL=>?_
 have z8:=K8.size
 have RQ:Kp [fr] h4 h8:=K7.step K8 (by k_in)
 have f8:h8.get? fr=some _:=K8.keep _ _ (by exact #[0x11011010710110107101001071c30313452411c10321c20123,⇑h5,⇑h4,⇑h6,fr] y5 y6 tO) (H7.get 0 rfl)
 refine yJ.b2 (i:=⇑h8) (RA.less rfl) B4 H7.k (jQ (a:=fr) (b:=⇑h6) (c:=⇑h6+1) RQ f8 hzs hL (oM (oH y6 (oF (oH y5 (oF tO))))) (oM (oF (oH y6 (oF (oH y5 (oF tO)))))) (oW rfl) (.inl (by k_in)) (.inr (oG y6 (oE (oG y5 oA)))) (.inr (oE (oG y6 (oE (oG y5 oA)))))) (fun h9 ie H9=>?_)
 have K9:Kp [fr] h4 h9:=H9.kp
 obtain⟨x9,_⟩:=x4.ai K9 (H9.get 0 rfl)
 have la':⇑h2≤a:=la
 have yG:=K2.size
 show wpAny _ _ _ _ _ _
 refine Rb (ns:=bE C C.m) (K9.keep a _ (by exact #[0x11111411453204302113,fr,⇑h,⇑h2,a] aN la yG) cg) (H9.get 1 rfl) hi (by rw[rq,←p6]at fX;exact fX) (by have:=RA.units;exact #[0x11123111321011,A.units,10*138,cLine] this) ?_
 exact wpAny_execs_nil (H h9 ie x9)
end
end
section
variable [Zero Heap]
theorem Tc(a b:Addr)(es:List DictEntry)(e1 e2:Nat)(ha:a≠sysModules)(hb:b≠sysModules):
 Meets (Builtin.«dict.__ne__» ⟨[.ref a,.ref b],[]⟩) (fun _ R s=>s.heap.get? a=some (dct es e1)∧s.heap.get? b=some (dct [] e2)∧R (.ok (.ret (.bool (!es.isEmpty)))) s):=fun prog w A R s h=>by
 obtain⟨h1,h2,H⟩:=h
 have T1:s.TypeIs (.ref a) "dict":=⟨_,h1,rfl⟩
 have T2:s.TypeIs (.ref b) "dict":=⟨_,h2,rfl⟩
 have na:(a==sysModules)=false:=beq_eq_false_iff_ne.mpr ha
 have nb:(b==sysModules)=false:=beq_eq_false_iff_ne.mpr hb
 unfold Builtin.«dict.__ne__»
 show wpAny _ _ (Builtin.Dict.dictSlotArgs "__ne__" ⟨[.ref a,.ref b],[]⟩>>=_) _ _ _
 refine wpAny_bind ?_
 unfold Builtin.Dict.dictSlotArgs
 refine wpAny_bind (wpAny_notOrdered_dict T1 ?_)
 show wpAny _ _ (pure (Value.ref a,Value.ref b)) _ _ _
 refine wpAny_pure ?_
 refine wpAny_bind (wpAny_isInstance T2 isSubtype_dict_dict ?_)
 simp only[Bool.not_true,Bool.false_eq_true,if_false]
 refine wpAny_bind (m:=Builtin.Dict.samePairs "dict.__ne__" a b) ?_
 have fin:∀c,(c==false)=!es.isEmpty→wpAny (model prog w) A.in1 (Sem.pure c:Sem Bool) (fun x s'=>wpAny (model prog w) A.in1 (ret (.bool (x==false))) (fun fin s'=>match fin with|.done f=>R (.ok f) s'|.again c'=>c'.quiet=true∧codeAny (model prog w) A c' R s') (fun e s'=>R (.error e) s') s') (fun e s'=>R (.error e) s') s:=fun c hc=>by
  refine wpAny_pure (wpAny_pure ?_)
  show R (.ok (.ret (.bool (c==false)))) s
  rw[hc];exact H
 unfold Builtin.Dict.samePairs
 unfold Builtin.Dict.showsAll
 rw[if_neg (by rw[na];exact Bool.false_ne_true),if_neg (by rw[nb];exact Bool.false_ne_true)]
 refine wpAny_bind (wpAny_pure (wpAny_bind (wpAny_pure ?_)))
 refine wpAny_bind (wpAny_dictEntries h1 rfl ?_)
 refine wpAny_bind (wpAny_dictEntries h2 rfl ?_)
 cases es with
 |nil=>
  rw[if_neg (by simp)]
  refine wpAny_bind (wpAny_dictEpoch h1 rfl ?_)
  refine wpAny_bind (m:=forIn _ _ _) (wpAny_of_eq (a:=(none,())) ?_ (fin true rfl))
  rw[Std.Legacy.Range.forIn_eq_forIn_range']
  rfl
 |cons x es=>
  rw[if_pos (by simp)]
  exact wpAny_bind (wpAny_rule (fin false rfl))
section
variable {prog:Program}{w:World}{A:Around}{E:Value→Shared→Prop}{s:Shared}
theorem ya{a:Nat}(h:534≤a):a≠sysModules:=by
 have e:sysModules<534:=by decide
 exact Nat.ne_of_gt (aJ e h)
theorem PX{a b:Addr}{es:List DictEntry}{e1 e2:Nat}{Q:Bool→Shared→Prop}(ha:s.heap.get? a=some (dct es e1))(hb:s.heap.get? b=some (dct [] e2))(g1:534≤a)(g2:534≤b)(hu:A.units<cLine)(H:Q (!es.isEmpty) s):
 wpAny (model prog w) A (compareOp .NotEq (.ref a) (.ref b)) (fun c s'=>wpAny (model prog w) A (truthy c) Q E s') E s:=by
 show wpAny _ _ (richCompare .NotEq (.ref a) (.ref b)) _ _ _
 refine richCompare_meets_room (op:=.NotEq) ⟨_,ha,rfl⟩ ⟨_,hb,rfl⟩ F.slot_dict_ne F.entry_dict_ne (F.args_dict_ne_2 _ _) (Tc a b es e1 e2 (ya g1) (ya g2)) ⟨ha,hb,?_⟩ hu
 show Value.bool (!es.isEmpty)≠Value.notImplemented∧wpAny (model prog w) A (truthy (.bool (!es.isEmpty))) Q E s
 exact⟨(fun x=>nomatch x),wpAny_truthy_bool H⟩
end
section
variable {J:WX}{A:Around}{R:RR}{h:Heap}{tk:Nat}{tgt:PySem.Expr}{body:List Stmt}{env:Env}{k:Nat}
theorem O7{it d ep:Nat}{kvs:List (Int×Value)}{q:Int}{y:Value}(hit:h.IsKeyIter it d k kvs.length ep)(hd:h.DictAt (intKind pw J.W) d kvs ep)(hx:kvs[k]? =some (q,y))(ht:∀v,letOwnedTupleGo tgt (.ref it) v=pure ())
 (H:∀h' t,h'.IsKeyIter it d (k+1) kvs.length ep→Heap.SameBut it h h'→
  wpAny J.M A (mX tgt (.ref it) body [] env (.int q t)) (X.postC pw J.W A (ay R)) (X.postE (ay R)) (J.S h' tk)):
 codeAny J.M A (.forLoop tgt (.ref it) body [] env) (ay R) (J.S h tk):=by
 refine codeAny_of_tree ?_
 show wpAny _ _ ((forTurn tgt (.ref it) body [] env).onRaise (fun x=>do noteFrame x env;theTreesLotGoes x)) _ _ _
 refine wpAny_noted ?_
 simp only[forTurn]
 refine wpAny_bind (wpAny_standAt (wpAny_bind (wpAny_onRaise (wpAny_pyNext_dict_item (s:=(J.S h tk)) hit hd hx fun key h' hk a1 a2=>?_))))
 obtain⟨t,rfl⟩:∃t,key=.int q t:=by
  have hk2:Value.isInt q key=true:=hk
  clear hk
  cases key<;>simp[Value.isInt]at hk2
  rename_i i t
  exact⟨t,by rw[hk2]⟩
 refine wpAny_bind (wpAny_of_eq (ht _) ?_)
 have H':=H h' t a1 a2
 rw[←zo]at H'
 exact wpAny_mono H' (fun f s' hf=>hf) (fun e s' he=>he.elim)
theorem O4{it d ep:Nat}{kvs:List (Int×Value)}(hh:A.handled=none)(hit:h.IsKeyIter it d k kvs.length ep)(hd:h.DictAt (intKind pw J.W) d kvs ep)(hx:kvs[k]? =none)
 (H:∀h',Heap.ExtBut it h h'→R (.ok .next) (J.S h' tk)):
 codeAny J.M A (.forLoop tgt (.ref it) body [] env) (ay R) (J.S h tk):=by
 refine codeAny_of_tree ?_
 show wpAny _ _ ((forTurn tgt (.ref it) body [] env).onRaise (fun x=>do noteFrame x env;theTreesLotGoes x)) _ _ _
 refine wpAny_noted ?_
 simp only[forTurn]
 refine wpAny_bind (wpAny_standAt (wpAny_bind (wpAny_onRaise (wpAny_pyNext_dict_end (s:=(J.S h tk)) hh hit hd hx fun h' a1=>?_))))
 refine wpAny_pure ⟨rfl,codeAny_block ?_⟩
 exact wpAny_pure (H h' a1)
theorem PD{it v:Value}{s:Shared}(H:wpAny J.M A (jg (Sem.bind (PySem.W.Fast.tw17772580674575903948 tgt env v) fun _=>Sem.pure .next)) (X.postC pw J.W A (rF fun _ s'=>wpAny J.M A (execs body env) (fun f s''=>match f with|.next=>codeAny J.M A (.forLoop tgt it body [] env) (ay R) s''|_=>False) (fun _ _=>False) s')) (X.postE (rF fun _ s'=>wpAny J.M A (execs body env) (fun f s''=>match f with|.next=>codeAny J.M A (.forLoop tgt it body [] env) (ay R) s''|_=>False) (fun _ _=>False) s')) s):
 wpAny J.M A (mX tgt it body [] env v) (X.postC pw J.W A (ay R)) (X.postE (ay R)) s:=by
 rw[←zo]
 unfold zp
 have z:=Fg (E:=fun _ _=>False) H
 rw[←PySem.W.Fast.te17772580674575903948]at z
 have z':wpAny J.M A (assign tgt env v) (fun _ s'=>wpAny J.M A (execs body env) (fun f s''=>match f with|.next=>codeAny J.M A (.forLoop tgt it body [] env) (ay R) s''|_=>False) (fun _ _=>False) s') (fun _ _=>False) s:=fun Γ p hΓ=>by
  have y:=z Γ p hΓ
  rw[show Sem.bind (assign tgt env v) (fun _=>(Sem.pure .next:Sem Flow))=(assign tgt env v>>=fun _=>(Sem.pure .next:Sem Flow))from rfl,Sem.wp_bind']at y
  exact y
 refine wpAny_bind (wpAny_mono z' (fun _ s' y=>?_) fun _ _ e=>e.elim)
 refine wpAny_bind (wpAny_mono y (fun f s'' q=>?_) fun _ _ e=>e.elim)
 cases f with
 |next=>exact wpAny_pure ⟨rfl,q⟩
 |_=>exact q.elim
theorem Pc{d ep:Nat}{q:Int}{t:Tok}{v:Value}{kvs:List (Int×Value)}(hm:h.DictAt (intKind pw J.W) d kvs ep)(hq:q∈kvs.map (·.1))
 (H:∀h' tk',h'.DictAt (intKind pw J.W) d (stored kvs q v) ep→Heap.SameBut d h h'→R (rt .none) (J.S h' tk')):codeAny J.M A (blt "dict.__setitem__" [.ref d,.int q t,v]) R (J.S h tk):=by
 obtain⟨o,es,ho,hc,hd,hk,hp,hn⟩:=id hm
 refine kP F.slot_dict_setitem ⟨o,ho,hc.1⟩ F.entry_dict_setitem (F.args_dict_setitem_3 _ _ _) ?_
 show wpAny _ _ (Builtin.Dict.notOrdered "__setitem__" ⟨[.ref d,.int q t,v],[]⟩>>=_) _ _ _
 refine wpAny_bind (wpAny_notOrdered_dict ⟨o,ho,hc.1⟩ ?_)
 show wpAny _ _ (dictSet d (.int q t) v>>=_) _ _ _
 have hkey:(intKind pw J.W).is q (.int q t)=true:=by simp[intKind,Value.isInt]
 refine wpAny_bind (wpAny_holding (wpAny_bind ((intKind pw J.W).pyHash hkey (wpAny_holding (wpAny_bind (wpAny_dictFind_of (s:=(J.S h (tk+1))) hkey ho hd hk ?_))))))
 have hidx:(es.findIdx? fun e=>(intKind pw J.W).is q e.key)=kvs.findIdx? fun kv=>decide (kv.1=q):=by
  rw[←hp.findIdx q];obtain⟨l⟩:=es;simp
 cases hi:es.findIdx? fun e=>(intKind pw J.W).is q e.key with
 |none=>exact absurd hq (not_mem_of_findIdx_none (hidx▸hi))
 |some i=>
  have hl:(es.toList.findIdx? fun e=>(intKind pw J.W).is q e.key)=some i:=by rw[←hi];obtain⟨l⟩:=es;simp
  refine wpAny_bind (wpAny_rule (wpAny_bind (wpAny_updateDict (s:=(J.S h (tk+1))) ho hd (wpAny_point (wpAny_pure ⟨.none,rfl,H _ _ ⟨_,_,Heap.get?_update_self _ ho (Obj.isFreed_of_dict (Obj.data_mapDict hd _)),hc.mapDict _,Obj.data_mapDict hd _,hk.modify _ _,?_,?_⟩ (Heap.SameBut.update ..)⟩)))))
  ·rw[stored,if_pos (any_of_findIdx_some (hidx▸hi))]
   have:=hp.modify hn hl v
   obtain⟨l⟩:=es
   simpa using this
  ·rw[stored,if_pos (any_of_findIdx_some (hidx▸hi)),keys_map_store];exact hn
end
end
section
variable [Zero Heap]
structure LF where
 (t0 sc t1 m tm t2 nu t3 sh t4 sp t5 nd t6 t7:Nat)
noncomputable abbrev G8(P:Params)(l:LF)(st ah:Nat):List DictEntry:=F8 P l.t0 l.sc l.t1 l.m l.tm l.t2 l.nu l.t3 l.sh l.t4 l.sp l.t5 l.nd l.t6 st l.t7 ah
noncomputable abbrev cN(P:Params)(i:Nat):Stmt:=dX (cO (aF P 13)) i
theorem Oz{vs:List Value}{ns:List Int}(x:IntsAre vs ns){k:Nat}(h:k<vs.length):∃i t,vs[k]? =some (.int i t)∧i∈ns:=by
 have hl:=IntsAre.length x
 have hk:k<ns.length:=oH hl.symm h
 obtain⟨t,e⟩:=xZ x (a_ hk)
 exact⟨_,t,e,List.getElem_mem hk⟩
section
variable {J:WX}{A:Around}{E:Value→Shared→Prop}{h:Heap}{tk:Nat}{Q:Flow→Shared→Prop}{rest:List Stmt}{fr cd cw cp cf st ah dk fe y0:Nat}{z0:Value}{l:LF}
theorem OA{zz:Bool}{y1 y2 y3 y4:Nat}{z1 z2 z3 z4:Value}{PQ:List (Int×Value)}{ks:List Int}(RA:aa A 100)(TT:aE J.P h)(hfr:h.get? fr=some (ai (G8 J.P l st ah++(ent J.P ji y0 z0::p4 J zz y1 z1 y2 z2 y3 z3 y4 z4)) fe))(hcd:h.get? cd=some (bL (.ref dk)))(bY:cZ h dk)(i6:h.DictOf (intKind pw J.W) ah PQ)(hk:PQ.map (·.1)=ks)(h1:1≤PQ.length)(h4:PQ.length≤4)(g1:534≤fr)(g2:534≤dk)(g3:534≤ah)(n1:fr≠dk)(n2:fr≠ah)(n3:dk≠ah)(n4:cd≠fr)(n5:cd≠dk)(n6:cd≠ah)
 (H:∀h' tk' (dR w1 w2:Nat)(x a:Int)(tx ta:Nat),Kp [fr,dk] h h'→h'.get? fr=some (ai (G8 J.P l st ah++(ent J.P ji y0 z0::ent J.P aX w1 (.int x tx)::ent J.P cE w2 (.int a ta)::p2 J zz y3 z3 y4 z4)) dR)→cZ h' dk→a∈ks→
  wpAny J.M A (execs rest (bC J.P fr cd cw cp cf)) Q E (J.S h' tk')):
 wpAny J.M A (execs (cN J.P 0::rest) (bC J.P fr cd cw cp cf)) Q E (J.S h tk):=by
 have aN:fr<⇑h:=aj hfr
 ac_rfl
 obtain⟨ys,ed,ns,d1,d2,d3⟩:=bY
 have aA:dk<⇑h:=aj d1
 refine bu.fS i6 fun oA eA dA=>?_
 have OD:ah<⇑h:=aj eA
 ac_rfl
 obtain⟨as,ae,rfl⟩:=x_ dA
 have B:=aG (prog:=pw) (w:=J.W) (mods:=[fr,dk,ah]) TT dH (ro:=[(cd,_)]) (rC hcd bw rN)
 let vv:Vv:=jj fr fe l.t0 l.sc l.t1 l.tm l.t2 l.nu l.t3 l.sh l.t4 l.sp l.t5 l.nd l.t6 st l.t7 ah cd cw cp cf y0 y1 y2 y3 y4 ae dk ⇑h tk 0 0 0 0 0 0 l.m 0 0 0 z0 z1 z2 z3 z4 [] as []
 refine ko fun R hR=>qV.b0 zz vv rfl (RA.less rfl) B (iZ .refl hfr eA n2 (.inl (by k_in)) (.inl (by k_in))) (fun e1 aB H1=>.call (Fp (d:=ah) (kvs:=PQ) (aa.up (m:=0) H1.k RA rfl).handled (bu.at (H1.get 0 rfl) dA) g3 (by left) fun e2 ao sr so es ns' k2 Bf Fq Ft Fv _=>?_))
 have y1:⇑e1=⇑h:=H1.size
 have OE:⇑h≤sr:=y1▸Bf
 have K2:Kp [] e1 e2:=⟨fun b o _ e=>k2 b o e,aq Bf (Nat.le_of_lt (aj Fq))⟩
 refine qV.b1 (a:=sr) (b:=so) (c:=es) (d:=⇑e2) (RA.less rfl) B H1.k ((H1.rep.grow K2).more Fq (fun p hp=>gP (aJ (aj (H1.rep.at_ p hp)) Bf)) (by left)) (fun e3 az H3=>.call (call_len_dict (knd:=intKind pw J.W) (kvs:=PQ) (beq_eq_false_iff_ne.mpr (ya g3)) (bu.at (H3.get 0 rfl) dA) (by lia) ?_))
 have y3:⇑e3=⇑e2:=H3.size
 refine H1.gr (q:=dk) (by show dk∉[fr,ah];exact au) d1 fun k1 m1=>?_
 obtain⟨k3,m3⟩:=H3.kn (q:=dk) (fun q=>by
  change _∈List.map _ (_++_)at q
  rw[List.map_append]at q
  rcases mA q with q|q
  ·exact m1 q
  ·have e:dk=sr:=mS q
   exact #[0x11011400c43123202113,dk,⇑h,sr] aA OE e) (k2 _ _ k1)
 refine qV.b2 (h:=⇑e3) (RA.less rfl) B H3.k (H3.size▸H3.rep) (fun e4 av H4=>?_)
 refine H4.gr m3 k3 fun k4 m4=>?_
 have OF:dk<⇑e3:=aj k3
 refine .code (pQ (aa.up H4.k RA rfl) (TT.kp H4.kp dH) ⟨ys,ed,ns,k4,d2,d3⟩ g2 (by lia) (by lia) fun e5 aY f tf K5 Bg f0 f1=>?_)
 ac_rfl
 obtain⟨yb,yc,Bh,k5,d5⟩:=Bg
 have W4:so.length=PQ.length:=by rw[IntsAre.length Ft,Fv.length_eq,List.length_map]
 obtain⟨a,ta,hx,ha⟩:=Oz Ft (k:=f.toNat) (by lia)
 refine qV.b3 (l:=⇑e5) (RA.less rfl) B H4.k (H4.pR K5 (by k_in) m3 OF) (fun e6 gG H6=>.code (iJ (H6.get 0 rfl) f0 (by left) hx ?_))
 refine H6.gr m4 k5 fun k6 m6=>?_
 refine qV.b4 (RA.less rfl) B H6.k H6.rep (fun e7 d_ H7=>?_)
 refine H7.gr m6 k6 fun k7 m7=>?_
 have OG:dk<⇑e6:=aj k6
 refine .code (pQ (aa.up H7.k RA rfl) (TT.kp H7.kp dH) ⟨yb,yc,Bh,k7,d5⟩ g2 (by lia) (by lia) fun e8 fT x tx K8 OH x0 x1=>?_)
 refine qV.b5 (u:=⇑e8) (RA.less rfl) B H7.k (H7.pR K8 (by k_in) m6 OG) (fun e9 ie H9=>?_)
 ac_rfl
 obtain⟨OI,OJ,OL,k8,d8⟩:=OH
 refine H9.gr m7 k8 fun k9 _=>?_
 have OM:e9.get? ah=some (dct as ae):=H9.get 1 rfl
 refine hR _ ?_
 exact H e9 ie _ _ _ _ _ _ _ ⟨fun b o hb e=>by
  by_cases q:b=ah
  ·obtain rfl:=q.symm;rw[eA]at e;rw[OM,bV e]
  ·exact H9.kp.keep _ _ (by simp only[eZ,g9,or_false,not_or]at hb⊢;exact⟨hb.1,hb.2,q⟩) e,H9.kp.size⟩ (H9.get 0 rfl) ⟨OI,OJ,OL,k9,d8⟩ (hk▸Fv.mem_iff.mp ha)
theorem Rep.ON{V:Vw}{h₀ h:Heap}{mods:List Addr}{mu:List Ent}{sz:Nat}(D:Rep V h₀ mods h mu sz){a:Addr}{o:Obj}(e:h.get? a=some o)(hn:a∉mu.map (·.1))(ha:a∈mods):Rep V h₀ mods h (mu++[(a,o)]) sz:=by
 refine⟨D.size,?_,?_,?_,D.keep,D.le⟩
 ·intro p hp
  rcases mA hp with hp|hp
  ·exact D.at_ p hp
  ·rw[mS hp];exact e
 ·rw[List.map_append,List.nodup_append]
  refine⟨D.nd,by simp,?_⟩
  intro x hx b hb q
  simp only[List.map_cons,List.map_nil,List.mem_singleton]at hb
  exact hn (hb▸q▸hx)
 ·intro p hp
  rcases mA hp with hp|hp
  ·exact D.own p hp
  ·rw[mS hp];exact .inl ha
theorem OO{zz:Bool}{y3 y4:Nat}{z3 z4:Value}{x:Int}{w1 w2 tx ta j al ea fl ef:Nat}{xs fs:List Value}{PQ:List (Int×Value)}(RA:aa A 100)(TT:aE J.P h)(hfr:h.get? fr=some (ai (G8 J.P l st ah++(ent J.P ji y0 z0::ent J.P aX w1 (.int x tx)::ent J.P cE w2 (.int j ta)::p2 J zz y3 z3 y4 z4)) fe))(i6:h.DictOf (intKind pw J.W) ah PQ)(hv:valueAt PQ (j:Int)=some (.ref al))(hal:h.get? al=some (lst xs ea))(hcf:h.get? cf=some (bL (.ref fl)))(hfl:h.get? fl=some (lst fs ef))(z1:xs.length≤50)(z2:fs.length≤50)(g1:534≤fr)(g3:534≤ah)(g4:534≤al)(n2:fr≠ah)(n3:al≠fr)(n4:al≠ah)(n5:cf≠fr)(n6:cf≠ah)(n7:cf≠al)(n8:fl≠fr)(n9:fl≠ah)(sW:fl≠al)
 (H:∀h' tk' (dR w3 du:Nat),Kp [fr] h h'→h'.get? fr=some (ai (G8 J.P l st ah++(ent J.P ji y0 z0::ent J.P aX w1 (.int x tx)::ent J.P cE w2 (.int j ta)::ent J.P fU w3 (.ref du)::pe J fZ zz y4 z4)) dR)→⇑h≤du→h'.get? du=some (lst (xs++[.int x tx]++fs.drop (j+1)) 0)→
  wpAny J.M A (execs rest (bC J.P fr cd cw cp cf)) Q E (J.S h' tk')):
 wpAny J.M A (execs (cN J.P 1::rest) (bC J.P fr cd cw cp cf)) Q E (J.S h tk):=by
 have aN:fr<⇑h:=aj hfr
 have W5:al<⇑h:=aj hal
 refine bu.fS i6 fun oA eA dA=>?_
 have OD:ah<⇑h:=aj eA
 ac_rfl
 obtain⟨as,ae,rfl⟩:=x_ dA
 have B:=aG (prog:=pw) (w:=J.W) (mods:=[fr,ah,al]) TT dH (ro:=[(cf,_),(fl,_)]) (rC hcf bw (rC hfl bw rN))
 let vv:Vv:=jj fr fe l.t0 l.sc l.t1 l.tm l.t2 l.nu l.t3 l.sh l.t4 l.sp l.t5 l.nd l.t6 st l.t7 ah cd cw cp cf y0 w1 tx w2 ta y3 y4 ae fl ef ⇑h tk 0 0 0 l.m x j 0 z0 z3 z4 .none .none fs as []
 refine ko fun R hR=>cN.b0 zz vv rfl (RA.less rfl) B (iZ .refl hfr eA n2 (.inl (by k_in)) (.inl (by k_in))) (fun e1 aB H1=>.code (vd (kvs:=PQ) (bu.at (H1.get 0 rfl) dA) hv fun ao=>?_))
 refine H1.gr (q:=al) (by show al∉[fr,ah];exact au) hal fun k1 m1=>?_
 refine cN.b1 (a:=al) (b:=xs) (c:=ea) (RA.less rfl) B H1.k (H1.rep.ON k1 m1 (by k_in)) (fun e2 az H2=>?_)
 have y2:⇑e2=⇑h+1:=by have:=H1.size;exact H2.size
 refine .code (ig (H2.get 0 rfl) (H2.get 1 rfl) (by left) (oz rfl) fun e3 N3=>?_)
 have y3:⇑e3=⇑e2+1:=N3.size
 refine cN.b2 (e:=⇑e2) (f:=xs++[.int x tx]) (g:=⇑e3) (RA.less rfl) B H2.k (by have e:=N3.at_;rw[H2.size]at e⊢;exact H2.rep.new N3.kp e) (fun e4 av H4=>?_)
 have y4:⇑e4=⇑e3+1:=H4.size
 refine .code (yd (b:=j+1) (H4.kp.keep _ _ bw hfl) (H4.get 0 rfl) (by left) fun e5 N5=>?_)
 have y5:⇑e5=⇑e4+1:=N5.size
 refine cN.b3 (i:=⇑e4) (j:=fs.drop (j+1)) (k:=⇑e5) (RA.less rfl) B H4.k (by have e:=N5.at_;rw[H4.size]at e⊢;exact H4.rep.new N5.kp e) (fun e6 gG H6=>?_)
 have y6:⇑e6=⇑e5:=H6.size
 refine .code (ig (H6.get 0 rfl) (H6.get 1 rfl) (by simp;left) (by simp;left) fun e7 N7=>?_)
 have y7:⇑e7=⇑e6+1:=N7.size
 refine cN.b4 (m:=⇑e6) (n:=⇑e7) (RA.less rfl) B H6.k (H6.rep.grow N7.kp) (fun e8 fT H8=>?_)
 have OQ:e8.get? ah=some (dct as ae):=H8.get 1 rfl
 have dn:⇑e6∉bZ (cN.s3 J zz _ al xs ea ao ⇑e2 (xs++[.int x tx]) ⇑e3 _ ⇑e4 (fs.drop (j+1)) ⇑e5 _).r:=fun q=>Nat.lt_irrefl _ (H6.mlt _ q)
 refine hR _ ?_
 exact H e8 fT _ _ ⇑e6 ⟨fun b o hb e=>by
  by_cases q:b=ah
  ·obtain rfl:=q.symm;rw[eA]at e;rw[OQ,bV e]
  by_cases q':b=al
  ·obtain rfl:=q'.symm;rw[hal]at e;rw[←bV e];exact H8.get 2 rfl
  ·exact H8.kp.keep _ _ (by simp only[eZ,g9,or_false,not_or]at hb⊢;exact⟨hb,q,q'⟩) e,H8.kp.size⟩ (H8.get 0 rfl) (by left) (H8.seg.keep _ _ dn N7.at_)
end
end
section
variable [Zero Heap]
noncomputable abbrev I4(F St fr:Nat)(fo:Obj)(dk:Nat)(aI:Obj)(ah:Nat)(aH:Obj)(it:Nat)(bx:Obj):aV:=⟨F,St+1,St+2,St,[],[(fr,fo),(dk,aI),(ah,aH),(it,bx)]⟩
theorem Fw{kvs:List (Int×Value)}(nd:(kvs.map (·.1)).Nodup):∀{i:Nat}{k:Int}{v:Value},kvs[i]? =some (k,v)→valueAt kvs k=some v:=by
 induction kvs with
 |nil=>intro i k v h;simp at h
 |cons x kvs ih=>
  intro i k v h
  rw[List.map_cons,List.nodup_cons]at nd
  unfold valueAt
  cases i with
  |zero=>
   obtain rfl:x=(k,v):=by simpa using h
   simp
  |succ i=>
   have h':kvs[i]? =some (k,v):=by simpa using h
   have hne:¬x.1=k:=fun e=>nd.1 (e▸List.mem_map_of_mem (f:=(·.1)) (List.mem_of_getElem? h'))
   rw[List.find?_cons_of_neg (by simpa using hne)]
   exact ih nd.2 h'
section
variable {P:Params}{w:World}{C:Cfg}{cx:Bool}{fr dk ah it St:Nat}{fo fm:Obj}{f:Nat→List Sh}{F F':Nat}{κ:List Addr}{T T':MS}{aI aH bx gZ f_ lN:Obj}{h h':Heap}
theorem Inv.OR{I:aV}(x:Inv P w I [] κ T h)(L:iM C cx T f):∃es ep kvs,h.get? I.K=some (dct es ep)∧bu w (dct es ep) kvs∧kvs.map (·.1)=bE C C.m∧
 ∀(j:Nat)(kv:Int×Value)(af:Int×List bG),kvs[j]? =some kv→T.kept[j]? =some af→kv.1=af.1∧∃m vs e,kv.2=.ref m∧IV I κ h m (lst (refs vs) e)∧ff P w (IV I κ h) κ af.2 vs:=by
 refine x.qQ fun kvs hK kl hkv=>?_
 refine bu.fS hK fun o eK dK=>?_
 obtain⟨es,ep,rfl⟩:=x_ dK
 refine⟨es,ep,kvs,eK,dK,?_,hkv⟩
 rw[←L.keys]
 refine List.ext_getElem (by simp[kl]) fun j q1 q2=>?_
 have qW:j<kvs.length:=by simpa using q1
 have qX:j<T.kept.length:=by simpa using q2
 rw[List.getElem_map,List.getElem_map]
 exact(hkv j _ _ (a_ qW) (a_ qX)).1
theorem Inv.Bj(x:Inv P w (I4 F St fr fo dk aI ah aH it bx) [] κ T h){m:List Addr}(K:Kp m h h')(hm:∀(a:Nat),a∈m→a=fr∨a=dk∨a=ah∨a=it∨⇑h≤a)(e1:h'.get? fr=some fm)(e2:h'.get? dk=some gZ)(e3:h'.get? ah=some f_)(e4:h'.get? it=some lN)
 (hF:F'=F∨⇑h≤F') (fs:∃vs e,h'.get? F'=some (lst (refs vs) e)∧ff P w (IV (I4 F St fr fo dk aI ah aH it bx) κ h) κ T'.fs vs) (q1:T'.σ=T.σ) (q2:T'.kept=T.kept) (q3:T'.shown=T.shown):
 Inv P w (I4 F' St fr fm dk gZ ah f_ it lN) [] κ T' h'∧(∀a o,IV (I4 F St fr fo dk aI ah aH it bx) κ h a o→IV (I4 F' St fr fm dk gZ ah f_ it lN) κ h' a o):=by
 have nd:=x.nd
 have lt:=x.lt
 have lf:fr<⇑h:=lt fr (by k_in)
 have ld:dk<⇑h:=lt dk (by k_in)
 have la:ah<⇑h:=lt ah (by k_in)
 have li:it<⇑h:=lt it (by k_in)
 have fh:534≤⇑h:=x.fh
 refine A_ nd fun u1 u2 u3 u4 u5 u6 _ _ _ _ _ _ _ _ _ v1 v2 v3 v4 v5 v6=>?_
 refine x.rebase (F:=F') (Y:=[(fr,fm),(dk,gZ),(ah,f_),(it,lN)]) (S':=T') K (fun(a:Nat) ha=>?_) (fun(a:Nat) ha=>?_) ?_ ?_ hF ?_ fs q1 q2 q3
 ·exact Fi (P:=fun a=>a∈([fr,dk,ah,it]:List Nat)∨⇑h≤a) (hm a ha) (.inl (kMi 0 rfl)) (.inl (kMi 1 rfl)) (.inl (kMi 2 rfl)) (.inl (kMi 3 rfl)) .inr
 ·exact Fi (P:=fun a=>534≤a) (hm a ha) (x.lo _ (kMi 3 rfl)) (x.lo _ (kMi 4 rfl)) (x.lo _ (kMi 5 rfl)) (x.lo _ (kMi 6 rfl)) fun z=>aq fh z
 ·exact c_ ⟨.inl (by k_in),e1⟩ (c_ ⟨.inl (by k_in),e2⟩ (c_ ⟨.inl (by k_in),e3⟩ (c_ ⟨.inl (by k_in),e4⟩ iU)))
 ·show([fr,dk,ah,it]:List Nat).Nodup
  exact sV
 ·show F'∉([fr,dk,ah,it]:List Nat)
  refine hF.elim (fun e=>by rw[e];exact d7) fun z=>?_
  ·exact(by exact #[0x1111000611010061100106110001654314656202512412312115,fr,⇑h,dk,ah,it,F'] lf ld la li z)
theorem Inv.ye{G:Prop}(x:Inv P w (I4 F St fr fo dk aI ah aH it bx) [] κ T h)(k:534≤fr→534≤dk→534≤ah→534≤it→534≤St+1→fr≠dk→fr≠ah→fr≠it→dk≠ah→dk≠it→ah≠it→F≠fr→F≠dk→F≠ah→F≠it→St+1≠fr→St+1≠dk→St+1≠ah→St+1≠it→St+2≠fr→St+2≠dk→St+2≠ah→St+2≠it→G):G:=by
 have nd:=x.nd
 have l1:534≤fr:=x.lo fr (by k_in)
 have l2:534≤dk:=x.lo dk (by k_in)
 have l3:534≤ah:=x.lo ah (by k_in)
 have l5:534≤it:=x.lo it (by k_in)
 have l4:534≤St+1:=x.lo (St+1) (by k_in)
 refine A_ nd fun _ _ t1 t2 t3 t4 u1 u2 u3 u4 u5 w1 w2 w3 w4 v1 v2 v3 v4 v5 v6=>?_
 exact k l1 l2 l3 l5 l4 v1 v2 v3 v4 v5 v6 t1 t2 t3 t4 u2 u3 u4 u5 w1 w2 w3 w4
theorem Inv.Bk{G:Prop}(x:Inv P w (I4 F St fr fo dk aI ah aH it bx) [] κ T h)(k:534≤fr→534≤dk→534≤ah→534≤it→534≤St+1→fr≠dk→fr≠ah→fr≠it→dk≠ah→dk≠it→ah≠it→G):G:=x.ye fun a b c d e f g h i j l _ _ _ _ _ _ _ _ _ _ _ _=>k a b c d e f g h i j l
theorem IV.out{G:Prop}{a:Nat}{o:Obj}(v:IV (I4 F St fr fo dk aI ah aH it bx) κ h a o)(k:a≠F→a≠St+1→a≠St+2→a≠fr→a≠dk→a≠ah→a≠it→G):G:=Ol (show a∉(F::(St+1)::(St+2)::([fr,dk,ah,it]++κ):List Nat)from v.1) k
end
end
section
variable [Zero Heap]
theorem OS(P:Params):cN P 2=.If (.BoolOp .Or [bW (aL (cN P 2)) 0,.Compare (fB (bW (aL (cN P 2)) 1)) [.NotEq] [fC (bW (aL (cN P 2)) 1)] (jx (bW (aL (cN P 2)) 1))] (sX (aL (cN P 2)))) (iG (cN P 2)) [] (qB (cN P 2)):=by kernel_rfl
noncomputable abbrev gu(P:Params)(l:LF)(st ah y0:Nat)(z0:Value)(y1:Nat)(u:Int)(tu y2 j ta y3 du:Nat)(es:List DictEntry)(fe:Nat):Obj:=ai (G8 P l st ah++[ent P ji y0 z0,ent P aX y1 (.int u tu),ent P cE y2 (.int (j:Int) ta),ent P fU y3 (.ref du)]++es) fe
theorem iM.short{C:Cfg}{cx:Bool}{T:MS}{f:Nat→List Sh}(L:iM C cx T f){a:Int}{fs:List bG}(h:(a,fs)∈T.kept):fs.length≤2:=by
 have lk:=L.lk
 unfold LK at lk
 cases cx with
 |true=>
  rw[if_pos rfl]at lk
  obtain⟨j,_,_,ρ,_,rfl⟩:=lk a fs h
  exact oz rfl
 |false=>
  rw[if_neg (by simp)]at lk
  obtain⟨_,_,rfl,_⟩:=lk a fs h
  exact oR
section
variable {J:WX}{A:Around}{E:Value→Shared→Prop}{h:Heap}{tk:Nat}{Q:Flow→Shared→Prop}{rest:List Stmt}{fr cd cw cp cf st ah dk it fe:Nat}{l:LF}{C:Cfg}{cx:Bool}
theorem OU{f:Nat→List Sh}{n F y0 y1 y2 y3 j du ed tu ta:Nat}{u:Int}{z0:Value}{es:List DictEntry}{ds:List Value}{κ:List Addr}{T:MS}{aI aH bx:Obj}(O:C.OK)(RA:aa A 138)(x:Inv J.P J.W (I4 F st fr (gu J.P l st ah y0 z0 y1 u tu y2 j ta y3 du es fe) dk aI ah aH it bx) [] κ T h)(L:iM C cx T f)(hs:T.shown.length≤n)(hn:n≤399)(hj:(j:Int)∈bE C C.m)
 (ve:IV (I4 F st fr (gu J.P l st ah y0 z0 y1 u tu y2 j ta y3 du es fe) dk aI ah aH it bx) κ h du (lst ds ed)) (hds:bR (f j++[Sh.int u]++C.firsts.drop (j+1)) ds)
 (H:∀h' tk' F' κ' T',Inv J.P J.W (I4 F' st fr (gu J.P l st ah y0 z0 y1 u tu y2 j ta y3 du es fe) dk aI ah aH it bx) [] κ' T' h'→iM C cx T' (fun i=>if j<i then(f j++[Sh.int u]++C.firsts.drop (j+1)).take i else f i)→T'.shown.length≤n+1→(f j).length=j→j<C.m→
  (∀a o,IV (I4 F st fr (gu J.P l st ah y0 z0 y1 u tu y2 j ta y3 du es fe) dk aI ah aH it bx) κ h a o→IV (I4 F' st fr (gu J.P l st ah y0 z0 y1 u tu y2 j ta y3 du es fe) dk aI ah aH it bx) κ' h' a o)→
  wpAny J.M A (execs rest (bC J.P fr cd cw cp cf)) Q E (J.S h' tk')):
 wpAny J.M A (execs (cN J.P 2::rest) (bC J.P fr cd cw cp cf)) Q E (J.S h tk):=by
 refine x.ye fun g1 g2 g3 g5 g4 n1 n2 n3 n4 n5 n6 n7 n8 n9 sW yf Fx Fy Fz FA FD FE FF=>?_
 have TT:=x.top
 have hfr:h.get? fr=some (gu J.P l st ah y0 z0 y1 u tu y2 j ta y3 du es fe):=x.ys (fr,gu J.P l st ah y0 z0 y1 u tu y2 j ta y3 du es fe) (b_ 0 rfl)
 have bY:h.get? dk=some aI:=x.ys (dk,aI) (b_ 1 rfl)
 have i6:h.get? ah=some aH:=x.ys (ah,aH) (b_ 2 rfl)
 have hit:h.get? it=some bx:=x.ys (it,bx) (b_ 3 rfl)
 have aN:fr<⇑h:=aj hfr
 refine x.e_ fun t8 t9 se iu=>?_
 refine IV.out iu fun q1 q2 q3 q4 q5 q6 q7=>?_
 obtain⟨ks,ke,kvs,eK,dK,kC,hkv⟩:=x.OR L
 have lK:st+1<⇑h:=aj eK
 have OV:(j:Int)∈T.kept.map (·.1):=L.keys▸hj
 obtain⟨i,hi,FG⟩:=List.getElem_of_mem OV
 have hi':i<T.kept.length:=by simpa using hi
 have hik:i<kvs.length:=by have:=congrArg List.length (kC.trans L.keys.symm);simp at this;exact #[0x11101431112322112,i,T.kept.length,kvs.length] hi' this
 have ei:T.kept[i]=((j:Int),T.kept[i].2):=by
  rw[List.getElem_map]at FG
  exact Prod.ext FG rfl
 obtain⟨k1,m,vs,em,k2,k3,k4⟩:=hkv i _ _ (a_ hik) (a_ hi')
 obtain⟨j',T',dl,p1,p2,p3,r1,r2,rfl,r3⟩:=Oc O L (aq hs hn) (ei▸List.getElem_mem hi') u
 obtain rfl:j=j':=by lia
 have hv:valueAt kvs (j:Int)=some (.ref m):=by
  refine Fw (kC▸yg C C.m) (i:=i) ?_
  rw[a_ hik]
  exact congrArg some (Prod.ext (k1.trans (by rw[ei])) k2)
 obtain⟨fo,hfo⟩:∃fo,fo=gu J.P l st ah y0 z0 y1 u tu y2 j ta y3 du es fe:=⟨_,rfl⟩
 have OW:=hfr
 have un:∀{e:Heap},e.get? fr=some fo→e.get? fr=some (gu J.P l st ah y0 z0 y1 u tu y2 j ta y3 du es fe):=fun q=>by rw[←hfo];exact q
 rw[←hfo]at x ve H hfr iu k3 k4
 have B:=aG (prog:=pw) (w:=J.W) (mods:=[fr,st+1]) TT bB (ro:=[(st,_)]) (rC iu.2 au rN)
 rw[OS]
 let vv:Vv:=jj fr fe l.t0 l.sc l.t1 l.tm l.t2 l.nu l.t3 l.sh l.t4 l.sp l.t5 l.nd l.t6 st l.t7 ah cd cw cp cf y0 y1 tu y2 ta y3 du t8 t9 (st+1) (st+2) se ke ⇑h tk l.m u j 0 z0 .none .none .none .none [] es ks
 refine wpAny_execs_cons (wpAny_If (wpAny_isTrue_BoolOp (wpAny_allTrue_Or_cons (qU (qY.b0 vv rfl (RA.less rfl) B (iZ .refl OW eK (Ne.symm yf) (.inl (by k_in)) (.inl (by k_in))) (fun e1 aB H1=>.code (yh (H1.kp.keep st _ au iu.2) fun ao=>?_)))))))
 refine qY.b1 (RA.less rfl) B H1.k H1.rep (fun sY az H2=>.code (vd (kvs:=kvs) (bu.at (H2.get 0 rfl) dK) hv fun av=>?_))
 refine qY.b2 (b:=m) (RA.less rfl) B H2.k H2.rep (fun e3 aY H3=>?_)
 have lm:m<⇑h:=aj k3.2
 refine .call (qZ (vs:=refs vs) (H3.kp.keep m _ (IV.out k3 fun _ a _ b _ _ _=>kNc b (kNc a kNn)) k3.2) (by rw[gq,←k4.1];have:=L.short (ei▸List.getElem_mem hi');left) fun e4 c OX Bl=>?_)
 have s3:⇑e3=⇑h:=H3.size
 have yi:Kp [] e3 e4:=⟨fun b o _ e=>OX b o e,Nat.le_of_lt (aj Bl)⟩
 have pT:⇑e3<⇑e4:=aj Bl
 refine qY.b3 (d:=⇑e3) (e:=⇑e4) (RA.less rfl) B H3.k (H3.rep.grow yi) (fun e5 gG H5=>.code ?_)
 have f5:e5.get? fr=some fo:=by rw[hfo];exact H5.get 0 rfl
 have K5:Kp [fr] h e5:=⟨fun b o hb e=>by
  by_cases q:b=st+1
  ·subst q;rw[eK]at e;rw[←bV e];exact H5.get 1 rfl
  ·exact H5.kp.keep _ _ (by simp only[eZ,g9,or_false,not_or]at hb⊢;exact⟨hb,q⟩) e,H5.kp.size⟩
 have OY:e5.get? ⇑e3=some (lst (refs vs) c):=H5.seg.keep _ _ (fun q=>Nat.lt_irrefl _ (H3.mlt _ q)) Bl
 obtain⟨x5,V5⟩:=x.Bj (F':=⇑e3) (fm:=fo) (gZ:=aI) (f_:=aH) (lN:=bx) (T':=⟨.val (.int u),T.kept[i].2,T.σ,T.kept,T.shown⟩) K5 (fun a ha=>.inl (mS ha)) f5 (K5.keep dk _ ak bY) (K5.keep ah _ ak i6) (K5.keep it _ ak hit) (.inr (Nat.le_of_eq s3.symm)) ⟨vs,c,OY,k4⟩ rfl rfl rfl
 refine OZ (I:=I4 ⇑e3 st fr fo dk aI ah aH it bx) (aa.up H5.k RA rfl) x5 rfl rfl r1 (fun e6 d_ κ' i5 t5 yj RT=>?_)
 ac_rfl
 obtain⟨x6,V6,s6⟩:=RT
 rw[r3.aR]at yj
 obtain rfl:(5:Int)=i5:=by injection yj with yj;injection yj
 have f6:e6.get? fr=some fo:=x6.ys (fr,fo) (b_ 0 rfl)
 have FH:=V6 _ _ (V5 _ _ iu)
 have B6:=aG (prog:=pw) (w:=J.W) (mods:=[fr]) x6.top bI (ro:=[(st,_)]) (rC FH.2 ak rN)
 refine qY.b4 (i:=⇑e6) (RA.less rfl) B6 H5.k (cQ .refl (un f6) (.inl (by k_in))) (fun e7 fT H7=>.code (FI (c:=false) rfl ?_))
 refine qY.b5 (RA.less rfl) B6 H7.k H7.rep (fun e8 ie H8=>?_)
 have K8:Kp [fr] e6 e8:=H8.kp
 have f8:e8.get? fr=some fo:=by rw[hfo];exact H8.get 0 rfl
 obtain⟨x8,V8⟩:=x6.sZ K8 (kAc ⟨g1,fo,b_ 0 rfl,f8⟩ kAn)
 have Bm:=V8 _ _ FH
 refine x8.sQ fun qs eq z1 z2 z3=>?_
 rw[r2]at z2 z3
 have q_:qs.length=T.shown.length+1:=by simpa using z2
 ac_rfl
 obtain⟨q0,q,rfl⟩:∃q0 q,qs=q0++[q]:=⟨qs.dropLast,qs.getLast (by intro e;rw[e]at q_;simp at q_),(List.dropLast_concat_getLast _).symm⟩
 have FJ:q0.length=T.shown.length:=by simpa using q_
 obtain⟨zs,ez,w1,w2,w3⟩:=z3 T.shown.length q (f j++[Sh.int u]++C.firsts.drop (j+1)) (by rw[eY (ox FJ oR),FJ];simp) (by simp)
 show wpAny _ _ _ _ _ _
 let vv:Vv:=jj fr fe l.t0 l.sc l.t1 l.tm l.t2 l.nu l.t3 l.sh l.t4 l.sp l.t5 l.nd l.t6 st l.t7 ah cd cw cp cf y0 y1 tu y2 ta y3 du t8 t9 (st+1) (st+2) se eq ⇑e8 ie l.m u j 0 z0 .none .none .none .none (refs (q0++[q])) es []
 refine wpAny_allTrue_Or_cons (wpAny_isTrue_Compare1 (eH (yk.b0 vv rfl (RA.less rfl) (aG (mods:=[fr]) x8.top bI (ro:=[(st,_),(st+2,_)]) (rC Bm.2 ak (rC z1 ak rN))) (cQ .refl (un f8) (.inl (by k_in))) (fun e9 s_ H9=>.code (Bo (H9.kp.keep st _ ak Bm.2) fun jk=>?_)))) rfl)
 have B8:=aG (prog:=pw) (w:=J.W) (mods:=[fr]) x8.top bI (ro:=[(st,_),(st+2,_)]) (rC Bm.2 ak (rC z1 ak rN))
 refine yk.b1 (RA.less rfl) B8 H9.k H9.rep (fun yl pU dS=>.code (ym (vs:=refs q0) (x:=.ref q) (by have e:=dS.kp.keep (st+2) _ ak z1;rw[ng]at e;exact e) ?_))
 refine yk.b2 (b:=q) (RA.less rfl) B8 dS.k dS.rep (fun tw ri aZ=>?_)
 have Bp:Kp [fr] e8 tw:=aZ.kp
 have tB:tw.get? fr=some fo:=by rw[hfo];exact aZ.get 0 rfl
 obtain⟨FL,FN⟩:=x8.sZ Bp (kAc ⟨g1,fo,b_ 0 rfl,tB⟩ kAn)
 show wpAny _ _ _ _ _ _
 let vv:Vv:=jj fr fe l.t0 l.sc l.t1 l.tm l.t2 l.nu l.t3 l.sh l.t4 l.sp l.t5 l.nd l.t6 st l.t7 ah cd cw cp cf y0 y1 tu y2 ta y3 du ⇑tw ri 0 0 0 0 0 0 l.m u j 0 z0 .none .none .none .none [] es []
 refine eH (FO.b0 vv rfl (RA.less rfl) (aG (mods:=[fr]) FL.top bI (ro:=[]) trivial) (cQ .refl (un tB) (.inl (by k_in))) (fun vg vh dO=>?_))
 have dG:Kp [fr] tw vg:=dO.kp
 have Bq:vg.get? fr=some fo:=by rw[hfo];exact dO.get 0 rfl
 obtain⟨O0,nH⟩:=FL.sZ dG (kAc ⟨g1,fo,b_ 0 rfl,Bq⟩ kAn)
 have V:=fun a o v=>nH a o (FN a o (V8 a o (V6 a o (V5 a o v))))
 refine FP (nH _ _ (FN _ _ w1)).2 (V _ _ ve).2 ⟨w2,w3⟩ hds (by have:=RA.units;left) ?_
 refine wpAny_allTrue_Or_nil (wpAny_execs_nil ?_)
 exact H vg vh _ κ' T' O0 r3 (by rw[r2];simp;left) p3 p2 V
end
end
section
variable [Zero Heap]
noncomputable def vj(P:Params)(l:LF)(st ah y0:Nat)(z0:Value)(y1:Nat)(u:Int)(tu y2 j ta y3 du fr k:Nat)(h:Heap):Prop:=∃es fe,((k=0∧es=[])∨∃y4 z4,es=[ent P fZ y4 z4])∧h.get? fr=some (gu P l st ah y0 z0 y1 u tu y2 j ta y3 du es fe)
noncomputable def Br(V:View)(N ki:Nat)(f f':Nat→List Sh)(k:Nat)(KV:List (Int×Value))(h:Heap):Prop:=∀(i:Nat) kv,KV[i]? =some kv→∃(a:Nat)(xs:List Value)(e:Nat),kv.2=.ref a∧(V a (lst xs e)∨(N≤a∧a≠ki∧h.get? a=some (lst xs e)))∧bR (if i<k then f' kv.1.toNat else f kv.1.toNat) xs
noncomputable abbrev yo(P:Params)(fr cd cw cp cf ki:Nat):Code:=.forLoop (iS (cN P 3)) (.ref ki) (cO (cN P 3)) [] (bC P fr cd cw cp cf)
theorem FQ{w:World}{h:Heap}{d ep:Nat}{kvs:List (Int×Value)}(x:h.DictAt (intKind pw w) d kvs ep):∃es,h.get? d=some (dct es ep):=by
 ac_rfl
 obtain⟨o,es,ho,⟨q1,q2,q3⟩,hd,_⟩:=x
 obtain⟨a,b,c,d⟩:=o
 simp only at q1 q2 q3 hd
 subst q1 q2 q3 hd
 exact⟨es.toList,ho⟩
theorem O1{κ:List Int}(nd:κ.Nodup){i j:Nat}{a:Int}(h1:κ[i]? =some a)(h2:κ[j]? =some a):i=j:=by
 obtain⟨l1,e1⟩:=fN h1
 obtain⟨l2,e2⟩:=fN h2
 exact(List.getElem_inj nd).mp (e1.trans e2.symm)
theorem FT{M:Model}{A:Around}{c:Code}{R:RR}{s:Shared}(H:codeAny M A c (ay fun r s'=>s.heap.objs.size≤s'.heap.objs.size→R r s') s):codeAny M A c (ay R) s:=
 Bs (codeAny_mono H fun r s' h l=>by cases r with
  |ok f=>exact h l
  |error e=>exact h.elim)
theorem O2{KV:List (Int×Value)}{q:Int}{v:Value}(nd:(KV.map (·.1)).Nodup){k:Nat}{y:Value}(hk:KV[k]? =some (q,y)):(stored KV q v).map (·.1)=KV.map (·.1)∧∀i kv,(stored KV q v)[i]? =some kv→(i=k∧kv=(q,v))∨(i≠k∧KV[i]? =some kv):=by
 have hany:(KV.any fun kv=>decide (kv.1=q))=true:=List.any_eq_true.mpr ⟨_,List.mem_of_getElem? hk,by simp⟩
 have e:stored KV q v=KV.map fun kv=>if kv.1=q then(kv.1,v)else kv:=by unfold stored;rw[if_pos hany]
 rw[e]
 refine⟨?_,fun i kv hi=>?_⟩
 ·rw[List.map_map]
  refine List.map_congr_left fun x _=>?_
  show(if x.1=q then(x.1,v)else x).1=x.1
  split<;>rfl
 ·rw[List.getElem?_map,Option.map_eq_some_iff]at hi
  obtain⟨x,hx,rfl⟩:=hi
  by_cases hq:x.1=q
  ·rw[if_pos hq]
   refine .inl ⟨?_,by rw[hq]⟩
   refine O1 nd (i:=i) (j:=k) (a:=q) ?_ ?_
   ·rw[List.getElem?_map,hx];exact congrArg some hq
   ·rw[List.getElem?_map,hk];rfl
  ·rw[if_neg hq]
   refine .inr ⟨fun e=>hq ?_,hx⟩
   rw[e,hk]at hx
   exact(bV hx)▸rfl
section
variable {J:WX}{A:Around}{R:RR}{h0:Heap}{fr cd cw cp cf st ah ki:Nat}{l:LF}{V:View}{f:Nat→List Sh}{dl:List Sh}{ks:List Int}{y0 y1 y2 y3 j du ed tu ta ep:Nat}{u:Int}{z0:Value}{ds:List Value}
theorem FU(RA:aa A 60)(hds:bR dl ds)(O3:ds.length≤100)(FW:h0.get? du=some (lst ds ed))(hk0:∀q∈ks,∃m:Nat,q=(m:Int))(hnd:ks.Nodup)(hkz:ks.length≤100)(hki:⇑h0≤ki)(g1:534≤fr)(g2:534≤ah)(g3:534≤⇑h0)(lf:fr<⇑h0)(la:ah<⇑h0)(n1:fr≠ah)(n2:du≠fr)(n3:du≠ah):
 ∀(r k:Nat),k+r=ks.length→∀(h:Heap)(tk:Nat) KV,aE J.P h→Kp [fr,ah] h0 h→vj J.P l st ah y0 z0 y1 u tu y2 j ta y3 du fr k h→h.IsKeyIter ki ah k ks.length ep→h.DictAt (intKind pw J.W) ah KV ep→KV.map (·.1)=ks→Br V ⇑h0 ki f (fun i=>if j<i then dl.take i else f i) k KV h→
 (∀h' tk' Bt,Kp [fr,ah] h0 h'→vj J.P l st ah y0 z0 y1 u tu y2 j ta y3 du fr ks.length h'→h'.DictOf (intKind pw J.W) ah Bt→Bt.map (·.1)=ks→Br V ⇑h0 ki f (fun i=>if j<i then dl.take i else f i) ks.length Bt h'→R (.ok .next) (J.S h' tk'))→
 codeAny J.M A (yo J.P fr cd cw cp cf ki) (ay R) (J.S h tk)
 |0,k,hk,h,tk,KV,TT,K,hF,hI,hD,hK,hQ,H=>by
  have nf:fr≠ki:=oM (oJ hki lf)
  have na:ah≠ki:=oM (oJ hki la)
  have kl:KV.length=ks.length:=by rw[←hK];simp
  refine FT (O4 RA.handled (kvs:=KV) (kl▸hI) hD (by simp;exact #[0x1101105113023220c1022,k,ks.length,KV.length] hk kl) fun h1 b hs=>?_)
  have K1:Kp [fr,ah] h0 h1:=⟨fun(c:Nat) o hc e=>b c _ (fun q=>by have:c<⇑h0:=aj e;have q:c=ki:=q;exact #[0x11011400c42321312103,⇑h0,ki,c] hki this q) (K.keep _ _ hc e),aq K.size hs⟩
  ac_rfl
  obtain⟨es,fe,O5,O6⟩:=hF
  refine bu.fS hD.dictOf fun o ho hd=>?_
  refine H h1 tk KV K1 ⟨es,fe,(show k=ks.length from #[0x111031013211220c1021,k,ks.length] hk)▸O5,b fr _ nf O6⟩ (bu.at (b ah _ na ho) hd) hK fun i kv hi=>?_
  ac_rfl
  obtain⟨a,xs,e,e1,e2,e3⟩:=hQ i kv hi
  have il:i<ks.length:=by rw[←kl];exact(fN hi).1
  refine⟨a,xs,e,e1,e2.imp id fun z=>⟨z.1,z.2.1,b _ _ z.2.1 z.2.2⟩,?_⟩
  rw[if_pos il]
  rw[if_pos (by exact #[0x111104113123120c1022,k,ks.length,i] hk il)]at e3
  exact e3
 |r+1,k,hk,h,tk,KV,TT,K,hF,hI,hD,hK,hQ,H=>by
  have nf:fr≠ki:=oM (oJ hki lf)
  have na:ah≠ki:=oM (oJ hki la)
  have kl:KV.length=ks.length:=by rw[←hK];simp
  have hk1:k<KV.length:=#[0x1110015411134231c201022,k,r,ks.length,KV.length] hk kl
  obtain⟨q,hq⟩:=hk0 (KV[k].1) (hK▸List.mem_map_of_mem (List.getElem_mem hk1))
  have hx:KV[k]? =some ((q:Int),KV[k].2):=by rw[a_ hk1,←hq]
  refine O7 (kvs:=KV) (kl▸hI) hD hx (lB ∅ _) fun h1 t jc S1=>?_
  rw[kl]at jc
  have bb:=S1.extBut
  have s1:⇑h1=⇑h:=S1.1
  have sz:=K.size
  have K1:Kp [fr,ah] h0 h1:=⟨fun(c:Nat) o hc e=>bb c _ (fun q=>by have:c<⇑h0:=aj e;have q:c=ki:=q;exact #[0x11011400c42321312103,⇑h0,ki,c] hki this q) (K.keep _ _ hc e),by left⟩
  have eG:=TT.kp (⟨fun c o hc e=>bb _ _ (by simpa using hc) e,Nat.le_of_eq s1.symm⟩:Kp [ki] h h1) bI
  have rj:h1.DictAt (intKind pw J.W) ah KV ep:=hD.at' fun o e=>bb ah _ na e
  obtain⟨as,eA⟩:=FQ rj
  have FY:ki<⇑h1:=by obtain⟨o,ho,_⟩:=jc;exact aj ho
  have FZ:h1.get? du=some (lst ds ed):=K1.keep _ _ au FW
  have B:=aG (prog:=pw) (w:=J.W) (mods:=[fr,ah]) eG bB (ro:=[(du,_)]) (rC FZ au rN)
  have next:∀h2 ao vm,Kp [fr,ah] h1 h2→vj J.P l st ah y0 z0 y1 u tu y2 j ta y3 du fr (k+1) h2→h2.DictAt (intKind pw J.W) ah vm ep→vm.map (·.1)=ks→Br V ⇑h0 ki f (fun i=>if j<i then dl.take i else f i) (k+1) vm h2→codeAny J.M A (yo J.P fr cd cw cp cf ki) (ay R) (J.S h2 ao):=fun h2 ao vm K2 pV nJ O8 O9=>
   FU RA hds O3 FW hk0 hnd hkz hki g1 g2 g3 lf la n1 n2 n3 r (k+1) (#[0x1110310133121c100231c201021,k,r,ks.length] hk) h2 ao vm (eG.kp K2 bB) (K1.trans K2) pV (jc.at fun o e=>K2.keep ki _ au e) nJ O8 O9 H
  have keep:∀h2,Kp [fr,ah] h1 h2→∀(a:Nat) o,⇑h0≤a→a≠ki→h.get? a=some o→h2.get? a=some o:=fun h2 K2 a o l1 l2 e=>K2.keep a _ (by exact #[0x11110411014312454202312113,fr,⇑h0,ah,a] lf la l1) (bb a _ l2 e)
  have O_:(KV.map (·.1)).Nodup:=hK▸hnd
  have Pa:(q:Int)∈KV.map (·.1):=List.mem_map.mpr ⟨KV[k],List.getElem_mem hk1,hq⟩
  ac_rfl
  obtain⟨es,fe,hes,Pb⟩:=hF
  have hfr:h1.get? fr=some _:=bb fr _ nf Pb
  obtain⟨zz,y4,z4,rfl⟩:∃z y v,es=pe J fZ z y v:=by
   rcases hes with⟨_,rfl⟩|⟨y4,z4,rfl⟩
   ·exact⟨false,0,.none,rfl⟩
   ·exact⟨true,y4,z4,rfl⟩
  by_cases F0:j<q
  ·have fin:∀h2 ao (x e:Nat),Kp [fr,ah] h1 h2→vj J.P l st ah y0 z0 y1 u tu y2 j ta y3 du fr (k+1) h2→h2.DictAt (intKind pw J.W) ah (stored KV q (.ref x)) ep→⇑h1≤x→h2.get? x=some (lst (ds.take q) e)→codeAny J.M A (yo J.P fr cd cw cp cf ki) (ay R) (J.S h2 ao):=fun h2 ao x e K2 pV nJ lx ex=>by
    obtain⟨sk,sg⟩:=O2 (v:=.ref x) O_ hx
    refine next h2 ao _ K2 pV nJ (sk.trans hK) fun i kv hi=>?_
    rcases sg i kv hi with⟨rfl,rfl⟩|⟨ne,hi⟩
    ·refine⟨x,_,e,rfl,.inr ⟨by left,oN (oJ lx FY),ex⟩,?_⟩
     rw[if_pos (by left)]
     show bR (if j<((q:Int)).toNat then dl.take ((q:Int)).toNat else f ((q:Int)).toNat) _
     rw[show((q:Int)).toNat=q from rfl,if_pos F0]
     exact hds.take q
    ·ac_rfl
     obtain⟨a,xs,e,e1,e2,e3⟩:=hQ i kv hi
     refine⟨a,xs,e,e1,e2.imp id fun z=>⟨z.1,z.2.1,keep h2 K2 a _ z.1 z.2.1 z.2.2⟩,?_⟩
     by_cases il:i<k
     ·rw[if_pos il]at e3;rw[if_pos (oF il)];exact e3
     ·rw[if_neg il]at e3;rw[if_neg (by lia)];exact e3
   let vv:Vv:=jj fr fe l.t0 l.sc l.t1 l.tm l.t2 l.nu l.t3 l.sh l.t4 l.sp l.t5 l.nd l.t6 st l.t7 ah cd cw cp cf y0 y1 tu y2 ta y3 du y4 ep ed ki t ⇑h1 tk 0 l.m u j q z0 z4 .none .none .none ds as []
   refine tC.b0 zz vv rfl (RA.less rfl) B (cj hfr eA n1) (fun e1 aB H1=>.code (vo (c:=true) (by simp;lia) ?_))
   refine tC.b1 (RA.less rfl) B H1.k H1.rep (fun e2 ao H2=>.code (mW (b:=q) (H2.kp.keep _ _ au FZ) (H2.get 0 rfl) (by left) fun e3 N3=>?_))
   have w1:⇑e1=⇑h1:=H1.size
   have w2:⇑e2=⇑h1+1:=H2.size
   have w3:⇑e3=⇑e2+1:=N3.size
   refine tC.b2 (b:=⇑e2) (c:=⇑e3) (RA.less rfl) B H2.k (H2.rep.grow N3.kp) (fun e4 av H4=>.code (Pc (kvs:=KV) (ep:=ep) (rj.at' fun o e=>by rw[eA]at e;rw[←bV e];exact H4.get 0 rfl) Pa fun e5 aY yp S5=>?_))
   obtain⟨Pd,F9⟩:=FQ yp
   have w4:⇑e4=⇑e3:=H4.size
   have xn:⇑e2∉bZ _:=fun q=>Nat.lt_irrefl _ (H2.mlt _ q)
   refine tC.b3 (e:=Pd) (f:=ep) (RA.less rfl) B H4.k (H4.rep.upd (H4.bg 0 rfl rfl) (dz.same S5 F9)) (fun e6 gG H6=>?_)
   rw[tC.k3]
   have x4:=H4.kn xn N3.at_
   refine fin e6 gG ⇑e2 0 H6.kp ⟨_,_,.inr ⟨_,_,rfl⟩,H6.get 0 rfl⟩ (yp.at' fun o e=>by rw[F9]at e;rw[←bV e];exact H6.get 1 rfl) (by left) ?_
   have nx:⇑e2≠ah:=oN (oJ (oI (ol (oG w2 oA) FY) hki) la)
   refine(H6.kn ?_ (S5.extBut _ _ nx x4.1)).1
   exact uD x4.2
  ·have fin:∀h2 ao,Kp [fr,ah] h1 h2→vj J.P l st ah y0 z0 y1 u tu y2 j ta y3 du fr (k+1) h2→h2.get? ah=some (dct as ep)→codeAny J.M A (yo J.P fr cd cw cp cf ki) (ay R) (J.S h2 ao):=fun h2 ao K2 pV Pe=>by
    refine next h2 ao KV K2 pV (rj.at' fun o e=>by rw[eA]at e;rw[Pe,bV e]) hK fun i kv hi=>?_
    ac_rfl
    obtain⟨a,xs,e,e1,e2,e3⟩:=hQ i kv hi
    refine⟨a,xs,e,e1,e2.imp id fun z=>⟨z.1,z.2.1,keep h2 K2 a _ z.1 z.2.1 z.2.2⟩,?_⟩
    by_cases il:i<k
    ·rw[if_pos il]at e3;rw[if_pos (oF il)];exact e3
    ·rw[if_neg il]at e3
     by_cases ik:i=k
     ·obtain rfl:=ik.symm
      rw[hx]at hi
      obtain rfl:=bV hi
      rw[if_pos (by left)]
      show bR (if j<((q:Int)).toNat then dl.take ((q:Int)).toNat else f ((q:Int)).toNat) _
      rw[show((q:Int)).toNat=q from rfl,if_neg F0]
      exact e3
     ·rw[if_neg (by lia)];exact e3
   let vv:Vv:=jj fr fe l.t0 l.sc l.t1 l.tm l.t2 l.nu l.t3 l.sh l.t4 l.sp l.t5 l.nd l.t6 st l.t7 ah cd cw cp cf y0 y1 tu y2 ta y3 du y4 ep ed ki t ⇑h1 tk 0 l.m u j q z0 z4 .none .none .none ds as []
   refine yq.b0 zz vv rfl (RA.less rfl) B (cj hfr eA n1) (fun e1 aB H1=>.code (vo (c:=false) (by simp;lia) ?_))
   refine yq.b1 (RA.less rfl) B H1.k H1.rep (fun e2 ao H2=>?_)
   rw[yq.k1]
   exact fin e2 ao H2.kp ⟨_,_,.inr ⟨_,_,rfl⟩,H2.get 0 rfl⟩ (H2.get 1 rfl)
end
end
section
variable [Zero Heap]
theorem Pf(P:Params):cN P 3=.For (iS (cN P 3)) (pI (cN P 3)) (cO (cN P 3)) [] (yr (cN P 3)):=by kernel_rfl
structure lO (P:Params) (w:World) (C:Cfg) (cx:Bool) (fr dk ah it St cf fl cd:Nat) (fo:Obj) (f:Nat→List Sh) (n:Nat) (F:Nat) (κ:List Addr) (T:MS) (aI aH bx:Obj) (h:Heap):Prop where
 inv:Inv P w (I4 F St fr fo dk aI ah aH it bx) [] κ T h
 jO:iM C cx T f
 shown:T.shown.length≤n
 bY:cZ h dk
 i6:∃PQ,h.DictOf (intKind pw w) ah PQ∧rm (VA (I4 F St fr fo dk aI ah aH it bx) κ h fl) (bE C C.m) f PQ
 hcf:IV (I4 F St fr fo dk aI ah aH it bx) κ h cf (bL (.ref fl))
 hfl:∃fs ef,IV (I4 F St fr fo dk aI ah aH it bx) κ h fl (lst fs ef)∧bR C.firsts fs
 hcd:IV (I4 F St fr fo dk aI ah aH it bx) κ h cd (bL (.ref dk))
section
variable {P:Params}{w:World}{C:Cfg}{cx:Bool}{fr dk ah it St cf fl cd:Nat}{fo fm:Obj}{f:Nat→List Sh}{n F:Nat}{κ:List Addr}{T:MS}{aI aH bx gZ lN:Obj}{h h':Heap}
theorem lO.move(x:lO P w C cx fr dk ah it St cf fl cd fo f n F κ T aI aH bx h){m:List Addr}(K:Kp m h h')(hm:∀(a:Nat),a∈m→a=fr∨a=dk∨a=it∨⇑h≤a)(e1:h'.get? fr=some fm)(e2:h'.get? dk=some gZ)(e4:h'.get? it=some lN)(hd:cZ h' dk):
 lO P w C cx fr dk ah it St cf fl cd fm f n F κ T gZ aH lN h'∧(∀a o,IV (I4 F St fr fo dk aI ah aH it bx) κ h a o→IV (I4 F St fr fm dk gZ ah aH it lN) κ h' a o):=by
 refine x.inv.ye fun g1 g2 g3 g5 g4 n1 n2 n3 n4 n5 n6 n7 n8 n9 sW yf Fx Fy Fz FA FD FE FF=>?_
 ac_rfl
 obtain⟨PQ,a1,a2⟩:=x.i6
 refine bu.fS a1 fun o ho hdo=>?_
 have la:ah<⇑h:=aj ho
 refine x.inv.gW fun vs e q1 q2=>?_
 have lF:F<⇑h:=aj q1
 have nm:∀(a:Nat),a<⇑h→a≠fr→a≠dk→a≠it→a∉m:=fun a l w1 w2 w3 q=>by
  rcases hm a q with z|z|z|z
  ·exact w1 z
  ·exact w2 z
  ·exact w3 z
  ·exact #[0x111200c41202112,a,⇑h] l z
 have k1:h'.get? ah=some o:=K.keep _ _ (nm ah la n2.symm n4.symm (by left)) ho
 have k2:h.get? ah=some aH:=x.inv.ys (ah,aH) (b_ 2 rfl)
 obtain⟨i,V⟩:=x.inv.Bj (F':=F) (T':=T) (f_:=aH) K (fun a ha=>by
  rcases hm a ha with z|z|z|z
  ·exact .inl z
  ·exact .inr (.inl z)
  ·exact .inr (.inr (.inr (.inl z)))
  ·exact .inr (.inr (.inr (.inr z)))) e1 e2 (by rw[ho]at k2;rw[k1,bV k2]) e4 (.inl rfl) ⟨vs,e,K.keep F _ (nm F lF n7 n8 sW) q1,q2⟩ rfl rfl rfl
 ac_rfl
 obtain⟨fs,ef,w1,w2⟩:=x.hfl
 exact⟨⟨i,x.jO,x.shown,hd,⟨PQ,bu.at k1 hdo,a2.mono fun a o v=>⟨V a o v.1,v.2⟩⟩,V _ _ x.hcf,⟨fs,ef,V _ _ w1,w2⟩,V _ _ x.hcd⟩,V⟩
end
section
variable {J:WX}{A:Around}{E:Value→Shared→Prop}{h:Heap}{tk:Nat}{Q:Flow→Shared→Prop}{fr cd cw cp cf st ah dk it fl fe:Nat}{l:LF}{C:Cfg}{cx:Bool}
theorem rm.at{V:View}{ks:List Int}{f:Nat→List Sh}{PQ:List (Int×Value)}(x:rm V ks f PQ)(nd:ks.Nodup){q:Int}(hq:q∈ks):∃(a:Nat)(xs:List Value)(e:Nat),valueAt PQ q=some (.ref a)∧V a (lst xs e)∧bR (f q.toNat) xs:=by
 rw[←x.1]at hq
 ac_rfl
 obtain⟨i,hi,e⟩:=List.getElem_of_mem hq
 have hi':i<PQ.length:=by simpa using hi
 obtain⟨a,xs,ea,e1,e2,e3⟩:=x.2 i _ (a_ hi')
 rw[List.getElem_map]at e
 rw[e]at e3
 refine⟨a,xs,ea,Fw (x.1▸nd) (i:=i) ?_,e2,e3⟩
 rw[a_ hi']
 exact congrArg some (Prod.ext e e1)
theorem Pg{f:Nat→List Sh}{n F y0 y1 y2 y3 j du ed tu ta:Nat}{u:Int}{z0:Value}{es:List DictEntry}{ds:List Value}{κ:List Addr}{T:MS}{aI aH bx:Obj}(O:C.OK)(RA:aa A 138)(x:lO J.P J.W C cx fr dk ah it st cf fl cd (gu J.P l st ah y0 z0 y1 u tu y2 j ta y3 du es fe) f n F κ T aI aH bx h)(hes:es=[]∨∃y4 z4,es=[ent J.P fZ y4 z4])(hn:n≤399)(hj:(j:Int)∈bE C C.m)
 (ve:IV (I4 F st fr (gu J.P l st ah y0 z0 y1 u tu y2 j ta y3 du es fe) dk aI ah aH it bx) κ h du (lst ds ed)) (hds:bR (f j++[Sh.int u]++C.firsts.drop (j+1)) ds)
 (H:∀h' tk' (dR y4:Nat) z4 f' F' κ' T' f_,lO J.P J.W C cx fr dk ah it st cf fl cd (gu J.P l st ah y0 z0 y1 u tu y2 j ta y3 du [ent J.P fZ y4 z4] dR) f' (n+1) F' κ' T' aI f_ bx h'→Q .next (J.S h' tk')):
 wpAny J.M A (execs [cN J.P 2,cN J.P 3] (bC J.P fr cd cw cp cf)) Q E (J.S h tk):=by
 refine OU O RA x.inv x.jO x.shown hn hj ve hds (fun h1 aB F1 yt T1 x1 L1 s1 fj jm V1=>?_)
 refine x1.ye fun g1 g2 g3 g5 g4 n1 n2 n3 n4 n5 n6 n7 n8 n9 sW yf Fx Fy Fz FA FD FE FF=>?_
 have Bu:h.get? ah=some aH:=x.inv.ys (ah,aH) (b_ 2 rfl)
 have F_:h1.get? ah=some aH:=x1.ys (ah,aH) (b_ 2 rfl)
 have Ph:h.get? dk=some aI:=x.inv.ys (dk,aI) (b_ 1 rfl)
 have Ga:h1.get? dk=some aI:=x1.ys (dk,aI) (b_ 1 rfl)
 have Pj:h1.get? it=some bx:=x1.ys (it,bx) (b_ 3 rfl)
 have yu:h1.get? fr=some (gu J.P l st ah y0 z0 y1 u tu y2 j ta y3 du es fe):=x1.ys (fr,gu J.P l st ah y0 z0 y1 u tu y2 j ta y3 du es fe) (b_ 0 rfl)
 have Pn:cZ h1 dk:=by
  ac_rfl
  obtain⟨ys,e,ns,d1,d2⟩:=x.bY
  exact⟨ys,e,ns,by rw[Ph]at d1;rw[Ga,bV d1],d2⟩
 obtain⟨PQ,a1,a2⟩:=x.i6
 refine bu.fS a1 fun o ho hdo=>?_
 obtain rfl:o=aH:=by rw[Bu]at ho;exact(bV ho).symm
 have a1':h1.DictOf (intKind pw J.W) ah PQ:=bu.at F_ hdo
 obtain⟨ep,rj⟩:=a1'.dictAt
 have a2':=a2.mono (V':=VA (I4 F1 st fr (gu J.P l st ah y0 z0 y1 u tu y2 j ta y3 du es fe) dk aI ah o it bx) yt h1 fl) fun a o v=>⟨V1 a o v.1,v.2⟩
 have Bv:=qT C C.m
 have m4:=O.m4
 have nN:1≤(bE C C.m).length:=List.length_pos_of_mem hj
 have Gb:fr<⇑h1:=aj yu
 have Po:ah<⇑h1:=aj F_
 rw[Pf]
 let vv:Vv:=jj fr fe l.t0 l.sc l.t1 l.tm l.t2 l.nu l.t3 l.sh l.t4 l.sp l.t5 l.nd l.t6 st l.t7 ah cd cw cp cf y0 y1 tu y2 ta y3 du ⇑h1 aB 0 0 0 0 0 0 l.m u j 0 z0 .none .none .none .none [] es []
 refine wpAny_execs_cons (wpAny_For (eH (Gd.b0 vv rfl (RA.less rfl) (aG (mods:=[fr]) x1.top bI (ro:=[]) trivial) (cQ .refl yu (.inl (by k_in))) (fun h2 ao H2=>?_))))
 have K2:Kp [fr] h1 h2:=H2.kp
 have s2:⇑h2=⇑h1:=H2.size
 have nJ:h2.DictAt (intKind pw J.W) ah PQ ep:=rj.at' fun o e=>K2.keep ah _ ak e
 refine wpAny_pyIter_dict (knd:=intKind pw J.W) (beq_eq_false_iff_ne.mpr (ya g3)) nJ ?_
 have N3:eF ⟨.type "dict_keyiterator",none,.fields ⟨[.ref ah,.int 0 0,.int PQ.length 0,.int ep 0]⟩,#[]⟩ h2 (h2.push ⟨.type "dict_keyiterator",none,.fields ⟨[.ref ah,.int 0 0,.int PQ.length 0,.int ep 0]⟩,#[]⟩):=eF.of rfl
 generalize h2.push ⟨.type "dict_keyiterator",none,.fields ⟨[.ref ah,.int 0 0,.int PQ.length 0,.int ep 0]⟩,#[]⟩=h3 at N3
 have s3:⇑h3=⇑h2+1:=N3.size
 have K3:Kp [] h2 h3:=N3.kp
 have iw:Kp [fr] h1 h3:=K2.step K3 (by k_in)
 have Bw:h3.IsKeyIter ⇑h2 ah 0 PQ.length ep:=⟨_,N3.at_,rfl,rfl⟩
 have hpl:PQ.length=(bE C C.m).length:=by rw[←a2.1];simp
 have Ge:=V1 _ _ ve
 refine IV.out Ge fun _ _ _ Pp _ Pq _=>?_
 have Bx:∀q∈bE C C.m,∃m:Nat,q=(m:Int):=fun q hq=>by
  ac_rfl
  obtain⟨i,_,e⟩:=mM hq
  exact⟨i,e.symm⟩
 have Pu:(C.firsts.drop (j+1)).length≤4:=by simp[Cfg.firsts];left
 refine codeAny_mono (FU (R:=fun r s'=>match r with|.ok f=>(fun f s'=>match f with|.next=>wpAny J.M A (execs [] (bC J.P fr cd cw cp cf)) Q E s'|f=>Q f s') f s'|.error e=>False) (ki:=⇑h2) (ks:=bE C C.m) (h0:=h2) (V:=VA (I4 F1 st fr (gu J.P l st ah y0 z0 y1 u tu y2 j ta y3 du es fe) dk aI ah o it bx) yt h1 fl) (f:=f) (dl:=f j++[Sh.int u]++C.firsts.drop (j+1)) (l:=l) (ep:=ep) (y0:=y0) (y1:=y1) (y2:=y2) (y3:=y3) (j:=j) (du:=du) (ed:=ed) (tu:=tu) (ta:=ta) (u:=u) (z0:=z0) (ds:=ds) (RA.less rfl) hds (by rw[hds.1];simp only[List.length_append,List.length_cons,List.length_nil];exact #[0x11111016064d141c0c010004c404c303212124,(f j).length,j,C.m,(List.drop (j+1) C.firsts).length] fj jm m4 Pu) (K2.keep du _ ak Ge.2) Bx (yg C C.m) (oI (oS m4 rfl) Bv) (bl) g1 g3 (by have:=x1.fh;exact #[0x111011531216d02322111216d03,fr,⇑h1,⇑h2] g1 Gb s2) (oH s2 Gb) (oH s2 Po) n2 Pp Pq (bE C C.m).length 0 (#[0x111111110c020,(bE C C.m).length]) h3 ao PQ ((x1.top.kp iw bI)) (K3.more (by k_in)) ⟨es,fe,hes.imp (fun e=>⟨rfl,e⟩) id,K3.keep fr _ (by k_in) (H2.get 0 rfl)⟩ (hpl▸Bw) (nJ.at' fun o e=>K3.keep ah _ (by k_in) e) a2.1 ?_ ?_) ?_
 ·intro i kv hi
  ac_rfl
  obtain⟨a,xs,e,e1,e2,e3⟩:=a2'.2 i kv hi
  exact⟨a,xs,e,e1,.inl e2,by rw[if_neg (by exact Nat.not_lt_of_le (#[0x111110c00,i]))];exact e3⟩
 ·intro h4 av KV K4 Pw jR Gf Px
  ac_rfl
  obtain⟨Gg,pW,Py,Pz⟩:=Pw
  obtain⟨y4,z4,rfl⟩:=Py.resolve_left (fun q=>#[0x111200c40c1211c02,(bE C C.m).length] nN q.1)
  refine bu.fS jR fun f_ PA W6=>?_
  have eB:Kp [fr,ah] h1 h4:=(K2.more (by k_in)).trans K4
  refine x1.gW fun vs e q1 q2=>?_
  have lF:F1<⇑h1:=aj q1
  have s4:=K4.size
  ac_rfl
  obtain⟨x4,V4⟩:=x1.Bj (F':=F1) (T':=T1) (fm:=gu J.P l st ah y0 z0 y1 u tu y2 j ta y3 du [ent J.P fZ y4 z4] pW) (gZ:=aI) (f_:=f_) (lN:=bx) eB (fun a ha=>(Ba ha).imp id fun z=>.inr (.inl z)) Pz (eB.keep dk _ au Ga) PA (eB.keep it _ au Pj) (.inl rfl) ⟨vs,e,eB.keep F1 _ au q1,q2⟩ rfl rfl rfl
  obtain⟨fs,ef,w1,w2⟩:=x.hfl
  refine wpAny_execs_nil (H h4 av pW y4 z4 _ F1 yt T1 f_ ⟨x4,L1,s1,Pn.kp eB au,⟨KV,jR,Gf,fun i kv hi=>?_⟩,V4 _ _ (V1 _ _ x.hcf),⟨fs,ef,V4 _ _ (V1 _ _ w1),w2⟩,V4 _ _ (V1 _ _ x.hcd)⟩)
  have il:i<(bE C C.m).length:=by
   rw[←Gf,List.length_map];exact(fN hi).1
  ac_rfl
  obtain⟨a,xs,e',e1,e2,e3⟩:=Px i kv hi
  rw[if_pos il]at e3
  refine⟨a,xs,e',e1,?_,e3⟩
  rcases e2 with e2|⟨l1,l2,e2⟩
  ·exact⟨V4 _ _ e2.1,e2.2⟩
  ·have i7:⇑h1≤a:=by left
   have dU:fl<⇑h1:=aj (V1 _ _ w1).2
   have fh:=x1.fh
   refine⟨⟨fun q=>?_,e2⟩,Nat.ne_of_gt (aJ dU i7),aq fh i7⟩
   have q:a∈([]++(I4 F1 st fr (gu J.P l st ah y0 z0 y1 u tu y2 j ta y3 du [ent J.P fZ y4 z4] pW) dk aI ah f_ it bx).M yt):=q
   have:=x1.lt a q
   have:a<⇑h1:=this
   exact #[0x111200c41212102,⇑h1,a] i7 this
 ·intro r s' hr
  cases r with
  |ok f=>cases f<;>exact hr
  |error e=>exact hr.elim
end
end
section
variable [Zero Heap]
theorem PB(P:Params):cO (aF P 13)=[cN P 0,cN P 1,cN P 2,cN P 3]:=by kernel_rfl
theorem bR.append{a b:List Sh}{xs ys:List Value}(x:bR a xs)(y:bR b ys):bR (a++b) (xs++ys):=by
 refine⟨by simp[x.1,y.1],fun j s v h1 h2=>?_⟩
 by_cases hj:j<a.length
 ·rw[dm hj]at h1
  rw[dm (x.1▸hj)]at h2
  exact x.2 j s v h1 h2
 ·rw[eY (by left)]at h1
  rw[eY (by have:=x.1;exact by exact #[0x11011411302321202,j,a.length,xs.length] (Nat.le_of_not_lt hj) this),x.1]at h2
  exact y.2 _ s v h1 h2
theorem bR.drop{a:List Sh}{xs:List Value}(x:bR a xs)(k:Nat):bR (a.drop k) (xs.drop k):=
 ⟨by rw[List.length_drop,List.length_drop,x.1],fun j s v h1 h2=>by
  rw[List.getElem?_drop]at h1 h2
  exact x.2 _ s v h1 h2⟩
theorem bR.PC{i:Int}{t:Nat}:bR [.int i] [.int i t]:=⟨rfl,fun j s v h1 h2=>by
 cases j with
 |zero=>simp at h1 h2;rw[←h1,←h2];exact .int
 |succ j=>simp at h1⟩
theorem iM.Gh{C:Cfg}{cx:Bool}{T:MS}{f:Nat→List Sh}(L:iM C cx T f){j:Nat}(hj:(j:Int)∈bE C C.m):(f j).length=j∧j<C.m:=by
 have hm:=(uS.mp hj).1
 rw[←L.keys]at hj
 obtain⟨⟨a,fs⟩,h,e⟩:=mM hj
 have lk:=L.lk
 unfold LK at lk
 cases cx with
 |true=>
  rw[if_pos rfl]at lk
  obtain⟨i,e2,_,ρ,E,_⟩:=lk a fs h
  obtain rfl:i=j:=by have e:a=(j:Int):=e;lia
  exact⟨E.pl,hm⟩
 |false=>
  rw[if_neg (by simp)]at lk
  obtain⟨_,e2,_,e3,_⟩:=lk a fs h
  obtain rfl:j=0:=by have e:a=(j:Int):=e;lia
  exact⟨by rw[e3];rfl,hm⟩
noncomputable abbrev vq(P:Params)(fr cd cw cp cf it:Nat):Code:=.forLoop (iS (aF P 13)) (.ref it) (cO (aF P 13)) [] (bC P fr cd cw cp cf)
noncomputable abbrev By(P:Params)(l:LF)(st ah y0:Nat)(z0:Value)(y1:Nat)(z1:Value)(y2:Nat)(z2:Value)(y3:Nat)(z3:Value)(y4:Nat)(z4:Value)(fe:Nat):Obj:=ai (G8 P l st ah++[ent P ji y0 z0,ent P aX y1 z1,ent P cE y2 z2,ent P fU y3 z3,ent P fZ y4 z4]) fe
section
variable {J:WX}{A:Around}{R:RR}{h:Heap}{tk:Nat}{fr cd cw cp cf st ah dk it fl fe:Nat}{l:LF}{C:Cfg}{cx:Bool}
theorem Gi(zz:Bool){y0 y1 y2 y3 y4:Nat}{z0 z1 z2 z3 z4:Value}{f:Nat→List Sh}{n F tp:Nat}{p:Int}{κ:List Addr}{T:MS}{aI aH bx:Obj}(O:C.OK)(RA:aa A 138)(x:lO J.P J.W C cx fr dk ah it st cf fl cd (ai (G8 J.P l st ah++p5 J zz y0 z0 y1 z1 y2 z2 y3 z3 y4 z4) fe) f n F κ T aI aH bx h)(hn:n≤399)(nN:1≤(bE C C.m).length)
 (H:∀h' tk' (dR y0 y1 y2 y3 y4:Nat) z0 z1 z2 z3 z4 f' F' κ' T' gZ f_,lO J.P J.W C cx fr dk ah it st cf fl cd (By J.P l st ah y0 z0 y1 z1 y2 z2 y3 z3 y4 z4 dR) f' (n+1) F' κ' T' gZ f_ bx h'→codeAny J.M A (vq J.P fr cd cw cp cf it) (ay R) (J.S h' tk')):
 wpAny J.M A (mX (iS (aF J.P 13)) (.ref it) (cO (aF J.P 13)) [] (bC J.P fr cd cw cp cf) (.int p tp)) (X.postC pw J.W A (ay R)) (X.postE (ay R)) (J.S h tk):=by
 refine x.inv.Bk fun g1 g2 g3 g5 g4 n1 n2 n3 n4 n5 n6=>?_
 have hfr:h.get? fr=some (ai (G8 J.P l st ah++p5 J zz y0 z0 y1 z1 y2 z2 y3 z3 y4 z4) fe):=x.inv.ys (fr,ai (G8 J.P l st ah++p5 J zz y0 z0 y1 z1 y2 z2 y3 z3 y4 z4) fe) (b_ 0 rfl)
 let vv:Vv:=jj fr fe l.t0 l.sc l.t1 l.tm l.t2 l.nu l.t3 l.sh l.t4 l.sp l.t5 l.nd l.t6 st l.t7 ah cd cw cp cf y0 y1 y2 y3 y4 tp ⇑h tk 0 0 0 0 0 0 0 l.m p 0 0 z0 z1 z2 z3 z4 [] [] []
 refine PD (Gj.b0 zz vv rfl (RA.less rfl) (aG (mods:=[fr]) x.inv.top bI (ro:=[]) trivial) (cQ .refl hfr (.inl (by k_in))) (fun h1 aB H1=>?_))
 have K1:Kp [fr] h h1:=H1.kp
 have f1:h1.get? fr=some (ai (G8 J.P l st ah++(ent J.P ji (fi zz y0 tk) (.int p tp)::p4 J zz y1 z1 y2 z2 y3 z3 y4 z4)) (fi zz fe (fe+1))):=H1.get 0 rfl
 obtain⟨x1,V1⟩:=x.move K1 (fun a ha=>.inl (mS ha)) f1 (K1.keep dk _ ak (x.inv.ys (dk,aI) (by simp))) (K1.keep it _ ak (x.inv.ys (it,bx) (b_ 3 rfl))) (x.bY.kp K1 ak)
 show wpAny _ _ _ _ _ _
 rw[PB]
 ac_rfl
 obtain⟨PQ,a1,a2⟩:=x1.i6
 obtain⟨fs,ef,pX,hfs⟩:=x1.hfl
 have Bv:=qT C C.m
 have m4:=O.m4
 have hpl:PQ.length=(bE C C.m).length:=by rw[←a2.1];simp
 refine IV.out x1.hcd fun _ _ _ c1 c2 c3 _=>?_
 refine OA (PQ:=PQ) (ks:=bE C C.m) (RA.less rfl) x1.inv.top f1 x1.hcd.2 x1.bY a1 a2.1 (oG hpl nN) (oI m4 (ox hpl Bv)) g1 g2 g3 n1 n2 n4 c1 c2 c3 (fun h2 ao vt w1 w2 xv a tx ta K2 f2 d2 ha=>?_)
 ac_rfl
 obtain⟨j,_,hj⟩:=mM ha
 subst hj
 ac_rfl
 obtain⟨tD,tG,BA,vz,BC⟩:=d2
 have d2:cZ h2 dk:=⟨tD,tG,BA,vz,BC⟩
 obtain⟨x2,V2⟩:=x1.move K2 (fun a ha=>(Ba ha).imp id .inl) f2 vz (K2.keep it _ au (x1.inv.ys (it,bx) (b_ 3 rfl))) d2
 obtain⟨W7,PE,PF⟩:=x2.i6
 obtain⟨al,xs,ea,hv,val,hxs⟩:=PF.at (yg C C.m) ha
 have Gk:=V2 _ _ pX
 obtain⟨val,PG,PI⟩:=val
 refine IV.out val fun _ _ _ e1 _ e3 _=>?_
 refine IV.out x2.hcf fun _ _ _ e4 _ e6 _=>?_
 refine IV.out Gk fun _ _ _ e7 _ e9 _=>?_
 have BD:cf≠al:=fun q=>by
  have e:=x2.hcf.2
  rw[q,val.2]at e
  simp at e
 have Gl:bR (f j) xs:=hxs
 have PJ:xs.length≤50:=by
  rw[Gl.1,(x2.jO.Gh ha).1]
  have:=(x2.jO.Gh ha).2
  left
 have hds:bR (f j++[Sh.int xv]++C.firsts.drop (j+1)) (xs++[Value.int xv tx]++fs.drop (j+1)):=(Gl.append .PC).append (hfs.drop _)
 have W9:fs.length≤4:=by rw[hfs.1];simp[Cfg.firsts,m4]
 refine OO (j:=j) (al:=al) (ea:=ea) (fl:=fl) (ef:=ef) (xs:=xs) (fs:=fs) (RA.less rfl) x2.inv.top f2 PE hv val.2 x2.hcf.2 Gk.2 PJ (by left) g1 g3 PI n2 e1 e3 e4 e6 BD e7 e9 (Ne.symm PG) (fun h3 az Gm w3 du K3 f3 ld PK=>?_)
 obtain⟨x3,V3⟩:=x2.move K3 (fun a ha=>.inl (mS ha)) f3 (K3.keep dk _ ak vz) (K3.keep it _ ak (x2.inv.ys (it,bx) (b_ 3 rfl))) (d2.kp K3 ak)
 refine Pg (l:=l) (y0:=fi zz y0 tk) (y1:=w1) (y2:=w2) (y3:=w3) (j:=j) (du:=du) (tu:=tx) (ta:=ta) (u:=xv) (z0:=.int p tp) (es:=pe J fZ zz y4 z4) (ds:=xs++[.int xv tx]++fs.drop (j+1)) (ed:=0) O RA x3 (by cases zz;exact .inl rfl;exact .inr ⟨_,_,rfl⟩) hn ha ⟨fun q=>?_,PK⟩ hds (fun h4 av pW y4 z4 f4 F4 PL T4 PM x4=>?_)
 ·have q2:du∈([]++(I4 F st fr (ai (G8 J.P l st ah++(ent J.P ji (fi zz y0 tk) (.int p tp)::ent J.P aX w1 (.int xv tx)::ent J.P cE w2 (.int j ta)::p2 J zz y3 z3 y4 z4)) vt) dk (lst tD tG) ah aH it bx).M κ):=q
  exact Nat.lt_irrefl _ (aJ (x2.inv.lt du q2) ld)
 ·exact H h4 av pW _ _ _ _ _ _ _ _ _ _ f4 F4 PL T4 _ PM x4
end
end
section
variable [Zero Heap]
theorem BE{h:Heap}{it:Addr}{x left step:Int}(e:IsRangeIter h it x left step):∃o,h.get? it=some o∧∀h',h'.get? it=some o→IsRangeIter h' it x left step:=⟨_,e,fun _ q=>q⟩
section
variable {J:WX}{A:Around}{R:RR}{fr cd cw cp cf st ah dk it fl:Nat}{l:LF}{C:Cfg}{cx:Bool}
theorem BF{h:Heap}{tk:Nat}{x:Int}(RA:aa A 138)(TT:aE J.P h)(g1:534≤it)(hI:IsRangeIter h it x 0 1)(H:∀h' tk',aE J.P h'→R (.ok .next) (J.S h' tk')):codeAny J.M A (vq J.P fr cd cw cp cf it) (ay R) (J.S h tk):=by
 refine FT (Gn RA.handled hI (Int.le_refl _) fun h1 b hs=>H h1 tk (TT.kp (mods:=[it]) ⟨fun c o hc e=>b _ _ (by simpa using hc) e,hs⟩ bI))
theorem Gq(O:C.OK)(RA:aa A 138)(nN:1≤(bE C C.m).length)(H:∀h' tk',aE J.P h'→R (.ok .next) (J.S h' tk')):∀(r n:Nat),n+r≤399→∀(h:Heap)(tk fe y0 y1 y2 y3 y4:Nat)(z0 z1 z2 z3 z4:Value)(f:Nat→List Sh)(F:Nat)(κ:List Addr)(T:MS)(aI aH bx:Obj)(p:Int),lO J.P J.W C cx fr dk ah it st cf fl cd (By J.P l st ah y0 z0 y1 z1 y2 z2 y3 z3 y4 z4 fe) f n F κ T aI aH bx h→IsRangeIter h it p (r:Int) 1→
 codeAny J.M A (vq J.P fr cd cw cp cf it) (ay R) (J.S h tk)
 |0,n,hn,h,tk,fe,y0,y1,y2,y3,y4,z0,z1,z2,z3,z4,f,F,κ,T,aI,aH,bx,p,x,hI=>BF RA x.inv.top (x.inv.lo _ (b_ 6 rfl)) hI H
 |r+1,n,hn,h,tk,fe,y0,y1,y2,y3,y4,z0,z1,z2,z3,z4,f,F,κ,T,aI,aH,bx,p,x,hI=>by
  refine x.inv.Bk fun g1 g2 g3 g5 g4 n1 n2 n3 n4 n5 n6=>?_
  refine BG hI (by lia) (lB ∅ _) fun h1 jc S1=>?_
  have K1:Kp [it] h h1:=.but S1
  obtain⟨o1,e1,nO⟩:=BE jc
  obtain⟨x1,V1⟩:=x.move K1 (fun a ha=>.inr (.inr (.inl (mS ha)))) (K1.keep fr _ ak (x.inv.ys (fr,By J.P l st ah y0 z0 y1 z1 y2 z2 y3 z3 y4 z4 fe) (by simp))) (K1.keep dk _ ak (x.inv.ys (dk,aI) (b_ 1 rfl))) e1 (x.bY.kp K1 ak)
  refine Gi true O RA x1 (by left) nN (fun h2 ao vt y0 y1 y2 y3 y4 z0 z1 z2 z3 z4 f2 F2 BH T2 BI BJ x2=>?_)
  have e2:h2.get? it=some o1:=x2.inv.ys (it,o1) (b_ 3 rfl)
  refine Gq O RA nN H r (n+1) (#[0x111218fd121c100018fd1c201001,n,r] hn) h2 ao vt y0 y1 y2 y3 y4 z0 z1 z2 z3 z4 f2 F2 BH T2 BI BJ o1 (p+1) x2 ?_
  have q:=nO h2 e2
  rw[show(((r+1:Nat):Int)-1)=(r:Int) by lia]at q
  exact q
theorem PN{f:Nat→List Sh}{n F fe:Nat}{κ:List Addr}{T:MS}{aI aH bx:Obj}{h:Heap}{tk r:Nat}{p:Int}(O:C.OK)(RA:aa A 138)(nN:1≤(bE C C.m).length)(H:∀h' tk',aE J.P h'→R (.ok .next) (J.S h' tk'))(hn:n+r≤399)(x:lO J.P J.W C cx fr dk ah it st cf fl cd (ai (G8 J.P l st ah) fe) f n F κ T aI aH bx h)(hI:IsRangeIter h it p (r:Int) 1):
 codeAny J.M A (vq J.P fr cd cw cp cf it) (ay R) (J.S h tk):=by
 cases r with
 |zero=>exact BF RA x.inv.top (x.inv.lo _ (b_ 6 rfl)) hI H
 |succ r=>
  refine x.inv.Bk fun g1 g2 g3 g5 g4 n1 n2 n3 n4 n5 n6=>?_
  refine BG hI (by lia) (lB ∅ _) fun h1 jc S1=>?_
  have K1:Kp [it] h h1:=.but S1
  obtain⟨o1,e1,nO⟩:=BE jc
  obtain⟨x1,V1⟩:=x.move K1 (fun a ha=>.inr (.inr (.inl (mS ha)))) (K1.keep fr _ ak (x.inv.ys (fr,ai (G8 J.P l st ah) fe) (by simp))) (K1.keep dk _ ak (x.inv.ys (dk,aI) (b_ 1 rfl))) e1 (x.bY.kp K1 ak)
  refine Gi false (y0:=0) (y1:=0) (y2:=0) (y3:=0) (y4:=0) (z0:=.none) (z1:=.none) (z2:=.none) (z3:=.none) (z4:=.none) O RA x1 (by left) nN (fun h2 ao vt y0 y1 y2 y3 y4 z0 z1 z2 z3 z4 f2 F2 BH T2 BI BJ x2=>?_)
  have e2:h2.get? it=some o1:=x2.inv.ys (it,o1) (b_ 3 rfl)
  refine Gq O RA nN H r (n+1) (#[0x111218fd121c100018fd1c201001,n,r] hn) h2 ao vt y0 y1 y2 y3 y4 z0 z1 z2 z3 z4 f2 F2 BH T2 BI BJ o1 (p+1) x2 ?_
  have q:=nO h2 e2
  rw[show(((r+1:Nat):Int)-1)=(r:Int) by lia]at q
  exact q
end
end
section
variable [Zero Heap]
noncomputable def Gr:PySem.Expr→Str
 |.Name x _=>x
 |_=>⟨#[]⟩
noncomputable def Gs:PySem.Expr→Pos
 |.Name _ p=>p
 |_=>⟨0,0,0,0⟩
noncomputable def PO:PySem.Expr→Pos
 |.Call _ _ _ p=>p
 |_=>⟨0,0,0,0⟩
noncomputable def Gu:PySem.Expr→Pos
 |.IfExp _ _ _ p=>p
 |_=>⟨0,0,0,0⟩
noncomputable abbrev jl(P:Params):PySem.Expr:=pI (aF P 13)
noncomputable abbrev tH(P:Params):PySem.Expr:=AE (gQ (jl P) 0)
theorem PR(P:Params):aF P 13=.For (iS (aF P 13)) (.Call (.Name (Gr (sN (jl P))) (Gs (sN (jl P)))) [.IfExp (.Compare (fB (tH P)) [.NotEq] [fC (tH P)] (jx (tH P))) (AF (gQ (jl P) 0)) (AG (gQ (jl P) 0)) (Gu (gQ (jl P) 0))] [] (PO (jl P))) (cO (aF P 13)) [] (yr (aF P 13)):=by kernel_rfl
theorem PT(P:Params):PySem.Expr.Name (Gr (sN (jl P))) (Gs (sN (jl P)))=sN (jl P):=by kernel_rfl
section
variable {J:WX}{A:Around}{E:Value→Shared→Prop}{h:Heap}{tk:Nat}{Q:Flow→Shared→Prop}{rest:List Stmt}{fr cd cw cp cf st ah dk fl fe:Nat}{l:LF}{C:Cfg}{cx:Bool}
theorem dW.PU{P:Params}{w:World}{fo:Obj}{f:Nat→List Sh}{n F:Nat}{κ:List Addr}{T:MS}{aI aH bx:Obj}{h':Heap}{it:Nat}(x:dW P w C cx fr dk ah st cf fl cd fo f n F κ T aI aH h)(K:Kp [] h h')(hi:⇑h≤it)(e:h'.get? it=some bx):lO P w C cx fr dk ah it st cf fl cd fo f n F κ T aI aH bx h':=by
 have nd:=x.inv.nd
 have lt:=x.inv.lt
 have lf:fr<⇑h:=lt fr (by k_in)
 have ld:dk<⇑h:=lt dk (by k_in)
 have la:ah<⇑h:=lt ah (by k_in)
 have lF:F<⇑h:=lt F (by k_in)
 refine uZ nd fun u1 u2 u3 u4 u5 _ _ _ _ _ _ _ v1 v2 v4=>?_
 refine x.inv.gW fun vs e0 q1 q2=>?_
 ac_rfl
 obtain⟨i,V⟩:=x.inv.rebase (F:=F) (Y:=[(fr,fo),(dk,aI),(ah,aH),(it,bx)]) (S':=T) K (fun a ha=>absurd ha g9) (fun a ha=>absurd ha g9) (c_ ⟨.inl (by k_in),K.keep _ _ (by k_in) (x.inv.ys (fr,fo) (b_ 0 rfl))⟩ (c_ ⟨.inl (by k_in),K.keep _ _ (by k_in) (x.inv.ys (dk,aI) (b_ 1 rfl))⟩ (c_ ⟨.inl (by k_in),K.keep _ _ (by k_in) (x.inv.ys (ah,aH) (b_ 2 rfl))⟩ (c_ ⟨.inr hi,e⟩ iU)))) (by show([fr,dk,ah,it]:List Nat).Nodup;exact sV) (.inl rfl) (by show F∉([fr,dk,ah,it]:List Nat);exact(by exact kNc u3 (kNc u4 (kNc u5 (kNc (#[0x11011421331312102,⇑h,it,F] hi lF) kNn))))) ⟨vs,e0,K.keep _ _ (by k_in) q1,q2⟩ rfl rfl rfl
 obtain⟨PQ,a1,a2⟩:=x.i6
 refine bu.fS a1 fun o ho hd=>?_
 ac_rfl
 obtain⟨fs,ef,w1,w2⟩:=x.hfl
 exact⟨i,x.jO,x.shown,x.bY.kp K (by k_in),⟨PQ,bu.at (K.keep _ _ (by k_in) ho) hd,a2.mono fun a o v=>⟨V a o v.1,v.2⟩⟩,V _ _ x.hcf,⟨fs,ef,V _ _ w1,w2⟩,V _ _ x.hcd⟩
set_option backward.match.sparseCases true in
theorem PV{f:Nat→List Sh}{n F:Nat}{κ:List Addr}{T:MS}{aI aH:Obj}(O:C.OK)(RA:aa A 138)(x:dW J.P J.W C cx fr dk ah st cf fl cd (ai (G8 J.P l st ah) fe) f n F κ T aI aH h)(hn:n≤300)
 (H:∀h' tk',aE J.P h'→wpAny J.M A (execs rest (bC J.P fr cd cw cp cf)) Q E (J.S h' tk')):
 wpAny J.M A (execs (aF J.P 13::rest) (bC J.P fr cd cw cp cf)) Q E (J.S h tk):=by
 refine x.PW fun g1 g2 g3 g4 n1 n2 n3=>?_
 have hfr:=x.tK
 have aN:fr<⇑h:=aj hfr
 have loop:∀(h':Heap)(tk' r it:Nat){n F:Nat}{aI:Obj},(1≤r→1≤(bE C C.m).length)→n+r≤399→∀(h0:Heap),dW J.P J.W C cx fr dk ah st cf fl cd (ai (G8 J.P l st ah) fe) f n F κ T aI aH h0→Kp [] h0 h'→⇑h0≤it→IsRangeIter h' it ((0:Nat):Int) (r:Int) 1→
  codeAny J.M A (vq J.P fr cd cw cp cf it) (ay fun r s'=>match r with|.ok f=>(fun f s'=>match f with|.next=>wpAny J.M A (execs rest (bC J.P fr cd cw cp cf)) Q E s'|f=>Q f s') f s'|.error e=>False) (J.S h' tk'):=fun h' tk' r it {n F aI} hr hnr h0 x0 K li hI=>by
  ac_rfl
  obtain⟨o1,e1,_⟩:=BE hI
  have y:=x0.PU K li e1
  by_cases hr0:r=0
  ·subst hr0
   exact BF RA y.inv.top (y.inv.lo _ (b_ 6 rfl)) hI (fun h' tk' TT=>H h' tk' TT)
  ·exact PN O RA (hr (by lia)) (fun h' tk' TT=>H h' tk' TT) hnr y hI
 have fin:∀(h5:Heap)(aY r t:Nat){n F:Nat}{aI:Obj},r≤90→(1≤r→1≤(bE C C.m).length)→n≤300→dW J.P J.W C cx fr dk ah st cf fl cd (ai (G8 J.P l st ah) fe) f n F κ T aI aH h5→
  wpAny J.M A (PySem.call (.type "range") [.int (r:Int) t]) (fun xv s₁=>wpAny J.M A (pyIter xv) (fun it s₂=>codeAny J.M A (.forLoop (iS (aF J.P 13)) it (cO (aF J.P 13)) [] (bC J.P fr cd cw cp cf)) (fun r s'=>match r with|.ok f=>(fun f s'=>match f with|.next=>wpAny J.M A (execs rest (bC J.P fr cd cw cp cf)) Q E s'|f=>Q f s') f s'|.error e=>cameBackBy J.M A (bC J.P fr cd cw cp cf) E e s') s₂) E s₁) E (J.S h5 aY):=fun h5 aY r t {n F aI} hr hr1 hn x5=>by
  refine call_range_1 ?_
  have N6:=eF.of (o:=⟨.type "range",none,.fields ⟨[.int 0 aY,.int (r:Int) t,.int 1 (aY+1)]⟩,#[]⟩) (h:=h5) rfl
  refine wpAny_pyIter_range (IsRange.new ..) (pS (by left)).1 ?_
  rw[(pS (m:=r) (by left)).2]
  have K6:=N6.kp
  have s6:=N6.size
  generalize h5.push _=h6 at N6 K6 s6⊢
  have N7:=eF.of (o:=⟨.type "range_iterator",none,.fields ⟨[rawInt 0,rawInt (r:Int),rawInt 1]⟩,#[]⟩) (h:=h6) rfl
  have K7:=N7.kp
  have e7:=N7.at_
  generalize h6.push _=h7 at N7 K7 e7⊢
  exact codeAny_mono (loop h7 _ r ⇑h6 hr1 (#[0x1111318fd1120012cd2005ad102,r,n] hr hn) h5 x5 (K6.trans K7) (oG s6 oA) e7) (fun r s' hr=>by cases r with
   |ok f=>exact hr
   |error e=>exact hr.elim)
 rw[PR]
 refine wpAny_execs_cons (wpAny_For (wpAny_Call_NameR ?_))
 rw[PT]
 let vv:Vv:=fD fr fe l.t0 l.sc l.t1 l.tm l.t2 l.nu l.t3 l.sh l.t4 l.sp l.t5 l.nd l.t6 st l.t7 ah cd cw cp cf ⇑h tk 0 0 0 l.m 0 .none [] [] [] []
 refine eH (Gv.b0 vv rfl (RA.less rfl) (aG (mods:=[fr]) x.inv.top bI (ro:=[]) trivial) (cQ .refl hfr (.inl (by k_in))) (fun h1 aB H1=>?_))
 have K1:Kp [fr] h h1:=H1.kp
 obtain⟨x1,_⟩:=x.ai K1 (H1.get 0 rfl)
 show wpAny _ _ _ _ _ _
 show wpAny _ _ (callWith _ (.type "range") [] [(false,eval (.IfExp (.Compare (fB (tH J.P)) [.NotEq] [fC (tH J.P)] (jx (tH J.P))) (AF (gQ (jl J.P) 0)) (AG (gQ (jl J.P) 0)) (Gu (gQ (jl J.P) 0))) (bC J.P fr cd cw cp cf))] []) _ _ _
 refine PySem.callWith_type1 ?_
 let vv:Vv:=fD fr fe l.t0 l.sc l.t1 l.tm l.t2 l.nu l.t3 l.sh l.t4 l.sp l.t5 l.nd l.t6 st l.t7 ah cd cw cp cf ⇑h1 aB 0 0 0 l.m 0 .none [] [] [] []
 refine wpAny_IfExp (wpAny_isTrue_Compare1 (eH (Gw.b0 vv rfl (RA.less rfl) (aG (mods:=[fr]) x1.inv.top bI (ro:=[]) trivial) (cQ .refl x1.tK (.inl (by k_in))) (fun h2 ao H2=>?_))) rfl)
 have K2:Kp [fr] h1 h2:=H2.kp
 obtain⟨x2,_⟩:=x1.ai K2 (H2.get 0 rfl)
 show wpAny _ _ _ _ _ _
 let vv:Vv:=fD fr fe l.t0 l.sc l.t1 l.tm l.t2 l.nu l.t3 l.sh l.t4 l.sp l.t5 l.nd l.t6 st l.t7 ah cd cw cp cf ⇑h2 ao 0 0 0 l.m 0 .none [] [] [] []
 refine eH (Gx.b0 vv rfl (RA.less rfl) (aG (mods:=[fr]) x2.inv.top bI (ro:=[]) trivial) (cQ .refl x2.tK (.inl (by k_in))) (fun h3 az H3=>?_))
 have K3:Kp [fr] h2 h3:=H3.kp
 ac_rfl
 obtain⟨x3,_⟩:=x2.ai K3 (H3.get 0 rfl)
 obtain⟨PQ,a1,a2⟩:=x3.i6
 refine bu.fS a1 fun o eA dA=>?_
 ac_rfl
 obtain⟨as,ae,rfl⟩:=x_ dA
 refine PX eA (H3.get 1 rfl) g3 (by have:=x2.inv.fh;show 534≤⇑h2;left) (by have:=RA.units;left) ?_
 have hlen:as.length=(bE C C.m).length:=by
  obtain⟨es,ep,_,hd,_,hp,_⟩:=dA
  injection hd with hd
  have e:=hp.length
  rw[←hd]at e
  rw[←a2.1,List.length_map,←e]
 cases as with
 |nil=>
  let vv:Vv:=fD fr fe l.t0 l.sc l.t1 l.tm l.t2 l.nu l.t3 l.sh l.t4 l.sp l.t5 l.nd l.t6 st l.t7 ah cd cw cp cf ⇑h3 az 0 0 0 l.m 0 .none [] [] [] []
  refine eH (Gy.b0 vv rfl (RA.less rfl) (aG (mods:=[fr]) x3.inv.top bI (ro:=[]) trivial) (cQ .refl x3.tK (.inl (by k_in))) (fun h4 av H4=>?_))
  obtain⟨x4,_⟩:=x3.ai H4.kp (H4.get 0 rfl)
  exact fin h4 av 0 az (by left) (by lia) hn x4
 |cons a as=>
  refine x3.PY fun c1 c2 c3=>?_
  let vv:Vv:=fD fr fe l.t0 l.sc l.t1 l.tm l.t2 l.nu l.t3 l.sh l.t4 l.sp l.t5 l.nd l.t6 st l.t7 ah cd cw cp cf dk ⇑h3 az 0 0 l.m 0 .none [] [] [] []
  refine eH (BK.b0 vv rfl (RA.less rfl) (aG (mods:=[fr,dk]) x3.inv.top bB (ro:=[(cd,_)]) (rC x3.hcd.2 (by exact kNc c1 (kNc c2 kNn)) rN)) (cQ .refl x3.tK (.inl (by k_in))) (fun h4 av H4=>?_))
  ac_rfl
  obtain⟨ys,ed,ns,d1,d2⟩:=x3.bY
  have aA:dk<⇑h3:=aj d1
  refine H4.gr (q:=dk) (by show dk∉[fr];exact ak) d1 fun k4 m4=>?_
  refine .code (pQ (aa.up H4.k RA rfl) (x3.inv.top.kp H4.kp bB) ⟨ys,ed,ns,k4,d2⟩ g2 (by lia) (by lia) fun h5 aY f tf K5 Bg f0 f1=>?_)
  refine BK.b1 (c:=⇑h5) (RA.less rfl) (aG (mods:=[fr,dk]) x3.inv.top bB (ro:=[(cd,_)]) (rC x3.hcd.2 (by exact kNc c1 (kNc c2 kNn)) rN)) H4.k (H4.pR K5 (by k_in) (by show dk∉[fr];exact ak) aA) (fun h6 gG H6=>?_)
  ac_rfl
  obtain⟨yb,yc,Bh,k5,d5⟩:=Bg
  refine H6.gr m4 k5 fun k6 _=>?_
  have yw:Kp [fr,dk] h3 h6:=H6.kp
  refine x3.inv.gW fun vs e0 q1 q2=>?_
  have nd:=x3.inv.nd
  refine gS (dh nd) fun _ _ u3 u4=>?_
  have Bu:h6.get? ah=some aH:=yw.keep ah _ au (x3.inv.ys (ah,aH) (b_ 2 rfl))
  ac_rfl
  obtain⟨i,V⟩:=x3.move (F':=F) (T':=T) yw (fun a ha=>(Ba ha).imp id .inl) (H6.get 0 rfl) k6 Bu (.inl rfl) ⟨vs,e0,yw.keep F _ au q1,q2⟩ rfl rfl rfl
  obtain⟨fs,ef,w1,w2⟩:=x3.hfl
  have x6:dW J.P J.W C cx fr dk ah st cf fl cd _ _ n F κ T (lst yb yc) aH h6:=⟨i,x3.jO,x3.shown,⟨yb,yc,Bh,k6,d5⟩,⟨PQ,bu.at (yw.keep ah _ au eA) dA,a2.mono fun a o v=>⟨V a o v.1,v.2⟩⟩,V _ _ x3.hcf,⟨fs,ef,V _ _ w1,w2⟩,V _ _ x3.hcd⟩
  obtain⟨k,rfl⟩:∃k:Nat,f=(k:Int):=⟨f.toNat,by lia⟩
  exact fin h6 gG k tf (by lia) (fun _=>by rw[←hlen];exact oz rfl) hn x6
end
end
section
variable [Zero Heap]
noncomputable def PZ:Stmt→Nat
 |.Return (some (.Constant _ k _)) _=>k
 |_=>0
noncomputable def P0:Stmt→Pos
 |.Return (some (.Constant _ _ p)) _=>p
 |_=>⟨0,0,0,0⟩
noncomputable def P1:Stmt→Pos
 |.Return _ p=>p
 |_=>⟨0,0,0,0⟩
theorem P4(P:Params):aF P 14=.Return (some (.Constant (.bool true) (PZ (aF P 14)) (P0 (aF P 14)))) (P1 (aF P 14)):=by kernel_rfl
theorem P5(P:Params):bodyOf (mY P)=[aF P 0,aF P 1,aF P 2,aF P 3,aF P 4,aF P 5,aF P 6,aF P 7,aF P 8,aF P 9,aF P 10,aF P 11,aF P 12,aF P 13,aF P 14]:=by kernel_rfl
section
variable {J:WX}{A:Around}{R:RR}{E:Value→Shared→Prop}{Q:Flow→Shared→Prop}{h:Heap}{tk:Nat}
theorem P6{ps:List (Nd×Sh)}{cx:Bool}{l1:Int}{D:List Addr}{fr cd cw cp cf sc t0 t1 m tm t2 nu t3 sh t4 sp t5 nd t6 st fe t8 t9 se ek eh dk fl ef pl ep:Nat}{fs gs:List Value}(RA:aa A 138)(TT:aE J.P h)(hfr:h.get? fr=some (ai (F7 J.P t0 sc t1 m tm t2 nu t3 sh t4 sp t5 nd t6 st) fe))(hst:h.get? st=some (iT J.P t8 t9 (st+1) (st+2) se))(hK:h.get? (st+1)=some (dct [] ek))(hH:h.get? (st+2)=some (lst [] eh))(hcf:h.get? cf=some (bL (.ref fl)))(hfl:h.get? fl=some (lst fs ef))(hfs:bR (ps.map Prod.snd) fs)(hcd:h.get? cd=some (bL (.ref dk)))(bY:cZ h dk)(hcp:h.get? cp=some (bL (.ref pl)))(hpl:h.get? pl=some (lst gs ep))(hgs:fW J.P (view D h) ps gs)
 (hn:aM J.P (view D h) ((cfgOf m (l1+1) ps).root cx (l1+1)) nd) (m1:1≤m) (m4:m≤4) (hps:ps.length=m) (hP:j_ (0+(m:Int)) ps l1) (c1:cx=true→2≤m) (c2:cx=false→m=1∨∀j,j<m→(cfgOf m (l1+1) ps).cl j=false) (hD:∀x∈D,x<⇑h) (hM:∀x∈([fr,dk,st+1,st+2]:List Nat),x∈D) (nD:([fr,dk,st,st+1,st+2]:List Nat).Nodup) (q1:cf∉([fr,dk,st+1,st+2]:List Nat)) (q2:fl∉([fr,dk,st+1,st+2]:List Nat)) (q3:cd∉([fr,dk,st+1,st+2]:List Nat)) (q4:cp∉([fr,dk,st+1,st+2]:List Nat)) (q5:pl∉([fr,dk,st+1,st+2]:List Nat)) (g1:534≤fr) (g2:534≤dk) (g3:534≤st)
 (H:∀h' tk',aE J.P h'→Q (.ret (.bool true)) (J.S h' tk')):
 wpAny J.M A (execs [aF J.P 9,aF J.P 10,aF J.P 11,aF J.P 12,aF J.P 13,aF J.P 14] (bC J.P fr cd cw cp cf)) Q E (J.S h tk):=by
 have O:=A9 m1 m4 hps hP
 have BL:=E8 hP
 have pt:∀j,j<m→∃q,ps[j]? =some q∧(cfgOf m (l1+1) ps).part j=q.1:=fun j hj=>by
  obtain⟨q,q1,q2,_⟩:=E9 (l1:=l1) hps hj
  exact⟨q,q1,q2⟩
 have P7:Shape (cfgOf m (l1+1) ps) ((cfgOf m (l1+1) ps).root cx (l1+1)):=by
  refine Od O cx (fun i j y hi hj y1 y2=>?_) (fun i y hi y1=>?_) (fun i hi=>?_)
  ·obtain⟨p,p1,p2⟩:=pt i hi
   obtain⟨q,q1,q2⟩:=pt j hj
   rw[p2]at y1
   rw[q2]at y2
   exact BL.2.2 i j p q y p1 q1 y1 y2
  ·obtain⟨p,p1,p2⟩:=pt i hi
   rw[p2]at y1
   exact((BL.2.1 i p p1).2 y y1).2
  ·show l1+1+(m:Int)+((m-1-(m-1-i):Nat):Int)+1=l1+1+(m:Int)+(i:Int)+1
   have hi:i<m:=hi
   lia
 have Gz:bR (cfgOf m (l1+1) ps).firsts fs:=by
  have e:(cfgOf m (l1+1) ps).firsts=ps.map Prod.snd:=by
   unfold Cfg.firsts
   refine List.ext_getElem (by simp[cfgOf,hps]) fun j q1 q2=>?_
   have hj:j<ps.length:=by simpa using q2
   simp[cfgOf,hj]
  rw[e];exact hfs
 have qF:∀(j:Nat) x,ps[j]? =some x→qE x.1∧(cfgOf m (l1+1) ps).cl j=!gA x.1:=fun j x hx=>by
  have hj:j<m:=by rw[←hps];exact(fN hx).1
  obtain⟨q,e1,e2⟩:=pt j hj
  rw[hx]at e1
  obtain rfl:=bV e1
  refine⟨?_,?_⟩
  ·obtain⟨⟨a,b,P⟩,_⟩:=BL.2.1 j x hx
   obtain⟨x1,x2⟩:=x
   cases P<;>exact trivial
  ·show(!gA ((cfgOf m (l1+1) ps).part j))=_
   rw[e2]
 have P8:fr∉([dk,st,st+1,st+2]:List Nat):=(List.nodup_cons.mp nD).1
 refine gS P8 fun n1 n2 n3 n4=>?_
 have f1:∀{a:Nat},a∉([fr,dk,st+1,st+2]:List Nat)→a∉([fr]:List Nat):=fun h q=>h (by rw[mS q];simp)
 refine P9 (D:=D) (RA.less rfl) TT hfr g1 hn P7 m1 hD (hM fr (by k_in)) (fun h1 aB K1 yx=>?_)
 have eG:=TT.kp K1 bI
 obtain⟨tD,tG,BA,vz,BC⟩:=bY.kp K1 ak
 refine P_ (C:=cfgOf m (l1+1) ps) (cx:=cx) (L:=l1+1) (dk:=dk) (fl:=fl) (st:=st) (D:=D) RA eG yx (K1.keep st _ ak hst) (K1.keep (st+1) _ ak hK) (K1.keep (st+2) _ ak hH) (K1.keep cf _ (f1 q1) hcf) (K1.keep fl _ (f1 q2) hfl) Gz vz (hn.mono fun a o v=>aO K1 (by simp[hM fr]) a o v) O c1 c2 (fun x hx=>aJ (hD x hx) K1.size) hM nD q1 q2 g1 g2 g3 (fun h2 ao κ T F x2 L2 Qa V2 s2=>?_)
 have nH:∀(a:Nat) o,a∉([fr,dk,st+1,st+2]:List Nat)→h.get? a=some o→IV _ κ h2 a o:=fun a o w e=>V2 a o w (K1.keep a _ (f1 w) e)
 have Qc:=hgs.mono (V':=IV (I2 F st fr (ai (F7 J.P t0 sc t1 m tm t2 nu t3 sh t4 sp t5 nd t6 st) fe) dk (lst tD tG)) κ h2) fun a o v=>nH a o (fun q=>v.1 (hM a q)) v.2
 have u0:cZ h2 dk:=⟨tD,tG,BA,x2.ys (dk,lst tD tG) (b_ 1 rfl),BC⟩
 refine Qd RA x2 L2 Qa m4 (nH cf _ q1 hcf) (nH fl _ q2 hfl) Gz (nH cd _ q3 hcd) u0 (fun h3 az Gm t7 ah aH x3 V3=>?_)
 refine Qe RA x3 (V3 _ _ (nH cp _ q4 hcp)) (V3 _ _ (nH pl _ q5 hpl)) (Qc.mono V3) hps rfl m1 m4 qF (fun h4 av x4=>?_)
 refine PV (l:=⟨t0,sc,t1,m,tm,t2,nu,t3,sh,t4,sp,t5,nd,t6,t7⟩) O RA x4 (oz rfl) (fun h5 aY vA=>?_)
 rw[P4]
 refine wpAny_execs_cons (wpAny_Return_some ?_)
 exact fun _ _ _=>H h5 aY vA
theorem NI{sc ex:Nat}{xs:List Value}{ns:List Int}(RA:aa A 139)(TT:aE J.P h)(hsc:h.get? sc=some (lst xs ex))(hi:IntsAre xs ns)(hz:xs.length≤900)(l5:534≤⇑h)(H:∀h' tk',aE J.P h'→R (rt (.bool true)) (J.S h' tk')):
 codeAny J.M A (aK 532 [.ref sc]) R (J.S h tk):=by
 have yy:sc<⇑h:=aj hsc
 have B0:=aG (prog:=pw) (w:=J.W) (mods:=[]) TT (by simp) (ro:=[]) trivial
 refine BN.b0 (dj sc ⇑h tk 0 0 0 0 0 0 0 [] []) (RA.less rfl) B0 fG (fun h1 aB H1=>?_)
 rw[BN.k0]
 show codeAny _ A (.func (bodyOf (mY J.P)) (bC J.P ⇑h (⇑h+1) (⇑h+2) (⇑h+3) (⇑h+4))) R _
 refine codeAny_func ?_
 have cz:aa (A.deeper (bC J.P ⇑h (⇑h+1) (⇑h+2) (⇑h+3) (⇑h+4))) 138:=RA.under (c:=.func (bodyOf (mY J.P)) (bC J.P ⇑h (⇑h+1) (⇑h+2) (⇑h+3) (⇑h+4))) rfl
 rw[P5]
 have K1:Kp [] h h1:=H1.kp
 have y1:⇑h1=⇑h+5:=H1.size
 have f1:=H1.get 0 rfl
 have a1:=H1.get 1 rfl
 have a2:=H1.get 2 rfl
 have a3:=H1.get 3 rfl
 have a4:=H1.get 4 rfl
 generalize hfr:⇑h=fr at*
 refine Om (sc:=sc) (t0:=tk) (fr:=fr) (cd:=fr+1) (cw:=fr+2) (cp:=fr+3) (cf:=fr+4) (cz.less rfl) (TT.kp K1 (by k_in)) f1 a1 a2 (K1.keep _ _ (by k_in) hsc) hi hz l5 (oE l5) (oE l5) (oW rfl) (oW rfl) (oO rfl) (oM yy) (oM (oF yy)) (oM (oF yy)) (fun h2 ao dk wd W_ c K2 f2 BO BP Qf W2 Qg T2 aA aD eW eT lT=>?_)
 have s2:=K2.size
 have eG:=TT.kp K1 (by k_in)
 have pY:=eG.kp K2 (by exact #[0x11121121122c101c1013216d61216d01,fr] l5)
 refine Ot (cz.less rfl) pY f2 BO Qf l5 (oI (oI aA (oG y1 oA)) l5) (oW rfl) (oM (oJ aA (oH y1 (oD rfl)))) (oM (oJ aA (oH y1 (oC rfl)))) (fun h3 az t1 tm Gm m K3 f3 Qh m1 m4=>?_)
 have s3:=K3.size
 have BQ:=pY.kp K3 (by exact #[0x1111015100015312216d63205c10221216d03,fr,⇑h1,dk] l5 y1 aA)
 refine Ou (c:=c) (W_:=W_) (wd:=wd) (l:=0) (cz.less rfl) BQ f3 (K3.keep (fr+2) _ (by exact #[0x1101105100043222c2053105c20122,⇑h1,fr,dk] y1 aA) BP) (K3.keep W_ _ (by exact #[0x11101000711011107322551c40524313105c20124,⇑h1,fr,dk,wd,W_] y1 aA aD eW) W2) (Qg.kp K3 (by exact #[0x1110005111105322454313105c20123,⇑h1,fr,dk,wd] y1 aA aD)) l5 (oI (oL aD (oI aA (oG y1 oA))) l5) (oW rfl) (#[0x110101110851231c40524313105c20124,⇑h1,fr,dk,wd,W_] y1 aA aD eW) (#[0x1101110641234313105c20123,⇑h1,fr,dk,wd] y1 aA aD) (oM (oK aD (oI aA (oG y1 (oB rfl))))) (oN (oH eW (oD rfl))) m1 m4 (fun h4 av t2 pW nu en GA K4 f4 Qi bh bJ hNs=>?_)
 have s4:=K4.size
 have kD:=BQ.kp K4 (by exact #[0x111110161000016412216d64313205c10221216d04,fr,⇑h1,dk,wd] l5 y1 aA aD)
 have gH:nu<⇑h4:=aj bJ
 have k4:∀(a:Nat) o,a≠fr→a≠dk→a≠wd→h2.get? a=some o→h4.get? a=some o:=fun a o w1 w2 w3 e=>K4.keep a _ au (K3.keep a _ au e)
 have Qj:h2.get? (fr+3)=some fQ:=K2.keep (fr+3) _ (by exact #[0x11111112c101c10133c1050,fr]) a3
 have Qk:h2.get? (fr+4)=some fQ:=K2.keep (fr+4) _ (by exact #[0x11111112c101c10134c1050,fr]) a4
 have jR:∀x∈([fr,fr+1,fr+2,fr+3,fr+4,wd,dk,c.TT]:List Nat),x<⇑h4:=#[0x1110111000000c101011101000c101011100000c101011101110c101011101110c101011101110c101011101110c101011101110c5344c203c202c201c2028979819708707606518c40524313105c20129,⇑h1,fr,dk,wd,c.TT,⇑h2,⇑h3,nu,⇑h4] y1 aA aD eT lT s3 bh s4 gH
 refine Ov (c:=c) (W_:=W_) (wd:=wd) (dk:=dk) (l:=0+(m:Int)) (D:=[fr,fr+1,fr+2,fr+3,fr+4,wd,dk,c.TT]) (cz.less rfl) kD f4 (k4 (fr+3) _ (oX rfl) (oM (oJ aA (oH y1 (oC rfl)))) (oM (oK aD (oI aA (oG y1 (oB rfl))))) Qj) (k4 (fr+2) _ (oX rfl) (oM (oJ aA (oH y1 (oC rfl)))) (oM (oK aD (oI aA (oG y1 (oB rfl))))) BP) (k4 (fr+1) _ (oX rfl) (oM (oJ aA (oH y1 (oC rfl)))) (oM (oK aD (oI aA (oG y1 (oB rfl))))) BO) (k4 W_ _ (#[0x11101110721531c40524313105c20124,⇑h1,fr,dk,wd,W_] y1 aA aD eW) (oN (oJ (oG eW oA) aD)) (oN (oH eW (oD rfl))) W2) Qi (Qh.kp K4 (by exact #[0x11010006101105422354313105c20123,⇑h1,fr,dk,wd] y1 aA aD)) (dC (by k_in) (dC (by k_in) (dC (by k_in) (dC (by k_in) (dC (#[0x11101411004122351c20322112,dk,wd,W_] aD eW) (dC (by k_in) (dC kNn dN))))))) l5 (oI (oL aD (oI aA (oG y1 oA))) l5) (oE l5) (oI (oI aA (oG y1 oA)) l5) m1 m4 jR (fun h5 aY GB pl ep gs ps l1 K5 f5 Ql Qm BR bK hpl hgs hps hP=>?_)
 have s5:=K5.size
 have vA:=kD.kp K5 (by exact #[0x11011016111101610000161000016343c1014216d64313205c10221216d04,fr,⇑h1,dk,wd] l5 y1 aA aD)
 have rq:gs.length=m:=by rw[hgs.1,hps]
 have hD:∀{e:Heap},⇑h4≤⇑e→∀x∈([fr,fr+1,fr+2,fr+3,fr+4,wd,dk,c.TT]:List Nat),x<⇑e:=fun l x hx=>aJ (jR x hx) l
 have g6:pl<⇑h5:=aj hpl
 refine Qn (D:=[fr,fr+1,fr+2,fr+3,fr+4,wd,dk,c.TT]) (cz.less rfl) vA f5 (K5.keep (fr+4) _ (by exact #[0x110011061011106100005100005343c20244c2054313105c20123,⇑h1,fr,dk,wd] y1 aA aD) (k4 (fr+4) _ (oX rfl) (oM (oJ aA (oH y1 (oC rfl)))) (oM (oK aD (oI aA (oG y1 (oB rfl))))) Qk)) BR hpl hgs l5 (oE l5) (oW rfl) (oX rfl) (oO rfl) (#[0x111111101110b21939808707606518c40524313105c20128,⇑h1,fr,dk,wd,c.TT,⇑h2,⇑h3,⇑h4,pl] y1 aA aD eT lT s3 s4 bK) (oN (oJ bK (oK gH (oI bh (oI s3 (oL lT (oG eT (oE (oL aD (oI aA (oG y1 (oB rfl)))))))))))) (oG rq m1) (ox rq (oS m4 rfl)) (by k_in) (hD s5) (fun h6 gG fl ef fs K6 f6 Qo dU hfl hfs=>?_)
 have s6:=K6.size
 have BS:=vA.kp K6 (by exact #[0x11121124c1012216d61216d01,fr] l5)
 have BU:h6.get? nu=some (lst GA en):=K6.keep nu _ (by exact #[0x11111101110a1111101110a4c2022858707606518c40524313105c20127,⇑h1,fr,dk,wd,c.TT,⇑h2,⇑h3,nu] y1 aA aD eT lT s3 bh) (K5.keep nu _ (by exact #[0x11111101000a1111100000a1111101110a1111101110a343c2024858707606518c40524313105c20127,⇑h1,fr,dk,wd,c.TT,⇑h2,⇑h3,nu] y1 aA aD eT lT s3 bh) bJ)
 have hnl:GA.length=m:=by rw[IntsAre.length hNs];simp
 have jn:fl<⇑h6:=aj hfl
 refine Qp (D:=[fr,fr+1,fr+2,fr+3,fr+4,wd,dk,c.TT]) (cz.less rfl) BS f6 BU hNs l5 (#[0x11111101110a21838707606518c40524313105c20127,⇑h1,fr,dk,wd,c.TT,⇑h2,⇑h3,nu] y1 aA aD eT lT s3 bh) (oG hnl m1) (ox hnl (oS m4 rfl)) (hD (oI (ol (oL jn dU) g6) bK)) (fun h7 d_ Xa t3 sh K7 f7 hsh=>?_)
 have s7:=K7.size
 have BV:=BS.kp K7 bI
 refine Qq (D:=[fr,fr+1,fr+2,fr+3,fr+4,wd,dk,c.TT]) (cz.less rfl) BV f7 (K7.keep nu _ (by exact #[0x11111101110a21858707606518c40524313105c20127,⇑h1,fr,dk,wd,c.TT,⇑h2,⇑h3,nu] y1 aA aD eT lT s3 bh) BU) hNs l5 (#[0x11111101110a21838707606518c40524313105c20127,⇑h1,fr,dk,wd,c.TT,⇑h2,⇑h3,nu] y1 aA aD eT lT s3 bh) (oG hnl m1) (ox hnl (oS m4 rfl)) (hD (oI (ol (oI (ol s7 jn) dU) g6) bK)) (fun h8 fT Xb t4 sp es as K8 f8 jS tL hss=>?_)
 have s8:=K8.size
 have BW:=BV.kp K8 bI
 have nP:∀(a:Nat) o,a≠fr→a≠fr+4→h5.get? a=some o→h8.get? a=some o:=fun a o w1 w2 e=>K8.keep a _ ak (K7.keep a _ ak (K6.keep a _ au e))
 have BX:∀a o,view [fr,fr+1,fr+2,fr+3,fr+4,wd,dk,c.TT] h5 a o→view [fr,fr+1,fr+2,fr+3,fr+4,wd,dk,c.TT] h8 a o:=fun a o v=>aO K8 (by k_in) a o (aO K7 (by k_in) a o (aO K6 (by k_in) a o v))
 have T8:h8.DictOf (intKind pw J.W) c.TT []:=by
  refine bu.fS T2 fun o ho hd=>?_
  exact bu.at (nP c.TT _ (oN (oH eT (oF (oK aD (oI aA (oG y1 oA)))))) (oN (oH eT (oF (oK aD (oI aA (oG y1 (oB rfl))))))) (K5.keep c.TT _ (by exact #[0x111010007110000071101110711011107343c2024558c40524313105c20124,⇑h1,fr,dk,wd,c.TT] y1 aA aD eT) (k4 c.TT _ (oN (oH eT (oF (oK aD (oI aA (oG y1 oA)))))) (oN (oJ (oG eT oA) aD)) (oN (oH eT (oD rfl))) ho))) hd
 have W8:h8.get? W_=some (ins 464 wd):=nP W_ _ (#[0x11101110721531c40524313105c20124,⇑h1,fr,dk,wd,W_] y1 aA aD eW) (#[0x1110111074c201531c40524313105c20124,⇑h1,fr,dk,wd,W_] y1 aA aD eW) (K5.keep W_ _ (by exact #[0x111010007110000071101110711011107343c2024551c40524313105c20124,⇑h1,fr,dk,wd,W_] y1 aA aD eW) (k4 W_ _ (#[0x11101110721531c40524313105c20124,⇑h1,fr,dk,wd,W_] y1 aA aD eW) (oN (oJ (oG eW oA) aD)) (oN (oH eW (oD rfl))) W2))
 have Qs:h8.get? (fr+2)=some (bL (.ref W_)):=nP (fr+2) _ (oX rfl) (oO rfl) (K5.keep (fr+2) _ (by exact #[0x1100110610111061000006100005343c20242c2054313105c20123,⇑h1,fr,dk,wd] y1 aA aD) (k4 (fr+2) _ (oX rfl) (oM (oJ aA (oH y1 (oC rfl)))) (oM (oK aD (oI aA (oG y1 (oB rfl))))) BP))
 have Qt:cP J.P h8 c wd l1:=((Ql.kp K6 (by exact #[0x11111051111054c2022454313105c20123,⇑h1,fr,dk,wd] y1 aA aD)).kp K7 (by exact #[0x111110521454313105c20123,⇑h1,fr,dk,wd] y1 aA aD)).kp K8 (by exact #[0x111110521454313105c20123,⇑h1,fr,dk,wd] y1 aA aD)
 have Qu:cZ h8 dk:=((Qm.kp K6 (by exact #[0x111104111044c2022353105c20122,⇑h1,fr,dk] y1 aA)).kp K7 (by exact #[0x11110421353105c20122,⇑h1,fr,dk] y1 aA)).kp K8 (by exact #[0x11110421353105c20122,⇑h1,fr,dk] y1 aA)
 have O:=A9 m1 m4 hps hP
 have lP:sp<⇑h8:=aj tL
 have BY:∀(a:Nat),⇑h4≤a→a∉([fr,fr+1,fr+2,fr+3,fr+4,wd,dk,c.TT]:List Nat):=fun a l q=>Nat.lt_irrefl _ (aJ (jR a q) l)
 have Qv:nu∉([fr,fr+1,fr+2,fr+3,fr+4,wd,dk,c.TT]:List Nat):=#[0x11111000000a1111101000a1111100000a1111101110a1111101110a1111101110a1111101110a1111101110a5344c203c202c201c2028858707606518c40524313105c20127,⇑h1,fr,dk,wd,c.TT,⇑h2,⇑h3,nu] y1 aA aD eT lT s3 bh
 refine Qw (c:=c) (l1:=l1) (ps:=ps) (W_:=W_) (wd:=wd) (pl:=pl) (D:=[fr,fr+1,fr+2,fr+3,fr+4,wd,dk,c.TT]) (cz.less rfl) BW f8 Qs W8 Qt T8 (nP (fr+3) _ (oX rfl) (oO rfl) BR) (nP pl _ (#[0x111111101110b21939808707606518c40524313105c20128,⇑h1,fr,dk,wd,c.TT,⇑h2,⇑h3,⇑h4,pl] y1 aA aD eT lT s3 s4 bK) (oN (oJ bK (oK gH (oI bh (oI s3 (oL lT (oG eT (oE (oL aD (oI aA (oG y1 (oB rfl)))))))))))) hpl) (hgs.mono BX) hps hP m1 m4 (K8.keep nu _ (by exact #[0x11111101110a21858707606518c40524313105c20127,⇑h1,fr,dk,wd,c.TT,⇑h2,⇑h3,nu] y1 aA aD eT lT s3 bh) (K7.keep nu _ (by exact #[0x11111101110a21858707606518c40524313105c20127,⇑h1,fr,dk,wd,c.TT,⇑h2,⇑h3,nu] y1 aA aD eT lT s3 bh) BU)) hNs ?_ tL ?_ (hD (oI (ol (oI (ol (oI (oL lP jS) s7) jn) dU) g6) bK)) (by k_in) (by k_in) (by k_in) (oJ (oI (oI (ol (oI (ol (oI (ol (oI (oL lP jS) s7) jn) dU) g6) bK) gH) bh) s3) lT) ?_ l5 (oI (oL aD (oI aA (oG y1 oA))) l5) (oI (oG eT (oE (oL aD (oI aA (oG y1 oA))))) l5) Qv (BY pl bK) (BY sp (oI (ol (oI (ol (oI jS s7) jn) dU) g6) bK)) (fun h9 ie Xc t5 nd cx K9 f9 BZ B3 hN=>?_)
 ·have z:=hsh.mono fun a o v=>aO K8 (by k_in) a o v
  unfold Cfg.uP
  rw[List.map_map]at z
  exact z
 ·rw[List.map_map]at hss
  exact hss
 ·exact dC (by k_in) (dC (by k_in) (dC (#[0x11100011109110010000911000111093c2052c203658c40621c40524313105c20125,⇑h1,fr,dk,wd,W_,c.TT] y1 aA aD eW eT) (dC (by k_in) (dC (by k_in) (dC kNn dN)))))
 have s9:=K9.size
 have B5:=BW.kp K9 (by exact #[0x11101110181001110181000000185413216d68c40524313205c10221216d05,fr,⇑h1,dk,wd,c.TT] l5 y1 aA aD eT)
 refine Qx (cz.less rfl) B5 f9 l5 (fun bU s_ Xd t6 st t8 t9 jT GC gb Qy Qz GD=>?_)
 have cV:=jT.size
 have QA:=B5.kp jT bI
 have GF:st+2<⇑bU:=aj GD
 have QB:aM J.P (view ([st,st+1,st+2]++[fr,fr+1,fr+2,fr+3,fr+4,wd,dk,c.TT]) bU) ((cfgOf m (l1+1) ps).root cx (l1+1)) nd:=hN.mono fun a o v=>aO jT (by k_in) a o (gI (ic (kAc (oG gb oR) (kAc (oE (oG gb oR)) (kAc (oE (oG gb oR)) kAn)))) a o v)
 have QC:∀x∈([st,st+1,st+2]++[fr,fr+1,fr+2,fr+3,fr+4,wd,dk,c.TT]:List Nat),x<⇑bU:=fun x hx=>by
  rcases mA hx with hx|hx
  ·exact(show∀x∈([st,st+1,st+2]:List Nat),x<⇑bU from #[0x11121121122c101c10132722c1011,st,⇑bU] GF) x hx
  ·exact hD (oI (ol (oI (ol (oI (oI (ol (oI (ox gb.symm (oL GF oA)) s9) lP) jS) s7) jn) dU) g6) bK) x hx
 have vB:∀(a:Nat) o,a≠fr→a≠wd→a≠c.TT→h8.get? a=some o→bU.get? a=some o:=fun a o w1 w2 w3 e=>jT.keep a _ ak (K9.keep a _ bw e)
 have QD:bU.get? (fr+4)=some (bL (.ref fl)):=vB (fr+4) _ (oX rfl) (oM (oK aD (oI aA (oG y1 (oB rfl))))) (oM (oH eT (oF (oK aD (oI aA (oG y1 (oB rfl))))))) (K8.keep (fr+4) _ (by exact #[0x111114c1050,fr]) (K7.keep (fr+4) _ (by exact #[0x111114c1050,fr]) Qo))
 have QE:bU.get? fl=some (lst fs ef):=vB fl _ (#[0x1111111101110c21a3a909808707606518c40524313105c20129,⇑h1,fr,dk,wd,c.TT,⇑h2,⇑h3,⇑h4,⇑h5,fl] y1 aA aD eT lT s3 s4 s5 dU) (oN (oJ dU (oK g6 (oI bK (oL gH (oI bh (oI s3 (oL lT (oG eT oA))))))))) (oN (oJ (oI (oI (ol (oI (ol dU g6) bK) gH) bh) s3) lT)) (K8.keep fl _ (by exact #[0x1111111101110c21a5a909808707606518c40524313105c20129,⇑h1,fr,dk,wd,c.TT,⇑h2,⇑h3,⇑h4,⇑h5,fl] y1 aA aD eT lT s3 s4 s5 dU) (K7.keep fl _ (by exact #[0x1111111101110c21a5a909808707606518c40524313105c20129,⇑h1,fr,dk,wd,c.TT,⇑h2,⇑h3,⇑h4,⇑h5,fl] y1 aA aD eT lT s3 s4 s5 dU) hfl))
 have QF:bU.get? (fr+1)=some (bL (.ref dk)):=vB (fr+1) _ (oX rfl) (oM (oK aD (oI aA (oG y1 (oB rfl))))) (oM (oH eT (oF (oK aD (oI aA (oG y1 (oB rfl))))))) (nP (fr+1) _ (oX rfl) (oO rfl) (K5.keep (fr+1) _ (by exact #[0x1100110610111061000006100005343c20241c2054313105c20123,⇑h1,fr,dk,wd] y1 aA aD) (k4 (fr+1) _ (oX rfl) (oM (oJ aA (oH y1 (oC rfl)))) (oM (oK aD (oI aA (oG y1 (oB rfl))))) BO)))
 have QG:bU.get? (fr+3)=some (bL (.ref pl)):=vB (fr+3) _ (oX rfl) (oM (oK aD (oI aA (oG y1 (oB rfl))))) (oM (oH eT (oF (oK aD (oI aA (oG y1 (oB rfl))))))) (nP (fr+3) _ (oX rfl) (oO rfl) BR)
 have QH:bU.get? pl=some (lst gs ep):=vB pl _ (#[0x111111101110b21939808707606518c40524313105c20128,⇑h1,fr,dk,wd,c.TT,⇑h2,⇑h3,⇑h4,pl] y1 aA aD eT lT s3 s4 bK) (oN (oJ bK (oK gH (oI bh (oI s3 (oL lT (oG eT oA))))))) (oN (oJ (oI (oI (ol bK gH) bh) s3) lT)) (nP pl _ (#[0x111111101110b21939808707606518c40524313105c20128,⇑h1,fr,dk,wd,c.TT,⇑h2,⇑h3,⇑h4,pl] y1 aA aD eT lT s3 s4 bK) (oN (oJ bK (oK gH (oI bh (oI s3 (oL lT (oG eT (oE (oL aD (oI aA (oG y1 (oB rfl)))))))))))) hpl)
 have QI:cZ bU dk:=(Qu.kp K9 (by exact #[0x1101010008100010008100011075423358c40524313105c20124,⇑h1,fr,dk,wd,c.TT] y1 aA aD eT)).kp jT (by exact #[0x11110421353105c20122,⇑h1,fr,dk] y1 aA)
 have tM:⇑h5≤⇑h9:=oI (ol (oI (oI (ol s9 lP) jS) s7) jn) dU
 have QJ:fW J.P (view ([st,st+1,st+2]++[fr,fr+1,fr+2,fr+3,fr+4,wd,dk,c.TT]) bU) ps gs:=hgs.mono fun a o v=>aO jT (by k_in) a o (gI (ic (kAc (oG gb oR) (kAc (oE (oG gb oR)) (kAc (oE (oG gb oR)) kAn)))) a o (aO K9 (by k_in) a o (BX a o v)))
 clear hD jR BY nP k4 TT eG pY BQ kD vA BS BV BW B5 BX
 have vC:∀(a:Nat),a<st→a≠fr→a≠dk→a∉([fr,dk,st+1,st+2]:List Nat):=fun a w1 w2 w3=>(by exact kNc w2 (kNc w3 (kNc (#[0x110131c201132111,a,st] w1) (kNc (#[0x110132c201132111,a,st] w1) kNn))))
 have Xe:⇑h9=st:=gb.symm
 refine P6 (l1:=l1) (ps:=ps) (cx:=cx) (dk:=dk) (fl:=fl) (pl:=pl) (st:=st) (D:=[st,st+1,st+2]++[fr,fr+1,fr+2,fr+3,fr+4,wd,dk,c.TT]) (cz.less rfl) QA GC Qy Qz GD QD QE hfs QF QI QG QH QJ QB m1 m4 hps hP BZ B3 QC (by k_in) (Be (oM (oJ aA (oH y1 (oD rfl)))) (#[0x11011011111011100ffa123b90ba29808707606518c40524313105c2012a,⇑h1,fr,dk,wd,c.TT,⇑h2,⇑h3,⇑h4,⇑h5,st,⇑h9] y1 aA aD eT lT s3 s4 s5 gb tM) (#[0x11011011111011100ff1ca0123b90ba29808707606518c40524313105c2012a,⇑h1,fr,dk,wd,c.TT,⇑h2,⇑h3,⇑h4,⇑h5,st,⇑h9] y1 aA aD eT lT s3 s4 s5 gb tM) (#[0x11011011111011100ff2ca0123b90ba29808707606518c40524313105c2012a,⇑h1,fr,dk,wd,c.TT,⇑h2,⇑h3,⇑h4,⇑h5,st,⇑h9] y1 aA aD eT lT s3 s4 s5 gb tM) (oM (oJ (oG gb (oI tM (oL g6 (oI bK (oL gH (oI bh (oI s3 (oL lT (oG eT oA))))))))) aD)) (oM (oF (oJ (oG gb (oI tM (oL g6 (oI bK (oL gH (oI bh (oI s3 (oL lT (oG eT oA))))))))) aD))) (oM (oF (oJ (oG gb (oI tM (oL g6 (oI bK (oL gH (oI bh (oI s3 (oL lT (oG eT oA))))))))) aD))) (oW rfl) (oW rfl) (oO rfl)) (vC _ (oH gb (oJ s9 (oK lP (oI jS (oI s7 (oL jn (oI dU (oL g6 (oI bK (oL gH (oI bh (oI s3 (oL lT (oG eT (oE (oL aD (oI aA (oG y1 (oB rfl))))))))))))))))))) (oX rfl) (oM (oJ aA (oH y1 (oC rfl))))) (vC _ (oJ (oI (oI (ol (oG gb s9) lP) jS) s7) jn) (#[0x1111111101110c21a3a909808707606518c40524313105c20129,⇑h1,fr,dk,wd,c.TT,⇑h2,⇑h3,⇑h4,⇑h5,fl] y1 aA aD eT lT s3 s4 s5 dU) (oN (oJ (oI dU (oL g6 (oI bK (oL gH (oI bh (oI s3 (oL lT (oG eT oA)))))))) aD))) (vC _ (oH gb (oJ s9 (oK lP (oI jS (oI s7 (oL jn (oI dU (oL g6 (oI bK (oL gH (oI bh (oI s3 (oL lT (oG eT (oE (oL aD (oI aA (oG y1 (oB rfl))))))))))))))))))) (oX rfl) (oM (oJ aA (oH y1 (oC rfl))))) (vC _ (oH gb (oJ s9 (oK lP (oI jS (oI s7 (oL jn (oI dU (oL g6 (oI bK (oL gH (oI bh (oI s3 (oL lT (oG eT (oE (oL aD (oI aA (oG y1 (oB rfl))))))))))))))))))) (oX rfl) (oM (oJ aA (oH y1 (oC rfl))))) (vC _ (oJ (oI (ol (oI (oI (ol (oG gb s9) lP) jS) s7) jn) dU) g6) (#[0x111111101110b21939808707606518c40524313105c20128,⇑h1,fr,dk,wd,c.TT,⇑h2,⇑h3,⇑h4,pl] y1 aA aD eT lT s3 s4 bK) (oN (oJ (oI bK (oL gH (oI bh (oI s3 (oL lT (oG eT oA)))))) aD))) l5 (oI (oI aA (oG y1 oA)) l5) (oI (oG gb (oI s9 (oL lP (oI jS (oI s7 (oL jn (oI dU (oL g6 (oI bK (oL gH (oI bh (oI s3 (oL lT (oG eT (oE (oL aD (oI aA (oG y1 oA)))))))))))))))))) l5) (fun h' tk' TT=>H h' tk' TT)
end
end
section
open PySem PySem.W PySem.W.X PySem.Calls PyProof.Rows
noncomputable def ks:List Addr:=[(nat_lit 0),(nat_lit 2),(nat_lit 3),(nat_lit 44),(nat_lit 45),(nat_lit 62),(nat_lit 63),(nat_lit 65),(nat_lit 66),(nat_lit 81),(nat_lit 82),(nat_lit 84),(nat_lit 85),(nat_lit 100),(nat_lit 101),(nat_lit 103),(nat_lit 104),(nat_lit 119),(nat_lit 120),(nat_lit 136),(nat_lit 137),(nat_lit 152),(nat_lit 153),(nat_lit 183),(nat_lit 184),(nat_lit 199),(nat_lit 200),(nat_lit 216),(nat_lit 217),(nat_lit 232),(nat_lit 233),(nat_lit 249),(nat_lit 250),(nat_lit 310),(nat_lit 311),(nat_lit 355),(nat_lit 356),(nat_lit 366),(nat_lit 367),(nat_lit 373),(nat_lit 374),(nat_lit 378),(nat_lit 379),(nat_lit 383),(nat_lit 384),(nat_lit 397),(nat_lit 398),(nat_lit 404),(nat_lit 405),(nat_lit 463),(nat_lit 464),(nat_lit 472),(nat_lit 473),(nat_lit 479),(nat_lit 480),(nat_lit 484),(nat_lit 485),(nat_lit 491),(nat_lit 492),(nat_lit 498),(nat_lit 499),(nat_lit 505),(nat_lit 506),(nat_lit 512),(nat_lit 513),(nat_lit 519),(nat_lit 520),(nat_lit 526),(nat_lit 527),(nat_lit 531),(nat_lit 532)]
noncomputable def Yf(s:Shared):List (Option Obj)×Nat:=(ks.map s.heap.get?,s.heap.objs.size)
noncomputable def Ya(w:World):List (Option Obj)×Nat:=((K w.params).map fun p=>some p.2,533)
noncomputable def q:Program:=PySem.W.view pw [39]
noncomputable def loose:List Str:=[Str.ofString "_wall",Str.ofString "CONST",Str.ofString "LOCAL",Str.ofString "GLOBAL",Str.ofString "SET_LOCAL",Str.ofString "LAMBDA",Str.ofString "CALL",Str.ofString "SEQ",Str.ofString "Node",Str.ofString "Const",Str.ofString "Local",Str.ofString "Global",Str.ofString "SetLocal",Str.ofString "Lambda",Str.ofString "Call",Str.ofString "Seq",Str.ofString "Special",Str.ofString "UNASSIGNED",Str.ofString "Symbol",Str.ofString "SymbolTable",Str.ofString "seq_of",Str.ofString "is_steady",Str.ofString "kept_values",Str.ofString "letrec_of",Str.ofString "Names",Str.ofString "_law_deck",Str.ofString "_law_draw",Str.ofString "_law_applied",Str.ofString "_law_looked",Str.ofString "_law_begun",Str.ofString "_law_gone_on",Str.ofString "_law_run",Str.ofString "_law_part",Str.ofString "_law_are_apart"]
noncomputable abbrev hr:OpenRow:=PySem.Challenge.rw_pq1019_01.row
noncomputable def EL:List Obj→Nat→BT→BT
 | [],_,t=>t
 |o::l,i,t=>EL l (i+1) (t.ins i o)
noncomputable abbrev ann:Option Value:=some (.ref 6)
noncomputable abbrev pN:Pos:=⟨0,0,0,0⟩
noncomputable abbrev EM:Pos:=⟨282,0,307,15⟩
noncomputable def AS:Env:={scope:=pw.main.scope,locals:=mainNs,globals:=mainNs,cells:=[],code:=.ref 13,frame:=some 14}
noncomputable def AU:List Stmt:=behindTheImports pw
noncomputable abbrev c0:Code:=.body AU AS
noncomputable abbrev S0(w:World)(os:OsState):Shared:=⟨boot_heap w.params,Array.mk [],boot_drawn,boot_toks,os⟩
noncomputable def MW(w:World)(os:OsState):=topGo treeTable pw w 11 ann 12 (S0 w os) (topStub pw)
noncomputable def Sa(w:World)(os:OsState):Shared:=match MW w os with
 |some (s,_)=>s
 |none=>S0 w os
noncomputable def EN(w:World)(os:OsState):SharedT:=match Sa w os with
 |⟨h,g,d,k,o⟩=>⟨EL h.objs.toList 0 .nil,h.objs.size,h.life,g,d,k,o⟩
theorem MX(w:World)(os:OsState):(EN w os).abs=Sa w os:=by kernel_rfl
theorem MY(w:World)(os:OsState):topGo treeTable pw w 11 ann 12 (S0 w os) (topStub pw)=some (Sa w os,⟨denote treeTable c0,c0,pN,[topFrame pN]⟩):=by kernel_rfl
theorem MZ(w:World)(s:Shared):segRun treeTable pw w 11 ann 1 1 s (blockOf AU AS c0 pN [topFrame pN])=some (.next,s,c0,pN):=by
 obtain⟨a,b,c,d,e⟩:=s;kernel_rfl
theorem M3(w:World)(s:Shared):topRun treeTable pw w 11 ann 2 s ⟨doneF .next,c0,EM,[topFrame pN]⟩=some s:=by
 obtain⟨a,b,c,d,e⟩:=s;kernel_rfl
noncomputable abbrev Xt(s:Shared):Bool:=xlAt q [] s&&recOk (RowW.records hr.toRowW) s
noncomputable def looks(w:World)(s:Shared):=((staticsOk (importedModules pw.main.body) (boot_heap w.params) s.heap&&namesBound pw s.heap&&gensDone s&&laidKept (boot_heap w.params) s.heap),
 openSeen q loose (importedModules pw.main.body) Xt true s,Yf s)
theorem M4(w:World)(os:OsState):(segRunT treeTable pw w 11 ann 1 4430 (EN w os) (piecesOf AU AS c0 pN [topFrame pN])).map (fun x=>(x.1,x.2.2,looks w x.2.1.abs))=
 some (.next,(c0,EM),true,openGood q loose,Ya w):=by
 unfold looks
 rw[Fast.te10110043849684766642,Fast.te14364793385576792824,Fast.te4187177175401517315]
 kernel_rfl
theorem M5(w:World):((boot_heap w.params).isNs mainGlobals&&(Array.mk []:Array GenState).size==0,(boot_heap w.params).objs.size,(boot_heap w.params).nsMap mainGlobals "__annotations__")=(true,11,ann):=by kernel_rfl
section
variable {p q':Program}{lo:List Str}{X:Shared→Bool}{α:Type}{EO:Shared→α}{EP:World→α}{h0:Params→Heap}{g0:Array GenState}{d0:Drawn}{k0 m0 n1 n2 n3 n4 N:Nat}{an:Option Value}{env:Env}{body:List Stmt}{q1 q2:Pos}{s1:World→OsState→Shared}{s2:World→OsState→SharedT}
theorem M6(op:∀w:World,(fencedOpening treeTable p w N).map (fun s=>(s.heap,s.gens,s.drawn,s.toks))=some (h0 w.params,g0,d0,k0))
 (size:∀w:World,((h0 w.params).isNs mainGlobals&&g0.size==0,(h0 w.params).objs.size,(h0 w.params).nsMap mainGlobals "__annotations__")=(true,m0,an))
 (pre:∀w os,topGo treeTable p w m0 an n1 ⟨h0 w.params,g0,d0,k0,os⟩ (topStub p)=some (s1 w os,⟨denote treeTable (.body body env),.body body env,q1,[topFrame q1]⟩))
 (ab:∀w os,(s2 w os).abs=s1 w os)
 (M8:∀w s,segRun treeTable p w m0 an 1 n2 s (blockOf body env (.body body env) q1 [topFrame q1])=some (.next,s,.body body env,q1))
 (run:∀w os,(segRunT treeTable p w m0 an 1 n3 (s2 w os) (piecesOf body env (.body body env) q1 [topFrame q1])).map (fun x=>(x.1,x.2.2,(staticsOk (importedModules p.main.body) (h0 w.params) x.2.1.abs.heap&&namesBound p x.2.1.abs.heap&&gensDone x.2.1.abs&&laidKept (h0 w.params) x.2.1.abs.heap),openSeen q' lo (importedModules p.main.body) X true x.2.1.abs,EO x.2.1.abs))=
  some (.next,(.body body env,q2),true,openGood q' lo,EP w))
 (fin:∀w s,topRun treeTable p w m0 an n4 s ⟨doneF .next,.body body env,q2,[topFrame q1]⟩=some s)
 (le:n1+(n2+(n3+n4))≤N):LeftO p q' lo X EO EP N:=fun w=>by
 obtain⟨⟨h,gs,d,k,os⟩,e,e'⟩:=Option.map_eq_some_iff.mp (op w)
 simp only[Prod.mk.injEq]at e'
 obtain⟨rfl,rfl,rfl,rfl⟩:=e'
 obtain⟨z1,z2,z3⟩:_∧_∧_:=by simpa only[Prod.mk.injEq]using size w
 obtain⟨⟨f,sT,c,p2⟩,hr,hl⟩:=Option.map_eq_some_iff.mp (run w os)
 simp only[Prod.mk.injEq]at hl
 obtain⟨rfl,⟨rfl,rfl⟩,l6,l7,l8⟩:=hl
 have r1:=segRun_of hr
 rw[ab]at r1
 have r2:=piece_app (rest:=[]) r1 (fin w sT.abs)
 rw[List.append_nil]at r2
 have r3:=piece_block (M8 w (s1 w os)) r2
 have r4:=go_top (pre w os) r3
 have r:=topRun_mono (N-(n1+(n2+(n3+n4)))) _ _ _ _ r4
 rw[show n1+(n2+(n3+n4))+(N-(n1+(n2+(n3+n4))))=N from by exact #[0x111031013611540302002654030201021,N-(n1+(n2+(n3+n4))),n1,n2,n3,n4,N] (Nat.sub_add_cancel (#[0x111251430201005430201001,n1,n2,n3,n4,N] le))]at r
 have t:topFrom treeTable p w N ⟨h0 w.params,gs,d,k,os⟩=some sT.abs:=by
  unfold topFrom
  dsimp only
  rw[z1,z2,z3,r]
  show(match staticsOk (importedModules p.main.body) (h0 w.params) sT.abs.heap&&namesBound p sT.abs.heap&&gensDone sT.abs&&laidKept (h0 w.params) sT.abs.heap with|true=>_|false=>_)=_
  rw[l6]
 unfold openEnds
 rw[e]
 show(topFrom treeTable p w N _).map _=_
 rw[t]
 exact congrArg some (Prod.ext l7 l8)
end
theorem M9(w:World):(fencedOpening treeTable pw w 9000).map (fun s=>(s.heap,s.gens,s.drawn,s.toks))=some (boot_heap w.params,Array.mk [],boot_drawn,boot_toks):=
 boot_open (p:=pw) (N:=9000) ∅ ∅ (fun s=>by kernel_rfl) w
theorem M_:LeftO pw q loose Xt Yf Ya 9000:=M6 M9 M5 MY MX MZ M4 M3 (by decide)
end
section
open PySem PySem.W PySem.W.X PySem.Calls PyProof.Rows
noncomputable def Na:Stmt→Pos
 |.FunctionDef _ _ _ _ _ _ _ _ _ p=>p
 |_=>⟨0,0,0,0⟩
noncomputable def ld:DefRec:={name:=Str.ofString "law",params:=fp (st 39),body:=fb (st 39),scope:=fs (st 39),pos:=Na (st 39)}
theorem Nb:defOf q hr.name=some (ld,[]):=by kernel_rfl
theorem Nc:hr.prog.theDef hr.name=some (ld.params,ld.body,ld.scope):=by kernel_rfl
theorem Ng:kwWritten? ld.params.kwonlyargs ld.params.kw_defaults=some []:=by kernel_rfl
theorem Nh:(chainsOk q&&opensWell hr.prog&&(frees hr.toRowW&&hr.within.isEmpty))=true:=by decide+kernel
theorem Ni:hr.prog.bare:=⟨rfl,rfl,rfl,rfl,rfl,by decide+kernel⟩
theorem Nj:PySem.Challenge.rw_pq1019_01.row.toRowW.promised:=by w_witness2
theorem Nk:LeftO hr.prog q loose Xt Yf Ya 9000:=M_
theorem Nl(said:hr.wellSaid=true)(walk:WalkX q loose (XL q []) Yf Ya hr.toRowW ld [] fun f vs=>PySem.call f vs):hr.Holds:=
 holds_openX (r:=hr) (q:=q) (loose:=loose) (Xt:=Xt) (XP:=XL q []) (Yf:=Yf) (Ya:=Ya) (N:=9000) (d:=ld) (kwd:=[]) Nk (fun s e=>xl_of s (Bool.and_eq_true_iff.mp e).1) XL.keeps Nb Nc Ng (fun s e=>recFacts_of (Bool.and_eq_true_iff.mp e).2) (by rfl) said Nh Ni Nj walk
end
section
open PySem PySem.W PySem.W.X PySem.Calls PyProof.Rows PySem.Spec
theorem Nm:aa (callerA.mark none) 139:=⟨rfl,by show 1+claimMargin+5*139<recursionLimit;decide+kernel,by show 4+10*139<cLine;decide+kernel⟩
theorem Nn{h:Heap}{F:Frag}{as:List Addr}(e:as=F.map (·.1))(y:as.map h.get?=F.map fun p=>some p.2):AllIn h F:=allIn_of (by rw[←e];exact y)
theorem Np{h h':Heap}{F:Frag}{t:KT}(e:KT.of F=t)(A:AllIn h F)(k:∀b o,h.get? b=some o→h'.get? b=some o):∀j o,t.get j=some o→h'.get? j=some o:=by
 subst e
 exact fun j o q=>kt_at ((holds_of A).keeps k) q
theorem Nq(P:Params):ks=(K P).map (·.1):=ER P
theorem Nr{w:World}{s₀:Shared}(y:Yf s₀=Ya w):ks.map s₀.heap.get?=(K w.params).map (fun p=>some p.2):=(Prod.mk.inj y).1
theorem Nt{w:World}{s₀:Shared}(y:Yf s₀=Ya w):AllIn s₀.heap (K w.params):=Nn (Nq w.params) (Nr y)
theorem Nu{w:World}{s₀:Shared}{h:Heap}(y:Yf s₀=Ya w)(k:∀b o,s₀.heap.get? b=some o→h.get? b=some o):∀j o,(kt w.params).get j=some o→h.get? j=some o:=Np (Nv w.params) (Nt y) k
theorem Nx(P:Params):nsIn (K P) mainGlobals ld.name=some (some (.ref 532)):=by kernel_rfl
theorem Ny{w:World}{s₀:Shared}{h:Heap}{mg:Str→Option Value}{fa:Addr}(y:Yf s₀=Ya w)(k:∀b o,s₀.heap.get? b=some o→h.get? b=some o)(G:h.Ns mainGlobals mg)(hmg:mg ld.name=some (.ref fa)):fa=532:=by
 have y1:ks.map s₀.heap.get?=(K w.params).map fun p=>some p.2:=congrArg Prod.fst y
 have x:(K w.params).In s₀.heap:=Frag.in_of (ER w.params) y1
 have e:=mg_of (x.keeps k) G (Nx w.params)
 rw[hmg]at e
 injection e with e
 injection e
theorem Nz{R:WRecords}{args:List WData}(h:WShape.hasAll R args [.list .int]=true)(hl:WData.layableAll args=true):∃ns:List Int,args=[ofPy (PyData.list (ns.map PyData.int))]:=by
 obtain⟨d,r,rfl,hx,hr⟩:=hasAllW_cons h
 obtain rfl:=hasAllW_nil hr
 obtain⟨p,rfl,hh,_⟩:=open_plain (.list .int) (by decide) hx (layW_cons hl).1
 obtain⟨ns,rfl⟩:=has_list_int hh
 exact⟨ns,rfl⟩
theorem NB{R:WRecords}{ns:List Int}(h:(WTm.and (.not (.lt (.lit (.int (63:Nat))) (.len (.arg 0)))) (.lit (.bool true))).holds R {args:=[ofPy (PyData.list (ns.map PyData.int))]}=true):ns.length≤63:=by
 have e:ofPy (PyData.list (ns.map PyData.int))=.list (ofPys (ns.map PyData.int)):=by simp[ofPy]
 have l:∀ns:List Int,(ofPys (ns.map PyData.int)).length=ns.length:=fun ns=>by
  induction ns with
  |nil=>simp[ofPys]
  |cons a l ih=>simp[ofPys,ih]
 rw[e]at h
 have c:=condW_of h (w_and (w_not (w_lt w_lit (w_len_list (w_arg rfl)))) w_lit)
 rw[l]at c
 simp at c
 lia
theorem NC(args:List WData):hr.toRowW.claim.post args (.bool true) args=true:=postW_of (r:=hr.toRowW) (X:=true==true) (by rfl) (w_eq_bool (w_res rfl) w_lit) rfl
theorem NF{cl:Str→Option Addr}{mean:ExcName→Option Value}{args:List WData}{s₁ s':Shared}(k:∀b o,s₁.heap.get? b=some o→s'.heap.get? b=some o)(ho:s'.os=s₁.os)(hg:s'.gens=#[]):
 GoodWG hr.toRowW.claim cl mean args s₁ (.ok (.ret (.bool true))) s':=
 ⟨.inl ⟨_,.bool true,[],rfl,fun _=>rfl,.bool _,NC args,fun _=>⟨List.nodup_nil,fun _ h=>nomatch h⟩⟩,.of_keep k,ho,.of_eq hg⟩
theorem NG{w:World}{s₁:Shared}{sc:Addr}{xs:List Value}{ns:List Int}{A:Around}{Q:Value→Shared→Prop}{E:Value→Shared→Prop}(hA:aa (A.mark none) 139)(T:∀j o,(kt w.params).get j=some o→s₁.heap.get? j=some o)(z:s₁.heap.objs.size=534)(hsc:s₁.heap.get? sc=some (lst xs 0))(hi:IntsAre xs ns)(hz:ns.length≤63)
 (H:∀h' tk',(∀b o,s₁.heap.get? b=some o→h'.get? b=some o)→Q (.bool true) ⟨h',s₁.gens,s₁.drawn,tk',s₁.os⟩):
 wpAny (model pw w) A (PySem.call (.ref 532) [.ref sc]) Q E s₁:=by
 obtain⟨h,g,dr,tk,os⟩:=s₁
 dsimp only at T z hsc H
 letI:Zero Heap:=⟨h⟩
 rw[←NH w]at T⊢
 refine y_start _ _ _ _ _ _ _ _ none _ _ _ (fun h=>nomatch h) ?_
 refine NI (J:=⟨_,_,_,_,g,dr,os⟩) hA ⟨T,fun j o _ e=>e⟩ hsc hi (by have:=hi.length;lia) (by lia) (fun h' tk' TT=>?_)
 show wpAny _ _ (.pure (Value.bool true)) _ _ _
 refine wpAny_pure ?_
 exact H h' tk' fun b o e=>TT.2 b o (by have l:=aj e;rw[z]at l;exact l) e
theorem NJ:WalkX q loose (XL q []) Yf Ya hr.toRowW ld [] fun f vs=>PySem.call f vs:=by
 intro w s₀ s₁ mg mb G y fa o pm cd doc dV kV ho hd hcd hD hmg hg args vals as L hpre hlay hrd hwl hlo
 have TA:=Nu y L.keeps
 have sz:s₀.heap.objs.size=533:=congrArg Prod.snd y
 have hf:=Ny y L.keeps G.T.g hmg
 clear y ho hd hcd hD hmg G hwl
 subst hf
 obtain⟨h1,h2⟩:=pre_splitW hpre
 obtain⟨ns,rfl⟩:=Nz h1 hlay
 have hn:=NB h2
 obtain⟨v,vs,a1,a2,rfl,rfl,r1,r2⟩:=readsAllW_cons_inv hrd
 obtain⟨rfl,rfl⟩:=readsAllW_nil_inv r2
 obtain⟨l,o,its,n,rfl,rfl,ho,hc,hd,hi⟩:=reads_ints_open (reads_of_readsW _ r1)
 have e:=script_obj L ⟨o,ho,hc,n,hd⟩
 obtain⟨_,z⟩:=script_at L
 refine NG (xs:=its.toList) (ns:=ns) Nm TA (by rw[z,sz]) e hi hn (fun h' tk' k=>?_)
 exact NF k rfl hg
theorem NK:looksOpen PySem.Challenge.rw_pq1019_01.row.prog=true:=by
 unfold looksOpen
 iterate 5 refine look_both ?_ (by decide+kernel)
 decide+kernel
theorem NL:PySem.Challenge.rw_pq1019_01.row.partSaid=true:=by
 unfold OpenRow.partSaid
 iterate 13 refine look_both ?_ (by decide+kernel)
 exact NK
theorem NN:PySem.Challenge.rw_pq1019_01.wellSaid=true:=by
 unfold OpenLaw.wellSaid
 iterate 18 refine look_both ?_ (by decide+kernel)
 exact look_both (look_both NL (by decide+kernel)) (by decide+kernel)
end
end Mine
theorem PySem.Challenge.cw_pq1019_01_holds : PySem.Challenge.rw_pq1019_01.Holds := by
 exact PySem.W.holds_law Mine.NN fun said=>Mine.Nl said Mine.NJ
