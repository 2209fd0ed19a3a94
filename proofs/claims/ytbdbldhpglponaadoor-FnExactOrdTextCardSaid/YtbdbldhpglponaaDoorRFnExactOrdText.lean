/- The program's OrdText tells what the reference's tells, for all rows: the law's pure statement. -/
import Derived.Test.YtbdbldhpglponaaDoorTm
import Derived.Test.YtbdbldhpglponaaDoorP0
import Derived.Test.YtbdbldhpglponaaDoorPcmpCompareint
import Derived.Test.YtbdbldhpglponaaDoorPimplcompare
import Derived.Test.YtbdbldhpglponaaDoorPimpltakeOrd
import Derived.Test.YtbdbldhpglponaaDoorPimplordOf
import Derived.Test.YtbdbldhpglponaaDoorPlawstoIntS
import Derived.Test.YtbdbldhpglponaaDoorPlawseqIntS
import Derived.Test.YtbdbldhpglponaaDoorPspecl1In
import Derived.Test.YtbdbldhpglponaaDoorPspecl1Span
import Derived.Test.YtbdbldhpglponaaDoorPspecl1Terms
import Derived.Test.YtbdbldhpglponaaDoorPspecl1Compare
import Derived.Test.YtbdbldhpglponaaDoorPimpltextOf
import Derived.Test.YtbdbldhpglponaaDoorPspecl1Text
import Derived.Test.YtbdbldhpglponaaDoorPstringsJoin
import Derived.Test.YtbdbldhpglponaaDoorPspecl1End
import Derived.Test.YtbdbldhpglponaaDoorPspecOrdValid
import Derived.Test.YtbdbldhpglponaaDoorPspecOrdNumber
import Derived.Test.YtbdbldhpglponaaDoorPspecOrdText
import Derived.Test.YtbdbldhpglponaaDoorPspecl1Same
import Derived.Test.YtbdbldhpglponaaDoorPimplOrdText
import Derived.Test.YtbdbldhpglponaaDoorPlawsFnExactOrdText
set_option linter.unusedSimpArgs false
namespace OM
theorem ind {P:O→Prop}(h0:P [])(h1:∀ c e r,P e→P r→P (⟨c,e⟩::r)):∀ x,P x
 | []=>h0
 | ⟨c,e⟩::r=>h1 c e r (ind h0 h1 e) (ind h0 h1 r)
def cmp:O→O→Int
 | [],[]=>0
 | [],_::_=>-1
 | _::_,[]=>1
 | ⟨c,e⟩::r,⟨d,f⟩::s=>if cmp e f=0 then(if c<d then -1 else if d<c then 1 else cmp r s) else cmp e f
theorem cmp_nn:cmp [] []=0:=by unfold cmp;rfl
theorem cmp_nc (t:Tm)(y:O):cmp [] (t::y)=-1:=by cases t;unfold cmp;rfl
theorem cmp_cn (t:Tm)(y:O):cmp (t::y) []=1:=by cases t;unfold cmp;rfl
theorem cmp_cc (c d:Int)(e r f s:O):cmp (⟨c,e⟩::r) (⟨d,f⟩::s)=if cmp e f=0 then(if c<d then -1 else if d<c then 1 else cmp r s) else cmp e f:=by rw[cmp]
theorem cmp_range:∀ x y:O,cmp x y=-1∨cmp x y=0∨cmp x y=1:=by
 intro x
 induction x using ind with
 | h0=>intro y;cases y with
  | nil=>exact .inr (.inl cmp_nn)
  | cons t y=>exact .inl (cmp_nc t y)
 | h1 c e r ihe ihr =>
  intro y;cases y with
  | nil=>exact .inr (.inr (cmp_cn _ _))
  | cons t s =>
   obtain⟨d,f⟩:=t
   rw[cmp_cc]
   have:=ihe f
   have:=ihr s
   split
   ·split
    ·exact .inl rfl
    ·split
     ·exact .inr (.inr rfl)
     ·assumption
   ·assumption
def Lt (x y:O):Prop:=cmp x y=-1
def below (e:O):O→Prop
 | []=>True
 | ⟨_,f⟩::_=>Lt f e
def NF:O→Prop
 | []=>True
 | ⟨c,e⟩::r=>1≤c∧NF e∧NF r∧below e r
def size:O→Int
 | []=>1
 | ⟨_,e⟩::r=>1+size e+size r
def most:O→Int
 | []=>0
 | ⟨c,e⟩::r=>max c (max (most e) (most r))
theorem NF_nil:NF []:=by unfold NF;trivial
theorem NF_cons {c:Int}{e r:O}:NF (⟨c,e⟩::r) ↔ 1≤c∧NF e∧NF r∧below e r:=by rw[NF]
theorem sn_:size []=1:=by unfold size;rfl
theorem sc_ (c:Int)(e r:O):size (⟨c,e⟩::r)=1+size e+size r:=by rw[size]
theorem most_nil:most []=0:=by unfold most;rfl
theorem mc_ (c:Int)(e r:O):most (⟨c,e⟩::r)=max c (max (most e) (most r)):=by rw[most]
theorem sp_ (x:O):1≤size x:=by
 induction x using ind with
 | h0=>rw[sn_];omega
 | h1 c e r ihe ihr=>rw[sc_];omega
theorem below_cons {e f:O}{c:Int}{r:O}:below e (⟨c,f⟩::r) ↔ Lt f e:=Iff.rfl
end OM
namespace OM
end OM
namespace OM
end OM
namespace OM
end OM
namespace OM
def bef:O→O
 | []=>[]
 | [⟨c,e⟩]=>if c=1 then [] else [⟨c-1,e⟩]
 | t::u::r=>t::bef (u::r)
def kind:O→Int
 | []=>0
 | [⟨_,e⟩]=>if e.isEmpty then 1 else 2
 | _::u::r=>kind (u::r)
abbrev one:O:=[⟨1,[]⟩]
def step (n:Int):O→O
 | []=>[]
 | [⟨c,e⟩]=>(if c=1 then [] else [⟨c-1,e⟩])++(if kind e=2 then [⟨1,step n e⟩] else if kind e=1∧0<n then [⟨n,bef e⟩] else [])
 | t::u::r=>t::step n (u::r)
def tail (n:Int)(e:O):O:=if kind e=2 then [⟨1,step n e⟩] else if kind e=1∧0<n then [⟨n,bef e⟩] else []
end OM
namespace OM
end OM
namespace OM
def Tl {α:Type}(g:Nat→Option α)(r:α):Prop:=∃ K,∀ k,K≤k→g k=some r
section
variable {α β:Type}{a:α}{r:β}
theorem Tl.w (r:α):Tl (fun _=>some r) r:=⟨0,fun _ _=>rfl⟩
theorem Tl.c {x:Option α}(h:x=some a):Tl (fun _=>x) a:=⟨0,fun _ _=>h⟩
theorem Tl.rounds {g:Nat→Option α}(h:Tl g a):∃ k,g k=some a:=by
 obtain⟨K,h⟩:=h
 exact⟨K,h K (Nat.le_refl _)⟩
theorem Tl.b {g:Nat→Option α}{f:Nat→α→Option β}(h:Tl g a)(e:Tl (fun k=>f k a) r):Tl (fun k=>(g k).bind (f k)) r:=by
 obtain⟨K,h⟩:=h
 obtain⟨M,e⟩:=e
 refine⟨max K M,fun k hk=>?_⟩
 show (g k).bind (f k)=some r
 rw[h k (by omega)]
 exact e k (by omega)
theorem Tl.d {f:Nat→α→Option β}(e:Tl (fun k=>f k a) r):Tl (fun k=>(some a).bind (f k)) r:=e
theorem Tl.s {g f:Nat→Option α}(h:∀ k,g (k+1)=f k)(e:Tl f a):Tl g a:=by
 obtain⟨K,e⟩:=e
 refine⟨K+1,fun k hk=>?_⟩
 obtain⟨m,rfl⟩:∃ m,k=m+1:=⟨k-1,by omega⟩
 rw[h];exact e m (by omega)
theorem Tl.p {c:Prop}[Decidable c]{f g:Nat→Option α}(h:c)(e:Tl f a):Tl (fun k=>if c then f k else g k) a:=by
 obtain⟨K,e⟩:=e
 exact⟨K,fun k hk=>by show (if c then f k else g k)=some a;rw[if_pos h];exact e k hk⟩
theorem Tl.n {c:Prop}[Decidable c]{f g:Nat→Option α}(h:¬ c)(e:Tl g a):Tl (fun k=>if c then f k else g k) a:=by
 obtain⟨K,e⟩:=e
 exact⟨K,fun k hk=>by show (if c then f k else g k)=some a;rw[if_neg h];exact e k hk⟩
theorem Tl.to {g:Nat→Option α}{b:α}(h:Tl g b)(e:b=a):Tl g a:=e ▸ h
theorem Tl.congr {g f:Nat→Option α}(h:∀ k,g k=f k)(e:Tl f a):Tl g a:=by
 obtain⟨K,e⟩:=e
 exact⟨K,fun k hk=>by rw[h];exact e k hk⟩
end
def flat:O→List Int
 | []=>[]
 | ⟨c,e⟩::r=>c::(((e.length:Int)::flat e)++flat r)
def row (x:O):List Int:=(x.length:Int)::flat x
theorem flat_nil:flat []=[]:=by unfold flat;rfl
theorem flat_cons (c:Int)(e r:O):flat (⟨c,e⟩::r)=c::(row e++flat r):=by rw[flat];rfl
theorem row_nil:row []=[0]:=by unfold row;rw[flat_nil];rfl
theorem flat_length (x:O):((flat x).length:Int)=size x-1:=by
 induction x using ind with
 | h0=>rw[flat_nil,sn_];rfl
 | h1 c e r ihe ihr=>rw[flat_cons,sc_];unfold row;simp only[List.length_cons,List.length_append];omega
theorem rl_ (x:O):((row x).length:Int)=size x:=by
 have:=flat_length x
 unfold row;simp only[List.length_cons];omega
theorem ll_ (x:O):2*(x.length:Int)≤size x-1:=by
 induction x with
 | nil=>rw[sn_];simp
 | cons t r ih=>obtain⟨c,e⟩:=t;have:=sp_ e;rw[sc_];simp only[List.length_cons];omega
def late (last:Option O)(e:O):Bool:=match last with
 | none=>false
 | some f=>decide (0≤cmp e f)
def terms (tk:List Int→Option (O × List Int)):Nat→Option O→List Int→Option (O × List Int)
 | 0,_,l=>some ([],l)
 | _+1,_,[]=>none
 | c+1,last,t::l =>
  if 1≤t∧t≤9999 then
   match tk l with
   | none=>none
   | some (e,l')=>if late last e=true then none else
    match terms tk c (some e) l' with
    | none=>none
    | some (r,l'')=>some (⟨t,e⟩::r,l'')
  else none
def take:Nat→List Int→Option (O × List Int)
 | 0,_=>none
 | _+1,[]=>none
 | n+1,m::l=>if 0≤m∧m≤60 then terms (take n) m.toNat none l else none
def Good (tk:List Int→Option (O × List Int)):Prop:=∀ l x l',tk l=some (x,l')→l=row x++l'∧NF x∧most x≤9999
theorem terms_good {tk:List Int→Option (O × List Int)}(htk:Good tk):∀ {c:Nat} {last:Option O} {l l':List Int} {r:O},terms tk c last l=some (r,l') →
 l=flat r++l'∧NF r∧most r≤9999∧r.length=c∧∀ f,last=some f→below f r:=by
 intro c
 induction c with
 | zero =>
  intro last l l' r h
  unfold terms at h
  injection h with h
  injection h with h1 h2
  subst h1;subst h2
  exact⟨by rw[flat_nil];rfl,NF_nil,by rw[most_nil];omega,rfl,fun _ _=>trivial⟩
 | succ c ih =>
  intro last l l' r h
  cases l with
  | nil=>unfold terms at h;cases h
  | cons t l =>
   rw[terms] at h
   split at h
   ·next ht =>
    split at h
    ·cases h
    ·next e l1 he =>
     obtain⟨a1,a2,a3⟩:=htk _ _ _ he
     split at h
     ·cases h
     ·next hl =>
      split at h
      ·cases h
      ·next r' l2 hr =>
       injection h with h
       injection h with h1 h2
       subst h1;subst h2
       obtain⟨b1,b2,b3,b4,b5⟩:=ih hr
       refine⟨?_,NF_cons.2 ⟨ht.1,a2,b2,b5 e rfl⟩,?_,by simp[b4],fun f hf=>?_⟩
       ·rw[a1,b1,flat_cons];simp
       ·rw[mc_];omega
       ·subst hf
        unfold late at hl
        simp only[decide_eq_true_eq] at hl
        have:=cmp_range e f
        show cmp e f=-1
        omega
   ·cases h
theorem take_good (n:Nat):Good (take n):=by
 induction n with
 | zero=>intro l x l' h;unfold take at h;cases h
 | succ n ih =>
  intro l x l' h
  cases l with
  | nil=>unfold take at h;cases h
  | cons m l =>
   rw[take] at h
   split at h
   ·next hm =>
    obtain⟨a1,a2,a3,a4,_⟩:=terms_good ih h
    refine⟨?_,a2,a3⟩
    rw[a1]
    have:m=(x.length:Int):=by rw[a4];omega
    rw[this];rfl
   ·cases h
theorem take_len {n:Nat}{l l':List Int}{x:O}(h:take n l=some (x,l')):l'.length<l.length:=by
 obtain⟨a,_,_⟩:=take_good n _ _ _ h
 rw[a];unfold row;simp;omega
theorem terms_full {n:Nat}(ih:∀ x l,NF x→most x≤9999→(size x≤60)→size x<n→take n (row x++l)=some (x,l)) :
 ∀ (r:O) (last:Option O) (l:List Int),NF r→most r≤9999→size r≤60→size r≤n→(∀ f,last=some f→below f r)→terms (take n) r.length last (flat r++l)=some (r,l):=by
 intro r
 induction r with
 | nil=>intro last l _ _ _ _ _;rw[flat_nil];unfold terms;rfl
 | cons t r ihr =>
  intro last l h1 h2 h3 h4 h5
  obtain⟨c,e⟩:=t
  obtain⟨a1,a2,a3,a4⟩:=NF_cons.1 h1
  rw[mc_] at h2
  rw[sc_] at h3 h4
  have:=sp_ r
  have:=sp_ e
  rw[flat_cons]
  simp only[List.length_cons,List.cons_append,List.append_assoc]
  rw[terms,if_pos ⟨a1,by omega⟩,ih e _ a2 (by omega) (by omega) (by omega)]
  simp only
  have hl:¬ late last e=true:=by
   unfold late
   cases last with
   | none=>simp
   | some f =>
    have:=h5 f rfl
    simp only[decide_eq_true_eq]
    rw[below_cons] at this
    rw[this];omega
  rw[if_neg hl,ihr (some e) l a3 (by omega) (by omega) (by omega) (fun f hf=>by injection hf with hf;subst hf;exact a4)]
theorem take_full:∀ (n:Nat) (x:O) (l:List Int),NF x→most x≤9999→size x≤60→size x<n→take n (row x++l)=some (x,l):=by
 intro n
 induction n with
 | zero=>intro x l _ _ _ h;have:=sp_ x;omega
 | succ n ih =>
  intro x l h1 h2 h3 h4
  have:=ll_ x
  unfold row
  rw[List.cons_append,take,if_pos ⟨by omega,by omega⟩,Int.toNat_natCast]
  exact terms_full (fun x l a b c d=>ih x l a b c d) x none l h1 h2 h3 (by omega) (fun f hf=>by cases hf)
def Vd (x:O):Prop:=NF x∧most x≤9999∧size x≤60
theorem Vd_cons {c:Int}{e r:O}(h:Vd (⟨c,e⟩::r)):Vd e∧Vd r∧1≤c∧c≤9999:=by
 obtain⟨h1,h2,h3⟩:=h
 obtain⟨g1,g2,g3,g4⟩:=NF_cons.1 h1
 rw[mc_] at h2
 rw[sc_] at h3
 have:=sp_ e
 have:=sp_ r
 exact⟨⟨g2,by omega,by omega⟩,⟨g3,by omega,by omega⟩,g1,by omega⟩
theorem Vd.size {x:O}(h:Vd x):size x≤60:=h.2.2
def ordOf (l:List Int):Option O:=if 1≤l.length∧l.length≤60 then(match take 61 l with | some (x,[])=>some x | _=>none) else none
theorem os_ {l:List Int}{x:O}(h:ordOf l=some x):l=row x∧Vd x:=by
 unfold ordOf at h
 split at h
 ·next hl =>
  split at h
  ·next y he =>
   injection h with h
   subst h
   obtain⟨a1,a2,a3⟩:=take_good _ _ _ _ he
   rw[List.append_nil] at a1
   have:=rl_ y
   rw[← a1] at this
   exact⟨a1,a2,a3,by omega⟩
  ·cases h
 ·cases h
theorem or_ {x:O}(h:Vd x):ordOf (row x)=some x:=by
 obtain⟨h1,h2,h3⟩:=h
 have h4:=rl_ x
 have h5:=sp_ x
 have h6:=take_full 61 x [] h1 h2 h3 (by omega)
 rw[List.append_nil] at h6
 unfold ordOf
 rw[if_pos ⟨by omega,by omega⟩,h6]
end OM
namespace Go.Proofs.YtbdbldhpglponaaDoor.P
open OM Go.RowKit Go.Proofs.YtbdbldhpglponaaDoorW.PrintWords Go.Proofs.YtbdbldhpglponaaDoorW.PrintLast Go.Proofs.YtbdbldhpglponaaDoorW.PrintMore
set_option linter.unusedVariables false
theorem wi_ {i:Int}(h0:-9000000000000000000≤i)(h:i≤9000000000000000000):wrap64 i=i:=by unfold wrap64;omega
theorem getD_mid {α:Type}(p s:List α)(c d:α){i:Int}(hi:i=(p.length:Int)):(p++c::s).getD i.toNat d=c:=by subst hi;simp
theorem rd_mid (p s:List Int)(c:Int){i:Int}(hi:i=(p.length:Int)):rd (p++c::s) i=c:=getD_mid p s c 0 hi
theorem rdT_mid (p s:O)(c:Tm){i:Int}(hi:i=(p.length:Int)):rd_T57 (p++c::s) i=c:=getD_mid p s c _ hi
theorem rdL_mid (p s:List (List Int))(c:List Int){i:Int}(hi:i=(p.length:Int)):rd_L1 (p++c::s) i=c:=getD_mid p s c _ hi
theorem snoc {α:Type}(p s:List α)(c:α):p++c::s=(p++[c])++s:=by simp
theorem sa_ (p r:O):size (p++r)=size p+size r-1:=by
 induction p with
 | nil=>rw[sn_];show size r=_;omega
 | cons t p ih=>obtain⟨c,e⟩:=t;show size (⟨c,e⟩::(p++r))=_;rw[sc_,sc_,ih];omega
theorem cmpInt (a b:Int):cmp_Compare_int.f a b=some (if a<b then -1 else if b<a then 1 else 0):=by
 unfold cmp_Compare_int.f cmp_isNaN_int.f
 simp only[Option.bind_some,bne_self_eq_false,Bool.false_eq_true,if_false]
 split
 ·rfl
 ·split<;>rfl
theorem compare_f (k:Nat)(x y:O):impl_compare.f (k+1) x y=impl_compare.l0 k x y 0:=by rw[impl_compare.f]
theorem compare_l:∀ (r p q s:O),p.length=q.length→size (p++r)≤10000000000→size (q++s)≤10000000000→Tl (fun k=>impl_compare.l0 k (p++r) (q++s) (p.length:Int)) (cmp r s):=by
 intro r
 induction r using ind with
 | h0 =>
  intro p q s hl h1 h2
  have hs:=ll_ (p++[])
  have hq:=ll_ (q++s)
  refine Tl.s (fun k=>by rw[impl_compare.l0]) ?_
  refine Tl.n (by simp) ?_
  refine Tl.s (fun k=>by rw[impl_compare.j1]) ?_
  refine Tl.n (by simp) ?_
  refine Tl.b (Tl.c (cmpInt _ _)) ?_
  refine Tl.to (Tl.w _) ?_
  simp only[List.length_append,List.length_nil,Nat.add_zero]
  cases s with
  | nil=>rw[cmp_nn,if_neg (by simp;omega),if_neg (by simp;omega)]
  | cons t s=>rw[cmp_nc,if_pos (by simp;omega)]
 | h1 c e r ihe ihr =>
  intro p q s hl h1 h2
  have hp:=ll_ p
  have hs:=ll_ (p++(⟨c,e⟩::r))
  have hq:=ll_ (q++s)
  refine Tl.s (fun k=>by rw[impl_compare.l0]) ?_
  refine Tl.p (by simp;omega) ?_
  refine Tl.s (fun k=>by rw[impl_compare.j1]) ?_
  cases s with
  | nil =>
   refine Tl.n (by simp;omega) ?_
   refine Tl.b (Tl.c (cmpInt _ _)) ?_
   refine Tl.to (Tl.w _) ?_
   rw[cmp_cn,if_neg (by simp;omega),if_pos (by simp;omega)]
  | cons t s =>
   obtain⟨d,f⟩:=t
   refine Tl.p (by simp;omega) ?_
   refine Tl.p (by omega) ?_
   refine Tl.p (by simp;omega) ?_
   refine Tl.p (by simp;omega) ?_
   rw[rdT_mid p r ⟨c,e⟩ rfl,rdT_mid q s ⟨d,f⟩ (by rw[hl])]
   have z1:=h1
   have z2:=h2
   rw[sa_,sc_] at z1 z2
   have:=sp_ r
   have:=sp_ s
   have:=sp_ p
   have:=sp_ q
   have:=sp_ e
   have:=sp_ f
   refine Tl.b (Tl.s (fun k=>compare_f k e f) (ihe [] [] f rfl (by show size e≤_;omega) (by show size f≤_;omega))) ?_
   show Tl (fun k=>if cmp e f=0 then _ else _) _
   rw[cmp_cc]
   by_cases z:cmp e f=0
   ·refine Tl.p z ?_
    rw[if_pos z]
    refine Tl.b (Tl.c (cmpInt _ _)) ?_
    by_cases a:c<d
    ·rw[if_pos a,if_pos a]
     exact Tl.n (by omega) (Tl.w _)
    ·by_cases b:d<c
     ·rw[if_neg a,if_pos b,if_neg a,if_pos b]
      exact Tl.n (by omega) (Tl.w _)
     ·rw[if_neg a,if_neg b,if_neg a,if_neg b]
      refine Tl.p rfl ?_
      rw[snoc p,snoc q,wi_ (by omega) (by omega)]
      have:=ihr (p++[⟨c,e⟩]) (q++[⟨d,f⟩]) s (by simp[hl]) (by rw[← snoc];exact h1) (by rw[← snoc];exact h2)
      rw[show ((p++[(⟨c,e⟩:Tm)]).length:Int)=(p.length:Int)+1 by simp] at this
      exact this
   ·refine Tl.n z ?_
    rw[if_neg z]
    exact Tl.w _
theorem compare_ev {x y:O}(hx:size x≤10000000000)(hy:size y≤10000000000):Tl (fun k=>impl_compare.f k x y) (cmp x y) :=
 Tl.s (fun k=>compare_f k x y) (compare_l x [] [] y rfl hx hy)
theorem rd_zero (a:Int)(l:List Int):rd (a::l) 0=a:=rfl
theorem takeOrd_l {n:Nat}(ih:∀ l:List Int,l.length<n→(l.length:Int)≤100000000→Tl (fun k=>impl_takeOrd.f k l) (match take n l with | none=>([],[],false) | some (x,l')=>(x,l',true))) :
 ∀ (c:Nat) (acc:O) (l:List Int) (last:Option O) (m:Int),l.length≤n→(l.length:Int)≤100000000→m=(acc.length:Int)+c→0≤m→m≤60→size acc+(l.length:Int)≤200000000 →
  (∀ t a,acc=a++[t]→last=some t.f1)→(acc=[]→last=none) →
  Tl (fun k=>impl_takeOrd.l0 k l acc m (acc.length:Int)) (match terms (take n) c last l with | none=>([],[],false) | some (x,l')=>(acc++x,l',true)):=by
 intro c
 induction c with
 | zero =>
  intro acc l last m h1 h1' h2 h3 h4 hz h5 h6
  refine Tl.s (fun k=>by rw[impl_takeOrd.l0]) ?_
  refine Tl.n (by omega) ?_
  refine Tl.to (Tl.w _) ?_
  unfold terms;simp
 | succ c ihc =>
  intro acc l last m h1 h1' h2 h3 h4 hz h5 h6
  have hacc:=sp_ acc
  refine Tl.s (fun k=>by rw[impl_takeOrd.l0]) ?_
  refine Tl.p (by omega) ?_
  have bad:Tl (fun k=>impl_takeOrd.j2 k l acc (acc.length:Int) m (acc.length:Int) true) (([]:O),([]:List Int),false):=by
   refine Tl.s (fun k=>by rw[impl_takeOrd.j2]) ?_
   exact Tl.p rfl (Tl.w _)
  cases l with
  | nil =>
   refine Tl.p rfl ?_
   refine Tl.to bad ?_
   unfold terms;rfl
  | cons t l =>
   refine Tl.n (by simp<;>omega) ?_
   refine Tl.p (by simp<;>omega) ?_
   rw[rd_zero,terms]
   by_cases ht:t<1
   ·refine Tl.p ht ?_
    refine Tl.to bad ?_
    rw[if_neg (by omega)]
   ·refine Tl.n ht ?_
    by_cases ht':t>9999
    ·rw[decide_eq_true ht']
     refine Tl.to bad ?_
     rw[if_neg (by omega)]
    ·rw[decide_eq_false ht',if_pos (by omega)]
     refine Tl.s (fun k=>by rw[impl_takeOrd.j2]) ?_
     refine Tl.n (by simp) ?_
     refine Tl.p (by simp;omega) ?_
     simp only[List.length_cons] at h1 h1' hz
     refine Tl.b (ih l (by omega) (by omega)) ?_
     cases hk:take n l with
     | none=>exact Tl.n (by simp) (Tl.w _)
     | some q =>
      obtain⟨e,l1⟩:=q
      simp only
      refine Tl.p trivial ?_
      have hlen:=take_len hk
      obtain⟨a1,a2,a3⟩:=take_good _ _ _ _ hk
      have hse:size e+(l1.length:Int)=(l.length:Int):=by
       have:=rl_ e
       rw[a1,List.length_append];omega
      have go:∀ last',last'=some e→Tl (fun k=>if 0<(((t::l).length:Nat):Int) then(if acc.length<4398046511104 then(impl_takeOrd.l0 k l1 (acc++[(⟨rd (t::l) 0,e⟩:Tm)]) m (wrap64 ((acc.length:Int)+1))) else none) else none)
       (match (match terms (take n) c last' l1 with | none=>none | some (r,l'')=>some ((⟨t,e⟩:Tm)::r,l'')) with | none=>([],[],false) | some (x,l')=>(acc++x,l',true)):=by
       intro last' hl'
       refine Tl.p (by simp<;>omega) ?_
       refine Tl.p (by have:=ll_ acc;omega) ?_
       rw[rd_zero,wi_ (by omega) (by omega)]
       have:=ihc (acc++[⟨t,e⟩]) l1 last' m (by omega) (by omega) (by simp;omega) h3 h4 (by rw[sa_,sc_,sn_];omega)
        (fun t' a ha=>by
         have:=List.append_inj_right' ha rfl
         injection this with this
         rw[hl',← this])
        (fun ha=>by simp at ha)
       rw[show ((acc++[(⟨t,e⟩:Tm)]).length:Int)=(acc.length:Int)+1 by simp] at this
       refine Tl.to this ?_
       cases terms (take n) c last' l1 with
       | none=>rfl
       | some q=>obtain⟨r,l2⟩:=q;simp
      rcases List.eq_nil_or_concat acc with hacc | ⟨a,t',hacc⟩
      ·have hl:=h6 hacc
       subst hl
       refine Tl.n (by rw[hacc];simp) ?_
       have:late none e=false:=rfl
       rw[if_neg (by rw[this];simp)]
       exact go (some e) rfl
      ·rw[List.concat_eq_append] at hacc
       have hl:=h5 t' a hacc
       have hp:(acc.length:Int)=(a.length:Int)+1:=by rw[hacc];simp
       refine Tl.p (by omega) ?_
       rw[wi_ (by omega) (by omega)]
       refine Tl.p (by omega) ?_
       refine Tl.p (by omega) ?_
       have hrd:rd_T57 acc ((acc.length:Int)-1)=t':=by
        rw[hacc];exact rdT_mid a [] t' (by simp)
       rw[hrd]
       have hst:size t'.f1≤size acc:=by
        obtain⟨ct,et⟩:=t'
        have:=sp_ a
        have:=sp_ et
        rw[hacc,sa_,sc_,sn_];show size et≤_;omega
       refine Tl.b (compare_ev (by omega) (by omega)) ?_
       subst hl
       by_cases hc:cmp e t'.f1≥0
       ·refine Tl.p hc ?_
        have:late (some t'.f1) e=true:=by unfold late;simp only[decide_eq_true_eq];exact hc
        rw[if_pos this]
        exact Tl.w _
       ·refine Tl.n hc ?_
        have:¬ late (some t'.f1) e=true:=by unfold late;simp only[decide_eq_true_eq];exact hc
        rw[if_neg this]
        exact go (some e) rfl
theorem takeOrd_ev:∀ (n:Nat) (l:List Int),l.length<n→(l.length:Int)≤100000000→Tl (fun k=>impl_takeOrd.f k l) (match take n l with | none=>([],[],false) | some (x,l')=>(x,l',true)):=by
 intro n
 induction n with
 | zero=>intro l h;omega
 | succ n ih =>
  intro l h h'
  refine Tl.s (fun k=>by rw[impl_takeOrd.f]) ?_
  cases l with
  | nil=>refine Tl.p rfl ?_;unfold take;exact Tl.w _
  | cons m l =>
   simp only[List.length_cons] at h h'
   refine Tl.n (by simp<;>omega) ?_
   refine Tl.p (by simp<;>omega) ?_
   refine Tl.p (by simp<;>omega) ?_
   refine Tl.d ?_
   refine Tl.d ?_
   rw[rd_zero,take]
   by_cases h1:m<0
   ·refine Tl.p h1 ?_
    refine Tl.s (fun k=>by rw[impl_takeOrd.j0]) ?_
    refine Tl.p rfl ?_
    rw[if_neg (by omega)];exact Tl.w _
   ·refine Tl.n h1 ?_
    refine Tl.s (fun k=>by rw[impl_takeOrd.j0]) ?_
    by_cases h2:m>60
    ·refine Tl.p (decide_eq_true h2) ?_
     rw[if_neg (by omega)];exact Tl.w _
    ·refine Tl.n (by simp;omega) ?_
     rw[if_pos (by omega)]
     have:=takeOrd_l ih m.toNat [] l none m (by omega) (by omega) (by simp;omega) (by omega) (by omega) (by rw[sn_];omega) (fun t a ha=>by simp at ha) (fun _=>rfl)
     exact this
def ordv (l:List Int):O × Bool:=match ordOf l with
 | some x=>(x,true)
 | none=>((if 1≤l.length∧l.length≤60 then(match take 61 l with | some (x,_)=>x | none=>[]) else []),false)
theorem ordOf_ev {l:List Int}:Tl (fun k=>impl_ordOf.f k l) (ordv l):=by
 unfold ordv ordOf
 by_cases h1:(l.length:Int)<1
 ·refine Tl.p h1 ?_
  rw[if_neg (by omega),if_neg (by omega)];exact Tl.w _
 ·refine Tl.n h1 ?_
  by_cases h2:(l.length:Int)>60
  ·refine Tl.p h2 ?_
   rw[if_neg (by omega),if_neg (by omega)];exact Tl.w _
  ·refine Tl.n h2 ?_
   refine Tl.b (takeOrd_ev 61 l (by omega) (by omega)) ?_
   have hc:1≤l.length∧l.length≤60:=by omega
   rw[if_pos hc,if_pos hc]
   cases take 61 l with
   | none=>exact Tl.n (by simp) (Tl.w _)
   | some q =>
    obtain⟨x,l'⟩:=q
    refine Tl.p rfl ?_
    cases l' with
    | nil=>exact Tl.w _
    | cons a l'=>refine Tl.to (Tl.w _) ?_;simp;omega
end Go.Proofs.YtbdbldhpglponaaDoor.P
namespace Go.Proofs.YtbdbldhpglponaaDoor.P
open OM Go.RowKit Go.Proofs.YtbdbldhpglponaaDoorW.PrintWords Go.Proofs.YtbdbldhpglponaaDoorW.PrintLast Go.Proofs.YtbdbldhpglponaaDoorW.PrintMore
set_option linter.unusedVariables false
theorem eqIntS_l:∀ (a b p q:List Int),p.length=q.length→a.length=b.length→((p++a).length:Int)≤4000000000000000000→Tl (fun k=>laws_eqIntS.l0 k (p++a) (q++b) (p.length:Int)) (decide (a=b)):=by
 intro a
 induction a with
 | nil =>
  intro b p q h1 h2 h3
  cases b with
  | cons _ _=>simp at h2
  | nil =>
   refine Tl.s (fun k=>by rw[laws_eqIntS.l0]) ?_
   exact Tl.n (by simp) (Tl.w _)
 | cons x a ih =>
  intro b p q h1 h2 h3
  cases b with
  | nil=>simp at h2
  | cons y b =>
   have h3':=h3
   simp only[List.length_append,List.length_cons] at h3'
   refine Tl.s (fun k=>by rw[laws_eqIntS.l0]) ?_
   refine Tl.p (by simp;omega) ?_
   refine Tl.p (by omega) ?_
   refine Tl.p (by simp;omega) ?_
   rw[rd_mid p a x rfl,rd_mid q b y (by rw[h1])]
   by_cases h:x=y
   ·refine Tl.p h ?_
    rw[wi_ (by omega) (by omega),snoc p,snoc q]
    have:=ih b (p++[x]) (q++[y]) (by simp[h1]) (by simpa using h2) (by rw[← snoc];exact h3)
    rw[show ((p++[x]).length:Int)=(p.length:Int)+1 by simp] at this
    refine Tl.to this ?_
    simp[h]
   ·refine Tl.n h ?_
    refine Tl.to (Tl.w _) ?_
    simp[h]
theorem eqIntS_ev {a b:List Int}(h:(a.length:Int)≤4000000000000000000):Tl (fun k=>laws_eqIntS.f k a b) (decide (a=b)):=by
 by_cases hl:(a.length:Int)=(b.length:Int)
 ·exact Tl.p hl (eqIntS_l a b [] [] rfl (by omega) h)
 ·refine Tl.n hl ?_
  refine Tl.to (Tl.w _) ?_
  have:a≠b:=by rintro rfl;exact hl rfl
  simp[this]
theorem toIntS_l:∀ (a p q:List Int),q.length=a.length→((p++a).length:Int)≤4000000000000000000→Tl (fun k=>laws_toIntS.l0 k (p++a) (p++q) (p.length:Int)) (p++a):=by
 intro a
 induction a with
 | nil =>
  intro p q h1 h3
  refine Tl.s (fun k=>by rw[laws_toIntS.l0]) ?_
  refine Tl.n (by simp) ?_
  have:q=[]:=List.eq_nil_of_length_eq_zero (by simpa using h1)
  rw[this];exact Tl.w _
 | cons x a ih =>
  intro p q h1 h3
  cases q with
  | nil=>simp at h1
  | cons y q =>
   have h3':=h3
   simp only[List.length_append,List.length_cons] at h3'
   refine Tl.s (fun k=>by rw[laws_toIntS.l0]) ?_
   refine Tl.p (by simp;omega) ?_
   refine Tl.p (by omega) ?_
   refine Tl.p (by simp;omega) ?_
   rw[rd_mid p a x rfl,wi_ (by omega) (by omega)]
   have hs:(p++y::q).set (p.length:Int).toNat x=(p++[x])++q:=by simp
   rw[hs,snoc p]
   have:=ih (p++[x]) q (by simpa using h1) (by rw[← snoc];exact h3)
   rw[show ((p++[x]).length:Int)=(p.length:Int)+1 by simp] at this
   exact this
theorem toIntS_ev {a:List Int}(h:(a.length:Int)≤1000000000):Tl (fun k=>laws_toIntS.f k a) a:=by
 refine Tl.p (by omega) ?_
 refine Tl.p (by omega) ?_
 exact toIntS_l a [] (List.replicate (a.length:Int).toNat 0) (by simp) (by simp;omega)
end Go.Proofs.YtbdbldhpglponaaDoor.P
namespace Go.Proofs.YtbdbldhpglponaaDoor.P
open OM Go.RowKit Go.Proofs.YtbdbldhpglponaaDoorW.PrintWords Go.Proofs.YtbdbldhpglponaaDoorW.PrintLast Go.Proofs.YtbdbldhpglponaaDoorW.PrintMore
set_option linter.unusedVariables false
theorem l1In_eq (a lo hi:Int):spec_l1In.f a lo hi=some (decide (lo≤a∧a≤hi)):=by
 unfold spec_l1In.f
 split
 ·next h=>congr 1;by_cases g:a≤hi<;>simp[h,g]<;>omega
 ·next h=>congr 1;simp;omega
theorem span_l:∀ (r:O) (p s:List Int) (m i:Int),m=i+r.length→0≤i→m≤20000000000→(((p++(flat r++s)).length:Nat):Int)≤10000000000→Tl (fun k=>spec_l1Span.l0 k (p++(flat r++s)) (p.length:Int) m i) ((p.length:Int)+(flat r).length):=by
 intro r
 induction r using ind with
 | h0 =>
  intro p s m i h1 h2 hm h3
  refine Tl.s (fun k=>by rw[spec_l1Span.l0]) ?_
  refine Tl.n (by simp at h1;omega) ?_
  refine Tl.to (Tl.w _) ?_
  rw[flat_nil];simp
 | h1 c e r ihe ihr =>
  intro p s m i h1 h2 hm h3
  have h3':=h3
  rw[flat_cons] at h3' ⊢
  have hre:row e=(e.length:Int)::flat e:=rfl
  simp only[List.length_append,List.length_cons] at h3' h1
  rw[hre] at h3'
  simp only[List.length_append,List.length_cons] at h3'
  have hle:=ll_ e
  have hfe:=flat_length e
  have hlr:=ll_ r
  have hfr:=flat_length r
  refine Tl.s (fun k=>by rw[spec_l1Span.l0]) ?_
  refine Tl.p (by omega) ?_
  rw[wi_ (i:=(p.length:Int)+1) (by omega) (by omega),wi_ (i:=i+1) (by omega) (by omega)]
  have hsp:Tl (fun k=>spec_l1Span.f k (p++((c::(row e++flat r))++s)) ((p.length:Int)+1)) ((p.length:Int)+1+(row e).length):=by
   refine Tl.s (fun k=>by rw[spec_l1Span.f]) ?_
   refine Tl.p (by omega) ?_
   refine Tl.p (by simp[hre];omega) ?_
   have hsplit:p++((c::(row e++flat r))++s)=(p++[c])++((e.length:Int)::(flat e++(flat r++s))):=by rw[hre];simp
   rw[hsplit,rd_mid (p++[c]) _ (e.length:Int) (by simp),wi_ (by omega) (by omega)]
   have:=ihe (p++[c]++[(e.length:Int)]) (flat r++s) (e.length:Int) 0 (by omega) (by omega) (by omega) (by simp;omega)
   rw[show ((p++[c]++[(e.length:Int)]).length:Int)=(p.length:Int)+1+1 by simp;omega] at this
   rw[snoc (p++[c])]
   refine Tl.to this ?_
   rw[hre];simp only[List.length_cons];omega
  refine Tl.b hsp ?_
  have hsplit:p++((c::(row e++flat r))++s)=(p++(c::row e))++(flat r++s):=by simp
  rw[hsplit]
  have:=ihr (p++(c::row e)) s m (i+1) (by omega) (by omega) hm (by rw[← hsplit,← flat_cons];exact h3)
  rw[show ((p++(c::row e)).length:Int)=(p.length:Int)+1+(row e).length by simp;omega] at this
  refine Tl.to this ?_
  simp only[List.length_cons,List.length_append];omega
theorem span_ev (x:O)(p s:List Int)(h:(((p++(row x++s)).length:Nat):Int)≤10000000000):Tl (fun k=>spec_l1Span.f k (p++(row x++s)) (p.length:Int)) ((p.length:Int)+(row x).length):=by
 have hre:row x=(x.length:Int)::flat x:=rfl
 have h':=h
 rw[hre] at h' ⊢
 simp only[List.length_append,List.length_cons] at h'
 have hle:=ll_ x
 have hfe:=flat_length x
 refine Tl.s (fun k=>by rw[spec_l1Span.f]) ?_
 refine Tl.p (by omega) ?_
 refine Tl.p (by simp;omega) ?_
 rw[show p++((x.length:Int)::flat x++s)=p++((x.length:Int)::(flat x++s)) by simp,rd_mid p _ (x.length:Int) rfl,wi_ (by omega) (by omega)]
 have:=span_l x (p++[(x.length:Int)]) s (x.length:Int) 0 (by omega) (by omega) (by omega) (by simp;omega)
 rw[show ((p++[(x.length:Int)]).length:Int)=(p.length:Int)+1 by simp] at this
 rw[snoc p]
 refine Tl.to this ?_
 simp only[List.length_cons];omega
def cs (x:O):List Int:=x.map (·.f0)
def es (x:O):List (List Int):=x.map (fun t=>row t.f1)
theorem cl_ (x:O):(cs x).length=x.length:=by simp[cs]
theorem el_ (x:O):(es x).length=x.length:=by simp[es]
theorem cs_cons (c:Int)(e r:O):cs (⟨c,e⟩::r)=c::cs r:=rfl
theorem es_cons (c:Int)(e r:O):es (⟨c,e⟩::r)=row e::es r:=rfl
theorem cs_append (x y:O):cs (x++y)=cs x++cs y:=by simp[cs]
theorem es_append (x y:O):es (x++y)=es x++es y:=by simp[es]
theorem terms_l:∀ (r:O) (p:List Int) (A:List Int) (B:List (List Int)),((p++flat r).length:Int)≤10000000000→(A.length:Int)+r.length≤20000000000→(B.length:Int)+r.length≤20000000000 →
 Tl (fun k=>spec_l1Terms.l0 k (p++flat r) A B (p.length:Int)) (A++cs r,B++es r):=by
 intro r
 induction r with
 | nil =>
  intro p A B h1 h2 h3
  refine Tl.s (fun k=>by rw[spec_l1Terms.l0]) ?_
  refine Tl.n (by rw[flat_nil];simp) ?_
  refine Tl.to (Tl.w _) ?_
  simp[cs,es]
 | cons t r ih =>
  intro p A B h1 h2 h3
  obtain⟨c,e⟩:=t
  have h1':=h1
  rw[flat_cons] at h1' ⊢
  simp only[List.length_append,List.length_cons] at h1' h2 h3
  refine Tl.s (fun k=>by rw[spec_l1Terms.l0]) ?_
  refine Tl.p (by simp;omega) ?_
  rw[wi_ (i:=(p.length:Int)+1) (by omega) (by omega)]
  have hsplit:p++(c::(row e++flat r))=(p++[c])++(row e++flat r):=by simp
  have hsp:Tl (fun k=>spec_l1Span.f k (p++(c::(row e++flat r))) ((p.length:Int)+1)) ((p.length:Int)+1+(row e).length):=by
   rw[hsplit]
   have:=span_ev e (p++[c]) (flat r) (by simp;omega)
   rw[show ((p++[c]).length:Int)=(p.length:Int)+1 by simp] at this
   exact this
  refine Tl.b hsp ?_
  refine Tl.p (by omega) ?_
  refine Tl.p (by omega) ?_
  refine Tl.p (by omega) ?_
  refine Tl.p (by omega) ?_
  refine Tl.p (by simp;omega) ?_
  refine Tl.p (by omega) ?_
  rw[rd_mid p _ c rfl]
  have hcut:(((p++(c::(row e++flat r))).take ((p.length:Int)+1+((row e).length:Int)).toNat).drop ((p.length:Int)+1).toNat)=row e:=by
   rw[show ((p.length:Int)+1+((row e).length:Int)).toNat=(p++[c]).length+(row e).length by simp;omega,show ((p.length:Int)+1).toNat=(p++[c]).length by simp<;>omega,hsplit,List.take_length_add_append,List.take_left,List.drop_left]
  rw[hcut,show p++(c::(row e++flat r))=(p++(c::row e))++flat r by simp]
  have:=ih (p++(c::row e)) (A++[c]) (B++[row e]) (by simp;omega) (by simp;omega) (by simp;omega)
  rw[show ((p++(c::row e)).length:Int)=(p.length:Int)+1+(row e).length by simp;omega] at this
  refine Tl.to this ?_
  rw[cs_cons,es_cons];simp
theorem terms_ev {x:O}(h:size x≤10000000000):Tl (fun k=>spec_l1Terms.f k (row x)) (cs x,es x):=by
 have hl:=rl_ x
 have hz:=ll_ x
 have:=terms_l x [(x.length:Int)] [] [] (by show (((row x).length:Nat):Int)≤_;omega) (by simp;omega) (by simp;omega)
 exact this
theorem specCompare_l:∀ (r:O) (p q s:O),p.length=q.length→size (p++r)≤500000000→size (q++s)≤500000000 →
 Tl (fun k=>spec_l1Compare.l0 k (cs (p++r)) (es (p++r)) (cs (q++s)) (es (q++s)) (p.length:Int)) (cmp r s):=by
 intro r
 induction r using ind with
 | h0 =>
  intro p q s hl h1 h2
  refine Tl.s (fun k=>by rw[spec_l1Compare.l0]) ?_
  refine Tl.n (by rw[cl_];simp) ?_
  refine Tl.s (fun k=>by rw[spec_l1Compare.j1]) ?_
  refine Tl.n (by simp) ?_
  cases s with
  | nil =>
   refine Tl.n (by rw[cl_,cl_];simp;omega) ?_
   refine Tl.n (by rw[cl_,cl_];simp;omega) ?_
   rw[cmp_nn];exact Tl.w _
  | cons t s =>
   refine Tl.p (by rw[cl_,cl_];simp;omega) ?_
   rw[cmp_nc];exact Tl.w _
 | h1 c e r ihe ihr =>
  intro p q s hl h1 h2
  have hp:=ll_ p
  refine Tl.s (fun k=>by rw[spec_l1Compare.l0]) ?_
  refine Tl.p (by rw[cl_];simp;omega) ?_
  refine Tl.s (fun k=>by rw[spec_l1Compare.j1]) ?_
  cases s with
  | nil =>
   refine Tl.n (by rw[cl_];simp;omega) ?_
   refine Tl.n (by rw[cl_,cl_];simp;omega) ?_
   refine Tl.p (by rw[cl_,cl_];simp;omega) ?_
   rw[cmp_cn];exact Tl.w _
  | cons t s =>
   obtain⟨d,f⟩:=t
   have z1:=h1
   have z2:=h2
   rw[sa_,sc_] at z1 z2
   have:=sp_ r
   have:=sp_ s
   have:=sp_ p
   have:=sp_ q
   have:=sp_ e
   have:=sp_ f
   refine Tl.p (by rw[cl_];simp;omega) ?_
   refine Tl.p (by omega) ?_
   refine Tl.p (by rw[el_];simp;omega) ?_
   refine Tl.p (by rw[el_];simp;omega) ?_
   have he:rd_L1 (es (p++⟨c,e⟩::r)) (p.length:Int)=row e:=by rw[es_append,es_cons];exact rdL_mid _ _ _ (by rw[el_])
   have hf:rd_L1 (es (q++⟨d,f⟩::s)) (p.length:Int)=row f:=by rw[es_append,es_cons];exact rdL_mid _ _ _ (by rw[el_,hl])
   have hc:rd (cs (p++⟨c,e⟩::r)) (p.length:Int)=c:=by rw[cs_append,cs_cons];exact rd_mid _ _ _ (by rw[cl_])
   have hd:rd (cs (q++⟨d,f⟩::s)) (p.length:Int)=d:=by rw[cs_append,cs_cons];exact rd_mid _ _ _ (by rw[cl_,hl])
   rw[he,hf,hc,hd]
   have hef:Tl (fun k=>spec_l1Compare.f k (row e) (row f)) (cmp e f):=by
    refine Tl.s (fun k=>by rw[spec_l1Compare.f]) ?_
    refine Tl.b (terms_ev (by omega)) ?_
    refine Tl.b (terms_ev (by omega)) ?_
    exact ihe [] [] f rfl (by show size e≤_;omega) (by show size f≤_;omega)
   refine Tl.b hef ?_
   rw[cmp_cc]
   by_cases z:cmp e f=0
   ·refine Tl.p z ?_
    rw[if_pos z]
    refine Tl.p (by rw[cl_];simp;omega) ?_
    refine Tl.p (by rw[cl_];simp;omega) ?_
    by_cases a:c=d
    ·refine Tl.p a ?_
     rw[if_neg (by omega),if_neg (by omega),wi_ (by omega) (by omega),snoc p,snoc q]
     have:=ihr (p++[⟨c,e⟩]) (q++[⟨d,f⟩]) s (by simp[hl]) (by rw[← snoc];exact h1) (by rw[← snoc];exact h2)
     rw[show ((p++[(⟨c,e⟩:Tm)]).length:Int)=(p.length:Int)+1 by simp] at this
     exact this
    ·refine Tl.n a ?_
     by_cases b:c<d
     ·refine Tl.p b ?_
      rw[if_pos b];exact Tl.w _
     ·refine Tl.n b ?_
      rw[if_neg b,if_pos (by omega)];exact Tl.w _
   ·refine Tl.n z ?_
    rw[if_neg z];exact Tl.w _
theorem specCompare_ev {x y:O}(hx:size x≤500000000)(hy:size y≤500000000):Tl (fun k=>spec_l1Compare.f k (row x) (row y)) (cmp x y):=by
 refine Tl.s (fun k=>by rw[spec_l1Compare.f]) ?_
 refine Tl.b (terms_ev (by omega)) ?_
 refine Tl.b (terms_ev (by omega)) ?_
 exact specCompare_l x [] [] y rfl hx hy
end Go.Proofs.YtbdbldhpglponaaDoor.P
namespace Go.Proofs.YtbdbldhpglponaaDoor.P
open OM Go.RowKit Go.Proofs.YtbdbldhpglponaaDoorW.PrintWords Go.Proofs.YtbdbldhpglponaaDoorW.PrintLast Go.Proofs.YtbdbldhpglponaaDoorW.PrintMore
set_option linter.unusedVariables false
abbrev Bs:=List UInt8
def ba (l:Bs):ByteArray:=⟨l.toArray⟩
theorem ba_data (l:Bs):(ba l).data.toList=l:=rfl
theorem ba_size (l:Bs):(ba l).size=l.length:=by rw[Lib.size_eq,ba_data]
theorem ba_toList (l:Bs):(ba l).toList=l:=by rw[Lib.toList_data,ba_data]
theorem ba_of (s:ByteArray):s=ba s.data.toList:=(Lib.mk_data s).symm
theorem ba_append (a b:Bs):ba a++ba b=ba (a++b):=by
 rw[ba_of (ba a++ba b)]
 congr 1
def dc (c:Int):Bs:=Lib.itoa c
theorem dc_pos {c:Int}(h:0≤c):dc c=Lib.decDigits c.toNat:=by unfold dc Lib.itoa;rw[if_neg (by omega)]
theorem dc_small {c:Int}(h:0≤c)(h':c<10):dc c=[UInt8.ofNat (48+c.toNat)]:=by rw[dc_pos h,Lib.decDigits_one (by omega)]
theorem dc_big {c:Int}(h:10≤c):dc c=dc (c / 10)++[UInt8.ofNat (48+c.toNat % 10)]:=by
 rw[dc_pos (by omega),dc_pos (by omega),Lib.decDigits,dif_neg (by omega)]
 congr 2
 omega
theorem dc_length {c:Int}(h:0≤c)(h':c≤99999):1≤(dc c).length∧(dc c).length≤5:=by
 rw[dc_pos h,Lib.decDigits_length]
 refine⟨Lib.nDigits_pos _,?_⟩
 have s:∀ (u n:Nat),(u<10∨(10≤u∧Lib.nDigits (u / 10)≤n))→Lib.nDigits u≤n+1:=by
  intro u n hu
  rcases hu with hu | ⟨hu,hn⟩
  ·rw[Lib.nDigits_small hu];omega
  ·rw[Lib.nDigits_big (by omega)];omega
 have s1:∀ u:Nat,u<10→Lib.nDigits u≤1:=fun u hu=>by rw[Lib.nDigits_small hu];omega
 have s2:∀ u:Nat,u<100→Lib.nDigits u≤2:=fun u hu=>by
  by_cases q:u<10
  ·exact s u 1 (.inl q)
  ·exact s u 1 (.inr ⟨by omega,s1 _ (by omega)⟩)
 have s3:∀ u:Nat,u<1000→Lib.nDigits u≤3:=fun u hu=>by
  by_cases q:u<10
  ·exact s u 2 (.inl q)
  ·exact s u 2 (.inr ⟨by omega,s2 _ (by omega)⟩)
 have s4:∀ u:Nat,u<10000→Lib.nDigits u≤4:=fun u hu=>by
  by_cases q:u<10
  ·exact s u 3 (.inl q)
  ·exact s u 3 (.inr ⟨by omega,s3 _ (by omega)⟩)
 by_cases q:c.toNat<10
 ·exact s _ 4 (.inl q)
 ·exact s _ 4 (.inr ⟨by omega,s4 _ (by omega)⟩)
theorem number_l:∀ (n:Nat) (c:Int),c.toNat≤n→0≤c→c≤99999→Tl (fun k=>spec_l1Number.f k c) (ba (dc c)):=by
 intro n
 induction n with
 | zero =>
  intro c h1 h2 h3
  obtain rfl:c=0:=by omega
  refine Tl.s (fun k=>by rw[spec_l1Number.f]) ?_
  exact Tl.p (by omega) (Tl.to (Tl.w _) (by rw[dc_small (by omega) (by omega),wi_ (by omega) (by omega)];rfl))
 | succ n ih =>
  intro c h1 h2 h3
  refine Tl.s (fun k=>by rw[spec_l1Number.f]) ?_
  by_cases h:c<10
  ·refine Tl.p h (Tl.to (Tl.w _) ?_)
   rw[dc_small h2 h,wi_ (by omega) (by omega)]
   unfold strOfNums ba
   congr 1
   simp only[List.map_cons,List.map_nil]
   congr 2
   congr 1
   omega
  ·refine Tl.n h ?_
   have hd:wrap64 (Int.tdiv c 10)=c / 10:=by rw[Int.tdiv_eq_ediv_of_nonneg (by omega),wi_ (by omega) (by omega)]
   have hm:Int.tmod c 10=c % 10:=Int.tmod_eq_emod_of_nonneg (by omega)
   rw[hd,hm]
   refine Tl.b (ih (c / 10) (by omega) (by omega) (by omega)) ?_
   refine Tl.d ?_
   have hl:=dc_length (c:=c / 10) (by omega) (by omega)
   have he:strOfNums [(wrap64 (48+c % 10)) % 256]=ba [UInt8.ofNat (48+c.toNat % 10)]:=by
    rw[wi_ (by omega) (by omega)]
    unfold strOfNums ba
    congr 1
    simp only[List.map_cons,List.map_nil]
    congr 2
    congr 1
    omega
   rw[he]
   refine Tl.p (by rw[ba_size,ba_size];simp;omega) ?_
   refine Tl.to (Tl.w _) ?_
   rw[ba_append,dc_big (c:=c) (by omega)]
theorem number_ev {c:Int}(h:0≤c)(h':c≤99999):Tl (fun k=>spec_l1Number.f k c) (ba (dc c)):=number_l _ c (Nat.le_refl _) h h'
def isN:O→Bool
 | [⟨_,[]⟩]=>true
 | _=>false
def trm (c:Int)(e:O)(t:Bs):Bs:=if e.isEmpty then dc c else
 (if t=[49] then [119] else if t=[119]∨isN e=true then [119,94]++t else [119,94,40]++t++[41])++(if c>1 then 42::dc c else [])
def jn:List Bs→Bs
 | []=>[48]
 | l=>Lib.join l [43]
def txs:O→List Bs
 | []=>[]
 | ⟨c,e⟩::r=>trm c e (jn (txs e))::txs r
def tx (x:O):Bs:=jn (txs x)
theorem txs_nil:txs []=[]:=by unfold txs;rfl
theorem txs_cons (c:Int)(e r:O):txs (⟨c,e⟩::r)=trm c e (tx e)::txs r:=by rw[txs];rfl
theorem tx_nil:tx []=[48]:=by unfold tx;rw[txs_nil];rfl
theorem txs_ne {x:O}(h:x≠[]):txs x≠[]:=by
 cases x with
 | nil=>exact absurd rfl h
 | cons t r=>obtain⟨c,e⟩:=t;rw[txs_cons];simp
theorem txs_append (p r:O):txs (p++r)=txs p++txs r:=by
 induction p with
 | nil=>rw[txs_nil];rfl
 | cons t p ih=>obtain⟨c,e⟩:=t;rw[List.cons_append,txs_cons,ih,txs_cons];rfl
theorem tx_one (c:Int)(e:O):tx [⟨c,e⟩]=trm c e (tx e):=by unfold tx;rw[txs_cons,txs_nil];exact Lib.join_one _ _
theorem join_two (a b:Bs)(l:List Bs):Lib.join (a::b::l) [43]=a++43::Lib.join (b::l) [43]:=by
 rw[Lib.join_cons,Lib.join_cons]
 unfold Lib.joinTail
 simp
theorem tx_more (c:Int)(e:O){r:O}(h:r≠[]):tx (⟨c,e⟩::r)=trm c e (tx e)++43::tx r:=by
 cases r with
 | nil=>exact absurd rfl h
 | cons t s =>
  obtain⟨d,f⟩:=t
  unfold tx
  rw[txs_cons,txs_cons]
  exact join_two _ _ _
def Cf:O→Prop
 | []=>True
 | ⟨c,e⟩::r=>0≤c∧c≤99999∧Cf e∧Cf r
theorem Cf_nil:Cf []:=by unfold Cf;trivial
theorem Cf_cons {c:Int}{e r:O}:Cf (⟨c,e⟩::r) ↔ 0≤c∧c≤99999∧Cf e∧Cf r:=by rw[Cf]
theorem Cf_append {p r:O}:Cf (p++r) ↔ Cf p∧Cf r:=by
 induction p with
 | nil=>simp[Cf_nil]
 | cons t p ih=>obtain⟨c,e⟩:=t;rw[List.cons_append,Cf_cons,ih,Cf_cons];constructor<;>(rintro⟨a,b⟩;simp_all)
theorem Cf_of:∀ {x:O},NF x→most x≤9999→Cf x:=by
 intro x
 induction x using ind with
 | h0=>intro _ _;exact Cf_nil
 | h1 c e r ihe ihr =>
  intro h1 h2
  obtain⟨g1,g2,g3,g4⟩:=NF_cons.1 h1
  rw[mc_] at h2
  exact Cf_cons.2 ⟨by omega,by omega,ihe g2 (by omega),ihr g3 (by omega)⟩
theorem trm_length {c:Int}{e:O}{t:Bs}(h:0≤c)(h':c≤99999):(trm c e t).length≤t.length+10∧1≤(trm c e t).length:=by
 have:=dc_length h h'
 unfold trm
 split
 ·omega
 ·rw[List.length_append]
  split<;>split<;>(try split)<;>simp<;>omega
theorem tx_length:∀ {x:O},Cf x→((tx x).length:Int)≤12*size x∧1≤(tx x).length:=by
 intro x
 induction x using ind with
 | h0=>intro _;rw[tx_nil,sn_];simp
 | h1 c e r ihe ihr =>
  intro h
  obtain⟨h1,h2,h3,h4⟩:=Cf_cons.1 h
  have:=ihe h3
  have:=ihr h4
  have ht:=trm_length (c:=c) (e:=e) (t:=tx e) h1 h2
  have:=sp_ r
  rw[sc_]
  by_cases hr:r=[]
  ·subst hr;rw[tx_one];omega
  ·rw[tx_more c e hr,List.length_append,List.length_cons];omega
end Go.Proofs.YtbdbldhpglponaaDoor.P
namespace Go.Proofs.YtbdbldhpglponaaDoor.P
open OM Go.RowKit Go.Proofs.YtbdbldhpglponaaDoorW.PrintWords Go.Proofs.YtbdbldhpglponaaDoorW.PrintLast Go.Proofs.YtbdbldhpglponaaDoorW.PrintMore
set_option linter.unusedVariables false
theorem itoa_ev {c:Int}(h:0≤c)(h':c≤99999):Tl (fun k=>strconv_Itoa_35.f c) (ba (dc c)):=by
 refine Tl.c ?_
 unfold strconv_Itoa_35.f
 rw[if_pos (by omega),if_pos (by omega)]
 rfl
theorem join_ev {l:List Bs}(h:l.length≤1000000000)(h':(Lib.join l [43]).length≤1000000000):Tl (fun k=>strings_Join.f (l.map ba) (ba [43])) (ba (Lib.join l [43])):=by
 refine Tl.c ?_
 have e:strings_Join.v (l.map ba) (ba [43])=Lib.join l [43]:=by
  unfold strings_Join.v
  rw[List.map_map]
  congr 1
  conv=>rhs;rw[← List.map_id l]
  rfl
 unfold strings_Join.f
 rw[e,List.length_map,if_pos (by omega),if_pos (by omega)]
 rfl
theorem txs_length (x:O):(txs x).length=x.length:=by
 induction x with
 | nil=>rw[txs_nil];rfl
 | cons t r ih=>obtain⟨c,e⟩:=t;rw[txs_cons,List.length_cons,List.length_cons,ih]
theorem Cf_mid {p r:O}{c:Int}{e:O}(h:Cf (p++⟨c,e⟩::r)):0≤c∧c≤99999∧Cf e:=by
 have:=(Cf_append.1 h).2
 obtain⟨a,b,d,_⟩:=Cf_cons.1 this
 exact⟨a,b,d⟩
theorem isN_iff (e:O):isN e=true ↔ e.length=1∧(rd_T57 e 0).f1=[]:=by
 cases e with
 | nil=>constructor<;>(intro h;simp[isN] at h)
 | cons t r =>
  obtain⟨c,f⟩:=t
  have h0:rd_T57 (⟨c,f⟩::r) 0=⟨c,f⟩:=rdT_mid [] r _ rfl
  rw[h0]
  cases r with
  | cons u s=>constructor<;>(intro h;simp[isN] at h)
  | nil=>cases f with
   | nil=>simp[isN]
   | cons u s=>simp[isN]
theorem textOf_l:∀ (r p:O),(∀ (c:Int) (e:O),(⟨c,e⟩:Tm) ∈ r→Tl (fun k=>impl_textOf.f k e) (ba (tx e)))→Cf (p++r)→p++r≠[]→size (p++r)≤1000000 →
 Tl (fun k=>impl_textOf.l0 k ((txs p).map ba) (p++r) ((p++r).length:Int) (p.length:Int)) (ba (tx (p++r))):=by
 intro r
 induction r with
 | nil =>
  intro p ih h1 h2 h3
  have hl:=tx_length h1
  have:=ll_ (p++([]:O))
  refine Tl.s (fun k=>by rw[impl_textOf.l0]) ?_
  refine Tl.n (by simp) ?_
  rw[List.append_nil] at *
  have e:Lib.join (txs p) [43]=tx p:=by
   unfold tx
   cases hp:txs p with
   | nil=>exact absurd hp (txs_ne h2)
   | cons a l=>rfl
  refine Tl.b (join_ev (by rw[txs_length];omega) (by rw[e];omega)) ?_
  exact Tl.to (Tl.w _) (by rw[e])
 | cons t r ihr =>
  intro p ih h1 h2 h3
  obtain⟨c,e⟩:=t
  obtain⟨c0,c1,ce⟩:=Cf_mid h1
  have hz:=h3
  rw[sa_,sc_] at hz
  have:=sp_ p
  have:=sp_ e
  have:=sp_ r
  have hl:=ll_ p
  have hle:=tx_length ce
  have hdc:=dc_length c0 c1
  have hps:(((txs p).map ba).length:Int)=p.length:=by rw[List.length_map,txs_length]
  refine Tl.s (fun k=>by rw[impl_textOf.l0]) ?_
  refine Tl.p (by simp<;>omega) ?_
  refine Tl.p (by omega) ?_
  refine Tl.p (by simp<;>omega) ?_
  have hm:rd_T57 (p++⟨c,e⟩::r) (p.length:Int)=⟨c,e⟩:=rdT_mid p r _ rfl
  rw[hm]
  refine Tl.b (ih c e (by simp)) ?_
  have go:∀ b:ByteArray,b=ba (trm c e (tx e))→Tl (fun k=>impl_textOf.l0 k ((txs p).map ba++[b]) (p++⟨c,e⟩::r) ((p++⟨c,e⟩::r).length:Int) (wrap64 ((p.length:Int)+1))) (ba (tx (p++⟨c,e⟩::r))):=by
   intro b hb
   subst hb
   rw[wi_ (by omega) (by omega),snoc p]
   have:=ihr (p++[⟨c,e⟩]) (fun c' e' h=>ih c' e' (by simp[h])) (by rw[← snoc];exact h1) (by simp) (by rw[← snoc];exact h3)
   rw[txs_append,txs_cons,txs_nil,List.map_append,show ((p++[(⟨c,e⟩:Tm)]).length:Int)=(p.length:Int)+1 by simp] at this
   exact this
  by_cases he:e=[]
  ·subst he
   refine Tl.p (by simp) ?_
   refine Tl.b (itoa_ev c0 c1) ?_
   refine Tl.p (by omega) ?_
   exact go _ rfl
  ·refine Tl.n (by cases e with | nil=>exact absurd rfl he | cons u s=>simp;omega) ?_
   have hem:e.isEmpty=false:=by cases e with | nil=>exact absurd rfl he | cons u s=>rfl
   rw[ba_toList]
   have tail:∀ (b:Bs),trm c e (tx e)=b++(if c>1 then 42::dc c else [])→(b.length:Int)≤100000000→∀ g:Nat→Option ByteArray,
    (∀ k,g k=if c>1 then((strconv_Itoa_35.f c).bind fun t=>if 1+t.size≤9223372036854775807 then(if(ba b).size+(ba [42]++t).size≤9223372036854775807 then(if((txs p).map ba).length<8796093022208 then impl_textOf.l0 k ((txs p).map ba++[ba b++(ba [42]++t)]) (p++⟨c,e⟩::r) ((p++⟨c,e⟩::r).length:Int) (wrap64 ((p.length:Int)+1)) else none) else none) else none) else(if((txs p).map ba).length<8796093022208 then impl_textOf.l0 k ((txs p).map ba++[ba b]) (p++⟨c,e⟩::r) ((p++⟨c,e⟩::r).length:Int) (wrap64 ((p.length:Int)+1)) else none)) →
    Tl g (ba (tx (p++⟨c,e⟩::r))):=by
    intro b hb hbl g hg
    refine Tl.congr hg ?_
    by_cases h:c>1
    ·refine Tl.p h ?_
     refine Tl.b (itoa_ev c0 c1) ?_
     refine Tl.p (by rw[ba_size];omega) ?_
     refine Tl.p (by rw[ba_append,ba_size,ba_size];simp;omega) ?_
     refine Tl.p (by omega) ?_
     refine go _ ?_
     rw[hb,if_pos h,ba_append,ba_append]
     rfl
    ·refine Tl.n h ?_
     refine Tl.p (by omega) ?_
     refine go _ ?_
     rw[hb,if_neg h,List.append_nil]
   by_cases h1':tx e=[49]
   ·refine Tl.p h1' ?_
    refine tail [119] ?_ (by simp) _ (fun k=>?_)
    ·unfold trm;rw[hem,h1'];simp
    ·rfl
   ·refine Tl.n h1' ?_
    have hz2:(tx e).length≤12000000:=by omega
    have j1:∀ v:Bool,(v=true ↔ (tx e=[119]∨isN e=true))→Tl (fun k=>impl_textOf.j1 k ((txs p).map ba) (ba (tx e)) (p++⟨c,e⟩::r) ((p++⟨c,e⟩::r).length:Int) (p.length:Int) v c e) (ba (tx (p++⟨c,e⟩::r))):=by
     intro v hv
     refine Tl.s (fun k=>by rw[impl_textOf.j1]) ?_
     cases v with
     | true =>
      refine Tl.p rfl ?_
      refine Tl.p (by rw[ba_size];omega) ?_
      refine tail ([119,94]++tx e) ?_ (by simp;omega) _ (fun k=>?_)
      ·unfold trm;rw[hem,if_neg (by simp),if_neg h1',if_pos (hv.1 rfl)]
      ·rw[← ba_append];rfl
     | false =>
      have hn:¬ (tx e=[119]∨isN e=true):=fun h=>by have:=hv.2 h;simp at this
      refine Tl.n (by simp) ?_
      refine Tl.p (by rw[ba_size];omega) ?_
      refine Tl.p (by rw[show (⟨#[119,94,40]⟩:ByteArray)=ba [119,94,40] from rfl,ba_append,ba_size];simp;omega) ?_
      refine tail ([119,94,40]++tx e++[41]) ?_ (by simp;omega) _ (fun k=>?_)
      ·unfold trm;rw[hem,if_neg (by simp),if_neg h1',if_neg hn]
      ·rw[← ba_append,← ba_append];rfl
    by_cases h2':tx e=[119]
    ·refine Tl.p h2' ?_
     exact j1 true (by simp[h2'])
    ·refine Tl.n h2' ?_
     by_cases h3':(e.length:Int)=1
     ·refine Tl.p h3' ?_
      refine Tl.p (by show 0<(e.length:Int);omega) ?_
      refine j1 _ ?_
      rw[isN_iff]
      have:e.length=1:=by omega
      simp[h2',this]
     ·refine Tl.n h3' ?_
      refine j1 false ?_
      rw[isN_iff]
      have:¬ e.length=1:=by omega
      simp[h2',this]
theorem textOf_ev:∀ {x:O},Cf x→size x≤1000000→Tl (fun k=>impl_textOf.f k x) (ba (tx x)):=by
 have:∀ (n:Nat) (x:O),(size x).toNat≤n→Cf x→size x≤1000000→Tl (fun k=>impl_textOf.f k x) (ba (tx x)):=by
  intro n
  induction n with
  | zero=>intro x h;have:=sp_ x;omega
  | succ n ih =>
   intro x h1 h2 h3
   refine Tl.s (fun k=>by rw[impl_textOf.f]) ?_
   by_cases hx:x=[]
   ·subst hx
    exact Tl.p (by simp) (Tl.to (Tl.w _) (by rw[tx_nil];rfl))
   ·refine Tl.n (by cases x with | nil=>exact absurd rfl hx | cons u s=>simp;omega) ?_
    have:=textOf_l x [] (fun c e hm=>?_) h2 hx h3
    ·rw[txs_nil] at this;exact this
    ·obtain⟨s,t,hst⟩:=List.append_of_mem hm
     have hz:size e<size x∧Cf e:=by
      rw[hst] at h2 ⊢
      have:=sp_ s
      have:=sp_ t
      exact⟨by rw[sa_,sc_];omega,(Cf_mid h2).2.2⟩
     exact ih e (by have:=sp_ e;omega) hz.2 (by omega)
 intro x h1 h2
 exact this _ x (Nat.le_refl _) h1 h2
end Go.Proofs.YtbdbldhpglponaaDoor.P
namespace Go.Proofs.YtbdbldhpglponaaDoor.P
open OM Go.RowKit Go.Proofs.YtbdbldhpglponaaDoorW.PrintWords Go.Proofs.YtbdbldhpglponaaDoorW.PrintLast Go.Proofs.YtbdbldhpglponaaDoorW.PrintMore
set_option linter.unusedVariables false
def endv (tot:Int):Option (O × List Int)→Int
 | none=>-1
 | some (_,l')=>tot-l'.length
theorem endv_none (t:Int):endv t none=-1:=rfl
theorem endv_some (t:Int)(x:O)(l:List Int):endv t (some (x,l))=t-l.length:=rfl
theorem rd_p (p l:List Int)(m:Int):rd (p++m::l) (p.length:Int)=m:=rd_mid p l m rfl
theorem end_l {n:Nat}(ih:∀ p l:List Int,l.length<n→(((p++l).length:Nat):Int)≤100000000→Tl (fun k=>spec_l1End.f k (p++l) (p.length:Int)) (endv ((p++l).length:Int) (take n l))) :
 ∀ (c:Nat) (p l last:List Int) (lo:Option O) (m i:Int),l.length≤n→(((p++l).length:Nat):Int)≤100000000→m=i+c→0≤i→m≤60 →
  (i=0→lo=none)→(0<i→∃ f,lo=some f∧last=row f∧size f≤100000000) →
  Tl (fun k=>spec_l1End.l0 k (p++l) (p.length:Int) m last i) (endv ((p++l).length:Int) (terms (take n) c lo l)):=by
 intro c
 induction c with
 | zero =>
  intro p l last lo m i h1 h2 h3 h4 h5 h6 h7
  refine Tl.s (fun k=>by rw[spec_l1End.l0]) ?_
  refine Tl.n (by omega) ?_
  refine Tl.to (Tl.w _) ?_
  unfold terms;rw[endv_some];simp<;>omega
 | succ c ihc =>
  intro p l last lo m i h1 h2 h3 h4 h5 h6 h7
  have h2':=h2
  simp only[List.length_append] at h2'
  refine Tl.s (fun k=>by rw[spec_l1End.l0]) ?_
  refine Tl.p (by omega) ?_
  have bad:Tl (fun k=>spec_l1End.j2 k (p++l) (p.length:Int) m last i true) (-1):=by
   refine Tl.s (fun k=>by rw[spec_l1End.j2]) ?_
   exact Tl.p rfl (Tl.w _)
  cases l with
  | nil =>
   refine Tl.p (by simp) ?_
   refine Tl.to bad ?_
   unfold terms;rfl
  | cons t l =>
   simp only[List.length_cons] at h1 h2'
   refine Tl.n (by simp;omega) ?_
   refine Tl.p (by omega) ?_
   refine Tl.p (by simp;omega) ?_
   rw[rd_p]
   refine Tl.b (Tl.c (l1In_eq t 1 9999)) ?_
   rw[terms]
   by_cases ht:1≤t∧t≤9999
   ·rw[if_pos ht,decide_eq_true ht]
    refine Tl.s (fun k=>by rw[spec_l1End.j2]) ?_
    refine Tl.n (by simp) ?_
    rw[wi_ (i:=(p.length:Int)+1) (by omega) (by omega)]
    have hf:=ih (p++[t]) l (by omega) (by simp;omega)
    rw[← snoc p l t,show ((p++[t]).length:Int)=(p.length:Int)+1 by simp] at hf
    refine Tl.b hf ?_
    cases hk:take n l with
    | none =>
     rw[endv_none]
     exact Tl.p (by omega) (Tl.w _)
    | some q =>
     obtain⟨e,l1⟩:=q
     rw[endv_some]
     simp only
     obtain⟨a1,a2,a3⟩:=take_good _ _ _ _ hk
     have hlen:=take_len hk
     have hre:=rl_ e
     have hl:(l.length:Int)=(row e).length+l1.length:=by rw[a1];simp
     have hend:(((p++t::l).length:Nat):Int)-l1.length=(p.length:Int)+1+(row e).length:=by simp;omega
     rw[hend]
     refine Tl.n (by omega) ?_
     have hcut:(((p++t::l).take ((p.length:Int)+1+((row e).length:Int)).toNat).drop ((p.length:Int)+1).toNat)=row e:=by
      rw[show ((p.length:Int)+1+((row e).length:Int)).toNat=(p++[t]).length+(row e).length by simp;omega,show ((p.length:Int)+1).toNat=(p++[t]).length by simp<;>omega,a1,show p++t::(row e++l1)=(p++[t])++(row e++l1) by simp,List.take_length_add_append,List.take_left,List.drop_left]
     have go:Tl (fun k=>spec_l1End.l0 k (p++t::l) ((p.length:Int)+1+(row e).length) m (row e) (wrap64 (i+1)))
      (endv (((p++t::l).length:Nat):Int) (match terms (take n) c (some e) l1 with | none=>none | some (r,l'')=>some ((⟨t,e⟩:Tm)::r,l''))):=by
      rw[wi_ (by omega) (by omega)]
      have:=ihc (p++(t::row e)) l1 (row e) (some e) m (i+1) (by omega) (by rw[a1] at h2;simp at h2 ⊢;omega) (by omega) (by omega) h5 (fun h=>by omega) (fun _=>⟨e,rfl,rfl,by omega⟩)
      rw[show (p++(t::row e))++l1=p++t::l by rw[a1];simp,show ((p++(t::row e)).length:Int)=(p.length:Int)+1+(row e).length by simp;omega] at this
      refine Tl.to this ?_
      cases terms (take n) c (some e) l1 with
      | none=>rfl
      | some q=>obtain⟨r,l2⟩:=q;rfl
     by_cases hi:i>0
     ·obtain⟨f,hlo,hlast,hsf⟩:=h7 hi
      subst hlo;subst hlast
      refine Tl.p hi ?_
      refine Tl.p (by omega) ?_
      refine Tl.p (by omega) ?_
      refine Tl.p (by simp;omega) ?_
      rw[hcut]
      refine Tl.b (specCompare_ev (by omega) (by omega)) ?_
      by_cases hc:cmp e f≥0
      ·refine Tl.p hc ?_
       have:late (some f) e=true:=by unfold late;simp only[decide_eq_true_eq];exact hc
       rw[if_pos this]
       exact Tl.w _
      ·refine Tl.n hc ?_
       have:¬ late (some f) e=true:=by unfold late;simp only[decide_eq_true_eq];exact hc
       rw[if_neg this]
       exact go
     ·have hlo:=h6 (by omega)
      subst hlo
      refine Tl.n hi ?_
      refine Tl.p (by omega) ?_
      refine Tl.p (by omega) ?_
      refine Tl.p (by simp;omega) ?_
      rw[hcut]
      have:¬ late none e=true:=by unfold late;simp
      rw[if_neg this]
      exact go
   ·rw[if_neg ht,decide_eq_false ht]
    exact bad
theorem end_ev:∀ (n:Nat) (p l:List Int),l.length<n→(((p++l).length:Nat):Int)≤100000000→Tl (fun k=>spec_l1End.f k (p++l) (p.length:Int)) (endv ((p++l).length:Int) (take n l)):=by
 intro n
 induction n with
 | zero=>intro p l h;omega
 | succ n ih =>
  intro p l h h2
  have h2':=h2
  simp only[List.length_append] at h2'
  have bad:Tl (fun k=>spec_l1End.j0 k (p++l) (p.length:Int) true) (-1):=by
   refine Tl.s (fun k=>by rw[spec_l1End.j0]) ?_
   exact Tl.p rfl (Tl.w _)
  refine Tl.s (fun k=>by rw[spec_l1End.f]) ?_
  cases l with
  | nil =>
   refine Tl.p (by simp) ?_
   refine Tl.to bad ?_
   unfold take;rfl
  | cons m l =>
   simp only[List.length_cons] at h h2'
   refine Tl.n (by simp;omega) ?_
   refine Tl.p (by omega) ?_
   refine Tl.p (by simp;omega) ?_
   rw[rd_p]
   refine Tl.b (Tl.c (l1In_eq m 0 60)) ?_
   rw[take]
   by_cases hm:0≤m∧m≤60
   ·rw[if_pos hm,decide_eq_true hm]
    refine Tl.s (fun k=>by rw[spec_l1End.j0]) ?_
    refine Tl.n (by simp) ?_
    refine Tl.p (by omega) ?_
    refine Tl.p (by simp;omega) ?_
    rw[rd_p,wi_ (by omega) (by omega)]
    have:=end_l ih m.toNat (p++[m]) l [] none m 0 (by omega) (by simp;omega) (by omega) (by omega) (by omega) (fun _=>rfl) (fun h=>by omega)
    rw[← snoc p l m,show ((p++[m]).length:Int)=(p.length:Int)+1 by simp] at this
    exact this
   ·rw[if_neg hm,decide_eq_false hm]
    exact bad
theorem ordValid_ev {l:List Int}(h:(l.length:Int)≤100000000):Tl (fun k=>spec_OrdValid.f k l) (ordOf l).isSome:=by
 refine Tl.b (Tl.c (l1In_eq _ 1 60)) ?_
 unfold ordOf
 by_cases hl:1≤l.length∧l.length≤60
 ·rw[if_pos hl]
  refine Tl.p (decide_eq_true (by omega)) ?_
  refine Tl.b (end_ev 61 [] l (by omega) (by simpa using h)) ?_
  refine Tl.to (Tl.w _) ?_
  simp only[List.nil_append]
  cases take 61 l with
  | none=>rw[endv_none];simp<;>omega
  | some q =>
   obtain⟨x,l'⟩:=q
   rw[endv_some]
   cases l' with
   | nil=>simp
   | cons a l'=>simp;omega
 ·rw[if_neg hl]
  refine Tl.n (by simp;omega) ?_
  exact Tl.w _
theorem row_inj':∀ (x y:O) (a b:List Int),row x++a=row y++b→x=y∧a=b:=by
 have fl:∀ (x y:O) (a b:List Int),x.length=y.length→flat x++a=flat y++b→x=y∧a=b:=by
  intro x
  induction x using ind with
  | h0 =>
   intro y a b h1 h2
   cases y with
   | nil=>exact⟨rfl,by simpa [flat_nil] using h2⟩
   | cons _ _=>simp at h1
  | h1 c e r ihe ihr =>
   intro y a b h1 h2
   cases y with
   | nil=>simp at h1
   | cons t s =>
    obtain⟨d,f⟩:=t
    rw[flat_cons,flat_cons] at h2
    unfold row at h2
    simp only[List.cons_append,List.append_assoc,List.cons.injEq] at h2
    obtain⟨h3,h4,h5⟩:=h2
    obtain⟨h6,h7⟩:=ihe f _ _ (by omega) h5
    obtain⟨h8,h9⟩:=ihr s _ _ (by simpa using h1) h7
    subst h3;subst h6;subst h8
    exact⟨rfl,h9⟩
 intro x y a b h
 unfold row at h
 simp only[List.cons_append,List.cons.injEq] at h
 exact fl x y a b (by omega) h.2
end Go.Proofs.YtbdbldhpglponaaDoor.P
namespace Go.Proofs.YtbdbldhpglponaaDoor.P
open OM Go.RowKit Go.Proofs.YtbdbldhpglponaaDoorW.PrintWords Go.Proofs.YtbdbldhpglponaaDoorW.PrintLast Go.Proofs.YtbdbldhpglponaaDoorW.PrintMore
set_option linter.unusedVariables false
theorem ordv_some {l:List Int}{x:O}(h:ordOf l=some x):ordv l=(x,true):=by unfold ordv;rw[h]
theorem ordv_none {l:List Int}(h:ordOf l=none):(ordv l).2=false:=by unfold ordv;rw[h]
theorem valid_ev {l:List Int}{x:O}(h:ordOf l=some x):Tl (fun k=>spec_OrdValid.f k l) true:=by
 have h1:=os_ h
 have h2:=rl_ x
 have:=@ordValid_ev l (by rw[h1.1,h2];have:=h1.2.2.2;omega)
 rw[h] at this;exact this
theorem invalid_ev {l:List Int}(hl:(l.length:Int)≤100000000)(h:ordOf l=none):Tl (fun k=>spec_OrdValid.f k l) false:=by
 have:=@ordValid_ev l hl
 rw[h] at this;exact this
theorem ord_ev {l:List Int}{x:O}(h:ordOf l=some x):Tl (fun k=>impl_ordOf.f k l) (x,true):=by
 have:=@ordOf_ev l
 rw[ordv_some h] at this;exact this
theorem es_zero (c:Int)(e r:O):rd_L1 (es (⟨c,e⟩::r)) 0=row e:=rfl
theorem row_one {x:O}:((row x).length:Int)=1 ↔ x=[]:=by
 rw[rl_]
 cases x with
 | nil=>rw[sn_];simp
 | cons t r =>
  obtain⟨c,e⟩:=t
  rw[sc_]
  have:=sp_ e
  have:=sp_ r
  constructor
  ·intro h;omega
  ·intro h;cases h
end Go.Proofs.YtbdbldhpglponaaDoor.P
namespace Go.Proofs.YtbdbldhpglponaaDoor.P
open OM Go.RowKit Go.Proofs.YtbdbldhpglponaaDoorW.PrintWords Go.Proofs.YtbdbldhpglponaaDoorW.PrintLast Go.Proofs.YtbdbldhpglponaaDoorW.PrintMore
set_option linter.unusedVariables false
def numOf:O→Int
 | []=>0
 | [⟨c,e⟩]=>if e.isEmpty then c else -1
 | _::_::_=>-1
def numv (a:List Int):Int:=match ordOf a with
 | some x=>numOf x
 | none=>-1
theorem specOrdNumber_ev {a:List Int}(ha:(a.length:Int)≤100000000):Tl (fun k=>spec_OrdNumber.f k a) (numv a):=by
 unfold numv
 cases h:ordOf a with
 | none =>
  refine Tl.b (invalid_ev ha h) ?_
  exact Tl.n (by simp) (Tl.w _)
 | some x =>
  refine Tl.b (valid_ev h) ?_
  refine Tl.p rfl ?_
  obtain⟨h1,h2⟩:=os_ h
  have:=h2.size
  rw[h1]
  refine Tl.b (terms_ev (by omega)) ?_
  cases x with
  | nil=>exact Tl.p rfl (Tl.w _)
  | cons t r =>
   obtain⟨c,e⟩:=t
   refine Tl.n (by rw[cl_];simp;omega) ?_
   cases r with
   | cons u s=>exact Tl.n (by rw[cl_];simp;omega) (Tl.w _)
   | nil =>
    refine Tl.p (by rw[cl_];simp) ?_
    refine Tl.p (by rw[el_];simp) ?_
    rw[es_zero]
    cases e with
    | nil =>
     refine Tl.p (row_one.2 rfl) ?_
     refine Tl.p (by rw[cl_];simp) ?_
     exact Tl.w _
    | cons u s =>
     refine Tl.n (fun hh=>by cases row_one.1 hh) ?_
     exact Tl.w _
end Go.Proofs.YtbdbldhpglponaaDoor.P
namespace Go.Proofs.YtbdbldhpglponaaDoor.P
open OM Go.RowKit Go.Proofs.YtbdbldhpglponaaDoorW.PrintWords Go.Proofs.YtbdbldhpglponaaDoorW.PrintLast Go.Proofs.YtbdbldhpglponaaDoorW.PrintMore
set_option linter.unusedVariables false
theorem dc_digit:∀ (n:Nat) (c:Int),c.toNat≤n→0≤c→c≤99999→∀ b ∈ dc c,48≤b.toNat∧b.toNat≤57:=by
 have one:∀ d:Nat,d<10→48≤(UInt8.ofNat (48+d)).toNat∧(UInt8.ofNat (48+d)).toNat≤57:=by
  intro d hd
  rw[UInt8.toNat_ofNat_of_lt' (by show 48+d<256;omega)]
  omega
 intro n
 induction n with
 | zero =>
  intro c h1 h2 h3 b hb
  rw[dc_small h2 (by omega)] at hb
  simp only[List.mem_singleton] at hb
  subst hb
  exact one _ (by omega)
 | succ n ih =>
  intro c h1 h2 h3 b hb
  by_cases h:c<10
  ·rw[dc_small h2 h] at hb
   simp only[List.mem_singleton] at hb
   subst hb
   exact one _ (by omega)
  ·rw[dc_big (by omega)] at hb
   simp only[List.mem_append,List.mem_singleton] at hb
   rcases hb with hb | hb
   ·exact ih (c / 10) (by omega) (by omega) (by omega) b hb
   ·subst hb;exact one _ (by omega)
theorem dc_digits {c:Int}(h:0≤c)(h':c≤99999){b:UInt8}(hb:b ∈ dc c):48≤b.toNat∧b.toNat≤57:=dc_digit _ c (Nat.le_refl _) h h' b hb
theorem dc_eq_one {c:Int}(h:0≤c)(h':c≤99999)(e:dc c=[49]):c=1:=by
 by_cases q:c<10
 ·rw[dc_small h q] at e
  injection e with e
  have:=congrArg UInt8.toNat e
  rw[UInt8.toNat_ofNat_of_lt' (by show 48+c.toNat<256;omega)] at this
  have h49:(49:UInt8).toNat=49:=rfl
  omega
 ·rw[dc_big (by omega)] at e
  have:=congrArg List.length e
  have hl:=(dc_length (c:=c / 10) (by omega) (by omega)).1
  rw[List.length_append] at this
  simp at this
  rw[this] at hl
  simp at hl
theorem trm_nil (c:Int)(t:Bs):trm c [] t=dc c:=rfl
theorem trm_ne (c:Int){e:O}(t:Bs)(h:e≠[]):trm c e t=(if t=[49] then [119] else if t=[119]∨isN e=true then [119,94]++t else [119,94,40]++t++[41])++(if c>1 then 42::dc c else []):=by
 unfold trm
 rw[if_neg (by cases e with | nil=>exact absurd rfl h | cons u s=>simp)]
theorem tx_eq_one {e:O}(h:Vd e):tx e=[49] ↔ e=[⟨1,[]⟩]:=by
 constructor
 ·intro q
  cases e with
  | nil=>rw[tx_nil] at q;simp at q
  | cons t r =>
   obtain⟨c,f⟩:=t
   obtain⟨hf,hr,hc⟩:=Vd_cons h
   by_cases r0:r=[]
   ·subst r0
    rw[tx_one] at q
    cases f with
    | nil =>
     rw[trm_nil] at q
     rw[dc_eq_one (by omega) (by omega) q]
    | cons u s =>
     rw[trm_ne _ _ (by simp)] at q
     split at q
     ·simp at q
     ·split at q<;>simp at q
   ·rw[tx_more c f r0] at q
    have:=congrArg List.length q
    have:=(tx_length (Cf_of hr.1 hr.2.1)).2
    have:=(trm_length (c:=c) (e:=f) (t:=tx f) (by omega) (by omega)).2
    simp at *
    omega
 ·intro q
  subst q
  rw[tx_one,trm_nil,dc_small (by omega) (by omega)]
  rfl
theorem tx_eq_w {e:O}(h:Vd e):tx e=[119] ↔ e=[⟨1,[⟨1,[]⟩]⟩]:=by
 constructor
 ·intro q
  cases e with
  | nil=>rw[tx_nil] at q;simp at q
  | cons t r =>
   obtain⟨c,f⟩:=t
   obtain⟨hf,hr,hc⟩:=Vd_cons h
   by_cases r0:r=[]
   ·subst r0
    rw[tx_one] at q
    by_cases f0:f=[]
    ·subst f0
     rw[trm_nil] at q
     have:=dc_digits (c:=c) (by omega) (by omega) (b:=119) (by rw[q];simp)
     simp at this
    ·rw[trm_ne _ _ f0] at q
     by_cases t1:tx f=[49]
     ·rw[if_pos t1] at q
      rw[(tx_eq_one hf).1 t1]
      by_cases c1:c>1
      ·rw[if_pos c1] at q;simp at q
      ·have:c=1:=by omega
       rw[this]
     ·rw[if_neg t1] at q
      split at q<;>simp at q
   ·rw[tx_more c f r0] at q
    have:=congrArg List.length q
    have:=(tx_length (Cf_of hr.1 hr.2.1)).2
    have:=(trm_length (c:=c) (e:=f) (t:=tx f) (by omega) (by omega)).2
    simp at *
    omega
 ·intro q
  subst q
  rw[tx_one,trm_ne _ _ (by simp),if_pos ((tx_eq_one ?_).2 rfl)]
  ·simp
  ·exact(Vd_cons h).1
theorem numOf_pos {e:O}(h:Vd e):numOf e>0 ↔ isN e=true:=by
 cases e with
 | nil=>simp[numOf,isN]
 | cons t r =>
  obtain⟨c,f⟩:=t
  have hc:=(Vd_cons h).2.2
  cases r with
  | cons u s=>simp[numOf,isN]
  | nil=>cases f with
   | nil=>simp[numOf,isN];omega
   | cons u s=>simp[numOf,isN]
theorem row_is {e x:O}{l:List Int}(h:row x=l):row e=l ↔ e=x:=by
 constructor
 ·intro q
  have:=row_inj' e x [] [] (by rw[q,h])
  exact this.1
 ·intro q;rw[q,h]
theorem join_snoc {l:List Bs}(h:l≠[])(t:Bs):Lib.join (l++[t]) [43]=Lib.join l [43]++43::t:=by
 cases l with
 | nil=>exact absurd rfl h
 | cons a l =>
  rw[List.cons_append,Lib.join_cons,Lib.join_cons]
  unfold Lib.joinTail
  simp
def acc (p:O):Bs:=Lib.join (txs p) [43]
theorem acc_snoc (p:O)(c:Int)(e:O):acc (p++[⟨c,e⟩])=(if p=[] then [] else acc p++[43])++trm c e (tx e):=by
 unfold acc
 rw[txs_append,txs_cons,txs_nil]
 by_cases h:p=[]
 ·subst h;rw[txs_nil,if_pos rfl];exact Lib.join_one _ _
 ·rw[join_snoc (txs_ne h),if_neg h];simp
theorem acc_full {x:O}(h:x≠[]):acc x=tx x:=by
 unfold acc tx
 cases hp:txs x with
 | nil=>exact absurd hp (txs_ne h)
 | cons a l=>rfl
theorem acc_length {p:O}(h:Cf p):((acc p).length:Int)≤12*size p:=by
 by_cases h0:p=[]
 ·subst h0;unfold acc;rw[txs_nil,sn_];simp[Lib.join_nil]
 ·rw[acc_full h0];exact(tx_length h).1
end Go.Proofs.YtbdbldhpglponaaDoor.P
namespace Go.Proofs.YtbdbldhpglponaaDoor.P
open OM Go.RowKit Go.Proofs.YtbdbldhpglponaaDoorW.PrintWords Go.Proofs.YtbdbldhpglponaaDoorW.PrintLast Go.Proofs.YtbdbldhpglponaaDoorW.PrintMore
set_option linter.unusedVariables false
theorem sameR_l:∀ (a b p q:List Int),p.length=q.length→((p++a).length:Int)≤1000000000→Tl (fun k=>spec_l1Same.l0 k (p++a) (q++b) (p.length:Int)) (decide (a=b)):=by
 intro a
 induction a with
 | nil =>
  intro b p q h1 h2
  refine Tl.s (fun k=>by rw[spec_l1Same.l0]) ?_
  refine Tl.n (by simp) ?_
  refine Tl.s (fun k=>by rw[spec_l1Same.j1]) ?_
  refine Tl.n (by simp) ?_
  refine Tl.to (Tl.w _) ?_
  cases b with
  | nil=>simp[h1]
  | cons y b=>simp;omega
 | cons x a ih =>
  intro b p q h1 h2
  have h2':=h2
  simp only[List.length_append,List.length_cons] at h2'
  refine Tl.s (fun k=>by rw[spec_l1Same.l0]) ?_
  refine Tl.p (by simp<;>omega) ?_
  refine Tl.s (fun k=>by rw[spec_l1Same.j1]) ?_
  cases b with
  | nil =>
   refine Tl.n (by simp<;>omega) ?_
   refine Tl.to (Tl.w _) ?_
   simp;omega
  | cons y b =>
   refine Tl.p (by simp<;>omega) ?_
   refine Tl.p (by omega) ?_
   refine Tl.p (by simp<;>omega) ?_
   refine Tl.p (by simp<;>omega) ?_
   rw[rd_mid p a x rfl,rd_mid q b y (by rw[h1])]
   by_cases h:x=y
   ·refine Tl.p h ?_
    rw[wi_ (by omega) (by omega),snoc p,snoc q]
    have:=ih b (p++[x]) (q++[y]) (by simp[h1]) (by rw[← snoc];exact h2)
    rw[show ((p++[x]).length:Int)=(p.length:Int)+1 by simp] at this
    refine Tl.to this ?_
    simp[h]
   ·refine Tl.n h ?_
    refine Tl.to (Tl.w _) ?_
    simp[h]
theorem sameR_ev {a b:List Int}(h:(a.length:Int)≤1000000000):Tl (fun k=>spec_l1Same.f k a b) (decide (a=b)):=sameR_l a b [] [] rfl h
end Go.Proofs.YtbdbldhpglponaaDoor.P
namespace Go.Proofs.YtbdbldhpglponaaDoor.P
open OM Go.RowKit Go.Proofs.YtbdbldhpglponaaDoorW.PrintWords Go.Proofs.YtbdbldhpglponaaDoorW.PrintLast Go.Proofs.YtbdbldhpglponaaDoorW.PrintMore
set_option linter.unusedVariables false
theorem csT (p r:O)(c:Int)(e:O):rd (cs (p++⟨c,e⟩::r)) (p.length:Int)=c:=by rw[cs_append];exact rd_mid (cs p) (cs r) c (by rw[cl_])
theorem esT (p r:O)(c:Int)(e:O):rd_L1 (es (p++⟨c,e⟩::r)) (p.length:Int)=row e:=by rw[es_append];exact rdL_mid (es p) (es r) (row e) (by rw[el_])
theorem l1Text_l:∀ (r p:O),(∀ (c:Int) (e:O),(⟨c,e⟩:Tm) ∈ r→Tl (fun k=>spec_l1Text.f k (row e)) (ba (tx e)))→Cf (p++r)→(∀ t ∈ r,1≤t.f0∧t.f0≤9999∧Vd t.f1)→size (p++r)≤1000 →
 Tl (fun k=>spec_l1Text.l0 k (cs (p++r)) (es (p++r)) (ba (acc p)) (p.length:Int)) (ba (acc (p++r))):=by
 intro r
 induction r with
 | nil =>
  intro p ih h1 h2 h3
  refine Tl.s (fun k=>by rw[spec_l1Text.l0]) ?_
  refine Tl.n (by rw[cl_];simp) ?_
  rw[List.append_nil]
  exact Tl.w _
 | cons t r ihr =>
  intro p ih h1 h2 h3
  obtain⟨c,e⟩:=t
  obtain⟨c0,c1,ve⟩:=h2 ⟨c,e⟩ (by simp)
  have c0:1≤c:=c0
  have c1:c≤9999:=c1
  have ve:Vd e:=ve
  have cf:=Cf_of ve.1 ve.2.1
  have hz:=h3
  rw[sa_,sc_] at hz
  have:=sp_ p
  have:=sp_ e
  have:=sp_ r
  have hl:=ll_ p
  have hle:=tx_length cf
  have hdc:=dc_length (c:=c) (by omega) (by omega)
  have hac:=acc_length (Cf_append.1 h1).1
  have hcs:((cs (p++⟨c,e⟩::r)).length:Int)=p.length+1+r.length:=by rw[cl_];simp;omega
  have hes:((es (p++⟨c,e⟩::r)).length:Int)=p.length+1+r.length:=by rw[el_];simp;omega
  have hrl:((row e).length:Int)=size e:=rl_ e
  refine Tl.s (fun k=>by rw[spec_l1Text.l0]) ?_
  refine Tl.p (by omega) ?_
  have go:∀ b:ByteArray,b=ba (acc (p++[⟨c,e⟩]))→Tl (fun k=>spec_l1Text.l0 k (cs (p++⟨c,e⟩::r)) (es (p++⟨c,e⟩::r)) b (wrap64 ((p.length:Int)+1))) (ba (acc (p++⟨c,e⟩::r))):=by
   intro b hb
   subst hb
   rw[wi_ (by omega) (by omega),snoc p]
   have:=ihr (p++[⟨c,e⟩]) (fun c' e' h=>ih c' e' (by simp[h])) (by rw[← snoc];exact h1) (fun t h=>h2 t (by simp[h])) (by rw[← snoc];exact h3)
   rw[show ((p++[(⟨c,e⟩:Tm)]).length:Int)=(p.length:Int)+1 by simp] at this
   exact this
  have term:∀ a:Bs,(if p=[] then [] else acc p++[43])=a→Tl (fun k=>spec_l1Text.j1 k (cs (p++⟨c,e⟩::r)) (es (p++⟨c,e⟩::r)) (ba a) (p.length:Int)) (ba (acc (p++⟨c,e⟩::r))):=by
   intro a ha
   have hal:(a.length:Int)≤20000:=by rw[← ha];split<;>simp<;>omega
   have hacc:acc (p++[⟨c,e⟩])=a++trm c e (tx e):=by rw[acc_snoc,ha]
   refine Tl.s (fun k=>by rw[spec_l1Text.j1]) ?_
   refine Tl.p (by omega) ?_
   refine Tl.p (by omega) ?_
   rw[esT,csT]
   refine Tl.b (sameR_ev (by omega)) ?_
   by_cases he:e=[]
   ·subst he
    refine Tl.p (by rw[row_nil];rfl) ?_
    refine Tl.p (by omega) ?_
    refine Tl.b (number_ev (by omega) (by omega)) ?_
    refine Tl.p (by rw[ba_size,ba_size];omega) ?_
    refine Tl.n (by rw[row_nil];simp) ?_
    refine go _ ?_
    rw[hacc,ba_append];rfl
   ·have hne:size e≥3:=by
     cases e with
     | nil=>exact absurd rfl he
     | cons u s=>obtain⟨d,g⟩:=u;rw[sc_];have:=sp_ g;have:=sp_ s;omega
    refine Tl.n (by omega) ?_
    have tail:∀ (b:Bs),trm c e (tx e)=b++(if c>1 then 42::dc c else [])→(b.length:Int)≤100000→∀ (B:ByteArray) (g:Nat→Option ByteArray),B=ba (a++b) →
     (∀ k,g k=if((row e).length:Int)>1 then(if(p.length:Int)<((cs (p++⟨c,e⟩::r)).length:Int) then(if c>1 then(if B.size+1≤9223372036854775807 then((spec_l1Number.f k c).bind fun t=>(if(B++ba [42]).size+t.size≤9223372036854775807 then spec_l1Text.l0 k (cs (p++⟨c,e⟩::r)) (es (p++⟨c,e⟩::r)) ((B++ba [42])++t) (wrap64 ((p.length:Int)+1)) else none)) else none) else spec_l1Text.l0 k (cs (p++⟨c,e⟩::r)) (es (p++⟨c,e⟩::r)) B (wrap64 ((p.length:Int)+1))) else none) else spec_l1Text.l0 k (cs (p++⟨c,e⟩::r)) (es (p++⟨c,e⟩::r)) B (wrap64 ((p.length:Int)+1))) →
     Tl g (ba (acc (p++⟨c,e⟩::r))):=by
     intro b hb hbl B g hB hg
     subst hB
     refine Tl.congr hg ?_
     refine Tl.p (by omega) ?_
     refine Tl.p (by omega) ?_
     by_cases h:c>1
     ·refine Tl.p h ?_
      refine Tl.p (by rw[ba_size];simp;omega) ?_
      refine Tl.b (number_ev (by omega) (by omega)) ?_
      refine Tl.p (by rw[ba_append,ba_size,ba_size];simp;omega) ?_
      refine go _ ?_
      rw[hacc,hb,if_pos h,ba_append,ba_append]
      simp
     ·refine Tl.n h ?_
      refine go _ ?_
      rw[hacc,hb,if_neg h,List.append_nil]
    by_cases h1':e=[⟨1,[]⟩]
    ·refine Tl.p (by rw[h1'];simp[row,flat]) ?_
     refine Tl.p (by rw[ba_size];omega) ?_
     refine tail [119] ?_ (by simp) _ _ (by rw[← ba_append];rfl) (fun k=>rfl)
     rw[trm_ne _ _ he,if_pos ((tx_eq_one ve).2 h1')]
    ·refine Tl.n (by rw[decide_eq_true_iff,row_is (x:=[⟨1,[]⟩]) (by simp[row,flat])];exact h1') ?_
     have n1:¬ tx e=[49]:=fun h=>h1' ((tx_eq_one ve).1 h)
     refine Tl.b (specOrdNumber_ev (by omega)) ?_
     have hnv:numv (row e)=numOf e:=by unfold numv;rw[or_ ve]
     rw[hnv]
     have sub:=ih c e (by simp)
     have j2:∀ v:Bool,(v=true ↔ (tx e=[119]∨isN e=true))→Tl (fun k=>spec_l1Text.j2 k (cs (p++⟨c,e⟩::r)) (es (p++⟨c,e⟩::r)) (ba a) (p.length:Int) v) (ba (acc (p++⟨c,e⟩::r))):=by
      intro v hv
      refine Tl.s (fun k=>by rw[spec_l1Text.j2]) ?_
      rw[esT,csT]
      cases v with
      | true =>
       refine Tl.p rfl ?_
       refine Tl.p (by rw[ba_size];omega) ?_
       refine Tl.p (by omega) ?_
       refine Tl.p (by omega) ?_
       refine Tl.b sub ?_
       refine Tl.p (by rw[show (⟨#[119,94]⟩:ByteArray)=ba [119,94] from rfl,ba_append,ba_size,ba_size];simp;omega) ?_
       refine tail ([119,94]++tx e) ?_ (by simp;omega) _ _ (by rw[← List.append_assoc,← ba_append,← ba_append];rfl) (fun k=>rfl)
       rw[trm_ne _ _ he,if_neg n1,if_pos (hv.1 rfl)]
      | false =>
       have hn:¬ (tx e=[119]∨isN e=true):=fun h=>by have:=hv.2 h;simp at this
       refine Tl.n (by simp) ?_
       refine Tl.p (by rw[ba_size];omega) ?_
       refine Tl.p (by omega) ?_
       refine Tl.p (by omega) ?_
       refine Tl.b sub ?_
       refine Tl.p (by rw[show (⟨#[119,94,40]⟩:ByteArray)=ba [119,94,40] from rfl,ba_append,ba_size,ba_size];simp;omega) ?_
       refine Tl.p (by rw[show (⟨#[119,94,40]⟩:ByteArray)=ba [119,94,40] from rfl,ba_append,ba_append,ba_size];simp;omega) ?_
       refine tail ([119,94,40]++tx e++[41]) ?_ (by simp;omega) _ _ (by rw[← List.append_assoc,← List.append_assoc,← ba_append,← ba_append,← ba_append];rfl) (fun k=>rfl)
       rw[trm_ne _ _ he,if_neg n1,if_neg hn]
     by_cases h2':isN e=true
     ·refine Tl.p ((numOf_pos ve).2 h2') ?_
      exact j2 true (by simp[h2'])
     ·refine Tl.n (fun h=>h2' ((numOf_pos ve).1 h)) ?_
      refine Tl.b (sameR_ev (by omega)) ?_
      refine j2 _ ?_
      rw[decide_eq_true_iff,row_is (x:=[⟨1,[⟨1,[]⟩]⟩]) (by simp[row,flat]),tx_eq_w ve]
      simp[h2']
  by_cases hp:p=[]
  ·subst hp
   refine Tl.n (by simp) ?_
   have:acc ([]:O)=[]:=by unfold acc;rw[txs_nil];rfl
   rw[this]
   exact term [] (by simp)
  ·have:0<p.length:=by cases p with | nil=>exact absurd rfl hp | cons u s=>simp
   refine Tl.p (by omega) ?_
   refine Tl.p (by rw[ba_size];omega) ?_
   rw[show (⟨#[43]⟩:ByteArray)=ba [43] from rfl,ba_append]
   exact term _ (by rw[if_neg hp])
theorem l1Text_ev:∀ {x:O},Vd x→Tl (fun k=>spec_l1Text.f k (row x)) (ba (tx x)):=by
 have:∀ (n:Nat) (x:O),(size x).toNat≤n→Vd x→Tl (fun k=>spec_l1Text.f k (row x)) (ba (tx x)):=by
  intro n
  induction n with
  | zero=>intro x h;have:=sp_ x;omega
  | succ n ih =>
   intro x h1 h2
   have hz:=h2.2.2
   refine Tl.s (fun k=>by rw[spec_l1Text.f]) ?_
   refine Tl.b (terms_ev (by omega)) ?_
   by_cases hx:x=[]
   ·subst hx
    exact Tl.p rfl (Tl.to (Tl.w _) (by rw[tx_nil];rfl))
   ·refine Tl.n (by rw[cl_];cases x with | nil=>exact absurd rfl hx | cons u s=>simp;omega) ?_
    have mem:∀ (x:O),Vd x→∀ t ∈ x,1≤t.f0∧t.f0≤9999∧Vd t.f1∧size t.f1<size x:=by
     intro x
     induction x with
     | nil=>intro _ t ht;cases ht
     | cons u s ih =>
      intro hv t ht
      obtain⟨d,g⟩:=u
      obtain⟨v1,v2,v3⟩:=Vd_cons hv
      rw[sc_]
      have:=sp_ s
      have:=sp_ g
      rcases List.mem_cons.1 ht with rfl | ht
      ·exact⟨v3.1,v3.2,v1,by show size g<_;omega⟩
      ·obtain⟨a,b,c,d⟩:=ih v2 t ht
       exact⟨a,b,c,by omega⟩
    have:=l1Text_l x [] (fun c e hm=>?_) (Cf_of h2.1 h2.2.1) (fun t ht=>⟨(mem x h2 t ht).1,(mem x h2 t ht).2.1,(mem x h2 t ht).2.2.1⟩) (by rw[List.nil_append];omega)
    ·have e0:acc ([]:O)=[]:=by unfold acc;rw[txs_nil];rfl
     rw[List.nil_append,acc_full hx,e0] at this
     exact this
    ·obtain⟨_,_,v,s⟩:=mem x h2 _ hm
     have s:size e<size x:=s
     exact ih e (by have:=sp_ e;omega) v
 intro x h
 exact this _ x (Nat.le_refl _) h
def textv (l:List Int):Bs:=match ordOf l with
 | some x=>tx x
 | none=>[]
theorem textv_some {l:List Int}{x:O}(h:ordOf l=some x):textv l=tx x:=by unfold textv;rw[h]
theorem textv_none {l:List Int}(h:ordOf l=none):textv l=[]:=by unfold textv;rw[h]
theorem specOrdText_ev {l:List Int}(hl:(l.length:Int)≤100000000):Tl (fun k=>spec_OrdText.f k l) (ba (textv l)):=by
 cases h:ordOf l with
 | none=>rw[textv_none h];exact Tl.b (invalid_ev hl h) (Tl.n (by simp) (Tl.w _))
 | some x =>
  obtain⟨e,v⟩:=os_ h
  rw[textv_some h]
  refine Tl.b (valid_ev h) ?_
  refine Tl.p rfl ?_
  rw[e]
  exact Tl.b (l1Text_ev v) (Tl.w _)
theorem implOrdText_ev {l:List Int}:Tl (fun k=>impl_OrdText.f k l) (ba (textv l)):=by
 cases h:ordOf l with
 | none =>
  rw[textv_none h]
  refine Tl.b ordOf_ev ?_
  refine Tl.n (by rw[ordv_none h];simp) ?_
  exact Tl.w _
 | some x =>
  obtain⟨e,v⟩:=os_ h
  rw[textv_some h]
  refine Tl.b (ord_ev h) ?_
  refine Tl.p rfl ?_
  have:=v.2.2
  exact Tl.b (textOf_ev (Cf_of v.1 v.2.1) (by show size x≤_;omega)) (Tl.w _)
end Go.Proofs.YtbdbldhpglponaaDoor.P
namespace Go.Proofs.YtbdbldhpglponaaDoor.Pure
open OM Go.RowKit Go.Proofs.YtbdbldhpglponaaDoor.P Go.Proofs.YtbdbldhpglponaaDoorW.PrintWords Go.Proofs.YtbdbldhpglponaaDoorW.PrintLast Go.Proofs.YtbdbldhpglponaaDoorW.PrintMore
set_option linter.unusedVariables false
theorem FnExactOrdText:laws_FnExactOrdText.Pure:=by
 intro l h1 h2 h3
 refine Tl.rounds (?_:Tl (fun k=>laws_FnExactOrdText.f k l) true)
 by_cases h:(l.length:Int)>1048576
 ·exact Tl.p h (Tl.w _)
 ·refine Tl.n h ?_
  refine Tl.b (toIntS_ev (by omega)) ?_
  refine Tl.b (specOrdText_ev (by omega)) ?_
  refine Tl.b (toIntS_ev (by omega)) ?_
  refine Tl.b implOrdText_ev ?_
  refine Tl.p rfl ?_
  refine Tl.b (toIntS_ev (by omega)) ?_
  refine Tl.b (eqIntS_ev (by omega)) ?_
  exact Tl.p (by simp) (Tl.w _)
end Go.Proofs.YtbdbldhpglponaaDoor.Pure
