/- A text that is drawn is read as the reference reads it, and told again: the law's pure statement. -/
import Derived.Test.YtbdbldhpglponaaDoorTm
import Derived.Test.YtbdbldhpglponaaDoorP0
import Derived.Test.YtbdbldhpglponaaDoorPcmpCompareint
import Derived.Test.YtbdbldhpglponaaDoorPimplcompare
import Derived.Test.YtbdbldhpglponaaDoorPimpltakeOrd
import Derived.Test.YtbdbldhpglponaaDoorPimplordOf
import Derived.Test.YtbdbldhpglponaaDoorPimplrowOf
import Derived.Test.YtbdbldhpglponaaDoorPspecl1In
import Derived.Test.YtbdbldhpglponaaDoorPspecl1Span
import Derived.Test.YtbdbldhpglponaaDoorPspecl1Terms
import Derived.Test.YtbdbldhpglponaaDoorPspecl1Compare
import Derived.Test.YtbdbldhpglponaaDoorPspecl1Make
import Derived.Test.YtbdbldhpglponaaDoorPspecOrdOf
import Derived.Test.YtbdbldhpglponaaDoorPimplOrdOf
import Derived.Test.YtbdbldhpglponaaDoorPimplnumber
import Derived.Test.YtbdbldhpglponaaDoorPlawssameInts
import Derived.Test.YtbdbldhpglponaaDoorPlawsalive
import Derived.Test.YtbdbldhpglponaaDoorPspecl20Open
import Derived.Test.YtbdbldhpglponaaDoorPspecl20Rdpick
import Derived.Test.YtbdbldhpglponaaDoorPspecl1End
import Derived.Test.YtbdbldhpglponaaDoorPspecOrdValid
import Derived.Test.YtbdbldhpglponaaDoorPspecl20Raw
import Derived.Test.YtbdbldhpglponaaDoorPspecl20Rdodd
import Derived.Test.YtbdbldhpglponaaDoorPspecl20Ord
import Derived.Test.YtbdbldhpglponaaDoorPimpltextOf
import Derived.Test.YtbdbldhpglponaaDoorPspecl1Text
import Derived.Test.YtbdbldhpglponaaDoorPstringsJoin
import Derived.Test.YtbdbldhpglponaaDoorPspecOrdNumber
import Derived.Test.YtbdbldhpglponaaDoorPimplOrdValid
import Derived.Test.YtbdbldhpglponaaDoorPspecOrdText
import Derived.Test.YtbdbldhpglponaaDoorPspecl1Same
import Derived.Test.YtbdbldhpglponaaDoorPimplOrdText
import Derived.Test.YtbdbldhpglponaaDoorPimplreadSum
import Derived.Test.YtbdbldhpglponaaDoorPimplreadNumber
import Derived.Test.YtbdbldhpglponaaDoorPstringsCutPrefix
import Derived.Test.YtbdbldhpglponaaDoorPstringsHasPrefix
import Derived.Test.YtbdbldhpglponaaDoorPspecl1Digits
import Derived.Test.YtbdbldhpglponaaDoorPimplReadOrd
import Derived.Test.YtbdbldhpglponaaDoorPspecl1Read
import Derived.Test.YtbdbldhpglponaaDoorPspecReadOrd
import Derived.Test.YtbdbldhpglponaaDoorPlawsFnReadOrd
import Derived.Test.YtbdbldhpglponaaDoorPspecDrawReadOrd
set_option linter.unusedSimpArgs false
namespace OM
theorem ind {P:O→Prop}(h0:P [])(h1:∀ c e r,P e→P r→P (⟨c,e⟩::r)):∀ x,P x
 | []=>h0
 | ⟨c,e⟩::r=>h1 c e r (ind h0 h1 e) (ind h0 h1 r)
def cmp:O→O→Int
 | [],[]=>0
 | [],_::_=>-1
 | _::_,[]=>1
 | ⟨c,e⟩::r,⟨d,f⟩::s=>if cmp e f=0 then(if c<d then -1 else if d<c then 1 else cmp r s) else cmp e f
theorem cmp_nn:cmp [] []=0:=by unfold cmp;rfl
theorem cmp_nc (t:Tm)(y:O):cmp [] (t::y)=-1:=by cases t;unfold cmp;rfl
theorem cmp_cn (t:Tm)(y:O):cmp (t::y) []=1:=by cases t;unfold cmp;rfl
theorem cmp_cc (c d:Int)(e r f s:O):cmp (⟨c,e⟩::r) (⟨d,f⟩::s)=if cmp e f=0 then(if c<d then -1 else if d<c then 1 else cmp r s) else cmp e f:=by rw[cmp]
theorem cmp_range:∀ x y:O,cmp x y=-1∨cmp x y=0∨cmp x y=1:=by
 intro x
 induction x using ind with
 | h0=>intro y;cases y with
  | nil=>exact .inr (.inl cmp_nn)
  | cons t y=>exact .inl (cmp_nc t y)
 | h1 c e r ihe ihr =>
  intro y;cases y with
  | nil=>exact .inr (.inr (cmp_cn _ _))
  | cons t s =>
   obtain⟨d,f⟩:=t
   rw[cmp_cc]
   have:=ihe f
   have:=ihr s
   split
   ·split
    ·exact .inl rfl
    ·split
     ·exact .inr (.inr rfl)
     ·assumption
   ·assumption
theorem cmp_self (x:O):cmp x x=0:=by
 induction x using ind with
 | h0=>exact cmp_nn
 | h1 c e r ihe ihr=>rw[cmp_cc,if_pos ihe,if_neg (by omega),if_neg (by omega)];exact ihr
theorem cmp_eq:∀ {x y:O},cmp x y=0→x=y:=by
 intro x
 induction x using ind with
 | h0=>intro y h;cases y with
  | nil=>rfl
  | cons t y=>rw[cmp_nc] at h;omega
 | h1 c e r ihe ihr =>
  intro y h;cases y with
  | nil=>rw[cmp_cn] at h;omega
  | cons t s =>
   obtain⟨d,f⟩:=t
   rw[cmp_cc] at h
   split at h
   ·next h1 =>
    split at h
    ·omega
    ·split at h
     ·omega
     ·rw[ihe h1,ihr h];have:c=d:=by omega
      rw[this]
   ·contradiction
theorem cmp_anti:∀ x y:O,cmp y x =-cmp x y:=by
 intro x
 induction x using ind with
 | h0=>intro y;cases y with
  | nil=>rw[cmp_nn];rfl
  | cons t y=>rw[cmp_nc,cmp_cn];rfl
 | h1 c e r ihe ihr =>
  intro y;cases y with
  | nil=>rw[cmp_nc,cmp_cn]
  | cons t s =>
   obtain⟨d,f⟩:=t
   rw[cmp_cc,cmp_cc,ihe f,ihr s]
   have:=cmp_range e f
   split<;>split<;>first | omega | (repeat' split)<;>omega
theorem cmp_trans:∀ {x y z:O},cmp x y=-1→cmp y z=-1→cmp x z=-1:=by
 intro x
 induction x using ind with
 | h0=>intro y z h1 h2;cases z with
  | nil=>cases y with
   | nil=>exact h1
   | cons t y=>rw[cmp_cn] at h2;omega
  | cons t z=>exact cmp_nc _ _
 | h1 c e r ihe ihr =>
  intro y z h1 h2
  cases y with
  | nil=>rw[cmp_cn] at h1;omega
  | cons t s =>
   obtain⟨d,f⟩:=t
   cases z with
   | nil=>rw[cmp_cn] at h2;omega
   | cons u w =>
    obtain⟨g,h⟩:=u
    rw[cmp_cc] at h1 h2 ⊢
    by_cases a:cmp e f=0
    ·have a':=cmp_eq a
     subst a'
     rw[if_pos a] at h1
     by_cases b:cmp e h=0
     ·rw[if_pos b] at h2 ⊢
      by_cases c1:c<g
      ·rw[if_pos c1]
      ·rw[if_neg c1]
       split at h1
       ·split at h2
        ·omega
        ·split at h2<;>omega
       ·split at h1
        ·omega
        ·split at h2
         ·omega
         ·split at h2
          ·omega
          ·rw[if_neg (by omega)];exact ihr h1 h2
     ·rw[if_neg b] at h2 ⊢;exact h2
    ·rw[if_neg a] at h1
     by_cases b:cmp f h=0
     ·have b':=cmp_eq b
      subst b'
      rw[if_neg a];exact h1
     ·rw[if_neg b] at h2
      have:=ihe h1 h2
      rw[if_neg (by omega)];exact this
def Lt (x y:O):Prop:=cmp x y=-1
theorem Lt.trans {x y z:O}(h:Lt x y)(g:Lt y z):Lt x z:=cmp_trans h g
theorem Lt.gt {x y:O}(h:Lt x y):cmp y x=1:=by have:=cmp_anti x y;unfold Lt at h;omega
theorem gt_lt {x y:O}(h:cmp x y=1):Lt y x:=by have:=cmp_anti x y;unfold Lt;omega
theorem tri (x y:O):Lt x y∨x=y∨Lt y x:=by
 rcases cmp_range x y with h | h | h
 ·exact .inl h
 ·exact .inr (.inl (cmp_eq h))
 ·exact .inr (.inr (gt_lt h))
theorem cmp_lt {x y:O}(h:Lt x y):cmp x y=-1:=h
def below (e:O):O→Prop
 | []=>True
 | ⟨_,f⟩::_=>Lt f e
def NF:O→Prop
 | []=>True
 | ⟨c,e⟩::r=>1≤c∧NF e∧NF r∧below e r
def size:O→Int
 | []=>1
 | ⟨_,e⟩::r=>1+size e+size r
def most:O→Int
 | []=>0
 | ⟨c,e⟩::r=>max c (max (most e) (most r))
theorem NF_nil:NF []:=by unfold NF;trivial
theorem NF_cons {c:Int}{e r:O}:NF (⟨c,e⟩::r) ↔ 1≤c∧NF e∧NF r∧below e r:=by rw[NF]
theorem sn_:size []=1:=by unfold size;rfl
theorem sc_ (c:Int)(e r:O):size (⟨c,e⟩::r)=1+size e+size r:=by rw[size]
theorem most_nil:most []=0:=by unfold most;rfl
theorem mc_ (c:Int)(e r:O):most (⟨c,e⟩::r)=max c (max (most e) (most r)):=by rw[most]
theorem sp_ (x:O):1≤size x:=by
 induction x using ind with
 | h0=>rw[sn_];omega
 | h1 c e r ihe ihr=>rw[sc_];omega
theorem below_cons {e f:O}{c:Int}{r:O}:below e (⟨c,f⟩::r) ↔ Lt f e:=Iff.rfl
end OM
namespace OM
def add:O→O→O
 | x,[]=>x
 | [],y=>y
 | ⟨c,e⟩::r,⟨d,f⟩::s=>if cmp e f=1 then⟨c,e⟩::add r (⟨d,f⟩::s) else if cmp e f=0 then⟨c+d,f⟩::s else⟨d,f⟩::s
theorem add_nil (x:O):add x []=x:=by cases x<;>(unfold add;rfl)
theorem nil_add (x:O):add [] x=x:=by cases x<;>(unfold add;rfl)
theorem add_gt {e f:O}(h:Lt f e)(c d:Int)(r s:O):add (⟨c,e⟩::r) (⟨d,f⟩::s)=⟨c,e⟩::add r (⟨d,f⟩::s):=by
 rw[add,h.gt,if_pos rfl]
theorem add_eq (e:O)(c d:Int)(r s:O):add (⟨c,e⟩::r) (⟨d,e⟩::s)=⟨c+d,e⟩::s:=by
 rw[add,cmp_self];rfl
theorem add_lt {e f:O}(h:Lt e f)(c d:Int)(r s:O):add (⟨c,e⟩::r) (⟨d,f⟩::s)=⟨d,f⟩::s:=by
 rw[add,cmp_lt h];rfl
theorem add_ne_nil {x y:O}(h:y≠[]):add x y≠[]:=by
 cases y with
 | nil=>exact absurd rfl h
 | cons u s =>
  obtain⟨d,f⟩:=u
  cases x with
  | nil=>rw[nil_add];exact h
  | cons t r =>
   obtain⟨c,e⟩:=t
   rcases tri e f with a | a | a
   ·rw[add_lt a];exact h
   ·subst a;rw[add_eq];simp
   ·rw[add_gt a];simp
theorem add_assoc:∀ x y z:O,add (add x y) z=add x (add y z):=by
 intro x
 induction x with
 | nil=>intro y z;rw[nil_add,nil_add]
 | cons t r ih =>
  intro y z
  obtain⟨c,e⟩:=t
  cases y with
  | nil=>rw[add_nil,nil_add]
  | cons u s =>
   obtain⟨d,f⟩:=u
   cases z with
   | nil=>rw[add_nil,add_nil]
   | cons v t =>
    obtain⟨g,h⟩:=v
    rcases tri e f with a | a | a
    ·rw[add_lt a]
     rcases tri f h with b | b | b
     ·rw[add_lt b,add_lt (a.trans b)]
     ·subst b;rw[add_eq,add_lt a]
     ·rw[add_gt b,add_lt a]
    ·subst a
     rw[add_eq]
     rcases tri e h with b | b | b
     ·rw[add_lt b,add_lt b,add_lt b]
     ·subst b;rw[add_eq,add_eq,add_eq];congr 2;omega
     ·rw[add_gt b,add_gt b,add_eq]
    ·rw[add_gt a]
     rcases tri f h with b | b | b
     ·rw[add_lt b]
      rcases tri e h with k | k | k
      ·rw[add_lt k,add_lt k]
      ·subst k;rw[add_eq,add_eq]
      ·rw[add_gt k,ih,add_lt b,add_gt k]
     ·subst b;rw[add_eq,add_gt a,add_gt a,ih,add_eq]
     ·rw[add_gt b,add_gt (b.trans a),ih,add_gt b,add_gt a]
def mul:O→O→O
 | [],_=>[]
 | _,[]=>[]
 | ⟨c,e⟩::r,⟨d,f⟩::s=>if f.isEmpty then⟨c*d,e⟩::r else⟨d,add e f⟩::mul (⟨c,e⟩::r) s
termination_by _ y=>y.length
decreasing_by simp
theorem nil_mul (y:O):mul [] y=[]:=by cases y<;>(unfold mul;rfl)
theorem mul_nil (x:O):mul x []=[]:=by cases x<;>(unfold mul;rfl)
theorem mul_fin (c d:Int)(e r s:O):mul (⟨c,e⟩::r) (⟨d,[]⟩::s)=⟨c*d,e⟩::r:=by rw[mul];rfl
theorem mul_cons {f:O}(h:f≠[])(c d:Int)(e r s:O):mul (⟨c,e⟩::r) (⟨d,f⟩::s)=⟨d,add e f⟩::mul (⟨c,e⟩::r) s:=by
 rw[mul,if_neg];cases f with
 | nil=>exact absurd rfl h
 | cons _ _=>simp
theorem mul_head {c d:Int}{e r f s:O}:∃ d' s',mul (⟨c,e⟩::r) (⟨d,f⟩::s)=⟨d',add e f⟩::s':=by
 by_cases h:f=[]
 ·subst h;exact⟨_,_,by rw[mul_fin,add_nil]⟩
 ·exact⟨_,_,mul_cons h _ _ _ _ _⟩
theorem mul_assoc {x y:O}(hy:NF y):∀ {z:O},NF z→mul (mul x y) z=mul x (mul y z):=by
 intro z
 cases x with
 | nil=>intro _;rw[nil_mul,nil_mul,nil_mul]
 | cons t r =>
  obtain⟨c,e⟩:=t
  cases y with
  | nil=>intro _;rw[mul_nil,nil_mul,mul_nil]
  | cons u s =>
   obtain⟨d,f⟩:=u
   obtain⟨h1,h2,h3,h4⟩:=NF_cons.1 hy
   obtain⟨d1,s1,k1⟩:=@mul_head c d e r f s
   induction z with
   | nil=>intro _;rw[mul_nil,mul_nil,mul_nil]
   | cons v t ih =>
    intro hz
    obtain⟨g,h⟩:=v
    obtain⟨g1,g2,g3,g4⟩:=NF_cons.1 hz
    by_cases k:h=[]
    ·subst k
     rw[mul_fin]
     by_cases k':f=[]
     ·subst k';rw[mul_fin,mul_fin,mul_fin,Int.mul_assoc]
     ·rw[mul_cons k',mul_cons k',mul_fin]
    ·have:=ih g3
     rw[mul_cons k,mul_cons (add_ne_nil k),← this,k1,mul_cons k,add_assoc]
end OM
namespace OM
end OM
namespace OM
end OM
namespace OM
def bef:O→O
 | []=>[]
 | [⟨c,e⟩]=>if c=1 then [] else [⟨c-1,e⟩]
 | t::u::r=>t::bef (u::r)
def kind:O→Int
 | []=>0
 | [⟨_,e⟩]=>if e.isEmpty then 1 else 2
 | _::u::r=>kind (u::r)
abbrev one:O:=[⟨1,[]⟩]
def step (n:Int):O→O
 | []=>[]
 | [⟨c,e⟩]=>(if c=1 then [] else [⟨c-1,e⟩])++(if kind e=2 then [⟨1,step n e⟩] else if kind e=1∧0<n then [⟨n,bef e⟩] else [])
 | t::u::r=>t::step n (u::r)
def tail (n:Int)(e:O):O:=if kind e=2 then [⟨1,step n e⟩] else if kind e=1∧0<n then [⟨n,bef e⟩] else []
end OM
namespace OM
end OM
namespace OM
def Tl {α:Type}(g:Nat→Option α)(r:α):Prop:=∃ K,∀ k,K≤k→g k=some r
section
variable {α β:Type}{a:α}{r:β}
theorem Tl.w (r:α):Tl (fun _=>some r) r:=⟨0,fun _ _=>rfl⟩
theorem Tl.c {x:Option α}(h:x=some a):Tl (fun _=>x) a:=⟨0,fun _ _=>h⟩
theorem Tl.rounds {g:Nat→Option α}(h:Tl g a):∃ k,g k=some a:=by
 obtain⟨K,h⟩:=h
 exact⟨K,h K (Nat.le_refl _)⟩
theorem Tl.b {g:Nat→Option α}{f:Nat→α→Option β}(h:Tl g a)(e:Tl (fun k=>f k a) r):Tl (fun k=>(g k).bind (f k)) r:=by
 obtain⟨K,h⟩:=h
 obtain⟨M,e⟩:=e
 refine⟨max K M,fun k hk=>?_⟩
 show (g k).bind (f k)=some r
 rw[h k (by omega)]
 exact e k (by omega)
theorem Tl.d {f:Nat→α→Option β}(e:Tl (fun k=>f k a) r):Tl (fun k=>(some a).bind (f k)) r:=e
theorem Tl.s {g f:Nat→Option α}(h:∀ k,g (k+1)=f k)(e:Tl f a):Tl g a:=by
 obtain⟨K,e⟩:=e
 refine⟨K+1,fun k hk=>?_⟩
 obtain⟨m,rfl⟩:∃ m,k=m+1:=⟨k-1,by omega⟩
 rw[h];exact e m (by omega)
theorem Tl.p {c:Prop}[Decidable c]{f g:Nat→Option α}(h:c)(e:Tl f a):Tl (fun k=>if c then f k else g k) a:=by
 obtain⟨K,e⟩:=e
 exact⟨K,fun k hk=>by show (if c then f k else g k)=some a;rw[if_pos h];exact e k hk⟩
theorem Tl.n {c:Prop}[Decidable c]{f g:Nat→Option α}(h:¬ c)(e:Tl g a):Tl (fun k=>if c then f k else g k) a:=by
 obtain⟨K,e⟩:=e
 exact⟨K,fun k hk=>by show (if c then f k else g k)=some a;rw[if_neg h];exact e k hk⟩
theorem Tl.to {g:Nat→Option α}{b:α}(h:Tl g b)(e:b=a):Tl g a:=e ▸ h
theorem Tl.congr {g f:Nat→Option α}(h:∀ k,g k=f k)(e:Tl f a):Tl g a:=by
 obtain⟨K,e⟩:=e
 exact⟨K,fun k hk=>by rw[h];exact e k hk⟩
end
def flat:O→List Int
 | []=>[]
 | ⟨c,e⟩::r=>c::(((e.length:Int)::flat e)++flat r)
def row (x:O):List Int:=(x.length:Int)::flat x
theorem flat_nil:flat []=[]:=by unfold flat;rfl
theorem flat_cons (c:Int)(e r:O):flat (⟨c,e⟩::r)=c::(row e++flat r):=by rw[flat];rfl
theorem row_nil:row []=[0]:=by unfold row;rw[flat_nil];rfl
theorem flat_length (x:O):((flat x).length:Int)=size x-1:=by
 induction x using ind with
 | h0=>rw[flat_nil,sn_];rfl
 | h1 c e r ihe ihr=>rw[flat_cons,sc_];unfold row;simp only[List.length_cons,List.length_append];omega
theorem rl_ (x:O):((row x).length:Int)=size x:=by
 have:=flat_length x
 unfold row;simp only[List.length_cons];omega
theorem ll_ (x:O):2*(x.length:Int)≤size x-1:=by
 induction x with
 | nil=>rw[sn_];simp
 | cons t r ih=>obtain⟨c,e⟩:=t;have:=sp_ e;rw[sc_];simp only[List.length_cons];omega
def late (last:Option O)(e:O):Bool:=match last with
 | none=>false
 | some f=>decide (0≤cmp e f)
def terms (tk:List Int→Option (O × List Int)):Nat→Option O→List Int→Option (O × List Int)
 | 0,_,l=>some ([],l)
 | _+1,_,[]=>none
 | c+1,last,t::l =>
  if 1≤t∧t≤9999 then
   match tk l with
   | none=>none
   | some (e,l')=>if late last e=true then none else
    match terms tk c (some e) l' with
    | none=>none
    | some (r,l'')=>some (⟨t,e⟩::r,l'')
  else none
def take:Nat→List Int→Option (O × List Int)
 | 0,_=>none
 | _+1,[]=>none
 | n+1,m::l=>if 0≤m∧m≤60 then terms (take n) m.toNat none l else none
def Good (tk:List Int→Option (O × List Int)):Prop:=∀ l x l',tk l=some (x,l')→l=row x++l'∧NF x∧most x≤9999
theorem terms_good {tk:List Int→Option (O × List Int)}(htk:Good tk):∀ {c:Nat} {last:Option O} {l l':List Int} {r:O},terms tk c last l=some (r,l') →
 l=flat r++l'∧NF r∧most r≤9999∧r.length=c∧∀ f,last=some f→below f r:=by
 intro c
 induction c with
 | zero =>
  intro last l l' r h
  unfold terms at h
  injection h with h
  injection h with h1 h2
  subst h1;subst h2
  exact⟨by rw[flat_nil];rfl,NF_nil,by rw[most_nil];omega,rfl,fun _ _=>trivial⟩
 | succ c ih =>
  intro last l l' r h
  cases l with
  | nil=>unfold terms at h;cases h
  | cons t l =>
   rw[terms] at h
   split at h
   ·next ht =>
    split at h
    ·cases h
    ·next e l1 he =>
     obtain⟨a1,a2,a3⟩:=htk _ _ _ he
     split at h
     ·cases h
     ·next hl =>
      split at h
      ·cases h
      ·next r' l2 hr =>
       injection h with h
       injection h with h1 h2
       subst h1;subst h2
       obtain⟨b1,b2,b3,b4,b5⟩:=ih hr
       refine⟨?_,NF_cons.2 ⟨ht.1,a2,b2,b5 e rfl⟩,?_,by simp[b4],fun f hf=>?_⟩
       ·rw[a1,b1,flat_cons];simp
       ·rw[mc_];omega
       ·subst hf
        unfold late at hl
        simp only[decide_eq_true_eq] at hl
        have:=cmp_range e f
        show cmp e f=-1
        omega
   ·cases h
theorem take_good (n:Nat):Good (take n):=by
 induction n with
 | zero=>intro l x l' h;unfold take at h;cases h
 | succ n ih =>
  intro l x l' h
  cases l with
  | nil=>unfold take at h;cases h
  | cons m l =>
   rw[take] at h
   split at h
   ·next hm =>
    obtain⟨a1,a2,a3,a4,_⟩:=terms_good ih h
    refine⟨?_,a2,a3⟩
    rw[a1]
    have:m=(x.length:Int):=by rw[a4];omega
    rw[this];rfl
   ·cases h
theorem take_len {n:Nat}{l l':List Int}{x:O}(h:take n l=some (x,l')):l'.length<l.length:=by
 obtain⟨a,_,_⟩:=take_good n _ _ _ h
 rw[a];unfold row;simp;omega
theorem terms_full {n:Nat}(ih:∀ x l,NF x→most x≤9999→(size x≤60)→size x<n→take n (row x++l)=some (x,l)) :
 ∀ (r:O) (last:Option O) (l:List Int),NF r→most r≤9999→size r≤60→size r≤n→(∀ f,last=some f→below f r)→terms (take n) r.length last (flat r++l)=some (r,l):=by
 intro r
 induction r with
 | nil=>intro last l _ _ _ _ _;rw[flat_nil];unfold terms;rfl
 | cons t r ihr =>
  intro last l h1 h2 h3 h4 h5
  obtain⟨c,e⟩:=t
  obtain⟨a1,a2,a3,a4⟩:=NF_cons.1 h1
  rw[mc_] at h2
  rw[sc_] at h3 h4
  have:=sp_ r
  have:=sp_ e
  rw[flat_cons]
  simp only[List.length_cons,List.cons_append,List.append_assoc]
  rw[terms,if_pos ⟨a1,by omega⟩,ih e _ a2 (by omega) (by omega) (by omega)]
  simp only
  have hl:¬ late last e=true:=by
   unfold late
   cases last with
   | none=>simp
   | some f =>
    have:=h5 f rfl
    simp only[decide_eq_true_eq]
    rw[below_cons] at this
    rw[this];omega
  rw[if_neg hl,ihr (some e) l a3 (by omega) (by omega) (by omega) (fun f hf=>by injection hf with hf;subst hf;exact a4)]
theorem take_full:∀ (n:Nat) (x:O) (l:List Int),NF x→most x≤9999→size x≤60→size x<n→take n (row x++l)=some (x,l):=by
 intro n
 induction n with
 | zero=>intro x l _ _ _ h;have:=sp_ x;omega
 | succ n ih =>
  intro x l h1 h2 h3 h4
  have:=ll_ x
  unfold row
  rw[List.cons_append,take,if_pos ⟨by omega,by omega⟩,Int.toNat_natCast]
  exact terms_full (fun x l a b c d=>ih x l a b c d) x none l h1 h2 h3 (by omega) (fun f hf=>by cases hf)
def Vd (x:O):Prop:=NF x∧most x≤9999∧size x≤60
theorem Vd_cons {c:Int}{e r:O}(h:Vd (⟨c,e⟩::r)):Vd e∧Vd r∧1≤c∧c≤9999:=by
 obtain⟨h1,h2,h3⟩:=h
 obtain⟨g1,g2,g3,g4⟩:=NF_cons.1 h1
 rw[mc_] at h2
 rw[sc_] at h3
 have:=sp_ e
 have:=sp_ r
 exact⟨⟨g2,by omega,by omega⟩,⟨g3,by omega,by omega⟩,g1,by omega⟩
theorem Vd.size {x:O}(h:Vd x):size x≤60:=h.2.2
def ordOf (l:List Int):Option O:=if 1≤l.length∧l.length≤60 then(match take 61 l with | some (x,[])=>some x | _=>none) else none
theorem os_ {l:List Int}{x:O}(h:ordOf l=some x):l=row x∧Vd x:=by
 unfold ordOf at h
 split at h
 ·next hl =>
  split at h
  ·next y he =>
   injection h with h
   subst h
   obtain⟨a1,a2,a3⟩:=take_good _ _ _ _ he
   rw[List.append_nil] at a1
   have:=rl_ y
   rw[← a1] at this
   exact⟨a1,a2,a3,by omega⟩
  ·cases h
 ·cases h
theorem or_ {x:O}(h:Vd x):ordOf (row x)=some x:=by
 obtain⟨h1,h2,h3⟩:=h
 have h4:=rl_ x
 have h5:=sp_ x
 have h6:=take_full 61 x [] h1 h2 h3 (by omega)
 rw[List.append_nil] at h6
 unfold ordOf
 rw[if_pos ⟨by omega,by omega⟩,h6]
end OM
namespace Go.Proofs.YtbdbldhpglponaaDoor.P
open OM Go.RowKit Go.Proofs.YtbdbldhpglponaaDoorW.PrintWords Go.Proofs.YtbdbldhpglponaaDoorW.PrintLast Go.Proofs.YtbdbldhpglponaaDoorW.PrintMore
set_option linter.unusedVariables false
theorem wi_ {i:Int}(h0:-9000000000000000000≤i)(h:i≤9000000000000000000):wrap64 i=i:=by unfold wrap64;omega
theorem getD_mid {α:Type}(p s:List α)(c d:α){i:Int}(hi:i=(p.length:Int)):(p++c::s).getD i.toNat d=c:=by subst hi;simp
theorem rd_mid (p s:List Int)(c:Int){i:Int}(hi:i=(p.length:Int)):rd (p++c::s) i=c:=getD_mid p s c 0 hi
theorem rdT_mid (p s:O)(c:Tm){i:Int}(hi:i=(p.length:Int)):rd_T57 (p++c::s) i=c:=getD_mid p s c _ hi
theorem rdL_mid (p s:List (List Int))(c:List Int){i:Int}(hi:i=(p.length:Int)):rd_L1 (p++c::s) i=c:=getD_mid p s c _ hi
theorem snoc {α:Type}(p s:List α)(c:α):p++c::s=(p++[c])++s:=by simp
theorem sa_ (p r:O):size (p++r)=size p+size r-1:=by
 induction p with
 | nil=>rw[sn_];show size r=_;omega
 | cons t p ih=>obtain⟨c,e⟩:=t;show size (⟨c,e⟩::(p++r))=_;rw[sc_,sc_,ih];omega
theorem cmpInt (a b:Int):cmp_Compare_int.f a b=some (if a<b then -1 else if b<a then 1 else 0):=by
 unfold cmp_Compare_int.f cmp_isNaN_int.f
 simp only[Option.bind_some,bne_self_eq_false,Bool.false_eq_true,if_false]
 split
 ·rfl
 ·split<;>rfl
theorem compare_f (k:Nat)(x y:O):impl_compare.f (k+1) x y=impl_compare.l0 k x y 0:=by rw[impl_compare.f]
theorem compare_l:∀ (r p q s:O),p.length=q.length→size (p++r)≤10000000000→size (q++s)≤10000000000→Tl (fun k=>impl_compare.l0 k (p++r) (q++s) (p.length:Int)) (cmp r s):=by
 intro r
 induction r using ind with
 | h0 =>
  intro p q s hl h1 h2
  have hs:=ll_ (p++[])
  have hq:=ll_ (q++s)
  refine Tl.s (fun k=>by rw[impl_compare.l0]) ?_
  refine Tl.n (by simp) ?_
  refine Tl.s (fun k=>by rw[impl_compare.j1]) ?_
  refine Tl.n (by simp) ?_
  refine Tl.b (Tl.c (cmpInt _ _)) ?_
  refine Tl.to (Tl.w _) ?_
  simp only[List.length_append,List.length_nil,Nat.add_zero]
  cases s with
  | nil=>rw[cmp_nn,if_neg (by simp;omega),if_neg (by simp;omega)]
  | cons t s=>rw[cmp_nc,if_pos (by simp;omega)]
 | h1 c e r ihe ihr =>
  intro p q s hl h1 h2
  have hp:=ll_ p
  have hs:=ll_ (p++(⟨c,e⟩::r))
  have hq:=ll_ (q++s)
  refine Tl.s (fun k=>by rw[impl_compare.l0]) ?_
  refine Tl.p (by simp;omega) ?_
  refine Tl.s (fun k=>by rw[impl_compare.j1]) ?_
  cases s with
  | nil =>
   refine Tl.n (by simp;omega) ?_
   refine Tl.b (Tl.c (cmpInt _ _)) ?_
   refine Tl.to (Tl.w _) ?_
   rw[cmp_cn,if_neg (by simp;omega),if_pos (by simp;omega)]
  | cons t s =>
   obtain⟨d,f⟩:=t
   refine Tl.p (by simp;omega) ?_
   refine Tl.p (by omega) ?_
   refine Tl.p (by simp;omega) ?_
   refine Tl.p (by simp;omega) ?_
   rw[rdT_mid p r ⟨c,e⟩ rfl,rdT_mid q s ⟨d,f⟩ (by rw[hl])]
   have z1:=h1
   have z2:=h2
   rw[sa_,sc_] at z1 z2
   have:=sp_ r
   have:=sp_ s
   have:=sp_ p
   have:=sp_ q
   have:=sp_ e
   have:=sp_ f
   refine Tl.b (Tl.s (fun k=>compare_f k e f) (ihe [] [] f rfl (by show size e≤_;omega) (by show size f≤_;omega))) ?_
   show Tl (fun k=>if cmp e f=0 then _ else _) _
   rw[cmp_cc]
   by_cases z:cmp e f=0
   ·refine Tl.p z ?_
    rw[if_pos z]
    refine Tl.b (Tl.c (cmpInt _ _)) ?_
    by_cases a:c<d
    ·rw[if_pos a,if_pos a]
     exact Tl.n (by omega) (Tl.w _)
    ·by_cases b:d<c
     ·rw[if_neg a,if_pos b,if_neg a,if_pos b]
      exact Tl.n (by omega) (Tl.w _)
     ·rw[if_neg a,if_neg b,if_neg a,if_neg b]
      refine Tl.p rfl ?_
      rw[snoc p,snoc q,wi_ (by omega) (by omega)]
      have:=ihr (p++[⟨c,e⟩]) (q++[⟨d,f⟩]) s (by simp[hl]) (by rw[← snoc];exact h1) (by rw[← snoc];exact h2)
      rw[show ((p++[(⟨c,e⟩:Tm)]).length:Int)=(p.length:Int)+1 by simp] at this
      exact this
   ·refine Tl.n z ?_
    rw[if_neg z]
    exact Tl.w _
theorem compare_ev {x y:O}(hx:size x≤10000000000)(hy:size y≤10000000000):Tl (fun k=>impl_compare.f k x y) (cmp x y) :=
 Tl.s (fun k=>compare_f k x y) (compare_l x [] [] y rfl hx hy)
theorem rowOf_f (k:Nat)(x:O):impl_rowOf.f (k+1) x=impl_rowOf.l0 k [(x.length:Int)] x (x.length:Int) 0:=by rw[impl_rowOf.f]
theorem rowOf_l:∀ (r p:O) (acc:List Int),size (p++r)≤10000000000→(acc.length:Int)+size r≤20000000000→Tl (fun k=>impl_rowOf.l0 k acc (p++r) ((p++r).length:Int) (p.length:Int)) (acc++flat r):=by
 intro r
 induction r using ind with
 | h0 =>
  intro p acc h1 h2
  refine Tl.s (fun k=>by rw[impl_rowOf.l0]) ?_
  refine Tl.n (by simp) ?_
  refine Tl.to (Tl.w _) ?_
  rw[flat_nil,List.append_nil]
 | h1 c e r ihe ihr =>
  intro p acc h1 h2
  have hp:=ll_ p
  have z1:=h1
  rw[sa_,sc_] at z1
  rw[sc_] at h2
  have:=sp_ r
  have:=sp_ p
  have:=sp_ e
  refine Tl.s (fun k=>by rw[impl_rowOf.l0]) ?_
  refine Tl.p (by simp;omega) ?_
  refine Tl.p (by omega) ?_
  refine Tl.p (by simp;omega) ?_
  refine Tl.p (by omega) ?_
  refine Tl.d ?_
  rw[rdT_mid p r ⟨c,e⟩ rfl]
  refine Tl.b (Tl.s (fun k=>rowOf_f k e) (ihe [] [(e.length:Int)] (by show size e≤_;omega) (by simp;omega))) ?_
  have hl:=rl_ e
  have he:([(e.length:Int)]++flat e)=row e:=rfl
  rw[he]
  refine Tl.p (by simp only[List.length_append,List.length_cons,List.length_nil];omega) ?_
  rw[wi_ (by omega) (by omega),snoc p]
  have:=ihr (p++[⟨c,e⟩]) (acc++[c]++row e) (by rw[← snoc];exact h1) (by simp only[List.length_append,List.length_cons,List.length_nil];omega)
  rw[show ((p++[(⟨c,e⟩:Tm)]).length:Int)=(p.length:Int)+1 by simp] at this
  refine Tl.to this ?_
  rw[flat_cons];simp
theorem rowOf_ev {x:O}(hx:size x≤10000000000):Tl (fun k=>impl_rowOf.f k x) (row x) :=
 Tl.s (fun k=>rowOf_f k x) (rowOf_l x [] [(x.length:Int)] hx (by simp;omega))
theorem rd_zero (a:Int)(l:List Int):rd (a::l) 0=a:=rfl
theorem takeOrd_l {n:Nat}(ih:∀ l:List Int,l.length<n→(l.length:Int)≤100000000→Tl (fun k=>impl_takeOrd.f k l) (match take n l with | none=>([],[],false) | some (x,l')=>(x,l',true))) :
 ∀ (c:Nat) (acc:O) (l:List Int) (last:Option O) (m:Int),l.length≤n→(l.length:Int)≤100000000→m=(acc.length:Int)+c→0≤m→m≤60→size acc+(l.length:Int)≤200000000 →
  (∀ t a,acc=a++[t]→last=some t.f1)→(acc=[]→last=none) →
  Tl (fun k=>impl_takeOrd.l0 k l acc m (acc.length:Int)) (match terms (take n) c last l with | none=>([],[],false) | some (x,l')=>(acc++x,l',true)):=by
 intro c
 induction c with
 | zero =>
  intro acc l last m h1 h1' h2 h3 h4 hz h5 h6
  refine Tl.s (fun k=>by rw[impl_takeOrd.l0]) ?_
  refine Tl.n (by omega) ?_
  refine Tl.to (Tl.w _) ?_
  unfold terms;simp
 | succ c ihc =>
  intro acc l last m h1 h1' h2 h3 h4 hz h5 h6
  have hacc:=sp_ acc
  refine Tl.s (fun k=>by rw[impl_takeOrd.l0]) ?_
  refine Tl.p (by omega) ?_
  have bad:Tl (fun k=>impl_takeOrd.j2 k l acc (acc.length:Int) m (acc.length:Int) true) (([]:O),([]:List Int),false):=by
   refine Tl.s (fun k=>by rw[impl_takeOrd.j2]) ?_
   exact Tl.p rfl (Tl.w _)
  cases l with
  | nil =>
   refine Tl.p rfl ?_
   refine Tl.to bad ?_
   unfold terms;rfl
  | cons t l =>
   refine Tl.n (by simp<;>omega) ?_
   refine Tl.p (by simp<;>omega) ?_
   rw[rd_zero,terms]
   by_cases ht:t<1
   ·refine Tl.p ht ?_
    refine Tl.to bad ?_
    rw[if_neg (by omega)]
   ·refine Tl.n ht ?_
    by_cases ht':t>9999
    ·rw[decide_eq_true ht']
     refine Tl.to bad ?_
     rw[if_neg (by omega)]
    ·rw[decide_eq_false ht',if_pos (by omega)]
     refine Tl.s (fun k=>by rw[impl_takeOrd.j2]) ?_
     refine Tl.n (by simp) ?_
     refine Tl.p (by simp;omega) ?_
     simp only[List.length_cons] at h1 h1' hz
     refine Tl.b (ih l (by omega) (by omega)) ?_
     cases hk:take n l with
     | none=>exact Tl.n (by simp) (Tl.w _)
     | some q =>
      obtain⟨e,l1⟩:=q
      simp only
      refine Tl.p trivial ?_
      have hlen:=take_len hk
      obtain⟨a1,a2,a3⟩:=take_good _ _ _ _ hk
      have hse:size e+(l1.length:Int)=(l.length:Int):=by
       have:=rl_ e
       rw[a1,List.length_append];omega
      have go:∀ last',last'=some e→Tl (fun k=>if 0<(((t::l).length:Nat):Int) then(if acc.length<4398046511104 then(impl_takeOrd.l0 k l1 (acc++[(⟨rd (t::l) 0,e⟩:Tm)]) m (wrap64 ((acc.length:Int)+1))) else none) else none)
       (match (match terms (take n) c last' l1 with | none=>none | some (r,l'')=>some ((⟨t,e⟩:Tm)::r,l'')) with | none=>([],[],false) | some (x,l')=>(acc++x,l',true)):=by
       intro last' hl'
       refine Tl.p (by simp<;>omega) ?_
       refine Tl.p (by have:=ll_ acc;omega) ?_
       rw[rd_zero,wi_ (by omega) (by omega)]
       have:=ihc (acc++[⟨t,e⟩]) l1 last' m (by omega) (by omega) (by simp;omega) h3 h4 (by rw[sa_,sc_,sn_];omega)
        (fun t' a ha=>by
         have:=List.append_inj_right' ha rfl
         injection this with this
         rw[hl',← this])
        (fun ha=>by simp at ha)
       rw[show ((acc++[(⟨t,e⟩:Tm)]).length:Int)=(acc.length:Int)+1 by simp] at this
       refine Tl.to this ?_
       cases terms (take n) c last' l1 with
       | none=>rfl
       | some q=>obtain⟨r,l2⟩:=q;simp
      rcases List.eq_nil_or_concat acc with hacc | ⟨a,t',hacc⟩
      ·have hl:=h6 hacc
       subst hl
       refine Tl.n (by rw[hacc];simp) ?_
       have:late none e=false:=rfl
       rw[if_neg (by rw[this];simp)]
       exact go (some e) rfl
      ·rw[List.concat_eq_append] at hacc
       have hl:=h5 t' a hacc
       have hp:(acc.length:Int)=(a.length:Int)+1:=by rw[hacc];simp
       refine Tl.p (by omega) ?_
       rw[wi_ (by omega) (by omega)]
       refine Tl.p (by omega) ?_
       refine Tl.p (by omega) ?_
       have hrd:rd_T57 acc ((acc.length:Int)-1)=t':=by
        rw[hacc];exact rdT_mid a [] t' (by simp)
       rw[hrd]
       have hst:size t'.f1≤size acc:=by
        obtain⟨ct,et⟩:=t'
        have:=sp_ a
        have:=sp_ et
        rw[hacc,sa_,sc_,sn_];show size et≤_;omega
       refine Tl.b (compare_ev (by omega) (by omega)) ?_
       subst hl
       by_cases hc:cmp e t'.f1≥0
       ·refine Tl.p hc ?_
        have:late (some t'.f1) e=true:=by unfold late;simp only[decide_eq_true_eq];exact hc
        rw[if_pos this]
        exact Tl.w _
       ·refine Tl.n hc ?_
        have:¬ late (some t'.f1) e=true:=by unfold late;simp only[decide_eq_true_eq];exact hc
        rw[if_neg this]
        exact go (some e) rfl
theorem takeOrd_ev:∀ (n:Nat) (l:List Int),l.length<n→(l.length:Int)≤100000000→Tl (fun k=>impl_takeOrd.f k l) (match take n l with | none=>([],[],false) | some (x,l')=>(x,l',true)):=by
 intro n
 induction n with
 | zero=>intro l h;omega
 | succ n ih =>
  intro l h h'
  refine Tl.s (fun k=>by rw[impl_takeOrd.f]) ?_
  cases l with
  | nil=>refine Tl.p rfl ?_;unfold take;exact Tl.w _
  | cons m l =>
   simp only[List.length_cons] at h h'
   refine Tl.n (by simp<;>omega) ?_
   refine Tl.p (by simp<;>omega) ?_
   refine Tl.p (by simp<;>omega) ?_
   refine Tl.d ?_
   refine Tl.d ?_
   rw[rd_zero,take]
   by_cases h1:m<0
   ·refine Tl.p h1 ?_
    refine Tl.s (fun k=>by rw[impl_takeOrd.j0]) ?_
    refine Tl.p rfl ?_
    rw[if_neg (by omega)];exact Tl.w _
   ·refine Tl.n h1 ?_
    refine Tl.s (fun k=>by rw[impl_takeOrd.j0]) ?_
    by_cases h2:m>60
    ·refine Tl.p (decide_eq_true h2) ?_
     rw[if_neg (by omega)];exact Tl.w _
    ·refine Tl.n (by simp;omega) ?_
     rw[if_pos (by omega)]
     have:=takeOrd_l ih m.toNat [] l none m (by omega) (by omega) (by simp;omega) (by omega) (by omega) (by rw[sn_];omega) (fun t a ha=>by simp at ha) (fun _=>rfl)
     exact this
def ordv (l:List Int):O × Bool:=match ordOf l with
 | some x=>(x,true)
 | none=>((if 1≤l.length∧l.length≤60 then(match take 61 l with | some (x,_)=>x | none=>[]) else []),false)
theorem ordOf_ev {l:List Int}:Tl (fun k=>impl_ordOf.f k l) (ordv l):=by
 unfold ordv ordOf
 by_cases h1:(l.length:Int)<1
 ·refine Tl.p h1 ?_
  rw[if_neg (by omega),if_neg (by omega)];exact Tl.w _
 ·refine Tl.n h1 ?_
  by_cases h2:(l.length:Int)>60
  ·refine Tl.p h2 ?_
   rw[if_neg (by omega),if_neg (by omega)];exact Tl.w _
  ·refine Tl.n h2 ?_
   refine Tl.b (takeOrd_ev 61 l (by omega) (by omega)) ?_
   have hc:1≤l.length∧l.length≤60:=by omega
   rw[if_pos hc,if_pos hc]
   cases take 61 l with
   | none=>exact Tl.n (by simp) (Tl.w _)
   | some q =>
    obtain⟨x,l'⟩:=q
    refine Tl.p rfl ?_
    cases l' with
    | nil=>exact Tl.w _
    | cons a l'=>refine Tl.to (Tl.w _) ?_;simp;omega
end Go.Proofs.YtbdbldhpglponaaDoor.P
namespace Go.Proofs.YtbdbldhpglponaaDoor.P
open OM Go.RowKit Go.Proofs.YtbdbldhpglponaaDoorW.PrintWords Go.Proofs.YtbdbldhpglponaaDoorW.PrintLast Go.Proofs.YtbdbldhpglponaaDoorW.PrintMore
set_option linter.unusedVariables false
theorem l1In_eq (a lo hi:Int):spec_l1In.f a lo hi=some (decide (lo≤a∧a≤hi)):=by
 unfold spec_l1In.f
 split
 ·next h=>congr 1;by_cases g:a≤hi<;>simp[h,g]<;>omega
 ·next h=>congr 1;simp;omega
theorem span_l:∀ (r:O) (p s:List Int) (m i:Int),m=i+r.length→0≤i→m≤20000000000→(((p++(flat r++s)).length:Nat):Int)≤10000000000→Tl (fun k=>spec_l1Span.l0 k (p++(flat r++s)) (p.length:Int) m i) ((p.length:Int)+(flat r).length):=by
 intro r
 induction r using ind with
 | h0 =>
  intro p s m i h1 h2 hm h3
  refine Tl.s (fun k=>by rw[spec_l1Span.l0]) ?_
  refine Tl.n (by simp at h1;omega) ?_
  refine Tl.to (Tl.w _) ?_
  rw[flat_nil];simp
 | h1 c e r ihe ihr =>
  intro p s m i h1 h2 hm h3
  have h3':=h3
  rw[flat_cons] at h3' ⊢
  have hre:row e=(e.length:Int)::flat e:=rfl
  simp only[List.length_append,List.length_cons] at h3' h1
  rw[hre] at h3'
  simp only[List.length_append,List.length_cons] at h3'
  have hle:=ll_ e
  have hfe:=flat_length e
  have hlr:=ll_ r
  have hfr:=flat_length r
  refine Tl.s (fun k=>by rw[spec_l1Span.l0]) ?_
  refine Tl.p (by omega) ?_
  rw[wi_ (i:=(p.length:Int)+1) (by omega) (by omega),wi_ (i:=i+1) (by omega) (by omega)]
  have hsp:Tl (fun k=>spec_l1Span.f k (p++((c::(row e++flat r))++s)) ((p.length:Int)+1)) ((p.length:Int)+1+(row e).length):=by
   refine Tl.s (fun k=>by rw[spec_l1Span.f]) ?_
   refine Tl.p (by omega) ?_
   refine Tl.p (by simp[hre];omega) ?_
   have hsplit:p++((c::(row e++flat r))++s)=(p++[c])++((e.length:Int)::(flat e++(flat r++s))):=by rw[hre];simp
   rw[hsplit,rd_mid (p++[c]) _ (e.length:Int) (by simp),wi_ (by omega) (by omega)]
   have:=ihe (p++[c]++[(e.length:Int)]) (flat r++s) (e.length:Int) 0 (by omega) (by omega) (by omega) (by simp;omega)
   rw[show ((p++[c]++[(e.length:Int)]).length:Int)=(p.length:Int)+1+1 by simp;omega] at this
   rw[snoc (p++[c])]
   refine Tl.to this ?_
   rw[hre];simp only[List.length_cons];omega
  refine Tl.b hsp ?_
  have hsplit:p++((c::(row e++flat r))++s)=(p++(c::row e))++(flat r++s):=by simp
  rw[hsplit]
  have:=ihr (p++(c::row e)) s m (i+1) (by omega) (by omega) hm (by rw[← hsplit,← flat_cons];exact h3)
  rw[show ((p++(c::row e)).length:Int)=(p.length:Int)+1+(row e).length by simp;omega] at this
  refine Tl.to this ?_
  simp only[List.length_cons,List.length_append];omega
theorem span_ev (x:O)(p s:List Int)(h:(((p++(row x++s)).length:Nat):Int)≤10000000000):Tl (fun k=>spec_l1Span.f k (p++(row x++s)) (p.length:Int)) ((p.length:Int)+(row x).length):=by
 have hre:row x=(x.length:Int)::flat x:=rfl
 have h':=h
 rw[hre] at h' ⊢
 simp only[List.length_append,List.length_cons] at h'
 have hle:=ll_ x
 have hfe:=flat_length x
 refine Tl.s (fun k=>by rw[spec_l1Span.f]) ?_
 refine Tl.p (by omega) ?_
 refine Tl.p (by simp;omega) ?_
 rw[show p++((x.length:Int)::flat x++s)=p++((x.length:Int)::(flat x++s)) by simp,rd_mid p _ (x.length:Int) rfl,wi_ (by omega) (by omega)]
 have:=span_l x (p++[(x.length:Int)]) s (x.length:Int) 0 (by omega) (by omega) (by omega) (by simp;omega)
 rw[show ((p++[(x.length:Int)]).length:Int)=(p.length:Int)+1 by simp] at this
 rw[snoc p]
 refine Tl.to this ?_
 simp only[List.length_cons];omega
def cs (x:O):List Int:=x.map (·.f0)
def es (x:O):List (List Int):=x.map (fun t=>row t.f1)
theorem cl_ (x:O):(cs x).length=x.length:=by simp[cs]
theorem el_ (x:O):(es x).length=x.length:=by simp[es]
theorem cs_cons (c:Int)(e r:O):cs (⟨c,e⟩::r)=c::cs r:=rfl
theorem es_cons (c:Int)(e r:O):es (⟨c,e⟩::r)=row e::es r:=rfl
theorem cs_append (x y:O):cs (x++y)=cs x++cs y:=by simp[cs]
theorem es_append (x y:O):es (x++y)=es x++es y:=by simp[es]
theorem terms_l:∀ (r:O) (p:List Int) (A:List Int) (B:List (List Int)),((p++flat r).length:Int)≤10000000000→(A.length:Int)+r.length≤20000000000→(B.length:Int)+r.length≤20000000000 →
 Tl (fun k=>spec_l1Terms.l0 k (p++flat r) A B (p.length:Int)) (A++cs r,B++es r):=by
 intro r
 induction r with
 | nil =>
  intro p A B h1 h2 h3
  refine Tl.s (fun k=>by rw[spec_l1Terms.l0]) ?_
  refine Tl.n (by rw[flat_nil];simp) ?_
  refine Tl.to (Tl.w _) ?_
  simp[cs,es]
 | cons t r ih =>
  intro p A B h1 h2 h3
  obtain⟨c,e⟩:=t
  have h1':=h1
  rw[flat_cons] at h1' ⊢
  simp only[List.length_append,List.length_cons] at h1' h2 h3
  refine Tl.s (fun k=>by rw[spec_l1Terms.l0]) ?_
  refine Tl.p (by simp;omega) ?_
  rw[wi_ (i:=(p.length:Int)+1) (by omega) (by omega)]
  have hsplit:p++(c::(row e++flat r))=(p++[c])++(row e++flat r):=by simp
  have hsp:Tl (fun k=>spec_l1Span.f k (p++(c::(row e++flat r))) ((p.length:Int)+1)) ((p.length:Int)+1+(row e).length):=by
   rw[hsplit]
   have:=span_ev e (p++[c]) (flat r) (by simp;omega)
   rw[show ((p++[c]).length:Int)=(p.length:Int)+1 by simp] at this
   exact this
  refine Tl.b hsp ?_
  refine Tl.p (by omega) ?_
  refine Tl.p (by omega) ?_
  refine Tl.p (by omega) ?_
  refine Tl.p (by omega) ?_
  refine Tl.p (by simp;omega) ?_
  refine Tl.p (by omega) ?_
  rw[rd_mid p _ c rfl]
  have hcut:(((p++(c::(row e++flat r))).take ((p.length:Int)+1+((row e).length:Int)).toNat).drop ((p.length:Int)+1).toNat)=row e:=by
   rw[show ((p.length:Int)+1+((row e).length:Int)).toNat=(p++[c]).length+(row e).length by simp;omega,show ((p.length:Int)+1).toNat=(p++[c]).length by simp<;>omega,hsplit,List.take_length_add_append,List.take_left,List.drop_left]
  rw[hcut,show p++(c::(row e++flat r))=(p++(c::row e))++flat r by simp]
  have:=ih (p++(c::row e)) (A++[c]) (B++[row e]) (by simp;omega) (by simp;omega) (by simp;omega)
  rw[show ((p++(c::row e)).length:Int)=(p.length:Int)+1+(row e).length by simp;omega] at this
  refine Tl.to this ?_
  rw[cs_cons,es_cons];simp
theorem terms_ev {x:O}(h:size x≤10000000000):Tl (fun k=>spec_l1Terms.f k (row x)) (cs x,es x):=by
 have hl:=rl_ x
 have hz:=ll_ x
 have:=terms_l x [(x.length:Int)] [] [] (by show (((row x).length:Nat):Int)≤_;omega) (by simp;omega) (by simp;omega)
 exact this
theorem make_l:∀ (r:O) (A:List Int) (B:List (List Int)) (acc:List Int),A.length=B.length→(A.length:Int)+r.length≤10000000000→(acc.length:Int)+(flat r).length≤20000000000 →
 Tl (fun k=>spec_l1Make.l0 k (A++cs r) (B++es r) acc (A.length:Int)) (acc++flat r):=by
 intro r
 induction r with
 | nil =>
  intro A B acc h1 h2 h3
  refine Tl.s (fun k=>by rw[spec_l1Make.l0]) ?_
  refine Tl.n (by simp[cs]) ?_
  refine Tl.to (Tl.w _) ?_
  rw[flat_nil,List.append_nil]
 | cons t r ih =>
  intro A B acc h1 h2 h3
  obtain⟨c,e⟩:=t
  rw[flat_cons] at h3
  simp only[List.length_append,List.length_cons] at h2 h3
  rw[cs_cons,es_cons]
  refine Tl.s (fun k=>by rw[spec_l1Make.l0]) ?_
  refine Tl.p (by simp;omega) ?_
  refine Tl.p (by omega) ?_
  refine Tl.p (by omega) ?_
  refine Tl.d ?_
  refine Tl.p (by simp;omega) ?_
  rw[rd_mid A _ c rfl,rdL_mid B _ (row e) (by rw[h1])]
  refine Tl.p (by simp;omega) ?_
  rw[wi_ (by omega) (by omega),snoc A,snoc B]
  have:=ih (A++[c]) (B++[row e]) (acc++[c]++row e) (by simp[h1]) (by simp;omega) (by simp;omega)
  rw[show ((A++[c]).length:Int)=(A.length:Int)+1 by simp] at this
  refine Tl.to this ?_
  rw[flat_cons];simp
theorem make_ev {x:O}(h:size x≤10000000000):Tl (fun k=>spec_l1Make.f k (cs x) (es x)) (row x):=by
 have hl:=flat_length x
 have hz:=ll_ x
 have:=make_l x [] [] [((cs x).length:Int)] rfl (by simp;omega) (by simp;omega)
 refine Tl.to this ?_
 rw[cl_];rfl
theorem specCompare_l:∀ (r:O) (p q s:O),p.length=q.length→size (p++r)≤500000000→size (q++s)≤500000000 →
 Tl (fun k=>spec_l1Compare.l0 k (cs (p++r)) (es (p++r)) (cs (q++s)) (es (q++s)) (p.length:Int)) (cmp r s):=by
 intro r
 induction r using ind with
 | h0 =>
  intro p q s hl h1 h2
  refine Tl.s (fun k=>by rw[spec_l1Compare.l0]) ?_
  refine Tl.n (by rw[cl_];simp) ?_
  refine Tl.s (fun k=>by rw[spec_l1Compare.j1]) ?_
  refine Tl.n (by simp) ?_
  cases s with
  | nil =>
   refine Tl.n (by rw[cl_,cl_];simp;omega) ?_
   refine Tl.n (by rw[cl_,cl_];simp;omega) ?_
   rw[cmp_nn];exact Tl.w _
  | cons t s =>
   refine Tl.p (by rw[cl_,cl_];simp;omega) ?_
   rw[cmp_nc];exact Tl.w _
 | h1 c e r ihe ihr =>
  intro p q s hl h1 h2
  have hp:=ll_ p
  refine Tl.s (fun k=>by rw[spec_l1Compare.l0]) ?_
  refine Tl.p (by rw[cl_];simp;omega) ?_
  refine Tl.s (fun k=>by rw[spec_l1Compare.j1]) ?_
  cases s with
  | nil =>
   refine Tl.n (by rw[cl_];simp;omega) ?_
   refine Tl.n (by rw[cl_,cl_];simp;omega) ?_
   refine Tl.p (by rw[cl_,cl_];simp;omega) ?_
   rw[cmp_cn];exact Tl.w _
  | cons t s =>
   obtain⟨d,f⟩:=t
   have z1:=h1
   have z2:=h2
   rw[sa_,sc_] at z1 z2
   have:=sp_ r
   have:=sp_ s
   have:=sp_ p
   have:=sp_ q
   have:=sp_ e
   have:=sp_ f
   refine Tl.p (by rw[cl_];simp;omega) ?_
   refine Tl.p (by omega) ?_
   refine Tl.p (by rw[el_];simp;omega) ?_
   refine Tl.p (by rw[el_];simp;omega) ?_
   have he:rd_L1 (es (p++⟨c,e⟩::r)) (p.length:Int)=row e:=by rw[es_append,es_cons];exact rdL_mid _ _ _ (by rw[el_])
   have hf:rd_L1 (es (q++⟨d,f⟩::s)) (p.length:Int)=row f:=by rw[es_append,es_cons];exact rdL_mid _ _ _ (by rw[el_,hl])
   have hc:rd (cs (p++⟨c,e⟩::r)) (p.length:Int)=c:=by rw[cs_append,cs_cons];exact rd_mid _ _ _ (by rw[cl_])
   have hd:rd (cs (q++⟨d,f⟩::s)) (p.length:Int)=d:=by rw[cs_append,cs_cons];exact rd_mid _ _ _ (by rw[cl_,hl])
   rw[he,hf,hc,hd]
   have hef:Tl (fun k=>spec_l1Compare.f k (row e) (row f)) (cmp e f):=by
    refine Tl.s (fun k=>by rw[spec_l1Compare.f]) ?_
    refine Tl.b (terms_ev (by omega)) ?_
    refine Tl.b (terms_ev (by omega)) ?_
    exact ihe [] [] f rfl (by show size e≤_;omega) (by show size f≤_;omega)
   refine Tl.b hef ?_
   rw[cmp_cc]
   by_cases z:cmp e f=0
   ·refine Tl.p z ?_
    rw[if_pos z]
    refine Tl.p (by rw[cl_];simp;omega) ?_
    refine Tl.p (by rw[cl_];simp;omega) ?_
    by_cases a:c=d
    ·refine Tl.p a ?_
     rw[if_neg (by omega),if_neg (by omega),wi_ (by omega) (by omega),snoc p,snoc q]
     have:=ihr (p++[⟨c,e⟩]) (q++[⟨d,f⟩]) s (by simp[hl]) (by rw[← snoc];exact h1) (by rw[← snoc];exact h2)
     rw[show ((p++[(⟨c,e⟩:Tm)]).length:Int)=(p.length:Int)+1 by simp] at this
     exact this
    ·refine Tl.n a ?_
     by_cases b:c<d
     ·refine Tl.p b ?_
      rw[if_pos b];exact Tl.w _
     ·refine Tl.n b ?_
      rw[if_neg b,if_pos (by omega)];exact Tl.w _
   ·refine Tl.n z ?_
    rw[if_neg z];exact Tl.w _
theorem specCompare_ev {x y:O}(hx:size x≤500000000)(hy:size y≤500000000):Tl (fun k=>spec_l1Compare.f k (row x) (row y)) (cmp x y):=by
 refine Tl.s (fun k=>by rw[spec_l1Compare.f]) ?_
 refine Tl.b (terms_ev (by omega)) ?_
 refine Tl.b (terms_ev (by omega)) ?_
 exact specCompare_l x [] [] y rfl hx hy
end Go.Proofs.YtbdbldhpglponaaDoor.P
namespace Go.Proofs.YtbdbldhpglponaaDoor.P
open OM Go.RowKit Go.Proofs.YtbdbldhpglponaaDoorW.PrintWords Go.Proofs.YtbdbldhpglponaaDoorW.PrintLast Go.Proofs.YtbdbldhpglponaaDoorW.PrintMore
set_option linter.unusedVariables false
def num (c:Int):O:=if c=0 then [] else [⟨c,[]⟩]
theorem row_num_zero:row (num 0)=[0]:=by unfold num;rw[if_pos rfl,row_nil]
theorem row_num {c:Int}(h:c≠0):row (num c)=[1,c,0]:=by unfold num;rw[if_neg h];unfold row;rw[flat_cons,row_nil,flat_nil];rfl
theorem size_num (c:Int):size (num c)≤3:=by unfold num;split<;>simp only[sc_,sn_]<;>omega
theorem number_eq (c:Int):impl_number.f c=some (num c):=by unfold impl_number.f num;split<;>rfl
def ofv (a:Int):List Int:=if 0≤a∧a≤9999 then row (num a) else []
theorem implOrdOf_ev {a:Int}:Tl (fun k=>impl_OrdOf.f k a) (ofv a):=by
 have bad:¬ (0≤a∧a≤9999)→Tl (fun k=>impl_OrdOf.j0 k a true) (ofv a):=by
  intro h
  refine Tl.s (fun k=>by rw[impl_OrdOf.j0]) ?_
  unfold ofv;rw[if_neg h]
  exact Tl.p rfl (Tl.w _)
 by_cases h1:a<0
 ·exact Tl.p h1 (bad (by omega))
 ·refine Tl.n h1 ?_
  by_cases h2:a>9999
  ·rw[decide_eq_true h2];exact bad (by omega)
  ·rw[decide_eq_false h2]
   refine Tl.s (fun k=>by rw[impl_OrdOf.j0]) ?_
   refine Tl.n (by simp) ?_
   refine Tl.b (Tl.c (number_eq a)) ?_
   have:=size_num a
   unfold ofv;rw[if_pos (by omega)]
   exact Tl.b (rowOf_ev (by omega)) (Tl.w _)
end Go.Proofs.YtbdbldhpglponaaDoor.P
namespace Go.Proofs.YtbdbldhpglponaaDoor.P
open OM Go.RowKit Go.Proofs.YtbdbldhpglponaaDoorW.PrintWords Go.Proofs.YtbdbldhpglponaaDoorW.PrintLast Go.Proofs.YtbdbldhpglponaaDoorW.PrintMore
set_option linter.unusedVariables false
theorem sameInts_l:∀ (a b p q:List Int),p.length=q.length→a.length=b.length→((p++a).length:Int)≤4000000000000000000→Tl (fun k=>laws_sameInts.l0 k (p++a) (q++b) (p.length:Int)) (decide (a=b)):=by
 intro a
 induction a with
 | nil =>
  intro b p q h1 h2 h3
  cases b with
  | cons _ _=>simp at h2
  | nil =>
   refine Tl.s (fun k=>by rw[laws_sameInts.l0]) ?_
   exact Tl.n (by simp) (Tl.w _)
 | cons x a ih =>
  intro b p q h1 h2 h3
  cases b with
  | nil=>simp at h2
  | cons y b =>
   have h3':=h3
   simp only[List.length_append,List.length_cons] at h3'
   refine Tl.s (fun k=>by rw[laws_sameInts.l0]) ?_
   refine Tl.p (by simp;omega) ?_
   refine Tl.p (by omega) ?_
   refine Tl.p (by simp;omega) ?_
   rw[rd_mid p a x rfl,rd_mid q b y (by rw[h1])]
   by_cases h:x=y
   ·refine Tl.p h ?_
    rw[wi_ (by omega) (by omega),snoc p,snoc q]
    have:=ih b (p++[x]) (q++[y]) (by simp[h1]) (by simpa using h2) (by rw[← snoc];exact h3)
    rw[show ((p++[x]).length:Int)=(p.length:Int)+1 by simp] at this
    refine Tl.to this ?_
    simp[h]
   ·refine Tl.n h ?_
    refine Tl.to (Tl.w _) ?_
    simp[h]
theorem sameInts_ev {a b:List Int}(h:(a.length:Int)≤4000000000000000000):Tl (fun k=>laws_sameInts.f k a b) (decide (a=b)):=by
 by_cases hl:(a.length:Int)=(b.length:Int)
 ·exact Tl.p hl (sameInts_l a b [] [] rfl (by omega) (by simpa using h))
 ·refine Tl.n hl ?_
  refine Tl.to (Tl.w _) ?_
  symm
  rw[decide_eq_false_iff_not]
  intro h;rw[h] at hl;exact hl rfl
theorem alive_ev:Tl (fun k=>laws_alive.f k) true:=by
 have h0:ofv 0=[0]:=by unfold ofv;rw[if_pos (by omega),row_num_zero]
 have h7:ofv 7=[1,7,0]:=by unfold ofv;rw[if_pos (by omega),row_num (by omega)]
 refine Tl.b (implOrdOf_ev (a:=0)) ?_
 rw[h0]
 refine Tl.p rfl ?_
 refine Tl.b (implOrdOf_ev (a:=7)) ?_
 rw[h7]
 exact Tl.w _
end Go.Proofs.YtbdbldhpglponaaDoor.P
namespace Go.Proofs.YtbdbldhpglponaaDoor.P
open OM Go.RowKit Go.Proofs.YtbdbldhpglponaaDoorW.PrintWords Go.Proofs.YtbdbldhpglponaaDoorW.PrintLast Go.Proofs.YtbdbldhpglponaaDoorW.PrintMore
set_option linter.unusedVariables false
theorem byte_range {x:Int}(h:(Lit.int .u8 x).wf=true):0≤x∧x≤255:=by
 simp[Lit.wf,IntKind.min,IntKind.max,IntKind.signed,IntKind.bits] at h
 omega
def Bytes (b:List Int):Prop:=(b.length:Int)≤2000∧∀ x ∈ b,0≤x∧x≤255
theorem open_ev {l:List Int}(h:∀ x ∈ l,(Lit.int .u8 x).wf=true):∃ b,Bytes b∧spec_l20Open.f l=some (b,0):=by
 unfold spec_l20Open.f
 by_cases g:(l.length:Int)>2000
 ·refine⟨l.take 2000,⟨by simp;omega,fun x hx=>byte_range (h x (List.mem_of_mem_take hx))⟩,?_⟩
  rw[if_pos g,if_pos (by omega)]
 ·refine⟨l,⟨by omega,fun x hx=>byte_range (h x hx)⟩,?_⟩
  rw[if_neg g]
theorem bytes_rd {b:List Int}(h:Bytes b)(i:Int):0≤rd b i∧rd b i≤255:=by
 show 0≤b.getD i.toNat 0∧b.getD i.toNat 0≤255
 rw[List.getD_eq_getElem?_getD]
 cases hj:b[i.toNat]? with
 | none=>simp
 | some v =>
  obtain⟨hjl,hjp⟩:=List.getElem?_eq_some_iff.1 hj
  have:=h.2 v (by rw[← hjp];exact List.getElem_mem hjl)
  simpa using this
theorem xor_nonneg {x y:Int}(hx:0≤x)(hx':x≤1000000000000000000)(hy:0≤y)(hy':y≤1000000000000000000):0≤Go.bits .xor .i64 x y:=by
 unfold Go.bits
 show 0≤IntKind.i64.wrap ((BitVec.ofInt 64 x ^^^ BitVec.ofInt 64 y).toNat:Int)
 have h1:(BitVec.ofInt 64 x ^^^ BitVec.ofInt 64 y).toNat<2 ^ 63:=by
  rw[BitVec.toNat_xor]
  refine Nat.xor_lt_two_pow ?_ ?_
  ·rw[BitVec.toNat_ofInt];omega
  ·rw[BitVec.toNat_ofInt];omega
 rw[i64_w]
 unfold wrap64
 omega
theorem mix_range {r1 r2 p q:Int}(h1:0≤r1∧r1≤255)(h2:0≤r2∧r2≤255)(h3:0≤p∧p≤1000000000)(h4:0≤q∧q≤1000000000) :
 0≤wrap64 ((wrap64 ((wrap64 ((wrap64 ((wrap64 r1)*131))+(wrap64 ((wrap64 r2)*1117))))+(wrap64 (p*29))))+(wrap64 ((wrap64 q)*53)))∧wrap64 ((wrap64 ((wrap64 ((wrap64 ((wrap64 r1)*131))+(wrap64 ((wrap64 r2)*1117))))+(wrap64 (p*29))))+(wrap64 ((wrap64 q)*53)))≤1000000000000:=by
 rw[wi_ (i:=r1) (by omega) (by omega),wi_ (i:=r2) (by omega) (by omega),wi_ (i:=q) (by omega) (by omega),wi_ (i:=r1*131) (by omega) (by omega),wi_ (i:=r2*1117) (by omega) (by omega),wi_ (i:=p*29) (by omega) (by omega),wi_ (i:=q*53) (by omega) (by omega),wi_ (i:=r1*131+r2*1117) (by omega) (by omega),wi_ (i:=r1*131+r2*1117+p*29) (by omega) (by omega),wi_ (i:=r1*131+r2*1117+p*29+q*53) (by omega) (by omega)]
 omega
theorem shift_ok {x:Int}(h:0≤x∧x≤1000000000000):0≤Go.bits .xor .i64 x (wrap64 (Int.tdiv x 64)):=by
 have h1:Int.tdiv x 64=x / 64:=Int.tdiv_eq_ediv_of_nonneg h.1
 rw[h1]
 refine xor_nonneg h.1 (by omega) ?_ ?_<;>(unfold wrap64;omega)
theorem tmod_range {x a:Int}(hx:0≤x)(ha:1≤a):0≤Int.tmod x a∧Int.tmod x a<a:=by
 rw[Int.tmod_eq_emod_of_nonneg hx]
 exact⟨Int.emod_nonneg _ (by omega),Int.emod_lt_of_pos _ (by omega)⟩
theorem tdiv_range {x a:Int}(hx:0≤x)(ha:1≤a):0≤Int.tdiv x a∧Int.tdiv x a≤x:=by
 rw[Int.tdiv_eq_ediv_of_nonneg hx]
 exact⟨Int.ediv_nonneg hx (by omega),Int.ediv_le_self _ hx⟩
theorem pick_ev {b:List Int}(hb:Bytes b){p a:Int}(hp:0≤p)(hp':p≤1000000000):∃ v,0≤v∧(1≤a→v<a)∧Tl (fun k=>spec_l20Rd_pick.f k b p a) (v,p+1):=by
 have hw:wrap64 (p+1)=p+1:=wi_ (by omega) (by omega)
 have hw':wrap64 (p+1-1)=p:=by rw[wi_ (by omega) (by omega)];omega
 have hl:=hb.1
 by_cases h1:a<1
 ·refine⟨0,by omega,by omega,?_⟩
  refine Tl.p h1 ?_
  refine Tl.s (fun k=>by rw[spec_l20Rd_pick.j0]) ?_
  rw[hw]
  exact Tl.p rfl (Tl.w _)
 ·by_cases h2:b=[]
  ·refine⟨0,by omega,by omega,?_⟩
   refine Tl.n h1 ?_
   subst h2
   refine Tl.s (fun k=>by rw[spec_l20Rd_pick.j0]) ?_
   rw[hw]
   exact Tl.p rfl (Tl.w _)
  ·have hlen:1≤(b.length:Int):=by have:=List.length_pos_iff.2 h2;omega
   have hflag:((b.length:Int) == 0)=false:=by simp;exact h2
   have start:∀ v,Tl (fun k=>spec_l20Rd_pick.j0 k a false b (p+1)) (v,p+1)→Tl (fun k=>spec_l20Rd_pick.f k b p a) (v,p+1):=by
    intro v h
    refine Tl.n h1 ?_
    rw[hflag,hw];exact h
   by_cases h3:p<(b.length:Int)
   ·have hr:=bytes_rd hb p
    have hwr:wrap64 (rd b p)=rd b p:=wi_ (by omega) (by omega)
    have ht:=tmod_range (x:=rd b p) (a:=a) hr.1 (by omega)
    refine⟨Int.tmod (rd b p) a,ht.1,fun _=>ht.2,start _ ?_⟩
    refine Tl.s (fun k=>by rw[spec_l20Rd_pick.j0]) ?_
    refine Tl.n (by simp) ?_
    rw[hw',hwr]
    refine Tl.p h3 ?_
    refine Tl.p hp ?_
    refine Tl.n (by omega) ?_
    exact Tl.w _
   ·have i1:=tmod_range (x:=p) (a:=(b.length:Int)) hp hlen
    have e2:wrap64 (wrap64 (p*7)+3)=p*7+3:=by rw[wi_ (i:=p*7) (by omega) (by omega),wi_ (by omega) (by omega)]
    have i2:=tmod_range (x:=p*7+3) (a:=(b.length:Int)) (by omega) hlen
    have q1:=tdiv_range (x:=p) (a:=(b.length:Int)) hp hlen
    have hx:=shift_ok (mix_range (bytes_rd hb (Int.tmod p (b.length:Int))) (bytes_rd hb (Int.tmod (p*7+3) (b.length:Int))) ⟨hp,hp'⟩ ⟨q1.1,by omega⟩)
    have ht:=tmod_range (a:=a) hx (by omega)
    refine⟨_,ht.1,fun _=>ht.2,start _ ?_⟩
    refine Tl.s (fun k=>by rw[spec_l20Rd_pick.j0]) ?_
    refine Tl.n (by simp) ?_
    rw[hw',e2]
    refine Tl.n h3 ?_
    refine Tl.n (by omega) ?_
    refine Tl.p i1.1 ?_
    refine Tl.p i1.2 ?_
    refine Tl.p i2.1 ?_
    refine Tl.p i2.2 ?_
    refine Tl.n (by omega) ?_
    exact Tl.w _
end Go.Proofs.YtbdbldhpglponaaDoor.P
namespace Go.Proofs.YtbdbldhpglponaaDoor.P
open OM Go.RowKit Go.Proofs.YtbdbldhpglponaaDoorW.PrintWords Go.Proofs.YtbdbldhpglponaaDoorW.PrintLast Go.Proofs.YtbdbldhpglponaaDoorW.PrintMore
set_option linter.unusedVariables false
def endv (tot:Int):Option (O × List Int)→Int
 | none=>-1
 | some (_,l')=>tot-l'.length
theorem endv_none (t:Int):endv t none=-1:=rfl
theorem endv_some (t:Int)(x:O)(l:List Int):endv t (some (x,l))=t-l.length:=rfl
theorem rd_p (p l:List Int)(m:Int):rd (p++m::l) (p.length:Int)=m:=rd_mid p l m rfl
theorem end_l {n:Nat}(ih:∀ p l:List Int,l.length<n→(((p++l).length:Nat):Int)≤100000000→Tl (fun k=>spec_l1End.f k (p++l) (p.length:Int)) (endv ((p++l).length:Int) (take n l))) :
 ∀ (c:Nat) (p l last:List Int) (lo:Option O) (m i:Int),l.length≤n→(((p++l).length:Nat):Int)≤100000000→m=i+c→0≤i→m≤60 →
  (i=0→lo=none)→(0<i→∃ f,lo=some f∧last=row f∧size f≤100000000) →
  Tl (fun k=>spec_l1End.l0 k (p++l) (p.length:Int) m last i) (endv ((p++l).length:Int) (terms (take n) c lo l)):=by
 intro c
 induction c with
 | zero =>
  intro p l last lo m i h1 h2 h3 h4 h5 h6 h7
  refine Tl.s (fun k=>by rw[spec_l1End.l0]) ?_
  refine Tl.n (by omega) ?_
  refine Tl.to (Tl.w _) ?_
  unfold terms;rw[endv_some];simp<;>omega
 | succ c ihc =>
  intro p l last lo m i h1 h2 h3 h4 h5 h6 h7
  have h2':=h2
  simp only[List.length_append] at h2'
  refine Tl.s (fun k=>by rw[spec_l1End.l0]) ?_
  refine Tl.p (by omega) ?_
  have bad:Tl (fun k=>spec_l1End.j2 k (p++l) (p.length:Int) m last i true) (-1):=by
   refine Tl.s (fun k=>by rw[spec_l1End.j2]) ?_
   exact Tl.p rfl (Tl.w _)
  cases l with
  | nil =>
   refine Tl.p (by simp) ?_
   refine Tl.to bad ?_
   unfold terms;rfl
  | cons t l =>
   simp only[List.length_cons] at h1 h2'
   refine Tl.n (by simp;omega) ?_
   refine Tl.p (by omega) ?_
   refine Tl.p (by simp;omega) ?_
   rw[rd_p]
   refine Tl.b (Tl.c (l1In_eq t 1 9999)) ?_
   rw[terms]
   by_cases ht:1≤t∧t≤9999
   ·rw[if_pos ht,decide_eq_true ht]
    refine Tl.s (fun k=>by rw[spec_l1End.j2]) ?_
    refine Tl.n (by simp) ?_
    rw[wi_ (i:=(p.length:Int)+1) (by omega) (by omega)]
    have hf:=ih (p++[t]) l (by omega) (by simp;omega)
    rw[← snoc p l t,show ((p++[t]).length:Int)=(p.length:Int)+1 by simp] at hf
    refine Tl.b hf ?_
    cases hk:take n l with
    | none =>
     rw[endv_none]
     exact Tl.p (by omega) (Tl.w _)
    | some q =>
     obtain⟨e,l1⟩:=q
     rw[endv_some]
     simp only
     obtain⟨a1,a2,a3⟩:=take_good _ _ _ _ hk
     have hlen:=take_len hk
     have hre:=rl_ e
     have hl:(l.length:Int)=(row e).length+l1.length:=by rw[a1];simp
     have hend:(((p++t::l).length:Nat):Int)-l1.length=(p.length:Int)+1+(row e).length:=by simp;omega
     rw[hend]
     refine Tl.n (by omega) ?_
     have hcut:(((p++t::l).take ((p.length:Int)+1+((row e).length:Int)).toNat).drop ((p.length:Int)+1).toNat)=row e:=by
      rw[show ((p.length:Int)+1+((row e).length:Int)).toNat=(p++[t]).length+(row e).length by simp;omega,show ((p.length:Int)+1).toNat=(p++[t]).length by simp<;>omega,a1,show p++t::(row e++l1)=(p++[t])++(row e++l1) by simp,List.take_length_add_append,List.take_left,List.drop_left]
     have go:Tl (fun k=>spec_l1End.l0 k (p++t::l) ((p.length:Int)+1+(row e).length) m (row e) (wrap64 (i+1)))
      (endv (((p++t::l).length:Nat):Int) (match terms (take n) c (some e) l1 with | none=>none | some (r,l'')=>some ((⟨t,e⟩:Tm)::r,l''))):=by
      rw[wi_ (by omega) (by omega)]
      have:=ihc (p++(t::row e)) l1 (row e) (some e) m (i+1) (by omega) (by rw[a1] at h2;simp at h2 ⊢;omega) (by omega) (by omega) h5 (fun h=>by omega) (fun _=>⟨e,rfl,rfl,by omega⟩)
      rw[show (p++(t::row e))++l1=p++t::l by rw[a1];simp,show ((p++(t::row e)).length:Int)=(p.length:Int)+1+(row e).length by simp;omega] at this
      refine Tl.to this ?_
      cases terms (take n) c (some e) l1 with
      | none=>rfl
      | some q=>obtain⟨r,l2⟩:=q;rfl
     by_cases hi:i>0
     ·obtain⟨f,hlo,hlast,hsf⟩:=h7 hi
      subst hlo;subst hlast
      refine Tl.p hi ?_
      refine Tl.p (by omega) ?_
      refine Tl.p (by omega) ?_
      refine Tl.p (by simp;omega) ?_
      rw[hcut]
      refine Tl.b (specCompare_ev (by omega) (by omega)) ?_
      by_cases hc:cmp e f≥0
      ·refine Tl.p hc ?_
       have:late (some f) e=true:=by unfold late;simp only[decide_eq_true_eq];exact hc
       rw[if_pos this]
       exact Tl.w _
      ·refine Tl.n hc ?_
       have:¬ late (some f) e=true:=by unfold late;simp only[decide_eq_true_eq];exact hc
       rw[if_neg this]
       exact go
     ·have hlo:=h6 (by omega)
      subst hlo
      refine Tl.n hi ?_
      refine Tl.p (by omega) ?_
      refine Tl.p (by omega) ?_
      refine Tl.p (by simp;omega) ?_
      rw[hcut]
      have:¬ late none e=true:=by unfold late;simp
      rw[if_neg this]
      exact go
   ·rw[if_neg ht,decide_eq_false ht]
    exact bad
theorem end_ev:∀ (n:Nat) (p l:List Int),l.length<n→(((p++l).length:Nat):Int)≤100000000→Tl (fun k=>spec_l1End.f k (p++l) (p.length:Int)) (endv ((p++l).length:Int) (take n l)):=by
 intro n
 induction n with
 | zero=>intro p l h;omega
 | succ n ih =>
  intro p l h h2
  have h2':=h2
  simp only[List.length_append] at h2'
  have bad:Tl (fun k=>spec_l1End.j0 k (p++l) (p.length:Int) true) (-1):=by
   refine Tl.s (fun k=>by rw[spec_l1End.j0]) ?_
   exact Tl.p rfl (Tl.w _)
  refine Tl.s (fun k=>by rw[spec_l1End.f]) ?_
  cases l with
  | nil =>
   refine Tl.p (by simp) ?_
   refine Tl.to bad ?_
   unfold take;rfl
  | cons m l =>
   simp only[List.length_cons] at h h2'
   refine Tl.n (by simp;omega) ?_
   refine Tl.p (by omega) ?_
   refine Tl.p (by simp;omega) ?_
   rw[rd_p]
   refine Tl.b (Tl.c (l1In_eq m 0 60)) ?_
   rw[take]
   by_cases hm:0≤m∧m≤60
   ·rw[if_pos hm,decide_eq_true hm]
    refine Tl.s (fun k=>by rw[spec_l1End.j0]) ?_
    refine Tl.n (by simp) ?_
    refine Tl.p (by omega) ?_
    refine Tl.p (by simp;omega) ?_
    rw[rd_p,wi_ (by omega) (by omega)]
    have:=end_l ih m.toNat (p++[m]) l [] none m 0 (by omega) (by simp;omega) (by omega) (by omega) (by omega) (fun _=>rfl) (fun h=>by omega)
    rw[← snoc p l m,show ((p++[m]).length:Int)=(p.length:Int)+1 by simp] at this
    exact this
   ·rw[if_neg hm,decide_eq_false hm]
    exact bad
theorem ordValid_ev {l:List Int}(h:(l.length:Int)≤100000000):Tl (fun k=>spec_OrdValid.f k l) (ordOf l).isSome:=by
 refine Tl.b (Tl.c (l1In_eq _ 1 60)) ?_
 unfold ordOf
 by_cases hl:1≤l.length∧l.length≤60
 ·rw[if_pos hl]
  refine Tl.p (decide_eq_true (by omega)) ?_
  refine Tl.b (end_ev 61 [] l (by omega) (by simpa using h)) ?_
  refine Tl.to (Tl.w _) ?_
  simp only[List.nil_append]
  cases take 61 l with
  | none=>rw[endv_none];simp<;>omega
  | some q =>
   obtain⟨x,l'⟩:=q
   rw[endv_some]
   cases l' with
   | nil=>simp
   | cons a l'=>simp;omega
 ·rw[if_neg hl]
  refine Tl.n (by simp;omega) ?_
  exact Tl.w _
theorem row_inj':∀ (x y:O) (a b:List Int),row x++a=row y++b→x=y∧a=b:=by
 have fl:∀ (x y:O) (a b:List Int),x.length=y.length→flat x++a=flat y++b→x=y∧a=b:=by
  intro x
  induction x using ind with
  | h0 =>
   intro y a b h1 h2
   cases y with
   | nil=>exact⟨rfl,by simpa [flat_nil] using h2⟩
   | cons _ _=>simp at h1
  | h1 c e r ihe ihr =>
   intro y a b h1 h2
   cases y with
   | nil=>simp at h1
   | cons t s =>
    obtain⟨d,f⟩:=t
    rw[flat_cons,flat_cons] at h2
    unfold row at h2
    simp only[List.cons_append,List.append_assoc,List.cons.injEq] at h2
    obtain⟨h3,h4,h5⟩:=h2
    obtain⟨h6,h7⟩:=ihe f _ _ (by omega) h5
    obtain⟨h8,h9⟩:=ihr s _ _ (by simpa using h1) h7
    subst h3;subst h6;subst h8
    exact⟨rfl,h9⟩
 intro x y a b h
 unfold row at h
 simp only[List.cons_append,List.cons.injEq] at h
 exact fl x y a b (by omega) h.2
end Go.Proofs.YtbdbldhpglponaaDoor.P
namespace Go.Proofs.YtbdbldhpglponaaDoor.P
open OM Go.RowKit Go.Proofs.YtbdbldhpglponaaDoorW.PrintWords Go.Proofs.YtbdbldhpglponaaDoorW.PrintLast Go.Proofs.YtbdbldhpglponaaDoorW.PrintMore
set_option linter.unusedVariables false
theorem ordv_some {l:List Int}{x:O}(h:ordOf l=some x):ordv l=(x,true):=by unfold ordv;rw[h]
theorem ordv_none {l:List Int}(h:ordOf l=none):(ordv l).2=false:=by unfold ordv;rw[h]
theorem valid_ev {l:List Int}{x:O}(h:ordOf l=some x):Tl (fun k=>spec_OrdValid.f k l) true:=by
 have h1:=os_ h
 have h2:=rl_ x
 have:=@ordValid_ev l (by rw[h1.1,h2];have:=h1.2.2.2;omega)
 rw[h] at this;exact this
theorem invalid_ev {l:List Int}(hl:(l.length:Int)≤100000000)(h:ordOf l=none):Tl (fun k=>spec_OrdValid.f k l) false:=by
 have:=@ordValid_ev l hl
 rw[h] at this;exact this
theorem ord_ev {l:List Int}{x:O}(h:ordOf l=some x):Tl (fun k=>impl_ordOf.f k l) (x,true):=by
 have:=@ordOf_ev l
 rw[ordv_some h] at this;exact this
theorem es_zero (c:Int)(e r:O):rd_L1 (es (⟨c,e⟩::r)) 0=row e:=rfl
theorem row_one {x:O}:((row x).length:Int)=1 ↔ x=[]:=by
 rw[rl_]
 cases x with
 | nil=>rw[sn_];simp
 | cons t r =>
  obtain⟨c,e⟩:=t
  rw[sc_]
  have:=sp_ e
  have:=sp_ r
  constructor
  ·intro h;omega
  ·intro h;cases h
end Go.Proofs.YtbdbldhpglponaaDoor.P
namespace Go.Proofs.YtbdbldhpglponaaDoor.P
open OM Go.RowKit Go.Proofs.YtbdbldhpglponaaDoorW.PrintWords Go.Proofs.YtbdbldhpglponaaDoorW.PrintLast Go.Proofs.YtbdbldhpglponaaDoorW.PrintMore
set_option linter.unusedVariables false
theorem ofv_row {v:Int}(h0:0≤v)(h:v<4):spec_OrdOf.f v=some (row (if v=0 then [] else [⟨v,[]⟩])):=by
 unfold spec_OrdOf.f
 rw[l1In_eq]
 show (if decide (0≤v∧v≤9999)=true then _ else _)=_
 rw[if_pos (by simp;omega)]
 by_cases z:v=0
 ·rw[if_pos z,if_pos z,row_nil]
 ·rw[if_neg z,if_neg z];unfold row;rw[flat_cons,row_nil,flat_nil];rfl
def G:Nat→Int
 | 0=>3
 | d+1=>3*G d+20
def M (g:Int):Nat→Int
 | 0=>0
 | m+1=>M g m+(g+6)
theorem M_three {g:Int}(h:0≤g):∀ m:Nat,m≤3→0≤M g m∧M g m≤3*g+18:=by
 intro m hm
 match m,hm with
 | 0,_=>simp only[M];omega
 | 1,_=>simp only[M];omega
 | 2,_=>simp only[M];omega
 | 3,_=>simp only[M];omega
def ExR (z:Int)(p N:Int)(g:Nat→Option (List Int × Int)):Prop:=∃ x p',size x≤z∧p≤p'∧p'≤p+N∧Tl g (row x,p')
theorem ExR.step {z p N:Int}{g f:Nat→Option (List Int × Int)}(h:∀ k,g (k+1)=f k)(e:ExR z p N f):ExR z p N g:=by
 obtain⟨x,p',h1,h2,h3,h4⟩:=e
 exact⟨x,p',h1,h2,h3,Tl.s h h4⟩
theorem ExR.bind {α:Type}{a:α}{z p N:Int}{g:Nat→Option α}{f:Nat→α→Option (List Int × Int)}(h:Tl g a)(e:ExR z p N (fun k=>f k a)):ExR z p N (fun k=>(g k).bind (f k)):=by
 obtain⟨x,p',h1,h2,h3,h4⟩:=e
 exact⟨x,p',h1,h2,h3,Tl.b h h4⟩
theorem ExR.sbind {α:Type}{a:α}{z p N:Int}{f:Nat→α→Option (List Int × Int)}(e:ExR z p N (fun k=>f k a)):ExR z p N (fun k=>(some a).bind (f k)):=e
theorem ExR.pos {z p N:Int}{c:Prop}[Decidable c]{f g:Nat→Option (List Int × Int)}(h:c)(e:ExR z p N f):ExR z p N (fun k=>if c then f k else g k):=by
 obtain⟨x,p',h1,h2,h3,h4⟩:=e
 exact⟨x,p',h1,h2,h3,Tl.p h h4⟩
theorem ExR.neg {z p N:Int}{c:Prop}[Decidable c]{f g:Nat→Option (List Int × Int)}(h:¬ c)(e:ExR z p N g):ExR z p N (fun k=>if c then f k else g k):=by
 obtain⟨x,p',h1,h2,h3,h4⟩:=e
 exact⟨x,p',h1,h2,h3,Tl.n h h4⟩
theorem ExR.wide {z p N z' p0 N':Int}{g:Nat→Option (List Int × Int)}(e:ExR z p N g)(hz:z≤z')(hp:p0≤p)(hN:p+N≤p0+N'):ExR z' p0 N' g:=by
 obtain⟨x,p',h1,h2,h3,h4⟩:=e
 exact⟨x,p',by omega,by omega,by omega,h4⟩
theorem find_l {b:List Int}{a m pos z N:Int}{x e:O}(hx:size x≤100000)(he:size e≤100000)
 (H1:∀ p q:O,x=p++q→ExR z pos N (fun k=>spec_l20Raw.j4 k a (cs x) (es x) m (row e) (p.length:Int) false b pos))
 (H2:∀ (p:O) (t:Tm) (q:O),x=p++t::q→ExR z pos N (fun k=>spec_l20Raw.j4 k a (cs x) (es x) m (row e) (p.length:Int) true b pos)) :
 ∀ q p:O,x=p++q→ExR z pos N (fun k=>spec_l20Raw.l1 k a (cs x) (es x) m (row e) (p.length:Int) b pos):=by
 intro q
 induction q with
 | nil =>
  intro p hpq
  have hl:(p.length:Int)=(x.length:Int):=by rw[hpq];simp
  refine ExR.step (fun k=>by rw[spec_l20Raw.l1]) ?_
  refine ExR.neg (by rw[el_];omega) ?_
  refine ExR.step (fun k=>by rw[spec_l20Raw.j3]) ?_
  refine ExR.neg (by rw[el_];omega) ?_
  exact H1 p [] hpq
 | cons t q ih =>
  intro p hpq
  obtain⟨c,f⟩:=t
  have hlen:=ll_ x
  have hl:(x.length:Int)=(p.length:Int)+(q.length:Int)+1:=by rw[hpq];simp;omega
  have hzf:size f≤size x:=by
   have h1:=sp_ p
   have h2:=sp_ q
   rw[hpq,sa_,sc_];omega
  have hrd:rd_L1 (es x) (p.length:Int)=row f:=by rw[hpq,es_append,es_cons];exact rdL_mid _ _ _ (by rw[el_])
  refine ExR.step (fun k=>by rw[spec_l20Raw.l1]) ?_
  refine ExR.pos (by rw[el_];omega) ?_
  refine ExR.pos (by omega) ?_
  rw[hrd]
  refine ExR.bind (specCompare_ev (by omega) (by omega)) ?_
  by_cases hc:cmp f e>0
  ·refine ExR.pos hc ?_
   rw[wi_ (by omega) (by omega)]
   have:=ih (p++[⟨c,f⟩]) (by rw[hpq];simp)
   rw[show ((p++[(⟨c,f⟩:Tm)]).length:Int)=(p.length:Int)+1 by simp] at this
   exact this
  ·refine ExR.neg hc ?_
   refine ExR.step (fun k=>by rw[spec_l20Raw.j3]) ?_
   refine ExR.pos (by rw[el_];omega) ?_
   refine ExR.pos (by omega) ?_
   rw[hrd]
   refine ExR.bind (specCompare_ev (by omega) (by omega)) ?_
   by_cases h0:cmp f e=0
   ·rw[show (cmp f e == 0)=true from beq_iff_eq.mpr h0]
    exact H2 p ⟨c,f⟩ q hpq
   ·rw[show (cmp f e == 0)=false from beq_eq_false_iff_ne.mpr h0]
    exact H1 p _ hpq
theorem cs_take {p q:O}:(cs (p++q)).take (p.length:Int).toNat=cs p:=by rw[cs_append,Int.toNat_natCast,← cl_ p,List.take_left]
theorem cs_drop {p q:O}:(cs (p++q)).drop (p.length:Int).toNat=cs q:=by rw[cs_append,Int.toNat_natCast,← cl_ p,List.drop_left]
theorem es_take {p q:O}:(es (p++q)).take (p.length:Int).toNat=es p:=by rw[es_append,Int.toNat_natCast,← el_ p,List.take_left]
theorem es_drop {p q:O}:(es (p++q)).drop (p.length:Int).toNat=es q:=by rw[es_append,Int.toNat_natCast,← el_ p,List.drop_left]
theorem raw_l {b:List Int}(hb:Bytes b){P:Int}(hP:P≤2000000){d:Nat}(hg:3≤G d)(hg':G d≤10000){a:Int}(ha:1≤a)
 (ih:∀ (a' p:Int),0≤a'→a'<a→0≤p→p≤P→ExR (G d) p (G d) (fun k=>spec_l20Raw.f k b p a')) :
 ∀ (m:Nat) (x:O) (p:Int),m≤3→size x≤50000→0≤p→p+M (G d) m≤P→size x+M (G d) m≤50000 →
  ExR (size x+M (G d) m) p (M (G d) m) (fun k=>spec_l20Raw.l0 k a (cs x) (es x) (m:Int) b p):=by
 intro m
 induction m with
 | zero =>
  intro x p h0 h1 h2 h3 h4
  refine ExR.step (fun k=>by rw[spec_l20Raw.l0]) ?_
  refine ExR.neg (by omega) ?_
  refine ExR.bind (make_ev (by omega)) ?_
  exact⟨x,p,by simp only[M];omega,by omega,by simp only[M];omega,Tl.w _⟩
 | succ m ihm =>
  intro x p h0 h1 h2 h3 h4
  simp only[M] at h3 h4 ⊢
  have hM:=M_three (g:=G d) (by omega) m (by omega)
  have hlx:=ll_ x
  refine ExR.step (fun k=>by rw[spec_l20Raw.l0]) ?_
  refine ExR.pos (by omega) ?_
  obtain⟨v0,_,_,t0⟩:=pick_ev hb (a:=4) h2 (by omega)
  refine ExR.bind t0 ?_
  have hm1:wrap64 ((((m+1:Nat):Nat):Int)-1)=(m:Int):=by rw[wi_ (by omega) (by omega)];simp
  have go:∀ (e:O) (p1:Int),size e≤G d→p≤p1→p1≤p+(G d+2)→ExR (size x+(M (G d) m+(G d+6))) p (M (G d) m+(G d+6)) (fun k=>spec_l20Raw.j1 k a (cs x) (es x) (((m+1:Nat):Nat):Int) (row e) b p1):=by
   intro e p1 he hp1 hp1'
   refine ExR.step (fun k=>by rw[spec_l20Raw.j1]) ?_
   have hp0:=sp_ e
   have fl:=find_l (b:=b) (a:=a) (m:=(((m+1:Nat):Nat):Int)) (pos:=p1) (z:=size x+(M (G d) m+(G d+6))) (N:=M (G d) m+4) (x:=x) (e:=e) (by omega) (by omega) ?_ ?_ x [] rfl
   ·exact fl.wide (by omega) hp1 (by omega)
   ·intro q r hq
    refine ExR.step (fun k=>by rw[spec_l20Raw.j4]) ?_
    refine ExR.neg (by simp) ?_
    refine ExR.sbind ?_
    refine ExR.pos (by omega) ?_
    have hql:(x.length:Int)=(q.length:Int)+(r.length:Int):=by rw[hq];simp
    refine ExR.pos (by rw[cl_];omega) ?_
    refine ExR.sbind ?_
    have c1:(cs x).take (q.length:Int).toNat=cs q:=by rw[hq];exact cs_take
    have c2:(cs x).drop (q.length:Int).toNat=cs r:=by rw[hq];exact cs_drop
    have e1:(es x).take (q.length:Int).toNat=es q:=by rw[hq];exact es_take
    have e2:(es x).drop (q.length:Int).toNat=es r:=by rw[hq];exact es_drop
    have n1:=cl_ q
    have n2:=cl_ r
    have n3:=el_ q
    have n4:=el_ r
    rw[c1,c2,e1,e2]
    refine ExR.pos (by simp only[List.length_nil];omega) ?_
    refine ExR.sbind ?_
    obtain⟨v1,_,_,t1⟩:=pick_ev hb (p:=p1) (a:=3) (by omega) (by omega)
    refine ExR.bind t1 ?_
    obtain⟨v2,_,_,t2⟩:=pick_ev hb (p:=p1+1) (a:=60) (by omega) (by omega)
    refine ExR.bind t2 ?_
    refine ExR.sbind ?_
    refine ExR.pos (by simp only[List.length_nil,List.length_append,List.length_cons];omega) ?_
    refine ExR.sbind ?_
    refine ExR.sbind ?_
    refine ExR.pos (by simp only[List.length_nil,List.length_append,List.length_cons];omega) ?_
    refine ExR.sbind ?_
    refine ExR.pos (by rw[el_];omega) ?_
    refine ExR.sbind ?_
    refine ExR.pos (by simp only[List.length_nil];omega) ?_
    refine ExR.sbind ?_
    refine ExR.sbind ?_
    refine ExR.pos (by simp only[List.length_nil,List.length_append,List.length_cons];omega) ?_
    refine ExR.sbind ?_
    refine ExR.sbind ?_
    refine ExR.pos (by simp only[List.length_nil,List.length_append,List.length_cons];omega) ?_
    rw[hm1]
    generalize hw:wrap64 (wrap64 (1+v1)+wrap64 (wrap64 (Int.tdiv v2 59)*60))=w
    have hy:size (q++⟨w,e⟩::r)=size x+1+size e:=by rw[hq,sa_,sa_,sc_];omega
    have:=ihm (q++⟨w,e⟩::r) (p1+1+1) (by omega) (by omega) (by omega) (by omega) (by omega)
    rw[show cs (q++(⟨w,e⟩:Tm)::r)=[]++cs q++[w]++cs r by rw[cs_append,cs_cons];simp,show es (q++(⟨w,e⟩:Tm)::r)=[]++es q++[row e]++es r by rw[es_append,es_cons];simp] at this
    exact this.wide (by omega) (by omega) (by omega)
   ·intro q t r hq
    obtain⟨c,f⟩:=t
    refine ExR.step (fun k=>by rw[spec_l20Raw.j4]) ?_
    refine ExR.pos rfl ?_
    refine ExR.pos (by omega) ?_
    have hql:(x.length:Int)=(q.length:Int)+(r.length:Int)+1:=by rw[hq];simp;omega
    refine ExR.pos (by rw[cl_];omega) ?_
    rw[hm1]
    generalize hw:wrap64 (rd (cs x) (q.length:Int)+1)=w
    have hy:size (q++⟨w,f⟩::r)=size x:=by rw[hq,sa_,sa_,sc_,sc_]
    have:=ihm (q++⟨w,f⟩::r) p1 (by omega) (by omega) (by omega) (by omega) (by omega)
    rw[show cs (q++(⟨w,f⟩:Tm)::r)=(cs x).set (q.length:Int).toNat w by rw[hq,Int.toNat_natCast,← cl_ q,cs_append,cs_append,List.set_append_right _ _ (Nat.le_refl _)];simp[cs],show es (q++(⟨w,f⟩:Tm)::r)=es x by rw[hq,es_append,es_append];rfl] at this
    exact this.wide (by omega) (by omega) (by omega)
  by_cases h5:v0>0
  ·refine ExR.pos h5 ?_
   obtain⟨v1,g1,g2,t1⟩:=pick_ev hb (p:=p+1) (a:=a) (by omega) (by omega)
   refine ExR.bind t1 ?_
   obtain⟨e,p1,q1,q2,q3,q4⟩:=ih v1 (p+1+1) g1 (g2 ha) (by omega) (by omega)
   refine ExR.bind q4 ?_
   exact go e p1 q1 (by omega) (by omega)
  ·refine ExR.neg h5 ?_
   have:=go [] (p+1) (by rw[sn_];omega) (by omega) (by omega)
   rw[row_nil] at this
   exact this
theorem raw_ev {b:List Int}(hb:Bytes b):∀ (d:Nat),d≤3→∀ (a p:Int),0≤a→a≤d→0≤p→p+100000*d≤1000000→3≤G d∧G d≤1000∧ExR (G d) p (G d) (fun k=>spec_l20Raw.f k b p a):=by
 intro d
 induction d with
 | zero =>
  intro _ a p h1 h2 h3 h4
  refine⟨by simp only[G];omega,by simp only[G];omega,?_⟩
  have:a=0:=by omega
  subst this
  refine ExR.step (fun k=>by rw[spec_l20Raw.f]) ?_
  refine ExR.pos rfl ?_
  obtain⟨v,g1,g2,t⟩:=pick_ev hb (p:=p) (a:=4) h3 (by omega)
  refine ExR.bind t ?_
  refine ExR.bind (Tl.c (ofv_row g1 (g2 (by omega)))) ?_
  refine⟨_,p+1,?_,by omega,by simp only[G];omega,Tl.w _⟩
  simp only[G]
  split<;>simp only[sc_,sn_]<;>omega
 | succ d ih =>
  intro hd a p h1 h2 h3 h4
  have hG:3≤G d∧G d≤200:=by
   match d,hd with
   | 0,_=>simp only[G];omega
   | 1,_=>simp only[G];omega
   | 2,_=>simp only[G];omega
  refine⟨by simp only[G];omega,by simp only[G];omega,?_⟩
  by_cases h0:a=0
  ·subst h0
   refine ExR.step (fun k=>by rw[spec_l20Raw.f]) ?_
   refine ExR.pos rfl ?_
   obtain⟨v,g1,g2,t⟩:=pick_ev hb (p:=p) (a:=4) h3 (by omega)
   refine ExR.bind t ?_
   refine ExR.bind (Tl.c (ofv_row g1 (g2 (by omega)))) ?_
   refine⟨_,p+1,?_,by omega,by simp only[G];omega,Tl.w _⟩
   simp only[G]
   split<;>simp only[sc_,sn_]<;>omega
  ·refine ExR.step (fun k=>by rw[spec_l20Raw.f]) ?_
   refine ExR.neg h0 ?_
   obtain⟨v,g1,g2,t⟩:=pick_ev hb (p:=p) (a:=4) h3 (by omega)
   refine ExR.bind t ?_
   have hv:=g2 (by omega)
   have hM:=M_three (g:=G d) (by omega) v.toNat (by omega)
   have:=raw_l hb (P:=1000000-100000*(d:Int)) (by omega) (d:=d) hG.1 (by omega) (a:=a) (by omega) (fun a' p' k1 k2 k3 k4=>?_) v.toNat [] (p+1) (by omega) (by rw[sn_];omega) (by omega) (by omega) (by rw[sn_];omega)
   ·rw[Int.toNat_of_nonneg g1,sn_] at this
    exact this.wide (by simp only[G];omega) (by omega) (by simp only[G];omega)
   ·exact(ih (by omega) a' p' k1 (by omega) k3 (by omega)).2.2
end Go.Proofs.YtbdbldhpglponaaDoor.P
namespace Go.Proofs.YtbdbldhpglponaaDoor.P
open OM Go.RowKit Go.Proofs.YtbdbldhpglponaaDoorW.PrintWords Go.Proofs.YtbdbldhpglponaaDoorW.PrintLast Go.Proofs.YtbdbldhpglponaaDoorW.PrintMore
set_option linter.unusedVariables false
theorem odd_ev {b:List Int}(hb:Bytes b){p a:Int}(hp:0≤p)(hp':p≤1000000000):∃ v p',p≤p'∧p'≤p+1∧Tl (fun k=>spec_l20Rd_odd.f k b p a) (v,p'):=by
 by_cases h:a>0
 ·obtain⟨v,_,_,t⟩:=pick_ev hb (a:=a) hp hp'
  exact⟨_,_,by omega,by omega,Tl.p h (Tl.b t (Tl.w _))⟩
 ·exact⟨_,_,by omega,by omega,Tl.n h (Tl.w _)⟩
def ExL (p N:Int)(g:Nat→Option (List Int × Int)):Prop:=∃ o p',(List.length o:Int)≤2000∧p≤p'∧p'≤p+N∧Tl g (o,p')
theorem rawd {b:List Int}(hb:Bytes b){a p:Int}(h0:0≤a)(h3:a≤3)(hp:0≤p)(hp':p≤700000):∃ x p',size x≤1000∧p≤p'∧p'≤p+1000∧Tl (fun k=>spec_l20Raw.f k b p a) (row x,p'):=by
 obtain⟨g1,g2,x,p',q1,q2,q3,q4⟩:=raw_ev hb 3 (by omega) a p h0 h3 hp (by omega)
 exact⟨x,p',by omega,q2,by omega,q4⟩
theorem ordj1_ev {b:List Int}(hb:Bytes b){a p:Int}{o:List Int}(ho:(o.length:Int)≤1000)(hp:0≤p)(hp':p≤900000):ExL p 10 (fun k=>spec_l20Ord.j1 k a o b p):=by
 obtain⟨v,p1,h1,h2,t1⟩:=odd_ev hb (a:=a) hp (by omega)
 by_cases hv:v=true
 ·obtain⟨w,_,_,t2⟩:=pick_ev hb (p:=p1) (a:=5) (by omega) (by omega)
  have start:∀ r,Tl (fun k=>(if w=0 then(some ((([]:List Int)),p1+1)) else(if w=1 then((some (([]:List Int):List Int)).bind fun y=>(if y.length+o.length<17592186044416 then((some (y++o:List Int)).bind fun z=>(if z.length<17592186044416 then(some ((z++[0]),p1+1)) else(none))) else(none))) else(if w=2 then(some ((([2,1,0,1,1,1,0]:List Int)),p1+1)) else(if w=3 then(some ((([1,0,0]:List Int)),p1+1)) else(some ((([1,10000,0]:List Int)),p1+1))))))) r→Tl (fun k=>spec_l20Ord.j1 k a o b p) r:=by
   intro r h
   refine Tl.s (fun k=>by rw[spec_l20Ord.j1]) ?_
   refine Tl.b t1 ?_
   refine Tl.p hv ?_
   exact Tl.b t2 h
  by_cases w0:w=0
  ·exact⟨[],_,by simp,by omega,by omega,start _ (Tl.p w0 (Tl.w _))⟩
  ·by_cases w1:w=1
   ·refine⟨[]++o++[0],_,by simp;omega,by omega,by omega,start _ (Tl.n w0 (Tl.p w1 (Tl.d (Tl.p (by simp;omega) (Tl.d (Tl.p (by simp;omega) (Tl.w _)))))))⟩
   ·by_cases w2:w=2
    ·exact⟨[2,1,0,1,1,1,0],_,by simp,by omega,by omega,start _ (Tl.n w0 (Tl.n w1 (Tl.p w2 (Tl.w _))))⟩
    ·by_cases w3:w=3
     ·exact⟨[1,0,0],_,by simp,by omega,by omega,start _ (Tl.n w0 (Tl.n w1 (Tl.n w2 (Tl.p w3 (Tl.w _)))))⟩
     ·exact⟨[1,10000,0],_,by simp,by omega,by omega,start _ (Tl.n w0 (Tl.n w1 (Tl.n w2 (Tl.n w3 (Tl.w _)))))⟩
 ·refine⟨o,p1,by omega,by omega,by omega,?_⟩
  refine Tl.s (fun k=>by rw[spec_l20Ord.j1]) ?_
  refine Tl.b t1 ?_
  exact Tl.n hv (Tl.w _)
theorem ordl_ev {b:List Int}(hb:Bytes b){a:Int}:∀ (m:Nat) (o:List Int) (p i:Int),i+m=4→0≤i→(o.length:Int)≤1000→0≤p→p+2000*m≤600000→ExL p (2000*m+10) (fun k=>spec_l20Ord.l0 k a o i b p):=by
 intro m
 induction m with
 | zero =>
  intro o p i h1 h2 h3 h4 h5
  obtain⟨o',p',q1,q2,q3,q4⟩:=ordj1_ev hb (a:=a) h3 h4 (by omega)
  refine⟨o',p',q1,q2,by omega,?_⟩
  refine Tl.s (fun k=>by rw[spec_l20Ord.l0]) ?_
  exact Tl.n (by omega) q4
 | succ m ih =>
  intro o p i h1 h2 h3 h4 h5
  by_cases h:(o.length:Int)>24
  ·obtain⟨x,p1,q1,q2,q3,q4⟩:=rawd hb (a:=2) (by omega) (by omega) h4 (by omega)
   have hx:=rl_ x
   obtain⟨o',p',r1,r2,r3,r4⟩:=ih (row x) p1 (i+1) (by omega) (by omega) (by omega) (by omega) (by omega)
   refine⟨o',p',r1,by omega,by omega,?_⟩
   refine Tl.s (fun k=>by rw[spec_l20Ord.l0]) ?_
   refine Tl.p (by omega) ?_
   refine Tl.p h ?_
   refine Tl.b q4 ?_
   rw[wi_ (by omega) (by omega)]
   exact r4
  ·obtain⟨o',p',q1,q2,q3,q4⟩:=ordj1_ev hb (a:=a) h3 h4 (by omega)
   refine⟨o',p',q1,q2,by omega,?_⟩
   refine Tl.s (fun k=>by rw[spec_l20Ord.l0]) ?_
   refine Tl.p (by omega) ?_
   exact Tl.n h q4
theorem drawOrd_ev {b:List Int}(hb:Bytes b){a p:Int}(hp:0≤p)(hp':p≤500000):ExL p 20000 (fun k=>spec_l20Ord.f k b p a):=by
 obtain⟨x,p1,q1,q2,q3,q4⟩:=rawd hb (a:=3) (by omega) (by omega) hp (by omega)
 have hx:=rl_ x
 obtain⟨o',p',r1,r2,r3,r4⟩:=ordl_ev hb (a:=a) 4 (row x) p1 0 (by omega) (by omega) (by omega) (by omega) (by omega)
 exact⟨o',p',r1,by omega,by omega,Tl.b q4 r4⟩
end Go.Proofs.YtbdbldhpglponaaDoor.P
namespace Go.Proofs.YtbdbldhpglponaaDoor.P
open OM Go.RowKit Go.Proofs.YtbdbldhpglponaaDoorW.PrintWords Go.Proofs.YtbdbldhpglponaaDoorW.PrintLast Go.Proofs.YtbdbldhpglponaaDoorW.PrintMore
set_option linter.unusedVariables false
abbrev Bs:=List UInt8
def ba (l:Bs):ByteArray:=⟨l.toArray⟩
theorem ba_data (l:Bs):(ba l).data.toList=l:=rfl
theorem ba_size (l:Bs):(ba l).size=l.length:=by rw[Lib.size_eq,ba_data]
theorem ba_toList (l:Bs):(ba l).toList=l:=by rw[Lib.toList_data,ba_data]
theorem ba_of (s:ByteArray):s=ba s.data.toList:=(Lib.mk_data s).symm
theorem ba_append (a b:Bs):ba a++ba b=ba (a++b):=by
 rw[ba_of (ba a++ba b)]
 congr 1
theorem ba_extract (l:Bs)(a b:Nat):(ba l).extract a b=ba ((l.drop a).take (b-a)):=by rw[Lib.extract_eq,ba_data];rfl
theorem ba_from (l:Bs)(a:Nat):(ba l).extract a (ba l).size=ba (l.drop a):=by
 rw[ba_extract,ba_size]
 congr 1
 exact List.take_of_length_le (by rw[List.length_drop];omega)
theorem bt_ba (p r:Bs)(c:UInt8){i:Int}(hi:i=(p.length:Int)):bt (ba (p++c::r)) i=(c.toNat:Int):=by
 subst hi
 unfold bt
 have h:((p.length:Int)).toNat<(ba (p++c::r)).size:=by rw[ba_size];simp
 rw[dif_pos h]
 congr 1
 show ((ba (p++c::r)).data[((p.length:Int)).toNat]).toNat=c.toNat
 simp[ba]
def dc (c:Int):Bs:=Lib.itoa c
theorem dc_pos {c:Int}(h:0≤c):dc c=Lib.decDigits c.toNat:=by unfold dc Lib.itoa;rw[if_neg (by omega)]
theorem dc_small {c:Int}(h:0≤c)(h':c<10):dc c=[UInt8.ofNat (48+c.toNat)]:=by rw[dc_pos h,Lib.decDigits_one (by omega)]
theorem dc_big {c:Int}(h:10≤c):dc c=dc (c / 10)++[UInt8.ofNat (48+c.toNat % 10)]:=by
 rw[dc_pos (by omega),dc_pos (by omega),Lib.decDigits,dif_neg (by omega)]
 congr 2
 omega
theorem dc_length {c:Int}(h:0≤c)(h':c≤99999):1≤(dc c).length∧(dc c).length≤5:=by
 rw[dc_pos h,Lib.decDigits_length]
 refine⟨Lib.nDigits_pos _,?_⟩
 have s:∀ (u n:Nat),(u<10∨(10≤u∧Lib.nDigits (u / 10)≤n))→Lib.nDigits u≤n+1:=by
  intro u n hu
  rcases hu with hu | ⟨hu,hn⟩
  ·rw[Lib.nDigits_small hu];omega
  ·rw[Lib.nDigits_big (by omega)];omega
 have s1:∀ u:Nat,u<10→Lib.nDigits u≤1:=fun u hu=>by rw[Lib.nDigits_small hu];omega
 have s2:∀ u:Nat,u<100→Lib.nDigits u≤2:=fun u hu=>by
  by_cases q:u<10
  ·exact s u 1 (.inl q)
  ·exact s u 1 (.inr ⟨by omega,s1 _ (by omega)⟩)
 have s3:∀ u:Nat,u<1000→Lib.nDigits u≤3:=fun u hu=>by
  by_cases q:u<10
  ·exact s u 2 (.inl q)
  ·exact s u 2 (.inr ⟨by omega,s2 _ (by omega)⟩)
 have s4:∀ u:Nat,u<10000→Lib.nDigits u≤4:=fun u hu=>by
  by_cases q:u<10
  ·exact s u 3 (.inl q)
  ·exact s u 3 (.inr ⟨by omega,s3 _ (by omega)⟩)
 by_cases q:c.toNat<10
 ·exact s _ 4 (.inl q)
 ·exact s _ 4 (.inr ⟨by omega,s4 _ (by omega)⟩)
theorem number_l:∀ (n:Nat) (c:Int),c.toNat≤n→0≤c→c≤99999→Tl (fun k=>spec_l1Number.f k c) (ba (dc c)):=by
 intro n
 induction n with
 | zero =>
  intro c h1 h2 h3
  obtain rfl:c=0:=by omega
  refine Tl.s (fun k=>by rw[spec_l1Number.f]) ?_
  exact Tl.p (by omega) (Tl.to (Tl.w _) (by rw[dc_small (by omega) (by omega),wi_ (by omega) (by omega)];rfl))
 | succ n ih =>
  intro c h1 h2 h3
  refine Tl.s (fun k=>by rw[spec_l1Number.f]) ?_
  by_cases h:c<10
  ·refine Tl.p h (Tl.to (Tl.w _) ?_)
   rw[dc_small h2 h,wi_ (by omega) (by omega)]
   unfold strOfNums ba
   congr 1
   simp only[List.map_cons,List.map_nil]
   congr 2
   congr 1
   omega
  ·refine Tl.n h ?_
   have hd:wrap64 (Int.tdiv c 10)=c / 10:=by rw[Int.tdiv_eq_ediv_of_nonneg (by omega),wi_ (by omega) (by omega)]
   have hm:Int.tmod c 10=c % 10:=Int.tmod_eq_emod_of_nonneg (by omega)
   rw[hd,hm]
   refine Tl.b (ih (c / 10) (by omega) (by omega) (by omega)) ?_
   refine Tl.d ?_
   have hl:=dc_length (c:=c / 10) (by omega) (by omega)
   have he:strOfNums [(wrap64 (48+c % 10)) % 256]=ba [UInt8.ofNat (48+c.toNat % 10)]:=by
    rw[wi_ (by omega) (by omega)]
    unfold strOfNums ba
    congr 1
    simp only[List.map_cons,List.map_nil]
    congr 2
    congr 1
    omega
   rw[he]
   refine Tl.p (by rw[ba_size,ba_size];simp;omega) ?_
   refine Tl.to (Tl.w _) ?_
   rw[ba_append,dc_big (c:=c) (by omega)]
theorem number_ev {c:Int}(h:0≤c)(h':c≤99999):Tl (fun k=>spec_l1Number.f k c) (ba (dc c)):=number_l _ c (Nat.le_refl _) h h'
def isN:O→Bool
 | [⟨_,[]⟩]=>true
 | _=>false
def trm (c:Int)(e:O)(t:Bs):Bs:=if e.isEmpty then dc c else
 (if t=[49] then [119] else if t=[119]∨isN e=true then [119,94]++t else [119,94,40]++t++[41])++(if c>1 then 42::dc c else [])
def jn:List Bs→Bs
 | []=>[48]
 | l=>Lib.join l [43]
def txs:O→List Bs
 | []=>[]
 | ⟨c,e⟩::r=>trm c e (jn (txs e))::txs r
def tx (x:O):Bs:=jn (txs x)
theorem txs_nil:txs []=[]:=by unfold txs;rfl
theorem txs_cons (c:Int)(e r:O):txs (⟨c,e⟩::r)=trm c e (tx e)::txs r:=by rw[txs];rfl
theorem tx_nil:tx []=[48]:=by unfold tx;rw[txs_nil];rfl
theorem txs_ne {x:O}(h:x≠[]):txs x≠[]:=by
 cases x with
 | nil=>exact absurd rfl h
 | cons t r=>obtain⟨c,e⟩:=t;rw[txs_cons];simp
theorem txs_append (p r:O):txs (p++r)=txs p++txs r:=by
 induction p with
 | nil=>rw[txs_nil];rfl
 | cons t p ih=>obtain⟨c,e⟩:=t;rw[List.cons_append,txs_cons,ih,txs_cons];rfl
theorem tx_one (c:Int)(e:O):tx [⟨c,e⟩]=trm c e (tx e):=by unfold tx;rw[txs_cons,txs_nil];exact Lib.join_one _ _
theorem join_two (a b:Bs)(l:List Bs):Lib.join (a::b::l) [43]=a++43::Lib.join (b::l) [43]:=by
 rw[Lib.join_cons,Lib.join_cons]
 unfold Lib.joinTail
 simp
theorem tx_more (c:Int)(e:O){r:O}(h:r≠[]):tx (⟨c,e⟩::r)=trm c e (tx e)++43::tx r:=by
 cases r with
 | nil=>exact absurd rfl h
 | cons t s =>
  obtain⟨d,f⟩:=t
  unfold tx
  rw[txs_cons,txs_cons]
  exact join_two _ _ _
def Cf:O→Prop
 | []=>True
 | ⟨c,e⟩::r=>0≤c∧c≤99999∧Cf e∧Cf r
theorem Cf_nil:Cf []:=by unfold Cf;trivial
theorem Cf_cons {c:Int}{e r:O}:Cf (⟨c,e⟩::r) ↔ 0≤c∧c≤99999∧Cf e∧Cf r:=by rw[Cf]
theorem Cf_append {p r:O}:Cf (p++r) ↔ Cf p∧Cf r:=by
 induction p with
 | nil=>simp[Cf_nil]
 | cons t p ih=>obtain⟨c,e⟩:=t;rw[List.cons_append,Cf_cons,ih,Cf_cons];constructor<;>(rintro⟨a,b⟩;simp_all)
theorem Cf_of:∀ {x:O},NF x→most x≤9999→Cf x:=by
 intro x
 induction x using ind with
 | h0=>intro _ _;exact Cf_nil
 | h1 c e r ihe ihr =>
  intro h1 h2
  obtain⟨g1,g2,g3,g4⟩:=NF_cons.1 h1
  rw[mc_] at h2
  exact Cf_cons.2 ⟨by omega,by omega,ihe g2 (by omega),ihr g3 (by omega)⟩
theorem trm_length {c:Int}{e:O}{t:Bs}(h:0≤c)(h':c≤99999):(trm c e t).length≤t.length+10∧1≤(trm c e t).length:=by
 have:=dc_length h h'
 unfold trm
 split
 ·omega
 ·rw[List.length_append]
  split<;>split<;>(try split)<;>simp<;>omega
theorem tx_length:∀ {x:O},Cf x→((tx x).length:Int)≤12*size x∧1≤(tx x).length:=by
 intro x
 induction x using ind with
 | h0=>intro _;rw[tx_nil,sn_];simp
 | h1 c e r ihe ihr =>
  intro h
  obtain⟨h1,h2,h3,h4⟩:=Cf_cons.1 h
  have:=ihe h3
  have:=ihr h4
  have ht:=trm_length (c:=c) (e:=e) (t:=tx e) h1 h2
  have:=sp_ r
  rw[sc_]
  by_cases hr:r=[]
  ·subst hr;rw[tx_one];omega
  ·rw[tx_more c e hr,List.length_append,List.length_cons];omega
end Go.Proofs.YtbdbldhpglponaaDoor.P
namespace Go.Proofs.YtbdbldhpglponaaDoor.P
open OM Go.RowKit Go.Proofs.YtbdbldhpglponaaDoorW.PrintWords Go.Proofs.YtbdbldhpglponaaDoorW.PrintLast Go.Proofs.YtbdbldhpglponaaDoorW.PrintMore
set_option linter.unusedVariables false
theorem itoa_ev {c:Int}(h:0≤c)(h':c≤99999):Tl (fun k=>strconv_Itoa_35.f c) (ba (dc c)):=by
 refine Tl.c ?_
 unfold strconv_Itoa_35.f
 rw[if_pos (by omega),if_pos (by omega)]
 rfl
theorem join_ev {l:List Bs}(h:l.length≤1000000000)(h':(Lib.join l [43]).length≤1000000000):Tl (fun k=>strings_Join.f (l.map ba) (ba [43])) (ba (Lib.join l [43])):=by
 refine Tl.c ?_
 have e:strings_Join.v (l.map ba) (ba [43])=Lib.join l [43]:=by
  unfold strings_Join.v
  rw[List.map_map]
  congr 1
  conv=>rhs;rw[← List.map_id l]
  rfl
 unfold strings_Join.f
 rw[e,List.length_map,if_pos (by omega),if_pos (by omega)]
 rfl
theorem txs_length (x:O):(txs x).length=x.length:=by
 induction x with
 | nil=>rw[txs_nil];rfl
 | cons t r ih=>obtain⟨c,e⟩:=t;rw[txs_cons,List.length_cons,List.length_cons,ih]
theorem Cf_mid {p r:O}{c:Int}{e:O}(h:Cf (p++⟨c,e⟩::r)):0≤c∧c≤99999∧Cf e:=by
 have:=(Cf_append.1 h).2
 obtain⟨a,b,d,_⟩:=Cf_cons.1 this
 exact⟨a,b,d⟩
theorem isN_iff (e:O):isN e=true ↔ e.length=1∧(rd_T57 e 0).f1=[]:=by
 cases e with
 | nil=>constructor<;>(intro h;simp[isN] at h)
 | cons t r =>
  obtain⟨c,f⟩:=t
  have h0:rd_T57 (⟨c,f⟩::r) 0=⟨c,f⟩:=rdT_mid [] r _ rfl
  rw[h0]
  cases r with
  | cons u s=>constructor<;>(intro h;simp[isN] at h)
  | nil=>cases f with
   | nil=>simp[isN]
   | cons u s=>simp[isN]
theorem textOf_l:∀ (r p:O),(∀ (c:Int) (e:O),(⟨c,e⟩:Tm) ∈ r→Tl (fun k=>impl_textOf.f k e) (ba (tx e)))→Cf (p++r)→p++r≠[]→size (p++r)≤1000000 →
 Tl (fun k=>impl_textOf.l0 k ((txs p).map ba) (p++r) ((p++r).length:Int) (p.length:Int)) (ba (tx (p++r))):=by
 intro r
 induction r with
 | nil =>
  intro p ih h1 h2 h3
  have hl:=tx_length h1
  have:=ll_ (p++([]:O))
  refine Tl.s (fun k=>by rw[impl_textOf.l0]) ?_
  refine Tl.n (by simp) ?_
  rw[List.append_nil] at *
  have e:Lib.join (txs p) [43]=tx p:=by
   unfold tx
   cases hp:txs p with
   | nil=>exact absurd hp (txs_ne h2)
   | cons a l=>rfl
  refine Tl.b (join_ev (by rw[txs_length];omega) (by rw[e];omega)) ?_
  exact Tl.to (Tl.w _) (by rw[e])
 | cons t r ihr =>
  intro p ih h1 h2 h3
  obtain⟨c,e⟩:=t
  obtain⟨c0,c1,ce⟩:=Cf_mid h1
  have hz:=h3
  rw[sa_,sc_] at hz
  have:=sp_ p
  have:=sp_ e
  have:=sp_ r
  have hl:=ll_ p
  have hle:=tx_length ce
  have hdc:=dc_length c0 c1
  have hps:(((txs p).map ba).length:Int)=p.length:=by rw[List.length_map,txs_length]
  refine Tl.s (fun k=>by rw[impl_textOf.l0]) ?_
  refine Tl.p (by simp<;>omega) ?_
  refine Tl.p (by omega) ?_
  refine Tl.p (by simp<;>omega) ?_
  have hm:rd_T57 (p++⟨c,e⟩::r) (p.length:Int)=⟨c,e⟩:=rdT_mid p r _ rfl
  rw[hm]
  refine Tl.b (ih c e (by simp)) ?_
  have go:∀ b:ByteArray,b=ba (trm c e (tx e))→Tl (fun k=>impl_textOf.l0 k ((txs p).map ba++[b]) (p++⟨c,e⟩::r) ((p++⟨c,e⟩::r).length:Int) (wrap64 ((p.length:Int)+1))) (ba (tx (p++⟨c,e⟩::r))):=by
   intro b hb
   subst hb
   rw[wi_ (by omega) (by omega),snoc p]
   have:=ihr (p++[⟨c,e⟩]) (fun c' e' h=>ih c' e' (by simp[h])) (by rw[← snoc];exact h1) (by simp) (by rw[← snoc];exact h3)
   rw[txs_append,txs_cons,txs_nil,List.map_append,show ((p++[(⟨c,e⟩:Tm)]).length:Int)=(p.length:Int)+1 by simp] at this
   exact this
  by_cases he:e=[]
  ·subst he
   refine Tl.p (by simp) ?_
   refine Tl.b (itoa_ev c0 c1) ?_
   refine Tl.p (by omega) ?_
   exact go _ rfl
  ·refine Tl.n (by cases e with | nil=>exact absurd rfl he | cons u s=>simp;omega) ?_
   have hem:e.isEmpty=false:=by cases e with | nil=>exact absurd rfl he | cons u s=>rfl
   rw[ba_toList]
   have tail:∀ (b:Bs),trm c e (tx e)=b++(if c>1 then 42::dc c else [])→(b.length:Int)≤100000000→∀ g:Nat→Option ByteArray,
    (∀ k,g k=if c>1 then((strconv_Itoa_35.f c).bind fun t=>if 1+t.size≤9223372036854775807 then(if(ba b).size+(ba [42]++t).size≤9223372036854775807 then(if((txs p).map ba).length<8796093022208 then impl_textOf.l0 k ((txs p).map ba++[ba b++(ba [42]++t)]) (p++⟨c,e⟩::r) ((p++⟨c,e⟩::r).length:Int) (wrap64 ((p.length:Int)+1)) else none) else none) else none) else(if((txs p).map ba).length<8796093022208 then impl_textOf.l0 k ((txs p).map ba++[ba b]) (p++⟨c,e⟩::r) ((p++⟨c,e⟩::r).length:Int) (wrap64 ((p.length:Int)+1)) else none)) →
    Tl g (ba (tx (p++⟨c,e⟩::r))):=by
    intro b hb hbl g hg
    refine Tl.congr hg ?_
    by_cases h:c>1
    ·refine Tl.p h ?_
     refine Tl.b (itoa_ev c0 c1) ?_
     refine Tl.p (by rw[ba_size];omega) ?_
     refine Tl.p (by rw[ba_append,ba_size,ba_size];simp;omega) ?_
     refine Tl.p (by omega) ?_
     refine go _ ?_
     rw[hb,if_pos h,ba_append,ba_append]
     rfl
    ·refine Tl.n h ?_
     refine Tl.p (by omega) ?_
     refine go _ ?_
     rw[hb,if_neg h,List.append_nil]
   by_cases h1':tx e=[49]
   ·refine Tl.p h1' ?_
    refine tail [119] ?_ (by simp) _ (fun k=>?_)
    ·unfold trm;rw[hem,h1'];simp
    ·rfl
   ·refine Tl.n h1' ?_
    have hz2:(tx e).length≤12000000:=by omega
    have j1:∀ v:Bool,(v=true ↔ (tx e=[119]∨isN e=true))→Tl (fun k=>impl_textOf.j1 k ((txs p).map ba) (ba (tx e)) (p++⟨c,e⟩::r) ((p++⟨c,e⟩::r).length:Int) (p.length:Int) v c e) (ba (tx (p++⟨c,e⟩::r))):=by
     intro v hv
     refine Tl.s (fun k=>by rw[impl_textOf.j1]) ?_
     cases v with
     | true =>
      refine Tl.p rfl ?_
      refine Tl.p (by rw[ba_size];omega) ?_
      refine tail ([119,94]++tx e) ?_ (by simp;omega) _ (fun k=>?_)
      ·unfold trm;rw[hem,if_neg (by simp),if_neg h1',if_pos (hv.1 rfl)]
      ·rw[← ba_append];rfl
     | false =>
      have hn:¬ (tx e=[119]∨isN e=true):=fun h=>by have:=hv.2 h;simp at this
      refine Tl.n (by simp) ?_
      refine Tl.p (by rw[ba_size];omega) ?_
      refine Tl.p (by rw[show (⟨#[119,94,40]⟩:ByteArray)=ba [119,94,40] from rfl,ba_append,ba_size];simp;omega) ?_
      refine tail ([119,94,40]++tx e++[41]) ?_ (by simp;omega) _ (fun k=>?_)
      ·unfold trm;rw[hem,if_neg (by simp),if_neg h1',if_neg hn]
      ·rw[← ba_append,← ba_append];rfl
    by_cases h2':tx e=[119]
    ·refine Tl.p h2' ?_
     exact j1 true (by simp[h2'])
    ·refine Tl.n h2' ?_
     by_cases h3':(e.length:Int)=1
     ·refine Tl.p h3' ?_
      refine Tl.p (by show 0<(e.length:Int);omega) ?_
      refine j1 _ ?_
      rw[isN_iff]
      have:e.length=1:=by omega
      simp[h2',this]
     ·refine Tl.n h3' ?_
      refine j1 false ?_
      rw[isN_iff]
      have:¬ e.length=1:=by omega
      simp[h2',this]
theorem textOf_ev:∀ {x:O},Cf x→size x≤1000000→Tl (fun k=>impl_textOf.f k x) (ba (tx x)):=by
 have:∀ (n:Nat) (x:O),(size x).toNat≤n→Cf x→size x≤1000000→Tl (fun k=>impl_textOf.f k x) (ba (tx x)):=by
  intro n
  induction n with
  | zero=>intro x h;have:=sp_ x;omega
  | succ n ih =>
   intro x h1 h2 h3
   refine Tl.s (fun k=>by rw[impl_textOf.f]) ?_
   by_cases hx:x=[]
   ·subst hx
    exact Tl.p (by simp) (Tl.to (Tl.w _) (by rw[tx_nil];rfl))
   ·refine Tl.n (by cases x with | nil=>exact absurd rfl hx | cons u s=>simp;omega) ?_
    have:=textOf_l x [] (fun c e hm=>?_) h2 hx h3
    ·rw[txs_nil] at this;exact this
    ·obtain⟨s,t,hst⟩:=List.append_of_mem hm
     have hz:size e<size x∧Cf e:=by
      rw[hst] at h2 ⊢
      have:=sp_ s
      have:=sp_ t
      exact⟨by rw[sa_,sc_];omega,(Cf_mid h2).2.2⟩
     exact ih e (by have:=sp_ e;omega) hz.2 (by omega)
 intro x h1 h2
 exact this _ x (Nat.le_refl _) h1 h2
end Go.Proofs.YtbdbldhpglponaaDoor.P
namespace Go.Proofs.YtbdbldhpglponaaDoor.P
open OM Go.RowKit Go.Proofs.YtbdbldhpglponaaDoorW.PrintWords Go.Proofs.YtbdbldhpglponaaDoorW.PrintLast Go.Proofs.YtbdbldhpglponaaDoorW.PrintMore
set_option linter.unusedVariables false
theorem implValid_ev {l:List Int}:Tl (fun k=>impl_OrdValid.f k l) (ordOf l).isSome:=by
 refine Tl.b ordOf_ev ?_
 refine Tl.to (Tl.w _) ?_
 unfold ordv
 cases ordOf l<;>rfl
def numOf:O→Int
 | []=>0
 | [⟨c,e⟩]=>if e.isEmpty then c else -1
 | _::_::_=>-1
def numv (a:List Int):Int:=match ordOf a with
 | some x=>numOf x
 | none=>-1
theorem specOrdNumber_ev {a:List Int}(ha:(a.length:Int)≤100000000):Tl (fun k=>spec_OrdNumber.f k a) (numv a):=by
 unfold numv
 cases h:ordOf a with
 | none =>
  refine Tl.b (invalid_ev ha h) ?_
  exact Tl.n (by simp) (Tl.w _)
 | some x =>
  refine Tl.b (valid_ev h) ?_
  refine Tl.p rfl ?_
  obtain⟨h1,h2⟩:=os_ h
  have:=h2.size
  rw[h1]
  refine Tl.b (terms_ev (by omega)) ?_
  cases x with
  | nil=>exact Tl.p rfl (Tl.w _)
  | cons t r =>
   obtain⟨c,e⟩:=t
   refine Tl.n (by rw[cl_];simp;omega) ?_
   cases r with
   | cons u s=>exact Tl.n (by rw[cl_];simp;omega) (Tl.w _)
   | nil =>
    refine Tl.p (by rw[cl_];simp) ?_
    refine Tl.p (by rw[el_];simp) ?_
    rw[es_zero]
    cases e with
    | nil =>
     refine Tl.p (row_one.2 rfl) ?_
     refine Tl.p (by rw[cl_];simp) ?_
     exact Tl.w _
    | cons u s =>
     refine Tl.n (fun hh=>by cases row_one.1 hh) ?_
     exact Tl.w _
end Go.Proofs.YtbdbldhpglponaaDoor.P
namespace Go.Proofs.YtbdbldhpglponaaDoor.P
open OM Go.RowKit Go.Proofs.YtbdbldhpglponaaDoorW.PrintWords Go.Proofs.YtbdbldhpglponaaDoorW.PrintLast Go.Proofs.YtbdbldhpglponaaDoorW.PrintMore
set_option linter.unusedVariables false
theorem dc_digit:∀ (n:Nat) (c:Int),c.toNat≤n→0≤c→c≤99999→∀ b ∈ dc c,48≤b.toNat∧b.toNat≤57:=by
 have one:∀ d:Nat,d<10→48≤(UInt8.ofNat (48+d)).toNat∧(UInt8.ofNat (48+d)).toNat≤57:=by
  intro d hd
  rw[UInt8.toNat_ofNat_of_lt' (by show 48+d<256;omega)]
  omega
 intro n
 induction n with
 | zero =>
  intro c h1 h2 h3 b hb
  rw[dc_small h2 (by omega)] at hb
  simp only[List.mem_singleton] at hb
  subst hb
  exact one _ (by omega)
 | succ n ih =>
  intro c h1 h2 h3 b hb
  by_cases h:c<10
  ·rw[dc_small h2 h] at hb
   simp only[List.mem_singleton] at hb
   subst hb
   exact one _ (by omega)
  ·rw[dc_big (by omega)] at hb
   simp only[List.mem_append,List.mem_singleton] at hb
   rcases hb with hb | hb
   ·exact ih (c / 10) (by omega) (by omega) (by omega) b hb
   ·subst hb;exact one _ (by omega)
theorem dc_digits {c:Int}(h:0≤c)(h':c≤99999){b:UInt8}(hb:b ∈ dc c):48≤b.toNat∧b.toNat≤57:=dc_digit _ c (Nat.le_refl _) h h' b hb
theorem dc_eq_one {c:Int}(h:0≤c)(h':c≤99999)(e:dc c=[49]):c=1:=by
 by_cases q:c<10
 ·rw[dc_small h q] at e
  injection e with e
  have:=congrArg UInt8.toNat e
  rw[UInt8.toNat_ofNat_of_lt' (by show 48+c.toNat<256;omega)] at this
  have h49:(49:UInt8).toNat=49:=rfl
  omega
 ·rw[dc_big (by omega)] at e
  have:=congrArg List.length e
  have hl:=(dc_length (c:=c / 10) (by omega) (by omega)).1
  rw[List.length_append] at this
  simp at this
  rw[this] at hl
  simp at hl
theorem trm_nil (c:Int)(t:Bs):trm c [] t=dc c:=rfl
theorem trm_ne (c:Int){e:O}(t:Bs)(h:e≠[]):trm c e t=(if t=[49] then [119] else if t=[119]∨isN e=true then [119,94]++t else [119,94,40]++t++[41])++(if c>1 then 42::dc c else []):=by
 unfold trm
 rw[if_neg (by cases e with | nil=>exact absurd rfl h | cons u s=>simp)]
theorem tx_eq_one {e:O}(h:Vd e):tx e=[49] ↔ e=[⟨1,[]⟩]:=by
 constructor
 ·intro q
  cases e with
  | nil=>rw[tx_nil] at q;simp at q
  | cons t r =>
   obtain⟨c,f⟩:=t
   obtain⟨hf,hr,hc⟩:=Vd_cons h
   by_cases r0:r=[]
   ·subst r0
    rw[tx_one] at q
    cases f with
    | nil =>
     rw[trm_nil] at q
     rw[dc_eq_one (by omega) (by omega) q]
    | cons u s =>
     rw[trm_ne _ _ (by simp)] at q
     split at q
     ·simp at q
     ·split at q<;>simp at q
   ·rw[tx_more c f r0] at q
    have:=congrArg List.length q
    have:=(tx_length (Cf_of hr.1 hr.2.1)).2
    have:=(trm_length (c:=c) (e:=f) (t:=tx f) (by omega) (by omega)).2
    simp at *
    omega
 ·intro q
  subst q
  rw[tx_one,trm_nil,dc_small (by omega) (by omega)]
  rfl
theorem tx_eq_w {e:O}(h:Vd e):tx e=[119] ↔ e=[⟨1,[⟨1,[]⟩]⟩]:=by
 constructor
 ·intro q
  cases e with
  | nil=>rw[tx_nil] at q;simp at q
  | cons t r =>
   obtain⟨c,f⟩:=t
   obtain⟨hf,hr,hc⟩:=Vd_cons h
   by_cases r0:r=[]
   ·subst r0
    rw[tx_one] at q
    by_cases f0:f=[]
    ·subst f0
     rw[trm_nil] at q
     have:=dc_digits (c:=c) (by omega) (by omega) (b:=119) (by rw[q];simp)
     simp at this
    ·rw[trm_ne _ _ f0] at q
     by_cases t1:tx f=[49]
     ·rw[if_pos t1] at q
      rw[(tx_eq_one hf).1 t1]
      by_cases c1:c>1
      ·rw[if_pos c1] at q;simp at q
      ·have:c=1:=by omega
       rw[this]
     ·rw[if_neg t1] at q
      split at q<;>simp at q
   ·rw[tx_more c f r0] at q
    have:=congrArg List.length q
    have:=(tx_length (Cf_of hr.1 hr.2.1)).2
    have:=(trm_length (c:=c) (e:=f) (t:=tx f) (by omega) (by omega)).2
    simp at *
    omega
 ·intro q
  subst q
  rw[tx_one,trm_ne _ _ (by simp),if_pos ((tx_eq_one ?_).2 rfl)]
  ·simp
  ·exact(Vd_cons h).1
theorem numOf_pos {e:O}(h:Vd e):numOf e>0 ↔ isN e=true:=by
 cases e with
 | nil=>simp[numOf,isN]
 | cons t r =>
  obtain⟨c,f⟩:=t
  have hc:=(Vd_cons h).2.2
  cases r with
  | cons u s=>simp[numOf,isN]
  | nil=>cases f with
   | nil=>simp[numOf,isN];omega
   | cons u s=>simp[numOf,isN]
theorem row_is {e x:O}{l:List Int}(h:row x=l):row e=l ↔ e=x:=by
 constructor
 ·intro q
  have:=row_inj' e x [] [] (by rw[q,h])
  exact this.1
 ·intro q;rw[q,h]
theorem join_snoc {l:List Bs}(h:l≠[])(t:Bs):Lib.join (l++[t]) [43]=Lib.join l [43]++43::t:=by
 cases l with
 | nil=>exact absurd rfl h
 | cons a l =>
  rw[List.cons_append,Lib.join_cons,Lib.join_cons]
  unfold Lib.joinTail
  simp
def acc (p:O):Bs:=Lib.join (txs p) [43]
theorem acc_snoc (p:O)(c:Int)(e:O):acc (p++[⟨c,e⟩])=(if p=[] then [] else acc p++[43])++trm c e (tx e):=by
 unfold acc
 rw[txs_append,txs_cons,txs_nil]
 by_cases h:p=[]
 ·subst h;rw[txs_nil,if_pos rfl];exact Lib.join_one _ _
 ·rw[join_snoc (txs_ne h),if_neg h];simp
theorem acc_full {x:O}(h:x≠[]):acc x=tx x:=by
 unfold acc tx
 cases hp:txs x with
 | nil=>exact absurd hp (txs_ne h)
 | cons a l=>rfl
theorem acc_length {p:O}(h:Cf p):((acc p).length:Int)≤12*size p:=by
 by_cases h0:p=[]
 ·subst h0;unfold acc;rw[txs_nil,sn_];simp[Lib.join_nil]
 ·rw[acc_full h0];exact(tx_length h).1
end Go.Proofs.YtbdbldhpglponaaDoor.P
namespace Go.Proofs.YtbdbldhpglponaaDoor.P
open OM Go.RowKit Go.Proofs.YtbdbldhpglponaaDoorW.PrintWords Go.Proofs.YtbdbldhpglponaaDoorW.PrintLast Go.Proofs.YtbdbldhpglponaaDoorW.PrintMore
set_option linter.unusedVariables false
def U {α:Type}(g:Nat→Nat→Option α)(r:α):Prop:=∃ K,∀ d k,K≤d→K≤k→g d k=some r
section
variable {α β:Type}{a:α}{r:β}
theorem U.now (r:α):U (fun _ _=>some r) r:=⟨0,fun _ _ _ _=>rfl⟩
theorem U.of {g:Nat→Option α}(h:Tl g a):U (fun _ k=>g k) a:=by
 obtain⟨K,h⟩:=h
 exact⟨K,fun _ k _ hk=>h k hk⟩
theorem U.const {x:Option α}(h:x=some a):U (fun _ _=>x) a:=⟨0,fun _ _ _ _=>h⟩
theorem U.bind {g:Nat→Nat→Option α}{f:Nat→Nat→α→Option β}(h:U g a)(e:U (fun d k=>f d k a) r):U (fun d k=>(g d k).bind (f d k)) r:=by
 obtain⟨K,h⟩:=h
 obtain⟨M,e⟩:=e
 refine⟨max K M,fun d k hd hk=>?_⟩
 show (g d k).bind (f d k)=some r
 rw[h d k (by omega) (by omega)]
 exact e d k (by omega) (by omega)
theorem U.pos {c:Prop}[Decidable c]{f g:Nat→Nat→Option α}(h:c)(e:U f a):U (fun d k=>if c then f d k else g d k) a:=by
 obtain⟨K,e⟩:=e
 exact⟨K,fun d k hd hk=>by show (if c then f d k else g d k)=some a;rw[if_pos h];exact e d k hd hk⟩
theorem U.neg {c:Prop}[Decidable c]{f g:Nat→Nat→Option α}(h:¬ c)(e:U g a):U (fun d k=>if c then f d k else g d k) a:=by
 obtain⟨K,e⟩:=e
 exact⟨K,fun d k hd hk=>by show (if c then f d k else g d k)=some a;rw[if_neg h];exact e d k hd hk⟩
theorem U.stepk {g f:Nat→Nat→Option α}(h:∀ d k,g d (k+1)=f d k)(e:U f a):U g a:=by
 obtain⟨K,e⟩:=e
 refine⟨K+1,fun d k hd hk=>?_⟩
 obtain⟨m,rfl⟩:∃ m,k=m+1:=⟨k-1,by omega⟩
 rw[h];exact e d m (by omega) (by omega)
theorem U.stepd {g f:Nat→Nat→Option α}(h:∀ d k,g (d+1) k=f d k)(e:U f a):U g a:=by
 obtain⟨K,e⟩:=e
 refine⟨K+1,fun d k hd hk=>?_⟩
 obtain⟨m,rfl⟩:∃ m,d=m+1:=⟨d-1,by omega⟩
 rw[h];exact e m k (by omega) (by omega)
theorem U.to {g:Nat→Nat→Option α}{b:α}(h:U g b)(e:b=a):U g a:=e ▸ h
theorem U.tells {g:Nat→Nat→Option α}(h:U g a):Tl (fun k=>g k k) a:=by
 obtain⟨K,h⟩:=h
 exact⟨K,fun k hk=>h k k hk hk⟩
end
def cut (c:UInt8)(l:Bs):Bs × Bool:=match l with
 | []=>([],false)
 | d::r=>if d=c then(r,true) else(d::r,false)
theorem cut_hit (c:UInt8)(r:Bs):cut c (c::r)=(r,true):=by show (if c=c then(r,true) else(c::r,false))=_;rw[if_pos rfl]
theorem cut_miss {c d:UInt8}(r:Bs)(h:d≠c):cut c (d::r)=(d::r,false):=by show (if d=c then(r,true) else(d::r,false))=_;rw[if_neg h]
theorem cut_cases (c:UInt8)(l:Bs):((cut c l).2=true∧l=c::(cut c l).1)∨((cut c l).2=false∧(cut c l).1=l):=by
 cases l with
 | nil=>exact .inr ⟨rfl,rfl⟩
 | cons d r =>
  by_cases h:d=c
  ·subst h;rw[cut_hit];exact .inl ⟨rfl,rfl⟩
  ·rw[cut_miss r h];exact .inr ⟨rfl,rfl⟩
theorem has_eq (c:UInt8)(l:Bs):stringslite_HasPrefix.f (ba l) (ba [c])=some (cut c l).2:=by
 unfold stringslite_HasPrefix.f
 rw[ba_size,ba_size]
 cases l with
 | nil=>rw[if_neg (by simp)];rfl
 | cons d r =>
  rw[if_pos (by simp;omega),if_pos (by simp),if_pos (by simp;omega),ba_extract,ba_toList,ba_toList]
  by_cases h:d=c
  ·subst h;rw[cut_hit];simp
  ·rw[cut_miss r h];simp[h]
theorem cut_eq (c:UInt8)(l:Bs):strings_CutPrefix.f (ba l) (ba [c])=some (ba (cut c l).1,(cut c l).2):=by
 unfold strings_CutPrefix.f stringslite_CutPrefix.f
 rw[has_eq]
 cases l with
 | nil=>rfl
 | cons d r =>
  by_cases h:d=c
  ·subst h
   rw[cut_hit]
   simp only[Option.bind_some,if_true]
   rw[ba_size [d],if_pos (by simp),if_pos (by rw[ba_size];simp;omega),ba_from]
   rfl
  ·rw[cut_miss r h]
   rfl
theorem prefix_eq (c:UInt8)(l:Bs):strings_HasPrefix.f (ba l) (ba [c])=some (cut c l).2:=by
 unfold strings_HasPrefix.f
 rw[has_eq];rfl
def isD (b:UInt8):Bool:=decide (48≤b.toNat) && decide (b.toNat≤57)
def rn (l:Bs):Int × Bs × Bool:=((atoiV (ba (l.takeWhile isD))).1,l.dropWhile isD,(atoiV (ba (l.takeWhile isD))).2 && decide ((l.takeWhile isD).length≤5))
theorem number_e (p r:Bs)(hp:∀ b ∈ p,isD b=true)(hr:r=[]∨∃ c s,r=c::s∧isD c=false)(hl:(p++r).length≤1000000) :
 impl_readNumber.e (ba (p++r)) (p.length:Int)=some ((rn (p++r)).1,ba (rn (p++r)).2.1,(rn (p++r)).2.2):=by
 have ht:(p++r).takeWhile isD=p:=by
  rw[List.takeWhile_append_of_pos hp]
  rcases hr with rfl | ⟨c,s,rfl,hc⟩
  ·simp
  ·rw[List.takeWhile_cons_of_neg (by simp[hc])];simp
 have hd:(p++r).dropWhile isD=r:=by
  rw[List.dropWhile_append_of_pos hp]
  rcases hr with rfl | ⟨c,s,rfl,hc⟩
  ·simp
  ·rw[List.dropWhile_cons_of_neg (by simp[hc])]
 unfold rn
 rw[ht,hd]
 unfold impl_readNumber.e
 have h1:(ba (p++r)).extract 0 ((p.length:Int)).toNat=ba p:=by rw[ba_extract];simp
 have h2:(ba (p++r)).extract ((p.length:Int)).toNat (ba (p++r)).size=ba r:=by rw[ba_from];simp
 rw[h1,h2,if_pos (by omega),if_pos (by rw[ba_size,List.length_append];omega),if_pos (by rw[ba_size];simp at hl;omega)]
 rw[show decide ((p.length:Int)≤5)=decide (p.length≤5) from decide_eq_decide.2 (by omega)]
theorem number_lp:∀ (r p:Bs),(∀ b ∈ p,isD b=true)→(p++r).length≤1000000→Tl (fun k=>impl_readNumber.l0 k (ba (p++r)) (p.length:Int)) ((rn (p++r)).1,ba (rn (p++r)).2.1,(rn (p++r)).2.2):=by
 intro r
 induction r with
 | nil =>
  intro p hp hl
  refine Tl.s (fun k=>by rw[impl_readNumber.l0]) ?_
  refine Tl.n (by rw[ba_size];simp) ?_
  exact Tl.c (number_e p [] hp (.inl rfl) hl)
 | cons c s ih =>
  intro p hp hl
  have hl2:=hl
  simp only[List.length_append,List.length_cons] at hl2
  refine Tl.s (fun k=>by rw[impl_readNumber.l0]) ?_
  refine Tl.p (by rw[ba_size];simp;omega) ?_
  refine Tl.p (by omega) ?_
  rw[bt_ba p s c rfl]
  by_cases h1:(c.toNat:Int)≥48
  ·refine Tl.p h1 ?_
   by_cases h2:(c.toNat:Int)≤57
   ·refine Tl.p h2 ?_
    have hc:isD c=true:=by unfold isD;simp;omega
    rw[wi_ (by omega) (by omega),snoc p]
    have:=ih (p++[c]) (fun b hb=>by simp at hb;rcases hb with hb | hb;exact hp b hb;rw[hb];exact hc) (by rw[← snoc];exact hl)
    rw[show ((p++[c]).length:Int)=(p.length:Int)+1 by simp] at this
    exact this
   ·refine Tl.n h2 ?_
    exact Tl.c (number_e p (c::s) hp (.inr ⟨c,s,rfl,by unfold isD;simp;omega⟩) hl)
  ·refine Tl.n h1 ?_
   exact Tl.c (number_e p (c::s) hp (.inr ⟨c,s,rfl,by unfold isD;simp;omega⟩) hl)
theorem readNumber_ev {l:Bs}(h:l.length≤1000000):Tl (fun k=>impl_readNumber.f k (ba l)) ((rn l).1,ba (rn l).2.1,(rn l).2.2):=number_lp l [] (by simp) h
theorem digit_of {b:UInt8}(h:isD b=true):Lib.digitVal b=some (b.toNat-48):=by
 unfold isD at h
 simp at h
 unfold Lib.digitVal
 rw[if_pos h]
theorem decFrom_all:∀ (l:Bs) (a:Nat),(∀ b ∈ l,isD b=true)→∃ n,Lib.decFrom a l=some n:=by
 intro l
 induction l with
 | nil=>intro a _;exact⟨a,rfl⟩
 | cons b l ih =>
  intro a h
  unfold Lib.decFrom
  rw[digit_of (h b (by simp))]
  exact ih _ (fun c hc=>h c (by simp[hc]))
theorem decFrom_snoc:∀ (l:Bs) (a n:Nat) (b:UInt8),Lib.decFrom a l=some n→isD b=true→Lib.decFrom a (l++[b])=some (n*10+(b.toNat-48)):=by
 intro l
 induction l with
 | nil =>
  intro a n b h hb
  injection h with h
  subst h
  simp only[List.nil_append,Lib.decFrom,digit_of hb]
 | cons c l ih =>
  intro a n b h hb
  rw[List.cons_append]
  unfold Lib.decFrom at h ⊢
  cases hc:Lib.digitVal c with
  | none=>rw[hc] at h;cases h
  | some d=>rw[hc] at h;exact ih _ _ _ h hb
theorem atoi_digits {l:Bs}(h:∀ b ∈ l,isD b=true)(hl:l.length≤18)(h0:l≠[]){n:Nat}(hn:Lib.decFrom 0 l=some n):atoiV (ba l)=((n:Int),true):=by
 unfold atoiV
 rw[ba_data,Lib.atoiAll_short l hl]
 cases l with
 | nil=>exact absurd rfl h0
 | cons b r =>
  have hb:=h b (by simp)
  unfold isD at hb
  simp at hb
  have e1:(b == 45)=false:=by
   rw[beq_eq_false_iff_ne];intro e;subst e;simp at hb
  have e2:(b == 43)=false:=by
   rw[beq_eq_false_iff_ne];intro e;subst e;simp at hb
  have ha:Lib.atoi (b::r)=some (n:Int):=by
   simp only[Lib.atoi,Lib.decNat,e1,e2,List.isEmpty_cons,Bool.false_eq_true,if_false,hn,Option.map_some]
  rw[ha]
  rfl
theorem dc_isD {c:Int}(h:0≤c)(h':c≤99999):∀ b ∈ dc c,isD b=true:=by
 intro b hb
 have:=dc_digits h h' hb
 unfold isD;simp;omega
theorem dc_dec:∀ (n:Nat) (c:Int),c.toNat≤n→0≤c→c≤99999→Lib.decFrom 0 (dc c)=some c.toNat:=by
 have dig:∀ d:Nat,d<10→isD (UInt8.ofNat (48+d))=true∧(UInt8.ofNat (48+d)).toNat-48=d:=by
  intro d hd
  unfold isD
  rw[UInt8.toNat_ofNat_of_lt' (by show 48+d<256;omega)]
  simp;omega
 intro n
 induction n with
 | zero =>
  intro c h1 h2 h3
  obtain rfl:c=0:=by omega
  rw[dc_small (by omega) (by omega)];rfl
 | succ n ih =>
  intro c h1 h2 h3
  by_cases h:c<10
  ·rw[dc_small h2 h]
   have:=decFrom_snoc [] 0 0 _ rfl (dig c.toNat (by omega)).1
   rw[List.nil_append,(dig c.toNat (by omega)).2] at this
   rw[this];simp
  ·rw[dc_big (by omega)]
   have:=decFrom_snoc _ 0 _ _ (ih (c / 10) (by omega) (by omega) (by omega)) (dig (c.toNat % 10) (by omega)).1
   rw[(dig (c.toNat % 10) (by omega)).2] at this
   rw[this]
   congr 1
   omega
def noD (r:Bs):Prop:=∀ c s,r=c::s→isD c=false
theorem rn_dc {c:Int}(h:0≤c)(h':c≤99999){r:Bs}(hr:noD r):rn (dc c++r)=(c,r,true):=by
 have hd:=dc_isD h h'
 have hl:=dc_length h h'
 have ht:(dc c++r).takeWhile isD=dc c:=by
  rw[List.takeWhile_append_of_pos hd]
  cases r with
  | nil=>simp
  | cons d s=>rw[List.takeWhile_cons_of_neg (by simp[hr d s rfl])];simp
 have hdr:(dc c++r).dropWhile isD=r:=by
  rw[List.dropWhile_append_of_pos hd]
  cases r with
  | nil=>simp
  | cons d s=>rw[List.dropWhile_cons_of_neg (by simp[hr d s rfl])]
 unfold rn
 rw[ht,hdr,atoi_digits hd (by omega) (by intro e;rw[e] at hl;simp at hl) (dc_dec _ c (Nat.le_refl _) h h')]
 simp
 omega
theorem rn_ok {l:Bs}(h:(rn l).2.2=true):0≤(rn l).1∧(rn l).1≤99999∧(rn l).2.1.length<l.length:=by
 have hall:∀ b ∈ l.takeWhile isD,isD b=true:=fun b hb=>List.all_eq_true.1 List.all_takeWhile b hb
 have hlen:(l.takeWhile isD).length+(l.dropWhile isD).length=l.length:=by rw[← List.length_append,List.takeWhile_append_dropWhile]
 unfold rn at h ⊢
 simp only[Bool.and_eq_true,decide_eq_true_eq] at h ⊢
 obtain⟨h1,h2⟩:=h
 have h0:l.takeWhile isD≠[]:=by
  intro e
  rw[e] at h1
  have:(atoiV (ba [])).2=false:=by
   unfold atoiV
   rw[ba_data]
   rfl
  rw[this] at h1;cases h1
 obtain⟨n,hn⟩:=decFrom_all (l.takeWhile isD) 0 hall
 rw[atoi_digits hall (by omega) h0 hn]
 have hb:=Lib.decFrom_lt _ _ _ hn
 have hp:10 ^ (l.takeWhile isD).length≤10 ^ 5:=Nat.pow_le_pow_right (by omega) h2
 have:0<(l.takeWhile isD).length:=List.length_pos_iff.2 h0
 refine⟨by show (0:Int)≤(n:Int);omega,by show (n:Int)≤99999;omega,by omega⟩
end Go.Proofs.YtbdbldhpglponaaDoor.P
namespace Go.Proofs.YtbdbldhpglponaaDoor.P
open OM Go.RowKit Go.Proofs.YtbdbldhpglponaaDoorW.PrintWords Go.Proofs.YtbdbldhpglponaaDoorW.PrintLast Go.Proofs.YtbdbldhpglponaaDoorW.PrintMore
set_option linter.unusedVariables false
def dval:Nat→Bs→Nat
 | a,[]=>a
 | a,b::l=>dval (a*10+(b.toNat-48)) l
theorem dval_snoc:∀ (l:Bs) (a:Nat) (b:UInt8),dval a (l++[b])=dval a l*10+(b.toNat-48):=by
 intro l
 induction l with
 | nil=>intro a b;rfl
 | cons c l ih=>intro a b;exact ih _ b
theorem isD_iff {b:UInt8}:isD b=true ↔ 48≤b.toNat∧b.toNat≤57:=by unfold isD;simp
theorem dval_lt:∀ (l:Bs) (a:Nat),(∀ b ∈ l,isD b=true)→dval a l<(a+1)*10 ^ l.length:=by
 intro l
 induction l with
 | nil=>intro a _;show a<(a+1)*1;omega
 | cons c l ih =>
  intro a h
  have h1:=isD_iff.1 (h c (by simp))
  have h2:=ih (a*10+(c.toNat-48)) (fun b hb=>h b (by simp[hb]))
  have h3:(a*10+(c.toNat-48)+1)*10 ^ l.length≤((a+1)*10)*10 ^ l.length:=Nat.mul_le_mul_right _ (by omega)
  rw[Nat.mul_assoc,← Nat.pow_succ'] at h3
  exact Nat.lt_of_lt_of_le h2 h3
theorem dval_four {q:Bs}(h:∀ b ∈ q,isD b=true)(hl:q.length≤4):dval 0 q≤9999:=by
 have h1:=dval_lt q 0 h
 have h2:10 ^ q.length≤10 ^ 4:=Nat.pow_le_pow_right (by omega) hl
 omega
def dgo (q r:Bs):Option (Int × Bs):=match q with
 | []=>none
 | b::s=>if b=48 then none else some ((dval 0 (b::s):Int),r)
def dg (l:Bs):Option (Int × Bs):=dgo ((l.take 4).takeWhile isD) (l.drop ((l.take 4).takeWhile isD).length)
def dt (s:Bs)(i:Int)(r:Option (Int × Bs)):Int × Int:=match r with
 | none=>(-1,i)
 | some (n,r)=>(n,(s.length:Int)-(r.length:Int))
theorem dg_stop {q r:Bs}(h:∀ b ∈ q,isD b=true)(hl:q.length≤4)(hr:q.length=4∨noD r):dg (q++r)=dgo q r:=by
 have e:((q++r).take 4).takeWhile isD=q:=by
  rw[List.take_append,List.take_of_length_le hl,List.takeWhile_append_of_pos h]
  rcases hr with hr | hr
  ·rw[hr];simp
  ·cases r with
   | nil=>simp
   | cons c s =>
    cases hn:4-q.length with
    | zero=>simp
    | succ n=>rw[List.take_succ_cons,List.takeWhile_cons_of_neg (by simp[hr c s rfl])];simp
 unfold dg
 rw[e,List.drop_left]
theorem dg_ok {l:Bs}{n:Int}{r:Bs}(h:dg l=some (n,r)):0≤n∧r.length<l.length∧∃ p,l=p++r:=by
 unfold dg at h
 obtain⟨t,ht⟩:((l.take 4).takeWhile isD) <+: l:=(List.takeWhile_prefix isD).trans (List.take_prefix 4 l)
 generalize (l.take 4).takeWhile isD=q at *
 subst ht
 rw[List.drop_left] at h
 cases q with
 | nil=>cases h
 | cons b s =>
  unfold dgo at h
  simp only at h
  split at h
  ·cases h
  ·injection h with h
   injection h with h1 h2
   subst h1;subst h2
   exact⟨by omega,by simp;omega,_,rfl⟩
theorem dc_four:∀ (n:Nat) (c:Int),c.toNat≤n→1≤c→c≤99999→(∃ b s,dc c=b::s∧b≠48)∧dval 0 (dc c)=c.toNat:=by
 have dig:∀ d:Nat,d<10→(UInt8.ofNat (48+d)).toNat=48+d:=by
  intro d hd
  exact UInt8.toNat_ofNat_of_lt' (by show 48+d<256;omega)
 intro n
 induction n with
 | zero=>intro c h1 h2 h3;omega
 | succ n ih =>
  intro c h1 h2 h3
  by_cases h:c<10
  ·rw[dc_small (by omega) h]
   refine⟨⟨_,[],rfl,?_⟩,?_⟩
   ·intro q
    have:=congrArg UInt8.toNat q
    rw[dig c.toNat (by omega)] at this
    have e:(48:UInt8).toNat=48:=rfl
    omega
   ·show 0*10+((UInt8.ofNat (48+c.toNat)).toNat-48)=_
    rw[dig c.toNat (by omega)];omega
  ·obtain⟨⟨b,s,e1,e2⟩,e3⟩:=ih (c / 10) (by omega) (by omega) (by omega)
   rw[dc_big (by omega)]
   refine⟨⟨b,s++[_],by rw[e1];rfl,e2⟩,?_⟩
   rw[dval_snoc,e3,dig (c.toNat % 10) (by omega)]
   omega
theorem dc_le4 {c:Int}(h:0≤c)(h':c≤9999):(dc c).length≤4:=by
 have one:∀ c:Int,0≤c→c<10→(dc c).length=1:=by intro c h1 h2;rw[dc_small h1 h2];rfl
 have up:∀ (c:Int) (n:Nat),0≤c→((dc (c / 10)).length≤n)→1≤n→(dc c).length≤n+1:=by
  intro c n h1 h2 h3
  by_cases g:c<10
  ·rw[one c h1 g];omega
  ·rw[dc_big (by omega),List.length_append];simpa using h2
 exact up c 3 h (up (c / 10) 2 (by omega) (up (c / 10 / 10) 1 (by omega) (by rw[one _ (by omega) (by omega)];omega) (by omega)) (by omega)) (by omega)
theorem dg_back {c:Int}(h:1≤c)(h':c≤9999){r:Bs}(hr:noD r):dg (dc c++r)=some (c,r):=by
 rw[dg_stop (dc_isD (by omega) (by omega)) (dc_le4 (by omega) h') (.inr hr)]
 obtain⟨⟨b,s,e1,e2⟩,e3⟩:=dc_four _ c (Nat.le_refl _) h (by omega)
 rw[e1] at e3 ⊢
 unfold dgo
 simp only
 rw[if_neg e2,e3]
 congr 1
 congr 1
 omega
theorem digits_e {α:Type}(p q r:Bs)(hl:(p++(q++r)).length≤2000000){x1 x7:Int}(h1:x1=(p.length:Int)+q.length)(h7:x7=(p.length:Int)) :
 (if x1=x7 then(some ((-1),x7)) else(if 0≤x7 then(if x7<((ba (p++(q++r))).size:Int) then(if(bt (ba (p++(q++r))) x7)=48 then(some ((-1),x7)) else(some ((dval 0 q:Int),x1))) else none) else none))=some (dt (p++(q++r)) x7 (dgo q r)):=by
 cases q with
 | nil=>rw[if_pos (by subst h1;subst h7;simp)];rfl
 | cons b s =>
  rw[if_neg (by subst h1;subst h7;simp;omega),if_pos (by omega),if_pos (by rw[ba_size];simp;omega),List.cons_append,bt_ba p (s++r) b h7]
  unfold dgo dt
  by_cases hb:b=48
  ·subst hb
   have e:((48:UInt8).toNat:Int)=48:=rfl
   rw[if_pos e];simp
  ·have:¬ (b.toNat:Int)=48:=by
    intro q;apply hb
    apply UInt8.toNat_inj.1
    have e:(48:UInt8).toNat=48:=rfl
    omega
   rw[if_neg this]
   simp only[hb,if_false]
   congr 2
   subst h1
   simp;omega
theorem digits_lp (p:Bs):∀ (r q:Bs),(∀ b ∈ q,isD b=true)→q.length≤4→(p++(q++r)).length≤2000000 →
 Tl (fun k=>spec_l1Digits.l0 k (ba (p++(q++r))) ((p.length:Int)+q.length) (dval 0 q) (p.length:Int)) (dt (p++(q++r)) (p.length:Int) (dg (q++r))):=by
 intro r
 induction r with
 | nil =>
  intro q h1 h2 h3
  refine Tl.s (fun k=>by rw[spec_l1Digits.l0]) ?_
  refine Tl.n (by rw[ba_size];simp) ?_
  rw[dg_stop h1 h2 (.inr (by intro c s e;cases e))]
  exact Tl.c (digits_e (α:=Int) p q [] h3 rfl rfl)
 | cons c s ih =>
  intro q h1 h2 h3
  have h3':=h3
  simp only[List.length_append,List.length_cons] at h3'
  refine Tl.s (fun k=>by rw[spec_l1Digits.l0]) ?_
  refine Tl.p (by rw[ba_size];simp;omega) ?_
  refine Tl.p (by omega) ?_
  have hb:bt (ba (p++(q++c::s))) ((p.length:Int)+q.length)=(c.toNat:Int):=by
   rw[← List.append_assoc];exact bt_ba (p++q) s c (by simp)
  by_cases g1:(c.toNat:Int)≥48
  ·rw[hb]
   refine Tl.p g1 ?_
   by_cases g2:(c.toNat:Int)≤57
   ·refine Tl.p g2 ?_
    have hc:isD c=true:=isD_iff.2 ⟨by omega,by omega⟩
    rw[wi_ (i:=(p.length:Int)+4) (by omega) (by omega)]
    by_cases g3:(p.length:Int)+q.length<(p.length:Int)+4
    ·refine Tl.p g3 ?_
     have hd:=dval_four h1 h2
     rw[wi_ (i:=(p.length:Int)+q.length+1) (by omega) (by omega),show ((c.toNat:Int)-48) % 256=(c.toNat:Int)-48 by omega,wi_ (i:=10*(dval 0 q:Int)) (by omega) (by omega),wi_ (by omega) (by omega)]
     have:=ih (q++[c]) (fun b hb=>by simp at hb;rcases hb with hb | hb;exact h1 b hb;rw[hb];exact hc) (by simp;omega) (by rw[← snoc];exact h3)
     rw[← snoc,dval_snoc] at this
     rw[show ((q++[c]).length:Int)=(q.length:Int)+1 by simp,← Int.add_assoc,show ((dval 0 q*10+(c.toNat-48):Nat):Int)=10*(dval 0 q:Int)+((c.toNat:Int)-48) by omega] at this
     exact this
    ·refine Tl.n g3 ?_
     rw[dg_stop h1 h2 (.inl (by omega))]
     exact Tl.c (by exact digits_e (α:=Int) p q (c::s) h3 rfl rfl)
   ·refine Tl.n g2 ?_
    rw[dg_stop h1 h2 (.inr (by intro d t e;injection e with e1 e2;subst e1;cases hc:isD c with | false=>rfl | true=>have:=isD_iff.1 hc;omega))]
    exact Tl.c (digits_e (α:=Int) p q (c::s) h3 rfl rfl)
  ·rw[hb]
   refine Tl.n g1 ?_
   rw[dg_stop h1 h2 (.inr (by intro d t e;injection e with e1 e2;subst e1;cases hc:isD c with | false=>rfl | true=>have:=isD_iff.1 hc;omega))]
   exact Tl.c (digits_e (α:=Int) p q (c::s) h3 rfl rfl)
def At (s l:Bs)(i:Int):Prop:=(∃ p,s=p++l)∧i=(s.length:Int)-(l.length:Int)
theorem At.range {s l:Bs}{i:Int}(h:At s l i):0≤i∧i≤(s.length:Int)∧l.length≤s.length:=by
 obtain⟨⟨p,rfl⟩,rfl⟩:=h
 simp only[List.length_append];omega
theorem At.of {s l p:Bs}(r:Bs){i j:Int}(h:At s l i)(e:l=p++r)(hj:j=i+p.length):At s r j:=by
 obtain⟨⟨q,rfl⟩,rfl⟩:=h
 subst e
 refine⟨⟨q++p,by simp⟩,?_⟩
 simp only[List.length_append] at hj ⊢;omega
theorem At.one {s r:Bs}{c:UInt8}{i:Int}(h:At s (c::r) i):At s r (i+1):=At.of (p:=[c]) r h rfl rfl
theorem At.byte {s r:Bs}{c:UInt8}{i:Int}(h:At s (c::r) i):bt (ba s) i=(c.toNat:Int)∧0≤i∧i<((ba s).size:Int):=by
 have:=h.range
 obtain⟨⟨p,rfl⟩,h2⟩:=h
 have hi:i=(p.length:Int):=by simp only[List.length_append] at h2;omega
 refine⟨bt_ba p r c hi,by omega,?_⟩
 rw[ba_size,h2];simp;omega
theorem At.nil {s:Bs}{i:Int}(h:At s [] i):i=((ba s).size:Int):=by
 obtain⟨_,rfl⟩:=h
 rw[ba_size];simp
theorem digits_ev {s l:Bs}{i:Int}(h:At s l i)(hs:s.length≤2000000):Tl (fun k=>spec_l1Digits.f k (ba s) i) (dt s i (dg l)):=by
 obtain⟨⟨p,rfl⟩,h2⟩:=h
 have hi:i=(p.length:Int):=by simp only[List.length_append] at h2;omega
 subst hi
 have:=digits_lp p l [] (fun b hb=>by cases hb) (Nat.zero_le _) hs
 rw[show ((p.length:Int)+(([]:Bs).length:Int))=(p.length:Int) from Int.add_zero _] at this
 exact this
end Go.Proofs.YtbdbldhpglponaaDoor.P
namespace Go.Proofs.YtbdbldhpglponaaDoor.P
open OM Go.RowKit Go.Proofs.YtbdbldhpglponaaDoorW.PrintWords Go.Proofs.YtbdbldhpglponaaDoorW.PrintLast Go.Proofs.YtbdbldhpglponaaDoorW.PrintMore
set_option linter.unusedVariables false
theorem sameR_l:∀ (a b p q:List Int),p.length=q.length→((p++a).length:Int)≤1000000000→Tl (fun k=>spec_l1Same.l0 k (p++a) (q++b) (p.length:Int)) (decide (a=b)):=by
 intro a
 induction a with
 | nil =>
  intro b p q h1 h2
  refine Tl.s (fun k=>by rw[spec_l1Same.l0]) ?_
  refine Tl.n (by simp) ?_
  refine Tl.s (fun k=>by rw[spec_l1Same.j1]) ?_
  refine Tl.n (by simp) ?_
  refine Tl.to (Tl.w _) ?_
  cases b with
  | nil=>simp[h1]
  | cons y b=>simp;omega
 | cons x a ih =>
  intro b p q h1 h2
  have h2':=h2
  simp only[List.length_append,List.length_cons] at h2'
  refine Tl.s (fun k=>by rw[spec_l1Same.l0]) ?_
  refine Tl.p (by simp<;>omega) ?_
  refine Tl.s (fun k=>by rw[spec_l1Same.j1]) ?_
  cases b with
  | nil =>
   refine Tl.n (by simp<;>omega) ?_
   refine Tl.to (Tl.w _) ?_
   simp;omega
  | cons y b =>
   refine Tl.p (by simp<;>omega) ?_
   refine Tl.p (by omega) ?_
   refine Tl.p (by simp<;>omega) ?_
   refine Tl.p (by simp<;>omega) ?_
   rw[rd_mid p a x rfl,rd_mid q b y (by rw[h1])]
   by_cases h:x=y
   ·refine Tl.p h ?_
    rw[wi_ (by omega) (by omega),snoc p,snoc q]
    have:=ih b (p++[x]) (q++[y]) (by simp[h1]) (by rw[← snoc];exact h2)
    rw[show ((p++[x]).length:Int)=(p.length:Int)+1 by simp] at this
    refine Tl.to this ?_
    simp[h]
   ·refine Tl.n h ?_
    refine Tl.to (Tl.w _) ?_
    simp[h]
theorem sameR_ev {a b:List Int}(h:(a.length:Int)≤1000000000):Tl (fun k=>spec_l1Same.f k a b) (decide (a=b)):=sameR_l a b [] [] rfl h
end Go.Proofs.YtbdbldhpglponaaDoor.P
namespace Go.Proofs.YtbdbldhpglponaaDoor.P
open OM Go.RowKit Go.Proofs.YtbdbldhpglponaaDoorW.PrintWords Go.Proofs.YtbdbldhpglponaaDoorW.PrintLast Go.Proofs.YtbdbldhpglponaaDoorW.PrintMore
set_option linter.unusedVariables false
theorem csT (p r:O)(c:Int)(e:O):rd (cs (p++⟨c,e⟩::r)) (p.length:Int)=c:=by rw[cs_append];exact rd_mid (cs p) (cs r) c (by rw[cl_])
theorem esT (p r:O)(c:Int)(e:O):rd_L1 (es (p++⟨c,e⟩::r)) (p.length:Int)=row e:=by rw[es_append];exact rdL_mid (es p) (es r) (row e) (by rw[el_])
theorem l1Text_l:∀ (r p:O),(∀ (c:Int) (e:O),(⟨c,e⟩:Tm) ∈ r→Tl (fun k=>spec_l1Text.f k (row e)) (ba (tx e)))→Cf (p++r)→(∀ t ∈ r,1≤t.f0∧t.f0≤9999∧Vd t.f1)→size (p++r)≤1000 →
 Tl (fun k=>spec_l1Text.l0 k (cs (p++r)) (es (p++r)) (ba (acc p)) (p.length:Int)) (ba (acc (p++r))):=by
 intro r
 induction r with
 | nil =>
  intro p ih h1 h2 h3
  refine Tl.s (fun k=>by rw[spec_l1Text.l0]) ?_
  refine Tl.n (by rw[cl_];simp) ?_
  rw[List.append_nil]
  exact Tl.w _
 | cons t r ihr =>
  intro p ih h1 h2 h3
  obtain⟨c,e⟩:=t
  obtain⟨c0,c1,ve⟩:=h2 ⟨c,e⟩ (by simp)
  have c0:1≤c:=c0
  have c1:c≤9999:=c1
  have ve:Vd e:=ve
  have cf:=Cf_of ve.1 ve.2.1
  have hz:=h3
  rw[sa_,sc_] at hz
  have:=sp_ p
  have:=sp_ e
  have:=sp_ r
  have hl:=ll_ p
  have hle:=tx_length cf
  have hdc:=dc_length (c:=c) (by omega) (by omega)
  have hac:=acc_length (Cf_append.1 h1).1
  have hcs:((cs (p++⟨c,e⟩::r)).length:Int)=p.length+1+r.length:=by rw[cl_];simp;omega
  have hes:((es (p++⟨c,e⟩::r)).length:Int)=p.length+1+r.length:=by rw[el_];simp;omega
  have hrl:((row e).length:Int)=size e:=rl_ e
  refine Tl.s (fun k=>by rw[spec_l1Text.l0]) ?_
  refine Tl.p (by omega) ?_
  have go:∀ b:ByteArray,b=ba (acc (p++[⟨c,e⟩]))→Tl (fun k=>spec_l1Text.l0 k (cs (p++⟨c,e⟩::r)) (es (p++⟨c,e⟩::r)) b (wrap64 ((p.length:Int)+1))) (ba (acc (p++⟨c,e⟩::r))):=by
   intro b hb
   subst hb
   rw[wi_ (by omega) (by omega),snoc p]
   have:=ihr (p++[⟨c,e⟩]) (fun c' e' h=>ih c' e' (by simp[h])) (by rw[← snoc];exact h1) (fun t h=>h2 t (by simp[h])) (by rw[← snoc];exact h3)
   rw[show ((p++[(⟨c,e⟩:Tm)]).length:Int)=(p.length:Int)+1 by simp] at this
   exact this
  have term:∀ a:Bs,(if p=[] then [] else acc p++[43])=a→Tl (fun k=>spec_l1Text.j1 k (cs (p++⟨c,e⟩::r)) (es (p++⟨c,e⟩::r)) (ba a) (p.length:Int)) (ba (acc (p++⟨c,e⟩::r))):=by
   intro a ha
   have hal:(a.length:Int)≤20000:=by rw[← ha];split<;>simp<;>omega
   have hacc:acc (p++[⟨c,e⟩])=a++trm c e (tx e):=by rw[acc_snoc,ha]
   refine Tl.s (fun k=>by rw[spec_l1Text.j1]) ?_
   refine Tl.p (by omega) ?_
   refine Tl.p (by omega) ?_
   rw[esT,csT]
   refine Tl.b (sameR_ev (by omega)) ?_
   by_cases he:e=[]
   ·subst he
    refine Tl.p (by rw[row_nil];rfl) ?_
    refine Tl.p (by omega) ?_
    refine Tl.b (number_ev (by omega) (by omega)) ?_
    refine Tl.p (by rw[ba_size,ba_size];omega) ?_
    refine Tl.n (by rw[row_nil];simp) ?_
    refine go _ ?_
    rw[hacc,ba_append];rfl
   ·have hne:size e≥3:=by
     cases e with
     | nil=>exact absurd rfl he
     | cons u s=>obtain⟨d,g⟩:=u;rw[sc_];have:=sp_ g;have:=sp_ s;omega
    refine Tl.n (by omega) ?_
    have tail:∀ (b:Bs),trm c e (tx e)=b++(if c>1 then 42::dc c else [])→(b.length:Int)≤100000→∀ (B:ByteArray) (g:Nat→Option ByteArray),B=ba (a++b) →
     (∀ k,g k=if((row e).length:Int)>1 then(if(p.length:Int)<((cs (p++⟨c,e⟩::r)).length:Int) then(if c>1 then(if B.size+1≤9223372036854775807 then((spec_l1Number.f k c).bind fun t=>(if(B++ba [42]).size+t.size≤9223372036854775807 then spec_l1Text.l0 k (cs (p++⟨c,e⟩::r)) (es (p++⟨c,e⟩::r)) ((B++ba [42])++t) (wrap64 ((p.length:Int)+1)) else none)) else none) else spec_l1Text.l0 k (cs (p++⟨c,e⟩::r)) (es (p++⟨c,e⟩::r)) B (wrap64 ((p.length:Int)+1))) else none) else spec_l1Text.l0 k (cs (p++⟨c,e⟩::r)) (es (p++⟨c,e⟩::r)) B (wrap64 ((p.length:Int)+1))) →
     Tl g (ba (acc (p++⟨c,e⟩::r))):=by
     intro b hb hbl B g hB hg
     subst hB
     refine Tl.congr hg ?_
     refine Tl.p (by omega) ?_
     refine Tl.p (by omega) ?_
     by_cases h:c>1
     ·refine Tl.p h ?_
      refine Tl.p (by rw[ba_size];simp;omega) ?_
      refine Tl.b (number_ev (by omega) (by omega)) ?_
      refine Tl.p (by rw[ba_append,ba_size,ba_size];simp;omega) ?_
      refine go _ ?_
      rw[hacc,hb,if_pos h,ba_append,ba_append]
      simp
     ·refine Tl.n h ?_
      refine go _ ?_
      rw[hacc,hb,if_neg h,List.append_nil]
    by_cases h1':e=[⟨1,[]⟩]
    ·refine Tl.p (by rw[h1'];simp[row,flat]) ?_
     refine Tl.p (by rw[ba_size];omega) ?_
     refine tail [119] ?_ (by simp) _ _ (by rw[← ba_append];rfl) (fun k=>rfl)
     rw[trm_ne _ _ he,if_pos ((tx_eq_one ve).2 h1')]
    ·refine Tl.n (by rw[decide_eq_true_iff,row_is (x:=[⟨1,[]⟩]) (by simp[row,flat])];exact h1') ?_
     have n1:¬ tx e=[49]:=fun h=>h1' ((tx_eq_one ve).1 h)
     refine Tl.b (specOrdNumber_ev (by omega)) ?_
     have hnv:numv (row e)=numOf e:=by unfold numv;rw[or_ ve]
     rw[hnv]
     have sub:=ih c e (by simp)
     have j2:∀ v:Bool,(v=true ↔ (tx e=[119]∨isN e=true))→Tl (fun k=>spec_l1Text.j2 k (cs (p++⟨c,e⟩::r)) (es (p++⟨c,e⟩::r)) (ba a) (p.length:Int) v) (ba (acc (p++⟨c,e⟩::r))):=by
      intro v hv
      refine Tl.s (fun k=>by rw[spec_l1Text.j2]) ?_
      rw[esT,csT]
      cases v with
      | true =>
       refine Tl.p rfl ?_
       refine Tl.p (by rw[ba_size];omega) ?_
       refine Tl.p (by omega) ?_
       refine Tl.p (by omega) ?_
       refine Tl.b sub ?_
       refine Tl.p (by rw[show (⟨#[119,94]⟩:ByteArray)=ba [119,94] from rfl,ba_append,ba_size,ba_size];simp;omega) ?_
       refine tail ([119,94]++tx e) ?_ (by simp;omega) _ _ (by rw[← List.append_assoc,← ba_append,← ba_append];rfl) (fun k=>rfl)
       rw[trm_ne _ _ he,if_neg n1,if_pos (hv.1 rfl)]
      | false =>
       have hn:¬ (tx e=[119]∨isN e=true):=fun h=>by have:=hv.2 h;simp at this
       refine Tl.n (by simp) ?_
       refine Tl.p (by rw[ba_size];omega) ?_
       refine Tl.p (by omega) ?_
       refine Tl.p (by omega) ?_
       refine Tl.b sub ?_
       refine Tl.p (by rw[show (⟨#[119,94,40]⟩:ByteArray)=ba [119,94,40] from rfl,ba_append,ba_size,ba_size];simp;omega) ?_
       refine Tl.p (by rw[show (⟨#[119,94,40]⟩:ByteArray)=ba [119,94,40] from rfl,ba_append,ba_append,ba_size];simp;omega) ?_
       refine tail ([119,94,40]++tx e++[41]) ?_ (by simp;omega) _ _ (by rw[← List.append_assoc,← List.append_assoc,← ba_append,← ba_append,← ba_append];rfl) (fun k=>rfl)
       rw[trm_ne _ _ he,if_neg n1,if_neg hn]
     by_cases h2':isN e=true
     ·refine Tl.p ((numOf_pos ve).2 h2') ?_
      exact j2 true (by simp[h2'])
     ·refine Tl.n (fun h=>h2' ((numOf_pos ve).1 h)) ?_
      refine Tl.b (sameR_ev (by omega)) ?_
      refine j2 _ ?_
      rw[decide_eq_true_iff,row_is (x:=[⟨1,[⟨1,[]⟩]⟩]) (by simp[row,flat]),tx_eq_w ve]
      simp[h2']
  by_cases hp:p=[]
  ·subst hp
   refine Tl.n (by simp) ?_
   have:acc ([]:O)=[]:=by unfold acc;rw[txs_nil];rfl
   rw[this]
   exact term [] (by simp)
  ·have:0<p.length:=by cases p with | nil=>exact absurd rfl hp | cons u s=>simp
   refine Tl.p (by omega) ?_
   refine Tl.p (by rw[ba_size];omega) ?_
   rw[show (⟨#[43]⟩:ByteArray)=ba [43] from rfl,ba_append]
   exact term _ (by rw[if_neg hp])
theorem l1Text_ev:∀ {x:O},Vd x→Tl (fun k=>spec_l1Text.f k (row x)) (ba (tx x)):=by
 have:∀ (n:Nat) (x:O),(size x).toNat≤n→Vd x→Tl (fun k=>spec_l1Text.f k (row x)) (ba (tx x)):=by
  intro n
  induction n with
  | zero=>intro x h;have:=sp_ x;omega
  | succ n ih =>
   intro x h1 h2
   have hz:=h2.2.2
   refine Tl.s (fun k=>by rw[spec_l1Text.f]) ?_
   refine Tl.b (terms_ev (by omega)) ?_
   by_cases hx:x=[]
   ·subst hx
    exact Tl.p rfl (Tl.to (Tl.w _) (by rw[tx_nil];rfl))
   ·refine Tl.n (by rw[cl_];cases x with | nil=>exact absurd rfl hx | cons u s=>simp;omega) ?_
    have mem:∀ (x:O),Vd x→∀ t ∈ x,1≤t.f0∧t.f0≤9999∧Vd t.f1∧size t.f1<size x:=by
     intro x
     induction x with
     | nil=>intro _ t ht;cases ht
     | cons u s ih =>
      intro hv t ht
      obtain⟨d,g⟩:=u
      obtain⟨v1,v2,v3⟩:=Vd_cons hv
      rw[sc_]
      have:=sp_ s
      have:=sp_ g
      rcases List.mem_cons.1 ht with rfl | ht
      ·exact⟨v3.1,v3.2,v1,by show size g<_;omega⟩
      ·obtain⟨a,b,c,d⟩:=ih v2 t ht
       exact⟨a,b,c,by omega⟩
    have:=l1Text_l x [] (fun c e hm=>?_) (Cf_of h2.1 h2.2.1) (fun t ht=>⟨(mem x h2 t ht).1,(mem x h2 t ht).2.1,(mem x h2 t ht).2.2.1⟩) (by rw[List.nil_append];omega)
    ·have e0:acc ([]:O)=[]:=by unfold acc;rw[txs_nil];rfl
     rw[List.nil_append,acc_full hx,e0] at this
     exact this
    ·obtain⟨_,_,v,s⟩:=mem x h2 _ hm
     have s:size e<size x:=s
     exact ih e (by have:=sp_ e;omega) v
 intro x h
 exact this _ x (Nat.le_refl _) h
def textv (l:List Int):Bs:=match ordOf l with
 | some x=>tx x
 | none=>[]
theorem textv_some {l:List Int}{x:O}(h:ordOf l=some x):textv l=tx x:=by unfold textv;rw[h]
theorem textv_none {l:List Int}(h:ordOf l=none):textv l=[]:=by unfold textv;rw[h]
theorem textv_length (l:List Int):(textv l).length≤720:=by
 cases h:ordOf l with
 | none=>rw[textv_none h];simp
 | some x =>
  obtain⟨_,v⟩:=os_ h
  rw[textv_some h]
  have:=(tx_length (Cf_of v.1 v.2.1)).1
  have:=v.2.2
  omega
theorem specOrdText_ev {l:List Int}(hl:(l.length:Int)≤100000000):Tl (fun k=>spec_OrdText.f k l) (ba (textv l)):=by
 cases h:ordOf l with
 | none=>rw[textv_none h];exact Tl.b (invalid_ev hl h) (Tl.n (by simp) (Tl.w _))
 | some x =>
  obtain⟨e,v⟩:=os_ h
  rw[textv_some h]
  refine Tl.b (valid_ev h) ?_
  refine Tl.p rfl ?_
  rw[e]
  exact Tl.b (l1Text_ev v) (Tl.w _)
theorem implOrdText_ev {l:List Int}:Tl (fun k=>impl_OrdText.f k l) (ba (textv l)):=by
 cases h:ordOf l with
 | none =>
  rw[textv_none h]
  refine Tl.b ordOf_ev ?_
  refine Tl.n (by rw[ordv_none h];simp) ?_
  exact Tl.w _
 | some x =>
  obtain⟨e,v⟩:=os_ h
  rw[textv_some h]
  refine Tl.b (ord_ev h) ?_
  refine Tl.p rfl ?_
  have:=v.2.2
  exact Tl.b (textOf_ev (Cf_of v.1 v.2.1) (by show size x≤_;omega)) (Tl.w _)
end Go.Proofs.YtbdbldhpglponaaDoor.P
namespace Go.Proofs.YtbdbldhpglponaaDoor.P
open OM Go.RowKit Go.Proofs.YtbdbldhpglponaaDoorW.PrintWords Go.Proofs.YtbdbldhpglponaaDoorW.PrintLast Go.Proofs.YtbdbldhpglponaaDoorW.PrintMore
set_option linter.unusedVariables false
theorem Tl.ite {γ α:Type}(F:γ→α){c:Prop}[Decidable c]{f g:Nat→Option α}{a b:γ}(h:c→Tl f (F a))(h':¬ c→Tl g (F b)):Tl (fun k=>if c then f k else g k) (F (if c then a else b)):=by
 by_cases q:c
 ·have e:F (if c then a else b)=F a:=by rw[if_pos q]
  rw[e];exact Tl.p q (h q)
 ·have e:F (if c then a else b)=F b:=by rw[if_neg q]
  rw[e];exact Tl.n q (h' q)
theorem U.ite {γ α:Type}(F:γ→α){c:Prop}[Decidable c]{f g:Nat→Nat→Option α}{a b:γ}(h:c→U f (F a))(h':¬ c→U g (F b)):U (fun d k=>if c then f d k else g d k) (F (if c then a else b)):=by
 by_cases q:c
 ·have e:F (if c then a else b)=F a:=by rw[if_pos q]
  rw[e];exact U.pos q (h q)
 ·have e:F (if c then a else b)=F b:=by rw[if_neg q]
  rw[e];exact U.neg q (h' q)
abbrev Rt:=Int × O × Bs × Bool
abbrev Rs:=O × Bs × Bool
def tb (r:Rt):Int × O × ByteArray × Bool:=(r.1,r.2.1,ba r.2.2.1,r.2.2.2)
def sb (r:Rs):O × ByteArray × Bool:=(r.1,ba r.2.1,r.2.2)
def jv (a0 l:Bs)(c:Int)(e:O):Rt :=
 if(cut 42 l).2=true then(if(rn (cut 42 l).1).2.2=true then((rn (cut 42 l).1).1,e,(rn (cut 42 l).1).2.1,true) else(0,[],a0,false)) else(c,e,l,true)
def tp (l:Bs)(s:Rs):Rt:=if s.2.2=true then(if(cut 41 s.2.1).2=true then jv l (cut 41 s.2.1).1 1 s.1 else(0,[],l,false)) else(0,[],l,false)
def tq (sv:Bs→Rs)(l b:Bs):Rt :=
 if(cut 40 b).2=true then tp l (sv (b.drop 1)) else
  (if(cut 119 b).2=true then jv l (b.drop 1) 1 [⟨1,num 1⟩] else
   (if(rn b).2.2=true then jv l (rn b).2.1 1 (num (rn b).1) else(0,[],l,false)))
def tv (sv:Bs→Rs)(l:Bs):Rt :=
 if(cut 119 l).2=true then(if(cut 94 (cut 119 l).1).2=true then tq sv l (cut 94 (cut 119 l).1).1 else jv l (cut 119 l).1 1 (num 1))
 else((rn l).1,[],(rn l).2.1,(rn l).2.2)
def sl (t:Bs→Rt):Nat→Bs→O→Rs
 | 0,l,_=>([],l,false)
 | n + 1, l, x => if (t l).2.2.2 = true then
     (if(t l).1>0 then(if(cut 43 (t l).2.2.1).2=true then sl t n (cut 43 (t l).2.2.1).1 (x++[⟨(t l).1,(t l).2.1⟩]) else(x++[⟨(t l).1,(t l).2.1⟩],(t l).2.2.1,true))
      else(if(cut 43 (t l).2.2.1).2=true then sl t n (cut 43 (t l).2.2.1).1 x else(x,(t l).2.2.1,true)))
     else([],l,false)
def sv:Nat→Bs→Rs
 | 0,l=>([],l,false)
 | n+1,l=>sl (tv (sv n)) (l.length+1) l []
theorem cut_length (c:UInt8)(l:Bs):(cut c l).1.length≤l.length:=by
 rcases cut_cases c l with ⟨_,h⟩ | ⟨_,h⟩
 ·have:=congrArg List.length h;simp at this;omega
 ·rw[h];exact Nat.le_refl _
theorem cut_short {c:UInt8}{l:Bs}(h:(cut c l).2=true):l.length=(cut c l).1.length+1∧l.drop 1=(cut c l).1:=by
 rcases cut_cases c l with ⟨_,g⟩ | ⟨g,_⟩
 ·refine⟨?_,?_⟩
  ·have:=congrArg List.length g;simpa using this
  ·generalize (cut c l).1=r at g;rw[g];rfl
 ·rw[h] at g;cases g
theorem j0_ev {a0 l:Bs}(c:Int)(e:O)(hl:l.length≤1000000):Tl (fun k=>impl_readTerm.j0 k (ba a0) (ba l) c e) (tb (jv a0 l c e)):=by
 refine Tl.s (fun k=>by rw[impl_readTerm.j0]) ?_
 refine Tl.b (Tl.c (cut_eq 42 l)) ?_
 have:=cut_length 42 l
 unfold jv
 refine Tl.ite tb (fun h=>?_) (fun h=>?_)
 ·refine Tl.b (readNumber_ev (by omega)) ?_
  exact Tl.ite tb (fun h=>Tl.w _) (fun h=>Tl.w _)
 ·rcases cut_cases 42 l with ⟨g,_⟩ | ⟨_,g⟩
  ·exact absurd g h
  ·exact Tl.w _
theorem power_eq (e:O):impl_power.f e=some [⟨1,e⟩]:=rfl
theorem term_ev {s:Bs→Rs}{l:Bs}(hl:l.length≤1000000)(hs:∀ b:Bs,b.length<l.length→(s b).2.1.length≤1000000∧U (fun d k=>impl_readSum.d d k (ba b)) (sb (s b))) :
 U (fun d k=>impl_readTerm.f (impl_readSum.d d) k (ba l)) (tb (tv s l)):=by
 unfold impl_readTerm.f
 refine U.bind (U.const (cut_eq 119 l)) ?_
 unfold tv
 refine U.ite tb (fun h=>?_) (fun h=>?_)
 ·obtain⟨hl1,_⟩:=cut_short h
  refine U.bind (U.const (number_eq 1)) ?_
  refine U.bind (U.const (cut_eq 94 (cut 119 l).1)) ?_
  refine U.ite tb (fun h2=>?_) (fun h2=>?_)
  ·obtain⟨hl2,_⟩:=cut_short h2
   generalize hb:(cut 94 (cut 119 l).1).1=b at *
   refine U.bind (U.const (prefix_eq 40 b)) ?_
   unfold tq
   refine U.ite tb (fun h3=>?_) (fun h3=>?_)
   ·obtain⟨hl3,hd⟩:=cut_short h3
    refine U.pos (by show (1:Int)≤((ba b).size:Int);rw[ba_size];omega) ?_
    show U (fun d k=>(impl_readSum.d d k ((ba b).extract 1 (ba b).size)).bind _) _
    rw[ba_from]
    obtain⟨q1,q2⟩:=hs (b.drop 1) (by rw[List.length_drop];omega)
    refine U.bind q2 ?_
    unfold tp
    generalize s (b.drop 1)=x at *
    refine U.bind (U.const (cut_eq 41 x.2.1)) ?_
    refine U.ite tb (fun h4=>?_) (fun h4=>U.now _)
    refine U.ite tb (fun h5=>?_) (fun h5=>U.now _)
    have:=cut_length 41 x.2.1
    exact U.of (j0_ev 1 x.1 (by omega))
   ·refine U.bind (U.const (prefix_eq 119 b)) ?_
    refine U.ite tb (fun h4=>?_) (fun h4=>?_)
    ·obtain⟨hl4,hd⟩:=cut_short h4
     refine U.bind (U.const (number_eq 1)) ?_
     refine U.bind (U.const (power_eq _)) ?_
     refine U.pos (by show (1:Int)≤((ba b).size:Int);rw[ba_size];omega) ?_
     show U (fun d k=>impl_readTerm.j0 k (ba l) ((ba b).extract 1 (ba b).size) 1 _) _
     rw[ba_from]
     exact U.of (j0_ev 1 _ (by rw[List.length_drop];omega))
    ·refine U.bind (U.of (readNumber_ev (by omega))) ?_
     refine U.bind (U.const (number_eq _)) ?_
     refine U.ite tb (fun h5=>?_) (fun h5=>U.now _)
     have:=(rn_ok h5).2.2
     exact U.of (j0_ev 1 _ (by omega))
  ·rcases cut_cases 94 (cut 119 l).1 with ⟨g,_⟩ | ⟨_,g⟩
   ·exact absurd g h2
   ·exact U.of (j0_ev 1 _ (by omega))
 ·exact U.bind (U.of (readNumber_ev hl)) (U.now _)
def Sg (l:Bs)(r:Rs):Prop:=r.2.2=true→Cf r.1∧size r.1+6*(r.2.1.length:Int)≤6*(l.length:Int)+1∧r.2.1.length<l.length
def Tg (l:Bs)(r:Rt):Prop:=r.2.2.2=true→0≤r.1∧r.1≤99999∧Cf r.2.1∧size r.2.1+1+6*(r.2.2.1.length:Int)≤6*(l.length:Int)∧r.2.2.1.length<l.length
theorem Cf_num {c:Int}(h:0≤c)(h':c≤99999):Cf (num c):=by
 unfold num;split
 ·exact Cf_nil
 ·exact Cf_cons.2 ⟨h,h',Cf_nil,Cf_nil⟩
theorem jv_ok {l0 l:Bs}{c:Int}{e:O}(h:0≤c)(h':c≤99999)(he:Cf e)(hz:size e+1+6*(l.length:Int)≤6*(l0.length:Int))(hl:l.length<l0.length):Tg l0 (jv l0 l c e):=by
 unfold jv
 split
 ·split
  ·next g1 g2 =>
   intro _
   obtain⟨r1,r2,r3⟩:=rn_ok g2
   have:=cut_length 42 l
   exact⟨r1,r2,he,by show size e+1+6*((rn (cut 42 l).1).2.1.length:Int)≤_;omega,by show (rn (cut 42 l).1).2.1.length<_;omega⟩
  ·intro q;cases q
 ·intro _;exact⟨h,h',he,hz,hl⟩
theorem tv_ok {s:Bs→Rs}{l:Bs}(hs:∀ b:Bs,Sg b (s b)):Tg l (tv s l):=by
 unfold tv
 split
 ·next h =>
  obtain⟨hl1,_⟩:=cut_short h
  split
  ·next h2 =>
   obtain⟨hl2,_⟩:=cut_short h2
   generalize hb:(cut 94 (cut 119 l).1).1=b at *
   unfold tq
   split
   ·next h3 =>
    obtain⟨hl3,hd⟩:=cut_short h3
    have hq:=hs (b.drop 1)
    unfold tp
    generalize s (b.drop 1)=x at *
    split
    ·next h4 =>
     split
     ·next h5 =>
      obtain⟨q1,q2,q3⟩:=hq h4
      obtain⟨hl5,_⟩:=cut_short h5
      rw[List.length_drop] at q2 q3
      exact jv_ok (by omega) (by omega) q1 (by omega) (by omega)
     ·intro q;cases q
    ·intro q;cases q
   ·split
    ·next h4 =>
     obtain⟨hl4,hd⟩:=cut_short h4
     refine jv_ok (by omega) (by omega) (Cf_cons.2 ⟨by omega,by omega,Cf_num (by omega) (by omega),Cf_nil⟩) ?_ (by rw[List.length_drop];omega)
     have:=size_num 1
     rw[sc_,sn_,List.length_drop];omega
    ·split
     ·next h5 =>
      obtain⟨q1,q2,q3⟩:=rn_ok h5
      have:=size_num (rn b).1
      exact jv_ok (by omega) (by omega) (Cf_num q1 q2) (by omega) (by omega)
     ·intro q;cases q
  ·have:=size_num 1
   exact jv_ok (by omega) (by omega) (Cf_num (by omega) (by omega)) (by omega) (by omega)
 ·intro q
  obtain⟨q1,q2,q3⟩:=rn_ok q
  exact⟨q1,q2,Cf_nil,by show size []+1+6*((rn l).2.1.length:Int)≤_;rw[sn_];omega,q3⟩
theorem size_snoc (x e:O)(c:Int):size (x++[⟨c,e⟩])=size x+size e+1:=by rw[sa_,sc_,sn_];omega
theorem sl_ok {t:Bs→Rt}(ht:∀ b,Tg b (t b)):∀ (n:Nat) (l:Bs) (x:O),Cf x→(sl t n l x).2.2=true →
 Cf (sl t n l x).1∧size (sl t n l x).1+6*((sl t n l x).2.1.length:Int)≤6*(l.length:Int)+size x∧(sl t n l x).2.1.length<l.length:=by
 intro n
 induction n with
 | zero=>intro l x _ h;cases h
 | succ n ih =>
  intro l x hx h
  have hl:=ht l
  unfold sl at h ⊢
  generalize t l=r at *
  by_cases g1:r.2.2.2=true
  case neg=>rw[if_neg g1] at h;cases h
  obtain⟨q1,q2,q3,q4,q5⟩:=hl g1
  have hc:=cut_length 43 r.2.2.1
  have hy:Cf (x++[⟨r.1,r.2.1⟩]):=Cf_append.2 ⟨hx,Cf_cons.2 ⟨q1,q2,q3,Cf_nil⟩⟩
  have hs:=size_snoc x r.2.1 r.1
  have hp:=sp_ r.2.1
  rw[if_pos g1] at h ⊢
  by_cases g2:r.1>0
  ·rw[if_pos g2] at h ⊢
   by_cases g3:(cut 43 r.2.2.1).2=true
   ·rw[if_pos g3] at h ⊢
    obtain⟨a1,a2,a3⟩:=ih _ _ hy h
    exact⟨a1,by omega,by omega⟩
   ·rw[if_neg g3]
    exact⟨hy,by show size (x++[⟨r.1,r.2.1⟩])+6*(r.2.2.1.length:Int)≤_;omega,q5⟩
  ·rw[if_neg g2] at h ⊢
   by_cases g3:(cut 43 r.2.2.1).2=true
   ·rw[if_pos g3] at h ⊢
    obtain⟨a1,a2,a3⟩:=ih _ _ hx h
    exact⟨a1,by omega,by omega⟩
   ·rw[if_neg g3]
    exact⟨hx,by show size x+6*(r.2.2.1.length:Int)≤_;omega,q5⟩
theorem sv_ok:∀ (n:Nat) (l:Bs),Sg l (sv n l):=by
 intro n
 induction n with
 | zero=>intro l h;cases h
 | succ n ih =>
  intro l h
  have:=sl_ok (t:=tv (sv n)) (fun b=>tv_ok ih) (l.length+1) l [] Cf_nil h
  rw[sn_] at this
  exact this
theorem sv_rest:∀ (n:Nat) (l:Bs),(sv n l).2.1.length≤l.length:=by
 have hsl:∀ (t:Bs→Rt),(∀ b,Tg b (t b))→∀ (n:Nat) (l:Bs) (x:O),(sl t n l x).2.1.length≤l.length:=by
  intro t ht n
  induction n with
  | zero=>intro l x;exact Nat.le_refl _
  | succ n ih =>
   intro l x
   have hl:=ht l
   unfold sl
   generalize t l=r at *
   have hc:=cut_length 43 r.2.2.1
   by_cases g1:r.2.2.2=true
   ·obtain⟨q1,q2,q3,q4,q5⟩:=hl g1
    rw[if_pos g1]
    split<;>split
    ·exact Nat.le_trans (ih _ _) (by omega)
    ·show r.2.2.1.length≤_;omega
    ·exact Nat.le_trans (ih _ _) (by omega)
    ·show r.2.2.1.length≤_;omega
   ·rw[if_neg g1];exact Nat.le_refl _
 intro n l
 cases n with
 | zero=>exact Nat.le_refl _
 | succ n=>exact hsl _ (fun b=>tv_ok (sv_ok n)) _ _ _
theorem sum_lp {n:Nat}(ih:∀ b:Bs,b.length<n→b.length≤100000→U (fun d k=>impl_readSum.d d k (ba b)) (sb (sv n b))) :
 ∀ (m:Nat) (l:Bs) (x:O),l.length<m→l.length≤n→l.length≤100000→size x+6*(l.length:Int)≤1000000 →
  U (fun d k=>impl_readSum.l0 (impl_readTerm.f (impl_readSum.d d)) k (ba l) x) (sb (sl (tv (sv n)) m l x)):=by
 intro m
 induction m with
 | zero=>intro l x h;omega
 | succ m im =>
  intro l x h1 h2 h3 h4
  refine U.stepk (fun d k=>by rw[impl_readSum.l0]) ?_
  refine U.bind (term_ev (s:=sv n) (by omega) (fun b hb=>⟨by have:=sv_rest n b;omega,ih b (by omega) (by omega)⟩)) ?_
  have hl:Tg l (tv (sv n) l):=tv_ok (sv_ok n)
  unfold sl
  generalize tv (sv n) l=r at *
  have hc:=cut_length 43 r.2.2.1
  have hz:=ll_ x
  refine U.ite sb (fun g1=>?_) (fun g1=>U.now _)
  obtain⟨q1,q2,q3,q4,q5⟩:=hl g1
  have hs:=size_snoc x r.2.1 r.1
  have hp:=sp_ r.2.1
  refine U.ite sb (fun g2=>?_) (fun g2=>?_)
  ·refine U.pos (by omega) ?_
   refine U.bind (U.const rfl) ?_
   refine U.bind (U.const (cut_eq 43 r.2.2.1)) ?_
   refine U.ite sb (fun g3=>?_) (fun g3=>U.now _)
   exact im _ _ (by omega) (by omega) (by omega) (by show size (x++[⟨r.1,r.2.1⟩])+_≤_;omega)
  ·refine U.bind (U.const (cut_eq 43 r.2.2.1)) ?_
   refine U.ite sb (fun g3=>?_) (fun g3=>U.now _)
   exact im _ _ (by omega) (by omega) (by omega) (by omega)
theorem sv_ev:∀ (n:Nat) (l:Bs),l.length<n→l.length≤100000→U (fun d k=>impl_readSum.d d k (ba l)) (sb (sv n l)):=by
 intro n
 induction n with
 | zero=>intro l h;omega
 | succ n ih =>
  intro l h1 h2
  refine U.stepd (fun d k=>by rw[impl_readSum.d]) ?_
  exact sum_lp ih (l.length+1) l [] (by omega) (by omega) h2 (by rw[sn_];omega)
def end2 (r:Bs):Prop:=r=[]∨∃ s,r=41::s
def end3 (r:Bs):Prop:=end2 r∨∃ s,r=43::s
theorem end3_miss {r:Bs}(h:end3 r){c:UInt8}(hc:c≠41)(hc':c≠43):cut c r=(r,false):=by
 rcases h with (rfl | ⟨s,rfl⟩) | ⟨s,rfl⟩
 ·rfl
 ·exact cut_miss s (Ne.symm hc)
 ·exact cut_miss s (Ne.symm hc')
theorem end2_miss {r:Bs}(h:end2 r):cut 43 r=(r,false):=by
 rcases h with rfl | ⟨s,rfl⟩
 ·rfl
 ·exact cut_miss s (by decide)
theorem end3_noD {r:Bs}(h:end3 r):noD r:=by
 intro c s e
 rcases h with (rfl | ⟨q,rfl⟩) | ⟨q,rfl⟩
 ·cases e
 ·injection e with e;subst e;rfl
 ·injection e with e;subst e;rfl
theorem dc_head {c:Int}(h:0≤c)(h':c≤99999):∃ b s,dc c=b::s∧isD b=true:=by
 have:=(dc_length h h').1
 cases e:dc c with
 | nil=>rw[e] at this;simp at this
 | cons b s=>exact⟨b,s,rfl,dc_isD h h' b (by rw[e];simp)⟩
theorem dc_miss {c:Int}(h:0≤c)(h':c≤99999)(r:Bs){d:UInt8}(hd:isD d=false):cut d (dc c++r)=(dc c++r,false):=by
 obtain⟨b,s,e,g⟩:=dc_head h h'
 rw[e]
 exact cut_miss _ (by intro q;rw[q,hd] at g;cases g)
def sfx (c:Int):Bs:=if c>1 then 42::dc c else []
theorem sfx_noD {c:Int}{r:Bs}(h:end3 r):noD (sfx c++r):=by
 unfold sfx
 split
 ·intro d s e;injection e with e;subst e;rfl
 ·exact end3_noD h
theorem jv_back {c:Int}(h:1≤c)(h':c≤9999){r:Bs}(hr:end3 r)(a0:Bs)(e:O):jv a0 (sfx c++r) 1 e=(c,e,r,true):=by
 unfold jv sfx
 by_cases g:c>1
 ·rw[if_pos g,List.cons_append,cut_hit,if_pos rfl,rn_dc (by omega) (by omega) (end3_noD hr),if_pos rfl]
 ·rw[if_neg g,List.nil_append,end3_miss hr (by decide) (by decide),if_neg (by simp)]
  rw[show c=1 by omega]
theorem sfx_miss {c:Int}{r:Bs}(hr:end3 r){d:UInt8}(h1:d≠42)(h2:d≠41)(h3:d≠43):cut d (sfx c++r)=(sfx c++r,false):=by
 unfold sfx
 split
 ·exact cut_miss _ (Ne.symm h1)
 ·exact end3_miss hr h2 h3
theorem num_of {c:Int}(h:1≤c):num c=[⟨c,[]⟩]:=by unfold num;rw[if_neg (by omega)]
theorem isN_is {e:O}(h:isN e=true):∃ c,e=[⟨c,[]⟩]:=by
 match e,h with
 | [⟨c,[]⟩],_=>exact⟨c,rfl⟩
theorem term_back {s:Bs→Rs}{c:Int}(h:1≤c)(h':c≤9999){e:O}(he:Vd e){r:Bs}(hr:end3 r)
 (ih:(tx e).length+2≤(trm c e (tx e)).length→∀ q,end2 q→s (tx e++q)=(e,q,true)):tv s (trm c e (tx e)++r)=(c,e,r,true):=by
 by_cases h0:e=[]
 ·subst h0
  rw[trm_nil]
  unfold tv
  rw[dc_miss (by omega) (by omega) r (by rfl),if_neg (by simp),rn_dc (by omega) (by omega) (end3_noD hr)]
 ·rw[trm_ne c (tx e) h0] at ih ⊢
  change (tx e).length+2≤(_++sfx c).length→_ at ih
  change tv s (_++sfx c++r)=_
  rw[List.append_assoc]
  by_cases h1:tx e=[49]
  ·rw[if_pos h1]
   obtain rfl:=(tx_eq_one he).1 h1
   unfold tv
   rw[List.cons_append,cut_hit,if_pos rfl]
   show (if(cut 94 (sfx c++r)).2=true then _ else _)=_
   rw[sfx_miss hr (by decide) (by decide) (by decide),if_neg (by simp),← num_of (c:=1) (by omega)]
   exact jv_back h h' hr _ _
  ·rw[if_neg h1] at ih ⊢
   by_cases h2:tx e=[119]
   ·rw[if_pos (.inl h2)]
    obtain rfl:=(tx_eq_w he).1 h2
    rw[h2]
    unfold tv
    show (if(cut 119 (119::94::119::(sfx c++r))).2=true then(if(cut 94 (cut 119 (119::94::119::(sfx c++r))).1).2=true then tq s _ (cut 94 (cut 119 (119::94::119::(sfx c++r))).1).1 else _) else _)=_
    rw[cut_hit,if_pos rfl]
    show (if(cut 94 (94::119::(sfx c++r))).2=true then tq s _ (cut 94 (94::119::(sfx c++r))).1 else _)=_
    rw[cut_hit,if_pos rfl]
    unfold tq
    rw[cut_miss _ (by decide),if_neg (by simp),cut_hit,if_pos rfl,num_of (by omega)]
    exact jv_back h h' hr _ _
   ·by_cases h3:isN e=true
    ·rw[if_pos (.inr h3)]
     obtain⟨n,rfl⟩:=isN_is h3
     have hn:=Vd_cons he
     rw[tx_one,trm_nil]
     unfold tv
     show (if(cut 119 (119::94::(dc n++(sfx c++r)))).2=true then(if(cut 94 (cut 119 (119::94::(dc n++(sfx c++r)))).1).2=true then tq s _ (cut 94 (cut 119 (119::94::(dc n++(sfx c++r)))).1).1 else _) else _)=_
     rw[cut_hit,if_pos rfl]
     show (if(cut 94 (94::(dc n++(sfx c++r)))).2=true then tq s _ (cut 94 (94::(dc n++(sfx c++r)))).1 else _)=_
     rw[cut_hit,if_pos rfl]
     unfold tq
     rw[dc_miss (by omega) (by omega) _ (by rfl),if_neg (by simp),dc_miss (by omega) (by omega) _ (by rfl),if_neg (by simp),rn_dc (by omega) (by omega) (sfx_noD hr),if_pos rfl,num_of (by omega)]
     exact jv_back h h' hr _ _
    ·rw[if_neg (by simp[h2,h3])] at ih ⊢
     have ih:=ih (by simp;omega) (41::(sfx c++r)) (.inr ⟨_,rfl⟩)
     have e1:[119,94,40]++tx e++[41]++(sfx c++r)=119::94::40::(tx e++41::(sfx c++r)):=by simp
     rw[e1]
     generalize hq:tx e++41::(sfx c++r)=q at *
     unfold tv
     rw[cut_hit,if_pos rfl]
     show (if(cut 94 (94::40::q)).2=true then tq s _ (cut 94 (94::40::q)).1 else _)=_
     rw[cut_hit,if_pos rfl]
     unfold tq
     rw[cut_hit,if_pos rfl]
     show tp _ (s q)=_
     rw[ih]
     unfold tp
     rw[if_pos rfl,cut_hit,if_pos rfl]
     exact jv_back h h' hr _ _
theorem sum_back {n:Nat}(ih:∀ (x:O) (r:Bs),Vd x→(tx x).length<n→end2 r→sv n (tx x++r)=(x,r,true)) :
 ∀ (x:O) (m:Nat) (p:O) (r:Bs),x≠[]→Vd x→(tx x).length≤n→x.length≤m→end2 r→sl (tv (sv n)) m (tx x++r) p=(p++x,r,true):=by
 intro x
 induction x with
 | nil=>intro m p r h;exact absurd rfl h
 | cons t y iy =>
  obtain⟨c,e⟩:=t
  intro m p r _ hv hn hm hr
  obtain⟨m,rfl⟩:∃ q,m=q+1:=⟨m-1,by simp at hm;omega⟩
  obtain⟨v1,v2,v3,v4⟩:=Vd_cons hv
  by_cases hy:y=[]
  ·subst hy
   rw[tx_one] at hn ⊢
   have ht:=term_back (s:=sv n) v3 v4 v1 (r:=r) (.inl hr) (fun hq q hq'=>ih e q v1 (by omega) hq')
   unfold sl
   rw[ht,if_pos rfl,if_pos (by show c>0;omega),end2_miss hr,if_neg (by simp)]
  ·rw[tx_more c e hy] at hn ⊢
   have ht:=term_back (s:=sv n) v3 v4 v1 (r:=43::(tx y++r)) (.inr ⟨_,rfl⟩) (fun hq q hq'=>ih e q v1 (by rw[List.length_append] at hn;omega) hq')
   rw[List.append_assoc,List.cons_append]
   unfold sl
   rw[ht,if_pos rfl,if_pos (by show c>0;omega)]
   show (if(cut 43 (43::(tx y++r))).2=true then _ else _)=_
   rw[cut_hit,if_pos rfl]
   have:=iy m (p++[⟨c,e⟩]) r hy v2 (by simp at hn;omega) (by simpa using hm) hr
   refine Eq.trans this ?_
   simp
theorem sv_back:∀ (n:Nat) (x:O) (r:Bs),Vd x→(tx x).length<n→end2 r→sv n (tx x++r)=(x,r,true):=by
 intro n
 induction n with
 | zero=>intro x r _ h;omega
 | succ n ih =>
  intro x r hv hn hr
  unfold sv
  by_cases hx:x=[]
  ·subst hx
   have d0:([48]:Bs)=dc 0:=by rw[dc_small (by omega) (by omega)];rfl
   rw[tx_nil,d0]
   have ht:tv (sv n) (dc 0++r)=(0,[],r,true):=by
    unfold tv
    rw[dc_miss (by omega) (by omega) r (by rfl),if_neg (by simp),rn_dc (by omega) (by omega) (end3_noD (.inl hr))]
   unfold sl
   rw[ht,if_pos rfl,if_neg (by show ¬ (0:Int)>0;omega),end2_miss hr,if_neg (by simp)]
  ·have:=sum_back ih x ((tx x++r).length+1) [] r hx hv (by omega) ?_ hr
   ·rw[List.nil_append] at this;exact this
   ·have h1:=ll_ x
    have h2:x.length≤(tx x).length:=by
     have:∀ y:O,y≠[]→Cf y→y.length≤(tx y).length:=by
      intro y
      induction y with
      | nil=>intro h;exact absurd rfl h
      | cons t y iy =>
       obtain⟨c,e⟩:=t
       intro _ hc
       obtain⟨c1,c2,c3,c4⟩:=Cf_cons.1 hc
       have h3:=(trm_length (c:=c) (e:=e) (t:=tx e) c1 c2).2
       by_cases hy:y=[]
       ·subst hy;rw[tx_one];simpa using h3
       ·have:=iy hy c4
        rw[tx_more c e hy];simp;omega
     exact this x hx (Cf_of hv.1 hv.2.1)
    rw[List.length_append];omega
theorem valid_text {x:O}(h:Vd x):(tx x).length≤720:=by
 have:=(tx_length (Cf_of h.1 h.2.1)).1
 have:=h.2.2
 omega
theorem implReadOrd_yes {x:O}(h:Vd x):Tl (fun k=>impl_ReadOrd.f k (ba (tx x))) (row x,true):=by
 have hl:=valid_text h
 have hz:=h.2.2
 unfold impl_ReadOrd.f
 refine Tl.n (by rw[ba_size];omega) ?_
 have hs:=(sv_ev 721 (tx x) (by omega) (by omega)).tells
 have hb:=sv_back 721 x [] h (by omega) (.inl rfl)
 rw[List.append_nil] at hb
 rw[hb] at hs
 refine Tl.b hs ?_
 refine Tl.p rfl ?_
 refine Tl.p (ba_toList []) ?_
 refine Tl.b (textOf_ev (Cf_of h.1 h.2.1) (by show size x≤_;omega)) ?_
 refine Tl.s (fun k=>by rw[impl_ReadOrd.j0]) ?_
 refine Tl.n (by show ¬ ((ba (tx x)).toList != (ba (tx x)).toList)=true;simp) ?_
 refine Tl.b (rowOf_ev (by show size x≤_;omega)) ?_
 refine Tl.b implValid_ev ?_
 refine Tl.p (by show (ordOf (row x)).isSome=true;rw[or_ h];rfl) (Tl.w _)
theorem implReadOrd_no {l:Bs}(h:∀ x,Vd x→tx x≠l):Tl (fun k=>impl_ReadOrd.f k (ba l)) ([],false):=by
 unfold impl_ReadOrd.f
 by_cases hl:((ba l).size:Int)>1000
 ·exact Tl.p hl (Tl.w _)
 refine Tl.n hl ?_
 rw[ba_size] at hl
 have hs:=(sv_ev 1001 l (by omega) (by omega)).tells
 have hg:=sv_ok 1001 l
 generalize sv 1001 l=r at *
 refine Tl.b hs ?_
 have bad:∀ x:O,Tl (fun k=>impl_ReadOrd.j0 k x true) ([],false):=fun x=>Tl.s (fun k=>by rw[impl_ReadOrd.j0]) (Tl.p rfl (Tl.w _))
 by_cases g1:r.2.2=true
 ·refine Tl.p g1 ?_
  obtain⟨q1,q2,q3⟩:=hg g1
  by_cases g2:(ba r.2.1).toList=([]:List UInt8)
  ·refine Tl.p g2 ?_
   refine Tl.b (textOf_ev q1 (by show size r.1≤_;omega)) ?_
   show Tl (fun k=>impl_ReadOrd.j0 k r.1 ((ba (tx r.1)).toList != (ba l).toList)) _
   rw[ba_toList,ba_toList]
   by_cases g3:tx r.1=l
   ·refine Tl.s (fun k=>by rw[impl_ReadOrd.j0]) ?_
    refine Tl.n (by simp[g3]) ?_
    refine Tl.b (rowOf_ev (by show size r.1≤_;omega)) ?_
    refine Tl.b implValid_ev ?_
    refine Tl.n ?_ (Tl.w _)
    show ¬ (ordOf (row r.1)).isSome=true
    cases ho:ordOf (row r.1) with
    | none=>simp
    | some z =>
     obtain⟨e,v⟩:=os_ ho
     have:=(row_is (e:=r.1) (x:=z) (l:=row r.1) e.symm).1 rfl
     rw[this] at g3
     exact absurd g3 (h z v)
   ·have:(tx r.1 != l)=true:=by simp[g3]
    rw[this];exact bad _
  ·exact Tl.n g2 (bad _)
 ·exact Tl.n g1 (bad _)
end Go.Proofs.YtbdbldhpglponaaDoor.P
namespace Go.Proofs.YtbdbldhpglponaaDoor.P
open OM Go.RowKit Go.Proofs.YtbdbldhpglponaaDoorW.PrintWords Go.Proofs.YtbdbldhpglponaaDoorW.PrintLast Go.Proofs.YtbdbldhpglponaaDoorW.PrintMore
set_option linter.unusedVariables false
abbrev Ro:=Option (O × Bs)
def fin (rec:Bs→O→Ro)(x:O)(l:Bs):Ro:=if(cut 43 l).2=true then rec (cut 43 l).1 x else some (x,l)
def tms (rec:Bs→O→Ro)(l:Bs)(x e:O):Ro :=
 if(cut 42 l).2=true then(match dg (cut 42 l).1 with
  | none=>none
  | some (m,r)=>fin rec (x++[⟨m,e⟩]) r)
 else fin rec (x++[⟨1,e⟩]) l
def exn (g:Bs→Ro)(rec:Bs→O→Ro)(l:Bs)(x:O):Ro :=
 if((cut 94 l).2 && (cut 40 (cut 94 l).1).2)=true then(match g (cut 40 (cut 94 l).1).1 with
  | none=>none
  | some (e,r)=>if(cut 41 r).2=true then tms rec (cut 41 r).1 x e else none)
 else if((cut 94 l).2 && (cut 119 (cut 94 l).1).2)=true then tms rec (cut 119 (cut 94 l).1).1 x [⟨1,[⟨1,[]⟩]⟩]
 else if(cut 94 l).2=true then(match dg (cut 94 l).1 with
  | none=>none
  | some (m,r)=>tms rec r x [⟨m,[]⟩])
 else tms rec l x [⟨1,[]⟩]
def rp (g:Option (Bs→Ro)):Nat→Bs→O→Ro
 | 0,_,_=>none
 | n+1,l,x=>match dg l with
  | some (m,r)=>fin (rp g n) (x++[⟨m,[]⟩]) r
  | none=>if(cut 119 l).2=true then(match g with
   | none=>none
   | some g=>exn g (rp (some g) n) (cut 119 l).1 x) else none
def top (g:Option (Bs→Ro))(l:Bs):Ro:=if(cut 48 l).2=true then some ([],(cut 48 l).1) else rp g (l.length+1) l []
def rr:Nat→Bs→Ro
 | 0,l=>top none l
 | d+1,l=>top (some (rr d)) l
def nx:Nat→Option (Bs→Ro)
 | 0=>none
 | d+1=>some (rr d)
theorem rr_eq (d:Nat)(l:Bs):rr d l=top (nx d) l:=by cases d<;>rfl
def Bh (z:Int)(l:Bs)(q:Ro):Prop:=∀ x r,q=some (x,r)→size x+6*(r.length:Int)≤z+6*(l.length:Int)∧∃ p,l=p++r
theorem Bh.none (z:Int)(l:Bs):Bh z l none:=by intro x r h;cases h
theorem Bh.wide {z z':Int}{l t p:Bs}{q:Ro}(h:Bh z t q)(e:l=p++t)(hz:z≤z'+6*(p.length:Int)):Bh z' l q:=by
 intro x r g
 obtain⟨h1,u,h2⟩:=h x r g
 refine⟨?_,p++u,by rw[e,h2,List.append_assoc]⟩
 rw[e,List.length_append];omega
theorem cut_app {c:UInt8}{l:Bs}(h:(cut c l).2=true):l=[c]++(cut c l).1:=by
 rcases cut_cases c l with ⟨_,g⟩ | ⟨g,_⟩
 ·exact g
 ·rw[h] at g;cases g
theorem fin_ok {rec:Bs→O→Ro}{x:O}{l:Bs}{z:Int}(hx:size x≤z)(hr:∀ t,t.length<l.length→Bh z t (rec t x)):Bh z l (fin rec x l):=by
 unfold fin
 split
 ·next h =>
  have:=cut_short h
  exact(hr (cut 43 l).1 (by omega)).wide (cut_app h) (by simp;omega)
 ·intro y r e
  injection e with e
  injection e with e1 e2
  subst e1;subst e2
  exact⟨by omega,[],rfl⟩
theorem tms_ok {rec:Bs→O→Ro}{x e:O}{l:Bs}{z:Int}(hx:size x+size e+1≤z)(hr:∀ y t,size y≤z→t.length≤l.length→Bh z t (rec t y)):Bh z l (tms rec l x e):=by
 have hs:∀ c:Int,size (x++[⟨c,e⟩])≤z:=by intro c;rw[size_snoc];omega
 unfold tms
 split
 ·next h =>
  have hc:=cut_short h
  cases hd:dg (cut 42 l).1 with
  | none=>exact Bh.none _ _
  | some q =>
   obtain⟨m,r⟩:=q
   obtain⟨_,d2,p,d3⟩:=dg_ok hd
   refine Bh.wide (z:=z) (t:=r) (p:=[42]++p) (fin_ok (hs m) (fun t ht=>hr _ t (hs m) (by omega))) ?_ (by omega)
   rw[List.append_assoc,← d3];exact cut_app h
 ·exact fin_ok (hs 1) (fun t ht=>hr _ t (hs 1) (by omega))
theorem exn_ok {g:Bs→Ro}{rec:Bs→O→Ro}{x:O}{l:Bs}(hg:∀ t,Bh 1 t (g t))(hr:∀ z y t,size y≤z→t.length≤l.length→Bh z t (rec t y)):Bh (size x+4) l (exn g rec l x):=by
 unfold exn
 split
 ·next h =>
  rw[Bool.and_eq_true] at h
  have a1:=cut_short h.1
  have a2:=cut_short h.2
  have b1:=cut_app h.1
  have b2:=cut_app h.2
  have hq:=hg (cut 40 (cut 94 l).1).1
  cases he:g (cut 40 (cut 94 l).1).1 with
  | none=>exact Bh.none _ _
  | some q =>
   obtain⟨e,r⟩:=q
   obtain⟨q1,p,q2⟩:=hq e r he
   simp only
   split
   ·next h3 =>
    have a3:=cut_short h3
    have b3:=cut_app h3
    have hlen:=congrArg List.length q2
    rw[List.length_append] at hlen
    refine Bh.wide (z:=size x+size e+1) (t:=(cut 41 r).1) (p:=[94]++([40]++(p++[41]))) (tms_ok (Int.le_refl _) (fun y t hy ht=>hr _ y t hy (by omega))) ?_ ?_
    ·rw[List.append_assoc,List.append_assoc,List.append_assoc,← b3,← q2,← b2];exact b1
    ·simp;omega
   ·exact Bh.none _ _
 ·split
  ·next h =>
   rw[Bool.and_eq_true] at h
   have a1:=cut_short h.1
   have a2:=cut_short h.2
   have b1:=cut_app h.1
   have b2:=cut_app h.2
   refine Bh.wide (z:=size x+6) (t:=(cut 119 (cut 94 l).1).1) (p:=[94]++[119]) (tms_ok ?_ (fun y t hy ht=>hr _ y t hy (by omega))) ?_ ?_
   ·simp only[sc_,sn_];omega
   ·rw[List.append_assoc,← b2];exact b1
   ·simp;omega
  ·split
   ·next h =>
    have a1:=cut_short h
    have b1:=cut_app h
    cases hd:dg (cut 94 l).1 with
    | none=>exact Bh.none _ _
    | some q =>
     obtain⟨m,r⟩:=q
     obtain⟨_,d2,p,d3⟩:=dg_ok hd
     refine Bh.wide (z:=size x+4) (t:=r) (p:=[94]++p) (tms_ok ?_ (fun y t hy ht=>hr _ y t hy (by omega))) ?_ (by omega)
     ·simp only[sc_,sn_];omega
     ·rw[List.append_assoc,← d3];exact b1
   ·refine tms_ok ?_ (fun y t hy ht=>hr _ y t hy ht)
    simp only[sc_,sn_];omega
theorem rp_ok {g:Option (Bs→Ro)}(hg:∀ f,g=some f→∀ t,Bh 1 t (f t)):∀ (n:Nat) (l:Bs) (x:O) (z:Int),size x≤z→Bh z l (rp g n l x):=by
 intro n
 induction n with
 | zero=>intro l x z _;exact Bh.none _ _
 | succ n ih =>
  intro l x z hz
  unfold rp
  cases hd:dg l with
  | some q =>
   obtain⟨m,r⟩:=q
   obtain⟨_,d2,p,d3⟩:=dg_ok hd
   have hlen:=congrArg List.length d3
   rw[List.length_append] at hlen
   exact Bh.wide (z:=z+2) (t:=r) (p:=p) (fin_ok (by rw[size_snoc,sn_];omega) (fun t _=>ih t _ _ (by rw[size_snoc,sn_];omega))) d3 (by omega)
  | none =>
   simp only
   split
   ·next h =>
    cases hgg:g with
    | none=>exact Bh.none _ _
    | some f =>
     subst hgg
     exact Bh.wide (z:=size x+4) (t:=(cut 119 l).1) (p:=[119]) (exn_ok (hg f rfl) (fun z y t hy _=>ih t y z hy)) (cut_app h) (by simp;omega)
   ·exact Bh.none _ _
theorem rr_ok:∀ (d:Nat) (l:Bs),Bh 1 l (rr d l):=by
 have ht:∀ (g:Option (Bs→Ro)),(∀ f,g=some f→∀ t,Bh 1 t (f t))→∀ l,Bh 1 l (top g l):=by
  intro g hg l
  unfold top
  split
  ·next h =>
   intro y r e
   injection e with e
   injection e with e1 e2
   subst e1;subst e2
   have:=cut_short h
   exact⟨by rw[sn_];omega,_,cut_app h⟩
  ·exact rp_ok hg _ _ _ _ (by rw[sn_];omega)
 intro d
 induction d with
 | zero=>exact ht none (by intro f h;cases h)
 | succ d ih=>exact ht (some (rr d)) (by intro f h;injection h with h;subst h;exact ih)
def rt (s:Bs)(q:Ro):List Int × Int:=match q with
 | none=>([],-1)
 | some (x,r)=>(row x,(s.length:Int)-(r.length:Int))
theorem At.tail {s l:Bs}{i:Int}(h:At s l i){c:UInt8}(g:(cut c l).2=true):At s (cut c l).1 (i+1):=At.of (p:=[c]) _ h (cut_app g) rfl
theorem At.hit {s l:Bs}{i:Int}(h:At s l i){c:UInt8}(g:(cut c l).2=true):bt (ba s) i=(c.toNat:Int)∧0≤i∧i<((ba s).size:Int):=by
 rw[cut_app g] at h
 exact At.byte h
theorem At.miss {s l:Bs}{i:Int}(h:At s l i){c:UInt8}(g:¬ (cut c l).2=true):i=((ba s).size:Int)∨(0≤i∧i<((ba s).size:Int)∧¬ bt (ba s) i=(c.toNat:Int)):=by
 cases l with
 | nil=>exact .inl h.nil
 | cons d r =>
  obtain⟨h1,h2,h3⟩:=At.byte h
  refine .inr ⟨h2,h3,?_⟩
  intro e
  rw[h1] at e
  have:d=c:=UInt8.toNat_inj.1 (by omega)
  subst this
  rw[cut_hit] at g
  exact g rfl
section
variable {α:Type}{s l:Bs}{i:Int}{r:α}
theorem At.fork (h:At s l i)(c:UInt8){n:Int}(hn:n=(c.toNat:Int)){f g:Nat→Option α}(h1:(cut c l).2=true→Tl f r)(h2:¬ (cut c l).2=true→Tl g r) :
 Tl (fun k=>if i≥((ba s).size:Int) then g k else(if 0≤i then(if i<((ba s).size:Int) then(if(bt (ba s) i)=n then f k else g k) else none) else none)) r:=by
 subst hn
 by_cases q:(cut c l).2=true
 ·obtain⟨a1,a2,a3⟩:=h.hit q
  exact Tl.n (by omega) (Tl.p a2 (Tl.p a3 (Tl.p a1 (h1 q))))
 ·rcases h.miss q with a | ⟨a2,a3,a1⟩
  ·exact Tl.p (by omega) (h2 q)
  ·exact Tl.n (by omega) (Tl.p a2 (Tl.p a3 (Tl.n a1 (h2 q))))
theorem At.ask (h:At s l i)(c:UInt8){n:Int}(hn:n=(c.toNat:Int))(F:Nat→Bool→Option α)(e:Tl (fun k=>F k (cut c l).2) r) :
 Tl (fun k=>if i<((ba s).size:Int) then(if 0≤i then F k ((bt (ba s) i) == n) else none) else F k false) r:=by
 subst hn
 by_cases q:(cut c l).2=true
 ·obtain⟨a1,a2,a3⟩:=h.hit q
  rw[q] at e
  refine Tl.p a3 (Tl.p a2 ?_)
  rw[a1,beq_self_eq_true];exact e
 ·have q':(cut c l).2=false:=Bool.eq_false_iff.2 q
  rw[q'] at e
  rcases h.miss q with a | ⟨a2,a3,a1⟩
  ·exact Tl.n (by omega) e
  ·refine Tl.p a3 (Tl.p a2 ?_)
   rw[beq_eq_false_iff_ne.2 a1];exact e
theorem At.ask2 (h:At s l i)(c d:UInt8){n m:Int}(hn:n=(c.toNat:Int))(hm:m=(d.toNat:Int))(F:Nat→Bool→Option α)(e:Tl (fun k=>F k ((cut c l).2 && (cut d (cut c l).1).2)) r) :
 Tl (fun k=>if i+1<((ba s).size:Int) then(if 0≤i then(if i<((ba s).size:Int) then(if(bt (ba s) i)=n then(if 0≤i+1 then F k ((bt (ba s) (i+1)) == m) else none) else F k false) else none) else none) else F k false) r:=by
 subst hn;subst hm
 have hr:=h.range
 rw[← ba_size s] at hr
 by_cases q:(cut c l).2=true
 ·obtain⟨a1,a2,a3⟩:=h.hit q
  have h':=h.tail q
  rw[q,Bool.true_and] at e
  by_cases q2:(cut d (cut c l).1).2=true
  ·obtain⟨b1,b2,b3⟩:=h'.hit q2
   rw[q2] at e
   refine Tl.p b3 (Tl.p a2 (Tl.p a3 (Tl.p a1 (Tl.p b2 ?_))))
   rw[b1,beq_self_eq_true];exact e
  ·have q':=Bool.eq_false_iff.2 q2
   rw[q'] at e
   rcases h'.miss q2 with a | ⟨b2,b3,b1⟩
   ·exact Tl.n (by omega) e
   ·refine Tl.p b3 (Tl.p a2 (Tl.p a3 (Tl.p a1 (Tl.p b2 ?_))))
    rw[beq_eq_false_iff_ne.2 b1];exact e
 ·have q':=Bool.eq_false_iff.2 q
  rw[q',Bool.false_and] at e
  by_cases g:i+1<((ba s).size:Int)
  ·refine Tl.p g (Tl.p (by omega) (Tl.p (by omega) (Tl.n ?_ e)))
   rcases h.miss q with a | ⟨a2,a3,a1⟩
   ·omega
   ·exact a1
  ·exact Tl.n g e
end
theorem cs_snoc (x e:O)(c:Int):cs x++[c]=cs (x++[⟨c,e⟩]):=by rw[cs_append];rfl
theorem es_snoc (x e:O)(c:Int):es x++[row e]=es (x++[⟨c,e⟩]):=by rw[es_append];rfl
def Rd (s:Bs)(d:Int)(n:Nat)(z:Int)(rec:Bs→O→Ro):Prop:=∀ (t:Bs) (x:O) (i:Int),At s t i→t.length<n→size x+6*(t.length:Int)≤z→Tl (fun k=>spec_l1Read.l0 k (ba s) i d (cs x) (es x)) (rt s (rec t x))
section
variable {s l:Bs}{d z:Int}{n:Nat}{rec:Bs→O→Ro}(hs:s.length≤2000000)(hz:z≤20000000)(hr:Rd s d n z rec)
include hs hz hr
theorem fin_ev {x:O}{i:Int}(hi:At s l i)(hl:l.length≤n)(hx:size x+6*(l.length:Int)≤z){c:List Int}{e:List (List Int)}(hc:c=cs x)(he:e=es x) :
 Tl (fun k=>if i≥((ba s).size:Int) then((spec_l1Make.f k c e).bind fun t=>(some (t,i))) else(if 0≤i then(if i<((ba s).size:Int) then(if(bt (ba s) i)=43 then(spec_l1Read.l0 k (ba s) (wrap64 (i+1)) d c e) else((spec_l1Make.f k c e).bind fun t=>(some (t,i)))) else none) else none)) (rt s (fin rec x l)):=by
 subst hc;subst he
 have hp:=sp_ x
 have hg:=hi.range
 unfold fin
 refine At.fork hi 43 rfl (f:=fun k=>spec_l1Read.l0 k (ba s) (wrap64 (i+1)) d (cs x) (es x)) (g:=fun k=>(spec_l1Make.f k (cs x) (es x)).bind fun t=>(some (t,i))) (fun g=>?_) (fun g=>?_)
 ·have hc:=cut_short g
  rw[if_pos g,wi_ (by omega) (by omega)]
  exact hr _ x _ (hi.tail g) (by omega) (by omega)
 ·rw[if_neg g]
  refine Tl.b (make_ev (by omega)) ?_
  refine Tl.to (Tl.w _) ?_
  show (row x,i)=(row x,_)
  rw[hi.2]
theorem tms_ev {x e:O}{i:Int}(hi:At s l i)(hl:l.length≤n)(hx:size x+size e+1+6*(l.length:Int)≤z) :
 Tl (fun k=>spec_l1Read.j6 k (ba s) i d (cs x) (es x) (row e)) (rt s (tms rec l x e)):=by
 have hg:=hi.range
 have hy:∀ c:Int,size (x++[⟨c,e⟩])=size x+size e+1:=fun c=>by rw[size_snoc]
 have hp:=sp_ e
 have hx1:=ll_ x
 refine Tl.s (fun k=>by rw[spec_l1Read.j6]) ?_
 refine At.ask hi 42 rfl (fun k b=>spec_l1Read.j7 k (ba s) i d (cs x) (es x) (row e) 1 i b) ?_
 refine Tl.s (fun k=>by rw[spec_l1Read.j7]) ?_
 unfold tms
 by_cases g:(cut 42 l).2=true
 ·have hc:=cut_short g
  refine Tl.p g ?_
  have e1:(if(cut 42 l).2=true then(match dg (cut 42 l).1 with | none=>(none:Ro) | some (m,r)=>fin rec (x++[⟨m,e⟩]) r) else fin rec (x++[⟨1,e⟩]) l)=(match dg (cut 42 l).1 with | none=>(none:Ro) | some (m,r)=>fin rec (x++[⟨m,e⟩]) r):=if_pos g
  rw[e1,wi_ (i:=i+1) (by omega) (by omega)]
  refine Tl.b (digits_ev (hi.tail g) hs) ?_
  cases hd:dg (cut 42 l).1 with
  | none=>exact Tl.p (by show (-1:Int)<0;omega) (Tl.w _)
  | some q =>
   obtain⟨m,r⟩:=q
   obtain⟨d1,d2,p,d3⟩:=dg_ok hd
   refine Tl.n (by show ¬ m<0;omega) ?_
   refine Tl.p (by rw[cl_];omega) ?_
   refine Tl.d ?_
   refine Tl.p (by rw[el_];omega) ?_
   refine Tl.d ?_
   refine fin_ev hs hz hr (l:=r) (At.of (p:=p) r (hi.tail g) d3 ?_) (by omega) (by rw[hy];omega) (cs_snoc x e m) (es_snoc x e m)
   have:=(hi.tail g).2
   have hlen:=congrArg List.length d3
   rw[List.length_append] at hlen
   show (s.length:Int)-(r.length:Int)=_
   omega
 ·refine Tl.n g ?_
  have e1:(if(cut 42 l).2=true then(match dg (cut 42 l).1 with | none=>(none:Ro) | some (m,r)=>fin rec (x++[⟨m,e⟩]) r) else fin rec (x++[⟨1,e⟩]) l)=fin rec (x++[⟨1,e⟩]) l:=if_neg g
  rw[e1]
  refine Tl.p (by rw[cl_];omega) ?_
  refine Tl.d ?_
  refine Tl.p (by rw[el_];omega) ?_
  refine Tl.d ?_
  exact fin_ev hs hz hr hi (by omega) (by rw[hy];omega) (cs_snoc x e 1) (es_snoc x e 1)
theorem exn_ev {g:Bs→Ro}{x:O}{i:Int}(hd0:0≤d)(hd1:d≤1000)(hi:At s l (i+1))(h0:0≤i)(hl:l.length≤n)(hx:size x+4+6*(l.length:Int)≤z)(hgo:∀ t,Bh 1 t (g t))
 (hg:∀ t j,At s t j→Tl (fun k=>spec_l1Read.f k (ba s) j (d+1)) (rt s (g t))) :
 Tl (fun k=>spec_l1Read.j2 k (ba s) i d (cs x) (es x) false) (rt s (exn g rec l x)):=by
 have hgr:=hi.range
 have row1:row [⟨1,[]⟩]=[1,1,0]:=by unfold row;rw[flat_cons,row_nil,flat_nil];rfl
 have row2:row [⟨1,[⟨1,[]⟩]⟩]=[1,1,1,1,0]:=by unfold row;rw[flat_cons,row1,flat_nil];rfl
 have row3:∀ m:Int,row [⟨m,[]⟩]=[1,m,0]:=by intro m;unfold row;rw[flat_cons,row_nil,flat_nil];rfl
 refine Tl.s (fun k=>by rw[spec_l1Read.j2]) ?_
 refine Tl.n (by simp) ?_
 refine Tl.d ?_
 rw[wi_ (i:=i+1) (by omega) (by omega),wi_ (i:=i+1+1) (by omega) (by omega)]
 refine At.ask2 hi 94 40 rfl rfl (fun k b=>spec_l1Read.j3 k (ba s) (i+1) d (cs x) (es x) [1,1,0] b) ?_
 refine Tl.s (fun k=>by rw[spec_l1Read.j3]) ?_
 rw[wi_ (i:=i+1+2) (by omega) (by omega),wi_ (i:=i+1+1) (by omega) (by omega),wi_ (i:=d+1) (by omega) (by omega)]
 unfold exn
 refine Tl.ite (rt s) (fun h=>?_) (fun h=>?_)
 ·rw[Bool.and_eq_true] at h
  have a1:=cut_short h.1
  have a2:=cut_short h.2
  have hj:=(hi.tail h.1).tail h.2
  rw[Int.add_assoc (i+1)] at hj
  refine Tl.b (hg _ _ hj) ?_
  have hq:=hgo (cut 40 (cut 94 l).1).1
  cases he:g (cut 40 (cut 94 l).1).1 with
  | none=>exact Tl.p (by show (-1:Int)<0;omega) (Tl.w _)
  | some q =>
   obtain⟨e,r⟩:=q
   obtain⟨q1,p,q2⟩:=hq e r he
   have hlen:=congrArg List.length q2
   rw[List.length_append] at hlen
   have hr2:At s r ((s.length:Int)-(r.length:Int)):=At.of (p:=p) r hj q2 (by have:=hj.2;omega)
   have hr3:=hr2.range
   refine Tl.n (by show ¬ (s.length:Int)-(r.length:Int)<0;omega) ?_
   refine At.fork hr2 41 rfl (f:=fun k=>spec_l1Read.j6 k (ba s) (wrap64 ((s.length:Int)-(r.length:Int)+1)) d (cs x) (es x) (row e)) (g:=fun k=>some ([],-1)) (fun h3=>?_) (fun h3=>?_)
   ·have a3:=cut_short h3
    have e1:(if(cut 41 r).2=true then tms rec (cut 41 r).1 x e else none)=tms rec (cut 41 r).1 x e:=if_pos h3
    show Tl _ (rt s (if(cut 41 r).2=true then tms rec (cut 41 r).1 x e else none))
    rw[e1,wi_ (by omega) (by omega)]
    exact tms_ev hs hz hr (hr2.tail h3) (by omega) (by omega)
   ·have e1:(if(cut 41 r).2=true then tms rec (cut 41 r).1 x e else none)=none:=if_neg h3
    show Tl _ (rt s (if(cut 41 r).2=true then tms rec (cut 41 r).1 x e else none))
    rw[e1]
    exact Tl.w _
 ·refine At.ask2 hi 94 119 rfl rfl (fun k b=>spec_l1Read.j4 k (ba s) (i+1) d (cs x) (es x) [1,1,0] b) ?_
  refine Tl.s (fun k=>by rw[spec_l1Read.j4]) ?_
  rw[wi_ (i:=i+1+2) (by omega) (by omega)]
  refine Tl.ite (rt s) (fun h2=>?_) (fun h2=>?_)
  ·rw[Bool.and_eq_true] at h2
   have a1:=cut_short h2.1
   have a2:=cut_short h2.2
   have hj:=(hi.tail h2.1).tail h2.2
   rw[Int.add_assoc (i+1)] at hj
   rw[← row2]
   exact tms_ev hs hz hr hj (by omega) (by simp only[sc_,sn_];omega)
  ·refine At.ask hi 94 rfl (fun k b=>spec_l1Read.j5 k (ba s) (i+1) d (cs x) (es x) [1,1,0] b) ?_
   refine Tl.s (fun k=>by rw[spec_l1Read.j5]) ?_
   rw[wi_ (i:=i+1+1) (by omega) (by omega)]
   refine Tl.ite (rt s) (fun h3=>?_) (fun h3=>?_)
   ·have a1:=cut_short h3
    refine Tl.b (digits_ev (hi.tail h3) hs) ?_
    cases hd:dg (cut 94 l).1 with
    | none=>exact Tl.p (by show (-1:Int)<0;omega) (Tl.w _)
    | some q =>
     obtain⟨m,r⟩:=q
     obtain⟨d1,d2,p,d3⟩:=dg_ok hd
     have hlen:=congrArg List.length d3
     rw[List.length_append] at hlen
     refine Tl.n (by show ¬ m<0;omega) ?_
     show Tl (fun k=>spec_l1Read.j6 k (ba s) ((s.length:Int)-(r.length:Int)) d (cs x) (es x) [1,m,0]) (rt s (tms rec r x [⟨m,[]⟩]))
     rw[← row3]
     exact tms_ev hs hz hr (At.of (p:=p) r (hi.tail h3) d3 (by have:=(hi.tail h3).2;omega)) (by omega) (by simp only[sc_,sn_];omega)
   ·rw[← row1]
    exact tms_ev hs hz hr hi (by omega) (by simp only[sc_,sn_];omega)
end
theorem rp_ev {s:Bs}(hs:s.length≤2000000){d:Int}(hd0:0≤d)(hd1:d≤1000){g:Option (Bs→Ro)}(h40:g=none ↔ d>40)(hgo:∀ f,g=some f→∀ t,Bh 1 t (f t))
 (hg:∀ f,g=some f→∀ t j,At s t j→Tl (fun k=>spec_l1Read.f k (ba s) j (d+1)) (rt s (f t))):∀ n:Nat,Rd s d n 20000000 (rp g n):=by
 intro n
 induction n with
 | zero=>intro t x i _ h;omega
 | succ n ih =>
  intro l x i hi hl hx
  have hgr:=hi.range
  have hx1:=ll_ x
  refine Tl.s (fun k=>by rw[spec_l1Read.l0]) ?_
  refine Tl.b (digits_ev hi hs) ?_
  unfold rp
  cases hd:dg l with
  | some q =>
   obtain⟨m,r⟩:=q
   obtain⟨d1,d2,p,d3⟩:=dg_ok hd
   have hlen:=congrArg List.length d3
   rw[List.length_append] at hlen
   refine Tl.n (by show ¬ m<0;omega) ?_
   refine Tl.p (by rw[cl_];omega) ?_
   refine Tl.d ?_
   refine Tl.p (by rw[el_];omega) ?_
   refine Tl.d ?_
   refine fin_ev hs (by omega) ih (l:=r) (At.of (p:=p) r hi d3 ?_) (by omega) (by rw[size_snoc,sn_];omega) (cs_snoc x [] m) ?_
   ·show (s.length:Int)-(r.length:Int)=_
    have:=hi.2;omega
   ·have:=es_snoc x [] m
    rw[row_nil] at this
    exact this
  | none =>
   have bad:Tl (fun k=>spec_l1Read.j2 k (ba s) i d (cs x) (es x) true) (rt s none):=by
    refine Tl.s (fun k=>by rw[spec_l1Read.j2]) ?_
    exact Tl.p rfl (Tl.w _)
   refine Tl.p (by show (-1:Int)<0;omega) ?_
   refine At.fork hi 119 rfl (f:=fun k=>spec_l1Read.j2 k (ba s) i d (cs x) (es x) (decide (d>40))) (g:=fun k=>spec_l1Read.j2 k (ba s) i d (cs x) (es x) true) (fun h=>?_) (fun h=>?_)
   ·have hc:=cut_short h
    show Tl _ (rt s (if(cut 119 l).2=true then _ else none))
    rw[show (if(cut 119 l).2=true then(match (generalizing:=false) g with | none=>(none:Ro) | some g=>exn g (rp (some g) n) (cut 119 l).1 x) else none)=(match (generalizing:=false) g with | none=>(none:Ro) | some g=>exn g (rp (some g) n) (cut 119 l).1 x) from if_pos h]
    cases hgg:g with
    | none =>
     rw[decide_eq_true (h40.1 hgg)]
     exact bad
    | some f =>
     subst hgg
     rw[decide_eq_false (fun q=>by cases h40.2 q)]
     exact exn_ev hs (by omega) ih hd0 hd1 (hi.tail h) (by omega) (by omega) (by omega) (hgo f rfl) (hg f rfl)
   ·show Tl _ (rt s (if(cut 119 l).2=true then _ else none))
    rw[show (if(cut 119 l).2=true then(match (generalizing:=false) g with | none=>(none:Ro) | some g=>exn g (rp (some g) n) (cut 119 l).1 x) else none)=none from if_neg h]
    exact bad
theorem rr_ev {s:Bs}(hs:s.length≤2000000):∀ (d:Nat),d≤41→∀ (l:Bs) (i:Int),At s l i→Tl (fun k=>spec_l1Read.f k (ba s) i (41-(d:Int))) (rt s (rr d l)):=by
 have ht:∀ (d:Int) (g:Option (Bs→Ro)),0≤d→d≤1000→(g=none ↔ d>40)→(∀ f,g=some f→∀ t,Bh 1 t (f t))→(∀ f,g=some f→∀ t j,At s t j→Tl (fun k=>spec_l1Read.f k (ba s) j (d+1)) (rt s (f t))) →
  ∀ l i,At s l i→Tl (fun k=>spec_l1Read.f k (ba s) i d) (rt s (top g l)):=by
  intro d g hd0 hd1 h40 hgo hg l i hi
  have hgr:=hi.range
  refine Tl.s (fun k=>by rw[spec_l1Read.f]) ?_
  refine At.ask hi 48 rfl (fun k b=>spec_l1Read.j0 k (ba s) i d b) ?_
  refine Tl.s (fun k=>by rw[spec_l1Read.j0]) ?_
  unfold top
  refine Tl.ite (rt s) (fun h=>?_) (fun h=>?_)
  ·refine Tl.to (Tl.w _) ?_
   show (([0]:List Int),wrap64 (i+1))=(row [],_)
   rw[row_nil,wi_ (by omega) (by omega)]
   exact congrArg _ (hi.tail h).2
  ·exact rp_ev hs hd0 hd1 h40 hgo hg (l.length+1) l [] i hi (by omega) (by rw[sn_];omega)
 intro d
 induction d with
 | zero =>
  intro _ l i hi
  exact ht _ none (by omega) (by omega) ⟨fun _=>by omega,fun _=>rfl⟩ (by intro f h;cases h) (by intro f h;cases h) l i hi
 | succ d ih =>
  intro hd l i hi
  refine ht _ (some (rr d)) (by omega) (by omega) ⟨(fun h=>by cases h),(fun h=>by omega)⟩ ?_ ?_ l i hi
  ·intro f h;injection h with h;subst h;exact rr_ok d
  ·intro f h;injection h with h;subst h
   intro t j ht
   have:=ih (by omega) t j ht
   rw[show (41:Int)-((d+1:Nat):Int)+1=41-(d:Int) by omega]
   exact this
end Go.Proofs.YtbdbldhpglponaaDoor.P
namespace Go.Proofs.YtbdbldhpglponaaDoor.P
open OM Go.RowKit Go.Proofs.YtbdbldhpglponaaDoorW.PrintWords Go.Proofs.YtbdbldhpglponaaDoorW.PrintLast Go.Proofs.YtbdbldhpglponaaDoorW.PrintMore
set_option linter.unusedVariables false
theorem tms_back {rec:Bs→O→Ro}{c:Int}(h:1≤c)(h':c≤9999){r:Bs}(hr:end3 r)(x e:O):tms rec (sfx c++r) x e=fin rec (x++[⟨c,e⟩]) r:=by
 unfold tms sfx
 by_cases g:c>1
 ·rw[if_pos g,List.cons_append,cut_hit,if_pos rfl,dg_back h h' (end3_noD hr)]
 ·rw[if_neg g,List.nil_append,end3_miss hr (by decide) (by decide),if_neg (by simp),show c=1 by omega]
theorem dg_not {c:UInt8}{l:Bs}(h:isD c=false):dg (c::l)=none:=by
 have:=dg_stop (q:=[]) (r:=c::l) (by intro b hb;cases hb) (Nat.zero_le _) (.inr (by intro d s e;injection e with e1 e2;subst e1;exact h))
 exact this
theorem exn_w {f:Bs→Ro}{rec:Bs→O→Ro}{t:Bs}{x:O}(h1:(cut 40 t).2=false):exn f rec (94::t) x =
 (if(cut 119 t).2=true then tms rec (cut 119 t).1 x [⟨1,[⟨1,[]⟩]⟩] else(match dg t with
 | none=>none
 | some (m,r)=>tms rec r x [⟨m,[]⟩])):=by
 unfold exn
 rw[cut_hit,h1,if_neg (by simp),Bool.true_and,if_pos (rfl:((t,true):Bs × Bool).2=true)]<;>rfl
theorem rp_w {f:Bs→Ro}{n:Nat}{t:Bs}{x:O}:rp (some f) (n+1) (119::t) x=exn f (rp (some f) n) t x:=by
 unfold rp
 rw[dg_not (by rfl),cut_hit]<;>rfl
theorem rp_d {g:Option (Bs→Ro)}{n:Nat}{l r:Bs}{x:O}{c:Int}(h:dg l=some (c,r)):rp g (n+1) l x=fin (rp g n) (x++[⟨c,[]⟩]) r:=by
 conv=>lhs;unfold rp
 rw[h]
theorem exn_p {f:Bs→Ro}{rec:Bs→O→Ro}{q:Bs}{x:O}:exn f rec (94::40::q) x=(match f q with
 | none=>none
 | some (e,r)=>if(cut 41 r).2=true then tms rec (cut 41 r).1 x e else none):=by
 unfold exn
 rw[cut_hit]
 show (if(true && (cut 40 (40::q)).2)=true then _ else _)=_
 rw[cut_hit,if_pos rfl]<;>rfl
theorem read_term {g:Option (Bs→Ro)}{n:Nat}{c:Int}(h:1≤c)(h':c≤9999){e:O}(he:Vd e){r:Bs}(hr:end3 r)(hg:e≠[]→g≠none)
 (ih:∀ f,g=some f→∀ q,end2 q→f (tx e++q)=some (e,q)) (x:O):rp g (n+1) (trm c e (tx e)++r) x=fin (rp g n) (x++[⟨c,e⟩]) r:=by
 by_cases h0:e=[]
 ·subst h0
  rw[trm_nil,rp_d (dg_back h h' (end3_noD hr))]
 ·cases g with
  | none=>exact absurd rfl (hg h0)
  | some f =>
  have ih:=ih f rfl
  rw[trm_ne c (tx e) h0]
  change rp (some f) (n+1) (_++sfx c++r) x=_
  rw[List.append_assoc]
  by_cases h1:tx e=[49]
  ·rw[if_pos h1]
   obtain rfl:=(tx_eq_one he).1 h1
   rw[List.cons_append,rp_w]
   show exn f _ (sfx c++r) x=_
   unfold exn
   rw[sfx_miss hr (by decide) (by decide) (by decide),if_neg (by simp),if_neg (by simp),if_neg (by simp)]
   exact tms_back h h' hr _ _
  ·rw[if_neg h1]
   by_cases h2:tx e=[119]
   ·rw[if_pos (.inl h2)]
    obtain rfl:=(tx_eq_w he).1 h2
    rw[h2]
    show rp (some f) (n+1) (119::94::119::(sfx c++r)) x=_
    rw[rp_w,exn_w (by rw[cut_miss _ (by decide)]),cut_hit,if_pos rfl]
    exact tms_back h h' hr _ _
   ·by_cases h3:isN e=true
    ·rw[if_pos (.inr h3)]
     obtain⟨m,rfl⟩:=isN_is h3
     have hn:=Vd_cons he
     rw[tx_one,trm_nil]
     show rp (some f) (n+1) (119::94::(dc m++(sfx c++r))) x=_
     rw[rp_w,exn_w (by rw[dc_miss (by omega) (by omega) _ (by rfl)]),dc_miss (by omega) (by omega) _ (by rfl),if_neg (by simp),dg_back (by omega) (by omega) (sfx_noD hr)]
     exact tms_back h h' hr _ _
    ·rw[if_neg (by simp[h2,h3])]
     have ih:=ih (41::(sfx c++r)) (.inr ⟨_,rfl⟩)
     have e1:[119,94,40]++tx e++[41]++(sfx c++r)=119::94::40::(tx e++41::(sfx c++r)):=by simp
     rw[e1]
     generalize hq:tx e++41::(sfx c++r)=q at *
     rw[rp_w,exn_p,ih]
     show (if(cut 41 (41::(sfx c++r))).2=true then tms _ (cut 41 (41::(sfx c++r))).1 x e else none)=_
     rw[cut_hit,if_pos rfl]
     exact tms_back h h' hr _ _
theorem fin_end {rec:Bs→O→Ro}{x:O}{r:Bs}(h:end2 r):fin rec x r=some (x,r):=by
 unfold fin
 rw[end2_miss h,if_neg (by simp)]
theorem fin_plus {rec:Bs→O→Ro}{x:O}{r:Bs}:fin rec x (43::r)=rec r x:=by
 unfold fin
 rw[cut_hit,if_pos rfl]
theorem read_sum {d:Nat}(ih:∀ f,nx d=some f→∀ (e:O) (q:Bs),Vd e→size e≤2*(d:Int)+1→end2 q→f (tx e++q)=some (e,q)) :
 ∀ (y:O) (m:Nat) (p:O) (r:Bs),y≠[]→Vd y→size y≤2*(d:Int)+3→y.length≤m→end2 r→rp (nx d) m (tx y++r) p=some (p++y,r):=by
 intro y
 induction y with
 | nil=>intro m p r h;exact absurd rfl h
 | cons t y iy =>
  obtain⟨c,e⟩:=t
  intro m p r _ hv hz hm hr
  obtain⟨m,rfl⟩:∃ q,m=q+1:=⟨m-1,by simp at hm;omega⟩
  obtain⟨v1,v2,v3,v4⟩:=Vd_cons hv
  rw[sc_] at hz
  have hp:=sp_ y
  have hg:e≠[]→nx d≠none:=by
   intro h0 q
   cases d with
   | succ d=>cases q
   | zero =>
    cases e with
    | nil=>exact h0 rfl
    | cons t s =>
     obtain⟨c',e'⟩:=t
     have:=sp_ e'
     have:=sp_ s
     rw[sc_] at hz;omega
  have hi:∀ f,nx d=some f→∀ q,end2 q→f (tx e++q)=some (e,q):=fun f hf q hq=>ih f hf e q v1 (by omega) hq
  by_cases hy:y=[]
  ·subst hy
   rw[tx_one,read_term v3 v4 v1 (.inl hr) hg hi,fin_end hr]
  ·rw[tx_more c e hy,List.append_assoc,List.cons_append,read_term v3 v4 v1 (.inr ⟨_,rfl⟩) hg hi,fin_plus]
   have:=iy m (p++[⟨c,e⟩]) r hy v2 (by have:=sp_ e;omega) (by simpa using hm) hr
   refine Eq.trans this ?_
   simp
theorem tx_head {x:O}(h:Vd x)(h0:x≠[])(r:Bs):(cut 48 (tx x++r)).2=false:=by
 have key:∀ (c:Int) (e:O),1≤c→c≤9999→∀ t:Bs,(cut 48 (trm c e (tx e)++t)).2=false:=by
  intro c e h1 h2 t
  by_cases he:e=[]
  ·subst he
   rw[trm_nil]
   obtain⟨⟨b,s,e1,e2⟩,_⟩:=dc_four _ c (Nat.le_refl _) h1 (by omega)
   rw[e1,List.cons_append,cut_miss _ e2]
  ·rw[trm_ne c (tx e) he]
   split
   ·rw[List.append_assoc,List.cons_append,cut_miss _ (by decide)]
   ·split
    ·rw[List.append_assoc,List.append_assoc,List.cons_append,cut_miss _ (by decide)]
    ·rw[List.append_assoc,List.append_assoc,List.append_assoc,List.cons_append,cut_miss _ (by decide)]
 cases x with
 | nil=>exact absurd rfl h0
 | cons t y =>
  obtain⟨c,e⟩:=t
  obtain⟨v1,v2,v3,v4⟩:=Vd_cons h
  by_cases hy:y=[]
  ·subst hy;rw[tx_one];exact key c e v3 v4 r
  ·rw[tx_more c e hy,List.append_assoc];exact key c e v3 v4 _
theorem rr_back:∀ (d:Nat) (x:O) (r:Bs),Vd x→size x≤2*(d:Int)+3→end2 r→rr d (tx x++r)=some (x,r):=by
 have ht:∀ d:Nat,(∀ f,nx d=some f→∀ (e:O) (q:Bs),Vd e→size e≤2*(d:Int)+1→end2 q→f (tx e++q)=some (e,q))→∀ (x:O) (r:Bs),Vd x→size x≤2*(d:Int)+3→end2 r→rr d (tx x++r)=some (x,r):=by
  intro d ih x r hv hz hr
  rw[rr_eq]
  unfold top
  by_cases hx:x=[]
  ·subst hx
   rw[tx_nil,List.cons_append,cut_hit,if_pos rfl]
   rfl
  ·rw[tx_head hv hx r,if_neg (by simp)]
   refine Eq.trans (read_sum ih x _ [] r hx hv hz ?_ hr) rfl
   have h2:∀ y:O,y≠[]→Cf y→y.length≤(tx y).length:=by
    intro y
    induction y with
    | nil=>intro h;exact absurd rfl h
    | cons t y iy =>
     obtain⟨c,e⟩:=t
     intro _ hc
     obtain⟨c1,c2,c3,c4⟩:=Cf_cons.1 hc
     have h3:=(trm_length (c:=c) (e:=e) (t:=tx e) c1 c2).2
     by_cases hy:y=[]
     ·subst hy;rw[tx_one];simpa using h3
     ·have:=iy hy c4
      rw[tx_more c e hy];simp;omega
   have:=h2 x hx (Cf_of hv.1 hv.2.1)
   rw[List.length_append];omega
 intro d
 induction d with
 | zero=>exact ht 0 (by intro f h;cases h)
 | succ d ih =>
  refine ht (d+1) ?_
  intro f h
  injection h with h
  subst h
  intro e q hv hz hq
  exact ih e q hv (by omega) hq
theorem specReadOrd_yes {x:O}(h:Vd x):Tl (fun k=>spec_ReadOrd.f k (ba (tx x))) (row x,true):=by
 have hl:=valid_text h
 have hn:=(tx_length (Cf_of h.1 h.2.1)).2
 have hz:=rl_ x
 have hz2:=h.2.2
 unfold spec_ReadOrd.f
 have hs:=rr_ev (s:=tx x) (by omega) 41 (by omega) (tx x) 0 ⟨⟨[],rfl⟩,by omega⟩
 have hb:=rr_back 41 x [] h (by omega) (.inl rfl)
 rw[List.append_nil] at hb
 rw[hb] at hs
 refine Tl.b hs ?_
 refine Tl.p (by show (((tx x).length:Nat):Int)-((0:Nat):Int)=((ba (tx x)).size:Int);rw[ba_size];omega) ?_
 refine Tl.n (by rw[ba_toList];intro q;rw[q] at hn;simp at hn) ?_
 refine Tl.b (specOrdText_ev (l:=row x) (by omega)) ?_
 refine Tl.p (by rw[textv_some (or_ h)]) (Tl.w _)
theorem specReadOrd_no {l:Bs}(hl:l.length≤2000000)(h:∀ x,Vd x→tx x≠l):Tl (fun k=>spec_ReadOrd.f k (ba l)) ([],false):=by
 unfold spec_ReadOrd.f
 have hs:=rr_ev (s:=l) hl 41 (by omega) l 0 ⟨⟨[],rfl⟩,by omega⟩
 have hg:=rr_ok 41 l
 refine Tl.b hs ?_
 cases hq:rr 41 l with
 | none=>exact Tl.n (by show ¬ (-1:Int)=((ba l).size:Int);omega) (Tl.w _)
 | some q =>
  obtain⟨x,r⟩:=q
  obtain⟨g1,_⟩:=hg x r hq
  have hz:=rl_ x
  by_cases g2:(l.length:Int)-(r.length:Int)=((ba l).size:Int)
  ·refine Tl.p g2 ?_
   by_cases g3:(ba l).toList=([]:List UInt8)
   ·exact Tl.p g3 (Tl.w _)
   ·refine Tl.n g3 ?_
    rw[ba_toList] at g3
    refine Tl.b (specOrdText_ev (l:=row x) (by omega)) ?_
    refine Tl.n ?_ (Tl.w _)
    show ¬ (ba (textv (row x))).toList=(ba l).toList
    rw[ba_toList,ba_toList]
    cases ho:ordOf (row x) with
    | none=>rw[textv_none ho];exact fun q=>g3 q.symm
    | some z=>rw[textv_some ho];exact h z (os_ ho).2
  ·exact Tl.n g2 (Tl.w _)
theorem readOrd_both {l:Bs}(hl:l.length≤2000000):∃ v:List Int × Bool,v.1.length≤60∧Tl (fun k=>spec_ReadOrd.f k (ba l)) v∧Tl (fun k=>impl_ReadOrd.f k (ba l)) v∧((v=([],false))∨∃ x,Vd x∧tx x=l∧v=(row x,true)):=by
 by_cases h:∃ x,Vd x∧tx x=l
 ·obtain⟨x,h1,rfl⟩:=h
  have:=rl_ x
  have:=h1.2.2
  exact⟨(row x,true),by show (row x).length≤60;omega,specReadOrd_yes h1,implReadOrd_yes h1,.inr ⟨x,h1,rfl,rfl⟩⟩
 ·have h':∀ x,Vd x→tx x≠l:=fun x h1 h2=>h ⟨x,h1,h2⟩
  exact⟨([],false),Nat.zero_le _,specReadOrd_no hl h',implReadOrd_no h',.inl rfl⟩
def lastok (l:Bs):Prop:=∃ c,l.getLast?=some c∧c≠43
theorem lastok_app (a:Bs){b:Bs}(h:lastok b):lastok (a++b):=by
 obtain⟨c,h1,h2⟩:=h
 exact⟨c,by rw[List.getLast?_append,h1];rfl,h2⟩
theorem lastok_dc {c:Int}(h:0≤c)(h':c≤99999):lastok (dc c):=by
 have h1:=(dc_length h h').1
 cases e:(dc c).getLast? with
 | none=>rw[List.getLast?_eq_none_iff] at e;rw[e] at h1;simp at h1
 | some b =>
  refine⟨b,e,?_⟩
  have:=dc_isD h h' b (List.mem_of_getLast? e)
  intro q;subst q;cases this
theorem lastok_trm {c:Int}(h:0≤c)(h':c≤99999){e:O}{t:Bs}(ht:lastok t):lastok (trm c e t):=by
 by_cases he:e=[]
 ·subst he;rw[trm_nil];exact lastok_dc h h'
 ·rw[trm_ne c t he]
  split
  ·split
   ·exact lastok_app _ (lastok_app [42] (lastok_dc h h'))
   ·exact⟨119,rfl,by decide⟩
  ·split
   ·split
    ·exact lastok_app _ (lastok_app [42] (lastok_dc h h'))
    ·rw[List.append_nil];exact lastok_app _ ht
   ·split
    ·exact lastok_app _ (lastok_app [42] (lastok_dc h h'))
    ·rw[List.append_nil];exact lastok_app _ ⟨41,rfl,by decide⟩
theorem lastok_tx:∀ {x:O},Cf x→lastok (tx x):=by
 intro x
 induction x using ind with
 | h0=>intro _;rw[tx_nil];exact⟨48,rfl,by decide⟩
 | h1 c e r ihe ihr =>
  intro h
  obtain⟨h1,h2,h3,h4⟩:=Cf_cons.1 h
  by_cases hr:r=[]
  ·subst hr;rw[tx_one];exact lastok_trm h1 h2 (ihe h3)
  ·rw[tx_more c e hr];exact lastok_app _ (lastok_app [43] (ihr h4))
theorem tx_plus {x:O}(h:Vd x)(t:Bs):tx x≠t++[43]:=by
 intro e
 obtain⟨c,h1,h2⟩:=lastok_tx (Cf_of h.1 h.2.1)
 rw[e,List.getLast?_append] at h1
 injection h1 with h1
 exact h2 h1.symm
end Go.Proofs.YtbdbldhpglponaaDoor.P
namespace Go.Proofs.YtbdbldhpglponaaDoor.Pure
open OM Go.RowKit Go.Proofs.YtbdbldhpglponaaDoor.P Go.Proofs.YtbdbldhpglponaaDoorW.PrintWords Go.Proofs.YtbdbldhpglponaaDoorW.PrintLast Go.Proofs.YtbdbldhpglponaaDoorW.PrintMore
set_option linter.unusedVariables false
theorem swap_size {v:Int}(h:0≤v)(h':v<6):(rdOf ByteArray.empty [(⟨#[]⟩:ByteArray),(⟨#[48]⟩:ByteArray),(⟨#[119]⟩:ByteArray),(⟨#[43]⟩:ByteArray),(⟨#[94]⟩:ByteArray),(⟨#[42,49]⟩:ByteArray)] v).size≤2:=by
 have:v=0∨v=1∨v=2∨v=3∨v=4∨v=5:=by omega
 rcases this with rfl | rfl | rfl | rfl | rfl | rfl<;>decide
theorem drawText {b:List Int}(hb:Bytes b){p:Int}(hp:0≤p)(hp':p≤1000000){t:Bs}(ht:t.length≤720){f:Bool}(hf:f=true→0<t.length) :
 ∃ u:Bs,u.length≤1000∧Tl (fun k=>spec_DrawReadOrd.j0 k (ba t) f b p) (ba u):=by
 cases f with
 | false=>exact⟨t,by omega,Tl.s (fun k=>by rw[spec_DrawReadOrd.j0]) (Tl.n (by simp) (Tl.w _))⟩
 | true =>
  have hf:=hf rfl
  obtain⟨v,v1,v2,v3⟩:=pick_ev hb (p:=p) (a:=((ba t).size:Int)) (by omega) (by omega)
  obtain⟨w,w1,w2,w3⟩:=pick_ev hb (p:=p+1) (a:=6) (by omega) (by omega)
  rw[ba_size] at v2
  have v2:=v2 (by omega)
  have w2:=w2 (by omega)
  have hz:=swap_size w1 w2
  generalize hzz:rdOf ByteArray.empty [(⟨#[]⟩:ByteArray),(⟨#[48]⟩:ByteArray),(⟨#[119]⟩:ByteArray),(⟨#[43]⟩:ByteArray),(⟨#[94]⟩:ByteArray),(⟨#[42,49]⟩:ByteArray)] w=z at hz
  have e1:((ba t).extract 0 v.toNat)=ba (t.take v.toNat):=by rw[ba_extract];simp
  have e2:((ba t).extract (v+1).toNat (ba t).size)=ba (t.drop (v+1).toNat):=ba_from t _
  have l1:(t.take v.toNat).length≤720:=by rw[List.length_take];omega
  have l2:(t.drop (v+1).toNat).length≤720:=by rw[List.length_drop];omega
  have l3:(t.take v.toNat).length+(t.drop (v+1).toNat).length≤720:=by rw[List.length_take,List.length_drop];omega
  rw[ba_of z] at hz
  rw[ba_size] at hz
  refine⟨t.take v.toNat++z.data.toList++t.drop (v+1).toNat,by simp only[List.length_append];omega,?_⟩
  refine Tl.s (fun k=>by rw[spec_DrawReadOrd.j0]) ?_
  refine Tl.p rfl ?_
  refine Tl.b v3 ?_
  refine Tl.p v1 ?_
  refine Tl.p (by show v≤_;rw[ba_size];omega) ?_
  refine Tl.d ?_
  refine Tl.b w3 ?_
  refine Tl.p w1 ?_
  refine Tl.p (by show w<6;omega) ?_
  show Tl (fun _=>if((ba t).extract 0 v.toNat).size+(rdOf ByteArray.empty [(⟨#[]⟩:ByteArray),(⟨#[48]⟩:ByteArray),(⟨#[119]⟩:ByteArray),(⟨#[43]⟩:ByteArray),(⟨#[94]⟩:ByteArray),(⟨#[42,49]⟩:ByteArray)] w).size≤9223372036854775807 then(if 0≤wrap64 (v+1) then(if wrap64 (v+1)≤((ba t).size:Int) then(if(((ba t).extract 0 v.toNat)++(rdOf ByteArray.empty [(⟨#[]⟩:ByteArray),(⟨#[48]⟩:ByteArray),(⟨#[119]⟩:ByteArray),(⟨#[43]⟩:ByteArray),(⟨#[94]⟩:ByteArray),(⟨#[42,49]⟩:ByteArray)] w)).size+((ba t).extract (wrap64 (v+1)).toNat (ba t).size).size≤9223372036854775807 then some ((((ba t).extract 0 v.toNat)++(rdOf ByteArray.empty [(⟨#[]⟩:ByteArray),(⟨#[48]⟩:ByteArray),(⟨#[119]⟩:ByteArray),(⟨#[43]⟩:ByteArray),(⟨#[94]⟩:ByteArray),(⟨#[42,49]⟩:ByteArray)] w))++((ba t).extract (wrap64 (v+1)).toNat (ba t).size)) else none) else none) else none) else none) _
  rw[hzz,wi_ (i:=v+1) (by omega) (by omega),e1,e2,ba_of z,ba_append,ba_append]
  refine Tl.p (by rw[ba_size,ba_size];omega) ?_
  refine Tl.p (by omega) ?_
  refine Tl.p (by rw[ba_size];omega) ?_
  refine Tl.p (by rw[ba_size,ba_size,List.length_append];omega) ?_
  exact Tl.w _
theorem draw {l:List Int}(h:∀ x ∈ l,(Lit.int .u8 x).wf=true):∃ t:Bs,t.length≤1000∧Tl (fun k=>spec_DrawReadOrd.f k l) (ba t):=by
 obtain⟨b,hb,ho⟩:=open_ev h
 obtain⟨o,p',h1,h2,h3,h4⟩:=drawOrd_ev hb (a:=0) (p:=0) (by omega) (by omega)
 obtain⟨v,v1,v2,v3⟩:=pick_ev hb (p:=p') (a:=3) (by omega) (by omega)
 have ht:=textv_length o
 by_cases g:v=0
 ·obtain⟨u,u1,u2⟩:=drawText hb (p:=p'+1) (by omega) (by omega) ht (f:=decide (((ba (textv o)).size:Int)>0)) (by intro q;rw[ba_size] at q;have:=of_decide_eq_true q;omega)
  exact⟨u,u1,Tl.b (Tl.c ho) (Tl.b h4 (Tl.b (specOrdText_ev (l:=o) (by omega)) (Tl.b v3 (Tl.p g u2))))⟩
 ·obtain⟨u,u1,u2⟩:=drawText hb (p:=p'+1) (by omega) (by omega) ht (f:=false) (by intro q;cases q)
  exact⟨u,u1,Tl.b (Tl.c ho) (Tl.b h4 (Tl.b (specOrdText_ev (l:=o) (by omega)) (Tl.b v3 (Tl.n g u2))))⟩
theorem FnReadOrd:laws_FnReadOrd.Pure:=by
 intro l h1 h2 h3
 refine Tl.rounds (?_:Tl (fun k=>laws_FnReadOrd.f k l) true)
 by_cases h:(l.length:Int)>1048576
 ·exact Tl.p h (Tl.w _)
 ·refine Tl.n h ?_
  obtain⟨t,ht,hd⟩:=draw h3
  refine Tl.b hd ?_
  obtain⟨v,hv,hs,hi,hc⟩:=readOrd_both (l:=t) (by omega)
  refine Tl.b hi ?_
  refine Tl.b hs ?_
  refine Tl.b (sameInts_ev (by omega)) ?_
  refine Tl.p (by simp) ?_
  refine Tl.s (fun k=>by rw[laws_FnReadOrd.j0]) ?_
  refine Tl.n (by simp) ?_
  rcases hc with rfl | ⟨x,hx,rfl,rfl⟩
  ·refine Tl.n (by simp) ?_
   refine Tl.p rfl ?_
   exact Tl.b alive_ev (Tl.w _)
  ·refine Tl.p rfl ?_
   refine Tl.p (by rw[ba_size];omega) ?_
   have hp:=implReadOrd_no (l:=tx x++[43]) (fun y hy=>tx_plus hy (tx x))
   rw[← ba_append] at hp
   refine Tl.b hp ?_
   refine Tl.b implOrdText_ev ?_
   refine Tl.p (by rw[show textv ((row x,true):List Int × Bool).1=tx x from textv_some (or_ hx)]) ?_
   exact Tl.w _
end Go.Proofs.YtbdbldhpglponaaDoor.Pure
