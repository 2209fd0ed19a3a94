/- Falls told by both are the same, and what is marked is held: the law's pure statement. -/
import Derived.Test.YtfkecmnklpjelaaTm
import Derived.Test.YtfkecmnklpjelaaP0
import Derived.Test.YtfkecmnklpjelaaPcmpCompareint
import Derived.Test.YtfkecmnklpjelaaPimplcompare
import Derived.Test.YtfkecmnklpjelaaPimpltakeOrd
import Derived.Test.YtfkecmnklpjelaaPimplordOf
import Derived.Test.YtfkecmnklpjelaaPimplrowOf
import Derived.Test.YtfkecmnklpjelaaPimplsizeOf
import Derived.Test.YtfkecmnklpjelaaPimplmost
import Derived.Test.YtfkecmnklpjelaaPimpltold
import Derived.Test.YtfkecmnklpjelaaPlawstoIntS
import Derived.Test.YtfkecmnklpjelaaPlawseqIntS
import Derived.Test.YtfkecmnklpjelaaPlawsmarkIntS
import Derived.Test.YtfkecmnklpjelaaPlawsheldIntS
import Derived.Test.YtfkecmnklpjelaaPspecl1In
import Derived.Test.YtfkecmnklpjelaaPspecl1Span
import Derived.Test.YtfkecmnklpjelaaPspecl1Terms
import Derived.Test.YtfkecmnklpjelaaPspecl1Compare
import Derived.Test.YtfkecmnklpjelaaPspecl1Make
import Derived.Test.YtfkecmnklpjelaaPspecl1End
import Derived.Test.YtfkecmnklpjelaaPspecOrdValid
import Derived.Test.YtfkecmnklpjelaaPimplkind
import Derived.Test.YtfkecmnklpjelaaPimplbefore
import Derived.Test.YtfkecmnklpjelaaPslicesCloneord
import Derived.Test.YtfkecmnklpjelaaPimplstep
import Derived.Test.YtfkecmnklpjelaaPspecOrdStep
import Derived.Test.YtfkecmnklpjelaaPspecl3Step
import Derived.Test.YtfkecmnklpjelaaPspecl2Fit
import Derived.Test.YtfkecmnklpjelaaPspecOrdFall
import Derived.Test.YtfkecmnklpjelaaPimplOrdFall
import Derived.Test.YtfkecmnklpjelaaPlawsFnExactOrdFall
import Derived.Test.YtfkecmnklpjelaaPlawseqIntSS
import Derived.Test.YtfkecmnklpjelaaPlawsmarkIntSS
import Derived.Test.YtfkecmnklpjelaaPlawsheldIntSS
set_option linter.unusedSimpArgs false
namespace OM
theorem ind {P:O→Prop}(h0:P [])(h1:∀ c e r,P e→P r→P (⟨c,e⟩::r)):∀ x,P x
 | []=>h0
 | ⟨c,e⟩::r=>h1 c e r (ind h0 h1 e) (ind h0 h1 r)
def cmp:O→O→Int
 | [],[]=>0
 | [],_::_=>-1
 | _::_,[]=>1
 | ⟨c,e⟩::r,⟨d,f⟩::s=>if cmp e f=0 then(if c<d then -1 else if d<c then 1 else cmp r s) else cmp e f
theorem cmp_nn:cmp [] []=0:=by unfold cmp;rfl
theorem cmp_nc (t:Tm)(y:O):cmp [] (t::y)=-1:=by cases t;unfold cmp;rfl
theorem cmp_cn (t:Tm)(y:O):cmp (t::y) []=1:=by cases t;unfold cmp;rfl
theorem cmp_cc (c d:Int)(e r f s:O):cmp (⟨c,e⟩::r) (⟨d,f⟩::s)=if cmp e f=0 then(if c<d then -1 else if d<c then 1 else cmp r s) else cmp e f:=by rw[cmp]
theorem cmp_range:∀ x y:O,cmp x y=-1∨cmp x y=0∨cmp x y=1:=by
 intro x
 induction x using ind with
 | h0=>intro y;cases y with
  | nil=>exact .inr (.inl cmp_nn)
  | cons t y=>exact .inl (cmp_nc t y)
 | h1 c e r ihe ihr =>
  intro y;cases y with
  | nil=>exact .inr (.inr (cmp_cn _ _))
  | cons t s =>
   obtain⟨d,f⟩:=t
   rw[cmp_cc]
   have:=ihe f
   have:=ihr s
   split
   ·split
    ·exact .inl rfl
    ·split
     ·exact .inr (.inr rfl)
     ·assumption
   ·assumption
theorem cmp_self (x:O):cmp x x=0:=by
 induction x using ind with
 | h0=>exact cmp_nn
 | h1 c e r ihe ihr=>rw[cmp_cc,if_pos ihe,if_neg (by omega),if_neg (by omega)];exact ihr
theorem cmp_eq:∀ {x y:O},cmp x y=0→x=y:=by
 intro x
 induction x using ind with
 | h0=>intro y h;cases y with
  | nil=>rfl
  | cons t y=>rw[cmp_nc] at h;omega
 | h1 c e r ihe ihr =>
  intro y h;cases y with
  | nil=>rw[cmp_cn] at h;omega
  | cons t s =>
   obtain⟨d,f⟩:=t
   rw[cmp_cc] at h
   split at h
   ·next h1 =>
    split at h
    ·omega
    ·split at h
     ·omega
     ·rw[ihe h1,ihr h];have:c=d:=by omega
      rw[this]
   ·contradiction
theorem cmp_anti:∀ x y:O,cmp y x =-cmp x y:=by
 intro x
 induction x using ind with
 | h0=>intro y;cases y with
  | nil=>rw[cmp_nn];rfl
  | cons t y=>rw[cmp_nc,cmp_cn];rfl
 | h1 c e r ihe ihr =>
  intro y;cases y with
  | nil=>rw[cmp_nc,cmp_cn]
  | cons t s =>
   obtain⟨d,f⟩:=t
   rw[cmp_cc,cmp_cc,ihe f,ihr s]
   have:=cmp_range e f
   split<;>split<;>first | omega | (repeat' split)<;>omega
theorem cmp_trans:∀ {x y z:O},cmp x y=-1→cmp y z=-1→cmp x z=-1:=by
 intro x
 induction x using ind with
 | h0=>intro y z h1 h2;cases z with
  | nil=>cases y with
   | nil=>exact h1
   | cons t y=>rw[cmp_cn] at h2;omega
  | cons t z=>exact cmp_nc _ _
 | h1 c e r ihe ihr =>
  intro y z h1 h2
  cases y with
  | nil=>rw[cmp_cn] at h1;omega
  | cons t s =>
   obtain⟨d,f⟩:=t
   cases z with
   | nil=>rw[cmp_cn] at h2;omega
   | cons u w =>
    obtain⟨g,h⟩:=u
    rw[cmp_cc] at h1 h2 ⊢
    by_cases a:cmp e f=0
    ·have a':=cmp_eq a
     subst a'
     rw[if_pos a] at h1
     by_cases b:cmp e h=0
     ·rw[if_pos b] at h2 ⊢
      by_cases c1:c<g
      ·rw[if_pos c1]
      ·rw[if_neg c1]
       split at h1
       ·split at h2
        ·omega
        ·split at h2<;>omega
       ·split at h1
        ·omega
        ·split at h2
         ·omega
         ·split at h2
          ·omega
          ·rw[if_neg (by omega)];exact ihr h1 h2
     ·rw[if_neg b] at h2 ⊢;exact h2
    ·rw[if_neg a] at h1
     by_cases b:cmp f h=0
     ·have b':=cmp_eq b
      subst b'
      rw[if_neg a];exact h1
     ·rw[if_neg b] at h2
      have:=ihe h1 h2
      rw[if_neg (by omega)];exact this
def Lt (x y:O):Prop:=cmp x y=-1
theorem Lt.trans {x y z:O}(h:Lt x y)(g:Lt y z):Lt x z:=cmp_trans h g
theorem Lt.gt {x y:O}(h:Lt x y):cmp y x=1:=by have:=cmp_anti x y;unfold Lt at h;omega
theorem gt_lt {x y:O}(h:cmp x y=1):Lt y x:=by have:=cmp_anti x y;unfold Lt;omega
theorem tri (x y:O):Lt x y∨x=y∨Lt y x:=by
 rcases cmp_range x y with h | h | h
 ·exact .inl h
 ·exact .inr (.inl (cmp_eq h))
 ·exact .inr (.inr (gt_lt h))
theorem not_lt_nil (x:O):¬ Lt x []:=by
 unfold Lt;cases x with
 | nil=>rw[cmp_nn];omega
 | cons t y=>rw[cmp_cn];omega
theorem nil_lt {x:O}(h:x≠[]):Lt [] x:=by
 cases x with
 | nil=>exact absurd rfl h
 | cons t y=>exact cmp_nc _ _
theorem cmp_lt {x y:O}(h:Lt x y):cmp x y=-1:=h
theorem cmp_lt_e {e f:O}(h:Lt e f)(c d:Int)(r s:O):cmp (⟨c,e⟩::r) (⟨d,f⟩::s)=-1:=by rw[cmp_cc,h];rfl
theorem cmp_gt_e {e f:O}(h:Lt f e)(c d:Int)(r s:O):cmp (⟨c,e⟩::r) (⟨d,f⟩::s)=1:=by rw[cmp_cc,h.gt];rfl
theorem cmp_eq_e (e:O)(c d:Int)(r s:O):cmp (⟨c,e⟩::r) (⟨d,e⟩::s)=if c<d then -1 else if d<c then 1 else cmp r s:=by rw[cmp_cc,if_pos (cmp_self e)]
theorem cmp_eq_t (e:O)(c:Int)(r s:O):cmp (⟨c,e⟩::r) (⟨c,e⟩::s)=cmp r s:=by rw[cmp_eq_e,if_neg (by omega),if_neg (by omega)]
theorem cmp_lt_c {c d:Int}(h:c<d)(e:O)(r s:O):cmp (⟨c,e⟩::r) (⟨d,e⟩::s)=-1:=by rw[cmp_eq_e,if_pos h]
theorem cmp_gt_c {c d:Int}(h:d<c)(e:O)(r s:O):cmp (⟨c,e⟩::r) (⟨d,e⟩::s)=1:=by rw[cmp_eq_e,if_neg (by omega),if_pos h]
def below (e:O):O→Prop
 | []=>True
 | ⟨_,f⟩::_=>Lt f e
def NF:O→Prop
 | []=>True
 | ⟨c,e⟩::r=>1≤c∧NF e∧NF r∧below e r
def size:O→Int
 | []=>1
 | ⟨_,e⟩::r=>1+size e+size r
def most:O→Int
 | []=>0
 | ⟨c,e⟩::r=>max c (max (most e) (most r))
theorem NF_nil:NF []:=by unfold NF;trivial
theorem NF_cons {c:Int}{e r:O}:NF (⟨c,e⟩::r) ↔ 1≤c∧NF e∧NF r∧below e r:=by rw[NF]
theorem sn_:size []=1:=by unfold size;rfl
theorem sc_ (c:Int)(e r:O):size (⟨c,e⟩::r)=1+size e+size r:=by rw[size]
theorem most_nil:most []=0:=by unfold most;rfl
theorem mc_ (c:Int)(e r:O):most (⟨c,e⟩::r)=max c (max (most e) (most r)):=by rw[most]
theorem sp_ (x:O):1≤size x:=by
 induction x using ind with
 | h0=>rw[sn_];omega
 | h1 c e r ihe ihr=>rw[sc_];omega
theorem most_pos (x:O):0≤most x:=by
 induction x using ind with
 | h0=>rw[most_nil];omega
 | h1 c e r ihe ihr=>rw[mc_];omega
theorem below_cons {e f:O}{c:Int}{r:O}:below e (⟨c,f⟩::r) ↔ Lt f e:=Iff.rfl
theorem below.mono {e f:O}(h:Lt e f):∀ {x:O},below e x→below f x
 | [],_=>trivial
 | ⟨_,_⟩::_,hx=>Lt.trans hx h
end OM
namespace OM
def add:O→O→O
 | x,[]=>x
 | [],y=>y
 | ⟨c,e⟩::r,⟨d,f⟩::s=>if cmp e f=1 then⟨c,e⟩::add r (⟨d,f⟩::s) else if cmp e f=0 then⟨c+d,f⟩::s else⟨d,f⟩::s
theorem add_nil (x:O):add x []=x:=by cases x<;>(unfold add;rfl)
theorem nil_add (x:O):add [] x=x:=by cases x<;>(unfold add;rfl)
theorem add_gt {e f:O}(h:Lt f e)(c d:Int)(r s:O):add (⟨c,e⟩::r) (⟨d,f⟩::s)=⟨c,e⟩::add r (⟨d,f⟩::s):=by
 rw[add,h.gt,if_pos rfl]
theorem add_eq (e:O)(c d:Int)(r s:O):add (⟨c,e⟩::r) (⟨d,e⟩::s)=⟨c+d,e⟩::s:=by
 rw[add,cmp_self];rfl
theorem add_lt {e f:O}(h:Lt e f)(c d:Int)(r s:O):add (⟨c,e⟩::r) (⟨d,f⟩::s)=⟨d,f⟩::s:=by
 rw[add,cmp_lt h];rfl
theorem add_cmp:∀ {x y z:O},NF y→NF z→cmp (add x y) (add x z)=cmp y z:=by
 intro x
 induction x with
 | nil=>intro y z _ _;rw[nil_add,nil_add]
 | cons t r ih =>
  intro y z hy hz
  obtain⟨c,e⟩:=t
  cases y with
  | nil =>
   cases z with
   | nil=>rw[cmp_self,cmp_self]
   | cons v t =>
    obtain⟨g,h⟩:=v
    have hg:=(NF_cons.1 hz).1
    rw[add_nil,cmp_nc]
    rcases tri e h with b | b | b
    ·rw[add_lt b,cmp_lt_e b]
    ·subst b;rw[add_eq,cmp_lt_c (by omega)]
    ·rw[add_gt b,cmp_eq_t]
     have:=@ih [] (⟨g,h⟩::t) hy hz
     rw[add_nil,cmp_nc] at this;exact this
  | cons u s =>
   obtain⟨d,f⟩:=u
   have hd:=(NF_cons.1 hy).1
   cases z with
   | nil =>
    rw[add_nil,cmp_cn]
    rcases tri e f with b | b | b
    ·rw[add_lt b,cmp_gt_e b]
    ·subst b;rw[add_eq,cmp_gt_c (by omega)]
    ·rw[add_gt b,cmp_eq_t]
     have:=@ih (⟨d,f⟩::s) [] hy hz
     rw[add_nil,cmp_cn] at this;exact this
   | cons v t =>
    obtain⟨g,h⟩:=v
    have hg:=(NF_cons.1 hz).1
    rcases tri e f with a | a | a
    ·rw[add_lt a]
     rcases tri e h with b | b | b
     ·rw[add_lt b]
     ·subst b;rw[add_eq,cmp_gt_e a,cmp_gt_e a]
     ·rw[add_gt b,cmp_gt_e a,cmp_gt_e (b.trans a)]
    ·subst a
     rw[add_eq]
     rcases tri e h with b | b | b
     ·rw[add_lt b,cmp_lt_e b,cmp_lt_e b]
     ·subst b;rw[add_eq,cmp_eq_e,cmp_eq_e]
      by_cases k:d<g
      ·rw[if_pos k,if_pos (by omega)]
      ·by_cases k':g<d
       ·rw[if_neg k,if_pos k',if_neg (by omega),if_pos (by omega)]
       ·rw[if_neg k,if_neg k',if_neg (by omega),if_neg (by omega)]
     ·rw[add_gt b,cmp_gt_e b,cmp_gt_c (by omega)]
    ·rw[add_gt a]
     rcases tri e h with b | b | b
     ·rw[add_lt b,cmp_lt_e b,cmp_lt_e (a.trans b)]
     ·subst b;rw[add_eq,cmp_lt_e a,cmp_lt_c (by omega)]
     ·rw[add_gt b,cmp_eq_t];exact ih hy hz
theorem cons_add {c:Int}{e r y:O}(h:below e y):add (⟨c,e⟩::r) y=⟨c,e⟩::add r y:=by
 cases y with
 | nil=>rw[add_nil,add_nil]
 | cons u s=>obtain⟨d,f⟩:=u;exact add_gt h _ _ _ _
def mul:O→O→O
 | [],_=>[]
 | _,[]=>[]
 | ⟨c,e⟩::r,⟨d,f⟩::s=>if f.isEmpty then⟨c*d,e⟩::r else⟨d,add e f⟩::mul (⟨c,e⟩::r) s
termination_by _ y=>y.length
decreasing_by simp
theorem nil_mul (y:O):mul [] y=[]:=by cases y<;>(unfold mul;rfl)
theorem mul_nil (x:O):mul x []=[]:=by cases x<;>(unfold mul;rfl)
theorem mul_fin (c d:Int)(e r s:O):mul (⟨c,e⟩::r) (⟨d,[]⟩::s)=⟨c*d,e⟩::r:=by rw[mul];rfl
theorem mul_cons {f:O}(h:f≠[])(c d:Int)(e r s:O):mul (⟨c,e⟩::r) (⟨d,f⟩::s)=⟨d,add e f⟩::mul (⟨c,e⟩::r) s:=by
 rw[mul,if_neg];cases f with
 | nil=>exact absurd rfl h
 | cons _ _=>simp
theorem lt_add {e f:O}(hf:NF f)(h:f≠[]):Lt e (add e f):=by
 have:=@add_cmp e [] f NF_nil hf
 rw[add_nil] at this
 unfold Lt;rw[this];exact nil_lt h
theorem add_lt_add {e f g:O}(hf:NF f)(hg:NF g)(h:Lt f g):Lt (add e f) (add e g):=by
 unfold Lt;rw[add_cmp hf hg];exact h
theorem ne_of_gt {f h:O}(a:Lt h f):f≠[]:=by rintro rfl;exact not_lt_nil _ a
theorem mul_head {c d:Int}{e r f s:O}:∃ d' s',mul (⟨c,e⟩::r) (⟨d,f⟩::s)=⟨d',add e f⟩::s':=by
 by_cases h:f=[]
 ·subst h;exact⟨_,_,by rw[mul_fin,add_nil]⟩
 ·exact⟨_,_,mul_cons h _ _ _ _ _⟩
theorem mul_below {c:Int}{e r f z:O}(hf:NF f)(hz:NF z)(h:below f z):below (add e f) (mul (⟨c,e⟩::r) z):=by
 cases z with
 | nil=>rw[mul_nil];trivial
 | cons v t =>
  obtain⟨g,h'⟩:=v
  obtain⟨d',s',k⟩:=@mul_head c g e r h' t
  rw[k]
  exact add_lt_add (NF_cons.1 hz).2.1 hf h
theorem mul_add {x:O}:∀ {y z:O},NF y→NF z→mul x (add y z)=add (mul x y) (mul x z):=by
 intro y
 cases x with
 | nil=>intro z _ _;rw[nil_mul,nil_mul,nil_mul,nil_add]
 | cons t r =>
  obtain⟨c,e⟩:=t
  induction y with
  | nil=>intro z _ _;rw[nil_add,mul_nil,nil_add]
  | cons u s ih =>
   intro z hy hz
   obtain⟨d,f⟩:=u
   obtain⟨h1,h2,h3,h4⟩:=NF_cons.1 hy
   cases z with
   | nil=>rw[add_nil,mul_nil,add_nil]
   | cons v t =>
    obtain⟨g,h⟩:=v
    obtain⟨g1,g2,g3,g4⟩:=NF_cons.1 hz
    rcases tri f h with a | a | a
    ·rw[add_lt a]
     obtain⟨d1,s1,k1⟩:=@mul_head c d e r f s
     obtain⟨d2,s2,k2⟩:=@mul_head c g e r h t
     rw[k1,k2,add_lt (add_lt_add h2 g2 a)]
    ·subst a
     rw[add_eq]
     by_cases k:f=[]
     ·subst k;rw[mul_fin,mul_fin,mul_fin,add_eq,Int.mul_add]
     ·rw[mul_cons k,mul_cons k,mul_cons k,add_eq]
    ·have k:=ne_of_gt a
     rw[add_gt a,mul_cons k,mul_cons k,ih h3 hz]
     exact(cons_add (mul_below h2 hz a)).symm
end OM
namespace OM
end OM
namespace OM
end OM
namespace OM
def bef:O→O
 | []=>[]
 | [⟨c,e⟩]=>if c=1 then [] else [⟨c-1,e⟩]
 | t::u::r=>t::bef (u::r)
def kind:O→Int
 | []=>0
 | [⟨_,e⟩]=>if e.isEmpty then 1 else 2
 | _::u::r=>kind (u::r)
abbrev one:O:=[⟨1,[]⟩]
theorem NF_one:NF one:=NF_cons.2 ⟨by omega,NF_nil,NF_nil,trivial⟩
theorem kind_nil:kind []=0:=by unfold kind;rfl
theorem kind_s (c:Int)(e:O):kind [⟨c,e⟩]=if e.isEmpty then 1 else 2:=by rw[kind]
theorem kind_cc (t u:Tm)(r:O):kind (t::u::r)=kind (u::r):=by rw[kind]
theorem bef_nil:bef []=[]:=by unfold bef;rfl
theorem bef_s (c:Int)(e:O):bef [⟨c,e⟩]=if c=1 then [] else [⟨c-1,e⟩]:=by rw[bef]
theorem bef_cc (t u:Tm)(r:O):bef (t::u::r)=t::bef (u::r):=by rw[bef]
theorem kind_range (x:O):kind x=0∨kind x=1∨kind x=2:=by
 induction x with
 | nil=>exact .inl kind_nil
 | cons t r ih=>cases r with
  | nil=>obtain⟨c,e⟩:=t;rw[kind_s];split<;>simp
  | cons u s=>rw[kind_cc];exact ih
theorem kind_zero {x:O}:kind x=0 ↔ x=[]:=by
 constructor
 ·intro h
  induction x with
  | nil=>rfl
  | cons t r ih=>cases r with
   | nil=>obtain⟨c,e⟩:=t;rw[kind_s] at h;split at h<;>omega
   | cons u s=>rw[kind_cc] at h;exact absurd (ih h) (by simp)
 ·rintro rfl;exact kind_nil
theorem below_bef {g:O}{x:O}(h:below g x):below g (bef x):=by
 cases x with
 | nil=>rw[bef_nil];exact h
 | cons t r =>
  obtain⟨c,e⟩:=t
  cases r with
  | nil => rw [bef_s]; split
           ·trivial
           ·exact h
  | cons u s=>rw[bef_cc];exact h
theorem bef_NF {x:O}(h:NF x):NF (bef x):=by
 induction x with
 | nil=>rw[bef_nil];exact h
 | cons t r ih =>
  obtain⟨c,e⟩:=t
  obtain⟨h1,h2,h3,h4⟩:=NF_cons.1 h
  cases r with
  | nil => rw [bef_s]; split
           ·exact NF_nil
           ·exact NF_cons.2 ⟨by omega,h2,h3,h4⟩
  | cons u s=>rw[bef_cc];exact NF_cons.2 ⟨h1,h2,ih h3,below_bef h4⟩
theorem size_bef (x:O):size (bef x)≤size x:=by
 induction x with
 | nil=>rw[bef_nil];omega
 | cons t r ih =>
  obtain⟨c,e⟩:=t
  have:=sp_ e
  cases r with
  | nil => rw [bef_s, sc_]; split
           ·rw[sn_];omega
           ·rw[sc_];omega
  | cons u s=>rw[bef_cc,sc_,sc_];omega
theorem add_bef {x:O}(h:NF x)(k:kind x=1):add (bef x) one=x:=by
 induction x with
 | nil=>rw[kind_nil] at k;omega
 | cons t r ih =>
  obtain⟨c,e⟩:=t
  obtain⟨h1,h2,h3,h4⟩:=NF_cons.1 h
  cases r with
  | nil =>
   rw[kind_s] at k
   have he:e=[]:=by
    cases e with
    | nil=>rfl
    | cons _ _=>exact absurd k (by simp)
   subst he
   rw[bef_s]
   split
   ·next hc=>subst hc;rw[nil_add]
   ·rw[add_eq];congr 2;omega
  | cons u s =>
   rw[kind_cc] at k
   rw[bef_cc,cons_add (r:=bef (u::s)) (y:=one) (nil_lt (ne_of_gt (f:=e) (h:=u.f1) (by obtain⟨_,f⟩:=u;exact h4)):Lt [] e),ih h3 k]
theorem bef_append (p:O)(c:Int)(e:O):bef (p++[⟨c,e⟩])=p++bef [⟨c,e⟩]:=by
 induction p with
 | nil=>rfl
 | cons t r ih=>cases r with
  | nil=>show bef (t::⟨c,e⟩::[])=_;rw[bef_cc];rfl
  | cons u s=>show bef (t::u::(s++_))=_;rw[bef_cc];exact congrArg _ ih
theorem kind_append (p:O)(c:Int)(e:O):kind (p++[⟨c,e⟩])=kind [⟨c,e⟩]:=by
 induction p with
 | nil=>rfl
 | cons t r ih=>cases r with
  | nil=>show kind (t::⟨c,e⟩::[])=_;rw[kind_cc]
  | cons u s=>show kind (t::u::(s++_))=_;rw[kind_cc];exact ih
theorem NF_append_last {p:O}{c:Int}{e:O}:NF (p++[⟨c,e⟩])→1≤c∧NF e:=by
 induction p with
 | nil=>intro h;exact⟨(NF_cons.1 h).1,(NF_cons.1 h).2.1⟩
 | cons t r ih=>intro h;obtain⟨d,f⟩:=t;exact ih (NF_cons.1 h).2.2.1
theorem lt_next (x:O):Lt x (add x one):=lt_add NF_one (by simp)
theorem bef_lt {x:O}(h:NF x)(k:kind x=1):Lt (bef x) x:=by
 have:=lt_next (bef x)
 rwa [add_bef h k] at this
def step (n:Int):O→O
 | []=>[]
 | [⟨c,e⟩]=>(if c=1 then [] else [⟨c-1,e⟩])++(if kind e=2 then [⟨1,step n e⟩] else if kind e=1∧0<n then [⟨n,bef e⟩] else [])
 | t::u::r=>t::step n (u::r)
def tail (n:Int)(e:O):O:=if kind e=2 then [⟨1,step n e⟩] else if kind e=1∧0<n then [⟨n,bef e⟩] else []
theorem step_nil (n:Int):step n []=[]:=by unfold step;rfl
theorem step_s (n c:Int)(e:O):step n [⟨c,e⟩]=bef [⟨c,e⟩]++tail n e:=by rw[step,bef_s];rfl
theorem step_cc (n:Int)(t u:Tm)(r:O):step n (t::u::r)=t::step n (u::r):=by rw[step]
theorem step_append (n:Int)(p:O)(c:Int)(e:O):step n (p++[⟨c,e⟩])=p++step n [⟨c,e⟩]:=by
 induction p with
 | nil=>rfl
 | cons t r ih=>cases r with
  | nil=>show step n (t::⟨c,e⟩::[])=_;rw[step_cc];rfl
  | cons u s=>show step n (t::u::(s++_))=_;rw[step_cc];exact congrArg _ ih
theorem kind_one_nil {e:O}(c:Int):kind [⟨c,e⟩]=1 ↔ e=[]:=by
 rw[kind_s];cases e<;>simp
theorem step_one {n:Int}{x:O}(k:kind x=1):step n x=bef x:=by
 induction x with
 | nil=>rw[step_nil,bef_nil]
 | cons t r ih =>
  obtain⟨c,e⟩:=t
  cases r with
  | nil =>
   have:=(kind_one_nil c).1 k
   subst this
   rw[step_s];unfold tail;rw[kind_nil];simp
  | cons u s=>rw[step_cc,bef_cc];rw[kind_cc] at k;rw[ih k]
theorem indl {P:O→Prop}(h0:P [])(h1:∀ c e,P e→P [⟨c,e⟩])(h2:∀ t u r,P (u::r)→P (t::u::r)):∀ x,P x:=by
 intro x
 induction x using ind with
 | h0=>exact h0
 | h1 c e r ihe ihr=>cases r with
  | nil=>exact h1 c e ihe
  | cons u r=>exact h2 _ u r ihr
theorem NF_tail {n:Int}{e:O}(he:NF e)(hs:NF (step n e)):NF (tail n e):=by
 unfold tail
 split
 ·exact NF_cons.2 ⟨by omega,hs,NF_nil,trivial⟩
 ·split
  ·next h=>exact NF_cons.2 ⟨by omega,bef_NF he,NF_nil,trivial⟩
  ·exact NF_nil
theorem step_lt (n:Int):∀ {x:O},NF x→x≠[]→Lt (step n x) x:=by
 intro x
 induction x using indl with
 | h0=>intro _ h;exact absurd rfl h
 | h1 c e ih =>
  intro h _
  obtain⟨h1,h2,h3,h4⟩:=NF_cons.1 h
  rw[step_s,bef_s]
  split
  ·unfold tail
   split
   ·next k=>exact cmp_lt_e (ih h2 (by rintro rfl;rw[kind_nil] at k;omega)) _ _ _ _
   ·split
    ·next k=>exact cmp_lt_e (bef_lt h2 k.1) _ _ _ _
    ·exact cmp_nc _ _
  ·exact cmp_lt_c (by omega) _ _ _
 | h2 t u r ih =>
  intro h _
  obtain⟨c,e⟩:=t
  rw[step_cc]
  show cmp _ _=-1
  rw[cmp_eq_t];exact ih (NF_cons.1 h).2.2.1 (by simp)
theorem tail_below {n:Int}{e:O}(he:NF e):below e (tail n e):=by
 unfold tail
 split
 ·next k=>exact step_lt n he (by rintro rfl;rw[kind_nil] at k;omega)
 ·split
  ·next k=>exact bef_lt he k.1
  ·trivial
theorem step_below {n:Int}{g x:O}(hx:NF x)(h:below g x):below g (step n x):=by
 cases x with
 | nil=>rw[step_nil];exact h
 | cons t r =>
  obtain⟨c,e⟩:=t
  cases r with
  | nil => rw [step_s, bef_s]; split
           ·exact below.mono h (tail_below (NF_cons.1 hx).2.1)
           ·exact h
  | cons u s=>rw[step_cc];exact h
theorem step_NF {n:Int}:∀ {x:O},NF x→NF (step n x):=by
 intro x
 induction x using indl with
 | h0=>intro h;rw[step_nil];exact h
 | h1 c e ih =>
  intro h
  obtain⟨h1,h2,h3,h4⟩:=NF_cons.1 h
  rw[step_s,bef_s]
  split
  ·exact NF_tail h2 (ih h2)
  ·exact NF_cons.2 ⟨by omega,h2,NF_tail h2 (ih h2),tail_below h2⟩
 | h2 t u r ih =>
  intro h
  obtain⟨c,e⟩:=t
  obtain⟨h1,h2,h3,h4⟩:=NF_cons.1 h
  rw[step_cc];exact NF_cons.2 ⟨h1,h2,ih h3,step_below h3 h4⟩
end OM
namespace OM
end OM
namespace OM
def Tl {α:Type}(g:Nat→Option α)(r:α):Prop:=∃ K,∀ k,K≤k→g k=some r
section
variable {α β:Type}{a:α}{r:β}
theorem Tl.w (r:α):Tl (fun _=>some r) r:=⟨0,fun _ _=>rfl⟩
theorem Tl.c {x:Option α}(h:x=some a):Tl (fun _=>x) a:=⟨0,fun _ _=>h⟩
theorem Tl.b {g:Nat→Option α}{f:Nat→α→Option β}(h:Tl g a)(e:Tl (fun k=>f k a) r):Tl (fun k=>(g k).bind (f k)) r:=by
 obtain⟨K,h⟩:=h
 obtain⟨M,e⟩:=e
 refine⟨max K M,fun k hk=>?_⟩
 show (g k).bind (f k)=some r
 rw[h k (by omega)]
 exact e k (by omega)
theorem Tl.d {f:Nat→α→Option β}(e:Tl (fun k=>f k a) r):Tl (fun k=>(some a).bind (f k)) r:=e
theorem Tl.s {g f:Nat→Option α}(h:∀ k,g (k+1)=f k)(e:Tl f a):Tl g a:=by
 obtain⟨K,e⟩:=e
 refine⟨K+1,fun k hk=>?_⟩
 obtain⟨m,rfl⟩:∃ m,k=m+1:=⟨k-1,by omega⟩
 rw[h];exact e m (by omega)
theorem Tl.p {c:Prop}[Decidable c]{f g:Nat→Option α}(h:c)(e:Tl f a):Tl (fun k=>if c then f k else g k) a:=by
 obtain⟨K,e⟩:=e
 exact⟨K,fun k hk=>by show (if c then f k else g k)=some a;rw[if_pos h];exact e k hk⟩
theorem Tl.n {c:Prop}[Decidable c]{f g:Nat→Option α}(h:¬ c)(e:Tl g a):Tl (fun k=>if c then f k else g k) a:=by
 obtain⟨K,e⟩:=e
 exact⟨K,fun k hk=>by show (if c then f k else g k)=some a;rw[if_neg h];exact e k hk⟩
theorem Tl.to {g:Nat→Option α}{b:α}(h:Tl g b)(e:b=a):Tl g a:=e ▸ h
theorem Tl.congr {g f:Nat→Option α}(h:∀ k,g k=f k)(e:Tl f a):Tl g a:=by
 obtain⟨K,e⟩:=e
 exact⟨K,fun k hk=>by rw[h];exact e k hk⟩
end
def flat:O→List Int
 | []=>[]
 | ⟨c,e⟩::r=>c::(((e.length:Int)::flat e)++flat r)
def row (x:O):List Int:=(x.length:Int)::flat x
theorem flat_nil:flat []=[]:=by unfold flat;rfl
theorem flat_cons (c:Int)(e r:O):flat (⟨c,e⟩::r)=c::(row e++flat r):=by rw[flat];rfl
theorem row_nil:row []=[0]:=by unfold row;rw[flat_nil];rfl
theorem flat_length (x:O):((flat x).length:Int)=size x-1:=by
 induction x using ind with
 | h0=>rw[flat_nil,sn_];rfl
 | h1 c e r ihe ihr=>rw[flat_cons,sc_];unfold row;simp only[List.length_cons,List.length_append];omega
theorem rl_ (x:O):((row x).length:Int)=size x:=by
 have:=flat_length x
 unfold row;simp only[List.length_cons];omega
theorem ll_ (x:O):2*(x.length:Int)≤size x-1:=by
 induction x with
 | nil=>rw[sn_];simp
 | cons t r ih=>obtain⟨c,e⟩:=t;have:=sp_ e;rw[sc_];simp only[List.length_cons];omega
def late (last:Option O)(e:O):Bool:=match last with
 | none=>false
 | some f=>decide (0≤cmp e f)
def terms (tk:List Int→Option (O × List Int)):Nat→Option O→List Int→Option (O × List Int)
 | 0,_,l=>some ([],l)
 | _+1,_,[]=>none
 | c+1,last,t::l =>
  if 1≤t∧t≤9999 then
   match tk l with
   | none=>none
   | some (e,l')=>if late last e=true then none else
    match terms tk c (some e) l' with
    | none=>none
    | some (r,l'')=>some (⟨t,e⟩::r,l'')
  else none
def take:Nat→List Int→Option (O × List Int)
 | 0,_=>none
 | _+1,[]=>none
 | n+1,m::l=>if 0≤m∧m≤60 then terms (take n) m.toNat none l else none
def Good (tk:List Int→Option (O × List Int)):Prop:=∀ l x l',tk l=some (x,l')→l=row x++l'∧NF x∧most x≤9999
theorem terms_good {tk:List Int→Option (O × List Int)}(htk:Good tk):∀ {c:Nat} {last:Option O} {l l':List Int} {r:O},terms tk c last l=some (r,l') →
 l=flat r++l'∧NF r∧most r≤9999∧r.length=c∧∀ f,last=some f→below f r:=by
 intro c
 induction c with
 | zero =>
  intro last l l' r h
  unfold terms at h
  injection h with h
  injection h with h1 h2
  subst h1;subst h2
  exact⟨by rw[flat_nil];rfl,NF_nil,by rw[most_nil];omega,rfl,fun _ _=>trivial⟩
 | succ c ih =>
  intro last l l' r h
  cases l with
  | nil=>unfold terms at h;cases h
  | cons t l =>
   rw[terms] at h
   split at h
   ·next ht =>
    split at h
    ·cases h
    ·next e l1 he =>
     obtain⟨a1,a2,a3⟩:=htk _ _ _ he
     split at h
     ·cases h
     ·next hl =>
      split at h
      ·cases h
      ·next r' l2 hr =>
       injection h with h
       injection h with h1 h2
       subst h1;subst h2
       obtain⟨b1,b2,b3,b4,b5⟩:=ih hr
       refine⟨?_,NF_cons.2 ⟨ht.1,a2,b2,b5 e rfl⟩,?_,by simp[b4],fun f hf=>?_⟩
       ·rw[a1,b1,flat_cons];simp
       ·rw[mc_];omega
       ·subst hf
        unfold late at hl
        simp only[decide_eq_true_eq] at hl
        have:=cmp_range e f
        show cmp e f=-1
        omega
   ·cases h
theorem take_good (n:Nat):Good (take n):=by
 induction n with
 | zero=>intro l x l' h;unfold take at h;cases h
 | succ n ih =>
  intro l x l' h
  cases l with
  | nil=>unfold take at h;cases h
  | cons m l =>
   rw[take] at h
   split at h
   ·next hm =>
    obtain⟨a1,a2,a3,a4,_⟩:=terms_good ih h
    refine⟨?_,a2,a3⟩
    rw[a1]
    have:m=(x.length:Int):=by rw[a4];omega
    rw[this];rfl
   ·cases h
theorem take_len {n:Nat}{l l':List Int}{x:O}(h:take n l=some (x,l')):l'.length<l.length:=by
 obtain⟨a,_,_⟩:=take_good n _ _ _ h
 rw[a];unfold row;simp;omega
theorem terms_full {n:Nat}(ih:∀ x l,NF x→most x≤9999→(size x≤60)→size x<n→take n (row x++l)=some (x,l)) :
 ∀ (r:O) (last:Option O) (l:List Int),NF r→most r≤9999→size r≤60→size r≤n→(∀ f,last=some f→below f r)→terms (take n) r.length last (flat r++l)=some (r,l):=by
 intro r
 induction r with
 | nil=>intro last l _ _ _ _ _;rw[flat_nil];unfold terms;rfl
 | cons t r ihr =>
  intro last l h1 h2 h3 h4 h5
  obtain⟨c,e⟩:=t
  obtain⟨a1,a2,a3,a4⟩:=NF_cons.1 h1
  rw[mc_] at h2
  rw[sc_] at h3 h4
  have:=sp_ r
  have:=sp_ e
  rw[flat_cons]
  simp only[List.length_cons,List.cons_append,List.append_assoc]
  rw[terms,if_pos ⟨a1,by omega⟩,ih e _ a2 (by omega) (by omega) (by omega)]
  simp only
  have hl:¬ late last e=true:=by
   unfold late
   cases last with
   | none=>simp
   | some f =>
    have:=h5 f rfl
    simp only[decide_eq_true_eq]
    rw[below_cons] at this
    rw[this];omega
  rw[if_neg hl,ihr (some e) l a3 (by omega) (by omega) (by omega) (fun f hf=>by injection hf with hf;subst hf;exact a4)]
theorem take_full:∀ (n:Nat) (x:O) (l:List Int),NF x→most x≤9999→size x≤60→size x<n→take n (row x++l)=some (x,l):=by
 intro n
 induction n with
 | zero=>intro x l _ _ _ h;have:=sp_ x;omega
 | succ n ih =>
  intro x l h1 h2 h3 h4
  have:=ll_ x
  unfold row
  rw[List.cons_append,take,if_pos ⟨by omega,by omega⟩,Int.toNat_natCast]
  exact terms_full (fun x l a b c d=>ih x l a b c d) x none l h1 h2 h3 (by omega) (fun f hf=>by cases hf)
def Vd (x:O):Prop:=NF x∧most x≤9999∧size x≤60
theorem Vd.size {x:O}(h:Vd x):size x≤60:=h.2.2
def ordOf (l:List Int):Option O:=if 1≤l.length∧l.length≤60 then(match take 61 l with | some (x,[])=>some x | _=>none) else none
theorem os_ {l:List Int}{x:O}(h:ordOf l=some x):l=row x∧Vd x:=by
 unfold ordOf at h
 split at h
 ·next hl =>
  split at h
  ·next y he =>
   injection h with h
   subst h
   obtain⟨a1,a2,a3⟩:=take_good _ _ _ _ he
   rw[List.append_nil] at a1
   have:=rl_ y
   rw[← a1] at this
   exact⟨a1,a2,a3,by omega⟩
  ·cases h
 ·cases h
theorem or_ {x:O}(h:Vd x):ordOf (row x)=some x:=by
 obtain⟨h1,h2,h3⟩:=h
 have h4:=rl_ x
 have h5:=sp_ x
 have h6:=take_full 61 x [] h1 h2 h3 (by omega)
 rw[List.append_nil] at h6
 unfold ordOf
 rw[if_pos ⟨by omega,by omega⟩,h6]
end OM
namespace Go.Proofs.Ytfkecmnklpjelaa.P
open OM Go.RowKit Go.Proofs.YtfkecmnklpjelaaW.PrintWords Go.Proofs.YtfkecmnklpjelaaW.PrintLast Go.Proofs.YtfkecmnklpjelaaW.PrintMore
set_option linter.unusedVariables false
theorem wi_ {i:Int}(h0:-9000000000000000000≤i)(h:i≤9000000000000000000):wrap64 i=i:=by unfold wrap64;omega
theorem getD_mid {α:Type}(p s:List α)(c d:α){i:Int}(hi:i=(p.length:Int)):(p++c::s).getD i.toNat d=c:=by subst hi;simp
theorem rd_mid (p s:List Int)(c:Int){i:Int}(hi:i=(p.length:Int)):rd (p++c::s) i=c:=getD_mid p s c 0 hi
theorem rdT_mid (p s:O)(c:Tm){i:Int}(hi:i=(p.length:Int)):rd_T60 (p++c::s) i=c:=getD_mid p s c _ hi
theorem rdL_mid (p s:List (List Int))(c:List Int){i:Int}(hi:i=(p.length:Int)):rd_L1 (p++c::s) i=c:=getD_mid p s c _ hi
theorem snoc {α:Type}(p s:List α)(c:α):p++c::s=(p++[c])++s:=by simp
theorem sa_ (p r:O):size (p++r)=size p+size r-1:=by
 induction p with
 | nil=>rw[sn_];show size r=_;omega
 | cons t p ih=>obtain⟨c,e⟩:=t;show size (⟨c,e⟩::(p++r))=_;rw[sc_,sc_,ih];omega
theorem cmpInt (a b:Int):cmp_Compare_int.f a b=some (if a<b then -1 else if b<a then 1 else 0):=by
 unfold cmp_Compare_int.f cmp_isNaN_int.f
 simp only[Option.bind_some,bne_self_eq_false,Bool.false_eq_true,if_false]
 split
 ·rfl
 ·split<;>rfl
theorem compare_f (k:Nat)(x y:O):impl_compare.f (k+1) x y=impl_compare.l0 k x y 0:=by rw[impl_compare.f]
theorem compare_l:∀ (r p q s:O),p.length=q.length→size (p++r)≤10000000000→size (q++s)≤10000000000→Tl (fun k=>impl_compare.l0 k (p++r) (q++s) (p.length:Int)) (cmp r s):=by
 intro r
 induction r using ind with
 | h0 =>
  intro p q s hl h1 h2
  have hs:=ll_ (p++[])
  have hq:=ll_ (q++s)
  refine Tl.s (fun k=>by rw[impl_compare.l0]) ?_
  refine Tl.n (by simp) ?_
  refine Tl.s (fun k=>by rw[impl_compare.j1]) ?_
  refine Tl.n (by simp) ?_
  refine Tl.b (Tl.c (cmpInt _ _)) ?_
  refine Tl.to (Tl.w _) ?_
  simp only[List.length_append,List.length_nil,Nat.add_zero]
  cases s with
  | nil=>rw[cmp_nn,if_neg (by simp;omega),if_neg (by simp;omega)]
  | cons t s=>rw[cmp_nc,if_pos (by simp;omega)]
 | h1 c e r ihe ihr =>
  intro p q s hl h1 h2
  have hp:=ll_ p
  have hs:=ll_ (p++(⟨c,e⟩::r))
  have hq:=ll_ (q++s)
  refine Tl.s (fun k=>by rw[impl_compare.l0]) ?_
  refine Tl.p (by simp;omega) ?_
  refine Tl.s (fun k=>by rw[impl_compare.j1]) ?_
  cases s with
  | nil =>
   refine Tl.n (by simp;omega) ?_
   refine Tl.b (Tl.c (cmpInt _ _)) ?_
   refine Tl.to (Tl.w _) ?_
   rw[cmp_cn,if_neg (by simp;omega),if_pos (by simp;omega)]
  | cons t s =>
   obtain⟨d,f⟩:=t
   refine Tl.p (by simp;omega) ?_
   refine Tl.p (by omega) ?_
   refine Tl.p (by simp;omega) ?_
   refine Tl.p (by simp;omega) ?_
   rw[rdT_mid p r ⟨c,e⟩ rfl,rdT_mid q s ⟨d,f⟩ (by rw[hl])]
   have z1:=h1
   have z2:=h2
   rw[sa_,sc_] at z1 z2
   have:=sp_ r
   have:=sp_ s
   have:=sp_ p
   have:=sp_ q
   have:=sp_ e
   have:=sp_ f
   refine Tl.b (Tl.s (fun k=>compare_f k e f) (ihe [] [] f rfl (by show size e≤_;omega) (by show size f≤_;omega))) ?_
   show Tl (fun k=>if cmp e f=0 then _ else _) _
   rw[cmp_cc]
   by_cases z:cmp e f=0
   ·refine Tl.p z ?_
    rw[if_pos z]
    refine Tl.b (Tl.c (cmpInt _ _)) ?_
    by_cases a:c<d
    ·rw[if_pos a,if_pos a]
     exact Tl.n (by omega) (Tl.w _)
    ·by_cases b:d<c
     ·rw[if_neg a,if_pos b,if_neg a,if_pos b]
      exact Tl.n (by omega) (Tl.w _)
     ·rw[if_neg a,if_neg b,if_neg a,if_neg b]
      refine Tl.p rfl ?_
      rw[snoc p,snoc q,wi_ (by omega) (by omega)]
      have:=ihr (p++[⟨c,e⟩]) (q++[⟨d,f⟩]) s (by simp[hl]) (by rw[← snoc];exact h1) (by rw[← snoc];exact h2)
      rw[show ((p++[(⟨c,e⟩:Tm)]).length:Int)=(p.length:Int)+1 by simp] at this
      exact this
   ·refine Tl.n z ?_
    rw[if_neg z]
    exact Tl.w _
theorem compare_ev {x y:O}(hx:size x≤10000000000)(hy:size y≤10000000000):Tl (fun k=>impl_compare.f k x y) (cmp x y) :=
 Tl.s (fun k=>compare_f k x y) (compare_l x [] [] y rfl hx hy)
theorem rowOf_f (k:Nat)(x:O):impl_rowOf.f (k+1) x=impl_rowOf.l0 k [(x.length:Int)] x (x.length:Int) 0:=by rw[impl_rowOf.f]
theorem rowOf_l:∀ (r p:O) (acc:List Int),size (p++r)≤10000000000→(acc.length:Int)+size r≤20000000000→Tl (fun k=>impl_rowOf.l0 k acc (p++r) ((p++r).length:Int) (p.length:Int)) (acc++flat r):=by
 intro r
 induction r using ind with
 | h0 =>
  intro p acc h1 h2
  refine Tl.s (fun k=>by rw[impl_rowOf.l0]) ?_
  refine Tl.n (by simp) ?_
  refine Tl.to (Tl.w _) ?_
  rw[flat_nil,List.append_nil]
 | h1 c e r ihe ihr =>
  intro p acc h1 h2
  have hp:=ll_ p
  have z1:=h1
  rw[sa_,sc_] at z1
  rw[sc_] at h2
  have:=sp_ r
  have:=sp_ p
  have:=sp_ e
  refine Tl.s (fun k=>by rw[impl_rowOf.l0]) ?_
  refine Tl.p (by simp;omega) ?_
  refine Tl.p (by omega) ?_
  refine Tl.p (by simp;omega) ?_
  refine Tl.p (by omega) ?_
  refine Tl.d ?_
  rw[rdT_mid p r ⟨c,e⟩ rfl]
  refine Tl.b (Tl.s (fun k=>rowOf_f k e) (ihe [] [(e.length:Int)] (by show size e≤_;omega) (by simp;omega))) ?_
  have hl:=rl_ e
  have he:([(e.length:Int)]++flat e)=row e:=rfl
  rw[he]
  refine Tl.p (by simp only[List.length_append,List.length_cons,List.length_nil];omega) ?_
  rw[wi_ (by omega) (by omega),snoc p]
  have:=ihr (p++[⟨c,e⟩]) (acc++[c]++row e) (by rw[← snoc];exact h1) (by simp only[List.length_append,List.length_cons,List.length_nil];omega)
  rw[show ((p++[(⟨c,e⟩:Tm)]).length:Int)=(p.length:Int)+1 by simp] at this
  refine Tl.to this ?_
  rw[flat_cons];simp
theorem rowOf_ev {x:O}(hx:size x≤10000000000):Tl (fun k=>impl_rowOf.f k x) (row x) :=
 Tl.s (fun k=>rowOf_f k x) (rowOf_l x [] [(x.length:Int)] hx (by simp;omega))
theorem sizeOf_f (k:Nat)(x:O):impl_sizeOf.f (k+1) x=impl_sizeOf.l0 k 1 x (x.length:Int) 0:=by rw[impl_sizeOf.f]
theorem sizeOf_l:∀ (r p:O) (n:Int),size (p++r)≤10000000000→0≤n→n+size r≤20000000000→Tl (fun k=>impl_sizeOf.l0 k n (p++r) ((p++r).length:Int) (p.length:Int)) (n+size r-1):=by
 intro r
 induction r using ind with
 | h0 =>
  intro p n h1 h2 h3
  refine Tl.s (fun k=>by rw[impl_sizeOf.l0]) ?_
  refine Tl.n (by simp) ?_
  refine Tl.to (Tl.w _) ?_
  rw[sn_];omega
 | h1 c e r ihe ihr =>
  intro p n h1 h2 h3
  have hp:=ll_ p
  have z1:=h1
  rw[sa_,sc_] at z1
  rw[sc_] at h3 ⊢
  have:=sp_ r
  have:=sp_ p
  have:=sp_ e
  refine Tl.s (fun k=>by rw[impl_sizeOf.l0]) ?_
  refine Tl.p (by simp;omega) ?_
  refine Tl.p (by omega) ?_
  refine Tl.p (by simp;omega) ?_
  rw[rdT_mid p r ⟨c,e⟩ rfl]
  refine Tl.b (Tl.s (fun k=>sizeOf_f k e) (ihe [] 1 (by show size e≤_;omega) (by omega) (by omega))) ?_
  rw[wi_ (i:=(p.length:Int)+1) (by omega) (by omega),wi_ (i:=1+(1+size e-1)) (by omega) (by omega),wi_ (i:=n+(1+(1+size e-1))) (by omega) (by omega),snoc p]
  have:=ihr (p++[⟨c,e⟩]) (n+(1+(1+size e-1))) (by rw[← snoc];exact h1) (by omega) (by omega)
  rw[show ((p++[(⟨c,e⟩:Tm)]).length:Int)=(p.length:Int)+1 by simp] at this
  exact Tl.to this (by omega)
theorem sizeOf_ev {x:O}(hx:size x≤10000000000):Tl (fun k=>impl_sizeOf.f k x) (size x) :=
 Tl.to (Tl.s (fun k=>sizeOf_f k x) (sizeOf_l x [] 1 hx (by omega) (by omega))) (by omega)
theorem mx_max (a b:Int):mx a b=max a b:=by unfold mx;omega
theorem most_f (k:Nat)(x:O):impl_most.f (k+1) x=impl_most.l0 k 0 x (x.length:Int) 0:=by rw[impl_most.f]
theorem most_l:∀ (r p:O) (n:Int),size (p++r)≤10000000000→0≤n→Tl (fun k=>impl_most.l0 k n (p++r) ((p++r).length:Int) (p.length:Int)) (max n (most r)):=by
 intro r
 induction r using ind with
 | h0 =>
  intro p n h1 h2
  refine Tl.s (fun k=>by rw[impl_most.l0]) ?_
  refine Tl.n (by simp) ?_
  refine Tl.to (Tl.w _) ?_
  rw[most_nil];omega
 | h1 c e r ihe ihr =>
  intro p n h1 h2
  have hp:=ll_ p
  have z1:=h1
  rw[sa_,sc_] at z1
  have:=sp_ r
  have:=sp_ p
  have:=sp_ e
  have:=most_pos e
  refine Tl.s (fun k=>by rw[impl_most.l0]) ?_
  refine Tl.p (by simp;omega) ?_
  refine Tl.p (by omega) ?_
  refine Tl.p (by simp;omega) ?_
  rw[rdT_mid p r ⟨c,e⟩ rfl]
  refine Tl.b (Tl.s (fun k=>most_f k e) (ihe [] 0 (by show size e≤_;omega) (by omega))) ?_
  rw[wi_ (i:=(p.length:Int)+1) (by omega) (by omega),mx_max,mx_max,snoc p]
  have:=ihr (p++[⟨c,e⟩]) (max (max n c) (max 0 (most e))) (by rw[← snoc];exact h1) (by omega)
  rw[show ((p++[(⟨c,e⟩:Tm)]).length:Int)=(p.length:Int)+1 by simp] at this
  refine Tl.to this ?_
  rw[mc_];omega
theorem most_ev {x:O}(hx:size x≤10000000000):Tl (fun k=>impl_most.f k x) (most x) :=
 Tl.to (Tl.s (fun k=>most_f k x) (most_l x [] 0 hx (by omega))) (by have:=most_pos x;omega)
def toldv (x:O):List Int × Bool:=if size x≤60∧most x≤9999 then(row x,true) else([],false)
theorem told_ev {x:O}(hx:size x≤10000000000):Tl (fun k=>impl_told.f k x) (toldv x):=by
 unfold toldv
 refine Tl.b (sizeOf_ev hx) ?_
 by_cases h:size x>60
 ·refine Tl.p h ?_
  refine Tl.s (fun k=>by rw[impl_told.j0]) ?_
  refine Tl.p rfl ?_
  rw[if_neg (by omega)];exact Tl.w _
 ·refine Tl.n h ?_
  refine Tl.b (most_ev hx) ?_
  refine Tl.s (fun k=>by rw[impl_told.j0]) ?_
  by_cases g:most x>9999
  ·refine Tl.p (decide_eq_true g) ?_
   rw[if_neg (by omega)];exact Tl.w _
  ·refine Tl.n (by simp;omega) ?_
   rw[if_pos (by omega)]
   refine Tl.b (rowOf_ev hx) ?_
   exact Tl.w _
theorem rd_zero (a:Int)(l:List Int):rd (a::l) 0=a:=rfl
theorem takeOrd_l {n:Nat}(ih:∀ l:List Int,l.length<n→(l.length:Int)≤100000000→Tl (fun k=>impl_takeOrd.f k l) (match take n l with | none=>([],[],false) | some (x,l')=>(x,l',true))) :
 ∀ (c:Nat) (acc:O) (l:List Int) (last:Option O) (m:Int),l.length≤n→(l.length:Int)≤100000000→m=(acc.length:Int)+c→0≤m→m≤60→size acc+(l.length:Int)≤200000000 →
  (∀ t a,acc=a++[t]→last=some t.f1)→(acc=[]→last=none) →
  Tl (fun k=>impl_takeOrd.l0 k l acc m (acc.length:Int)) (match terms (take n) c last l with | none=>([],[],false) | some (x,l')=>(acc++x,l',true)):=by
 intro c
 induction c with
 | zero =>
  intro acc l last m h1 h1' h2 h3 h4 hz h5 h6
  refine Tl.s (fun k=>by rw[impl_takeOrd.l0]) ?_
  refine Tl.n (by omega) ?_
  refine Tl.to (Tl.w _) ?_
  unfold terms;simp
 | succ c ihc =>
  intro acc l last m h1 h1' h2 h3 h4 hz h5 h6
  have hacc:=sp_ acc
  refine Tl.s (fun k=>by rw[impl_takeOrd.l0]) ?_
  refine Tl.p (by omega) ?_
  have bad:Tl (fun k=>impl_takeOrd.j2 k l acc (acc.length:Int) m (acc.length:Int) true) (([]:O),([]:List Int),false):=by
   refine Tl.s (fun k=>by rw[impl_takeOrd.j2]) ?_
   exact Tl.p rfl (Tl.w _)
  cases l with
  | nil =>
   refine Tl.p rfl ?_
   refine Tl.to bad ?_
   unfold terms;rfl
  | cons t l =>
   refine Tl.n (by simp<;>omega) ?_
   refine Tl.p (by simp<;>omega) ?_
   rw[rd_zero,terms]
   by_cases ht:t<1
   ·refine Tl.p ht ?_
    refine Tl.to bad ?_
    rw[if_neg (by omega)]
   ·refine Tl.n ht ?_
    by_cases ht':t>9999
    ·rw[decide_eq_true ht']
     refine Tl.to bad ?_
     rw[if_neg (by omega)]
    ·rw[decide_eq_false ht',if_pos (by omega)]
     refine Tl.s (fun k=>by rw[impl_takeOrd.j2]) ?_
     refine Tl.n (by simp) ?_
     refine Tl.p (by simp;omega) ?_
     simp only[List.length_cons] at h1 h1' hz
     refine Tl.b (ih l (by omega) (by omega)) ?_
     cases hk:take n l with
     | none=>exact Tl.n (by simp) (Tl.w _)
     | some q =>
      obtain⟨e,l1⟩:=q
      simp only
      refine Tl.p trivial ?_
      have hlen:=take_len hk
      obtain⟨a1,a2,a3⟩:=take_good _ _ _ _ hk
      have hse:size e+(l1.length:Int)=(l.length:Int):=by
       have:=rl_ e
       rw[a1,List.length_append];omega
      have go:∀ last',last'=some e→Tl (fun k=>if 0<(((t::l).length:Nat):Int) then(if acc.length<4398046511104 then(impl_takeOrd.l0 k l1 (acc++[(⟨rd (t::l) 0,e⟩:Tm)]) m (wrap64 ((acc.length:Int)+1))) else none) else none)
       (match (match terms (take n) c last' l1 with | none=>none | some (r,l'')=>some ((⟨t,e⟩:Tm)::r,l'')) with | none=>([],[],false) | some (x,l')=>(acc++x,l',true)):=by
       intro last' hl'
       refine Tl.p (by simp<;>omega) ?_
       refine Tl.p (by have:=ll_ acc;omega) ?_
       rw[rd_zero,wi_ (by omega) (by omega)]
       have:=ihc (acc++[⟨t,e⟩]) l1 last' m (by omega) (by omega) (by simp;omega) h3 h4 (by rw[sa_,sc_,sn_];omega)
        (fun t' a ha=>by
         have:=List.append_inj_right' ha rfl
         injection this with this
         rw[hl',← this])
        (fun ha=>by simp at ha)
       rw[show ((acc++[(⟨t,e⟩:Tm)]).length:Int)=(acc.length:Int)+1 by simp] at this
       refine Tl.to this ?_
       cases terms (take n) c last' l1 with
       | none=>rfl
       | some q=>obtain⟨r,l2⟩:=q;simp
      rcases List.eq_nil_or_concat acc with hacc | ⟨a,t',hacc⟩
      ·have hl:=h6 hacc
       subst hl
       refine Tl.n (by rw[hacc];simp) ?_
       have:late none e=false:=rfl
       rw[if_neg (by rw[this];simp)]
       exact go (some e) rfl
      ·rw[List.concat_eq_append] at hacc
       have hl:=h5 t' a hacc
       have hp:(acc.length:Int)=(a.length:Int)+1:=by rw[hacc];simp
       refine Tl.p (by omega) ?_
       rw[wi_ (by omega) (by omega)]
       refine Tl.p (by omega) ?_
       refine Tl.p (by omega) ?_
       have hrd:rd_T60 acc ((acc.length:Int)-1)=t':=by
        rw[hacc];exact rdT_mid a [] t' (by simp)
       rw[hrd]
       have hst:size t'.f1≤size acc:=by
        obtain⟨ct,et⟩:=t'
        have:=sp_ a
        have:=sp_ et
        rw[hacc,sa_,sc_,sn_];show size et≤_;omega
       refine Tl.b (compare_ev (by omega) (by omega)) ?_
       subst hl
       by_cases hc:cmp e t'.f1≥0
       ·refine Tl.p hc ?_
        have:late (some t'.f1) e=true:=by unfold late;simp only[decide_eq_true_eq];exact hc
        rw[if_pos this]
        exact Tl.w _
       ·refine Tl.n hc ?_
        have:¬ late (some t'.f1) e=true:=by unfold late;simp only[decide_eq_true_eq];exact hc
        rw[if_neg this]
        exact go (some e) rfl
theorem takeOrd_ev:∀ (n:Nat) (l:List Int),l.length<n→(l.length:Int)≤100000000→Tl (fun k=>impl_takeOrd.f k l) (match take n l with | none=>([],[],false) | some (x,l')=>(x,l',true)):=by
 intro n
 induction n with
 | zero=>intro l h;omega
 | succ n ih =>
  intro l h h'
  refine Tl.s (fun k=>by rw[impl_takeOrd.f]) ?_
  cases l with
  | nil=>refine Tl.p rfl ?_;unfold take;exact Tl.w _
  | cons m l =>
   simp only[List.length_cons] at h h'
   refine Tl.n (by simp<;>omega) ?_
   refine Tl.p (by simp<;>omega) ?_
   refine Tl.p (by simp<;>omega) ?_
   refine Tl.d ?_
   refine Tl.d ?_
   rw[rd_zero,take]
   by_cases h1:m<0
   ·refine Tl.p h1 ?_
    refine Tl.s (fun k=>by rw[impl_takeOrd.j0]) ?_
    refine Tl.p rfl ?_
    rw[if_neg (by omega)];exact Tl.w _
   ·refine Tl.n h1 ?_
    refine Tl.s (fun k=>by rw[impl_takeOrd.j0]) ?_
    by_cases h2:m>60
    ·refine Tl.p (decide_eq_true h2) ?_
     rw[if_neg (by omega)];exact Tl.w _
    ·refine Tl.n (by simp;omega) ?_
     rw[if_pos (by omega)]
     have:=takeOrd_l ih m.toNat [] l none m (by omega) (by omega) (by simp;omega) (by omega) (by omega) (by rw[sn_];omega) (fun t a ha=>by simp at ha) (fun _=>rfl)
     exact this
def ordv (l:List Int):O × Bool:=match ordOf l with
 | some x=>(x,true)
 | none=>((if 1≤l.length∧l.length≤60 then(match take 61 l with | some (x,_)=>x | none=>[]) else []),false)
theorem ordOf_ev {l:List Int}:Tl (fun k=>impl_ordOf.f k l) (ordv l):=by
 unfold ordv ordOf
 by_cases h1:(l.length:Int)<1
 ·refine Tl.p h1 ?_
  rw[if_neg (by omega),if_neg (by omega)];exact Tl.w _
 ·refine Tl.n h1 ?_
  by_cases h2:(l.length:Int)>60
  ·refine Tl.p h2 ?_
   rw[if_neg (by omega),if_neg (by omega)];exact Tl.w _
  ·refine Tl.n h2 ?_
   refine Tl.b (takeOrd_ev 61 l (by omega) (by omega)) ?_
   have hc:1≤l.length∧l.length≤60:=by omega
   rw[if_pos hc,if_pos hc]
   cases take 61 l with
   | none=>exact Tl.n (by simp) (Tl.w _)
   | some q =>
    obtain⟨x,l'⟩:=q
    refine Tl.p rfl ?_
    cases l' with
    | nil=>exact Tl.w _
    | cons a l'=>refine Tl.to (Tl.w _) ?_;simp;omega
end Go.Proofs.Ytfkecmnklpjelaa.P
namespace Go.Proofs.Ytfkecmnklpjelaa.P
open OM Go.RowKit Go.Proofs.YtfkecmnklpjelaaW.PrintWords Go.Proofs.YtfkecmnklpjelaaW.PrintLast Go.Proofs.YtfkecmnklpjelaaW.PrintMore
set_option linter.unusedVariables false
theorem eqIntS_l:∀ (a b p q:List Int),p.length=q.length→a.length=b.length→((p++a).length:Int)≤4000000000000000000→Tl (fun k=>laws_eqIntS.l0 k (p++a) (q++b) (p.length:Int)) (decide (a=b)):=by
 intro a
 induction a with
 | nil =>
  intro b p q h1 h2 h3
  cases b with
  | cons _ _=>simp at h2
  | nil =>
   refine Tl.s (fun k=>by rw[laws_eqIntS.l0]) ?_
   exact Tl.n (by simp) (Tl.w _)
 | cons x a ih =>
  intro b p q h1 h2 h3
  cases b with
  | nil=>simp at h2
  | cons y b =>
   have h3':=h3
   simp only[List.length_append,List.length_cons] at h3'
   refine Tl.s (fun k=>by rw[laws_eqIntS.l0]) ?_
   refine Tl.p (by simp;omega) ?_
   refine Tl.p (by omega) ?_
   refine Tl.p (by simp;omega) ?_
   rw[rd_mid p a x rfl,rd_mid q b y (by rw[h1])]
   by_cases h:x=y
   ·refine Tl.p h ?_
    rw[wi_ (by omega) (by omega),snoc p,snoc q]
    have:=ih b (p++[x]) (q++[y]) (by simp[h1]) (by simpa using h2) (by rw[← snoc];exact h3)
    rw[show ((p++[x]).length:Int)=(p.length:Int)+1 by simp] at this
    refine Tl.to this ?_
    simp[h]
   ·refine Tl.n h ?_
    refine Tl.to (Tl.w _) ?_
    simp[h]
theorem eqIntS_ev {a b:List Int}(h:(a.length:Int)≤4000000000000000000):Tl (fun k=>laws_eqIntS.f k a b) (decide (a=b)):=by
 by_cases hl:(a.length:Int)=(b.length:Int)
 ·exact Tl.p hl (eqIntS_l a b [] [] rfl (by omega) h)
 ·refine Tl.n hl ?_
  refine Tl.to (Tl.w _) ?_
  have:a≠b:=by rintro rfl;exact hl rfl
  simp[this]
theorem toIntS_l:∀ (a p q:List Int),q.length=a.length→((p++a).length:Int)≤4000000000000000000→Tl (fun k=>laws_toIntS.l0 k (p++a) (p++q) (p.length:Int)) (p++a):=by
 intro a
 induction a with
 | nil =>
  intro p q h1 h3
  refine Tl.s (fun k=>by rw[laws_toIntS.l0]) ?_
  refine Tl.n (by simp) ?_
  have:q=[]:=List.eq_nil_of_length_eq_zero (by simpa using h1)
  rw[this];exact Tl.w _
 | cons x a ih =>
  intro p q h1 h3
  cases q with
  | nil=>simp at h1
  | cons y q =>
   have h3':=h3
   simp only[List.length_append,List.length_cons] at h3'
   refine Tl.s (fun k=>by rw[laws_toIntS.l0]) ?_
   refine Tl.p (by simp;omega) ?_
   refine Tl.p (by omega) ?_
   refine Tl.p (by simp;omega) ?_
   rw[rd_mid p a x rfl,wi_ (by omega) (by omega)]
   have hs:(p++y::q).set (p.length:Int).toNat x=(p++[x])++q:=by simp
   rw[hs,snoc p]
   have:=ih (p++[x]) q (by simpa using h1) (by rw[← snoc];exact h3)
   rw[show ((p++[x]).length:Int)=(p.length:Int)+1 by simp] at this
   exact this
theorem toIntS_ev {a:List Int}(h:(a.length:Int)≤1000000000):Tl (fun k=>laws_toIntS.f k a) a:=by
 refine Tl.p (by omega) ?_
 refine Tl.p (by omega) ?_
 exact toIntS_l a [] (List.replicate (a.length:Int).toNat 0) (by simp) (by simp;omega)
def marks:Int→Nat→List Int
 | _,0=>[]
 | i,n+1=>i::marks (i+1) n
theorem marks_length (i:Int)(n:Nat):(marks i n).length=n:=by
 induction n generalizing i with
 | zero=>rfl
 | succ n ih=>simp[marks,ih]
theorem markIntS_l:∀ (a p:List Int) (m:Int),0≤m→m+a.length≤2000000000→((p++a).length:Int)≤2000000000→Tl (fun k=>laws_markIntS.l0 k (p++a) m (p.length:Int)) (m+a.length,p++marks m a.length):=by
 intro a
 induction a with
 | nil =>
  intro p m h0 h1 h3
  refine Tl.s (fun k=>by rw[laws_markIntS.l0]) ?_
  refine Tl.n (by simp) ?_
  refine Tl.to (Tl.w _) ?_
  simp[marks]
 | cons x a ih =>
  intro p m h0 h1 h3
  have h3':=h3
  simp only[List.length_append,List.length_cons] at h3' h1
  refine Tl.s (fun k=>by rw[laws_markIntS.l0]) ?_
  refine Tl.p (by simp;omega) ?_
  refine Tl.p (by omega) ?_
  have hs:(p++x::a).set (p.length:Int).toNat m=(p++[m])++a:=by simp
  rw[hs,wi_ (i:=m+1) (by omega) (by omega),wi_ (i:=(p.length:Int)+1) (by omega) (by omega)]
  have:=ih (p++[m]) (m+1) (by omega) (by omega) (by simp;omega)
  rw[show ((p++[m]).length:Int)=(p.length:Int)+1 by simp] at this
  refine Tl.to this ?_
  simp[marks];omega
theorem markIntS_ev {a:List Int}{m:Int}(h0:0≤m)(h1:m+a.length≤1000000000):Tl (fun k=>laws_markIntS.f k a m) (m+a.length,marks m a.length) :=
 markIntS_l a [] m h0 (by omega) (by simp;omega)
theorem heldIntS_l:∀ (n:Nat) (p:List Int) (m:Int),0≤m→m+n≤2000000000→(p.length:Int)+n≤2000000000→Tl (fun k=>laws_heldIntS.l0 k (p++marks m n) m (p.length:Int)) (m+n):=by
 intro n
 induction n with
 | zero =>
  intro p m h0 h1 h3
  refine Tl.s (fun k=>by rw[laws_heldIntS.l0]) ?_
  refine Tl.n (by simp[marks]) ?_
  refine Tl.to (Tl.w _) ?_
  simp
 | succ n ih =>
  intro p m h0 h1 h3
  refine Tl.s (fun k=>by rw[laws_heldIntS.l0]) ?_
  have hm:marks m (n+1)=m::marks (m+1) n:=rfl
  refine Tl.p (by simp[marks_length];omega) ?_
  refine Tl.p (by omega) ?_
  rw[hm,rd_mid p _ m rfl]
  refine Tl.p rfl ?_
  rw[wi_ (i:=m+1) (by omega) (by omega),wi_ (i:=(p.length:Int)+1) (by omega) (by omega),snoc p]
  have:=ih (p++[m]) (m+1) (by omega) (by omega) (by simp;omega)
  rw[show ((p++[m]).length:Int)=(p.length:Int)+1 by simp] at this
  exact Tl.to this (by omega)
theorem heldIntS_ev {n:Nat}{m:Int}(h0:0≤m)(h1:m+n≤1000000000):Tl (fun k=>laws_heldIntS.f k (marks m n) m) (m+n) :=
 heldIntS_l n [] m h0 (by omega) (by simp;omega)
end Go.Proofs.Ytfkecmnklpjelaa.P
namespace Go.Proofs.Ytfkecmnklpjelaa.P
open OM Go.RowKit Go.Proofs.YtfkecmnklpjelaaW.PrintWords Go.Proofs.YtfkecmnklpjelaaW.PrintLast Go.Proofs.YtfkecmnklpjelaaW.PrintMore
set_option linter.unusedVariables false
theorem l1In_eq (a lo hi:Int):spec_l1In.f a lo hi=some (decide (lo≤a∧a≤hi)):=by
 unfold spec_l1In.f
 split
 ·next h=>congr 1;by_cases g:a≤hi<;>simp[h,g]<;>omega
 ·next h=>congr 1;simp;omega
theorem span_l:∀ (r:O) (p s:List Int) (m i:Int),m=i+r.length→0≤i→m≤20000000000→(((p++(flat r++s)).length:Nat):Int)≤10000000000→Tl (fun k=>spec_l1Span.l0 k (p++(flat r++s)) (p.length:Int) m i) ((p.length:Int)+(flat r).length):=by
 intro r
 induction r using ind with
 | h0 =>
  intro p s m i h1 h2 hm h3
  refine Tl.s (fun k=>by rw[spec_l1Span.l0]) ?_
  refine Tl.n (by simp at h1;omega) ?_
  refine Tl.to (Tl.w _) ?_
  rw[flat_nil];simp
 | h1 c e r ihe ihr =>
  intro p s m i h1 h2 hm h3
  have h3':=h3
  rw[flat_cons] at h3' ⊢
  have hre:row e=(e.length:Int)::flat e:=rfl
  simp only[List.length_append,List.length_cons] at h3' h1
  rw[hre] at h3'
  simp only[List.length_append,List.length_cons] at h3'
  have hle:=ll_ e
  have hfe:=flat_length e
  have hlr:=ll_ r
  have hfr:=flat_length r
  refine Tl.s (fun k=>by rw[spec_l1Span.l0]) ?_
  refine Tl.p (by omega) ?_
  rw[wi_ (i:=(p.length:Int)+1) (by omega) (by omega),wi_ (i:=i+1) (by omega) (by omega)]
  have hsp:Tl (fun k=>spec_l1Span.f k (p++((c::(row e++flat r))++s)) ((p.length:Int)+1)) ((p.length:Int)+1+(row e).length):=by
   refine Tl.s (fun k=>by rw[spec_l1Span.f]) ?_
   refine Tl.p (by omega) ?_
   refine Tl.p (by simp[hre];omega) ?_
   have hsplit:p++((c::(row e++flat r))++s)=(p++[c])++((e.length:Int)::(flat e++(flat r++s))):=by rw[hre];simp
   rw[hsplit,rd_mid (p++[c]) _ (e.length:Int) (by simp),wi_ (by omega) (by omega)]
   have:=ihe (p++[c]++[(e.length:Int)]) (flat r++s) (e.length:Int) 0 (by omega) (by omega) (by omega) (by simp;omega)
   rw[show ((p++[c]++[(e.length:Int)]).length:Int)=(p.length:Int)+1+1 by simp;omega] at this
   rw[snoc (p++[c])]
   refine Tl.to this ?_
   rw[hre];simp only[List.length_cons];omega
  refine Tl.b hsp ?_
  have hsplit:p++((c::(row e++flat r))++s)=(p++(c::row e))++(flat r++s):=by simp
  rw[hsplit]
  have:=ihr (p++(c::row e)) s m (i+1) (by omega) (by omega) hm (by rw[← hsplit,← flat_cons];exact h3)
  rw[show ((p++(c::row e)).length:Int)=(p.length:Int)+1+(row e).length by simp;omega] at this
  refine Tl.to this ?_
  simp only[List.length_cons,List.length_append];omega
theorem span_ev (x:O)(p s:List Int)(h:(((p++(row x++s)).length:Nat):Int)≤10000000000):Tl (fun k=>spec_l1Span.f k (p++(row x++s)) (p.length:Int)) ((p.length:Int)+(row x).length):=by
 have hre:row x=(x.length:Int)::flat x:=rfl
 have h':=h
 rw[hre] at h' ⊢
 simp only[List.length_append,List.length_cons] at h'
 have hle:=ll_ x
 have hfe:=flat_length x
 refine Tl.s (fun k=>by rw[spec_l1Span.f]) ?_
 refine Tl.p (by omega) ?_
 refine Tl.p (by simp;omega) ?_
 rw[show p++((x.length:Int)::flat x++s)=p++((x.length:Int)::(flat x++s)) by simp,rd_mid p _ (x.length:Int) rfl,wi_ (by omega) (by omega)]
 have:=span_l x (p++[(x.length:Int)]) s (x.length:Int) 0 (by omega) (by omega) (by omega) (by simp;omega)
 rw[show ((p++[(x.length:Int)]).length:Int)=(p.length:Int)+1 by simp] at this
 rw[snoc p]
 refine Tl.to this ?_
 simp only[List.length_cons];omega
def cs (x:O):List Int:=x.map (·.f0)
def es (x:O):List (List Int):=x.map (fun t=>row t.f1)
theorem cl_ (x:O):(cs x).length=x.length:=by simp[cs]
theorem el_ (x:O):(es x).length=x.length:=by simp[es]
theorem cs_cons (c:Int)(e r:O):cs (⟨c,e⟩::r)=c::cs r:=rfl
theorem es_cons (c:Int)(e r:O):es (⟨c,e⟩::r)=row e::es r:=rfl
theorem cs_append (x y:O):cs (x++y)=cs x++cs y:=by simp[cs]
theorem es_append (x y:O):es (x++y)=es x++es y:=by simp[es]
theorem terms_l:∀ (r:O) (p:List Int) (A:List Int) (B:List (List Int)),((p++flat r).length:Int)≤10000000000→(A.length:Int)+r.length≤20000000000→(B.length:Int)+r.length≤20000000000 →
 Tl (fun k=>spec_l1Terms.l0 k (p++flat r) A B (p.length:Int)) (A++cs r,B++es r):=by
 intro r
 induction r with
 | nil =>
  intro p A B h1 h2 h3
  refine Tl.s (fun k=>by rw[spec_l1Terms.l0]) ?_
  refine Tl.n (by rw[flat_nil];simp) ?_
  refine Tl.to (Tl.w _) ?_
  simp[cs,es]
 | cons t r ih =>
  intro p A B h1 h2 h3
  obtain⟨c,e⟩:=t
  have h1':=h1
  rw[flat_cons] at h1' ⊢
  simp only[List.length_append,List.length_cons] at h1' h2 h3
  refine Tl.s (fun k=>by rw[spec_l1Terms.l0]) ?_
  refine Tl.p (by simp;omega) ?_
  rw[wi_ (i:=(p.length:Int)+1) (by omega) (by omega)]
  have hsplit:p++(c::(row e++flat r))=(p++[c])++(row e++flat r):=by simp
  have hsp:Tl (fun k=>spec_l1Span.f k (p++(c::(row e++flat r))) ((p.length:Int)+1)) ((p.length:Int)+1+(row e).length):=by
   rw[hsplit]
   have:=span_ev e (p++[c]) (flat r) (by simp;omega)
   rw[show ((p++[c]).length:Int)=(p.length:Int)+1 by simp] at this
   exact this
  refine Tl.b hsp ?_
  refine Tl.p (by omega) ?_
  refine Tl.p (by omega) ?_
  refine Tl.p (by omega) ?_
  refine Tl.p (by omega) ?_
  refine Tl.p (by simp;omega) ?_
  refine Tl.p (by omega) ?_
  rw[rd_mid p _ c rfl]
  have hcut:(((p++(c::(row e++flat r))).take ((p.length:Int)+1+((row e).length:Int)).toNat).drop ((p.length:Int)+1).toNat)=row e:=by
   rw[show ((p.length:Int)+1+((row e).length:Int)).toNat=(p++[c]).length+(row e).length by simp;omega,show ((p.length:Int)+1).toNat=(p++[c]).length by simp<;>omega,hsplit,List.take_length_add_append,List.take_left,List.drop_left]
  rw[hcut,show p++(c::(row e++flat r))=(p++(c::row e))++flat r by simp]
  have:=ih (p++(c::row e)) (A++[c]) (B++[row e]) (by simp;omega) (by simp;omega) (by simp;omega)
  rw[show ((p++(c::row e)).length:Int)=(p.length:Int)+1+(row e).length by simp;omega] at this
  refine Tl.to this ?_
  rw[cs_cons,es_cons];simp
theorem terms_ev {x:O}(h:size x≤10000000000):Tl (fun k=>spec_l1Terms.f k (row x)) (cs x,es x):=by
 have hl:=rl_ x
 have hz:=ll_ x
 have:=terms_l x [(x.length:Int)] [] [] (by show (((row x).length:Nat):Int)≤_;omega) (by simp;omega) (by simp;omega)
 exact this
theorem make_l:∀ (r:O) (A:List Int) (B:List (List Int)) (acc:List Int),A.length=B.length→(A.length:Int)+r.length≤10000000000→(acc.length:Int)+(flat r).length≤20000000000 →
 Tl (fun k=>spec_l1Make.l0 k (A++cs r) (B++es r) acc (A.length:Int)) (acc++flat r):=by
 intro r
 induction r with
 | nil =>
  intro A B acc h1 h2 h3
  refine Tl.s (fun k=>by rw[spec_l1Make.l0]) ?_
  refine Tl.n (by simp[cs]) ?_
  refine Tl.to (Tl.w _) ?_
  rw[flat_nil,List.append_nil]
 | cons t r ih =>
  intro A B acc h1 h2 h3
  obtain⟨c,e⟩:=t
  rw[flat_cons] at h3
  simp only[List.length_append,List.length_cons] at h2 h3
  rw[cs_cons,es_cons]
  refine Tl.s (fun k=>by rw[spec_l1Make.l0]) ?_
  refine Tl.p (by simp;omega) ?_
  refine Tl.p (by omega) ?_
  refine Tl.p (by omega) ?_
  refine Tl.d ?_
  refine Tl.p (by simp;omega) ?_
  rw[rd_mid A _ c rfl,rdL_mid B _ (row e) (by rw[h1])]
  refine Tl.p (by simp;omega) ?_
  rw[wi_ (by omega) (by omega),snoc A,snoc B]
  have:=ih (A++[c]) (B++[row e]) (acc++[c]++row e) (by simp[h1]) (by simp;omega) (by simp;omega)
  rw[show ((A++[c]).length:Int)=(A.length:Int)+1 by simp] at this
  refine Tl.to this ?_
  rw[flat_cons];simp
theorem make_ev {x:O}(h:size x≤10000000000):Tl (fun k=>spec_l1Make.f k (cs x) (es x)) (row x):=by
 have hl:=flat_length x
 have hz:=ll_ x
 have:=make_l x [] [] [((cs x).length:Int)] rfl (by simp;omega) (by simp;omega)
 refine Tl.to this ?_
 rw[cl_];rfl
theorem make_ev' {x:O}{A:List Int}{B:List (List Int)}(hA:A=cs x)(hB:B=es x)(h:size x≤10000000000):Tl (fun k=>spec_l1Make.f k A B) (row x):=by subst hA;subst hB;exact make_ev h
theorem specCompare_l:∀ (r:O) (p q s:O),p.length=q.length→size (p++r)≤500000000→size (q++s)≤500000000 →
 Tl (fun k=>spec_l1Compare.l0 k (cs (p++r)) (es (p++r)) (cs (q++s)) (es (q++s)) (p.length:Int)) (cmp r s):=by
 intro r
 induction r using ind with
 | h0 =>
  intro p q s hl h1 h2
  refine Tl.s (fun k=>by rw[spec_l1Compare.l0]) ?_
  refine Tl.n (by rw[cl_];simp) ?_
  refine Tl.s (fun k=>by rw[spec_l1Compare.j1]) ?_
  refine Tl.n (by simp) ?_
  cases s with
  | nil =>
   refine Tl.n (by rw[cl_,cl_];simp;omega) ?_
   refine Tl.n (by rw[cl_,cl_];simp;omega) ?_
   rw[cmp_nn];exact Tl.w _
  | cons t s =>
   refine Tl.p (by rw[cl_,cl_];simp;omega) ?_
   rw[cmp_nc];exact Tl.w _
 | h1 c e r ihe ihr =>
  intro p q s hl h1 h2
  have hp:=ll_ p
  refine Tl.s (fun k=>by rw[spec_l1Compare.l0]) ?_
  refine Tl.p (by rw[cl_];simp;omega) ?_
  refine Tl.s (fun k=>by rw[spec_l1Compare.j1]) ?_
  cases s with
  | nil =>
   refine Tl.n (by rw[cl_];simp;omega) ?_
   refine Tl.n (by rw[cl_,cl_];simp;omega) ?_
   refine Tl.p (by rw[cl_,cl_];simp;omega) ?_
   rw[cmp_cn];exact Tl.w _
  | cons t s =>
   obtain⟨d,f⟩:=t
   have z1:=h1
   have z2:=h2
   rw[sa_,sc_] at z1 z2
   have:=sp_ r
   have:=sp_ s
   have:=sp_ p
   have:=sp_ q
   have:=sp_ e
   have:=sp_ f
   refine Tl.p (by rw[cl_];simp;omega) ?_
   refine Tl.p (by omega) ?_
   refine Tl.p (by rw[el_];simp;omega) ?_
   refine Tl.p (by rw[el_];simp;omega) ?_
   have he:rd_L1 (es (p++⟨c,e⟩::r)) (p.length:Int)=row e:=by rw[es_append,es_cons];exact rdL_mid _ _ _ (by rw[el_])
   have hf:rd_L1 (es (q++⟨d,f⟩::s)) (p.length:Int)=row f:=by rw[es_append,es_cons];exact rdL_mid _ _ _ (by rw[el_,hl])
   have hc:rd (cs (p++⟨c,e⟩::r)) (p.length:Int)=c:=by rw[cs_append,cs_cons];exact rd_mid _ _ _ (by rw[cl_])
   have hd:rd (cs (q++⟨d,f⟩::s)) (p.length:Int)=d:=by rw[cs_append,cs_cons];exact rd_mid _ _ _ (by rw[cl_,hl])
   rw[he,hf,hc,hd]
   have hef:Tl (fun k=>spec_l1Compare.f k (row e) (row f)) (cmp e f):=by
    refine Tl.s (fun k=>by rw[spec_l1Compare.f]) ?_
    refine Tl.b (terms_ev (by omega)) ?_
    refine Tl.b (terms_ev (by omega)) ?_
    exact ihe [] [] f rfl (by show size e≤_;omega) (by show size f≤_;omega)
   refine Tl.b hef ?_
   rw[cmp_cc]
   by_cases z:cmp e f=0
   ·refine Tl.p z ?_
    rw[if_pos z]
    refine Tl.p (by rw[cl_];simp;omega) ?_
    refine Tl.p (by rw[cl_];simp;omega) ?_
    by_cases a:c=d
    ·refine Tl.p a ?_
     rw[if_neg (by omega),if_neg (by omega),wi_ (by omega) (by omega),snoc p,snoc q]
     have:=ihr (p++[⟨c,e⟩]) (q++[⟨d,f⟩]) s (by simp[hl]) (by rw[← snoc];exact h1) (by rw[← snoc];exact h2)
     rw[show ((p++[(⟨c,e⟩:Tm)]).length:Int)=(p.length:Int)+1 by simp] at this
     exact this
    ·refine Tl.n a ?_
     by_cases b:c<d
     ·refine Tl.p b ?_
      rw[if_pos b];exact Tl.w _
     ·refine Tl.n b ?_
      rw[if_neg b,if_pos (by omega)];exact Tl.w _
   ·refine Tl.n z ?_
    rw[if_neg z];exact Tl.w _
theorem specCompare_ev {x y:O}(hx:size x≤500000000)(hy:size y≤500000000):Tl (fun k=>spec_l1Compare.f k (row x) (row y)) (cmp x y):=by
 refine Tl.s (fun k=>by rw[spec_l1Compare.f]) ?_
 refine Tl.b (terms_ev (by omega)) ?_
 refine Tl.b (terms_ev (by omega)) ?_
 exact specCompare_l x [] [] y rfl hx hy
end Go.Proofs.Ytfkecmnklpjelaa.P
namespace Go.Proofs.Ytfkecmnklpjelaa.P
open OM Go.RowKit Go.Proofs.YtfkecmnklpjelaaW.PrintWords Go.Proofs.YtfkecmnklpjelaaW.PrintLast Go.Proofs.YtfkecmnklpjelaaW.PrintMore
set_option linter.unusedVariables false
def endv (tot:Int):Option (O × List Int)→Int
 | none=>-1
 | some (_,l')=>tot-l'.length
theorem endv_none (t:Int):endv t none=-1:=rfl
theorem endv_some (t:Int)(x:O)(l:List Int):endv t (some (x,l))=t-l.length:=rfl
theorem rd_p (p l:List Int)(m:Int):rd (p++m::l) (p.length:Int)=m:=rd_mid p l m rfl
theorem end_l {n:Nat}(ih:∀ p l:List Int,l.length<n→(((p++l).length:Nat):Int)≤100000000→Tl (fun k=>spec_l1End.f k (p++l) (p.length:Int)) (endv ((p++l).length:Int) (take n l))) :
 ∀ (c:Nat) (p l last:List Int) (lo:Option O) (m i:Int),l.length≤n→(((p++l).length:Nat):Int)≤100000000→m=i+c→0≤i→m≤60 →
  (i=0→lo=none)→(0<i→∃ f,lo=some f∧last=row f∧size f≤100000000) →
  Tl (fun k=>spec_l1End.l0 k (p++l) (p.length:Int) m last i) (endv ((p++l).length:Int) (terms (take n) c lo l)):=by
 intro c
 induction c with
 | zero =>
  intro p l last lo m i h1 h2 h3 h4 h5 h6 h7
  refine Tl.s (fun k=>by rw[spec_l1End.l0]) ?_
  refine Tl.n (by omega) ?_
  refine Tl.to (Tl.w _) ?_
  unfold terms;rw[endv_some];simp<;>omega
 | succ c ihc =>
  intro p l last lo m i h1 h2 h3 h4 h5 h6 h7
  have h2':=h2
  simp only[List.length_append] at h2'
  refine Tl.s (fun k=>by rw[spec_l1End.l0]) ?_
  refine Tl.p (by omega) ?_
  have bad:Tl (fun k=>spec_l1End.j2 k (p++l) (p.length:Int) m last i true) (-1):=by
   refine Tl.s (fun k=>by rw[spec_l1End.j2]) ?_
   exact Tl.p rfl (Tl.w _)
  cases l with
  | nil =>
   refine Tl.p (by simp) ?_
   refine Tl.to bad ?_
   unfold terms;rfl
  | cons t l =>
   simp only[List.length_cons] at h1 h2'
   refine Tl.n (by simp;omega) ?_
   refine Tl.p (by omega) ?_
   refine Tl.p (by simp;omega) ?_
   rw[rd_p]
   refine Tl.b (Tl.c (l1In_eq t 1 9999)) ?_
   rw[terms]
   by_cases ht:1≤t∧t≤9999
   ·rw[if_pos ht,decide_eq_true ht]
    refine Tl.s (fun k=>by rw[spec_l1End.j2]) ?_
    refine Tl.n (by simp) ?_
    rw[wi_ (i:=(p.length:Int)+1) (by omega) (by omega)]
    have hf:=ih (p++[t]) l (by omega) (by simp;omega)
    rw[← snoc p l t,show ((p++[t]).length:Int)=(p.length:Int)+1 by simp] at hf
    refine Tl.b hf ?_
    cases hk:take n l with
    | none =>
     rw[endv_none]
     exact Tl.p (by omega) (Tl.w _)
    | some q =>
     obtain⟨e,l1⟩:=q
     rw[endv_some]
     simp only
     obtain⟨a1,a2,a3⟩:=take_good _ _ _ _ hk
     have hlen:=take_len hk
     have hre:=rl_ e
     have hl:(l.length:Int)=(row e).length+l1.length:=by rw[a1];simp
     have hend:(((p++t::l).length:Nat):Int)-l1.length=(p.length:Int)+1+(row e).length:=by simp;omega
     rw[hend]
     refine Tl.n (by omega) ?_
     have hcut:(((p++t::l).take ((p.length:Int)+1+((row e).length:Int)).toNat).drop ((p.length:Int)+1).toNat)=row e:=by
      rw[show ((p.length:Int)+1+((row e).length:Int)).toNat=(p++[t]).length+(row e).length by simp;omega,show ((p.length:Int)+1).toNat=(p++[t]).length by simp<;>omega,a1,show p++t::(row e++l1)=(p++[t])++(row e++l1) by simp,List.take_length_add_append,List.take_left,List.drop_left]
     have go:Tl (fun k=>spec_l1End.l0 k (p++t::l) ((p.length:Int)+1+(row e).length) m (row e) (wrap64 (i+1)))
      (endv (((p++t::l).length:Nat):Int) (match terms (take n) c (some e) l1 with | none=>none | some (r,l'')=>some ((⟨t,e⟩:Tm)::r,l''))):=by
      rw[wi_ (by omega) (by omega)]
      have:=ihc (p++(t::row e)) l1 (row e) (some e) m (i+1) (by omega) (by rw[a1] at h2;simp at h2 ⊢;omega) (by omega) (by omega) h5 (fun h=>by omega) (fun _=>⟨e,rfl,rfl,by omega⟩)
      rw[show (p++(t::row e))++l1=p++t::l by rw[a1];simp,show ((p++(t::row e)).length:Int)=(p.length:Int)+1+(row e).length by simp;omega] at this
      refine Tl.to this ?_
      cases terms (take n) c (some e) l1 with
      | none=>rfl
      | some q=>obtain⟨r,l2⟩:=q;rfl
     by_cases hi:i>0
     ·obtain⟨f,hlo,hlast,hsf⟩:=h7 hi
      subst hlo;subst hlast
      refine Tl.p hi ?_
      refine Tl.p (by omega) ?_
      refine Tl.p (by omega) ?_
      refine Tl.p (by simp;omega) ?_
      rw[hcut]
      refine Tl.b (specCompare_ev (by omega) (by omega)) ?_
      by_cases hc:cmp e f≥0
      ·refine Tl.p hc ?_
       have:late (some f) e=true:=by unfold late;simp only[decide_eq_true_eq];exact hc
       rw[if_pos this]
       exact Tl.w _
      ·refine Tl.n hc ?_
       have:¬ late (some f) e=true:=by unfold late;simp only[decide_eq_true_eq];exact hc
       rw[if_neg this]
       exact go
     ·have hlo:=h6 (by omega)
      subst hlo
      refine Tl.n hi ?_
      refine Tl.p (by omega) ?_
      refine Tl.p (by omega) ?_
      refine Tl.p (by simp;omega) ?_
      rw[hcut]
      have:¬ late none e=true:=by unfold late;simp
      rw[if_neg this]
      exact go
   ·rw[if_neg ht,decide_eq_false ht]
    exact bad
theorem end_ev:∀ (n:Nat) (p l:List Int),l.length<n→(((p++l).length:Nat):Int)≤100000000→Tl (fun k=>spec_l1End.f k (p++l) (p.length:Int)) (endv ((p++l).length:Int) (take n l)):=by
 intro n
 induction n with
 | zero=>intro p l h;omega
 | succ n ih =>
  intro p l h h2
  have h2':=h2
  simp only[List.length_append] at h2'
  have bad:Tl (fun k=>spec_l1End.j0 k (p++l) (p.length:Int) true) (-1):=by
   refine Tl.s (fun k=>by rw[spec_l1End.j0]) ?_
   exact Tl.p rfl (Tl.w _)
  refine Tl.s (fun k=>by rw[spec_l1End.f]) ?_
  cases l with
  | nil =>
   refine Tl.p (by simp) ?_
   refine Tl.to bad ?_
   unfold take;rfl
  | cons m l =>
   simp only[List.length_cons] at h h2'
   refine Tl.n (by simp;omega) ?_
   refine Tl.p (by omega) ?_
   refine Tl.p (by simp;omega) ?_
   rw[rd_p]
   refine Tl.b (Tl.c (l1In_eq m 0 60)) ?_
   rw[take]
   by_cases hm:0≤m∧m≤60
   ·rw[if_pos hm,decide_eq_true hm]
    refine Tl.s (fun k=>by rw[spec_l1End.j0]) ?_
    refine Tl.n (by simp) ?_
    refine Tl.p (by omega) ?_
    refine Tl.p (by simp;omega) ?_
    rw[rd_p,wi_ (by omega) (by omega)]
    have:=end_l ih m.toNat (p++[m]) l [] none m 0 (by omega) (by simp;omega) (by omega) (by omega) (by omega) (fun _=>rfl) (fun h=>by omega)
    rw[← snoc p l m,show ((p++[m]).length:Int)=(p.length:Int)+1 by simp] at this
    exact this
   ·rw[if_neg hm,decide_eq_false hm]
    exact bad
theorem ordValid_ev {l:List Int}(h:(l.length:Int)≤100000000):Tl (fun k=>spec_OrdValid.f k l) (ordOf l).isSome:=by
 refine Tl.b (Tl.c (l1In_eq _ 1 60)) ?_
 unfold ordOf
 by_cases hl:1≤l.length∧l.length≤60
 ·rw[if_pos hl]
  refine Tl.p (decide_eq_true (by omega)) ?_
  refine Tl.b (end_ev 61 [] l (by omega) (by simpa using h)) ?_
  refine Tl.to (Tl.w _) ?_
  simp only[List.nil_append]
  cases take 61 l with
  | none=>rw[endv_none];simp<;>omega
  | some q =>
   obtain⟨x,l'⟩:=q
   rw[endv_some]
   cases l' with
   | nil=>simp
   | cons a l'=>simp;omega
 ·rw[if_neg hl]
  refine Tl.n (by simp;omega) ?_
  exact Tl.w _
theorem row_inj':∀ (x y:O) (a b:List Int),row x++a=row y++b→x=y∧a=b:=by
 have fl:∀ (x y:O) (a b:List Int),x.length=y.length→flat x++a=flat y++b→x=y∧a=b:=by
  intro x
  induction x using ind with
  | h0 =>
   intro y a b h1 h2
   cases y with
   | nil=>exact⟨rfl,by simpa [flat_nil] using h2⟩
   | cons _ _=>simp at h1
  | h1 c e r ihe ihr =>
   intro y a b h1 h2
   cases y with
   | nil=>simp at h1
   | cons t s =>
    obtain⟨d,f⟩:=t
    rw[flat_cons,flat_cons] at h2
    unfold row at h2
    simp only[List.cons_append,List.append_assoc,List.cons.injEq] at h2
    obtain⟨h3,h4,h5⟩:=h2
    obtain⟨h6,h7⟩:=ihe f _ _ (by omega) h5
    obtain⟨h8,h9⟩:=ihr s _ _ (by simpa using h1) h7
    subst h3;subst h6;subst h8
    exact⟨rfl,h9⟩
 intro x y a b h
 unfold row at h
 simp only[List.cons_append,List.cons.injEq] at h
 exact fl x y a b (by omega) h.2
theorem or_' (x:O):ordOf (row x)=some x∨(ordOf (row x)=none∧¬ Vd x):=by
 cases h:ordOf (row x) with
 | none=>exact .inr ⟨rfl,fun hv=>by rw[or_ hv] at h;cases h⟩
 | some y =>
  obtain⟨h1,h2⟩:=os_ h
  have:=row_inj' x y [] [] (by rw[h1])
  rw[this.1];exact .inl rfl
end Go.Proofs.Ytfkecmnklpjelaa.P
namespace Go.Proofs.Ytfkecmnklpjelaa.P
open OM Go.RowKit Go.Proofs.YtfkecmnklpjelaaW.PrintWords Go.Proofs.YtfkecmnklpjelaaW.PrintLast Go.Proofs.YtfkecmnklpjelaaW.PrintMore
set_option linter.unusedVariables false
theorem ordv_some {l:List Int}{x:O}(h:ordOf l=some x):ordv l=(x,true):=by unfold ordv;rw[h]
theorem ordv_none {l:List Int}(h:ordOf l=none):(ordv l).2=false:=by unfold ordv;rw[h]
theorem valid_ev {l:List Int}{x:O}(h:ordOf l=some x):Tl (fun k=>spec_OrdValid.f k l) true:=by
 have h1:=os_ h
 have h2:=rl_ x
 have:=@ordValid_ev l (by rw[h1.1,h2];have:=h1.2.2.2;omega)
 rw[h] at this;exact this
theorem invalid_ev {l:List Int}(hl:(l.length:Int)≤100000000)(h:ordOf l=none):Tl (fun k=>spec_OrdValid.f k l) false:=by
 have:=@ordValid_ev l hl
 rw[h] at this;exact this
theorem row_one {x:O}:((row x).length:Int)=1 ↔ x=[]:=by
 rw[rl_]
 cases x with
 | nil=>rw[sn_];simp
 | cons t r =>
  obtain⟨c,e⟩:=t
  rw[sc_]
  have:=sp_ e
  have:=sp_ r
  constructor
  ·intro h;omega
  ·intro h;cases h
theorem validRow_ev {x:O}(hx:NF x)(hz:size x≤100000000):Tl (fun k=>spec_OrdValid.f k (row x)) (decide (size x≤60∧most x≤9999)):=by
 have hl:=rl_ x
 have:=@ordValid_ev (row x) (by omega)
 refine Tl.to this ?_
 by_cases h:size x≤60∧most x≤9999
 ·rw[or_ ⟨hx,h.2,h.1⟩,decide_eq_true h];rfl
 ·rcases or_' x with g | ⟨g,_⟩
  ·have:=(os_ g).2
   exact absurd ⟨this.2.2,this.2.1⟩ h
  ·rw[g,decide_eq_false h];rfl
theorem tt_ {x:O}(h:size x≤60∧most x≤9999):toldv x=(row x,true):=by unfold toldv;rw[if_pos h]
theorem tf_ {x:O}(h:¬ (size x≤60∧most x≤9999)):toldv x=([],false):=by unfold toldv;rw[if_neg h]
end Go.Proofs.Ytfkecmnklpjelaa.P
namespace Go.Proofs.Ytfkecmnklpjelaa.P
open OM Go.RowKit Go.Proofs.YtfkecmnklpjelaaW.PrintWords Go.Proofs.YtfkecmnklpjelaaW.PrintLast Go.Proofs.YtfkecmnklpjelaaW.PrintMore
set_option linter.unusedVariables false
theorem rdT_last (p:O)(t:Tm)(h:size (p++[t])≤10000000000):wrap64 (((p++[t]).length:Int)-1)=(p.length:Int)∧rd_T60 (p++[t]) (p.length:Int)=t:=by
 have:=ll_ (p++[t])
 simp only[List.length_append,List.length_singleton] at this
 refine⟨?_,rdT_mid p [] t rfl⟩
 rw[wi_ (by simp<;>omega) (by simp<;>omega)]
 simp<;>omega
theorem kind_snoc (p:O)(c:Int)(e:O):kind (p++[⟨c,e⟩])=if e=[] then 1 else 2:=by
 rw[kind_append,kind_s]
 cases e<;>simp
theorem implKind_eq {x:O}(h:size x≤10000000000):impl_kind.f x=some (kind x):=by
 unfold impl_kind.f
 rcases List.eq_nil_or_concat x with h' | ⟨p,t,h'⟩
 ·subst h';rw[kind_nil];rfl
 ·rw[List.concat_eq_append] at h'
  subst h'
  obtain⟨c,e⟩:=t
  obtain⟨h1,h2⟩:=rdT_last p ⟨c,e⟩ h
  rw[h1,h2,if_neg (by simp<;>omega),if_pos (by omega),if_pos (by simp<;>omega),kind_snoc]
  cases e with
  | nil=>rfl
  | cons t r=>rw[if_neg (by simp<;>omega),if_neg (by simp)]
theorem rdL_last (p:O)(c:Int)(e:O):rd_L1 (es (p++[⟨c,e⟩])) (p.length:Int)=row e:=by
 rw[es_append,es_cons];exact rdL_mid _ _ _ (by rw[el_])
theorem rdc_last (p:O)(c:Int)(e:O):rd (cs (p++[⟨c,e⟩])) (p.length:Int)=c:=by
 rw[cs_append,cs_cons];exact rd_mid _ _ _ (by rw[cl_])
end Go.Proofs.Ytfkecmnklpjelaa.P
namespace Go.Proofs.Ytfkecmnklpjelaa.P
open OM Go.RowKit Go.Proofs.YtfkecmnklpjelaaW.PrintWords Go.Proofs.YtfkecmnklpjelaaW.PrintLast Go.Proofs.YtfkecmnklpjelaaW.PrintMore
set_option linter.unusedVariables false
theorem last_le {p:O}{c:Int}{e:O}:c≤most (p++[⟨c,e⟩]):=by
 induction p with
 | nil=>show c≤most [⟨c,e⟩];rw[mc_];omega
 | cons t p ih=>obtain⟨d,f⟩:=t;show c≤most (⟨d,f⟩::(p++[⟨c,e⟩]));rw[mc_];omega
theorem last_most {p:O}{c:Int}{e:O}:most e≤most (p++[⟨c,e⟩]):=by
 induction p with
 | nil=>show most e≤most [⟨c,e⟩];rw[mc_];omega
 | cons t p ih=>obtain⟨d,f⟩:=t;show most e≤most (⟨d,f⟩::(p++[⟨c,e⟩]));rw[mc_];omega
theorem before_eq {x:O}(hx:x≠[])(h:NF x)(hz:size x≤100000000)(hm:most x≤1000000000000000000):impl_before.f x=some (bef x):=by
 rcases List.eq_nil_or_concat x with h' | ⟨p,t,h'⟩
 ·exact absurd h' hx
 ·rw[List.concat_eq_append] at h'
  subst h'
  obtain⟨c,e⟩:=t
  have hl:=ll_ (p++[⟨c,e⟩])
  obtain⟨h1,h2⟩:=rdT_last p ⟨c,e⟩ (by omega)
  have hc:=(NF_append_last h).1
  have hc':=@last_le p c e
  have hlen:((p++[(⟨c,e⟩:Tm)]).length:Int)=(p.length:Int)+1:=by simp
  have hcl:slices_Clone_ord.f (p++[(⟨c,e⟩:Tm)])=some (p++[⟨c,e⟩]):=by unfold slices_Clone_ord.f;rw[if_pos (by omega)]
  unfold impl_before.f
  rw[hcl]
  show (if 0≤wrap64 (((p++[(⟨c,e⟩:Tm)]).length:Int)-1) then _ else _)=_
  rw[h1,h2,if_pos (by omega),if_pos (by omega),wi_ (i:=(⟨c,e⟩:Tm).f0-1) (by show _≤c-1;omega) (by show c-1≤_;omega),bef_append,bef_s]
  have hset:(p++[(⟨c,e⟩:Tm)]).set (p.length:Int).toNat ⟨c-1,e⟩=p++[⟨c-1,e⟩]:=by
   rw[Int.toNat_natCast,List.set_append_right _ _ (Nat.le_refl _)];simp
  show (if c-1=0 then some (((p++[(⟨c,e⟩:Tm)]).set (p.length:Int).toNat ⟨c-1,e⟩).take (p.length:Int).toNat) else some ((p++[(⟨c,e⟩:Tm)]).set (p.length:Int).toNat ⟨c-1,e⟩))=_
  rw[hset]
  by_cases g:c=1
  ·rw[if_pos (by omega),if_pos g,Int.toNat_natCast,List.take_left];simp
  ·rw[if_neg (by omega),if_neg g]
end Go.Proofs.Ytfkecmnklpjelaa.P
namespace Go.Proofs.Ytfkecmnklpjelaa.P
open OM Go.RowKit Go.Proofs.YtfkecmnklpjelaaW.PrintWords Go.Proofs.YtfkecmnklpjelaaW.PrintLast Go.Proofs.YtfkecmnklpjelaaW.PrintMore
set_option linter.unusedVariables false
theorem sq_add {a b:Int}(ha:1≤a)(hb:1≤b):a+b*b+2*b≤(a+b)*(a+b):=by
 rw[Int.add_mul,Int.mul_add,Int.mul_add]
 have h1:a*1≤a*a:=Int.mul_le_mul_of_nonneg_left ha (by omega)
 have h2:1*b≤a*b:=Int.mul_le_mul_of_nonneg_right ha (by omega)
 have h3:b*1≤b*a:=Int.mul_le_mul_of_nonneg_left ha (by omega)
 omega
theorem size_step (n:Int):∀ x:O,size (OM.step n x)≤size x*size x:=by
 intro x
 induction x using indl with
 | h0=>rw[step_nil,sn_];omega
 | h1 c e ih =>
  have h1:=size_bef [⟨c,e⟩]
  have h2:=size_bef e
  have he:=sp_ e
  have h3:size [(⟨c,e⟩:Tm)]=size e+2:=by rw[sc_,sn_];omega
  have h4:=sq_add (a:=2) (b:=size e) (by omega) he
  have h5:size (tail n e)≤2+size e*size e:=by
   have h6:size e*1≤size e*size e:=Int.mul_le_mul_of_nonneg_left he (by omega)
   unfold tail
   split
   ·rw[sc_,sn_];omega
   ·split
    ·rw[sc_,sn_];omega
    ·rw[sn_];omega
  rw[step_s,sa_,h3]
  rw[Int.add_comm 2 (size e)] at h4
  omega
 | h2 t u r ih =>
  obtain⟨c,e⟩:=t
  have he:=sp_ e
  have hu:=sp_ (u::r)
  rw[step_cc,sc_,sc_ c]
  have:=sq_add (a:=1+size e) (b:=size (u::r)) (by omega) hu
  omega
theorem step_two {n:Int}{p:O}{c:Int}{e:O}:OM.step n (p++[⟨c,e⟩])=bef (p++[⟨c,e⟩])++tail n e:=by
 rw[step_append,step_s,bef_append,List.append_assoc]
theorem tail_two {n:Int}{e:O}(h:kind e=2):tail n e=[⟨1,OM.step n e⟩]:=by unfold tail;rw[if_pos h]
theorem tail_one {n:Int}{e:O}(h:kind e=1)(hn:0<n):tail n e=[⟨n,bef e⟩]:=by unfold tail;rw[if_neg (by omega),if_pos ⟨h,hn⟩]
theorem tail_none {n:Int}{e:O}(h:kind e≠2)(hn:¬ 0<n):tail n e=[]:=by unfold tail;rw[if_neg h,if_neg (fun h=>hn h.2)]
theorem size_last {p:O}{c:Int}{e:O}:size e+1≤size (p++[⟨c,e⟩]):=by
 have:=sp_ p
 rw[sa_,sc_,sn_];omega
theorem step_ev {n:Int}(hn:0≤n):∀ (d:Nat) (x:O),size x<d→NF x→size x≤10000→most x≤1000000000000000000→Tl (fun k=>impl_step.f k x n) (OM.step n x):=by
 intro d
 induction d with
 | zero=>intro x h;have:=sp_ x;omega
 | succ d ih =>
  intro x h0 h hz hm
  refine Tl.s (fun k=>by rw[impl_step.f]) ?_
  refine Tl.b (Tl.c (implKind_eq (by omega))) ?_
  rcases List.eq_nil_or_concat x with h' | ⟨p,t,h'⟩
  ·subst h'
   rw[step_nil]
   exact Tl.p kind_nil (Tl.w _)
  ·rw[List.concat_eq_append] at h'
   subst h'
   obtain⟨c,e⟩:=t
   have hne:p++[(⟨c,e⟩:Tm)]≠[]:=by simp
   refine Tl.n (fun hk=>hne (kind_zero.1 hk)) ?_
   by_cases hk:kind (p++[⟨c,e⟩])=1
   ·refine Tl.p hk ?_
    rw[step_one hk]
    exact Tl.c (before_eq hne h (by omega) hm)
   ·refine Tl.n hk ?_
    obtain⟨h1,h2⟩:=rdT_last p ⟨c,e⟩ (by omega)
    rw[h1,h2,step_two]
    have hl:=ll_ (p++[⟨c,e⟩])
    have hes:=@size_last p c e
    have hem:=@last_most p c e
    have heN:=(NF_append_last h).2
    have hee:e≠[]:=by
     intro he
     rw[kind_snoc,if_pos he] at hk
     exact hk rfl
    refine Tl.p (by omega) ?_
    refine Tl.p (by simp<;>omega) ?_
    refine Tl.b (Tl.c (before_eq hne h (by omega) hm)) ?_
    refine Tl.b (Tl.c (implKind_eq (by show size e≤_;omega))) ?_
    have hbl:=ll_ (bef (p++[⟨c,e⟩]))
    have hbz:=size_bef (p++[⟨c,e⟩])
    have hke:=kind_range e
    by_cases k2:kind e=2
    ·rw[tail_two k2]
     refine Tl.p k2 ?_
     refine Tl.b (ih e (by omega) heN (by omega) (by omega)) ?_
     exact Tl.p (by omega) (Tl.w _)
    ·refine Tl.n k2 ?_
     have k1:kind e=1:=by
      rcases hke with h | h | h
      ·exact absurd (kind_zero.1 h) hee
      ·exact h
      ·exact absurd h k2
     by_cases hn0:0<n
     ·rw[tail_one k1 hn0]
      refine Tl.p hn0 ?_
      refine Tl.b (Tl.c (before_eq hee heN (by show size e≤_;omega) (by show most e≤_;omega))) ?_
      exact Tl.p (by omega) (Tl.w _)
     ·rw[tail_none k2 hn0,List.append_nil]
      exact Tl.n hn0 (Tl.w _)
theorem implStep_ev {n:Int}{x:O}(hn:0≤n)(h:Vd x):Tl (fun k=>impl_step.f k x n) (OM.step n x):=by
 have h1:=h.1
 have h2:=h.2.1
 have h3:=h.2.2
 exact step_ev hn (size x).toNat.succ x (by have:=sp_ x;omega) h1 (by omega) (by omega)
theorem size_stepV {n:Int}{x:O}(h:Vd x):size (OM.step n x)≤3600:=by
 have h1:=size_step n x
 have h2:=h.2.2
 have h3:=sp_ x
 have:size x*size x≤60*60:=Int.mul_le_mul h2 h2 (by omega) (by omega)
 omega
end Go.Proofs.Ytfkecmnklpjelaa.P
namespace Go.Proofs.Ytfkecmnklpjelaa.P
open OM Go.RowKit Go.Proofs.YtfkecmnklpjelaaW.PrintWords Go.Proofs.YtfkecmnklpjelaaW.PrintLast Go.Proofs.YtfkecmnklpjelaaW.PrintMore
set_option linter.unusedVariables false
theorem bef_cs (p:O)(c:Int)(e:O):cs (bef (p++[⟨c,e⟩]))=if c=1 then cs p else cs p++[c-1]:=by
 rw[bef_append,bef_s];split<;>simp[cs]
theorem bef_es (p:O)(c:Int)(e:O):es (bef (p++[⟨c,e⟩]))=if c=1 then es p else es p++[row e]:=by
 rw[bef_append,bef_s];split<;>simp[es]
theorem specStep_j0 {n:Int}{p:O}{c:Int}{e:O}(hn:0≤n)(h:NF (p++[⟨c,e⟩]))(hz:size (p++[⟨c,e⟩])≤10000){A:List Int}{B:List (List Int)}(hA:A=cs (bef (p++[⟨c,e⟩])))(hB:B=es (bef (p++[⟨c,e⟩])))(ih:Tl (fun k=>spec_l3Step.f k (row e) n) (row (OM.step n e))) :
 Tl (fun k=>spec_l3Step.j0 k n (es (p++[⟨c,e⟩])) (p.length:Int) A B) (row (OM.step n (p++[⟨c,e⟩]))):=by
 subst hA;subst hB
 have hl:=ll_ (p++[⟨c,e⟩])
 have hbl:=ll_ (bef (p++[⟨c,e⟩]))
 have hbz:=size_bef (p++[⟨c,e⟩])
 have hes:=@size_last p c e
 have hsz:=size_step n (p++[⟨c,e⟩])
 have hsq:size (p++[⟨c,e⟩])*size (p++[⟨c,e⟩])≤10000*10000:=Int.mul_le_mul hz hz (by have:=sp_ (p++[⟨c,e⟩]);omega) (by omega)
 have hepos:=sp_ e
 have hstep:=@step_two n p c e
 refine Tl.s (fun k=>by rw[spec_l3Step.j0]) ?_
 rw[rdL_last]
 refine Tl.p (by omega) ?_
 refine Tl.p (by rw[el_];simp<;>omega) ?_
 have fin0:tail n e=[]→Tl (fun k=>(spec_l1Make.f k (cs (bef (p++[⟨c,e⟩]))) (es (bef (p++[⟨c,e⟩])))).bind fun t=>some t) (row (OM.step n (p++[⟨c,e⟩]))):=by
  intro ht
  rw[hstep,ht,List.append_nil]
  exact Tl.b (make_ev (by omega)) (Tl.w _)
 by_cases he:e=[]
 ·refine Tl.p (row_one.2 he) ?_
  exact fin0 (by rw[he];unfold tail;rw[kind_nil];rfl)
 ·refine Tl.n (fun h=>he (row_one.1 h)) ?_
  refine Tl.b (terms_ev (by omega)) ?_
  have hke:=kind_range e
  have more:∀ m:Int,tail n e=[⟨m,OM.step n e⟩]→Tl (fun k=>if(cs (bef (p++[⟨c,e⟩]))).length<17592186044416 then((spec_l3Step.f k (row e) n).bind fun t=>(if(es (bef (p++[⟨c,e⟩]))).length<5864062014805 then((spec_l1Make.f k (cs (bef (p++[⟨c,e⟩]))++[m]) (es (bef (p++[⟨c,e⟩]))++[t])).bind fun t'=>(some t')) else(none))) else(none)) (row (OM.step n (p++[⟨c,e⟩]))):=by
   intro m ht
   refine Tl.p (by rw[cl_];omega) ?_
   refine Tl.b ih ?_
   refine Tl.p (by rw[el_];omega) ?_
   refine Tl.b (make_ev' (x:=OM.step n (p++[⟨c,e⟩])) (by rw[hstep,ht,cs_append];rfl) (by rw[hstep,ht,es_append];rfl) (by omega)) ?_
   exact Tl.w _
  rcases List.eq_nil_or_concat e with h' | ⟨q,t,h'⟩
  ·exact absurd h' he
  ·rw[List.concat_eq_append] at h'
   obtain⟨d,f⟩:=t
   have hel:=ll_ e
   have hw:wrap64 (((es e).length:Int)-1)=(q.length:Int):=by
    rw[el_,wi_ (by omega) (by omega),h'];simp<;>omega
   rw[hw]
   refine Tl.p (by omega) ?_
   refine Tl.p (by rw[el_,h'];simp<;>omega) ?_
   have hrd:rd_L1 (es e) (q.length:Int)=row f:=by rw[h'];exact rdL_last q d f
   have hkf:kind e=if f=[] then 1 else 2:=by rw[h'];exact kind_snoc q d f
   rw[hrd]
   by_cases hf:f=[]
   ·rw[if_pos hf] at hkf
    refine Tl.p (row_one.2 hf) ?_
    by_cases hn0:n>0
    ·refine Tl.p hn0 ?_
     exact more n (by unfold tail;rw[if_neg (by omega),if_pos ⟨hkf,hn0⟩,step_one hkf])
    ·refine Tl.n hn0 ?_
     exact fin0 (by unfold tail;rw[if_neg (by omega),if_neg (fun h=>hn0 h.2)])
   ·rw[if_neg hf] at hkf
    refine Tl.n (fun h=>hf (row_one.1 h)) ?_
    exact more 1 (by unfold tail;rw[if_pos hkf])
theorem specl3Step_ev {n:Int}(hn:0≤n):∀ (d:Nat) (x:O),size x<d→NF x→size x≤10000→most x≤1000000000000000000→Tl (fun k=>spec_l3Step.f k (row x) n) (row (OM.step n x)):=by
 intro d
 induction d with
 | zero=>intro x h;have:=sp_ x;omega
 | succ d ih =>
  intro x h0 h hz hm
  refine Tl.s (fun k=>by rw[spec_l3Step.f]) ?_
  refine Tl.b (terms_ev (by omega)) ?_
  rcases List.eq_nil_or_concat x with h' | ⟨p,t,h'⟩
  ·subst h'
   rw[step_nil,row_nil]
   exact Tl.p (by rw[cl_,wi_ (by simp) (by simp)];simp) (Tl.w _)
  ·rw[List.concat_eq_append] at h'
   subst h'
   obtain⟨c,e⟩:=t
   have hl:=ll_ (p++[⟨c,e⟩])
   have hes:=@size_last p c e
   have hem:=@last_most p c e
   have hc':=@last_le p c e
   have hc:=(NF_append_last h).1
   have heN:=(NF_append_last h).2
   have hw:wrap64 (((cs (p++[(⟨c,e⟩:Tm)])).length:Int)-1)=(p.length:Int):=by
    rw[cl_,wi_ (by omega) (by omega)];simp<;>omega
   have hlen:((p++[(⟨c,e⟩:Tm)]).length:Int)=(p.length:Int)+1:=by simp
   rw[hw,rdc_last,rdL_last]
   have hj:=fun A B hA hB=>@specStep_j0 n p c e hn h hz A B hA hB (ih e (by omega) heN (by omega) (by omega))
   have tc:(cs (p++[(⟨c,e⟩:Tm)])).take (p.length:Int).toNat=cs p:=by rw[cs_append,Int.toNat_natCast,← cl_ p,List.take_left]
   have te:(es (p++[(⟨c,e⟩:Tm)])).take (p.length:Int).toNat=es p:=by rw[es_append,Int.toNat_natCast,← el_ p,List.take_left]
   refine Tl.n (by omega) ?_
   refine Tl.d ?_
   refine Tl.p (by omega) ?_
   refine Tl.p (by rw[cl_];omega) ?_
   refine Tl.d ?_
   rw[tc]
   refine Tl.p (by simp[cl_]<;>omega) ?_
   refine Tl.d ?_
   refine Tl.d ?_
   refine Tl.p (by rw[el_];omega) ?_
   refine Tl.d ?_
   rw[te]
   refine Tl.p (by simp[el_]<;>omega) ?_
   refine Tl.d ?_
   refine Tl.p (by rw[cl_];omega) ?_
   rw[List.nil_append,List.nil_append]
   by_cases g:c>1
   ·refine Tl.p g ?_
    refine Tl.p (by rw[cl_];omega) ?_
    refine Tl.p (by rw[el_];omega) ?_
    refine Tl.p (by rw[el_];omega) ?_
    rw[wi_ (i:=c-1) (by omega) (by omega)]
    exact hj _ _ (by rw[bef_cs,if_neg (by omega)]) (by rw[bef_es,if_neg (by omega)])
   ·refine Tl.n g ?_
    exact hj _ _ (by rw[bef_cs,if_pos (by omega)]) (by rw[bef_es,if_pos (by omega)])
theorem specFit_ev {x:O}(hx:NF x)(hz:size x≤100000000):Tl (fun k=>spec_l2Fit.f k (row x)) (toldv x):=by
 refine Tl.b (validRow_ev hx hz) ?_
 by_cases g:size x≤60∧most x≤9999
 ·rw[tt_ g]
  exact Tl.p (decide_eq_true g) (Tl.w _)
 ·rw[tf_ g]
  exact Tl.n (by rw[decide_eq_false g];simp) (Tl.w _)
theorem specStep_ev {n:Int}{l:List Int}{x:O}(h:ordOf l=some x)(hn:0≤n∧n≤99):Tl (fun k=>spec_OrdStep.f k l n) (toldv (OM.step n x)):=by
 obtain⟨h1,h2⟩:=os_ h
 refine Tl.b (valid_ev h) ?_
 refine Tl.p rfl ?_
 refine Tl.b (Tl.c (l1In_eq n 0 99)) ?_
 rw[decide_eq_true hn]
 refine Tl.s (fun k=>by rw[spec_OrdStep.j0]) ?_
 refine Tl.n (by simp) ?_
 have h3:=h2.2.1
 have h4:=h2.2.2
 have h5:=@size_stepV n x h2
 rw[h1]
 refine Tl.b (specl3Step_ev hn.1 (size x).toNat.succ x (by have:=sp_ x;omega) h2.1 (by omega) (by omega)) ?_
 refine Tl.b (specFit_ev (step_NF h2.1) (by omega)) ?_
 exact Tl.w _
end Go.Proofs.Ytfkecmnklpjelaa.P
namespace Go.Proofs.Ytfkecmnklpjelaa.P
open OM Go.RowKit Go.Proofs.YtfkecmnklpjelaaW.PrintWords Go.Proofs.YtfkecmnklpjelaaW.PrintLast Go.Proofs.YtfkecmnklpjelaaW.PrintMore
set_option linter.unusedVariables false
def fall:O→List Int→Option (List O)
 | _,[]=>some []
 | x,n::ns=>if x=[] then some [] else if size (OM.step n x)≤60∧most (OM.step n x)≤9999 then(fall (OM.step n x) ns).map (fun l=>OM.step n x::l) else none
def behind (acc:List (List Int)):Option (List O)→List (List Int) × Bool
 | some l=>(acc++l.map row,true)
 | none=>([],false)
def In99 (ns:List Int):Prop:=∀ n ∈ ns,0≤n∧n≤99
theorem In99.tail {n:Int}{ns:List Int}(h:In99 (n::ns)):In99 ns:=fun m hm=>h m (by simp[hm])
theorem fall_Vd {n:Int}{x:O}(h:Vd x)(g:size (OM.step n x)≤60∧most (OM.step n x)≤9999):Vd (OM.step n x):=⟨step_NF h.1,g.2,g.1⟩
theorem implFall_l:∀ (ns p:List Int) (x:O) (acc:List (List Int)),Vd x→In99 ns→((p++ns).length:Int)≤1000000→(acc.length:Int)+ns.length≤10000000 →
 Tl (fun k=>impl_OrdFall.l1 k x acc (p++ns) ((p++ns).length:Int) (p.length:Int)) (behind acc (fall x ns)):=by
 intro ns
 induction ns with
 | nil =>
  intro p x acc h1 h2 h3 h4
  refine Tl.s (fun k=>by rw[impl_OrdFall.l1]) ?_
  refine Tl.n (by simp) ?_
  refine Tl.to (Tl.w _) ?_
  rw[fall];simp[behind]
 | cons n ns ih =>
  intro p x acc h1 h2 h3 h4
  have h3':=h3
  simp only[List.length_append,List.length_cons] at h3' h4
  obtain⟨n0,n9⟩:=h2 n (by simp)
  refine Tl.s (fun k=>by rw[impl_OrdFall.l1]) ?_
  refine Tl.p (by simp<;>omega) ?_
  refine Tl.p (by omega) ?_
  refine Tl.p (by simp<;>omega) ?_
  rw[fall]
  by_cases hx:x=[]
  ·subst hx
   refine Tl.p rfl ?_
   refine Tl.to (Tl.w _) ?_
   simp[behind]
  ·have hl:=List.length_pos_iff.2 hx
   refine Tl.n (by omega) ?_
   rw[rd_mid p ns n rfl,if_neg hx]
   refine Tl.b (implStep_ev n0 h1) ?_
   refine Tl.b (told_ev (by have:=size_stepV (n:=n) h1;omega)) ?_
   by_cases g:size (OM.step n x)≤60∧most (OM.step n x)≤9999
   ·rw[if_pos g,tt_ g]
    refine Tl.p rfl ?_
    refine Tl.p (by omega) ?_
    rw[wi_ (i:=(p.length:Int)+1) (by omega) (by omega),snoc p]
    have:=ih (p++[n]) (OM.step n x) (acc++[row (OM.step n x)]) (fall_Vd h1 g) h2.tail (by rw[← snoc];exact h3) (by simp<;>omega)
    rw[show ((p++[n]).length:Int)=(p.length:Int)+1 by simp] at this
    refine Tl.to this ?_
    cases fall (OM.step n x) ns with
    | none=>rfl
    | some l=>simp[behind]
   ·rw[if_neg g,tf_ g]
    exact Tl.n (by simp) (Tl.w _)
theorem implNums_l {x:O}{R:List (List Int) × Bool}{ns:List Int}(hns:(ns.length:Int)≤1000000)(hR:In99 ns→Tl (fun k=>impl_OrdFall.l1 k x [] ns (ns.length:Int) 0) R)(hN:¬ In99 ns→R=([],false)) :
 ∀ (r p:List Int),ns=p++r→In99 p→Tl (fun k=>impl_OrdFall.l0 k ns x ns (ns.length:Int) (p.length:Int)) R:=by
 intro r
 induction r with
 | nil =>
  intro p h1 h2
  rw[List.append_nil] at h1
  refine Tl.s (fun k=>by rw[impl_OrdFall.l0]) ?_
  refine Tl.n (by rw[h1];omega) ?_
  exact hR (by rw[h1];exact h2)
 | cons n r ih =>
  intro p h1 h2
  have hl:(ns.length:Int)=(p.length:Int)+r.length+1:=by rw[h1];simp<;>omega
  have hrd:rd ns (p.length:Int)=n:=by rw[h1];exact rd_mid p r n rfl
  refine Tl.s (fun k=>by rw[impl_OrdFall.l0]) ?_
  refine Tl.p (by omega) ?_
  refine Tl.p (by omega) ?_
  refine Tl.p (by omega) ?_
  rw[hrd]
  have bad:¬ (0≤n∧n≤99)→R=([],false):=fun h=>hN (fun q=>h (q n (by rw[h1];simp)))
  by_cases g1:n<0
  ·refine Tl.p g1 ?_
   rw[bad (by omega)];exact Tl.w _
  ·refine Tl.n g1 ?_
   by_cases g2:n>99
   ·refine Tl.p g2 ?_
    rw[bad (by omega)];exact Tl.w _
   ·refine Tl.n g2 ?_
    rw[wi_ (i:=(p.length:Int)+1) (by omega) (by omega)]
    have:=ih (p++[n]) (by rw[h1];simp) (by
     intro m hm
     rcases List.mem_append.1 hm with hm | hm
     ·exact h2 m hm
     ·rw[List.mem_singleton.1 hm];omega)
    rw[show ((p++[n]).length:Int)=(p.length:Int)+1 by simp] at this
    exact this
theorem specFall_l:∀ (ns p:List Int) (x:O) (acc:List (List Int)),Vd x→In99 ns→((p++ns).length:Int)≤1000000→(acc.length:Int)+ns.length≤10000000 →
 Tl (fun k=>spec_OrdFall.l1 k (row x) (p++ns) acc (p.length:Int)) (behind acc (fall x ns)):=by
 intro ns
 induction ns with
 | nil =>
  intro p x acc h1 h2 h3 h4
  refine Tl.s (fun k=>by rw[spec_OrdFall.l1]) ?_
  refine Tl.n (by simp) ?_
  refine Tl.s (fun k=>by rw[spec_OrdFall.j3]) ?_
  refine Tl.n (by simp) ?_
  refine Tl.to (Tl.w _) ?_
  rw[fall];simp[behind]
 | cons n ns ih =>
  intro p x acc h1 h2 h3 h4
  have h3':=h3
  simp only[List.length_append,List.length_cons] at h3' h4
  obtain⟨n0,n9⟩:=h2 n (by simp)
  refine Tl.s (fun k=>by rw[spec_OrdFall.l1]) ?_
  refine Tl.p (by simp<;>omega) ?_
  refine Tl.s (fun k=>by rw[spec_OrdFall.j3]) ?_
  rw[fall]
  by_cases hx:x=[]
  ·subst hx
   refine Tl.n (by rw[row_nil];simp) ?_
   refine Tl.to (Tl.w _) ?_
   simp[behind]
  ·have hl:=List.length_pos_iff.2 hx
   have hlr:=rl_ x
   have hls:=ll_ x
   refine Tl.p (decide_eq_true (by omega)) ?_
   refine Tl.p (by omega) ?_
   refine Tl.p (by simp<;>omega) ?_
   rw[rd_mid p ns n rfl,if_neg hx]
   refine Tl.b (specStep_ev (or_ h1) ⟨n0,n9⟩) ?_
   by_cases g:size (OM.step n x)≤60∧most (OM.step n x)≤9999
   ·rw[if_pos g,tt_ g]
    refine Tl.p rfl ?_
    refine Tl.p (by omega) ?_
    rw[wi_ (i:=(p.length:Int)+1) (by omega) (by omega),snoc p]
    have:=ih (p++[n]) (OM.step n x) (acc++[row (OM.step n x)]) (fall_Vd h1 g) h2.tail (by rw[← snoc];exact h3) (by simp<;>omega)
    rw[show ((p++[n]).length:Int)=(p.length:Int)+1 by simp] at this
    refine Tl.to this ?_
    cases fall (OM.step n x) ns with
    | none=>rfl
    | some l=>simp[behind]
   ·rw[if_neg g,tf_ g]
    exact Tl.n (by simp) (Tl.w _)
theorem specNums_l {a:List Int}{R:List (List Int) × Bool}{ns:List Int}(hns:(ns.length:Int)≤1000000)(hR:In99 ns→Tl (fun k=>spec_OrdFall.l1 k a ns [] 0) R)(hN:¬ In99 ns→R=([],false)) :
 ∀ (r p:List Int),ns=p++r→In99 p→Tl (fun k=>spec_OrdFall.l0 k a ns [] (p.length:Int)) R:=by
 intro r
 induction r with
 | nil =>
  intro p h1 h2
  rw[List.append_nil] at h1
  refine Tl.s (fun k=>by rw[spec_OrdFall.l0]) ?_
  refine Tl.n (by rw[h1];omega) ?_
  exact hR (by rw[h1];exact h2)
 | cons n r ih =>
  intro p h1 h2
  have hl:(ns.length:Int)=(p.length:Int)+r.length+1:=by rw[h1];simp<;>omega
  have hrd:rd ns (p.length:Int)=n:=by rw[h1];exact rd_mid p r n rfl
  refine Tl.s (fun k=>by rw[spec_OrdFall.l0]) ?_
  refine Tl.p (by omega) ?_
  refine Tl.p (by omega) ?_
  rw[hrd]
  refine Tl.b (Tl.c (l1In_eq n 0 99)) ?_
  by_cases g:0≤n∧n≤99
  ·refine Tl.p (decide_eq_true g) ?_
   rw[wi_ (i:=(p.length:Int)+1) (by omega) (by omega)]
   have:=ih (p++[n]) (by rw[h1];simp) (by
    intro m hm
    rcases List.mem_append.1 hm with hm | hm
    ·exact h2 m hm
    ·rw[List.mem_singleton.1 hm];omega)
   rw[show ((p++[n]).length:Int)=(p.length:Int)+1 by simp] at this
   exact this
  ·refine Tl.n (by simp;omega) ?_
   rw[hN (fun q=>g (q n (by rw[h1];simp)))];exact Tl.w _
theorem both_OrdFall {a ns:List Int}(ha:(a.length:Int)≤10000000)(hn:(ns.length:Int)≤10000000):∃ R:List (List Int) × Bool,Tl (fun k=>impl_OrdFall.f k a ns) R∧Tl (fun k=>spec_OrdFall.f k a ns) R ∧
 (R=([],false)∨∃ x l,ordOf a=some x∧In99 ns∧(ns.length:Int)≤3000∧fall x ns=some l∧R=(l.map row,true)):=by
 have badI:∀ x,Tl (fun k=>impl_OrdFall.j0 k ns x true) (([]:List (List Int)),false):=by
  intro x
  refine Tl.s (fun k=>by rw[impl_OrdFall.j0]) ?_
  exact Tl.p rfl (Tl.w _)
 have badS:Tl (fun k=>spec_OrdFall.j0 k a ns [] true) (([]:List (List Int)),false):=by
  refine Tl.s (fun k=>by rw[spec_OrdFall.j0]) ?_
  exact Tl.p rfl (Tl.w _)
 cases h:ordOf a with
 | none =>
  refine⟨([],false),?_,?_,.inl rfl⟩
  ·refine Tl.b ordOf_ev ?_
   exact Tl.n (by rw[ordv_none h];simp) (badI _)
  ·refine Tl.d ?_
   exact Tl.b (invalid_ev (by omega) h) (Tl.n (by simp) badS)
 | some x =>
  obtain⟨e1,hV⟩:=os_ h
  by_cases h3:(ns.length:Int)>3000
  ·refine⟨([],false),?_,?_,.inl rfl⟩
   ·refine Tl.b ordOf_ev ?_
    rw[ordv_some h]
    refine Tl.p rfl ?_
    rw[decide_eq_true h3];exact badI _
   ·refine Tl.d ?_
    refine Tl.b (valid_ev h) ?_
    refine Tl.p rfl ?_
    rw[decide_eq_true h3];exact badS
  ·have go:∀ R,(In99 ns→R=behind [] (fall x ns))→(¬ In99 ns→R=([],false))→Tl (fun k=>impl_OrdFall.f k a ns) R∧Tl (fun k=>spec_OrdFall.f k a ns) R:=by
    intro R r1 r2
    constructor
    ·refine Tl.b ordOf_ev ?_
     rw[ordv_some h]
     refine Tl.p rfl ?_
     rw[decide_eq_false h3]
     refine Tl.s (fun k=>by rw[impl_OrdFall.j0]) ?_
     refine Tl.n (by simp) ?_
     exact implNums_l (by omega) (fun q=>by rw[r1 q];exact implFall_l ns [] x [] hV q (by simp<;>omega) (by simp<;>omega)) r2 ns [] rfl (fun m hm=>by simp at hm)
    ·refine Tl.d ?_
     refine Tl.b (valid_ev h) ?_
     refine Tl.p rfl ?_
     rw[decide_eq_false h3]
     refine Tl.s (fun k=>by rw[spec_OrdFall.j0]) ?_
     refine Tl.n (by simp) ?_
     exact specNums_l (by omega) (fun q=>by rw[r1 q,e1];exact specFall_l ns [] x [] hV q (by simp<;>omega) (by simp<;>omega)) r2 ns [] rfl (fun m hm=>by simp at hm)
   by_cases q:In99 ns
   ·cases hf:fall x ns with
    | none =>
     obtain⟨t1,t2⟩:=go ([],false) (fun _=>by rw[hf];rfl) (fun _=>rfl)
     exact⟨_,t1,t2,.inl rfl⟩
    | some l =>
     obtain⟨t1,t2⟩:=go (l.map row,true) (fun _=>by rw[hf];simp[behind]) (fun n=>absurd q n)
     exact⟨_,t1,t2,.inr ⟨x,l,rfl,q,by omega,hf,rfl⟩⟩
   ·obtain⟨t1,t2⟩:=go ([],false) (fun n=>absurd n q) (fun _=>rfl)
    exact⟨_,t1,t2,.inl rfl⟩
def Down:O→List O→Prop
 | _,[]=>True
 | x,y::l=>Vd y∧Lt y x∧Down y l
theorem fall_down:∀ (ns:List Int) (x:O) (l:List O),Vd x→fall x ns=some l→Down x l∧l.length≤ns.length:=by
 intro ns
 induction ns with
 | nil=>intro x l _ h;rw[fall] at h;injection h with h;subst h;exact⟨trivial,by simp⟩
 | cons n ns ih =>
  intro x l hV h
  rw[fall] at h
  by_cases hx:x=[]
  ·rw[if_pos hx] at h;injection h with h;subst h;exact⟨trivial,by simp⟩
  ·rw[if_neg hx] at h
   by_cases g:size (OM.step n x)≤60∧most (OM.step n x)≤9999
   ·rw[if_pos g] at h
    cases hf:fall (OM.step n x) ns with
    | none=>rw[hf] at h;cases h
    | some l' =>
     rw[hf] at h
     injection h with h
     subst h
     have hy:=fall_Vd hV g
     obtain⟨a,b⟩:=ih _ _ hy hf
     exact⟨⟨hy,step_lt n hV.1 hx,a⟩,by simp<;>omega⟩
   ·rw[if_neg g] at h;cases h
end Go.Proofs.Ytfkecmnklpjelaa.P
namespace Go.Proofs.Ytfkecmnklpjelaa.Pure
open OM Go.RowKit Go.Proofs.Ytfkecmnklpjelaa.P Go.Proofs.YtfkecmnklpjelaaW.PrintWords Go.Proofs.YtfkecmnklpjelaaW.PrintLast Go.Proofs.YtfkecmnklpjelaaW.PrintMore
set_option linter.unusedVariables false
theorem eqIntSS_l:∀ (a p:List (List Int)),(∀ x ∈ a,(x.length:Int)≤1000)→((p++a).length:Int)≤1000000→Tl (fun k=>laws_eqIntSS.l0 k (p++a) (p++a) (p.length:Int)) true:=by
 intro a
 induction a with
 | nil =>
  intro p _ _
  refine Tl.s (fun k=>by rw[laws_eqIntSS.l0]) ?_
  exact Tl.n (by simp) (Tl.w _)
 | cons x a ih =>
  intro p h1 h2
  have h2':=h2
  simp only[List.length_append,List.length_cons] at h2'
  refine Tl.s (fun k=>by rw[laws_eqIntSS.l0]) ?_
  refine Tl.p (by simp<;>omega) ?_
  refine Tl.p (by omega) ?_
  refine Tl.p (by simp<;>omega) ?_
  rw[rdL_mid p a x rfl]
  refine Tl.b (eqIntS_ev (by have:=h1 x (by simp);omega)) ?_
  refine Tl.p (by simp) ?_
  rw[wi_ (by omega) (by omega),snoc p]
  have:=ih (p++[x]) (fun y hy=>h1 y (by simp[hy])) (by rw[← snoc];exact h2)
  rw[show ((p++[x]).length:Int)=(p.length:Int)+1 by simp] at this
  exact this
theorem eqIntSS_ev {a:List (List Int)}(h:∀ x ∈ a,(x.length:Int)≤1000)(hl:(a.length:Int)≤1000000):Tl (fun k=>laws_eqIntSS.f k a a) true :=
 Tl.p rfl (eqIntSS_l a [] h hl)
def total:List (List Int)→Nat
 | []=>0
 | r::rs=>r.length+total rs
def marksS:Int→List (List Int)→List (List Int)
 | _,[]=>[]
 | m,r::rs=>marks m r.length::marksS (m+r.length) rs
theorem markIntSS_l:∀ (a p:List (List Int)) (m:Int),0≤m→m+(total a:Int)≤1000000000→((p++a).length:Int)≤1000000→Tl (fun k=>laws_markIntSS.l0 k (p++a) m (p.length:Int)) (m+(total a:Int),p++marksS m a):=by
 intro a
 induction a with
 | nil =>
  intro p m h0 h1 h3
  refine Tl.s (fun k=>by rw[laws_markIntSS.l0]) ?_
  refine Tl.n (by simp) ?_
  refine Tl.to (Tl.w _) ?_
  simp[marksS,total]
 | cons x a ih =>
  intro p m h0 h1 h3
  have h3':=h3
  have ht:total (x::a)=x.length+total a:=rfl
  simp only[List.length_append,List.length_cons] at h3'
  refine Tl.s (fun k=>by rw[laws_markIntSS.l0]) ?_
  refine Tl.p (by simp<;>omega) ?_
  refine Tl.p (by omega) ?_
  rw[rdL_mid p a x rfl]
  refine Tl.b (markIntS_ev h0 (by omega)) ?_
  have hs:(p++x::a).set (p.length:Int).toNat (marks m x.length)=(p++[marks m x.length])++a:=by simp
  show Tl (fun k=>laws_markIntSS.l0 k ((p++x::a).set (p.length:Int).toNat (marks m x.length)) (m+(x.length:Int)) (wrap64 ((p.length:Int)+1))) _
  rw[hs,wi_ (i:=(p.length:Int)+1) (by omega) (by omega)]
  have:=ih (p++[marks m x.length]) (m+(x.length:Int)) (by omega) (by omega) (by simp<;>omega)
  rw[show ((p++[marks m x.length]).length:Int)=(p.length:Int)+1 by simp] at this
  refine Tl.to this ?_
  rw[ht]
  simp[marksS];omega
theorem markIntSS_ev {a:List (List Int)}{m:Int}(h0:0≤m)(h1:m+(total a:Int)≤1000000000)(hl:(a.length:Int)≤1000000):Tl (fun k=>laws_markIntSS.f k a m) (m+(total a:Int),marksS m a) :=
 markIntSS_l a [] m h0 h1 hl
theorem heldIntSS_l:∀ (a p:List (List Int)) (m:Int),0≤m→m+(total a:Int)≤1000000000→((p++a).length:Int)≤1000000→Tl (fun k=>laws_heldIntSS.l0 k (p++marksS m a) m (p.length:Int)) (m+(total a:Int)):=by
 intro a
 induction a with
 | nil =>
  intro p m h0 h1 h3
  refine Tl.s (fun k=>by rw[laws_heldIntSS.l0]) ?_
  refine Tl.n (by simp[marksS]) ?_
  refine Tl.to (Tl.w _) ?_
  simp[total]
 | cons x a ih =>
  intro p m h0 h1 h3
  have h3':=h3
  have ht:total (x::a)=x.length+total a:=rfl
  have hm:marksS m (x::a)=marks m x.length::marksS (m+x.length) a:=rfl
  simp only[List.length_append,List.length_cons] at h3'
  refine Tl.s (fun k=>by rw[laws_heldIntSS.l0]) ?_
  refine Tl.p (by rw[hm];simp<;>omega) ?_
  refine Tl.p (by omega) ?_
  rw[hm,rdL_mid p _ (marks m x.length) rfl]
  refine Tl.b (heldIntS_ev h0 (by omega)) ?_
  refine Tl.n (by omega) ?_
  rw[wi_ (i:=(p.length:Int)+1) (by omega) (by omega),snoc p]
  have:=ih (p++[marks m x.length]) (m+(x.length:Int)) (by omega) (by omega) (by simp<;>omega)
  rw[show ((p++[marks m x.length]).length:Int)=(p.length:Int)+1 by simp] at this
  refine Tl.to this ?_
  rw[ht];omega
theorem heldIntSS_ev {a:List (List Int)}{m:Int}(h0:0≤m)(h1:m+(total a:Int)≤1000000000)(hl:(a.length:Int)≤1000000):Tl (fun k=>laws_heldIntSS.f k (marksS m a) m) (m+(total a:Int)) :=
 heldIntSS_l a [] m h0 h1 hl
theorem total_le:∀ (a:List (List Int)) (c:Nat),(∀ x ∈ a,x.length≤c)→total a≤a.length*c:=by
 intro a c
 induction a with
 | nil=>intro _;simp[total]
 | cons x a ih =>
  intro h
  have h1:=h x (by simp)
  have h2:=ih (fun y hy=>h y (by simp[hy]))
  simp only[total,List.length_cons]
  rw[Nat.add_mul];omega
theorem fall_rows:∀ (l:List O) (x:O),Down x l→∀ y ∈ l.map row,(y.length:Int)≤1000:=by
 intro l
 induction l with
 | nil=>intro x _ y hy;simp at hy
 | cons z l ih =>
  intro x h y hy
  obtain⟨h1,h2,h3⟩:=h
  rw[List.map_cons] at hy
  rcases List.mem_cons.1 hy with hy | hy
  ·have h60:((row z).length:Int)≤60:=by rw[rl_];exact h1.2.2
   rw[hy];omega
  ·exact ih z h3 y hy
theorem FnExactOrdFall:laws_FnExactOrdFall.Pure:=by
 intro a ns h1 h2
 obtain⟨⟨rows,ok⟩,tI,tS,hR⟩:=both_OrdFall (a:=a) (ns:=ns) (by omega) (by omega)
 obtain⟨hr,hl⟩:(∀ y ∈ rows,(y.length:Int)≤1000)∧(rows.length:Int)≤3000:=by
  rcases hR with e | ⟨x,f,ho,hin,hn3,hf,e⟩
  ·injection e with e1 e2
   subst e1
   exact⟨by intro y hy;simp at hy,by simp⟩
  ·obtain⟨eo,hx⟩:=os_ ho
   obtain⟨hdn,hlen⟩:=fall_down ns x f hx hf
   injection e with e1 e2
   subst e1
   exact⟨fall_rows f x hdn,by simp<;>omega⟩
 have ht:total rows≤rows.length*1000:=total_le rows 1000 (fun x hx=>by have:=hr x hx;omega)
 have ht':(total rows:Int)≤3000000:=by omega
 obtain⟨k1,g1⟩:=toIntS_ev (a:=a) (by omega)
 obtain⟨k2,g2⟩:=toIntS_ev (a:=ns) (by omega)
 obtain⟨k3,g3⟩:=tS
 obtain⟨k4,g4⟩:=tI
 obtain⟨k5,g5⟩:=eqIntSS_ev hr (by omega)
 obtain⟨k6,g6⟩:=eqIntS_ev (a:=a) (b:=a) (by omega)
 obtain⟨k7,g7⟩:=eqIntS_ev (a:=ns) (b:=ns) (by omega)
 obtain⟨k8,g8⟩:=markIntS_ev (a:=a) (m:=1) (by omega) (by omega)
 obtain⟨k9,g9⟩:=markIntS_ev (a:=ns) (m:=1+(a.length:Int)) (by omega) (by omega)
 obtain⟨k10,g10⟩:=markIntSS_ev (a:=rows) (m:=1) (by omega) (by omega) (by omega)
 obtain⟨k11,g11⟩:=heldIntSS_ev (a:=rows) (m:=1) (by omega) (by omega) (by omega)
 have t6:decide (a=a)=true:=by simp
 have t7:decide (ns=ns)=true:=by simp
 rw[t6] at g6
 rw[t7] at g7
 refine⟨k1+k2+k3+k4+k5+k6+k7+k8+k9+k10+k11,rows,ok,_,_,_,_,_,_,g1 _ (by omega),g2 _ (by omega),g3 _ (by omega),g4 _ (by omega),g5 _ (by omega),g6 _ (by omega),g7 _ (by omega),g8 _ (by omega),g9 _ (by omega),by omega,g10 _ (by omega),g11 _ (by omega),by omega⟩
end Go.Proofs.Ytfkecmnklpjelaa.Pure
