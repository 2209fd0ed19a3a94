/- What is left is less, and the product and what is left are the first one: the law's pure statement. -/
import Derived.Test.YtfblcanijhnhmaaTm
import Derived.Test.YtfblcanijhnhmaaP0
import Derived.Test.YtfblcanijhnhmaaPcmpCompareint
import Derived.Test.YtfblcanijhnhmaaPimplcompare
import Derived.Test.YtfblcanijhnhmaaPimpltakeOrd
import Derived.Test.YtfblcanijhnhmaaPimplordOf
import Derived.Test.YtfblcanijhnhmaaPimplrowOf
import Derived.Test.YtfblcanijhnhmaaPimplsizeOf
import Derived.Test.YtfblcanijhnhmaaPimplmost
import Derived.Test.YtfblcanijhnhmaaPimpltold
import Derived.Test.YtfblcanijhnhmaaPspecl1In
import Derived.Test.YtfblcanijhnhmaaPspecl1Span
import Derived.Test.YtfblcanijhnhmaaPspecl1Terms
import Derived.Test.YtfblcanijhnhmaaPspecl1Compare
import Derived.Test.YtfblcanijhnhmaaPspecl1Make
import Derived.Test.YtfblcanijhnhmaaPspecOrdOf
import Derived.Test.YtfblcanijhnhmaaPimplOrdOf
import Derived.Test.YtfblcanijhnhmaaPimplnumber
import Derived.Test.YtfblcanijhnhmaaPlawssameInts
import Derived.Test.YtfblcanijhnhmaaPlawsalive
import Derived.Test.YtfblcanijhnhmaaPspecl1End
import Derived.Test.YtfblcanijhnhmaaPspecOrdValid
import Derived.Test.YtfblcanijhnhmaaPimpladd
import Derived.Test.YtfblcanijhnhmaaPimplOrdAdd
import Derived.Test.YtfblcanijhnhmaaPimplboth
import Derived.Test.YtfblcanijhnhmaaPspecl2Add
import Derived.Test.YtfblcanijhnhmaaPspecl2Fit
import Derived.Test.YtfblcanijhnhmaaPimpltimes
import Derived.Test.YtfblcanijhnhmaaPimplOrdTimes
import Derived.Test.YtfblcanijhnhmaaPspecl2Times
import Derived.Test.YtfblcanijhnhmaaPimplOrdCompare
import Derived.Test.YtfblcanijhnhmaaPimplminus
import Derived.Test.YtfblcanijhnhmaaPspecl2Minus
import Derived.Test.YtfblcanijhnhmaaPspecl1Same
import Derived.Test.YtfblcanijhnhmaaPspecOrdDivide
import Derived.Test.YtfblcanijhnhmaaPimplOrdDivide
import Derived.Test.YtfblcanijhnhmaaPspecl20Open
import Derived.Test.YtfblcanijhnhmaaPspecl20Rdpick
import Derived.Test.YtfblcanijhnhmaaPspecl20Raw
import Derived.Test.YtfblcanijhnhmaaPspecl20Rdodd
import Derived.Test.YtfblcanijhnhmaaPspecl20Ord
import Derived.Test.YtfblcanijhnhmaaPspecl20Little
import Derived.Test.YtfblcanijhnhmaaPspecl20Both
import Derived.Test.YtfblcanijhnhmaaPspecDrawOrdDivide
import Derived.Test.YtfblcanijhnhmaaPlawsFnOrdDivide
set_option linter.unusedSimpArgs false
namespace OM
theorem ind {P:O→Prop}(h0:P [])(h1:∀ c e r,P e→P r→P (⟨c,e⟩::r)):∀ x,P x
 | []=>h0
 | ⟨c,e⟩::r=>h1 c e r (ind h0 h1 e) (ind h0 h1 r)
def cmp:O→O→Int
 | [],[]=>0
 | [],_::_=>-1
 | _::_,[]=>1
 | ⟨c,e⟩::r,⟨d,f⟩::s=>if cmp e f=0 then(if c<d then -1 else if d<c then 1 else cmp r s) else cmp e f
theorem cmp_nn:cmp [] []=0:=by unfold cmp;rfl
theorem cmp_nc (t:Tm)(y:O):cmp [] (t::y)=-1:=by cases t;unfold cmp;rfl
theorem cmp_cn (t:Tm)(y:O):cmp (t::y) []=1:=by cases t;unfold cmp;rfl
theorem cmp_cc (c d:Int)(e r f s:O):cmp (⟨c,e⟩::r) (⟨d,f⟩::s)=if cmp e f=0 then(if c<d then -1 else if d<c then 1 else cmp r s) else cmp e f:=by rw[cmp]
theorem cmp_range:∀ x y:O,cmp x y=-1∨cmp x y=0∨cmp x y=1:=by
 intro x
 induction x using ind with
 | h0=>intro y;cases y with
  | nil=>exact .inr (.inl cmp_nn)
  | cons t y=>exact .inl (cmp_nc t y)
 | h1 c e r ihe ihr =>
  intro y;cases y with
  | nil=>exact .inr (.inr (cmp_cn _ _))
  | cons t s =>
   obtain⟨d,f⟩:=t
   rw[cmp_cc]
   have:=ihe f
   have:=ihr s
   split
   ·split
    ·exact .inl rfl
    ·split
     ·exact .inr (.inr rfl)
     ·assumption
   ·assumption
theorem cmp_self (x:O):cmp x x=0:=by
 induction x using ind with
 | h0=>exact cmp_nn
 | h1 c e r ihe ihr=>rw[cmp_cc,if_pos ihe,if_neg (by omega),if_neg (by omega)];exact ihr
theorem cmp_eq:∀ {x y:O},cmp x y=0→x=y:=by
 intro x
 induction x using ind with
 | h0=>intro y h;cases y with
  | nil=>rfl
  | cons t y=>rw[cmp_nc] at h;omega
 | h1 c e r ihe ihr =>
  intro y h;cases y with
  | nil=>rw[cmp_cn] at h;omega
  | cons t s =>
   obtain⟨d,f⟩:=t
   rw[cmp_cc] at h
   split at h
   ·next h1 =>
    split at h
    ·omega
    ·split at h
     ·omega
     ·rw[ihe h1,ihr h];have:c=d:=by omega
      rw[this]
   ·contradiction
theorem cmp_anti:∀ x y:O,cmp y x =-cmp x y:=by
 intro x
 induction x using ind with
 | h0=>intro y;cases y with
  | nil=>rw[cmp_nn];rfl
  | cons t y=>rw[cmp_nc,cmp_cn];rfl
 | h1 c e r ihe ihr =>
  intro y;cases y with
  | nil=>rw[cmp_nc,cmp_cn]
  | cons t s =>
   obtain⟨d,f⟩:=t
   rw[cmp_cc,cmp_cc,ihe f,ihr s]
   have:=cmp_range e f
   split<;>split<;>first | omega | (repeat' split)<;>omega
theorem cmp_trans:∀ {x y z:O},cmp x y=-1→cmp y z=-1→cmp x z=-1:=by
 intro x
 induction x using ind with
 | h0=>intro y z h1 h2;cases z with
  | nil=>cases y with
   | nil=>exact h1
   | cons t y=>rw[cmp_cn] at h2;omega
  | cons t z=>exact cmp_nc _ _
 | h1 c e r ihe ihr =>
  intro y z h1 h2
  cases y with
  | nil=>rw[cmp_cn] at h1;omega
  | cons t s =>
   obtain⟨d,f⟩:=t
   cases z with
   | nil=>rw[cmp_cn] at h2;omega
   | cons u w =>
    obtain⟨g,h⟩:=u
    rw[cmp_cc] at h1 h2 ⊢
    by_cases a:cmp e f=0
    ·have a':=cmp_eq a
     subst a'
     rw[if_pos a] at h1
     by_cases b:cmp e h=0
     ·rw[if_pos b] at h2 ⊢
      by_cases c1:c<g
      ·rw[if_pos c1]
      ·rw[if_neg c1]
       split at h1
       ·split at h2
        ·omega
        ·split at h2<;>omega
       ·split at h1
        ·omega
        ·split at h2
         ·omega
         ·split at h2
          ·omega
          ·rw[if_neg (by omega)];exact ihr h1 h2
     ·rw[if_neg b] at h2 ⊢;exact h2
    ·rw[if_neg a] at h1
     by_cases b:cmp f h=0
     ·have b':=cmp_eq b
      subst b'
      rw[if_neg a];exact h1
     ·rw[if_neg b] at h2
      have:=ihe h1 h2
      rw[if_neg (by omega)];exact this
def Lt (x y:O):Prop:=cmp x y=-1
theorem Lt.trans {x y z:O}(h:Lt x y)(g:Lt y z):Lt x z:=cmp_trans h g
theorem Lt.irrefl (x:O):¬ Lt x x:=by unfold Lt;rw[cmp_self];omega
theorem Lt.gt {x y:O}(h:Lt x y):cmp y x=1:=by have:=cmp_anti x y;unfold Lt at h;omega
theorem gt_lt {x y:O}(h:cmp x y=1):Lt y x:=by have:=cmp_anti x y;unfold Lt;omega
theorem tri (x y:O):Lt x y∨x=y∨Lt y x:=by
 rcases cmp_range x y with h | h | h
 ·exact .inl h
 ·exact .inr (.inl (cmp_eq h))
 ·exact .inr (.inr (gt_lt h))
theorem Lt.ne {x y:O}(h:Lt x y):x≠y:=by rintro rfl;exact Lt.irrefl _ h
theorem not_lt_nil (x:O):¬ Lt x []:=by
 unfold Lt;cases x with
 | nil=>rw[cmp_nn];omega
 | cons t y=>rw[cmp_cn];omega
theorem cmp_lt {x y:O}(h:Lt x y):cmp x y=-1:=h
theorem cmp_lt_e {e f:O}(h:Lt e f)(c d:Int)(r s:O):cmp (⟨c,e⟩::r) (⟨d,f⟩::s)=-1:=by rw[cmp_cc,h];rfl
theorem cmp_gt_e {e f:O}(h:Lt f e)(c d:Int)(r s:O):cmp (⟨c,e⟩::r) (⟨d,f⟩::s)=1:=by rw[cmp_cc,h.gt];rfl
theorem cmp_eq_e (e:O)(c d:Int)(r s:O):cmp (⟨c,e⟩::r) (⟨d,e⟩::s)=if c<d then -1 else if d<c then 1 else cmp r s:=by rw[cmp_cc,if_pos (cmp_self e)]
theorem cmp_eq_t (e:O)(c:Int)(r s:O):cmp (⟨c,e⟩::r) (⟨c,e⟩::s)=cmp r s:=by rw[cmp_eq_e,if_neg (by omega),if_neg (by omega)]
theorem cmp_lt_c {c d:Int}(h:c<d)(e:O)(r s:O):cmp (⟨c,e⟩::r) (⟨d,e⟩::s)=-1:=by rw[cmp_eq_e,if_pos h]
theorem cmp_gt_c {c d:Int}(h:d<c)(e:O)(r s:O):cmp (⟨c,e⟩::r) (⟨d,e⟩::s)=1:=by rw[cmp_eq_e,if_neg (by omega),if_pos h]
def below (e:O):O→Prop
 | []=>True
 | ⟨_,f⟩::_=>Lt f e
def NF:O→Prop
 | []=>True
 | ⟨c,e⟩::r=>1≤c∧NF e∧NF r∧below e r
def size:O→Int
 | []=>1
 | ⟨_,e⟩::r=>1+size e+size r
def most:O→Int
 | []=>0
 | ⟨c,e⟩::r=>max c (max (most e) (most r))
theorem NF_nil:NF []:=by unfold NF;trivial
theorem NF_cons {c:Int}{e r:O}:NF (⟨c,e⟩::r) ↔ 1≤c∧NF e∧NF r∧below e r:=by rw[NF]
theorem sn_:size []=1:=by unfold size;rfl
theorem sc_ (c:Int)(e r:O):size (⟨c,e⟩::r)=1+size e+size r:=by rw[size]
theorem most_nil:most []=0:=by unfold most;rfl
theorem mc_ (c:Int)(e r:O):most (⟨c,e⟩::r)=max c (max (most e) (most r)):=by rw[most]
theorem sp_ (x:O):1≤size x:=by
 induction x using ind with
 | h0=>rw[sn_];omega
 | h1 c e r ihe ihr=>rw[sc_];omega
theorem most_pos (x:O):0≤most x:=by
 induction x using ind with
 | h0=>rw[most_nil];omega
 | h1 c e r ihe ihr=>rw[mc_];omega
theorem below_cons {e f:O}{c:Int}{r:O}:below e (⟨c,f⟩::r) ↔ Lt f e:=Iff.rfl
theorem below.mono {e f:O}(h:Lt e f):∀ {x:O},below e x→below f x
 | [],_=>trivial
 | ⟨_,_⟩::_,hx=>Lt.trans hx h
theorem below.lt {e:O}:∀ {x:O},below e x→∀ (c:Int) (r:O),Lt x (⟨c,e⟩::r)
 | [],_,_,_=>cmp_nc _ _
 | ⟨_,_⟩::_,hx,_,_=>cmp_lt_e hx _ _ _ _
end OM
namespace OM
def add:O→O→O
 | x,[]=>x
 | [],y=>y
 | ⟨c,e⟩::r,⟨d,f⟩::s=>if cmp e f=1 then⟨c,e⟩::add r (⟨d,f⟩::s) else if cmp e f=0 then⟨c+d,f⟩::s else⟨d,f⟩::s
theorem add_nil (x:O):add x []=x:=by cases x<;>(unfold add;rfl)
theorem nil_add (x:O):add [] x=x:=by cases x<;>(unfold add;rfl)
theorem add_gt {e f:O}(h:Lt f e)(c d:Int)(r s:O):add (⟨c,e⟩::r) (⟨d,f⟩::s)=⟨c,e⟩::add r (⟨d,f⟩::s):=by
 rw[add,h.gt,if_pos rfl]
theorem add_eq (e:O)(c d:Int)(r s:O):add (⟨c,e⟩::r) (⟨d,e⟩::s)=⟨c+d,e⟩::s:=by
 rw[add,cmp_self];rfl
theorem add_lt {e f:O}(h:Lt e f)(c d:Int)(r s:O):add (⟨c,e⟩::r) (⟨d,f⟩::s)=⟨d,f⟩::s:=by
 rw[add,cmp_lt h];rfl
theorem add_cmp:∀ {x y z:O},NF y→NF z→cmp (add x y) (add x z)=cmp y z:=by
 intro x
 induction x with
 | nil=>intro y z _ _;rw[nil_add,nil_add]
 | cons t r ih =>
  intro y z hy hz
  obtain⟨c,e⟩:=t
  cases y with
  | nil =>
   cases z with
   | nil=>rw[cmp_self,cmp_self]
   | cons v t =>
    obtain⟨g,h⟩:=v
    have hg:=(NF_cons.1 hz).1
    rw[add_nil,cmp_nc]
    rcases tri e h with b | b | b
    ·rw[add_lt b,cmp_lt_e b]
    ·subst b;rw[add_eq,cmp_lt_c (by omega)]
    ·rw[add_gt b,cmp_eq_t]
     have:=@ih [] (⟨g,h⟩::t) hy hz
     rw[add_nil,cmp_nc] at this;exact this
  | cons u s =>
   obtain⟨d,f⟩:=u
   have hd:=(NF_cons.1 hy).1
   cases z with
   | nil =>
    rw[add_nil,cmp_cn]
    rcases tri e f with b | b | b
    ·rw[add_lt b,cmp_gt_e b]
    ·subst b;rw[add_eq,cmp_gt_c (by omega)]
    ·rw[add_gt b,cmp_eq_t]
     have:=@ih (⟨d,f⟩::s) [] hy hz
     rw[add_nil,cmp_cn] at this;exact this
   | cons v t =>
    obtain⟨g,h⟩:=v
    have hg:=(NF_cons.1 hz).1
    rcases tri e f with a | a | a
    ·rw[add_lt a]
     rcases tri e h with b | b | b
     ·rw[add_lt b]
     ·subst b;rw[add_eq,cmp_gt_e a,cmp_gt_e a]
     ·rw[add_gt b,cmp_gt_e a,cmp_gt_e (b.trans a)]
    ·subst a
     rw[add_eq]
     rcases tri e h with b | b | b
     ·rw[add_lt b,cmp_lt_e b,cmp_lt_e b]
     ·subst b;rw[add_eq,cmp_eq_e,cmp_eq_e]
      by_cases k:d<g
      ·rw[if_pos k,if_pos (by omega)]
      ·by_cases k':g<d
       ·rw[if_neg k,if_pos k',if_neg (by omega),if_pos (by omega)]
       ·rw[if_neg k,if_neg k',if_neg (by omega),if_neg (by omega)]
     ·rw[add_gt b,cmp_gt_e b,cmp_gt_c (by omega)]
    ·rw[add_gt a]
     rcases tri e h with b | b | b
     ·rw[add_lt b,cmp_lt_e b,cmp_lt_e (a.trans b)]
     ·subst b;rw[add_eq,cmp_lt_e a,cmp_lt_c (by omega)]
     ·rw[add_gt b,cmp_eq_t];exact ih hy hz
theorem add_below {e:O}:∀ {x y:O},below e x→below e y→below e (add x y):=by
 intro x y hx hy
 cases x with
 | nil=>rw[nil_add];exact hy
 | cons t r =>
  obtain⟨c,f⟩:=t
  cases y with
  | nil=>rw[add_nil];exact hx
  | cons u s =>
   obtain⟨d,g⟩:=u
   rcases tri f g with a | a | a
   ·rw[add_lt a];exact hy
   ·subst a;rw[add_eq];exact hx
   ·rw[add_gt a];exact hx
theorem add_NF:∀ {x y:O},NF x→NF y→NF (add x y):=by
 intro x
 induction x with
 | nil=>intro y _ hy;rw[nil_add];exact hy
 | cons t r ih =>
  intro y hx hy
  obtain⟨c,e⟩:=t
  obtain⟨h1,h2,h3,h4⟩:=NF_cons.1 hx
  cases y with
  | nil=>rw[add_nil];exact hx
  | cons u s =>
   obtain⟨d,f⟩:=u
   obtain⟨g1,g2,g3,g4⟩:=NF_cons.1 hy
   rcases tri e f with a | a | a
   ·rw[add_lt a];exact hy
   ·subst a;rw[add_eq];exact NF_cons.2 ⟨by omega,g2,g3,g4⟩
   ·rw[add_gt a];exact NF_cons.2 ⟨h1,h2,ih h3 hy,add_below h4 a⟩
theorem cons_add {c:Int}{e r y:O}(h:below e y):add (⟨c,e⟩::r) y=⟨c,e⟩::add r y:=by
 cases y with
 | nil=>rw[add_nil,add_nil]
 | cons u s=>obtain⟨d,f⟩:=u;exact add_gt h _ _ _ _
def mul:O→O→O
 | [],_=>[]
 | _,[]=>[]
 | ⟨c,e⟩::r,⟨d,f⟩::s=>if f.isEmpty then⟨c*d,e⟩::r else⟨d,add e f⟩::mul (⟨c,e⟩::r) s
termination_by _ y=>y.length
decreasing_by simp
theorem nil_mul (y:O):mul [] y=[]:=by cases y<;>(unfold mul;rfl)
theorem mul_nil (x:O):mul x []=[]:=by cases x<;>(unfold mul;rfl)
theorem mul_fin (c d:Int)(e r s:O):mul (⟨c,e⟩::r) (⟨d,[]⟩::s)=⟨c*d,e⟩::r:=by rw[mul];rfl
theorem mul_cons {f:O}(h:f≠[])(c d:Int)(e r s:O):mul (⟨c,e⟩::r) (⟨d,f⟩::s)=⟨d,add e f⟩::mul (⟨c,e⟩::r) s:=by
 rw[mul,if_neg];cases f with
 | nil=>exact absurd rfl h
 | cons _ _=>simp
theorem add_lt_add {e f g:O}(hf:NF f)(hg:NF g)(h:Lt f g):Lt (add e f) (add e g):=by
 unfold Lt;rw[add_cmp hf hg];exact h
theorem below_nil_eq {s:O}(h:below [] s):s=[]:=by
 cases s with
 | nil=>rfl
 | cons t r=>obtain⟨c,f⟩:=t;exact absurd h (not_lt_nil _)
theorem mul_head {c d:Int}{e r f s:O}:∃ d' s',mul (⟨c,e⟩::r) (⟨d,f⟩::s)=⟨d',add e f⟩::s':=by
 by_cases h:f=[]
 ·subst h;exact⟨_,_,by rw[mul_fin,add_nil]⟩
 ·exact⟨_,_,mul_cons h _ _ _ _ _⟩
theorem mul_below {c:Int}{e r f z:O}(hf:NF f)(hz:NF z)(h:below f z):below (add e f) (mul (⟨c,e⟩::r) z):=by
 cases z with
 | nil=>rw[mul_nil];trivial
 | cons v t =>
  obtain⟨g,h'⟩:=v
  obtain⟨d',s',k⟩:=@mul_head c g e r h' t
  rw[k]
  exact add_lt_add (NF_cons.1 hz).2.1 hf h
theorem mul_NF:∀ {x y:O},NF x→NF y→NF (mul x y):=by
 intro x y hx
 cases x with
 | nil=>intro _;rw[nil_mul];exact NF_nil
 | cons t r =>
  obtain⟨c,e⟩:=t
  obtain⟨h1,h2,h3,h4⟩:=NF_cons.1 hx
  induction y with
  | nil=>intro _;rw[mul_nil];exact NF_nil
  | cons u s ih =>
   intro hy
   obtain⟨d,f⟩:=u
   obtain⟨g1,g2,g3,g4⟩:=NF_cons.1 hy
   by_cases h:f=[]
   ·subst h;rw[mul_fin];exact NF_cons.2 ⟨by have:=Int.mul_le_mul h1 g1 (by omega) (by omega);omega,h2,h3,h4⟩
   ·rw[mul_cons h];exact NF_cons.2 ⟨g1,add_NF h2 g2,ih g3,mul_below g2 g3 g4⟩
theorem mul_one (x:O):mul x [⟨1,[]⟩]=x:=by
 cases x with
 | nil=>rw[nil_mul]
 | cons t r=>obtain⟨c,e⟩:=t;rw[mul_fin,Int.mul_one]
theorem one_mul:∀ {x:O},NF x→mul [⟨1,[]⟩] x=x:=by
 intro x
 induction x with
 | nil=>intro _;rw[mul_nil]
 | cons u s ih =>
  intro hx
  obtain⟨d,f⟩:=u
  obtain⟨h1,h2,h3,h4⟩:=NF_cons.1 hx
  by_cases k:f=[]
  ·subst k;rw[mul_fin,Int.one_mul,below_nil_eq h4]
  ·rw[mul_cons k,ih h3,nil_add]
end OM
namespace OM
def minus:O→O→O
 | x,[]=>x
 | [],_::_=>[]
 | ⟨c,e⟩::r,⟨d,f⟩::s=>if cmp e f=1 then⟨c,e⟩::r else if d<c then⟨c-d,e⟩::r else minus r s
theorem minus_nil (x:O):minus x []=x:=by cases x<;>(unfold minus;rfl)
theorem nil_minus (y:O):minus [] y=[]:=by cases y<;>(unfold minus;rfl)
theorem minus_gt {e f:O}(h:Lt f e)(c d:Int)(r s:O):minus (⟨c,e⟩::r) (⟨d,f⟩::s)=⟨c,e⟩::r:=by rw[minus,h.gt,if_pos rfl]
theorem minus_gtc {c d:Int}(h:d<c)(e r s:O):minus (⟨c,e⟩::r) (⟨d,e⟩::s)=⟨c-d,e⟩::r:=by rw[minus,cmp_self,if_neg (by omega),if_pos h]
theorem minus_eq (c:Int)(e r s:O):minus (⟨c,e⟩::r) (⟨c,e⟩::s)=minus r s:=by rw[minus,cmp_self,if_neg (by omega),if_neg (by omega)]
theorem ge_ways {c d:Int}{e f r s:O}(h:0≤cmp (⟨c,e⟩::r) (⟨d,f⟩::s)):Lt f e∨(e=f∧d<c)∨(e=f∧c=d∧0≤cmp r s):=by
 rcases tri e f with a | a | a
 ·rw[cmp_lt_e a] at h;omega
 ·subst a
  rw[cmp_eq_e] at h
  by_cases k:c<d
  ·rw[if_pos k] at h;omega
  ·rw[if_neg k] at h
   by_cases k':d<c
   ·exact .inr (.inl ⟨rfl,k'⟩)
   ·rw[if_neg k'] at h;exact .inr (.inr ⟨rfl,by omega,h⟩)
 ·exact .inl a
theorem minus_below {g:O}:∀ {x y:O},NF x→below g x→below g (minus x y):=by
 intro x
 induction x with
 | nil=>intro y _ _;rw[nil_minus];trivial
 | cons t r ih =>
  intro y hx hb
  obtain⟨c,e⟩:=t
  obtain⟨h1,h2,h3,h4⟩:=NF_cons.1 hx
  cases y with
  | nil=>rw[minus_nil];exact hb
  | cons u s =>
   obtain⟨d,f⟩:=u
   rw[minus]
   split
   ·exact hb
   ·split
    ·exact hb
    ·exact ih h3 (below.mono hb h4)
theorem minus_NF:∀ {x y:O},NF x→NF (minus x y):=by
 intro x
 induction x with
 | nil=>intro y _;rw[nil_minus];exact NF_nil
 | cons t r ih =>
  intro y hx
  obtain⟨c,e⟩:=t
  obtain⟨h1,h2,h3,h4⟩:=NF_cons.1 hx
  cases y with
  | nil=>rw[minus_nil];exact hx
  | cons u s =>
   obtain⟨d,f⟩:=u
   rw[minus]
   split
   ·exact hx
   ·split
    ·exact NF_cons.2 ⟨by omega,h2,h3,h4⟩
    ·exact ih h3
theorem size_minus:∀ x y:O,size (minus x y)≤size x:=by
 intro x
 induction x with
 | nil=>intro y;rw[nil_minus];omega
 | cons t r ih =>
  intro y
  obtain⟨c,e⟩:=t
  cases y with
  | nil=>rw[minus_nil];omega
  | cons u s =>
   obtain⟨d,f⟩:=u
   rw[minus]
   have:=ih s
   have:=sp_ e
   split
   ·omega
   ·split
    ·rw[sc_,sc_];omega
    ·rw[sc_];omega
theorem add_minus:∀ {x y:O},NF x→0≤cmp x y→add y (minus x y)=x:=by
 intro x
 induction x with
 | nil=>intro y _ h;cases y with
  | nil=>rw[minus_nil,nil_add]
  | cons u s=>rw[cmp_nc] at h;omega
 | cons t r ih =>
  intro y hx h
  obtain⟨c,e⟩:=t
  obtain⟨h1,h2,h3,h4⟩:=NF_cons.1 hx
  cases y with
  | nil=>rw[minus_nil,nil_add]
  | cons u s =>
   obtain⟨d,f⟩:=u
   rcases ge_ways h with a | ⟨a,b⟩ | ⟨a,b,k⟩
   ·rw[minus_gt a,add_lt a]
   ·subst a;rw[minus_gtc b,add_eq];congr 2;omega
   ·subst a;subst b;rw[minus_eq,cons_add (minus_below h3 h4),ih h3 k]
theorem minus_ne_nil {x y:O}(hx:NF x)(h:Lt y x):minus x y≠[]:=by
 intro e
 have:=add_minus hx (x:=x) (y:=y) (by rw[h.gt];omega)
 rw[e,add_nil] at this
 exact h.ne this
def divB (x y:O):O × O :=
 match x,y with
 | ⟨c,e⟩::r,⟨d,f⟩::s =>
  if cmp e f=0 then
   let n:=c / d
   let n:=if 0<n∧cmp (⟨c,e⟩::r) (mul (⟨d,f⟩::s) [⟨n,[]⟩])<0 then n-1 else n
   if 0<n then([⟨n,[]⟩],minus (⟨c,e⟩::r) (mul (⟨d,f⟩::s) [⟨n,[]⟩])) else([],⟨c,e⟩::r)
  else([],⟨c,e⟩::r)
 | x,_=>([],x)
def div:O→O→O × O
 | ⟨c,e⟩::r,⟨d,f⟩::s=>if cmp e f=1 then(⟨c,minus e f⟩::(div r (⟨d,f⟩::s)).1,(div r (⟨d,f⟩::s)).2) else divB (⟨c,e⟩::r) (⟨d,f⟩::s)
 | x,_=>([],x)
structure IsDiv (x y:O)(p:O × O):Prop where
 sum:add (mul y p.1) p.2=x
 lt:Lt p.2 y
 nf:NF p.1
 nf2:NF p.2
theorem divB_le {e f:O}(h:Lt e f)(c d:Int)(r s:O):divB (⟨c,e⟩::r) (⟨d,f⟩::s)=([],⟨c,e⟩::r):=by
 unfold divB;simp only;rw[if_neg (by rw[h];omega)]
theorem div_is:∀ {x y:O},NF x→NF y→y≠[]→IsDiv x y (div x y):=by
 intro x y
 cases y with
 | nil=>intro _ _ h;exact absurd rfl h
 | cons u s =>
 obtain⟨d,f⟩:=u
 induction x with
 | nil=>intro _ hy _;unfold div;exact⟨by rw[mul_nil,nil_add],cmp_nc _ _,NF_nil,NF_nil⟩
 | cons t r ih =>
  intro hx hy hn
  obtain⟨c,e⟩:=t
  obtain⟨h1,h2,h3,h4⟩:=NF_cons.1 hx
  obtain⟨g1,g2,g3,g4⟩:=NF_cons.1 hy
  rw[div]
  rcases tri e f with a | a | a
  ·rw[if_neg (by rw[a];omega),divB_le a]
   exact⟨by rw[mul_nil,nil_add],cmp_lt_e a _ _ _ _,NF_nil,hx⟩
  ·subst a
   rw[if_neg (by rw[cmp_self];omega)]
   unfold divB;simp only
   rw[if_pos (cmp_self e),mul_fin]
   generalize hn0:c / d=n0
   have q1:d*n0≤c:=by rw[← hn0];exact Int.mul_ediv_self_le (by omega)
   have q2:c<d*n0+d:=by rw[← hn0];exact Int.lt_mul_ediv_self_add (by omega)
   have q0:0≤n0:=by rw[← hn0];exact Int.ediv_nonneg (by omega) (by omega)
   have fin:∀ n,0≤n→0≤cmp (⟨c,e⟩::r) (⟨d*n,e⟩::s)∨n=0→(n=0→Lt (⟨c,e⟩::r) (⟨d,e⟩::s))→(0<n→Lt (minus (⟨c,e⟩::r) (⟨d*n,e⟩::s)) (⟨d,e⟩::s)) →
    IsDiv (⟨c,e⟩::r) (⟨d,e⟩::s) (if 0<n then([⟨n,[]⟩],minus (⟨c,e⟩::r) (mul (⟨d,e⟩::s) [⟨n,[]⟩])) else([],⟨c,e⟩::r)):=by
    intro n hn hg hz hp
    by_cases k:0<n
    ·rw[if_pos k,mul_fin]
     have hg':0≤cmp (⟨c,e⟩::r) (⟨d*n,e⟩::s):=by rcases hg with hg | hg<;>omega
     exact⟨by rw[mul_fin];exact add_minus hx hg',hp k,NF_cons.2 ⟨by omega,NF_nil,NF_nil,trivial⟩,minus_NF hx⟩
    ·rw[if_neg k]
     exact⟨by rw[mul_nil,nil_add],hz (by omega),NF_nil,hx⟩
   have rest:∀ n,0<n→d*n<c→c<d*n+d→Lt (minus (⟨c,e⟩::r) (⟨d*n,e⟩::s)) (⟨d,e⟩::s):=by
    intro n _ k1 k2
    rw[minus_gtc k1];exact cmp_lt_c (by omega) _ _ _
   by_cases k:0<n0∧cmp (⟨c,e⟩::r) (⟨d*n0,e⟩::s)<0
   ·rw[if_pos k]
    obtain⟨k0,k⟩:=k
    have hd:d*(n0-1)=d*n0-d:=by rw[Int.mul_sub,Int.mul_one]
    rw[cmp_eq_e] at k
    have hcd:c=d*n0:=by
     rcases Int.lt_trichotomy c (d*n0) with z | z | z
     ·omega
     ·exact z
     ·rw[if_neg (by omega),if_pos z] at k;omega
    have hrs:Lt r s:=by
     rw[if_neg (by omega),if_neg (by omega)] at k
     rcases cmp_range r s with z | z | z
     ·exact z
     ·omega
     ·omega
    refine fin (n0-1) (by omega) (.inl ?_) (fun z=>?_) (fun z=>?_)
    ·rw[cmp_gt_c (by omega)];omega
    ·have:n0=1:=by omega
     subst this
     have:c=d:=by omega
     subst this
     show cmp _ _=-1
     rw[cmp_eq_t];exact hrs
    ·rw[minus_gtc (by omega)]
     have:c-d*(n0-1)=d:=by omega
     rw[this]
     show cmp _ _=-1
     rw[cmp_eq_t];exact hrs
   ·rw[if_neg k]
    refine fin n0 q0 ?_ (fun z=>?_) (fun z=>?_)
    ·by_cases z:0<n0
     ·exact .inl (by have : ¬ cmp (⟨c, e⟩ :: r) (⟨d * n0, e⟩ :: s) < 0 := fun h => k ⟨z, h⟩
                     omega)
     ·exact .inr (by omega)
    ·subst z
     exact cmp_lt_c (by omega) _ _ _
    ·have hge:¬ cmp (⟨c,e⟩::r) (⟨d*n0,e⟩::s)<0:=fun h=>k ⟨z,h⟩
     by_cases z':d*n0<c
     ·exact rest n0 z z' q2
     ·have:d*n0=c:=by omega
      rw[this,minus_eq]
      exact below.lt (minus_below h3 h4) _ _
  ·rw[if_pos a.gt]
   have ih:=ih h3 hy hn
   have hm:=minus_ne_nil h2 a
   have hl:below e (div r (⟨d,f⟩::s)).2:=by
    have:=ih.lt
    generalize (div r (⟨d,f⟩::s)).2=l at this
    cases l with
    | nil=>trivial
    | cons t' r' =>
     obtain⟨c',e'⟩:=t'
     rcases tri e' f with z | z | z
     ·exact z.trans a
     ·subst z;exact a
     ·exact absurd (cmp_gt_e z c' d r' s) (by rw[this];omega)
   refine⟨?_,ih.lt,NF_cons.2 ⟨h1,minus_NF h2,ih.nf,?_⟩,ih.nf2⟩
   ·rw[mul_cons hm,add_minus h2 (by rw[a.gt];omega),cons_add hl,ih.sum]
   ·-- the exponents of the quotient are less and less
    have hs:=ih.sum
    have hr:below e r:=h4
    have hq:=ih.nf
    generalize (div r (⟨d,f⟩::s)).1=q at hs hq ⊢
    generalize (div r (⟨d,f⟩::s)).2=l at hs
    cases q with
    | nil=>trivial
    | cons v q' =>
     obtain⟨g,k⟩:=v
     obtain⟨d1,s1,k1⟩:=@mul_head d g f s k q'
     have hk:Lt (add f k) e:=by
      rw[k1] at hs
      cases l with
      | nil=>rw[add_nil] at hs;rw[← hs] at hr;exact hr
      | cons v' l' =>
       obtain⟨g',k'⟩:=v'
       rcases tri (add f k) k' with z | z | z
       ·rw[add_lt z] at hs;rw[← hs] at hr;exact z.trans hr
       ·subst z;rw[add_eq] at hs;rw[← hs] at hr;exact hr
       ·rw[add_gt z] at hs;rw[← hs] at hr;exact hr
     have he:=add_minus h2 (y:=f) (by rw[a.gt];omega)
     rw[← he] at hk
     have hkn:NF k:=(NF_cons.1 hq).2.1
     unfold Lt at hk
     rw[add_cmp hkn (minus_NF h2)] at hk
     exact hk
end OM
namespace OM
end OM
namespace OM
def bef:O→O
 | []=>[]
 | [⟨c,e⟩]=>if c=1 then [] else [⟨c-1,e⟩]
 | t::u::r=>t::bef (u::r)
def kind:O→Int
 | []=>0
 | [⟨_,e⟩]=>if e.isEmpty then 1 else 2
 | _::u::r=>kind (u::r)
def step (n:Int):O→O
 | []=>[]
 | [⟨c,e⟩]=>(if c=1 then [] else [⟨c-1,e⟩])++(if kind e=2 then [⟨1,step n e⟩] else if kind e=1∧0<n then [⟨n,bef e⟩] else [])
 | t::u::r=>t::step n (u::r)
end OM
namespace OM
end OM
namespace OM
def Tl {α:Type}(g:Nat→Option α)(r:α):Prop:=∃ K,∀ k,K≤k→g k=some r
section
variable {α β:Type}{a:α}{r:β}
theorem Tl.w (r:α):Tl (fun _=>some r) r:=⟨0,fun _ _=>rfl⟩
theorem Tl.c {x:Option α}(h:x=some a):Tl (fun _=>x) a:=⟨0,fun _ _=>h⟩
theorem Tl.rounds {g:Nat→Option α}(h:Tl g a):∃ k,g k=some a:=by
 obtain⟨K,h⟩:=h
 exact⟨K,h K (Nat.le_refl _)⟩
theorem Tl.b {g:Nat→Option α}{f:Nat→α→Option β}(h:Tl g a)(e:Tl (fun k=>f k a) r):Tl (fun k=>(g k).bind (f k)) r:=by
 obtain⟨K,h⟩:=h
 obtain⟨M,e⟩:=e
 refine⟨max K M,fun k hk=>?_⟩
 show (g k).bind (f k)=some r
 rw[h k (by omega)]
 exact e k (by omega)
theorem Tl.d {f:Nat→α→Option β}(e:Tl (fun k=>f k a) r):Tl (fun k=>(some a).bind (f k)) r:=e
theorem Tl.s {g f:Nat→Option α}(h:∀ k,g (k+1)=f k)(e:Tl f a):Tl g a:=by
 obtain⟨K,e⟩:=e
 refine⟨K+1,fun k hk=>?_⟩
 obtain⟨m,rfl⟩:∃ m,k=m+1:=⟨k-1,by omega⟩
 rw[h];exact e m (by omega)
theorem Tl.p {c:Prop}[Decidable c]{f g:Nat→Option α}(h:c)(e:Tl f a):Tl (fun k=>if c then f k else g k) a:=by
 obtain⟨K,e⟩:=e
 exact⟨K,fun k hk=>by show (if c then f k else g k)=some a;rw[if_pos h];exact e k hk⟩
theorem Tl.n {c:Prop}[Decidable c]{f g:Nat→Option α}(h:¬ c)(e:Tl g a):Tl (fun k=>if c then f k else g k) a:=by
 obtain⟨K,e⟩:=e
 exact⟨K,fun k hk=>by show (if c then f k else g k)=some a;rw[if_neg h];exact e k hk⟩
theorem Tl.to {g:Nat→Option α}{b:α}(h:Tl g b)(e:b=a):Tl g a:=e ▸ h
theorem Tl.congr {g f:Nat→Option α}(h:∀ k,g k=f k)(e:Tl f a):Tl g a:=by
 obtain⟨K,e⟩:=e
 exact⟨K,fun k hk=>by rw[h];exact e k hk⟩
end
def flat:O→List Int
 | []=>[]
 | ⟨c,e⟩::r=>c::(((e.length:Int)::flat e)++flat r)
def row (x:O):List Int:=(x.length:Int)::flat x
theorem flat_nil:flat []=[]:=by unfold flat;rfl
theorem flat_cons (c:Int)(e r:O):flat (⟨c,e⟩::r)=c::(row e++flat r):=by rw[flat];rfl
theorem row_nil:row []=[0]:=by unfold row;rw[flat_nil];rfl
theorem flat_length (x:O):((flat x).length:Int)=size x-1:=by
 induction x using ind with
 | h0=>rw[flat_nil,sn_];rfl
 | h1 c e r ihe ihr=>rw[flat_cons,sc_];unfold row;simp only[List.length_cons,List.length_append];omega
theorem rl_ (x:O):((row x).length:Int)=size x:=by
 have:=flat_length x
 unfold row;simp only[List.length_cons];omega
theorem ll_ (x:O):2*(x.length:Int)≤size x-1:=by
 induction x with
 | nil=>rw[sn_];simp
 | cons t r ih=>obtain⟨c,e⟩:=t;have:=sp_ e;rw[sc_];simp only[List.length_cons];omega
def late (last:Option O)(e:O):Bool:=match last with
 | none=>false
 | some f=>decide (0≤cmp e f)
def terms (tk:List Int→Option (O × List Int)):Nat→Option O→List Int→Option (O × List Int)
 | 0,_,l=>some ([],l)
 | _+1,_,[]=>none
 | c+1,last,t::l =>
  if 1≤t∧t≤9999 then
   match tk l with
   | none=>none
   | some (e,l')=>if late last e=true then none else
    match terms tk c (some e) l' with
    | none=>none
    | some (r,l'')=>some (⟨t,e⟩::r,l'')
  else none
def take:Nat→List Int→Option (O × List Int)
 | 0,_=>none
 | _+1,[]=>none
 | n+1,m::l=>if 0≤m∧m≤60 then terms (take n) m.toNat none l else none
def Good (tk:List Int→Option (O × List Int)):Prop:=∀ l x l',tk l=some (x,l')→l=row x++l'∧NF x∧most x≤9999
theorem terms_good {tk:List Int→Option (O × List Int)}(htk:Good tk):∀ {c:Nat} {last:Option O} {l l':List Int} {r:O},terms tk c last l=some (r,l') →
 l=flat r++l'∧NF r∧most r≤9999∧r.length=c∧∀ f,last=some f→below f r:=by
 intro c
 induction c with
 | zero =>
  intro last l l' r h
  unfold terms at h
  injection h with h
  injection h with h1 h2
  subst h1;subst h2
  exact⟨by rw[flat_nil];rfl,NF_nil,by rw[most_nil];omega,rfl,fun _ _=>trivial⟩
 | succ c ih =>
  intro last l l' r h
  cases l with
  | nil=>unfold terms at h;cases h
  | cons t l =>
   rw[terms] at h
   split at h
   ·next ht =>
    split at h
    ·cases h
    ·next e l1 he =>
     obtain⟨a1,a2,a3⟩:=htk _ _ _ he
     split at h
     ·cases h
     ·next hl =>
      split at h
      ·cases h
      ·next r' l2 hr =>
       injection h with h
       injection h with h1 h2
       subst h1;subst h2
       obtain⟨b1,b2,b3,b4,b5⟩:=ih hr
       refine⟨?_,NF_cons.2 ⟨ht.1,a2,b2,b5 e rfl⟩,?_,by simp[b4],fun f hf=>?_⟩
       ·rw[a1,b1,flat_cons];simp
       ·rw[mc_];omega
       ·subst hf
        unfold late at hl
        simp only[decide_eq_true_eq] at hl
        have:=cmp_range e f
        show cmp e f=-1
        omega
   ·cases h
theorem take_good (n:Nat):Good (take n):=by
 induction n with
 | zero=>intro l x l' h;unfold take at h;cases h
 | succ n ih =>
  intro l x l' h
  cases l with
  | nil=>unfold take at h;cases h
  | cons m l =>
   rw[take] at h
   split at h
   ·next hm =>
    obtain⟨a1,a2,a3,a4,_⟩:=terms_good ih h
    refine⟨?_,a2,a3⟩
    rw[a1]
    have:m=(x.length:Int):=by rw[a4];omega
    rw[this];rfl
   ·cases h
theorem take_len {n:Nat}{l l':List Int}{x:O}(h:take n l=some (x,l')):l'.length<l.length:=by
 obtain⟨a,_,_⟩:=take_good n _ _ _ h
 rw[a];unfold row;simp;omega
theorem terms_full {n:Nat}(ih:∀ x l,NF x→most x≤9999→(size x≤60)→size x<n→take n (row x++l)=some (x,l)) :
 ∀ (r:O) (last:Option O) (l:List Int),NF r→most r≤9999→size r≤60→size r≤n→(∀ f,last=some f→below f r)→terms (take n) r.length last (flat r++l)=some (r,l):=by
 intro r
 induction r with
 | nil=>intro last l _ _ _ _ _;rw[flat_nil];unfold terms;rfl
 | cons t r ihr =>
  intro last l h1 h2 h3 h4 h5
  obtain⟨c,e⟩:=t
  obtain⟨a1,a2,a3,a4⟩:=NF_cons.1 h1
  rw[mc_] at h2
  rw[sc_] at h3 h4
  have:=sp_ r
  have:=sp_ e
  rw[flat_cons]
  simp only[List.length_cons,List.cons_append,List.append_assoc]
  rw[terms,if_pos ⟨a1,by omega⟩,ih e _ a2 (by omega) (by omega) (by omega)]
  simp only
  have hl:¬ late last e=true:=by
   unfold late
   cases last with
   | none=>simp
   | some f =>
    have:=h5 f rfl
    simp only[decide_eq_true_eq]
    rw[below_cons] at this
    rw[this];omega
  rw[if_neg hl,ihr (some e) l a3 (by omega) (by omega) (by omega) (fun f hf=>by injection hf with hf;subst hf;exact a4)]
theorem take_full:∀ (n:Nat) (x:O) (l:List Int),NF x→most x≤9999→size x≤60→size x<n→take n (row x++l)=some (x,l):=by
 intro n
 induction n with
 | zero=>intro x l _ _ _ h;have:=sp_ x;omega
 | succ n ih =>
  intro x l h1 h2 h3 h4
  have:=ll_ x
  unfold row
  rw[List.cons_append,take,if_pos ⟨by omega,by omega⟩,Int.toNat_natCast]
  exact terms_full (fun x l a b c d=>ih x l a b c d) x none l h1 h2 h3 (by omega) (fun f hf=>by cases hf)
def Vd (x:O):Prop:=NF x∧most x≤9999∧size x≤60
theorem Vd_cons {c:Int}{e r:O}(h:Vd (⟨c,e⟩::r)):Vd e∧Vd r∧1≤c∧c≤9999:=by
 obtain⟨h1,h2,h3⟩:=h
 obtain⟨g1,g2,g3,g4⟩:=NF_cons.1 h1
 rw[mc_] at h2
 rw[sc_] at h3
 have:=sp_ e
 have:=sp_ r
 exact⟨⟨g2,by omega,by omega⟩,⟨g3,by omega,by omega⟩,g1,by omega⟩
theorem Vd_nil:Vd []:=⟨NF_nil,by rw[most_nil];omega,by rw[sn_];omega⟩
theorem Vd.size {x:O}(h:Vd x):size x≤60:=h.2.2
def ordOf (l:List Int):Option O:=if 1≤l.length∧l.length≤60 then(match take 61 l with | some (x,[])=>some x | _=>none) else none
theorem os_ {l:List Int}{x:O}(h:ordOf l=some x):l=row x∧Vd x:=by
 unfold ordOf at h
 split at h
 ·next hl =>
  split at h
  ·next y he =>
   injection h with h
   subst h
   obtain⟨a1,a2,a3⟩:=take_good _ _ _ _ he
   rw[List.append_nil] at a1
   have:=rl_ y
   rw[← a1] at this
   exact⟨a1,a2,a3,by omega⟩
  ·cases h
 ·cases h
theorem or_ {x:O}(h:Vd x):ordOf (row x)=some x:=by
 obtain⟨h1,h2,h3⟩:=h
 have h4:=rl_ x
 have h5:=sp_ x
 have h6:=take_full 61 x [] h1 h2 h3 (by omega)
 rw[List.append_nil] at h6
 unfold ordOf
 rw[if_pos ⟨by omega,by omega⟩,h6]
end OM
namespace Go.Proofs.Ytfblcanijhnhmaa.P
open OM Go.RowKit Go.Proofs.YtfblcanijhnhmaaW.PrintWords Go.Proofs.YtfblcanijhnhmaaW.PrintLast Go.Proofs.YtfblcanijhnhmaaW.PrintMore
set_option linter.unusedVariables false
theorem wi_ {i:Int}(h0:-9000000000000000000≤i)(h:i≤9000000000000000000):wrap64 i=i:=by unfold wrap64;omega
theorem getD_mid {α:Type}(p s:List α)(c d:α){i:Int}(hi:i=(p.length:Int)):(p++c::s).getD i.toNat d=c:=by subst hi;simp
theorem rd_mid (p s:List Int)(c:Int){i:Int}(hi:i=(p.length:Int)):rd (p++c::s) i=c:=getD_mid p s c 0 hi
theorem rdT_mid (p s:O)(c:Tm){i:Int}(hi:i=(p.length:Int)):rd_T61 (p++c::s) i=c:=getD_mid p s c _ hi
theorem rdL_mid (p s:List (List Int))(c:List Int){i:Int}(hi:i=(p.length:Int)):rd_L2 (p++c::s) i=c:=getD_mid p s c _ hi
theorem snoc {α:Type}(p s:List α)(c:α):p++c::s=(p++[c])++s:=by simp
theorem sa_ (p r:O):size (p++r)=size p+size r-1:=by
 induction p with
 | nil=>rw[sn_];show size r=_;omega
 | cons t p ih=>obtain⟨c,e⟩:=t;show size (⟨c,e⟩::(p++r))=_;rw[sc_,sc_,ih];omega
theorem cmpInt (a b:Int):cmp_Compare_int.f a b=some (if a<b then -1 else if b<a then 1 else 0):=by
 unfold cmp_Compare_int.f cmp_isNaN_int.f
 simp only[Option.bind_some,bne_self_eq_false,Bool.false_eq_true,if_false]
 split
 ·rfl
 ·split<;>rfl
theorem compare_f (k:Nat)(x y:O):impl_compare.f (k+1) x y=impl_compare.l0 k x y 0:=by rw[impl_compare.f]
theorem compare_l:∀ (r p q s:O),p.length=q.length→size (p++r)≤10000000000→size (q++s)≤10000000000→Tl (fun k=>impl_compare.l0 k (p++r) (q++s) (p.length:Int)) (cmp r s):=by
 intro r
 induction r using ind with
 | h0 =>
  intro p q s hl h1 h2
  have hs:=ll_ (p++[])
  have hq:=ll_ (q++s)
  refine Tl.s (fun k=>by rw[impl_compare.l0]) ?_
  refine Tl.n (by simp) ?_
  refine Tl.s (fun k=>by rw[impl_compare.j1]) ?_
  refine Tl.n (by simp) ?_
  refine Tl.b (Tl.c (cmpInt _ _)) ?_
  refine Tl.to (Tl.w _) ?_
  simp only[List.length_append,List.length_nil,Nat.add_zero]
  cases s with
  | nil=>rw[cmp_nn,if_neg (by simp;omega),if_neg (by simp;omega)]
  | cons t s=>rw[cmp_nc,if_pos (by simp;omega)]
 | h1 c e r ihe ihr =>
  intro p q s hl h1 h2
  have hp:=ll_ p
  have hs:=ll_ (p++(⟨c,e⟩::r))
  have hq:=ll_ (q++s)
  refine Tl.s (fun k=>by rw[impl_compare.l0]) ?_
  refine Tl.p (by simp;omega) ?_
  refine Tl.s (fun k=>by rw[impl_compare.j1]) ?_
  cases s with
  | nil =>
   refine Tl.n (by simp;omega) ?_
   refine Tl.b (Tl.c (cmpInt _ _)) ?_
   refine Tl.to (Tl.w _) ?_
   rw[cmp_cn,if_neg (by simp;omega),if_pos (by simp;omega)]
  | cons t s =>
   obtain⟨d,f⟩:=t
   refine Tl.p (by simp;omega) ?_
   refine Tl.p (by omega) ?_
   refine Tl.p (by simp;omega) ?_
   refine Tl.p (by simp;omega) ?_
   rw[rdT_mid p r ⟨c,e⟩ rfl,rdT_mid q s ⟨d,f⟩ (by rw[hl])]
   have z1:=h1
   have z2:=h2
   rw[sa_,sc_] at z1 z2
   have:=sp_ r
   have:=sp_ s
   have:=sp_ p
   have:=sp_ q
   have:=sp_ e
   have:=sp_ f
   refine Tl.b (Tl.s (fun k=>compare_f k e f) (ihe [] [] f rfl (by show size e≤_;omega) (by show size f≤_;omega))) ?_
   show Tl (fun k=>if cmp e f=0 then _ else _) _
   rw[cmp_cc]
   by_cases z:cmp e f=0
   ·refine Tl.p z ?_
    rw[if_pos z]
    refine Tl.b (Tl.c (cmpInt _ _)) ?_
    by_cases a:c<d
    ·rw[if_pos a,if_pos a]
     exact Tl.n (by omega) (Tl.w _)
    ·by_cases b:d<c
     ·rw[if_neg a,if_pos b,if_neg a,if_pos b]
      exact Tl.n (by omega) (Tl.w _)
     ·rw[if_neg a,if_neg b,if_neg a,if_neg b]
      refine Tl.p rfl ?_
      rw[snoc p,snoc q,wi_ (by omega) (by omega)]
      have:=ihr (p++[⟨c,e⟩]) (q++[⟨d,f⟩]) s (by simp[hl]) (by rw[← snoc];exact h1) (by rw[← snoc];exact h2)
      rw[show ((p++[(⟨c,e⟩:Tm)]).length:Int)=(p.length:Int)+1 by simp] at this
      exact this
   ·refine Tl.n z ?_
    rw[if_neg z]
    exact Tl.w _
theorem compare_ev {x y:O}(hx:size x≤10000000000)(hy:size y≤10000000000):Tl (fun k=>impl_compare.f k x y) (cmp x y) :=
 Tl.s (fun k=>compare_f k x y) (compare_l x [] [] y rfl hx hy)
theorem rowOf_f (k:Nat)(x:O):impl_rowOf.f (k+1) x=impl_rowOf.l0 k [(x.length:Int)] x (x.length:Int) 0:=by rw[impl_rowOf.f]
theorem rowOf_l:∀ (r p:O) (acc:List Int),size (p++r)≤10000000000→(acc.length:Int)+size r≤20000000000→Tl (fun k=>impl_rowOf.l0 k acc (p++r) ((p++r).length:Int) (p.length:Int)) (acc++flat r):=by
 intro r
 induction r using ind with
 | h0 =>
  intro p acc h1 h2
  refine Tl.s (fun k=>by rw[impl_rowOf.l0]) ?_
  refine Tl.n (by simp) ?_
  refine Tl.to (Tl.w _) ?_
  rw[flat_nil,List.append_nil]
 | h1 c e r ihe ihr =>
  intro p acc h1 h2
  have hp:=ll_ p
  have z1:=h1
  rw[sa_,sc_] at z1
  rw[sc_] at h2
  have:=sp_ r
  have:=sp_ p
  have:=sp_ e
  refine Tl.s (fun k=>by rw[impl_rowOf.l0]) ?_
  refine Tl.p (by simp;omega) ?_
  refine Tl.p (by omega) ?_
  refine Tl.p (by simp;omega) ?_
  refine Tl.p (by omega) ?_
  refine Tl.d ?_
  rw[rdT_mid p r ⟨c,e⟩ rfl]
  refine Tl.b (Tl.s (fun k=>rowOf_f k e) (ihe [] [(e.length:Int)] (by show size e≤_;omega) (by simp;omega))) ?_
  have hl:=rl_ e
  have he:([(e.length:Int)]++flat e)=row e:=rfl
  rw[he]
  refine Tl.p (by simp only[List.length_append,List.length_cons,List.length_nil];omega) ?_
  rw[wi_ (by omega) (by omega),snoc p]
  have:=ihr (p++[⟨c,e⟩]) (acc++[c]++row e) (by rw[← snoc];exact h1) (by simp only[List.length_append,List.length_cons,List.length_nil];omega)
  rw[show ((p++[(⟨c,e⟩:Tm)]).length:Int)=(p.length:Int)+1 by simp] at this
  refine Tl.to this ?_
  rw[flat_cons];simp
theorem rowOf_ev {x:O}(hx:size x≤10000000000):Tl (fun k=>impl_rowOf.f k x) (row x) :=
 Tl.s (fun k=>rowOf_f k x) (rowOf_l x [] [(x.length:Int)] hx (by simp;omega))
theorem sizeOf_f (k:Nat)(x:O):impl_sizeOf.f (k+1) x=impl_sizeOf.l0 k 1 x (x.length:Int) 0:=by rw[impl_sizeOf.f]
theorem sizeOf_l:∀ (r p:O) (n:Int),size (p++r)≤10000000000→0≤n→n+size r≤20000000000→Tl (fun k=>impl_sizeOf.l0 k n (p++r) ((p++r).length:Int) (p.length:Int)) (n+size r-1):=by
 intro r
 induction r using ind with
 | h0 =>
  intro p n h1 h2 h3
  refine Tl.s (fun k=>by rw[impl_sizeOf.l0]) ?_
  refine Tl.n (by simp) ?_
  refine Tl.to (Tl.w _) ?_
  rw[sn_];omega
 | h1 c e r ihe ihr =>
  intro p n h1 h2 h3
  have hp:=ll_ p
  have z1:=h1
  rw[sa_,sc_] at z1
  rw[sc_] at h3 ⊢
  have:=sp_ r
  have:=sp_ p
  have:=sp_ e
  refine Tl.s (fun k=>by rw[impl_sizeOf.l0]) ?_
  refine Tl.p (by simp;omega) ?_
  refine Tl.p (by omega) ?_
  refine Tl.p (by simp;omega) ?_
  rw[rdT_mid p r ⟨c,e⟩ rfl]
  refine Tl.b (Tl.s (fun k=>sizeOf_f k e) (ihe [] 1 (by show size e≤_;omega) (by omega) (by omega))) ?_
  rw[wi_ (i:=(p.length:Int)+1) (by omega) (by omega),wi_ (i:=1+(1+size e-1)) (by omega) (by omega),wi_ (i:=n+(1+(1+size e-1))) (by omega) (by omega),snoc p]
  have:=ihr (p++[⟨c,e⟩]) (n+(1+(1+size e-1))) (by rw[← snoc];exact h1) (by omega) (by omega)
  rw[show ((p++[(⟨c,e⟩:Tm)]).length:Int)=(p.length:Int)+1 by simp] at this
  exact Tl.to this (by omega)
theorem sizeOf_ev {x:O}(hx:size x≤10000000000):Tl (fun k=>impl_sizeOf.f k x) (size x) :=
 Tl.to (Tl.s (fun k=>sizeOf_f k x) (sizeOf_l x [] 1 hx (by omega) (by omega))) (by omega)
theorem mx_max (a b:Int):mx a b=max a b:=by unfold mx;omega
theorem most_f (k:Nat)(x:O):impl_most.f (k+1) x=impl_most.l0 k 0 x (x.length:Int) 0:=by rw[impl_most.f]
theorem most_l:∀ (r p:O) (n:Int),size (p++r)≤10000000000→0≤n→Tl (fun k=>impl_most.l0 k n (p++r) ((p++r).length:Int) (p.length:Int)) (max n (most r)):=by
 intro r
 induction r using ind with
 | h0 =>
  intro p n h1 h2
  refine Tl.s (fun k=>by rw[impl_most.l0]) ?_
  refine Tl.n (by simp) ?_
  refine Tl.to (Tl.w _) ?_
  rw[most_nil];omega
 | h1 c e r ihe ihr =>
  intro p n h1 h2
  have hp:=ll_ p
  have z1:=h1
  rw[sa_,sc_] at z1
  have:=sp_ r
  have:=sp_ p
  have:=sp_ e
  have:=most_pos e
  refine Tl.s (fun k=>by rw[impl_most.l0]) ?_
  refine Tl.p (by simp;omega) ?_
  refine Tl.p (by omega) ?_
  refine Tl.p (by simp;omega) ?_
  rw[rdT_mid p r ⟨c,e⟩ rfl]
  refine Tl.b (Tl.s (fun k=>most_f k e) (ihe [] 0 (by show size e≤_;omega) (by omega))) ?_
  rw[wi_ (i:=(p.length:Int)+1) (by omega) (by omega),mx_max,mx_max,snoc p]
  have:=ihr (p++[⟨c,e⟩]) (max (max n c) (max 0 (most e))) (by rw[← snoc];exact h1) (by omega)
  rw[show ((p++[(⟨c,e⟩:Tm)]).length:Int)=(p.length:Int)+1 by simp] at this
  refine Tl.to this ?_
  rw[mc_];omega
theorem most_ev {x:O}(hx:size x≤10000000000):Tl (fun k=>impl_most.f k x) (most x) :=
 Tl.to (Tl.s (fun k=>most_f k x) (most_l x [] 0 hx (by omega))) (by have:=most_pos x;omega)
def toldv (x:O):List Int × Bool:=if size x≤60∧most x≤9999 then(row x,true) else([],false)
theorem told_ev {x:O}(hx:size x≤10000000000):Tl (fun k=>impl_told.f k x) (toldv x):=by
 unfold toldv
 refine Tl.b (sizeOf_ev hx) ?_
 by_cases h:size x>60
 ·refine Tl.p h ?_
  refine Tl.s (fun k=>by rw[impl_told.j0]) ?_
  refine Tl.p rfl ?_
  rw[if_neg (by omega)];exact Tl.w _
 ·refine Tl.n h ?_
  refine Tl.b (most_ev hx) ?_
  refine Tl.s (fun k=>by rw[impl_told.j0]) ?_
  by_cases g:most x>9999
  ·refine Tl.p (decide_eq_true g) ?_
   rw[if_neg (by omega)];exact Tl.w _
  ·refine Tl.n (by simp;omega) ?_
   rw[if_pos (by omega)]
   refine Tl.b (rowOf_ev hx) ?_
   exact Tl.w _
theorem rd_zero (a:Int)(l:List Int):rd (a::l) 0=a:=rfl
theorem takeOrd_l {n:Nat}(ih:∀ l:List Int,l.length<n→(l.length:Int)≤100000000→Tl (fun k=>impl_takeOrd.f k l) (match take n l with | none=>([],[],false) | some (x,l')=>(x,l',true))) :
 ∀ (c:Nat) (acc:O) (l:List Int) (last:Option O) (m:Int),l.length≤n→(l.length:Int)≤100000000→m=(acc.length:Int)+c→0≤m→m≤60→size acc+(l.length:Int)≤200000000 →
  (∀ t a,acc=a++[t]→last=some t.f1)→(acc=[]→last=none) →
  Tl (fun k=>impl_takeOrd.l0 k l acc m (acc.length:Int)) (match terms (take n) c last l with | none=>([],[],false) | some (x,l')=>(acc++x,l',true)):=by
 intro c
 induction c with
 | zero =>
  intro acc l last m h1 h1' h2 h3 h4 hz h5 h6
  refine Tl.s (fun k=>by rw[impl_takeOrd.l0]) ?_
  refine Tl.n (by omega) ?_
  refine Tl.to (Tl.w _) ?_
  unfold terms;simp
 | succ c ihc =>
  intro acc l last m h1 h1' h2 h3 h4 hz h5 h6
  have hacc:=sp_ acc
  refine Tl.s (fun k=>by rw[impl_takeOrd.l0]) ?_
  refine Tl.p (by omega) ?_
  have bad:Tl (fun k=>impl_takeOrd.j2 k l acc (acc.length:Int) m (acc.length:Int) true) (([]:O),([]:List Int),false):=by
   refine Tl.s (fun k=>by rw[impl_takeOrd.j2]) ?_
   exact Tl.p rfl (Tl.w _)
  cases l with
  | nil =>
   refine Tl.p rfl ?_
   refine Tl.to bad ?_
   unfold terms;rfl
  | cons t l =>
   refine Tl.n (by simp<;>omega) ?_
   refine Tl.p (by simp<;>omega) ?_
   rw[rd_zero,terms]
   by_cases ht:t<1
   ·refine Tl.p ht ?_
    refine Tl.to bad ?_
    rw[if_neg (by omega)]
   ·refine Tl.n ht ?_
    by_cases ht':t>9999
    ·rw[decide_eq_true ht']
     refine Tl.to bad ?_
     rw[if_neg (by omega)]
    ·rw[decide_eq_false ht',if_pos (by omega)]
     refine Tl.s (fun k=>by rw[impl_takeOrd.j2]) ?_
     refine Tl.n (by simp) ?_
     refine Tl.p (by simp;omega) ?_
     simp only[List.length_cons] at h1 h1' hz
     refine Tl.b (ih l (by omega) (by omega)) ?_
     cases hk:take n l with
     | none=>exact Tl.n (by simp) (Tl.w _)
     | some q =>
      obtain⟨e,l1⟩:=q
      simp only
      refine Tl.p trivial ?_
      have hlen:=take_len hk
      obtain⟨a1,a2,a3⟩:=take_good _ _ _ _ hk
      have hse:size e+(l1.length:Int)=(l.length:Int):=by
       have:=rl_ e
       rw[a1,List.length_append];omega
      have go:∀ last',last'=some e→Tl (fun k=>if 0<(((t::l).length:Nat):Int) then(if acc.length<4398046511104 then(impl_takeOrd.l0 k l1 (acc++[(⟨rd (t::l) 0,e⟩:Tm)]) m (wrap64 ((acc.length:Int)+1))) else none) else none)
       (match (match terms (take n) c last' l1 with | none=>none | some (r,l'')=>some ((⟨t,e⟩:Tm)::r,l'')) with | none=>([],[],false) | some (x,l')=>(acc++x,l',true)):=by
       intro last' hl'
       refine Tl.p (by simp<;>omega) ?_
       refine Tl.p (by have:=ll_ acc;omega) ?_
       rw[rd_zero,wi_ (by omega) (by omega)]
       have:=ihc (acc++[⟨t,e⟩]) l1 last' m (by omega) (by omega) (by simp;omega) h3 h4 (by rw[sa_,sc_,sn_];omega)
        (fun t' a ha=>by
         have:=List.append_inj_right' ha rfl
         injection this with this
         rw[hl',← this])
        (fun ha=>by simp at ha)
       rw[show ((acc++[(⟨t,e⟩:Tm)]).length:Int)=(acc.length:Int)+1 by simp] at this
       refine Tl.to this ?_
       cases terms (take n) c last' l1 with
       | none=>rfl
       | some q=>obtain⟨r,l2⟩:=q;simp
      rcases List.eq_nil_or_concat acc with hacc | ⟨a,t',hacc⟩
      ·have hl:=h6 hacc
       subst hl
       refine Tl.n (by rw[hacc];simp) ?_
       have:late none e=false:=rfl
       rw[if_neg (by rw[this];simp)]
       exact go (some e) rfl
      ·rw[List.concat_eq_append] at hacc
       have hl:=h5 t' a hacc
       have hp:(acc.length:Int)=(a.length:Int)+1:=by rw[hacc];simp
       refine Tl.p (by omega) ?_
       rw[wi_ (by omega) (by omega)]
       refine Tl.p (by omega) ?_
       refine Tl.p (by omega) ?_
       have hrd:rd_T61 acc ((acc.length:Int)-1)=t':=by
        rw[hacc];exact rdT_mid a [] t' (by simp)
       rw[hrd]
       have hst:size t'.f1≤size acc:=by
        obtain⟨ct,et⟩:=t'
        have:=sp_ a
        have:=sp_ et
        rw[hacc,sa_,sc_,sn_];show size et≤_;omega
       refine Tl.b (compare_ev (by omega) (by omega)) ?_
       subst hl
       by_cases hc:cmp e t'.f1≥0
       ·refine Tl.p hc ?_
        have:late (some t'.f1) e=true:=by unfold late;simp only[decide_eq_true_eq];exact hc
        rw[if_pos this]
        exact Tl.w _
       ·refine Tl.n hc ?_
        have:¬ late (some t'.f1) e=true:=by unfold late;simp only[decide_eq_true_eq];exact hc
        rw[if_neg this]
        exact go (some e) rfl
theorem takeOrd_ev:∀ (n:Nat) (l:List Int),l.length<n→(l.length:Int)≤100000000→Tl (fun k=>impl_takeOrd.f k l) (match take n l with | none=>([],[],false) | some (x,l')=>(x,l',true)):=by
 intro n
 induction n with
 | zero=>intro l h;omega
 | succ n ih =>
  intro l h h'
  refine Tl.s (fun k=>by rw[impl_takeOrd.f]) ?_
  cases l with
  | nil=>refine Tl.p rfl ?_;unfold take;exact Tl.w _
  | cons m l =>
   simp only[List.length_cons] at h h'
   refine Tl.n (by simp<;>omega) ?_
   refine Tl.p (by simp<;>omega) ?_
   refine Tl.p (by simp<;>omega) ?_
   refine Tl.d ?_
   refine Tl.d ?_
   rw[rd_zero,take]
   by_cases h1:m<0
   ·refine Tl.p h1 ?_
    refine Tl.s (fun k=>by rw[impl_takeOrd.j0]) ?_
    refine Tl.p rfl ?_
    rw[if_neg (by omega)];exact Tl.w _
   ·refine Tl.n h1 ?_
    refine Tl.s (fun k=>by rw[impl_takeOrd.j0]) ?_
    by_cases h2:m>60
    ·refine Tl.p (decide_eq_true h2) ?_
     rw[if_neg (by omega)];exact Tl.w _
    ·refine Tl.n (by simp;omega) ?_
     rw[if_pos (by omega)]
     have:=takeOrd_l ih m.toNat [] l none m (by omega) (by omega) (by simp;omega) (by omega) (by omega) (by rw[sn_];omega) (fun t a ha=>by simp at ha) (fun _=>rfl)
     exact this
def ordv (l:List Int):O × Bool:=match ordOf l with
 | some x=>(x,true)
 | none=>((if 1≤l.length∧l.length≤60 then(match take 61 l with | some (x,_)=>x | none=>[]) else []),false)
theorem ordOf_ev {l:List Int}:Tl (fun k=>impl_ordOf.f k l) (ordv l):=by
 unfold ordv ordOf
 by_cases h1:(l.length:Int)<1
 ·refine Tl.p h1 ?_
  rw[if_neg (by omega),if_neg (by omega)];exact Tl.w _
 ·refine Tl.n h1 ?_
  by_cases h2:(l.length:Int)>60
  ·refine Tl.p h2 ?_
   rw[if_neg (by omega),if_neg (by omega)];exact Tl.w _
  ·refine Tl.n h2 ?_
   refine Tl.b (takeOrd_ev 61 l (by omega) (by omega)) ?_
   have hc:1≤l.length∧l.length≤60:=by omega
   rw[if_pos hc,if_pos hc]
   cases take 61 l with
   | none=>exact Tl.n (by simp) (Tl.w _)
   | some q =>
    obtain⟨x,l'⟩:=q
    refine Tl.p rfl ?_
    cases l' with
    | nil=>exact Tl.w _
    | cons a l'=>refine Tl.to (Tl.w _) ?_;simp;omega
end Go.Proofs.Ytfblcanijhnhmaa.P
namespace Go.Proofs.Ytfblcanijhnhmaa.P
open OM Go.RowKit Go.Proofs.YtfblcanijhnhmaaW.PrintWords Go.Proofs.YtfblcanijhnhmaaW.PrintLast Go.Proofs.YtfblcanijhnhmaaW.PrintMore
set_option linter.unusedVariables false
theorem l1In_eq (a lo hi:Int):spec_l1In.f a lo hi=some (decide (lo≤a∧a≤hi)):=by
 unfold spec_l1In.f
 split
 ·next h=>congr 1;by_cases g:a≤hi<;>simp[h,g]<;>omega
 ·next h=>congr 1;simp;omega
theorem span_l:∀ (r:O) (p s:List Int) (m i:Int),m=i+r.length→0≤i→m≤20000000000→(((p++(flat r++s)).length:Nat):Int)≤10000000000→Tl (fun k=>spec_l1Span.l0 k (p++(flat r++s)) (p.length:Int) m i) ((p.length:Int)+(flat r).length):=by
 intro r
 induction r using ind with
 | h0 =>
  intro p s m i h1 h2 hm h3
  refine Tl.s (fun k=>by rw[spec_l1Span.l0]) ?_
  refine Tl.n (by simp at h1;omega) ?_
  refine Tl.to (Tl.w _) ?_
  rw[flat_nil];simp
 | h1 c e r ihe ihr =>
  intro p s m i h1 h2 hm h3
  have h3':=h3
  rw[flat_cons] at h3' ⊢
  have hre:row e=(e.length:Int)::flat e:=rfl
  simp only[List.length_append,List.length_cons] at h3' h1
  rw[hre] at h3'
  simp only[List.length_append,List.length_cons] at h3'
  have hle:=ll_ e
  have hfe:=flat_length e
  have hlr:=ll_ r
  have hfr:=flat_length r
  refine Tl.s (fun k=>by rw[spec_l1Span.l0]) ?_
  refine Tl.p (by omega) ?_
  rw[wi_ (i:=(p.length:Int)+1) (by omega) (by omega),wi_ (i:=i+1) (by omega) (by omega)]
  have hsp:Tl (fun k=>spec_l1Span.f k (p++((c::(row e++flat r))++s)) ((p.length:Int)+1)) ((p.length:Int)+1+(row e).length):=by
   refine Tl.s (fun k=>by rw[spec_l1Span.f]) ?_
   refine Tl.p (by omega) ?_
   refine Tl.p (by simp[hre];omega) ?_
   have hsplit:p++((c::(row e++flat r))++s)=(p++[c])++((e.length:Int)::(flat e++(flat r++s))):=by rw[hre];simp
   rw[hsplit,rd_mid (p++[c]) _ (e.length:Int) (by simp),wi_ (by omega) (by omega)]
   have:=ihe (p++[c]++[(e.length:Int)]) (flat r++s) (e.length:Int) 0 (by omega) (by omega) (by omega) (by simp;omega)
   rw[show ((p++[c]++[(e.length:Int)]).length:Int)=(p.length:Int)+1+1 by simp;omega] at this
   rw[snoc (p++[c])]
   refine Tl.to this ?_
   rw[hre];simp only[List.length_cons];omega
  refine Tl.b hsp ?_
  have hsplit:p++((c::(row e++flat r))++s)=(p++(c::row e))++(flat r++s):=by simp
  rw[hsplit]
  have:=ihr (p++(c::row e)) s m (i+1) (by omega) (by omega) hm (by rw[← hsplit,← flat_cons];exact h3)
  rw[show ((p++(c::row e)).length:Int)=(p.length:Int)+1+(row e).length by simp;omega] at this
  refine Tl.to this ?_
  simp only[List.length_cons,List.length_append];omega
theorem span_ev (x:O)(p s:List Int)(h:(((p++(row x++s)).length:Nat):Int)≤10000000000):Tl (fun k=>spec_l1Span.f k (p++(row x++s)) (p.length:Int)) ((p.length:Int)+(row x).length):=by
 have hre:row x=(x.length:Int)::flat x:=rfl
 have h':=h
 rw[hre] at h' ⊢
 simp only[List.length_append,List.length_cons] at h'
 have hle:=ll_ x
 have hfe:=flat_length x
 refine Tl.s (fun k=>by rw[spec_l1Span.f]) ?_
 refine Tl.p (by omega) ?_
 refine Tl.p (by simp;omega) ?_
 rw[show p++((x.length:Int)::flat x++s)=p++((x.length:Int)::(flat x++s)) by simp,rd_mid p _ (x.length:Int) rfl,wi_ (by omega) (by omega)]
 have:=span_l x (p++[(x.length:Int)]) s (x.length:Int) 0 (by omega) (by omega) (by omega) (by simp;omega)
 rw[show ((p++[(x.length:Int)]).length:Int)=(p.length:Int)+1 by simp] at this
 rw[snoc p]
 refine Tl.to this ?_
 simp only[List.length_cons];omega
def cs (x:O):List Int:=x.map (·.f0)
def es (x:O):List (List Int):=x.map (fun t=>row t.f1)
theorem cl_ (x:O):(cs x).length=x.length:=by simp[cs]
theorem el_ (x:O):(es x).length=x.length:=by simp[es]
theorem cs_cons (c:Int)(e r:O):cs (⟨c,e⟩::r)=c::cs r:=rfl
theorem es_cons (c:Int)(e r:O):es (⟨c,e⟩::r)=row e::es r:=rfl
theorem cs_append (x y:O):cs (x++y)=cs x++cs y:=by simp[cs]
theorem es_append (x y:O):es (x++y)=es x++es y:=by simp[es]
theorem terms_l:∀ (r:O) (p:List Int) (A:List Int) (B:List (List Int)),((p++flat r).length:Int)≤10000000000→(A.length:Int)+r.length≤20000000000→(B.length:Int)+r.length≤20000000000 →
 Tl (fun k=>spec_l1Terms.l0 k (p++flat r) A B (p.length:Int)) (A++cs r,B++es r):=by
 intro r
 induction r with
 | nil =>
  intro p A B h1 h2 h3
  refine Tl.s (fun k=>by rw[spec_l1Terms.l0]) ?_
  refine Tl.n (by rw[flat_nil];simp) ?_
  refine Tl.to (Tl.w _) ?_
  simp[cs,es]
 | cons t r ih =>
  intro p A B h1 h2 h3
  obtain⟨c,e⟩:=t
  have h1':=h1
  rw[flat_cons] at h1' ⊢
  simp only[List.length_append,List.length_cons] at h1' h2 h3
  refine Tl.s (fun k=>by rw[spec_l1Terms.l0]) ?_
  refine Tl.p (by simp;omega) ?_
  rw[wi_ (i:=(p.length:Int)+1) (by omega) (by omega)]
  have hsplit:p++(c::(row e++flat r))=(p++[c])++(row e++flat r):=by simp
  have hsp:Tl (fun k=>spec_l1Span.f k (p++(c::(row e++flat r))) ((p.length:Int)+1)) ((p.length:Int)+1+(row e).length):=by
   rw[hsplit]
   have:=span_ev e (p++[c]) (flat r) (by simp;omega)
   rw[show ((p++[c]).length:Int)=(p.length:Int)+1 by simp] at this
   exact this
  refine Tl.b hsp ?_
  refine Tl.p (by omega) ?_
  refine Tl.p (by omega) ?_
  refine Tl.p (by omega) ?_
  refine Tl.p (by omega) ?_
  refine Tl.p (by simp;omega) ?_
  refine Tl.p (by omega) ?_
  rw[rd_mid p _ c rfl]
  have hcut:(((p++(c::(row e++flat r))).take ((p.length:Int)+1+((row e).length:Int)).toNat).drop ((p.length:Int)+1).toNat)=row e:=by
   rw[show ((p.length:Int)+1+((row e).length:Int)).toNat=(p++[c]).length+(row e).length by simp;omega,show ((p.length:Int)+1).toNat=(p++[c]).length by simp<;>omega,hsplit,List.take_length_add_append,List.take_left,List.drop_left]
  rw[hcut,show p++(c::(row e++flat r))=(p++(c::row e))++flat r by simp]
  have:=ih (p++(c::row e)) (A++[c]) (B++[row e]) (by simp;omega) (by simp;omega) (by simp;omega)
  rw[show ((p++(c::row e)).length:Int)=(p.length:Int)+1+(row e).length by simp;omega] at this
  refine Tl.to this ?_
  rw[cs_cons,es_cons];simp
theorem terms_ev {x:O}(h:size x≤10000000000):Tl (fun k=>spec_l1Terms.f k (row x)) (cs x,es x):=by
 have hl:=rl_ x
 have hz:=ll_ x
 have:=terms_l x [(x.length:Int)] [] [] (by show (((row x).length:Nat):Int)≤_;omega) (by simp;omega) (by simp;omega)
 exact this
theorem make_l:∀ (r:O) (A:List Int) (B:List (List Int)) (acc:List Int),A.length=B.length→(A.length:Int)+r.length≤10000000000→(acc.length:Int)+(flat r).length≤20000000000 →
 Tl (fun k=>spec_l1Make.l0 k (A++cs r) (B++es r) acc (A.length:Int)) (acc++flat r):=by
 intro r
 induction r with
 | nil =>
  intro A B acc h1 h2 h3
  refine Tl.s (fun k=>by rw[spec_l1Make.l0]) ?_
  refine Tl.n (by simp[cs]) ?_
  refine Tl.to (Tl.w _) ?_
  rw[flat_nil,List.append_nil]
 | cons t r ih =>
  intro A B acc h1 h2 h3
  obtain⟨c,e⟩:=t
  rw[flat_cons] at h3
  simp only[List.length_append,List.length_cons] at h2 h3
  rw[cs_cons,es_cons]
  refine Tl.s (fun k=>by rw[spec_l1Make.l0]) ?_
  refine Tl.p (by simp;omega) ?_
  refine Tl.p (by omega) ?_
  refine Tl.p (by omega) ?_
  refine Tl.d ?_
  refine Tl.p (by simp;omega) ?_
  rw[rd_mid A _ c rfl,rdL_mid B _ (row e) (by rw[h1])]
  refine Tl.p (by simp;omega) ?_
  rw[wi_ (by omega) (by omega),snoc A,snoc B]
  have:=ih (A++[c]) (B++[row e]) (acc++[c]++row e) (by simp[h1]) (by simp;omega) (by simp;omega)
  rw[show ((A++[c]).length:Int)=(A.length:Int)+1 by simp] at this
  refine Tl.to this ?_
  rw[flat_cons];simp
theorem make_ev {x:O}(h:size x≤10000000000):Tl (fun k=>spec_l1Make.f k (cs x) (es x)) (row x):=by
 have hl:=flat_length x
 have hz:=ll_ x
 have:=make_l x [] [] [((cs x).length:Int)] rfl (by simp;omega) (by simp;omega)
 refine Tl.to this ?_
 rw[cl_];rfl
theorem make_ev' {x:O}{A:List Int}{B:List (List Int)}(hA:A=cs x)(hB:B=es x)(h:size x≤10000000000):Tl (fun k=>spec_l1Make.f k A B) (row x):=by subst hA;subst hB;exact make_ev h
theorem specCompare_l:∀ (r:O) (p q s:O),p.length=q.length→size (p++r)≤500000000→size (q++s)≤500000000 →
 Tl (fun k=>spec_l1Compare.l0 k (cs (p++r)) (es (p++r)) (cs (q++s)) (es (q++s)) (p.length:Int)) (cmp r s):=by
 intro r
 induction r using ind with
 | h0 =>
  intro p q s hl h1 h2
  refine Tl.s (fun k=>by rw[spec_l1Compare.l0]) ?_
  refine Tl.n (by rw[cl_];simp) ?_
  refine Tl.s (fun k=>by rw[spec_l1Compare.j1]) ?_
  refine Tl.n (by simp) ?_
  cases s with
  | nil =>
   refine Tl.n (by rw[cl_,cl_];simp;omega) ?_
   refine Tl.n (by rw[cl_,cl_];simp;omega) ?_
   rw[cmp_nn];exact Tl.w _
  | cons t s =>
   refine Tl.p (by rw[cl_,cl_];simp;omega) ?_
   rw[cmp_nc];exact Tl.w _
 | h1 c e r ihe ihr =>
  intro p q s hl h1 h2
  have hp:=ll_ p
  refine Tl.s (fun k=>by rw[spec_l1Compare.l0]) ?_
  refine Tl.p (by rw[cl_];simp;omega) ?_
  refine Tl.s (fun k=>by rw[spec_l1Compare.j1]) ?_
  cases s with
  | nil =>
   refine Tl.n (by rw[cl_];simp;omega) ?_
   refine Tl.n (by rw[cl_,cl_];simp;omega) ?_
   refine Tl.p (by rw[cl_,cl_];simp;omega) ?_
   rw[cmp_cn];exact Tl.w _
  | cons t s =>
   obtain⟨d,f⟩:=t
   have z1:=h1
   have z2:=h2
   rw[sa_,sc_] at z1 z2
   have:=sp_ r
   have:=sp_ s
   have:=sp_ p
   have:=sp_ q
   have:=sp_ e
   have:=sp_ f
   refine Tl.p (by rw[cl_];simp;omega) ?_
   refine Tl.p (by omega) ?_
   refine Tl.p (by rw[el_];simp;omega) ?_
   refine Tl.p (by rw[el_];simp;omega) ?_
   have he:rd_L2 (es (p++⟨c,e⟩::r)) (p.length:Int)=row e:=by rw[es_append,es_cons];exact rdL_mid _ _ _ (by rw[el_])
   have hf:rd_L2 (es (q++⟨d,f⟩::s)) (p.length:Int)=row f:=by rw[es_append,es_cons];exact rdL_mid _ _ _ (by rw[el_,hl])
   have hc:rd (cs (p++⟨c,e⟩::r)) (p.length:Int)=c:=by rw[cs_append,cs_cons];exact rd_mid _ _ _ (by rw[cl_])
   have hd:rd (cs (q++⟨d,f⟩::s)) (p.length:Int)=d:=by rw[cs_append,cs_cons];exact rd_mid _ _ _ (by rw[cl_,hl])
   rw[he,hf,hc,hd]
   have hef:Tl (fun k=>spec_l1Compare.f k (row e) (row f)) (cmp e f):=by
    refine Tl.s (fun k=>by rw[spec_l1Compare.f]) ?_
    refine Tl.b (terms_ev (by omega)) ?_
    refine Tl.b (terms_ev (by omega)) ?_
    exact ihe [] [] f rfl (by show size e≤_;omega) (by show size f≤_;omega)
   refine Tl.b hef ?_
   rw[cmp_cc]
   by_cases z:cmp e f=0
   ·refine Tl.p z ?_
    rw[if_pos z]
    refine Tl.p (by rw[cl_];simp;omega) ?_
    refine Tl.p (by rw[cl_];simp;omega) ?_
    by_cases a:c=d
    ·refine Tl.p a ?_
     rw[if_neg (by omega),if_neg (by omega),wi_ (by omega) (by omega),snoc p,snoc q]
     have:=ihr (p++[⟨c,e⟩]) (q++[⟨d,f⟩]) s (by simp[hl]) (by rw[← snoc];exact h1) (by rw[← snoc];exact h2)
     rw[show ((p++[(⟨c,e⟩:Tm)]).length:Int)=(p.length:Int)+1 by simp] at this
     exact this
    ·refine Tl.n a ?_
     by_cases b:c<d
     ·refine Tl.p b ?_
      rw[if_pos b];exact Tl.w _
     ·refine Tl.n b ?_
      rw[if_neg b,if_pos (by omega)];exact Tl.w _
   ·refine Tl.n z ?_
    rw[if_neg z];exact Tl.w _
theorem specCompare_ev {x y:O}(hx:size x≤500000000)(hy:size y≤500000000):Tl (fun k=>spec_l1Compare.f k (row x) (row y)) (cmp x y):=by
 refine Tl.s (fun k=>by rw[spec_l1Compare.f]) ?_
 refine Tl.b (terms_ev (by omega)) ?_
 refine Tl.b (terms_ev (by omega)) ?_
 exact specCompare_l x [] [] y rfl hx hy
end Go.Proofs.Ytfblcanijhnhmaa.P
namespace Go.Proofs.Ytfblcanijhnhmaa.P
open OM Go.RowKit Go.Proofs.YtfblcanijhnhmaaW.PrintWords Go.Proofs.YtfblcanijhnhmaaW.PrintLast Go.Proofs.YtfblcanijhnhmaaW.PrintMore
set_option linter.unusedVariables false
def num (c:Int):O:=if c=0 then [] else [⟨c,[]⟩]
theorem row_num_zero:row (num 0)=[0]:=by unfold num;rw[if_pos rfl,row_nil]
theorem row_num {c:Int}(h:c≠0):row (num c)=[1,c,0]:=by unfold num;rw[if_neg h];unfold row;rw[flat_cons,row_nil,flat_nil];rfl
theorem size_num (c:Int):size (num c)≤3:=by unfold num;split<;>simp only[sc_,sn_]<;>omega
theorem number_eq (c:Int):impl_number.f c=some (num c):=by unfold impl_number.f num;split<;>rfl
def ofv (a:Int):List Int:=if 0≤a∧a≤9999 then row (num a) else []
theorem implOrdOf_ev {a:Int}:Tl (fun k=>impl_OrdOf.f k a) (ofv a):=by
 have bad:¬ (0≤a∧a≤9999)→Tl (fun k=>impl_OrdOf.j0 k a true) (ofv a):=by
  intro h
  refine Tl.s (fun k=>by rw[impl_OrdOf.j0]) ?_
  unfold ofv;rw[if_neg h]
  exact Tl.p rfl (Tl.w _)
 by_cases h1:a<0
 ·exact Tl.p h1 (bad (by omega))
 ·refine Tl.n h1 ?_
  by_cases h2:a>9999
  ·rw[decide_eq_true h2];exact bad (by omega)
  ·rw[decide_eq_false h2]
   refine Tl.s (fun k=>by rw[impl_OrdOf.j0]) ?_
   refine Tl.n (by simp) ?_
   refine Tl.b (Tl.c (number_eq a)) ?_
   have:=size_num a
   unfold ofv;rw[if_pos (by omega)]
   exact Tl.b (rowOf_ev (by omega)) (Tl.w _)
end Go.Proofs.Ytfblcanijhnhmaa.P
namespace Go.Proofs.Ytfblcanijhnhmaa.P
open OM Go.RowKit Go.Proofs.YtfblcanijhnhmaaW.PrintWords Go.Proofs.YtfblcanijhnhmaaW.PrintLast Go.Proofs.YtfblcanijhnhmaaW.PrintMore
set_option linter.unusedVariables false
theorem sameInts_l:∀ (a b p q:List Int),p.length=q.length→a.length=b.length→((p++a).length:Int)≤4000000000000000000→Tl (fun k=>laws_sameInts.l0 k (p++a) (q++b) (p.length:Int)) (decide (a=b)):=by
 intro a
 induction a with
 | nil =>
  intro b p q h1 h2 h3
  cases b with
  | cons _ _=>simp at h2
  | nil =>
   refine Tl.s (fun k=>by rw[laws_sameInts.l0]) ?_
   exact Tl.n (by simp) (Tl.w _)
 | cons x a ih =>
  intro b p q h1 h2 h3
  cases b with
  | nil=>simp at h2
  | cons y b =>
   have h3':=h3
   simp only[List.length_append,List.length_cons] at h3'
   refine Tl.s (fun k=>by rw[laws_sameInts.l0]) ?_
   refine Tl.p (by simp;omega) ?_
   refine Tl.p (by omega) ?_
   refine Tl.p (by simp;omega) ?_
   rw[rd_mid p a x rfl,rd_mid q b y (by rw[h1])]
   by_cases h:x=y
   ·refine Tl.p h ?_
    rw[wi_ (by omega) (by omega),snoc p,snoc q]
    have:=ih b (p++[x]) (q++[y]) (by simp[h1]) (by simpa using h2) (by rw[← snoc];exact h3)
    rw[show ((p++[x]).length:Int)=(p.length:Int)+1 by simp] at this
    refine Tl.to this ?_
    simp[h]
   ·refine Tl.n h ?_
    refine Tl.to (Tl.w _) ?_
    simp[h]
theorem sameInts_ev {a b:List Int}(h:(a.length:Int)≤4000000000000000000):Tl (fun k=>laws_sameInts.f k a b) (decide (a=b)):=by
 by_cases hl:(a.length:Int)=(b.length:Int)
 ·exact Tl.p hl (sameInts_l a b [] [] rfl (by omega) (by simpa using h))
 ·refine Tl.n hl ?_
  refine Tl.to (Tl.w _) ?_
  symm
  rw[decide_eq_false_iff_not]
  intro h;rw[h] at hl;exact hl rfl
theorem alive_ev:Tl (fun k=>laws_alive.f k) true:=by
 have h0:ofv 0=[0]:=by unfold ofv;rw[if_pos (by omega),row_num_zero]
 have h7:ofv 7=[1,7,0]:=by unfold ofv;rw[if_pos (by omega),row_num (by omega)]
 refine Tl.b (implOrdOf_ev (a:=0)) ?_
 rw[h0]
 refine Tl.p rfl ?_
 refine Tl.b (implOrdOf_ev (a:=7)) ?_
 rw[h7]
 exact Tl.w _
end Go.Proofs.Ytfblcanijhnhmaa.P
namespace Go.Proofs.Ytfblcanijhnhmaa.P
open OM Go.RowKit Go.Proofs.YtfblcanijhnhmaaW.PrintWords Go.Proofs.YtfblcanijhnhmaaW.PrintLast Go.Proofs.YtfblcanijhnhmaaW.PrintMore
set_option linter.unusedVariables false
def endv (tot:Int):Option (O × List Int)→Int
 | none=>-1
 | some (_,l')=>tot-l'.length
theorem endv_none (t:Int):endv t none=-1:=rfl
theorem endv_some (t:Int)(x:O)(l:List Int):endv t (some (x,l))=t-l.length:=rfl
theorem rd_p (p l:List Int)(m:Int):rd (p++m::l) (p.length:Int)=m:=rd_mid p l m rfl
theorem end_l {n:Nat}(ih:∀ p l:List Int,l.length<n→(((p++l).length:Nat):Int)≤100000000→Tl (fun k=>spec_l1End.f k (p++l) (p.length:Int)) (endv ((p++l).length:Int) (take n l))) :
 ∀ (c:Nat) (p l last:List Int) (lo:Option O) (m i:Int),l.length≤n→(((p++l).length:Nat):Int)≤100000000→m=i+c→0≤i→m≤60 →
  (i=0→lo=none)→(0<i→∃ f,lo=some f∧last=row f∧size f≤100000000) →
  Tl (fun k=>spec_l1End.l0 k (p++l) (p.length:Int) m last i) (endv ((p++l).length:Int) (terms (take n) c lo l)):=by
 intro c
 induction c with
 | zero =>
  intro p l last lo m i h1 h2 h3 h4 h5 h6 h7
  refine Tl.s (fun k=>by rw[spec_l1End.l0]) ?_
  refine Tl.n (by omega) ?_
  refine Tl.to (Tl.w _) ?_
  unfold terms;rw[endv_some];simp<;>omega
 | succ c ihc =>
  intro p l last lo m i h1 h2 h3 h4 h5 h6 h7
  have h2':=h2
  simp only[List.length_append] at h2'
  refine Tl.s (fun k=>by rw[spec_l1End.l0]) ?_
  refine Tl.p (by omega) ?_
  have bad:Tl (fun k=>spec_l1End.j2 k (p++l) (p.length:Int) m last i true) (-1):=by
   refine Tl.s (fun k=>by rw[spec_l1End.j2]) ?_
   exact Tl.p rfl (Tl.w _)
  cases l with
  | nil =>
   refine Tl.p (by simp) ?_
   refine Tl.to bad ?_
   unfold terms;rfl
  | cons t l =>
   simp only[List.length_cons] at h1 h2'
   refine Tl.n (by simp;omega) ?_
   refine Tl.p (by omega) ?_
   refine Tl.p (by simp;omega) ?_
   rw[rd_p]
   refine Tl.b (Tl.c (l1In_eq t 1 9999)) ?_
   rw[terms]
   by_cases ht:1≤t∧t≤9999
   ·rw[if_pos ht,decide_eq_true ht]
    refine Tl.s (fun k=>by rw[spec_l1End.j2]) ?_
    refine Tl.n (by simp) ?_
    rw[wi_ (i:=(p.length:Int)+1) (by omega) (by omega)]
    have hf:=ih (p++[t]) l (by omega) (by simp;omega)
    rw[← snoc p l t,show ((p++[t]).length:Int)=(p.length:Int)+1 by simp] at hf
    refine Tl.b hf ?_
    cases hk:take n l with
    | none =>
     rw[endv_none]
     exact Tl.p (by omega) (Tl.w _)
    | some q =>
     obtain⟨e,l1⟩:=q
     rw[endv_some]
     simp only
     obtain⟨a1,a2,a3⟩:=take_good _ _ _ _ hk
     have hlen:=take_len hk
     have hre:=rl_ e
     have hl:(l.length:Int)=(row e).length+l1.length:=by rw[a1];simp
     have hend:(((p++t::l).length:Nat):Int)-l1.length=(p.length:Int)+1+(row e).length:=by simp;omega
     rw[hend]
     refine Tl.n (by omega) ?_
     have hcut:(((p++t::l).take ((p.length:Int)+1+((row e).length:Int)).toNat).drop ((p.length:Int)+1).toNat)=row e:=by
      rw[show ((p.length:Int)+1+((row e).length:Int)).toNat=(p++[t]).length+(row e).length by simp;omega,show ((p.length:Int)+1).toNat=(p++[t]).length by simp<;>omega,a1,show p++t::(row e++l1)=(p++[t])++(row e++l1) by simp,List.take_length_add_append,List.take_left,List.drop_left]
     have go:Tl (fun k=>spec_l1End.l0 k (p++t::l) ((p.length:Int)+1+(row e).length) m (row e) (wrap64 (i+1)))
      (endv (((p++t::l).length:Nat):Int) (match terms (take n) c (some e) l1 with | none=>none | some (r,l'')=>some ((⟨t,e⟩:Tm)::r,l''))):=by
      rw[wi_ (by omega) (by omega)]
      have:=ihc (p++(t::row e)) l1 (row e) (some e) m (i+1) (by omega) (by rw[a1] at h2;simp at h2 ⊢;omega) (by omega) (by omega) h5 (fun h=>by omega) (fun _=>⟨e,rfl,rfl,by omega⟩)
      rw[show (p++(t::row e))++l1=p++t::l by rw[a1];simp,show ((p++(t::row e)).length:Int)=(p.length:Int)+1+(row e).length by simp;omega] at this
      refine Tl.to this ?_
      cases terms (take n) c (some e) l1 with
      | none=>rfl
      | some q=>obtain⟨r,l2⟩:=q;rfl
     by_cases hi:i>0
     ·obtain⟨f,hlo,hlast,hsf⟩:=h7 hi
      subst hlo;subst hlast
      refine Tl.p hi ?_
      refine Tl.p (by omega) ?_
      refine Tl.p (by omega) ?_
      refine Tl.p (by simp;omega) ?_
      rw[hcut]
      refine Tl.b (specCompare_ev (by omega) (by omega)) ?_
      by_cases hc:cmp e f≥0
      ·refine Tl.p hc ?_
       have:late (some f) e=true:=by unfold late;simp only[decide_eq_true_eq];exact hc
       rw[if_pos this]
       exact Tl.w _
      ·refine Tl.n hc ?_
       have:¬ late (some f) e=true:=by unfold late;simp only[decide_eq_true_eq];exact hc
       rw[if_neg this]
       exact go
     ·have hlo:=h6 (by omega)
      subst hlo
      refine Tl.n hi ?_
      refine Tl.p (by omega) ?_
      refine Tl.p (by omega) ?_
      refine Tl.p (by simp;omega) ?_
      rw[hcut]
      have:¬ late none e=true:=by unfold late;simp
      rw[if_neg this]
      exact go
   ·rw[if_neg ht,decide_eq_false ht]
    exact bad
theorem end_ev:∀ (n:Nat) (p l:List Int),l.length<n→(((p++l).length:Nat):Int)≤100000000→Tl (fun k=>spec_l1End.f k (p++l) (p.length:Int)) (endv ((p++l).length:Int) (take n l)):=by
 intro n
 induction n with
 | zero=>intro p l h;omega
 | succ n ih =>
  intro p l h h2
  have h2':=h2
  simp only[List.length_append] at h2'
  have bad:Tl (fun k=>spec_l1End.j0 k (p++l) (p.length:Int) true) (-1):=by
   refine Tl.s (fun k=>by rw[spec_l1End.j0]) ?_
   exact Tl.p rfl (Tl.w _)
  refine Tl.s (fun k=>by rw[spec_l1End.f]) ?_
  cases l with
  | nil =>
   refine Tl.p (by simp) ?_
   refine Tl.to bad ?_
   unfold take;rfl
  | cons m l =>
   simp only[List.length_cons] at h h2'
   refine Tl.n (by simp;omega) ?_
   refine Tl.p (by omega) ?_
   refine Tl.p (by simp;omega) ?_
   rw[rd_p]
   refine Tl.b (Tl.c (l1In_eq m 0 60)) ?_
   rw[take]
   by_cases hm:0≤m∧m≤60
   ·rw[if_pos hm,decide_eq_true hm]
    refine Tl.s (fun k=>by rw[spec_l1End.j0]) ?_
    refine Tl.n (by simp) ?_
    refine Tl.p (by omega) ?_
    refine Tl.p (by simp;omega) ?_
    rw[rd_p,wi_ (by omega) (by omega)]
    have:=end_l ih m.toNat (p++[m]) l [] none m 0 (by omega) (by simp;omega) (by omega) (by omega) (by omega) (fun _=>rfl) (fun h=>by omega)
    rw[← snoc p l m,show ((p++[m]).length:Int)=(p.length:Int)+1 by simp] at this
    exact this
   ·rw[if_neg hm,decide_eq_false hm]
    exact bad
theorem ordValid_ev {l:List Int}(h:(l.length:Int)≤100000000):Tl (fun k=>spec_OrdValid.f k l) (ordOf l).isSome:=by
 refine Tl.b (Tl.c (l1In_eq _ 1 60)) ?_
 unfold ordOf
 by_cases hl:1≤l.length∧l.length≤60
 ·rw[if_pos hl]
  refine Tl.p (decide_eq_true (by omega)) ?_
  refine Tl.b (end_ev 61 [] l (by omega) (by simpa using h)) ?_
  refine Tl.to (Tl.w _) ?_
  simp only[List.nil_append]
  cases take 61 l with
  | none=>rw[endv_none];simp<;>omega
  | some q =>
   obtain⟨x,l'⟩:=q
   rw[endv_some]
   cases l' with
   | nil=>simp
   | cons a l'=>simp;omega
 ·rw[if_neg hl]
  refine Tl.n (by simp;omega) ?_
  exact Tl.w _
theorem row_inj':∀ (x y:O) (a b:List Int),row x++a=row y++b→x=y∧a=b:=by
 have fl:∀ (x y:O) (a b:List Int),x.length=y.length→flat x++a=flat y++b→x=y∧a=b:=by
  intro x
  induction x using ind with
  | h0 =>
   intro y a b h1 h2
   cases y with
   | nil=>exact⟨rfl,by simpa [flat_nil] using h2⟩
   | cons _ _=>simp at h1
  | h1 c e r ihe ihr =>
   intro y a b h1 h2
   cases y with
   | nil=>simp at h1
   | cons t s =>
    obtain⟨d,f⟩:=t
    rw[flat_cons,flat_cons] at h2
    unfold row at h2
    simp only[List.cons_append,List.append_assoc,List.cons.injEq] at h2
    obtain⟨h3,h4,h5⟩:=h2
    obtain⟨h6,h7⟩:=ihe f _ _ (by omega) h5
    obtain⟨h8,h9⟩:=ihr s _ _ (by simpa using h1) h7
    subst h3;subst h6;subst h8
    exact⟨rfl,h9⟩
 intro x y a b h
 unfold row at h
 simp only[List.cons_append,List.cons.injEq] at h
 exact fl x y a b (by omega) h.2
theorem or_' (x:O):ordOf (row x)=some x∨(ordOf (row x)=none∧¬ Vd x):=by
 cases h:ordOf (row x) with
 | none=>exact .inr ⟨rfl,fun hv=>by rw[or_ hv] at h;cases h⟩
 | some y =>
  obtain⟨h1,h2⟩:=os_ h
  have:=row_inj' x y [] [] (by rw[h1])
  rw[this.1];exact .inl rfl
end Go.Proofs.Ytfblcanijhnhmaa.P
namespace Go.Proofs.Ytfblcanijhnhmaa.P
open OM Go.RowKit Go.Proofs.YtfblcanijhnhmaaW.PrintWords Go.Proofs.YtfblcanijhnhmaaW.PrintLast Go.Proofs.YtfblcanijhnhmaaW.PrintMore
set_option linter.unusedVariables false
theorem ordv_some {l:List Int}{x:O}(h:ordOf l=some x):ordv l=(x,true):=by unfold ordv;rw[h]
theorem ordv_none {l:List Int}(h:ordOf l=none):(ordv l).2=false:=by unfold ordv;rw[h]
theorem valid_ev {l:List Int}{x:O}(h:ordOf l=some x):Tl (fun k=>spec_OrdValid.f k l) true:=by
 have h1:=os_ h
 have h2:=rl_ x
 have:=@ordValid_ev l (by rw[h1.1,h2];have:=h1.2.2.2;omega)
 rw[h] at this;exact this
theorem invalid_ev {l:List Int}(hl:(l.length:Int)≤100000000)(h:ordOf l=none):Tl (fun k=>spec_OrdValid.f k l) false:=by
 have:=@ordValid_ev l hl
 rw[h] at this;exact this
theorem ord_ev {l:List Int}{x:O}(h:ordOf l=some x):Tl (fun k=>impl_ordOf.f k l) (x,true):=by
 have:=@ordOf_ev l
 rw[ordv_some h] at this;exact this
theorem es_zero (c:Int)(e r:O):rd_L2 (es (⟨c,e⟩::r)) 0=row e:=rfl
theorem cs_zero (c:Int)(e r:O):rd (cs (⟨c,e⟩::r)) 0=c:=rfl
theorem rdT_zero (t:Tm)(r:O):rd_T61 (t::r) 0=t:=rfl
theorem validRow_ev {x:O}(hx:NF x)(hz:size x≤100000000):Tl (fun k=>spec_OrdValid.f k (row x)) (decide (size x≤60∧most x≤9999)):=by
 have hl:=rl_ x
 have:=@ordValid_ev (row x) (by omega)
 refine Tl.to this ?_
 by_cases h:size x≤60∧most x≤9999
 ·rw[or_ ⟨hx,h.2,h.1⟩,decide_eq_true h];rfl
 ·rcases or_' x with g | ⟨g,_⟩
  ·have:=(os_ g).2
   exact absurd ⟨this.2.2,this.2.1⟩ h
  ·rw[g,decide_eq_false h];rfl
theorem toldv_length (x:O):((toldv x).1.length:Int)≤60:=by
 unfold toldv
 split
 ·show ((row x).length:Int)≤60
  rw[rl_];omega
 ·simp
theorem tt_ {x:O}(h:size x≤60∧most x≤9999):toldv x=(row x,true):=by unfold toldv;rw[if_pos h]
theorem tf_ {x:O}(h:¬ (size x≤60∧most x≤9999)):toldv x=([],false):=by unfold toldv;rw[if_neg h]
end Go.Proofs.Ytfblcanijhnhmaa.P
namespace Go.Proofs.Ytfblcanijhnhmaa.P
open OM Go.RowKit Go.Proofs.YtfblcanijhnhmaaW.PrintWords Go.Proofs.YtfblcanijhnhmaaW.PrintLast Go.Proofs.YtfblcanijhnhmaaW.PrintMore
set_option linter.unusedVariables false
theorem addB_l {d0:Int}{f s:O}(hf:size f≤1000000000)(hs:(s.length:Int)≤1000000000):∀ (r p acc:O) (d:Int),NF r→below f r→size (p++r)≤1000000000→(acc.length:Int)≤1000000000 →
 Tl (fun k=>impl_add.l0 k (⟨d0,f⟩::s) acc (p++r) ((p++r).length:Int) (p.length:Int) d f) (acc++⟨d,f⟩::s):=by
 intro r
 induction r with
 | nil =>
  intro p acc d h1 h2 h3 h4
  refine Tl.s (fun k=>by rw[impl_add.l0]) ?_
  refine Tl.n (by simp) ?_
  refine Tl.p (by omega) ?_
  refine Tl.d ?_
  refine Tl.p (by simp<;>omega) ?_
  refine Tl.d ?_
  refine Tl.p (by simp<;>omega) ?_
  refine Tl.to (Tl.w _) ?_
  simp
 | cons t r ih =>
  intro p acc d h1 h2 h3 h4
  obtain⟨c,e⟩:=t
  obtain⟨g1,g2,g3,g4⟩:=NF_cons.1 h1
  have hlt:Lt e f:=h2
  have hp:=ll_ p
  have z:=h3
  rw[sa_,sc_] at z
  have:=sp_ r
  have:=sp_ p
  have:=sp_ e
  refine Tl.s (fun k=>by rw[impl_add.l0]) ?_
  refine Tl.p (by simp<;>omega) ?_
  refine Tl.p (by omega) ?_
  refine Tl.p (by simp<;>omega) ?_
  rw[rdT_mid p r ⟨c,e⟩ rfl]
  refine Tl.b (compare_ev (by show size e≤_;omega) (by omega)) ?_
  rw[show cmp (Tm.mk c e).f1 f=-1 from hlt]
  refine Tl.n (by omega) ?_
  refine Tl.n (by omega) ?_
  rw[wi_ (by omega) (by omega),snoc p]
  have:=ih (p++[⟨c,e⟩]) acc d g3 (below.mono hlt g4) (by rw[← snoc];exact h3) h4
  rw[show ((p++[(⟨c,e⟩:Tm)]).length:Int)=(p.length:Int)+1 by simp] at this
  exact this
theorem addA_l {d:Int}{f s:O}(hf:size f≤1000000000)(hs:(s.length:Int)≤1000000000)(hd:0≤d∧d≤1000000000000000000):∀ (r p acc:O),NF r→most r≤1000000000000000000→size (p++r)≤1000000000→(acc.length:Int)+r.length≤1000000000 →
 Tl (fun k=>impl_add.l0 k (⟨d,f⟩::s) acc (p++r) ((p++r).length:Int) (p.length:Int) d f) (acc++add r (⟨d,f⟩::s)):=by
 intro r
 induction r with
 | nil =>
  intro p acc h1 h2 h3 h4
  rw[nil_add]
  exact addB_l hf hs [] p acc d h1 trivial h3 (by simp at h4;omega)
 | cons t r ih =>
  intro p acc h1 h2 h3 h4
  obtain⟨c,e⟩:=t
  obtain⟨g1,g2,g3,g4⟩:=NF_cons.1 h1
  have h2':=h2
  rw[mc_] at h2'
  have hp:=ll_ p
  have z:=h3
  rw[sa_,sc_] at z
  have:=sp_ r
  have:=sp_ p
  have:=sp_ e
  simp only[List.length_cons] at h4
  refine Tl.s (fun k=>by rw[impl_add.l0]) ?_
  refine Tl.p (by simp<;>omega) ?_
  refine Tl.p (by omega) ?_
  refine Tl.p (by simp<;>omega) ?_
  rw[rdT_mid p r ⟨c,e⟩ rfl]
  refine Tl.b (compare_ev (by show size e≤_;omega) (by omega)) ?_
  have hl:((p++[(⟨c,e⟩:Tm)]).length:Int)=(p.length:Int)+1:=by simp
  rcases cmp_range e f with hc | hc | hc
  ·rw[show cmp (Tm.mk c e).f1 f=-1 from hc]
   refine Tl.n (by omega) ?_
   refine Tl.n (by omega) ?_
   rw[wi_ (by omega) (by omega),snoc p,add_lt hc]
   have:=addB_l (d0:=d) hf hs r (p++[⟨c,e⟩]) acc d g3 (below.mono hc g4) (by rw[← snoc];exact h3) (by omega)
   rw[hl] at this
   exact this
  ·rw[show cmp (Tm.mk c e).f1 f=0 from hc]
   refine Tl.n (by omega) ?_
   refine Tl.p rfl ?_
   have he:=cmp_eq hc
   subst he
   rw[wi_ (i:=(p.length:Int)+1) (by omega) (by omega),wi_ (by show _≤d+c;omega) (by show d+c≤_;omega),snoc p,add_eq]
   have:=addB_l (d0:=d) hf hs r (p++[⟨c,e⟩]) acc (d+c) g3 g4 (by rw[← snoc];exact h3) (by omega)
   rw[hl,Int.add_comm d c] at this
   rw[Int.add_comm c d]
   rw[Int.add_comm c d] at this
   exact this
  ·rw[show cmp (Tm.mk c e).f1 f=1 from hc]
   refine Tl.p (by omega) ?_
   refine Tl.p (by omega) ?_
   refine Tl.d ?_
   refine Tl.n (by omega) ?_
   rw[wi_ (by omega) (by omega),snoc p,add_gt (gt_lt hc)]
   have:=ih (p++[⟨c,e⟩]) (acc++[⟨c,e⟩]) g3 (by omega) (by rw[← snoc];exact h3) (by simp<;>omega)
   rw[hl] at this
   refine Tl.to this ?_
   simp
theorem add_ev {x y:O}(hx:NF x)(mx:most x≤1000000000000000000)(my:most y≤1000000000000000000)(zx:size x≤1000000000)(zy:size y≤1000000000)(hy:NF y):Tl (fun k=>impl_add.f k x y) (add x y):=by
 cases y with
 | nil=>rw[add_nil];exact Tl.p rfl (Tl.w _)
 | cons t s =>
  obtain⟨d,f⟩:=t
  have hl:=ll_ x
  have hs:=ll_ s
  rw[sc_] at zy
  rw[mc_] at my
  have:=sp_ f
  have:=sp_ s
  have:=(NF_cons.1 hy).1
  refine Tl.n (by simp<;>omega) ?_
  refine Tl.p (by simp<;>omega) ?_
  exact addA_l (by omega) (by omega) ⟨by omega,by omega⟩ x [] [] hx mx zx (by simp<;>omega)
theorem size_add (x y:O):size (add x y)≤size x+size y:=by
 induction x with
 | nil=>rw[nil_add,sn_];omega
 | cons t r ih =>
  cases y with
  | nil=>rw[add_nil,sn_];omega
  | cons u s =>
   obtain⟨c,e⟩:=t
   obtain⟨d,f⟩:=u
   have:=sp_ r
   have:=sp_ e
   rcases cmp_range e f with hc | hc | hc
   ·rw[add_lt hc,sc_,sc_];omega
   ·have he:=cmp_eq hc
    subst he
    rw[add_eq,sc_,sc_,sc_];omega
   ·rw[add_gt (gt_lt hc),sc_,sc_ c];omega
end Go.Proofs.Ytfblcanijhnhmaa.P
namespace Go.Proofs.Ytfblcanijhnhmaa.P
open OM Go.RowKit Go.Proofs.YtfblcanijhnhmaaW.PrintWords Go.Proofs.YtfblcanijhnhmaaW.PrintLast Go.Proofs.YtfblcanijhnhmaaW.PrintMore
set_option linter.unusedVariables false
theorem two_some {a b:List Int}{x y:O}(ha:ordOf a=some x)(hb:ordOf b=some y):Tl (fun k=>impl_both.f k a b) (x,y,true):=by
 refine Tl.b (ord_ev ha) ?_
 refine Tl.b (ord_ev hb) ?_
 exact Tl.p rfl (Tl.w _)
theorem two_none {a b:List Int}(h:ordOf a=none∨ordOf b=none):∃ x y,Tl (fun k=>impl_both.f k a b) (x,y,false):=by
 cases ha:ordOf a with
 | none =>
  refine⟨(ordv a).1,(ordv b).1,?_⟩
  refine Tl.b ordOf_ev ?_
  refine Tl.b ordOf_ev ?_
  exact Tl.n (by rw[ordv_none ha];simp) (Tl.w _)
 | some x =>
  have hb:ordOf b=none:=by rcases h with h | h;rw[ha] at h;cases h;exact h
  refine⟨x,(ordv b).1,?_⟩
  refine Tl.b (ord_ev ha) ?_
  refine Tl.b ordOf_ev ?_
  refine Tl.p rfl ?_
  exact Tl.to (Tl.w _) (by rw[ordv_none hb])
def addv (a b:List Int):List Int × Bool:=match ordOf a,ordOf b with
 | some x,some y=>toldv (add x y)
 | _,_=>([],false)
theorem addv_some {a b:List Int}{x y:O}(h:ordOf a=some x)(g:ordOf b=some y):addv a b=toldv (add x y):=by unfold addv;rw[h,g]
theorem addv_none {a b:List Int}(h:ordOf a=none∨ordOf b=none):addv a b=([],false):=by
 unfold addv
 rcases h with h | h
 ·rw[h]
 ·rw[h];cases ordOf a<;>rfl
theorem addV_ev {x y:O}(hx:Vd x)(hy:Vd y):Tl (fun k=>impl_add.f k x y) (add x y):=by
 have h1:=hx.2.1
 have h2:=hx.2.2
 have h3:=hy.2.1
 have h4:=hy.2.2
 exact add_ev hx.1 (by omega) (by omega) (by omega) (by omega) hy.1
theorem implOrdAdd_ev {a b:List Int}:Tl (fun k=>impl_OrdAdd.f k a b) (addv a b):=by
 by_cases h:ordOf a=none∨ordOf b=none
 ·rw[addv_none h]
  obtain⟨x,y,t⟩:=two_none h
  refine Tl.b t ?_
  exact Tl.n (by simp) (Tl.w _)
 ·cases ha:ordOf a with
  | none=>exact absurd (.inl ha) h
  | some x =>
   cases hb:ordOf b with
   | none=>exact absurd (.inr hb) h
   | some y =>
    rw[addv_some ha hb]
    have h1:=(os_ ha).2
    have h2:=(os_ hb).2
    refine Tl.b (two_some ha hb) ?_
    refine Tl.p rfl ?_
    refine Tl.b (addV_ev h1 h2) ?_
    have:=size_add x y
    have:=h1.2.2
    have:=h2.2.2
    exact Tl.b (told_ev (by show size (add x y)≤_;omega)) (Tl.w _)
end Go.Proofs.Ytfblcanijhnhmaa.P
namespace Go.Proofs.Ytfblcanijhnhmaa.P
open OM Go.RowKit Go.Proofs.YtfblcanijhnhmaaW.PrintWords Go.Proofs.YtfblcanijhnhmaaW.PrintLast Go.Proofs.YtfblcanijhnhmaaW.PrintMore
set_option linter.unusedVariables false
def Above (f:O)(p:O):Prop:=∀ t ∈ p,Lt f t.f1
theorem Above.nil (f:O):Above f []:=fun _ h=>by simp at h
theorem Above.snoc {f:O}{p:O}(h:Above f p){c:Int}{e:O}(he:Lt f e):Above f (p++[⟨c,e⟩]):=by
 intro t ht
 rcases List.mem_append.1 ht with ht | ht
 ·exact h t ht
 ·rw[List.mem_singleton.1 ht];exact he
theorem size_mul {c:Int}{e r:O}:∀ y:O,size (mul (⟨c,e⟩::r) y)≤(size y+1)*(size e+size r+1):=by
 intro y
 have h1:=sp_ e
 have h2:=sp_ r
 generalize hK:size e+size r+1=K
 induction y with
 | nil =>
  rw[mul_nil,sn_]
  omega
 | cons t s ih =>
  obtain⟨d,f⟩:=t
  have h3:=sp_ s
  have h4:=sp_ f
  by_cases h:f=[]
  ·subst h
   rw[mul_fin,sc_,sc_,sn_]
   have:1*K≤(1+1+size s+1)*K:=Int.mul_le_mul_of_nonneg_right (by omega) (by omega)
   omega
  ·rw[mul_cons h,sc_,sc_]
   have h5:=size_add e f
   have h6:size f*1≤size f*K:=Int.mul_le_mul_of_nonneg_left (by omega) (by omega)
   have h7:(1+size f+size s+1)*K=(size s+1)*K+K+size f*K:=by simp only[Int.add_mul,Int.one_mul];omega
   omega
theorem size_mul_le {x y:O}(hx:size x≤60)(hy:size y≤60):size (mul x y)≤5000:=by
 cases x with
 | nil=>rw[nil_mul,sn_];omega
 | cons t r =>
  obtain⟨c,e⟩:=t
  rw[sc_] at hx
  have h1:=@size_mul c e r y
  have h2:=sp_ e
  have h3:=sp_ r
  have h4:=sp_ y
  have h5:(size y+1)*(size e+size r+1)≤61*(size e+size r+1):=Int.mul_le_mul_of_nonneg_right (by omega) (by omega)
  omega
theorem size_mul_fin (y:O)(n:Int):size (mul y [⟨n,[]⟩])≤size y:=by
 cases y with
 | nil=>rw[nil_mul];omega
 | cons t r=>obtain⟨c,e⟩:=t;rw[mul_fin,sc_,sc_];omega
theorem coef {c:Int}{e r:O}(h:Vd (⟨c,e⟩::r)):1≤c∧c≤9999:=(Vd_cons h).2.2
def divn (c d:Int)(x y:O):Int:=if 0<c / d∧cmp x (mul y [⟨c / d,[]⟩])<0 then c / d-1 else c / d
theorem divB_eq (c d:Int)(e r s:O):divB (⟨c,e⟩::r) (⟨d,e⟩::s)=if 0<divn c d (⟨c,e⟩::r) (⟨d,e⟩::s) then([⟨divn c d (⟨c,e⟩::r) (⟨d,e⟩::s),[]⟩],minus (⟨c,e⟩::r) (mul (⟨d,e⟩::s) [⟨divn c d (⟨c,e⟩::r) (⟨d,e⟩::s),[]⟩])) else([],⟨c,e⟩::r):=by
 unfold divB divn
 simp only
 rw[if_pos (cmp_self e)]
theorem divn_ge {c d:Int}{e r s:O}(hc:1≤c)(hd:1≤d)(h:0<divn c d (⟨c,e⟩::r) (⟨d,e⟩::s)):0≤cmp (⟨c,e⟩::r) (mul (⟨d,e⟩::s) [⟨divn c d (⟨c,e⟩::r) (⟨d,e⟩::s),[]⟩]):=by
 unfold divn at h ⊢
 by_cases g:0<c / d∧cmp (⟨c,e⟩::r) (mul (⟨d,e⟩::s) [⟨c / d,[]⟩])<0
 ·rw[if_pos g] at h ⊢
  have q1:d*(c / d)≤c:=Int.mul_ediv_self_le (by omega)
  have q2:d*(c / d-1)=d*(c / d)-d:=by rw[Int.mul_sub,Int.mul_one]
  rw[mul_fin,cmp_gt_c (by omega)];omega
 ·rw[if_neg g] at h ⊢
  have:¬ cmp (⟨c,e⟩::r) (mul (⟨d,e⟩::s) [⟨c / d,[]⟩])<0:=fun z=>g ⟨h,z⟩
  omega
theorem divn_range {c d:Int}{x y:O}(hc:0≤c)(hd:1≤d):-1≤divn c d x y∧divn c d x y≤c:=by
 have q0:0≤c / d:=Int.ediv_nonneg hc (by omega)
 have q1:c / d≤c:=Int.ediv_le_self _ hc
 unfold divn
 split<;>omega
theorem div_gt {e f:O}(h:Lt f e)(c d:Int)(r s:O):div (⟨c,e⟩::r) (⟨d,f⟩::s)=(⟨c,minus e f⟩::(div r (⟨d,f⟩::s)).1,(div r (⟨d,f⟩::s)).2):=by rw[div,if_pos h.gt]
theorem div_le {e f:O}(h:¬ cmp e f=1)(c d:Int)(r s:O):div (⟨c,e⟩::r) (⟨d,f⟩::s)=divB (⟨c,e⟩::r) (⟨d,f⟩::s):=by rw[div,if_neg h]
theorem div_nil (y:O):div [] y=([],[]):=by unfold div;rfl
end Go.Proofs.Ytfblcanijhnhmaa.P
namespace Go.Proofs.Ytfblcanijhnhmaa.P
open OM Go.RowKit Go.Proofs.YtfblcanijhnhmaaW.PrintWords Go.Proofs.YtfblcanijhnhmaaW.PrintLast Go.Proofs.YtfblcanijhnhmaaW.PrintMore
set_option linter.unusedVariables false
theorem csL (p:O)(c:Int)(e:O):rd (cs (p++[⟨c,e⟩])) (p.length:Int)=c:=by rw[cs_append];exact rd_mid (cs p) [] c (by rw[cl_])
theorem esL (p:O)(c:Int)(e:O):rd_L2 (es (p++[⟨c,e⟩])) (p.length:Int)=row e:=by rw[es_append];exact rdL_mid (es p) [] (row e) (by rw[el_])
theorem csM (p r:O)(c:Int)(e:O):rd (cs (p++⟨c,e⟩::r)) (p.length:Int)=c:=by rw[cs_append];exact rd_mid (cs p) (cs r) c (by rw[cl_])
theorem esM (p r:O)(c:Int)(e:O):rd_L2 (es (p++⟨c,e⟩::r)) (p.length:Int)=row e:=by rw[es_append];exact rdL_mid (es p) (es r) (row e) (by rw[el_])
theorem fitR_ev {x:O}(hx:NF x)(hz:size x≤100000000):Tl (fun k=>spec_l2Fit.f k (row x)) (toldv x):=by
 refine Tl.b (validRow_ev hx hz) ?_
 by_cases h:size x≤60∧most x≤9999
 ·rw[tt_ h,decide_eq_true h];exact Tl.p rfl (Tl.w _)
 ·rw[tf_ h,decide_eq_false h];exact Tl.n (by simp) (Tl.w _)
theorem addEnd {d:Int}{f s p:O}(hp:Above f p)(zp:size p≤1000000)(zs:size (⟨d,f⟩::s)≤1000000):Tl (fun k=>spec_l2Add.j1 k (cs (⟨d,f⟩::s)) (es (⟨d,f⟩::s)) (cs p) (es p)) (row (p++⟨d,f⟩::s)):=by
 have lp:=ll_ p
 have ls:=ll_ (⟨d,f⟩::s)
 have hz:size (p++⟨d,f⟩::s)≤10000000000:=by rw[sa_];omega
 have hc:cs p++(cs (⟨d,f⟩::s)).drop 0=cs (p++⟨d,f⟩::s):=by rw[List.drop_zero,cs_append]
 have he:es p++(es (⟨d,f⟩::s)).drop 0=es (p++⟨d,f⟩::s):=by rw[List.drop_zero,es_append]
 have hm:=make_ev' hc he hz
 refine Tl.s (fun k=>by rw[spec_l2Add.j1]) ?_
 rcases List.eq_nil_or_concat p with h | ⟨p',t,h⟩
 ·subst h
  refine Tl.n (by simp[cs,wrap64]) ?_
  refine Tl.p (by omega) ?_
  refine Tl.d ?_
  refine Tl.p (by simp only[List.drop_zero,cl_];omega) ?_
  refine Tl.p (by omega) ?_
  refine Tl.d ?_
  refine Tl.p (by simp only[List.drop_zero,el_];omega) ?_
  exact Tl.b hm (Tl.w _)
 ·rw[List.concat_eq_append] at h
  subst h
  obtain⟨c,e⟩:=t
  have hlt:Lt f e:=hp ⟨c,e⟩ (by simp)
  have hl:(((cs (p'++[⟨c,e⟩])).length:Nat):Int)=(p'.length:Int)+1:=by rw[cl_];simp
  have hl':(((es (p'++[⟨c,e⟩])).length:Nat):Int)=(p'.length:Int)+1:=by rw[el_];simp
  have hlp:((p'++[(⟨c,e⟩:Tm)]).length:Int)=(p'.length:Int)+1:=by simp
  have z1:=zp
  rw[sa_,sc_,sn_] at z1
  have:=sp_ p'
  have zs1:=zs
  rw[sc_] at zs1
  have:=sp_ s
  rw[hl,wi_ (i:=(p'.length:Int)+1-1) (by omega) (by omega),show (p'.length:Int)+1-1=p'.length by omega]
  refine Tl.p (by omega) ?_
  refine Tl.p (by omega) ?_
  refine Tl.p (by omega) ?_
  refine Tl.p (by rw[el_];simp<;>omega) ?_
  rw[esL,es_zero]
  refine Tl.b (specCompare_ev (by omega) (by omega)) ?_
  refine Tl.n (by rw[hlt.gt];omega) ?_
  refine Tl.p (by omega) ?_
  refine Tl.d ?_
  refine Tl.p (by simp only[List.drop_zero,cl_];omega) ?_
  refine Tl.p (by omega) ?_
  refine Tl.d ?_
  refine Tl.p (by simp only[List.drop_zero,el_];omega) ?_
  exact Tl.b hm (Tl.w _)
theorem addJoin {c d:Int}{f s p:O}(hc:0≤c∧c≤1000000000000000000)(hd:0≤d∧d≤1000000000000000000)(zp:size (p++[⟨c,f⟩])≤1000000)(zs:size (⟨d,f⟩::s)≤1000000) :
 Tl (fun k=>spec_l2Add.j1 k (cs (⟨d,f⟩::s)) (es (⟨d,f⟩::s)) (cs (p++[⟨c,f⟩])) (es (p++[⟨c,f⟩]))) (row (p++⟨c+d,f⟩::s)):=by
 have lp:=ll_ (p++[⟨c,f⟩])
 have ls:=ll_ (⟨d,f⟩::s)
 have z1:=zp
 rw[sa_,sc_,sn_] at z1
 have zs1:=zs
 rw[sc_] at zs1
 have:=sp_ p
 have:=sp_ s
 have:=sp_ f
 have hz:size (p++⟨c+d,f⟩::s)≤10000000000:=by rw[sa_,sc_];omega
 have hl:(((cs (p++[⟨c,f⟩])).length:Nat):Int)=(p.length:Int)+1:=by rw[cl_];simp
 have hl':(((es (p++[⟨c,f⟩])).length:Nat):Int)=(p.length:Int)+1:=by rw[el_];simp
 have hlp:((p++[(⟨c,f⟩:Tm)]).length:Int)=(p.length:Int)+1:=by simp
 have hls:((⟨d,f⟩::s:O).length:Int)=(s.length:Int)+1:=by simp
 refine Tl.s (fun k=>by rw[spec_l2Add.j1]) ?_
 rw[hl,wi_ (i:=(p.length:Int)+1-1) (by omega) (by omega),show (p.length:Int)+1-1=p.length by omega]
 refine Tl.p (by omega) ?_
 refine Tl.p (by omega) ?_
 refine Tl.p (by omega) ?_
 refine Tl.p (by rw[el_];omega) ?_
 rw[esL,es_zero]
 refine Tl.b (specCompare_ev (by omega) (by omega)) ?_
 refine Tl.p (cmp_self f) ?_
 refine Tl.p (by omega) ?_
 refine Tl.p (by rw[cl_];omega) ?_
 refine Tl.d ?_
 refine Tl.p (by rw[cl_];omega) ?_
 refine Tl.d ?_
 refine Tl.p (by simp only[List.length_set,List.length_drop,cl_];omega) ?_
 refine Tl.p (by rw[el_];omega) ?_
 refine Tl.d ?_
 refine Tl.p (by simp only[List.length_drop,el_];omega) ?_
 have hA:(cs (p++[⟨c,f⟩])).set ((p.length:Int)).toNat (wrap64 ((rd (cs (p++[⟨c,f⟩])) (p.length:Int))+(rd (cs (⟨d,f⟩::s)) 0)))++(cs (⟨d,f⟩::s)).drop 1=cs (p++⟨c+d,f⟩::s):=by
  rw[csL,cs_zero,wi_ (by omega) (by omega),cs_append,cs_append,Int.toNat_natCast,← cl_ p]
  simp[cs]
 have hB:es (p++[⟨c,f⟩])++(es (⟨d,f⟩::s)).drop 1=es (p++⟨c+d,f⟩::s):=by
  rw[es_append,es_append]
  simp[es]
 exact Tl.b (make_ev' hA hB hz) (Tl.w _)
theorem l2Add_l {d:Int}{f s:O}(hd:0≤d∧d≤1000000000000000000)(zs:size (⟨d,f⟩::s)≤1000000):∀ (r p:O),NF r→most r≤1000000000000000000→Above f p→size (p++r)≤1000000 →
 Tl (fun k=>spec_l2Add.l0 k (cs (⟨d,f⟩::s)) (es (⟨d,f⟩::s)) (cs (p++r)) (es (p++r)) (cs p) (es p) (p.length:Int)) (row (p++add r (⟨d,f⟩::s))):=by
 intro r
 have zs1:=zs
 rw[sc_] at zs1
 have:=sp_ s
 have:=sp_ f
 induction r with
 | nil =>
  intro p h1 hm h2 h3
  refine Tl.s (fun k=>by rw[spec_l2Add.l0]) ?_
  refine Tl.n (by rw[cl_];simp) ?_
  rw[nil_add]
  exact addEnd h2 (by rw[List.append_nil] at h3;exact h3) zs
 | cons t r ih =>
  intro p h1 hm h2 h3
  obtain⟨c,e⟩:=t
  obtain⟨g1,g2,g3,g4⟩:=NF_cons.1 h1
  have hm':=hm
  rw[mc_] at hm'
  have h3':=h3
  rw[sa_,sc_] at h3'
  have:=sp_ r
  have:=sp_ p
  have:=sp_ e
  have lp:=ll_ p
  have lpr:=ll_ (p++⟨c,e⟩::r)
  refine Tl.s (fun k=>by rw[spec_l2Add.l0]) ?_
  refine Tl.p (by rw[cl_];simp<;>omega) ?_
  refine Tl.p (by omega) ?_
  refine Tl.p (by rw[el_];simp<;>omega) ?_
  refine Tl.p (by rw[el_];simp<;>omega) ?_
  rw[esM,es_zero,csM]
  refine Tl.b (specCompare_ev (by omega) (by omega)) ?_
  show Tl (fun k=>if cmp e f≥0 then _ else _) _
  have hcs:cs p++[c]=cs (p++[⟨c,e⟩]):=by rw[cs_append];rfl
  have hes:es p++[row e]=es (p++[⟨c,e⟩]):=by rw[es_append];rfl
  have hl:((p++[(⟨c,e⟩:Tm)]).length:Int)=(p.length:Int)+1:=by simp
  rcases cmp_range e f with q | q | q
  ·rw[q,add_lt q]
   refine Tl.n (by omega) ?_
   exact addEnd h2 (by omega) zs
  ·have he:=cmp_eq q
   subst he
   rw[q,add_eq]
   refine Tl.p (by omega) ?_
   refine Tl.p (by rw[cl_];omega) ?_
   refine Tl.p (by rw[el_];omega) ?_
   rw[wi_ (i:=(p.length:Int)+1) (by omega) (by omega),hcs,hes,← hl,snoc p]
   have zp:size (p++[⟨c,e⟩])≤1000000:=by rw[sa_,sc_,sn_];omega
   have hend:=addJoin (c:=c) (d:=d) (f:=e) (s:=s) (p:=p) ⟨by omega,by omega⟩ hd zp zs
   refine Tl.s (fun k=>by rw[spec_l2Add.l0]) ?_
   cases r with
   | nil =>
    refine Tl.n (by rw[cl_];simp) ?_
    exact hend
   | cons t' r' =>
    obtain⟨c',e'⟩:=t'
    have hlt:Lt e' e:=g4
    have:=sp_ e'
    have:=sp_ r'
    rw[sc_] at h3'
    refine Tl.p (by rw[cl_];simp<;>omega) ?_
    refine Tl.p (by omega) ?_
    refine Tl.p (by rw[el_];simp<;>omega) ?_
    refine Tl.p (by rw[el_];simp<;>omega) ?_
    rw[esM,es_zero]
    refine Tl.b (specCompare_ev (by omega) (by omega)) ?_
    refine Tl.n (by rw[show cmp e' e=-1 from hlt];omega) ?_
    exact hend
  ·rw[q,add_gt (gt_lt q)]
   refine Tl.p (by omega) ?_
   refine Tl.p (by rw[cl_];omega) ?_
   refine Tl.p (by rw[el_];omega) ?_
   rw[wi_ (i:=(p.length:Int)+1) (by omega) (by omega),hcs,hes,← hl,snoc p]
   have:=ih (p++[⟨c,e⟩]) g3 (by omega) (h2.snoc (gt_lt q)) (by rw[← snoc];exact h3)
   refine Tl.to this ?_
   simp
theorem specl2Add_ev {x y:O}(hx:NF x)(hy:NF y)(zx:size x≤1000000)(zy:size y≤1000000)(mx:most x≤1000000000000000000)(my:most y≤1000000000000000000):Tl (fun k=>spec_l2Add.f k (row x) (row y)) (row (add x y)):=by
 refine Tl.b (terms_ev (by omega)) ?_
 cases y with
 | nil =>
  refine Tl.p rfl ?_
  refine Tl.d ?_
  have:=rl_ x
  refine Tl.p (by simp<;>omega) ?_
  rw[add_nil];exact Tl.w _
 | cons t s =>
  obtain⟨d,f⟩:=t
  rw[mc_] at my
  have:=(NF_cons.1 hy).1
  refine Tl.n (by rw[cl_];simp<;>omega) ?_
  refine Tl.b (terms_ev (by omega)) ?_
  exact l2Add_l ⟨by omega,by omega⟩ zy x [] hx mx (Above.nil f) zx
theorem specAddV_ev {x y:O}(hx:Vd x)(hy:Vd y):Tl (fun k=>spec_l2Add.f k (row x) (row y)) (row (add x y)):=by
 have h1:=hx.2.1
 have h2:=hx.2.2
 have h3:=hy.2.1
 have h4:=hy.2.2
 exact specl2Add_ev hx.1 hy.1 (by omega) (by omega) (by omega) (by omega)
end Go.Proofs.Ytfblcanijhnhmaa.P
namespace Go.Proofs.Ytfblcanijhnhmaa.P
open OM Go.RowKit Go.Proofs.YtfblcanijhnhmaaW.PrintWords Go.Proofs.YtfblcanijhnhmaaW.PrintLast Go.Proofs.YtfblcanijhnhmaaW.PrintMore
set_option linter.unusedVariables false
theorem prod_range {c d:Int}(hc:1≤c∧c≤9999)(hd:1≤d∧d≤9999):1≤c*d∧c*d≤99980001:=by
 have h1:1*1≤c*d:=Int.mul_le_mul hc.1 hd.1 (by omega) (by omega)
 have h2:c*d≤9999*9999:=Int.mul_le_mul hc.2 hd.2 (by omega) (by omega)
 omega
theorem times_l {c:Int}{e r:O}(hx:Vd (⟨c,e⟩::r)):∀ (s p acc:O),Vd (p++s)→Vd s→(acc.length:Int)+100*s.length≤1000000 →
 Tl (fun k=>impl_times.l0 k (⟨c,e⟩::r) acc (p++s) ((p++s).length:Int) (p.length:Int)) (acc++mul (⟨c,e⟩::r) s):=by
 have he:Vd e:=(Vd_cons hx).1
 have hc:=coef hx
 have hr:=ll_ r
 have hrz:=hx.2.2
 rw[sc_] at hrz
 have:=sp_ e
 intro s
 induction s with
 | nil =>
  intro p acc h1 h2 h3
  refine Tl.s (fun k=>by rw[impl_times.l0]) ?_
  refine Tl.n (by simp) ?_
  refine Tl.to (Tl.w _) ?_
  rw[mul_nil,List.append_nil]
 | cons t s ih =>
  intro p acc h1 h2 h3
  obtain⟨d,f⟩:=t
  obtain⟨hf,hs,hd⟩:=Vd_cons h2
  have hp:=ll_ p
  have z:=h1.2.2
  rw[sa_,sc_] at z
  have:=sp_ s
  have:=sp_ p
  have:=sp_ f
  simp only[List.length_cons] at h3
  refine Tl.s (fun k=>by rw[impl_times.l0]) ?_
  refine Tl.p (by simp<;>omega) ?_
  refine Tl.p (by omega) ?_
  refine Tl.p (by simp<;>omega) ?_
  rw[rdT_mid p s ⟨d,f⟩ rfl,rdT_zero]
  have hl:((p++[(⟨d,f⟩:Tm)]).length:Int)=(p.length:Int)+1:=by simp
  by_cases hz:f=[]
  ·subst hz
   have hs0:s=[]:=below_nil_eq (NF_cons.1 h2.1).2.2.2
   subst hs0
   refine Tl.n (by simp) ?_
   refine Tl.p (by simp<;>omega) ?_
   refine Tl.p (by omega) ?_
   refine Tl.d ?_
   refine Tl.p (by simp<;>omega) ?_
   refine Tl.d ?_
   refine Tl.p (by simp<;>omega) ?_
   have hpr:=prod_range hc hd
   rw[wi_ (i:=(p.length:Int)+1) (by omega) (by omega),wi_ (i:=(⟨c,e⟩:Tm).f0*(⟨d,[]⟩:Tm).f0) (by show _≤c*d;omega) (by show c*d≤_;omega),snoc p]
   have:=ih (p++[⟨d,[]⟩]) (acc++[⟨c*d,e⟩]++r) (by rw[← snoc];exact h1) Vd_nil (by simp<;>omega)
   rw[hl] at this
   refine Tl.to this ?_
   rw[mul_nil,mul_fin];simp
  ·refine Tl.p (by have:=List.length_pos_iff.2 hz;show (f.length:Int)>0;omega) ?_
   refine Tl.p (by simp<;>omega) ?_
   refine Tl.b (addV_ev he hf) ?_
   refine Tl.p (by omega) ?_
   rw[wi_ (i:=(p.length:Int)+1) (by omega) (by omega),snoc p]
   have:=ih (p++[⟨d,f⟩]) (acc++[⟨d,add e f⟩]) (by rw[← snoc];exact h1) hs (by simp<;>omega)
   rw[hl] at this
   refine Tl.to this ?_
   rw[mul_cons hz];simp
theorem timesV_ev {x y:O}(hx:Vd x)(hy:Vd y):Tl (fun k=>impl_times.f k x y) (mul x y):=by
 refine Tl.d ?_
 cases x with
 | nil=>rw[nil_mul];exact Tl.p rfl (Tl.w _)
 | cons t r =>
  obtain⟨c,e⟩:=t
  refine Tl.n (by simp<;>omega) ?_
  have:=ll_ y
  have:=hy.2.2
  exact times_l hx y [] [] hy hy (by simp<;>omega)
theorem specTimes_l {c:Int}{e r:O}(hx:Vd (⟨c,e⟩::r)):∀ (s p acc:O),Vd (p++s)→Vd s→(acc.length:Int)+100*s.length≤1000000→size (acc++mul (⟨c,e⟩::r) s)≤1000000 →
 Tl (fun k=>spec_l2Times.l0 k (cs (⟨c,e⟩::r)) (es (⟨c,e⟩::r)) (cs (p++s)) (es (p++s)) (cs acc) (es acc) (p.length:Int)) (row (acc++mul (⟨c,e⟩::r) s)):=by
 have he:Vd e:=(Vd_cons hx).1
 have hc:=coef hx
 have hr:=ll_ r
 have hrz:=hx.2.2
 rw[sc_] at hrz
 have:=sp_ e
 intro s
 induction s with
 | nil =>
  intro p acc h1 h2 h3 h4
  refine Tl.s (fun k=>by rw[spec_l2Times.l0]) ?_
  refine Tl.n (by rw[cl_];simp) ?_
  rw[mul_nil,List.append_nil] at h4 ⊢
  exact Tl.b (make_ev (by omega)) (Tl.w _)
 | cons t s ih =>
  intro p acc h1 h2 h3 h4
  obtain⟨d,f⟩:=t
  obtain⟨hf,hs,hd⟩:=Vd_cons h2
  have hp:=ll_ p
  have z:=h1.2.2
  rw[sa_,sc_] at z
  have:=sp_ s
  have:=sp_ p
  have:=sp_ f
  simp only[List.length_cons] at h3
  refine Tl.s (fun k=>by rw[spec_l2Times.l0]) ?_
  refine Tl.p (by rw[cl_];simp<;>omega) ?_
  refine Tl.p (by omega) ?_
  refine Tl.p (by rw[el_];simp<;>omega) ?_
  rw[esM,csM,es_zero,cs_zero]
  have hl:((p++[(⟨d,f⟩:Tm)]).length:Int)=(p.length:Int)+1:=by simp
  by_cases hz:f=[]
  ·subst hz
   have hs0:s=[]:=below_nil_eq (NF_cons.1 h2.1).2.2.2
   subst hs0
   have hpr:=prod_range hc hd
   refine Tl.n (by rw[row_nil];simp) ?_
   refine Tl.p (by rw[cl_];simp<;>omega) ?_
   refine Tl.p (by rw[cl_];omega) ?_
   refine Tl.d ?_
   refine Tl.p (by rw[cl_];simp<;>omega) ?_
   refine Tl.d ?_
   refine Tl.p (by simp only[List.length_append,List.length_drop,List.length_cons,List.length_nil,cl_];omega) ?_
   refine Tl.p (by rw[el_];simp<;>omega) ?_
   refine Tl.p (by rw[el_];omega) ?_
   refine Tl.d ?_
   refine Tl.p (by rw[el_];simp<;>omega) ?_
   refine Tl.d ?_
   refine Tl.p (by simp only[List.length_append,List.length_drop,List.length_cons,List.length_nil,el_];omega) ?_
   rw[wi_ (i:=(p.length:Int)+1) (by omega) (by omega),wi_ (i:=c*d) (by omega) (by omega),snoc p]
   have hA:cs acc++[c*d]++(cs (⟨c,e⟩::r)).drop 1=cs (acc++⟨c*d,e⟩::r):=by rw[cs_append];simp[cs]
   have hB:es acc++[row e]++(es (⟨c,e⟩::r)).drop 1=es (acc++⟨c*d,e⟩::r):=by rw[es_append];simp[es]
   rw[hA,hB]
   rw[mul_fin] at h4 ⊢
   have:=ih (p++[⟨d,[]⟩]) (acc++⟨c*d,e⟩::r) (by rw[← snoc];exact h1) Vd_nil (by simp<;>omega) (by rw[mul_nil,List.append_nil];exact h4)
   rw[hl] at this
   exact Tl.to this (by rw[mul_nil,List.append_nil])
  ·have hlen:((row f).length:Int)>1:=by
    have h5:=rl_ f
    have h6:=ll_ f
    have:=List.length_pos_iff.2 hz
    omega
   refine Tl.p hlen ?_
   refine Tl.p (by rw[cl_];omega) ?_
   refine Tl.p (by rw[el_];simp<;>omega) ?_
   refine Tl.b (specAddV_ev he hf) ?_
   refine Tl.p (by rw[el_];omega) ?_
   rw[wi_ (i:=(p.length:Int)+1) (by omega) (by omega),snoc p]
   have hA:cs acc++[d]=cs (acc++[⟨d,add e f⟩]):=by rw[cs_append];rfl
   have hB:es acc++[row (add e f)]=es (acc++[⟨d,add e f⟩]):=by rw[es_append];rfl
   rw[hA,hB]
   rw[mul_cons hz] at h4 ⊢
   have:=ih (p++[⟨d,f⟩]) (acc++[⟨d,add e f⟩]) (by rw[← snoc];exact h1) hs (by simp<;>omega) (by rw[← snoc];exact h4)
   rw[hl] at this
   refine Tl.to this ?_
   simp
theorem specTimesV_ev {x y:O}(hx:Vd x)(hy:Vd y):Tl (fun k=>spec_l2Times.f k (row x) (row y)) (row (mul x y)):=by
 have zx:=hx.2.2
 have zy:=hy.2.2
 have hzero:∀ A B C D,Tl (fun k=>spec_l2Times.j0 k A B C D true) (row []):=by
  intro A B C D
  refine Tl.s (fun k=>by rw[spec_l2Times.j0]) ?_
  exact Tl.p rfl (Tl.to (Tl.w _) row_nil.symm)
 refine Tl.b (terms_ev (by omega)) ?_
 refine Tl.b (terms_ev (by omega)) ?_
 cases x with
 | nil=>rw[nil_mul];exact Tl.p rfl (hzero _ _ _ _)
 | cons t r =>
  obtain⟨c,e⟩:=t
  refine Tl.n (by rw[cl_];simp<;>omega) ?_
  cases y with
  | nil=>rw[mul_nil];exact hzero _ _ _ _
  | cons u s =>
   have h0:((((cs (u::s)).length:Nat):Int) == 0)=false:=by rw[cl_];exact beq_eq_false_iff_ne.mpr (by simp<;>omega)
   show Tl (fun k=>spec_l2Times.j0 k _ _ _ _ ((((cs (u::s)).length:Nat):Int) == 0)) _
   rw[h0]
   refine Tl.s (fun k=>by rw[spec_l2Times.j0]) ?_
   refine Tl.n (by simp) ?_
   have:=ll_ (u::s)
   have:=size_mul_le (x:=⟨c,e⟩::r) (y:=u::s) zx zy
   exact specTimes_l hx (u::s) [] [] hy hy (by simp only[List.length_nil,List.length_cons] at *;omega) (by show size (mul _ _)≤_;omega)
def timesv (a b:List Int):List Int × Bool:=match ordOf a,ordOf b with
 | some x,some y=>toldv (mul x y)
 | _,_=>([],false)
theorem timesv_some {a b:List Int}{x y:O}(h:ordOf a=some x)(g:ordOf b=some y):timesv a b=toldv (mul x y):=by unfold timesv;rw[h,g]
theorem timesv_none {a b:List Int}(h:ordOf a=none∨ordOf b=none):timesv a b=([],false):=by
 unfold timesv
 rcases h with h | h
 ·rw[h]
 ·rw[h];cases ordOf a<;>rfl
theorem implOrdTimes_ev {a b:List Int}:Tl (fun k=>impl_OrdTimes.f k a b) (timesv a b):=by
 by_cases h:ordOf a=none∨ordOf b=none
 ·rw[timesv_none h]
  obtain⟨x,y,t⟩:=two_none h
  refine Tl.b t ?_
  exact Tl.n (by simp) (Tl.w _)
 ·cases ha:ordOf a with
  | none=>exact absurd (.inl ha) h
  | some x =>
   cases hb:ordOf b with
   | none=>exact absurd (.inr hb) h
   | some y =>
    rw[timesv_some ha hb]
    have h1:=(os_ ha).2
    have h2:=(os_ hb).2
    refine Tl.b (two_some ha hb) ?_
    refine Tl.p rfl ?_
    refine Tl.b (timesV_ev h1 h2) ?_
    have:=size_mul_le h1.2.2 h2.2.2
    exact Tl.b (told_ev (by show size (mul x y)≤_;omega)) (Tl.w _)
end Go.Proofs.Ytfblcanijhnhmaa.P
namespace Go.Proofs.Ytfblcanijhnhmaa.P
open OM Go.RowKit Go.Proofs.YtfblcanijhnhmaaW.PrintWords Go.Proofs.YtfblcanijhnhmaaW.PrintLast Go.Proofs.YtfblcanijhnhmaaW.PrintMore
set_option linter.unusedVariables false
def compv (a b:List Int):Int:=match ordOf a,ordOf b with
 | some x,some y=>cmp x y
 | _,_=>-2
theorem implOrdCompare_ev {a b:List Int}:Tl (fun k=>impl_OrdCompare.f k a b) (compv a b):=by
 refine Tl.b ordOf_ev ?_
 refine Tl.b ordOf_ev ?_
 unfold compv
 cases h:ordOf a with
 | none=>exact Tl.n (by rw[ordv_none h];simp) (Tl.w _)
 | some x =>
  rw[ordv_some h]
  refine Tl.p rfl ?_
  cases g:ordOf b with
  | none=>exact Tl.n (by rw[ordv_none g];simp) (Tl.w _)
  | some y =>
   rw[ordv_some g]
   refine Tl.p rfl ?_
   have:=(os_ h).2.size
   have:=(os_ g).2.size
   exact Tl.b (compare_ev (by show size x≤_;omega) (by show size y≤_;omega)) (Tl.w _)
end Go.Proofs.Ytfblcanijhnhmaa.P
namespace Go.Proofs.Ytfblcanijhnhmaa.P
open OM Go.RowKit Go.Proofs.YtfblcanijhnhmaaW.PrintWords Go.Proofs.YtfblcanijhnhmaaW.PrintLast Go.Proofs.YtfblcanijhnhmaaW.PrintMore
set_option linter.unusedVariables false
theorem same_l:∀ (a b p q:List Int),p.length=q.length→((p++a).length:Int)≤1000000000→Tl (fun k=>spec_l1Same.l0 k (p++a) (q++b) (p.length:Int)) (decide (a=b)):=by
 intro a
 induction a with
 | nil =>
  intro b p q h1 h2
  refine Tl.s (fun k=>by rw[spec_l1Same.l0]) ?_
  refine Tl.n (by simp) ?_
  refine Tl.s (fun k=>by rw[spec_l1Same.j1]) ?_
  refine Tl.n (by simp) ?_
  refine Tl.to (Tl.w _) ?_
  cases b with
  | nil=>simp[h1]
  | cons y b=>simp;omega
 | cons x a ih =>
  intro b p q h1 h2
  have h2':=h2
  simp only[List.length_append,List.length_cons] at h2'
  refine Tl.s (fun k=>by rw[spec_l1Same.l0]) ?_
  refine Tl.p (by simp<;>omega) ?_
  refine Tl.s (fun k=>by rw[spec_l1Same.j1]) ?_
  cases b with
  | nil =>
   refine Tl.n (by simp<;>omega) ?_
   refine Tl.to (Tl.w _) ?_
   simp;omega
  | cons y b =>
   refine Tl.p (by simp<;>omega) ?_
   refine Tl.p (by omega) ?_
   refine Tl.p (by simp<;>omega) ?_
   refine Tl.p (by simp<;>omega) ?_
   rw[rd_mid p a x rfl,rd_mid q b y (by rw[h1])]
   by_cases h:x=y
   ·refine Tl.p h ?_
    rw[wi_ (by omega) (by omega),snoc p,snoc q]
    have:=ih b (p++[x]) (q++[y]) (by simp[h1]) (by rw[← snoc];exact h2)
    rw[show ((p++[x]).length:Int)=(p.length:Int)+1 by simp] at this
    refine Tl.to this ?_
    simp[h]
   ·refine Tl.n h ?_
    refine Tl.to (Tl.w _) ?_
    simp[h]
theorem same_ev {a b:List Int}(h:(a.length:Int)≤1000000000):Tl (fun k=>spec_l1Same.f k a b) (decide (a=b)):=same_l a b [] [] rfl h
theorem row_same {x y:O}:row x=row y ↔ x=y:=⟨fun e=>(row_inj' x y [] [] (by rw[List.append_nil,List.append_nil];exact e)).1,fun h=>by rw[h]⟩
theorem minus_l:∀ (s r p q:O),p.length=q.length→0≤cmp r s→NF s→most r≤1000000000000000000→size (p++r)≤1000000→size (q++s)≤1000000 →
 Tl (fun k=>impl_minus.l0 k (p++r) (q++s) ((q++s).length:Int) (p.length:Int)) (minus r s):=by
 intro s
 induction s with
 | nil =>
  intro r p q hl hc hs hm h1 h2
  refine Tl.s (fun k=>by rw[impl_minus.l0]) ?_
  refine Tl.n (by simp;omega) ?_
  refine Tl.p (by omega) ?_
  refine Tl.p (by simp;omega) ?_
  refine Tl.to (Tl.w _) ?_
  rw[minus_nil,List.append_nil,Int.toNat_natCast,← hl,List.drop_left]
 | cons u s ih =>
  intro r p q hl hc hs hm h1 h2
  obtain⟨d,f⟩:=u
  cases r with
  | nil=>rw[cmp_nc] at hc;omega
  | cons t r =>
   obtain⟨c,e⟩:=t
   have hd:=(NF_cons.1 hs).1
   have hm':=hm
   rw[mc_] at hm'
   have z1:=h1
   have z2:=h2
   rw[sa_,sc_] at z1 z2
   have:=sp_ p
   have:=sp_ q
   have:=sp_ r
   have:=sp_ s
   have:=sp_ e
   have:=sp_ f
   have lp:=ll_ p
   have hlp:((p++[(⟨c,e⟩:Tm)]).length:Int)=(p.length:Int)+1:=by simp
   refine Tl.s (fun k=>by rw[impl_minus.l0]) ?_
   refine Tl.p (by simp<;>omega) ?_
   refine Tl.p (by omega) ?_
   refine Tl.p (by simp<;>omega) ?_
   refine Tl.p (by simp<;>omega) ?_
   rw[rdT_mid p r ⟨c,e⟩ rfl,rdT_mid q s ⟨d,f⟩ (by rw[hl])]
   refine Tl.b (compare_ev (by show size e≤_;omega) (by show size f≤_;omega)) ?_
   show Tl (fun k=>if cmp e f>0 then _ else _) _
   rcases ge_ways hc with g | ⟨g1,g2⟩ | ⟨g1,g2,g3⟩
   ·rw[g.gt,minus_gt g]
    refine Tl.p (by omega) ?_
    refine Tl.p (by simp<;>omega) ?_
    refine Tl.to (Tl.w _) ?_
    rw[Int.toNat_natCast,List.drop_left]
   ·subst g1
    rw[cmp_self,minus_gtc g2]
    refine Tl.n (by omega) ?_
    refine Tl.p g2 ?_
    refine Tl.d ?_
    rw[wi_ (i:=(p.length:Int)+1) (by omega) (by omega)]
    refine Tl.p (by omega) ?_
    refine Tl.p (by simp<;>omega) ?_
    refine Tl.d ?_
    have hdr:(p++⟨c,e⟩::r).drop ((p.length:Int)+1).toNat=r:=by rw[snoc p,← hlp,Int.toNat_natCast,List.drop_left]
    rw[hdr]
    have lr:=ll_ r
    refine Tl.p (by simp<;>omega) ?_
    refine Tl.to (Tl.w _) ?_
    rw[wi_ (by show _≤c-d;omega) (by show c-d≤_;omega)];rfl
   ·subst g1;subst g2
    rw[cmp_self,minus_eq]
    refine Tl.n (by omega) ?_
    refine Tl.n (by show ¬ c>c;omega) ?_
    rw[wi_ (i:=(p.length:Int)+1) (by omega) (by omega),snoc p,snoc q]
    have:=ih r (p++[⟨c,e⟩]) (q++[⟨c,e⟩]) (by simp[hl]) g3 (NF_cons.1 hs).2.2.1 (by omega) (by rw[← snoc];exact h1) (by rw[← snoc];exact h2)
    rw[hlp] at this
    exact this
theorem minus_ev {x y:O}(h:0≤cmp x y)(hy:NF y)(mx:most x≤1000000000000000000)(zx:size x≤1000000)(zy:size y≤1000000):Tl (fun k=>impl_minus.f k x y) (minus x y) :=
 minus_l y x [] [] rfl h hy mx zx zy
theorem specMinus_l:∀ (r s p q:O),p.length=q.length→0≤cmp r s→NF s→most r≤1000000000000000000→size (p++r)≤1000000→size (q++s)≤1000000 →
 Tl (fun k=>spec_l2Minus.l0 k (cs (p++r)) (es (p++r)) (cs (q++s)) (es (q++s)) (p.length:Int)) (row (minus r s)):=by
 intro r
 induction r with
 | nil =>
  intro s p q hl hc hs hm h1 h2
  cases s with
  | cons u s=>rw[cmp_nc] at hc;omega
  | nil =>
   have lp:=ll_ (p++[])
   refine Tl.s (fun k=>by rw[spec_l2Minus.l0]) ?_
   refine Tl.n (by rw[cl_];simp<;>omega) ?_
   refine Tl.s (fun k=>by rw[spec_l2Minus.j1]) ?_
   refine Tl.d ?_
   refine Tl.p (by omega) ?_
   refine Tl.p (by rw[cl_];simp<;>omega) ?_
   refine Tl.d ?_
   refine Tl.p (by simp only[List.length_drop,List.length_nil,cl_];omega) ?_
   refine Tl.d ?_
   refine Tl.n (by rw[cl_];simp<;>omega) ?_
   refine Tl.p (by rw[el_];simp<;>omega) ?_
   rw[minus_nil]
   refine Tl.b (make_ev' (x:=[]) ?_ ?_ (by rw[sn_];omega)) (Tl.w _)
   ·rw[List.append_nil,Int.toNat_natCast,← cl_ p,List.drop_length];rfl
   ·rw[List.append_nil,Int.toNat_natCast,← el_ p,List.drop_length];rfl
 | cons t r ih =>
  intro s p q hl hc hs hm h1 h2
  obtain⟨c,e⟩:=t
  have hm':=hm
  rw[mc_] at hm'
  have z1:=h1
  rw[sa_,sc_] at z1
  have:=sp_ p
  have:=sp_ r
  have:=sp_ e
  have lp:=ll_ p
  have lpr:=ll_ (p++⟨c,e⟩::r)
  have hlp:((p++[(⟨c,e⟩:Tm)]).length:Int)=(p.length:Int)+1:=by simp
  have dcs:(cs (p++⟨c,e⟩::r)).drop (p.length:Int).toNat=cs (⟨c,e⟩::r):=by rw[cs_append,Int.toNat_natCast,← cl_ p,List.drop_left]
  have des:(es (p++⟨c,e⟩::r)).drop (p.length:Int).toNat=es (⟨c,e⟩::r):=by rw[es_append,Int.toNat_natCast,← el_ p,List.drop_left]
  cases s with
  | nil =>
   refine Tl.s (fun k=>by rw[spec_l2Minus.l0]) ?_
   refine Tl.p (by rw[cl_];simp<;>omega) ?_
   refine Tl.n (by rw[cl_];simp;omega) ?_
   refine Tl.s (fun k=>by rw[spec_l2Minus.j1]) ?_
   refine Tl.d ?_
   refine Tl.p (by omega) ?_
   refine Tl.p (by rw[cl_];simp<;>omega) ?_
   refine Tl.d ?_
   rw[dcs,des]
   refine Tl.p (by rw[cl_];simp only[List.length_append,List.length_cons,List.length_nil] at lpr ⊢;omega) ?_
   refine Tl.d ?_
   refine Tl.p (by rw[cl_];simp<;>omega) ?_
   refine Tl.n (by rw[cl_];simp;omega) ?_
   refine Tl.p (by rw[el_];simp<;>omega) ?_
   rw[minus_nil]
   exact Tl.b (make_ev' (by rw[List.nil_append]) rfl (by rw[sc_];omega)) (Tl.w _)
  | cons u s =>
   obtain⟨d,f⟩:=u
   have hd:=(NF_cons.1 hs).1
   have z2:=h2
   rw[sa_,sc_] at z2
   have:=sp_ q
   have:=sp_ s
   have:=sp_ f
   have hrl:=rl_ e
   have csq:rd (cs (q++⟨d,f⟩::s)) (p.length:Int)=d:=by rw[hl];exact csM q s d f
   have esq:rd_L2 (es (q++⟨d,f⟩::s)) (p.length:Int)=row f:=by rw[hl];exact esM q s d f
   have fin:Lt f e∨(e=f∧d<c)→Tl (fun k=>spec_l2Minus.j1 k (cs (p++⟨c,e⟩::r)) (es (p++⟨c,e⟩::r)) (cs (q++⟨d,f⟩::s)) (es (q++⟨d,f⟩::s)) (p.length:Int)) (row (minus (⟨c,e⟩::r) (⟨d,f⟩::s))):=by
    intro g
    refine Tl.s (fun k=>by rw[spec_l2Minus.j1]) ?_
    refine Tl.d ?_
    refine Tl.p (by omega) ?_
    refine Tl.p (by rw[cl_];simp<;>omega) ?_
    refine Tl.d ?_
    rw[dcs,des]
    refine Tl.p (by rw[cl_];simp only[List.length_append,List.length_cons,List.length_nil] at lpr ⊢;omega) ?_
    refine Tl.d ?_
    refine Tl.p (by rw[cl_];simp<;>omega) ?_
    refine Tl.p (by rw[cl_];simp<;>omega) ?_
    refine Tl.p (by rw[el_];simp<;>omega) ?_
    refine Tl.p (by rw[el_];simp<;>omega) ?_
    rw[esM,esq,csM,csq]
    refine Tl.b (same_ev (by omega)) ?_
    rcases g with g | ⟨g1,g2⟩
    ·rw[minus_gt g]
     refine Tl.n (by rw[decide_eq_false (fun h=>g.ne (row_same.1 h).symm)];simp) ?_
     refine Tl.p (by rw[el_];simp<;>omega) ?_
     exact Tl.b (make_ev' (by rw[List.nil_append]) rfl (by rw[sc_];omega)) (Tl.w _)
    ·subst g1
     rw[minus_gtc g2]
     refine Tl.p (by simp) ?_
     refine Tl.p (by rw[List.nil_append,cl_];simp<;>omega) ?_
     refine Tl.p (by rw[el_];simp<;>omega) ?_
     rw[wi_ (by omega) (by omega)]
     exact Tl.b (make_ev' (x:=⟨c-d,e⟩::r) rfl rfl (by rw[sc_];omega)) (Tl.w _)
   refine Tl.s (fun k=>by rw[spec_l2Minus.l0]) ?_
   refine Tl.p (by rw[cl_];simp<;>omega) ?_
   refine Tl.p (by rw[cl_];simp<;>omega) ?_
   refine Tl.p (by omega) ?_
   rw[csM,csq]
   by_cases hcd:c=d
   ·refine Tl.p hcd ?_
    refine Tl.p (by rw[el_];simp<;>omega) ?_
    refine Tl.p (by rw[el_];simp<;>omega) ?_
    rw[esM,esq]
    refine Tl.b (same_ev (by omega)) ?_
    rcases ge_ways hc with g | ⟨g1,g2⟩ | ⟨g1,g2,g3⟩
    ·refine Tl.n (by rw[decide_eq_false (fun h=>g.ne (row_same.1 h).symm)];simp) ?_
     exact fin (.inl g)
    ·omega
    ·subst g1;subst g2
     refine Tl.p (by simp) ?_
     rw[minus_eq,wi_ (i:=(p.length:Int)+1) (by omega) (by omega),snoc p,snoc q]
     have:=ih s (p++[⟨c,e⟩]) (q++[⟨c,e⟩]) (by simp[hl]) g3 (NF_cons.1 hs).2.2.1 (by omega) (by rw[← snoc];exact h1) (by rw[← snoc];exact h2)
     rw[hlp] at this
     exact this
   ·refine Tl.n hcd ?_
    refine fin ?_
    rcases ge_ways hc with g | ⟨g1,g2⟩ | ⟨g1,g2,g3⟩
    ·exact .inl g
    ·exact .inr ⟨g1,g2⟩
    ·exact absurd g2 hcd
theorem specMinus_ev {x y:O}(h:0≤cmp x y)(hy:NF y)(mx:most x≤1000000000000000000)(zx:size x≤1000000)(zy:size y≤1000000):Tl (fun k=>spec_l2Minus.f k (row x) (row y)) (row (minus x y)):=by
 refine Tl.b (terms_ev (by omega)) ?_
 refine Tl.b (terms_ev (by omega)) ?_
 exact specMinus_l x y [] [] rfl h hy mx zx zy
end Go.Proofs.Ytfblcanijhnhmaa.P
namespace Go.Proofs.Ytfblcanijhnhmaa.P
open OM Go.RowKit Go.Proofs.YtfblcanijhnhmaaW.PrintWords Go.Proofs.YtfblcanijhnhmaaW.PrintLast Go.Proofs.YtfblcanijhnhmaaW.PrintMore
set_option linter.unusedVariables false
def qend (p q:O):List Int × List Int × Bool:=if(toldv p).2=true∧(toldv q).2=true then((toldv p).1,(toldv q).1,true) else([],[],false)
theorem implQEnd {p q:O}(hp:size p≤10000000)(hq:size q≤10000000):Tl (fun k=>impl_OrdDivide.j6 k p q) (qend p q):=by
 refine Tl.s (fun k=>by rw[impl_OrdDivide.j6]) ?_
 refine Tl.b (told_ev (by omega)) ?_
 refine Tl.b (told_ev (by omega)) ?_
 unfold qend
 by_cases h1:(toldv p).2=true
 ·refine Tl.p h1 ?_
  by_cases h2:(toldv q).2=true
  ·refine Tl.p h2 ?_
   exact Tl.to (Tl.w _) (by rw[if_pos ⟨h1,h2⟩])
  ·refine Tl.n h2 ?_
   exact Tl.to (Tl.w _) (by rw[if_neg (fun z=>h2 z.2)])
 ·refine Tl.n h1 ?_
  exact Tl.to (Tl.w _) (by rw[if_neg (fun z=>h1 z.1)])
theorem specQEnd {p q:O}(np:NF p)(nq:NF q)(hp:size p≤10000000)(hq:size q≤10000000):Tl (fun k=>spec_OrdDivide.j6 k (cs p) (es p) (row q)) (qend p q):=by
 refine Tl.s (fun k=>by rw[spec_OrdDivide.j6]) ?_
 refine Tl.b (make_ev (by omega)) ?_
 refine Tl.b (fitR_ev np (by omega)) ?_
 refine Tl.b (fitR_ev nq (by omega)) ?_
 unfold qend
 by_cases h1:(toldv p).2=true
 ·refine Tl.p h1 ?_
  by_cases h2:(toldv q).2=true
  ·refine Tl.p h2 ?_
   exact Tl.to (Tl.w _) (by rw[if_pos ⟨h1,h2⟩])
  ·refine Tl.n h2 ?_
   exact Tl.to (Tl.w _) (by rw[if_neg (fun z=>h2 z.2)])
 ·refine Tl.n h1 ?_
  exact Tl.to (Tl.w _) (by rw[if_neg (fun z=>h1 z.1)])
theorem numV {n:Int}(h:1≤n∧n≤9999):Vd [(⟨n,[]⟩:Tm)]:=⟨NF_cons.2 ⟨by omega,NF_nil,NF_nil,trivial⟩,by rw[mc_,most_nil];omega,by rw[sc_,sn_];omega⟩
theorem num_pos {n:Int}(h:n≠0):num n=[⟨n,[]⟩]:=by unfold num;rw[if_neg h]
theorem row_n (n:Int):row [(⟨n,[]⟩:Tm)]=[1,n,0]:=by unfold row;rw[flat_cons,row_nil,flat_nil];rfl
theorem quot {c d:Int}(hc:1≤c∧c≤9999)(hd:1≤d):wrap64 (Int.tdiv c d)=c / d∧0≤c / d∧c / d≤9999:=by
 have q0:0≤c / d:=Int.ediv_nonneg (by omega) (by omega)
 have q1:c / d≤c:=Int.ediv_le_self _ (by omega)
 rw[Int.tdiv_eq_ediv_of_nonneg (by omega)]
 exact⟨wi_ (by omega) (by omega),q0,by omega⟩
theorem implDiv5 {c d:Int}{e r s acc:O}(hx:Vd (⟨c,e⟩::r))(hy:Vd (⟨d,e⟩::s))(ha:size acc≤1000000){n:Int}(hn:n=divn c d (⟨c,e⟩::r) (⟨d,e⟩::s)) :
 Tl (fun k=>impl_OrdDivide.j5 k (⟨d,e⟩::s) acc (⟨c,e⟩::r) n) (qend (acc++(divB (⟨c,e⟩::r) (⟨d,e⟩::s)).1) (divB (⟨c,e⟩::r) (⟨d,e⟩::s)).2):=by
 have cx:=coef hx
 have cy:=coef hy
 have zx:=hx.2.2
 have zy:=hy.2.2
 have mx:=hx.2.1
 have hr:=@divn_range c d (⟨c,e⟩::r) (⟨d,e⟩::s) (by omega) (by omega)
 have hl:=ll_ acc
 refine Tl.s (fun k=>by rw[impl_OrdDivide.j5]) ?_
 rw[divB_eq,← hn]
 by_cases h:n>0
 ·have hg:=@divn_ge c d e r s (by omega) (by omega) (by omega)
  rw[← hn] at hg
  have v:=numV (n:=n) (by omega)
  have hs:=size_mul_fin (⟨d,e⟩::s) n
  refine Tl.p h ?_
  refine Tl.b (Tl.c (number_eq _)) ?_
  rw[num_pos (by omega),if_pos (by omega)]
  refine Tl.b (timesV_ev hy v) ?_
  refine Tl.b (minus_ev hg (mul_NF hy.1 v.1) (by omega) (by omega) (by omega)) ?_
  refine Tl.p (by omega) ?_
  have:=size_minus (⟨c,e⟩::r) (mul (⟨d,e⟩::s) [⟨n,[]⟩])
  exact implQEnd (by rw[sa_,sc_,sn_];omega) (by omega)
 ·refine Tl.n h ?_
  rw[if_neg (by omega),List.append_nil]
  exact implQEnd (by omega) (by omega)
theorem specDiv5 {c d:Int}{e r s acc:O}(hx:Vd (⟨c,e⟩::r))(hy:Vd (⟨d,e⟩::s))(ha:size acc≤1000000){n:Int}(hn:n=divn c d (⟨c,e⟩::r) (⟨d,e⟩::s))
 (n1:NF (acc++(divB (⟨c,e⟩::r) (⟨d,e⟩::s)).1)) (n2:NF (divB (⟨c,e⟩::r) (⟨d,e⟩::s)).2) :
 Tl (fun k=>spec_OrdDivide.j5 k (row (⟨d,e⟩::s)) (cs acc) (es acc) (row (⟨c,e⟩::r)) n) (qend (acc++(divB (⟨c,e⟩::r) (⟨d,e⟩::s)).1) (divB (⟨c,e⟩::r) (⟨d,e⟩::s)).2):=by
 have cx:=coef hx
 have cy:=coef hy
 have zx:=hx.2.2
 have zy:=hy.2.2
 have mx:=hx.2.1
 have hr:=@divn_range c d (⟨c,e⟩::r) (⟨d,e⟩::s) (by omega) (by omega)
 have hl:=ll_ acc
 refine Tl.s (fun k=>by rw[spec_OrdDivide.j5]) ?_
 rw[divB_eq,← hn] at n1 n2 ⊢
 by_cases h:n>0
 ·have hg:=@divn_ge c d e r s (by omega) (by omega) (by omega)
  rw[← hn] at hg
  have v:=numV (n:=n) (by omega)
  have hs:=size_mul_fin (⟨d,e⟩::s) n
  rw[if_pos (by omega)] at n1 n2
  refine Tl.p h ?_
  refine Tl.p (by rw[cl_];omega) ?_
  refine Tl.p (by rw[el_];omega) ?_
  rw[if_pos (by omega)]
  refine Tl.b (Tl.to (specTimesV_ev hy v) rfl |> fun t=>by rw[row_n] at t;exact t) ?_
  refine Tl.b (specMinus_ev hg (mul_NF hy.1 v.1) (by omega) (by omega) (by omega)) ?_
  have:=size_minus (⟨c,e⟩::r) (mul (⟨d,e⟩::s) [⟨n,[]⟩])
  have h1:cs acc++[n]=cs (acc++[⟨n,[]⟩]):=by rw[cs_append];rfl
  have h2:es acc++[[0]]=es (acc++[⟨n,[]⟩]):=by rw[es_append,es_cons,row_nil];rfl
  rw[h1,h2]
  exact specQEnd n1 n2 (by rw[sa_,sc_,sn_];omega) (by omega)
 ·refine Tl.n h ?_
  rw[if_neg (by omega)] at n1 n2
  rw[if_neg (by omega)]
  rw[List.append_nil] at n1 ⊢
  exact specQEnd n1 n2 (by omega) (by omega)
theorem rd0 (t:Tm)(r:O):rd_T61 (t::r) 0=t:=rdT_mid [] r t rfl
theorem implDiv_l {d:Int}{f s:O}(hy:Vd (⟨d,f⟩::s)):∀ (r acc:O),Vd r→size acc+size r≤100000 →
 Tl (fun k=>impl_OrdDivide.l0 k (⟨d,f⟩::s) acc r) (qend (acc++(div r (⟨d,f⟩::s)).1) (div r (⟨d,f⟩::s)).2):=by
 have hf:=(Vd_cons hy).1
 have cy:=coef hy
 have zy:=hy.2.2
 rw[sc_] at zy
 have:=sp_ f
 have:=sp_ s
 intro r
 induction r with
 | nil =>
  intro acc h1 h2
  rw[sn_] at h2
  refine Tl.s (fun k=>by rw[impl_OrdDivide.l0]) ?_
  refine Tl.n (by simp) ?_
  refine Tl.s (fun k=>by rw[impl_OrdDivide.j2]) ?_
  refine Tl.n (by simp) ?_
  refine Tl.s (fun k=>by rw[impl_OrdDivide.j3]) ?_
  refine Tl.n (by simp) ?_
  rw[div_nil,List.append_nil]
  exact implQEnd (by omega) (by rw[sn_];omega)
 | cons t r ih =>
  intro acc h1 h2
  obtain⟨c,e⟩:=t
  obtain⟨he,hr,hc⟩:=Vd_cons h1
  have hl:=ll_ acc
  have zx:=h1.2.2
  have ze:=he.2.2
  have zf:=hf.2.2
  have me:=he.2.1
  have z2:=h2
  rw[sc_] at z2
  have:=sp_ e
  have:=sp_ r
  have:=sp_ acc
  refine Tl.s (fun k=>by rw[impl_OrdDivide.l0]) ?_
  refine Tl.p (by simp<;>omega) ?_
  refine Tl.p (by simp<;>omega) ?_
  refine Tl.p (by simp<;>omega) ?_
  rw[rd0,rd0]
  refine Tl.b (compare_ev (x:=e) (y:=f) (by omega) (by omega)) ?_
  by_cases g:cmp e f=1
  ·refine Tl.p (by omega) ?_
   refine Tl.b (minus_ev (x:=e) (y:=f) (by omega) hf.1 (by omega) (by omega) (by omega)) ?_
   refine Tl.p (by omega) ?_
   refine Tl.p (by simp<;>omega) ?_
   have hm:=size_minus e f
   have:=ih (acc++[⟨c,minus e f⟩]) hr (by rw[sa_,sc_,sn_];omega)
   rw[div_gt (gt_lt g)]
   refine Tl.to this ?_
   simp
  ·refine Tl.n (by have:=cmp_range e f;omega) ?_
   refine Tl.s (fun k=>by rw[impl_OrdDivide.j2]) ?_
   refine Tl.p (by simp<;>omega) ?_
   refine Tl.p (by simp<;>omega) ?_
   refine Tl.p (by simp<;>omega) ?_
   rw[rd0,rd0]
   refine Tl.b (compare_ev (x:=e) (y:=f) (by omega) (by omega)) ?_
   rw[div_le g]
   by_cases z:cmp e f=0
   ·have ef:=cmp_eq z
    subst ef
    show Tl (fun k=>impl_OrdDivide.j3 k (⟨d,e⟩::s) acc (⟨c,e⟩::r) (cmp e e == 0)) _
    rw[z]
    refine Tl.s (fun k=>by rw[impl_OrdDivide.j3]) ?_
    refine Tl.p rfl ?_
    refine Tl.p (by simp<;>omega) ?_
    refine Tl.p (by simp<;>omega) ?_
    rw[rd0,rd0]
    refine Tl.n (by show ¬ d=0;omega) ?_
    obtain⟨q1,q2,q3⟩:=quot hc (d:=d) (by omega)
    show Tl (fun k=>if wrap64 (Int.tdiv c d)>0 then((impl_number.f (wrap64 (Int.tdiv c d))).bind fun t723=>((impl_times.f k (⟨d,e⟩::s) t723).bind fun t726=>((impl_compare.f k (⟨c,e⟩::r) t726).bind fun t729=>(impl_OrdDivide.j4 k (⟨d,e⟩::s) acc (⟨c,e⟩::r) (wrap64 (Int.tdiv c d)) (decide (t729<0)))))) else(impl_OrdDivide.j4 k (⟨d,e⟩::s) acc (⟨c,e⟩::r) (wrap64 (Int.tdiv c d)) false)) _
    rw[q1]
    by_cases q:c / d>0
    ·have v:=numV (n:=c / d) (by omega)
     have hs:=size_mul_fin (⟨d,e⟩::s) (c / d)
     have zY:=hy.2.2
     refine Tl.p q ?_
     refine Tl.b (Tl.c (number_eq _)) ?_
     rw[num_pos (by omega)]
     refine Tl.b (timesV_ev hy v) ?_
     refine Tl.b (compare_ev (by omega) (by omega)) ?_
     refine Tl.s (fun k=>by rw[impl_OrdDivide.j4]) ?_
     by_cases b:cmp (⟨c,e⟩::r) (mul (⟨d,e⟩::s) [⟨c / d,[]⟩])<0
     ·refine Tl.p (decide_eq_true b) ?_
      rw[wi_ (by omega) (by omega)]
      exact implDiv5 h1 hy (by omega) (by unfold divn;rw[if_pos ⟨q,b⟩])
     ·refine Tl.n (by simpa using b) ?_
      exact implDiv5 h1 hy (by omega) (by unfold divn;rw[if_neg (fun w=>b w.2)])
    ·refine Tl.n q ?_
     refine Tl.s (fun k=>by rw[impl_OrdDivide.j4]) ?_
     refine Tl.n (by simp) ?_
     exact implDiv5 h1 hy (by omega) (by unfold divn;rw[if_neg (fun w=>q w.1)])
   ·have hl:Lt e f:=by rcases cmp_range e f with q | q | q;exact q;exact absurd q z;exact absurd q g
    have zb:(cmp e f == 0)=false:=beq_eq_false_iff_ne.mpr z
    show Tl (fun k=>impl_OrdDivide.j3 k (⟨d,f⟩::s) acc (⟨c,e⟩::r) (cmp e f == 0)) _
    rw[zb]
    refine Tl.s (fun k=>by rw[impl_OrdDivide.j3]) ?_
    refine Tl.n (by simp) ?_
    rw[divB_le hl,List.append_nil]
    exact implQEnd (by omega) (by omega)
theorem drop_cs (p r:O):(cs (p++r)).drop ((p.length:Int)).toNat=cs r:=by rw[cs_append,Int.toNat_natCast];exact List.drop_left' (cl_ p)
theorem drop_es (p r:O):(es (p++r)).drop ((p.length:Int)).toNat=es r:=by rw[es_append,Int.toNat_natCast];exact List.drop_left' (el_ p)
theorem specDiv_l {d:Int}{f s:O}(hy:Vd (⟨d,f⟩::s)):∀ (r p acc:O),Vd r→size (p++r)≤100000→size acc+size r≤100000→NF (acc++(div r (⟨d,f⟩::s)).1)→NF (div r (⟨d,f⟩::s)).2 →
 Tl (fun k=>spec_OrdDivide.l0 k (row (⟨d,f⟩::s)) (cs (p++r)) (es (p++r)) (cs (⟨d,f⟩::s)) (es (⟨d,f⟩::s)) (cs acc) (es acc) (p.length:Int)) (qend (acc++(div r (⟨d,f⟩::s)).1) (div r (⟨d,f⟩::s)).2):=by
 have hf:=(Vd_cons hy).1
 have cy:=coef hy
 have zy:=hy.2.2
 rw[sc_] at zy
 have:=sp_ f
 have:=sp_ s
 have hd0:rd (cs (⟨d,f⟩::s)) 0=d:=rd_mid [] (cs s) d rfl
 have hf0:rd_L2 (es (⟨d,f⟩::s)) 0=row f:=rdL_mid [] (es s) (row f) rfl
 intro r
 induction r with
 | nil =>
  intro p acc h1 h0 h2 n1 n2
  rw[sn_] at h2
  refine Tl.s (fun k=>by rw[spec_OrdDivide.l0]) ?_
  refine Tl.n (by rw[cl_];simp) ?_
  refine Tl.s (fun k=>by rw[spec_OrdDivide.j2]) ?_
  refine Tl.p (by omega) ?_
  refine Tl.p (by rw[cl_];simp) ?_
  refine Tl.p (by rw[el_];simp) ?_
  refine Tl.b (make_ev' (drop_cs p []) (drop_es p []) (by rw[sn_];omega)) ?_
  refine Tl.n (by rw[cl_];simp) ?_
  refine Tl.s (fun k=>by rw[spec_OrdDivide.j3]) ?_
  refine Tl.n (by simp) ?_
  rw[div_nil,List.append_nil] at n1 ⊢
  exact specQEnd n1 NF_nil (by omega) (by rw[sn_];omega)
 | cons t r ih =>
  intro p acc h1 h0 h2 n1 n2
  obtain⟨c,e⟩:=t
  obtain⟨he,hr,hc⟩:=Vd_cons h1
  have hl:=ll_ acc
  have hp:=ll_ p
  have zx:=h1.2.2
  have ze:=he.2.2
  have zf:=hf.2.2
  have me:=he.2.1
  have z2:=h2
  have z0:=h0
  rw[sa_] at z0
  rw[sc_] at z2 z0
  have:=sp_ e
  have:=sp_ r
  have:=sp_ acc
  have:=sp_ p
  refine Tl.s (fun k=>by rw[spec_OrdDivide.l0]) ?_
  refine Tl.p (by rw[cl_];simp<;>omega) ?_
  refine Tl.p (by omega) ?_
  refine Tl.p (by rw[el_];simp<;>omega) ?_
  refine Tl.p (by rw[el_];simp<;>omega) ?_
  rw[esM,hf0]
  refine Tl.b (specCompare_ev (x:=e) (y:=f) (by omega) (by omega)) ?_
  by_cases g:cmp e f=1
  ·refine Tl.p (by omega) ?_
   refine Tl.p (by rw[cl_];omega) ?_
   refine Tl.b (specMinus_ev (x:=e) (y:=f) (by omega) hf.1 (by omega) (by omega) (by omega)) ?_
   refine Tl.p (by rw[el_];omega) ?_
   have hm:=size_minus e f
   rw[div_gt (gt_lt g)] at n1 n2 ⊢
   have e1:cs acc++[c]=cs (acc++[⟨c,minus e f⟩]):=by rw[cs_append];rfl
   have e2:es acc++[row (minus e f)]=es (acc++[⟨c,minus e f⟩]):=by rw[es_append];rfl
   rw[csM,wi_ (by omega) (by omega),e1,e2,snoc p]
   have:=ih (p++[⟨c,e⟩]) (acc++[⟨c,minus e f⟩]) hr (by rw[← snoc];exact h0) (by rw[sa_,sc_,sn_];omega) (by rw[← snoc];exact n1) n2
   rw[show ((p++[(⟨c,e⟩:Tm)]).length:Int)=(p.length:Int)+1 by simp] at this
   refine Tl.to this ?_
   simp
  ·refine Tl.n (by have:=cmp_range e f;omega) ?_
   refine Tl.s (fun k=>by rw[spec_OrdDivide.j2]) ?_
   refine Tl.p (by omega) ?_
   refine Tl.p (by rw[cl_];simp<;>omega) ?_
   refine Tl.p (by rw[el_];simp<;>omega) ?_
   refine Tl.b (make_ev' (drop_cs p (⟨c,e⟩::r)) (drop_es p (⟨c,e⟩::r)) (by omega)) ?_
   refine Tl.p (by rw[cl_];simp<;>omega) ?_
   refine Tl.p (by rw[el_];simp<;>omega) ?_
   refine Tl.p (by rw[el_];simp<;>omega) ?_
   rw[esM,hf0]
   refine Tl.b (same_ev (by rw[rl_];omega)) ?_
   rw[div_le g] at n1 n2 ⊢
   by_cases z:cmp e f=0
   ·have ef:=cmp_eq z
    subst ef
    refine Tl.s (fun k=>by rw[spec_OrdDivide.j3]) ?_
    refine Tl.p (by simp) ?_
    refine Tl.p (by omega) ?_
    refine Tl.p (by rw[cl_];simp<;>omega) ?_
    refine Tl.p (by rw[cl_];simp<;>omega) ?_
    rw[csM,hd0]
    refine Tl.n (by omega) ?_
    obtain⟨q1,q2,q3⟩:=quot hc (d:=d) (by omega)
    rw[q1]
    by_cases q:c / d>0
    ·have v:=numV (n:=c / d) (by omega)
     have hs:=size_mul_fin (⟨d,e⟩::s) (c / d)
     have zY:=hy.2.2
     refine Tl.p q ?_
     refine Tl.b (specTimesV_ev hy v |> fun t=>by rw[row_n] at t;exact t) ?_
     refine Tl.b (specCompare_ev (by omega) (by omega)) ?_
     have an:=cmp_anti (⟨c,e⟩::r) (mul (⟨d,e⟩::s) [⟨c / d,[]⟩])
     refine Tl.s (fun k=>by rw[spec_OrdDivide.j4]) ?_
     by_cases b:cmp (⟨c,e⟩::r) (mul (⟨d,e⟩::s) [⟨c / d,[]⟩])<0
     ·refine Tl.p (decide_eq_true (by omega)) ?_
      rw[wi_ (by omega) (by omega)]
      exact specDiv5 h1 hy (by omega) (by unfold divn;rw[if_pos ⟨q,b⟩]) n1 n2
     ·refine Tl.n (by simp;omega) ?_
      exact specDiv5 h1 hy (by omega) (by unfold divn;rw[if_neg (fun w=>b w.2)]) n1 n2
    ·refine Tl.n q ?_
     refine Tl.s (fun k=>by rw[spec_OrdDivide.j4]) ?_
     refine Tl.n (by simp) ?_
     exact specDiv5 h1 hy (by omega) (by unfold divn;rw[if_neg (fun w=>q w.1)]) n1 n2
   ·have hlt:Lt e f:=by rcases cmp_range e f with q | q | q;exact q;exact absurd q z;exact absurd q g
    have ne:¬ row e=row f:=fun h=>z (by rw[row_same.1 h,cmp_self])
    refine Tl.s (fun k=>by rw[spec_OrdDivide.j3]) ?_
    refine Tl.n (by simpa using ne) ?_
    rw[divB_le hlt] at n1 n2 ⊢
    rw[List.append_nil] at n1 ⊢
    exact specQEnd n1 n2 (by omega) (by omega)
def divv (a b:List Int):List Int × List Int × Bool:=match ordOf a,ordOf b with
 | some x,some y=>if y=[] then([],[],false) else qend (div x y).1 (div x y).2
 | _,_=>([],[],false)
theorem divv_some {a b:List Int}{x y:O}(h:ordOf a=some x)(g:ordOf b=some y)(n:y≠[]):divv a b=qend (div x y).1 (div x y).2:=by unfold divv;rw[h,g];exact if_neg n
theorem divv_zero {a b:List Int}{x:O}(h:ordOf a=some x)(g:ordOf b=some []):divv a b=([],[],false):=by unfold divv;rw[h,g];rfl
theorem divv_none {a b:List Int}(h:ordOf a=none∨ordOf b=none):divv a b=([],[],false):=by
 unfold divv
 rcases h with h | h
 ·rw[h]
 ·rw[h];cases ordOf a<;>rfl
theorem qend_length (p q:O):((qend p q).1.length:Int)≤60∧((qend p q).2.1.length:Int)≤60:=by
 unfold qend
 split
 ·exact⟨toldv_length _,toldv_length _⟩
 ·simp
theorem divv_length (a b:List Int):((divv a b).1.length:Int)≤60∧((divv a b).2.1.length:Int)≤60:=by
 unfold divv
 split
 ·split
  ·simp
  ·exact qend_length _ _
 ·simp
theorem implOrdDivide_ev {a b:List Int}:Tl (fun k=>impl_OrdDivide.f k a b) (divv a b):=by
 have bad:∀ x y,Tl (fun k=>impl_OrdDivide.j0 k x y true) (([]:List Int),([]:List Int),false):=by
  intro x y
  refine Tl.s (fun k=>by rw[impl_OrdDivide.j0]) ?_
  exact Tl.p rfl (Tl.w _)
 by_cases h:ordOf a=none∨ordOf b=none
 ·rw[divv_none h]
  obtain⟨x,y,t⟩:=two_none h
  refine Tl.b t ?_
  exact Tl.n (by simp) (bad _ _)
 ·cases ha:ordOf a with
  | none=>exact absurd (.inl ha) h
  | some x =>
   cases hb:ordOf b with
   | none=>exact absurd (.inr hb) h
   | some y =>
    have h1:=(os_ ha).2
    have h2:=(os_ hb).2
    refine Tl.b (two_some ha hb) ?_
    refine Tl.p rfl ?_
    cases y with
    | nil=>rw[divv_zero ha hb];exact bad _ _
    | cons u s =>
     obtain⟨d,f⟩:=u
     rw[divv_some ha hb (by simp)]
     have h0:((((⟨d,f⟩::s:O).length:Nat):Int) == 0)=false:=beq_eq_false_iff_ne.mpr (by simp<;>omega)
     show Tl (fun k=>impl_OrdDivide.j0 k x (⟨d,f⟩::s) ((((⟨d,f⟩::s:O).length:Nat):Int) == 0)) _
     rw[h0]
     refine Tl.s (fun k=>by rw[impl_OrdDivide.j0]) ?_
     refine Tl.n (by simp) ?_
     have:=h1.2.2
     exact implDiv_l h2 x [] h1 (by rw[sn_];omega)
theorem specOrdDivide_ev {a b:List Int}(ha:(a.length:Int)≤10000000)(hb:(b.length:Int)≤10000000):Tl (fun k=>spec_OrdDivide.f k a b) (divv a b):=by
 have bad:Tl (fun k=>spec_OrdDivide.j0 k a b true) (([]:List Int),([]:List Int),false):=by
  refine Tl.s (fun k=>by rw[spec_OrdDivide.j0]) ?_
  exact Tl.p rfl (Tl.w _)
 cases h:ordOf a with
 | none =>
  rw[divv_none (.inl h)]
  exact Tl.b (invalid_ev (by omega) h) (Tl.n (by simp) bad)
 | some x =>
  refine Tl.b (valid_ev h) ?_
  refine Tl.p rfl ?_
  cases g:ordOf b with
  | none =>
   rw[divv_none (.inr g)]
   exact Tl.b (invalid_ev (by omega) g) (Tl.n (by simp) bad)
  | some y =>
   obtain⟨h1,h2⟩:=os_ h
   obtain⟨g1,g2⟩:=os_ g
   refine Tl.b (valid_ev g) ?_
   refine Tl.p rfl ?_
   cases y with
   | nil =>
    rw[divv_zero h g]
    have:((b.length:Int) == 1)=true:=by rw[g1,row_nil];rfl
    rw[this];exact bad
   | cons u s =>
    obtain⟨d,f⟩:=u
    rw[divv_some h g (by simp)]
    have hz:=sp_ f
    have hz':=sp_ s
    have:((b.length:Int) == 1)=false:=by rw[g1,rl_,sc_];exact beq_eq_false_iff_ne.mpr (by omega)
    rw[this]
    refine Tl.s (fun k=>by rw[spec_OrdDivide.j0]) ?_
    refine Tl.n (by simp) ?_
    have zx:=h2.2.2
    have zy:=g2.2.2
    rw[h1,g1]
    refine Tl.b (terms_ev (by omega)) ?_
    refine Tl.b (terms_ev (by omega)) ?_
    have D:=div_is h2.1 g2.1 (by simp:(⟨d,f⟩::s:O)≠[])
    exact specDiv_l g2 x [] [] h2 (by show size x≤_;omega) (by rw[sn_];omega) D.nf D.nf2
end Go.Proofs.Ytfblcanijhnhmaa.P
namespace Go.Proofs.Ytfblcanijhnhmaa.P
open OM Go.RowKit Go.Proofs.YtfblcanijhnhmaaW.PrintWords Go.Proofs.YtfblcanijhnhmaaW.PrintLast Go.Proofs.YtfblcanijhnhmaaW.PrintMore
set_option linter.unusedVariables false
theorem divB_short {c d:Int}{e r s:O}(hc:1≤c∧c≤9999)(hd:1≤d)(hs:most s≤9999)(he:most e≤9999) :
 size (mul (⟨d,e⟩::s) (divB (⟨c,e⟩::r) (⟨d,e⟩::s)).1)≤1+size e+size s∧most (mul (⟨d,e⟩::s) (divB (⟨c,e⟩::r) (⟨d,e⟩::s)).1)≤9999:=by
 have:=sp_ e
 have:=sp_ s
 rw[divB_eq]
 by_cases h:0<divn c d (⟨c,e⟩::r) (⟨d,e⟩::s)
 ·rw[if_pos h]
  have hn:divn c d (⟨c,e⟩::r) (⟨d,e⟩::s)≤c / d:=by unfold divn;split<;>omega
  have h1:d*divn c d (⟨c,e⟩::r) (⟨d,e⟩::s)≤d*(c / d):=Int.mul_le_mul_of_nonneg_left hn (by omega)
  have h2:d*(c / d)≤c:=Int.mul_ediv_self_le (by omega)
  simp only[mul_fin]
  rw[sc_,mc_]
  omega
 ·rw[if_neg h,mul_nil,sn_,most_nil]
  omega
theorem div_short {d:Int}{f s:O}(hd:1≤d)(hf:NF f)(hs:most s≤9999)(hm:most f≤9999):∀ x:O,NF x→most x≤9999 →
 size (mul (⟨d,f⟩::s) (div x (⟨d,f⟩::s)).1)≤size x+size f+size s∧most (mul (⟨d,f⟩::s) (div x (⟨d,f⟩::s)).1)≤9999:=by
 have:=sp_ f
 have:=sp_ s
 intro x
 induction x with
 | nil=>intro _ _;rw[div_nil];simp only[mul_nil,sn_,most_nil];omega
 | cons t r ih =>
  intro hx mx
  obtain⟨c,e⟩:=t
  obtain⟨h1,h2,h3,h4⟩:=NF_cons.1 hx
  rw[mc_] at mx
  have:=sp_ e
  have:=sp_ r
  by_cases g:cmp e f=1
  ·have hlt:=gt_lt g
   rw[div_gt hlt]
   obtain⟨i1,i2⟩:=ih h3 (by omega)
   simp only
   rw[mul_cons (minus_ne_nil h2 hlt),add_minus h2 (by omega),sc_,mc_,sc_]
   omega
  ·rw[div_le g]
   by_cases z:cmp e f=0
   ·have ef:=cmp_eq z
    subst ef
    obtain⟨i1,i2⟩:=@divB_short c d e r s (by omega) hd hs hm
    rw[sc_]
    omega
   ·have hl:Lt e f:=by rcases cmp_range e f with q | q | q;exact q;exact absurd q z;exact absurd q g
    rw[divB_le hl]
    simp only[mul_nil,sn_,most_nil,sc_]
    omega
end Go.Proofs.Ytfblcanijhnhmaa.P
namespace Go.Proofs.Ytfblcanijhnhmaa.P
open OM Go.RowKit Go.Proofs.YtfblcanijhnhmaaW.PrintWords Go.Proofs.YtfblcanijhnhmaaW.PrintLast Go.Proofs.YtfblcanijhnhmaaW.PrintMore
set_option linter.unusedVariables false
theorem compV {a b:List Int}{x y:O}(h:ordOf a=some x)(g:ordOf b=some y):compv a b=cmp x y:=by unfold compv;rw[h,g]
end Go.Proofs.Ytfblcanijhnhmaa.P
namespace Go.Proofs.Ytfblcanijhnhmaa.P
open OM Go.RowKit Go.Proofs.YtfblcanijhnhmaaW.PrintWords Go.Proofs.YtfblcanijhnhmaaW.PrintLast Go.Proofs.YtfblcanijhnhmaaW.PrintMore
set_option linter.unusedVariables false
theorem divv_law {a b:List Int}(ha:(a.length:Int)≤44)(hb:ordOf b≠none→(b.length:Int)≤16) :
 ((divv a b).2.2=false∧(divv a b).1=[]∧(divv a b).2.1=[]) ∨
 ((divv a b).2.2=true∧(timesv b (divv a b).1).2=true∧addv (timesv b (divv a b).1).1 (divv a b).2.1=(a,true)∧compv (divv a b).2.1 b=-1):=by
 cases h:ordOf a with
 | none=>rw[divv_none (.inl h)];exact .inl ⟨rfl,rfl,rfl⟩
 | some x =>
  cases g:ordOf b with
  | none=>rw[divv_none (.inr g)];exact .inl ⟨rfl,rfl,rfl⟩
  | some y =>
   cases y with
   | nil=>rw[divv_zero h g];exact .inl ⟨rfl,rfl,rfl⟩
   | cons u s =>
    obtain⟨d,f⟩:=u
    rw[divv_some h g (by simp)]
    obtain⟨ea,va⟩:=os_ h
    obtain⟨eb,vb⟩:=os_ g
    have lb:=hb (by rw[g];simp)
    have cy:=coef vb
    obtain⟨vf,vs,_⟩:=Vd_cons vb
    have D:=div_is va.1 vb.1 (by simp:(⟨d,f⟩::s:O)≠[])
    obtain⟨z1,z2⟩:=div_short cy.1 vf.1 vs.2.1 vf.2.1 x va.1 va.2.1 (d:=d) (f:=f) (s:=s)
    have la:size x≤44:=by rw[ea,rl_] at ha;exact ha
    have ly:size (⟨d,f⟩::s:O)≤16:=by rw[eb,rl_] at lb;exact lb
    rw[sc_] at ly
    generalize hp:(div x (⟨d,f⟩::s)).1=p at *
    generalize hr:(div x (⟨d,f⟩::s)).2=r at *
    unfold qend
    by_cases t1:(toldv p).2=true∧(toldv r).2=true
    ·rw[if_pos t1]
     have s1:size p≤60∧most p≤9999:=by
      by_cases q:size p≤60∧most p≤9999
      ·exact q
      ·have:=t1.1;rw[tf_ q] at this;simp at this
     have s2:size r≤60∧most r≤9999:=by
      by_cases q:size r≤60∧most r≤9999
      ·exact q
      ·have:=t1.2;rw[tf_ q] at this;simp at this
     have sum:=D.sum
     have lt:=D.lt
     have n1:=D.nf
     have n2:=D.nf2
     rw[hp] at sum n1
     rw[hr] at sum lt n2
     have vp:Vd p:=⟨n1,s1.2,s1.1⟩
     have vr:Vd r:=⟨n2,s2.2,s2.1⟩
     have hm:size (mul (⟨d,f⟩::s) p)≤60∧most (mul (⟨d,f⟩::s) p)≤9999:=⟨by omega,z2⟩
     have vm:Vd (mul (⟨d,f⟩::s) p):=⟨mul_NF vb.1 n1,hm.2,hm.1⟩
     have e1:timesv b (row p)=(row (mul (⟨d,f⟩::s) p),true):=by rw[timesv_some g (or_ vp),tt_ hm]
     have e2:addv (row (mul (⟨d,f⟩::s) p)) (row r)=(a,true):=by rw[addv_some (or_ vm) (or_ vr),sum,tt_ ⟨va.2.2,va.2.1⟩,ea]
     refine .inr ⟨rfl,?_,?_,?_⟩
     ·show (timesv b (toldv p).1).2=true
      rw[tt_ s1,e1]
     ·show addv (timesv b (toldv p).1).1 (toldv r).1=(a,true)
      rw[tt_ s1,tt_ s2,e1];exact e2
     ·show compv (toldv r).1 b=-1
      rw[tt_ s2,compV (or_ vr) g];exact lt
    ·rw[if_neg t1];exact .inl ⟨rfl,rfl,rfl⟩
end Go.Proofs.Ytfblcanijhnhmaa.P
namespace Go.Proofs.Ytfblcanijhnhmaa.P
open OM Go.RowKit Go.Proofs.YtfblcanijhnhmaaW.PrintWords Go.Proofs.YtfblcanijhnhmaaW.PrintLast Go.Proofs.YtfblcanijhnhmaaW.PrintMore
set_option linter.unusedVariables false
theorem byte_range {x:Int}(h:(Lit.int .u8 x).wf=true):0≤x∧x≤255:=by
 simp[Lit.wf,IntKind.min,IntKind.max,IntKind.signed,IntKind.bits] at h
 omega
def Bytes (b:List Int):Prop:=(b.length:Int)≤2000∧∀ x ∈ b,0≤x∧x≤255
theorem open_ev {l:List Int}(h:∀ x ∈ l,(Lit.int .u8 x).wf=true):∃ b,Bytes b∧spec_l20Open.f l=some (b,0):=by
 unfold spec_l20Open.f
 by_cases g:(l.length:Int)>2000
 ·refine⟨l.take 2000,⟨by simp;omega,fun x hx=>byte_range (h x (List.mem_of_mem_take hx))⟩,?_⟩
  rw[if_pos g,if_pos (by omega)]
 ·refine⟨l,⟨by omega,fun x hx=>byte_range (h x hx)⟩,?_⟩
  rw[if_neg g]
theorem bytes_rd {b:List Int}(h:Bytes b)(i:Int):0≤rd b i∧rd b i≤255:=by
 show 0≤b.getD i.toNat 0∧b.getD i.toNat 0≤255
 rw[List.getD_eq_getElem?_getD]
 cases hj:b[i.toNat]? with
 | none=>simp
 | some v =>
  obtain⟨hjl,hjp⟩:=List.getElem?_eq_some_iff.1 hj
  have:=h.2 v (by rw[← hjp];exact List.getElem_mem hjl)
  simpa using this
theorem xor_nonneg {x y:Int}(hx:0≤x)(hx':x≤1000000000000000000)(hy:0≤y)(hy':y≤1000000000000000000):0≤Go.bits .xor .i64 x y:=by
 unfold Go.bits
 show 0≤IntKind.i64.wrap ((BitVec.ofInt 64 x ^^^ BitVec.ofInt 64 y).toNat:Int)
 have h1:(BitVec.ofInt 64 x ^^^ BitVec.ofInt 64 y).toNat<2 ^ 63:=by
  rw[BitVec.toNat_xor]
  refine Nat.xor_lt_two_pow ?_ ?_
  ·rw[BitVec.toNat_ofInt];omega
  ·rw[BitVec.toNat_ofInt];omega
 rw[i64_w]
 unfold wrap64
 omega
theorem mix_range {r1 r2 p q:Int}(h1:0≤r1∧r1≤255)(h2:0≤r2∧r2≤255)(h3:0≤p∧p≤1000000000)(h4:0≤q∧q≤1000000000) :
 0≤wrap64 ((wrap64 ((wrap64 ((wrap64 ((wrap64 r1)*131))+(wrap64 ((wrap64 r2)*1117))))+(wrap64 (p*29))))+(wrap64 ((wrap64 q)*53)))∧wrap64 ((wrap64 ((wrap64 ((wrap64 ((wrap64 r1)*131))+(wrap64 ((wrap64 r2)*1117))))+(wrap64 (p*29))))+(wrap64 ((wrap64 q)*53)))≤1000000000000:=by
 rw[wi_ (i:=r1) (by omega) (by omega),wi_ (i:=r2) (by omega) (by omega),wi_ (i:=q) (by omega) (by omega),wi_ (i:=r1*131) (by omega) (by omega),wi_ (i:=r2*1117) (by omega) (by omega),wi_ (i:=p*29) (by omega) (by omega),wi_ (i:=q*53) (by omega) (by omega),wi_ (i:=r1*131+r2*1117) (by omega) (by omega),wi_ (i:=r1*131+r2*1117+p*29) (by omega) (by omega),wi_ (i:=r1*131+r2*1117+p*29+q*53) (by omega) (by omega)]
 omega
theorem shift_ok {x:Int}(h:0≤x∧x≤1000000000000):0≤Go.bits .xor .i64 x (wrap64 (Int.tdiv x 64)):=by
 have h1:Int.tdiv x 64=x / 64:=Int.tdiv_eq_ediv_of_nonneg h.1
 rw[h1]
 refine xor_nonneg h.1 (by omega) ?_ ?_<;>(unfold wrap64;omega)
theorem tmod_range {x a:Int}(hx:0≤x)(ha:1≤a):0≤Int.tmod x a∧Int.tmod x a<a:=by
 rw[Int.tmod_eq_emod_of_nonneg hx]
 exact⟨Int.emod_nonneg _ (by omega),Int.emod_lt_of_pos _ (by omega)⟩
theorem tdiv_range {x a:Int}(hx:0≤x)(ha:1≤a):0≤Int.tdiv x a∧Int.tdiv x a≤x:=by
 rw[Int.tdiv_eq_ediv_of_nonneg hx]
 exact⟨Int.ediv_nonneg hx (by omega),Int.ediv_le_self _ hx⟩
theorem pick_ev {b:List Int}(hb:Bytes b){p a:Int}(hp:0≤p)(hp':p≤1000000000):∃ v,0≤v∧(1≤a→v<a)∧Tl (fun k=>spec_l20Rd_pick.f k b p a) (v,p+1):=by
 have hw:wrap64 (p+1)=p+1:=wi_ (by omega) (by omega)
 have hw':wrap64 (p+1-1)=p:=by rw[wi_ (by omega) (by omega)];omega
 have hl:=hb.1
 by_cases h1:a<1
 ·refine⟨0,by omega,by omega,?_⟩
  refine Tl.p h1 ?_
  refine Tl.s (fun k=>by rw[spec_l20Rd_pick.j0]) ?_
  rw[hw]
  exact Tl.p rfl (Tl.w _)
 ·by_cases h2:b=[]
  ·refine⟨0,by omega,by omega,?_⟩
   refine Tl.n h1 ?_
   subst h2
   refine Tl.s (fun k=>by rw[spec_l20Rd_pick.j0]) ?_
   rw[hw]
   exact Tl.p rfl (Tl.w _)
  ·have hlen:1≤(b.length:Int):=by have:=List.length_pos_iff.2 h2;omega
   have hflag:((b.length:Int) == 0)=false:=by simp;exact h2
   have start:∀ v,Tl (fun k=>spec_l20Rd_pick.j0 k a false b (p+1)) (v,p+1)→Tl (fun k=>spec_l20Rd_pick.f k b p a) (v,p+1):=by
    intro v h
    refine Tl.n h1 ?_
    rw[hflag,hw];exact h
   by_cases h3:p<(b.length:Int)
   ·have hr:=bytes_rd hb p
    have hwr:wrap64 (rd b p)=rd b p:=wi_ (by omega) (by omega)
    have ht:=tmod_range (x:=rd b p) (a:=a) hr.1 (by omega)
    refine⟨Int.tmod (rd b p) a,ht.1,fun _=>ht.2,start _ ?_⟩
    refine Tl.s (fun k=>by rw[spec_l20Rd_pick.j0]) ?_
    refine Tl.n (by simp) ?_
    rw[hw',hwr]
    refine Tl.p h3 ?_
    refine Tl.p hp ?_
    refine Tl.n (by omega) ?_
    exact Tl.w _
   ·have i1:=tmod_range (x:=p) (a:=(b.length:Int)) hp hlen
    have e2:wrap64 (wrap64 (p*7)+3)=p*7+3:=by rw[wi_ (i:=p*7) (by omega) (by omega),wi_ (by omega) (by omega)]
    have i2:=tmod_range (x:=p*7+3) (a:=(b.length:Int)) (by omega) hlen
    have q1:=tdiv_range (x:=p) (a:=(b.length:Int)) hp hlen
    have hx:=shift_ok (mix_range (bytes_rd hb (Int.tmod p (b.length:Int))) (bytes_rd hb (Int.tmod (p*7+3) (b.length:Int))) ⟨hp,hp'⟩ ⟨q1.1,by omega⟩)
    have ht:=tmod_range (a:=a) hx (by omega)
    refine⟨_,ht.1,fun _=>ht.2,start _ ?_⟩
    refine Tl.s (fun k=>by rw[spec_l20Rd_pick.j0]) ?_
    refine Tl.n (by simp) ?_
    rw[hw',e2]
    refine Tl.n h3 ?_
    refine Tl.n (by omega) ?_
    refine Tl.p i1.1 ?_
    refine Tl.p i1.2 ?_
    refine Tl.p i2.1 ?_
    refine Tl.p i2.2 ?_
    refine Tl.n (by omega) ?_
    exact Tl.w _
end Go.Proofs.Ytfblcanijhnhmaa.P
namespace Go.Proofs.Ytfblcanijhnhmaa.P
open OM Go.RowKit Go.Proofs.YtfblcanijhnhmaaW.PrintWords Go.Proofs.YtfblcanijhnhmaaW.PrintLast Go.Proofs.YtfblcanijhnhmaaW.PrintMore
set_option linter.unusedVariables false
theorem ofv_row {v:Int}(h0:0≤v)(h:v<4):spec_OrdOf.f v=some (row (if v=0 then [] else [⟨v,[]⟩])):=by
 unfold spec_OrdOf.f
 rw[l1In_eq]
 show (if decide (0≤v∧v≤9999)=true then _ else _)=_
 rw[if_pos (by simp;omega)]
 by_cases z:v=0
 ·rw[if_pos z,if_pos z,row_nil]
 ·rw[if_neg z,if_neg z];unfold row;rw[flat_cons,row_nil,flat_nil];rfl
def G:Nat→Int
 | 0=>3
 | d+1=>3*G d+20
def M (g:Int):Nat→Int
 | 0=>0
 | m+1=>M g m+(g+6)
theorem M_three {g:Int}(h:0≤g):∀ m:Nat,m≤3→0≤M g m∧M g m≤3*g+18:=by
 intro m hm
 match m,hm with
 | 0,_=>simp only[M];omega
 | 1,_=>simp only[M];omega
 | 2,_=>simp only[M];omega
 | 3,_=>simp only[M];omega
def ExR (z:Int)(p N:Int)(g:Nat→Option (List Int × Int)):Prop:=∃ x p',size x≤z∧p≤p'∧p'≤p+N∧Tl g (row x,p')
theorem ExR.step {z p N:Int}{g f:Nat→Option (List Int × Int)}(h:∀ k,g (k+1)=f k)(e:ExR z p N f):ExR z p N g:=by
 obtain⟨x,p',h1,h2,h3,h4⟩:=e
 exact⟨x,p',h1,h2,h3,Tl.s h h4⟩
theorem ExR.bind {α:Type}{a:α}{z p N:Int}{g:Nat→Option α}{f:Nat→α→Option (List Int × Int)}(h:Tl g a)(e:ExR z p N (fun k=>f k a)):ExR z p N (fun k=>(g k).bind (f k)):=by
 obtain⟨x,p',h1,h2,h3,h4⟩:=e
 exact⟨x,p',h1,h2,h3,Tl.b h h4⟩
theorem ExR.sbind {α:Type}{a:α}{z p N:Int}{f:Nat→α→Option (List Int × Int)}(e:ExR z p N (fun k=>f k a)):ExR z p N (fun k=>(some a).bind (f k)):=e
theorem ExR.pos {z p N:Int}{c:Prop}[Decidable c]{f g:Nat→Option (List Int × Int)}(h:c)(e:ExR z p N f):ExR z p N (fun k=>if c then f k else g k):=by
 obtain⟨x,p',h1,h2,h3,h4⟩:=e
 exact⟨x,p',h1,h2,h3,Tl.p h h4⟩
theorem ExR.neg {z p N:Int}{c:Prop}[Decidable c]{f g:Nat→Option (List Int × Int)}(h:¬ c)(e:ExR z p N g):ExR z p N (fun k=>if c then f k else g k):=by
 obtain⟨x,p',h1,h2,h3,h4⟩:=e
 exact⟨x,p',h1,h2,h3,Tl.n h h4⟩
theorem ExR.wide {z p N z' p0 N':Int}{g:Nat→Option (List Int × Int)}(e:ExR z p N g)(hz:z≤z')(hp:p0≤p)(hN:p+N≤p0+N'):ExR z' p0 N' g:=by
 obtain⟨x,p',h1,h2,h3,h4⟩:=e
 exact⟨x,p',by omega,by omega,by omega,h4⟩
theorem find_l {b:List Int}{a m pos z N:Int}{x e:O}(hx:size x≤100000)(he:size e≤100000)
 (H1:∀ p q:O,x=p++q→ExR z pos N (fun k=>spec_l20Raw.j4 k a (cs x) (es x) m (row e) (p.length:Int) false b pos))
 (H2:∀ (p:O) (t:Tm) (q:O),x=p++t::q→ExR z pos N (fun k=>spec_l20Raw.j4 k a (cs x) (es x) m (row e) (p.length:Int) true b pos)) :
 ∀ q p:O,x=p++q→ExR z pos N (fun k=>spec_l20Raw.l1 k a (cs x) (es x) m (row e) (p.length:Int) b pos):=by
 intro q
 induction q with
 | nil =>
  intro p hpq
  have hl:(p.length:Int)=(x.length:Int):=by rw[hpq];simp
  refine ExR.step (fun k=>by rw[spec_l20Raw.l1]) ?_
  refine ExR.neg (by rw[el_];omega) ?_
  refine ExR.step (fun k=>by rw[spec_l20Raw.j3]) ?_
  refine ExR.neg (by rw[el_];omega) ?_
  exact H1 p [] hpq
 | cons t q ih =>
  intro p hpq
  obtain⟨c,f⟩:=t
  have hlen:=ll_ x
  have hl:(x.length:Int)=(p.length:Int)+(q.length:Int)+1:=by rw[hpq];simp;omega
  have hzf:size f≤size x:=by
   have h1:=sp_ p
   have h2:=sp_ q
   rw[hpq,sa_,sc_];omega
  have hrd:rd_L2 (es x) (p.length:Int)=row f:=by rw[hpq,es_append,es_cons];exact rdL_mid _ _ _ (by rw[el_])
  refine ExR.step (fun k=>by rw[spec_l20Raw.l1]) ?_
  refine ExR.pos (by rw[el_];omega) ?_
  refine ExR.pos (by omega) ?_
  rw[hrd]
  refine ExR.bind (specCompare_ev (by omega) (by omega)) ?_
  by_cases hc:cmp f e>0
  ·refine ExR.pos hc ?_
   rw[wi_ (by omega) (by omega)]
   have:=ih (p++[⟨c,f⟩]) (by rw[hpq];simp)
   rw[show ((p++[(⟨c,f⟩:Tm)]).length:Int)=(p.length:Int)+1 by simp] at this
   exact this
  ·refine ExR.neg hc ?_
   refine ExR.step (fun k=>by rw[spec_l20Raw.j3]) ?_
   refine ExR.pos (by rw[el_];omega) ?_
   refine ExR.pos (by omega) ?_
   rw[hrd]
   refine ExR.bind (specCompare_ev (by omega) (by omega)) ?_
   by_cases h0:cmp f e=0
   ·rw[show (cmp f e == 0)=true from beq_iff_eq.mpr h0]
    exact H2 p ⟨c,f⟩ q hpq
   ·rw[show (cmp f e == 0)=false from beq_eq_false_iff_ne.mpr h0]
    exact H1 p _ hpq
theorem cs_take {p q:O}:(cs (p++q)).take (p.length:Int).toNat=cs p:=by rw[cs_append,Int.toNat_natCast,← cl_ p,List.take_left]
theorem cs_drop {p q:O}:(cs (p++q)).drop (p.length:Int).toNat=cs q:=by rw[cs_append,Int.toNat_natCast,← cl_ p,List.drop_left]
theorem es_take {p q:O}:(es (p++q)).take (p.length:Int).toNat=es p:=by rw[es_append,Int.toNat_natCast,← el_ p,List.take_left]
theorem es_drop {p q:O}:(es (p++q)).drop (p.length:Int).toNat=es q:=by rw[es_append,Int.toNat_natCast,← el_ p,List.drop_left]
theorem raw_l {b:List Int}(hb:Bytes b){P:Int}(hP:P≤2000000){d:Nat}(hg:3≤G d)(hg':G d≤10000){a:Int}(ha:1≤a)
 (ih:∀ (a' p:Int),0≤a'→a'<a→0≤p→p≤P→ExR (G d) p (G d) (fun k=>spec_l20Raw.f k b p a')) :
 ∀ (m:Nat) (x:O) (p:Int),m≤3→size x≤50000→0≤p→p+M (G d) m≤P→size x+M (G d) m≤50000 →
  ExR (size x+M (G d) m) p (M (G d) m) (fun k=>spec_l20Raw.l0 k a (cs x) (es x) (m:Int) b p):=by
 intro m
 induction m with
 | zero =>
  intro x p h0 h1 h2 h3 h4
  refine ExR.step (fun k=>by rw[spec_l20Raw.l0]) ?_
  refine ExR.neg (by omega) ?_
  refine ExR.bind (make_ev (by omega)) ?_
  exact⟨x,p,by simp only[M];omega,by omega,by simp only[M];omega,Tl.w _⟩
 | succ m ihm =>
  intro x p h0 h1 h2 h3 h4
  simp only[M] at h3 h4 ⊢
  have hM:=M_three (g:=G d) (by omega) m (by omega)
  have hlx:=ll_ x
  refine ExR.step (fun k=>by rw[spec_l20Raw.l0]) ?_
  refine ExR.pos (by omega) ?_
  obtain⟨v0,_,_,t0⟩:=pick_ev hb (a:=4) h2 (by omega)
  refine ExR.bind t0 ?_
  have hm1:wrap64 ((((m+1:Nat):Nat):Int)-1)=(m:Int):=by rw[wi_ (by omega) (by omega)];simp
  have go:∀ (e:O) (p1:Int),size e≤G d→p≤p1→p1≤p+(G d+2)→ExR (size x+(M (G d) m+(G d+6))) p (M (G d) m+(G d+6)) (fun k=>spec_l20Raw.j1 k a (cs x) (es x) (((m+1:Nat):Nat):Int) (row e) b p1):=by
   intro e p1 he hp1 hp1'
   refine ExR.step (fun k=>by rw[spec_l20Raw.j1]) ?_
   have hp0:=sp_ e
   have fl:=find_l (b:=b) (a:=a) (m:=(((m+1:Nat):Nat):Int)) (pos:=p1) (z:=size x+(M (G d) m+(G d+6))) (N:=M (G d) m+4) (x:=x) (e:=e) (by omega) (by omega) ?_ ?_ x [] rfl
   ·exact fl.wide (by omega) hp1 (by omega)
   ·intro q r hq
    refine ExR.step (fun k=>by rw[spec_l20Raw.j4]) ?_
    refine ExR.neg (by simp) ?_
    refine ExR.sbind ?_
    refine ExR.pos (by omega) ?_
    have hql:(x.length:Int)=(q.length:Int)+(r.length:Int):=by rw[hq];simp
    refine ExR.pos (by rw[cl_];omega) ?_
    refine ExR.sbind ?_
    have c1:(cs x).take (q.length:Int).toNat=cs q:=by rw[hq];exact cs_take
    have c2:(cs x).drop (q.length:Int).toNat=cs r:=by rw[hq];exact cs_drop
    have e1:(es x).take (q.length:Int).toNat=es q:=by rw[hq];exact es_take
    have e2:(es x).drop (q.length:Int).toNat=es r:=by rw[hq];exact es_drop
    have n1:=cl_ q
    have n2:=cl_ r
    have n3:=el_ q
    have n4:=el_ r
    rw[c1,c2,e1,e2]
    refine ExR.pos (by simp only[List.length_nil];omega) ?_
    refine ExR.sbind ?_
    obtain⟨v1,_,_,t1⟩:=pick_ev hb (p:=p1) (a:=3) (by omega) (by omega)
    refine ExR.bind t1 ?_
    obtain⟨v2,_,_,t2⟩:=pick_ev hb (p:=p1+1) (a:=60) (by omega) (by omega)
    refine ExR.bind t2 ?_
    refine ExR.sbind ?_
    refine ExR.pos (by simp only[List.length_nil,List.length_append,List.length_cons];omega) ?_
    refine ExR.sbind ?_
    refine ExR.sbind ?_
    refine ExR.pos (by simp only[List.length_nil,List.length_append,List.length_cons];omega) ?_
    refine ExR.sbind ?_
    refine ExR.pos (by rw[el_];omega) ?_
    refine ExR.sbind ?_
    refine ExR.pos (by simp only[List.length_nil];omega) ?_
    refine ExR.sbind ?_
    refine ExR.sbind ?_
    refine ExR.pos (by simp only[List.length_nil,List.length_append,List.length_cons];omega) ?_
    refine ExR.sbind ?_
    refine ExR.sbind ?_
    refine ExR.pos (by simp only[List.length_nil,List.length_append,List.length_cons];omega) ?_
    rw[hm1]
    generalize hw:wrap64 (wrap64 (1+v1)+wrap64 (wrap64 (Int.tdiv v2 59)*60))=w
    have hy:size (q++⟨w,e⟩::r)=size x+1+size e:=by rw[hq,sa_,sa_,sc_];omega
    have:=ihm (q++⟨w,e⟩::r) (p1+1+1) (by omega) (by omega) (by omega) (by omega) (by omega)
    rw[show cs (q++(⟨w,e⟩:Tm)::r)=[]++cs q++[w]++cs r by rw[cs_append,cs_cons];simp,show es (q++(⟨w,e⟩:Tm)::r)=[]++es q++[row e]++es r by rw[es_append,es_cons];simp] at this
    exact this.wide (by omega) (by omega) (by omega)
   ·intro q t r hq
    obtain⟨c,f⟩:=t
    refine ExR.step (fun k=>by rw[spec_l20Raw.j4]) ?_
    refine ExR.pos rfl ?_
    refine ExR.pos (by omega) ?_
    have hql:(x.length:Int)=(q.length:Int)+(r.length:Int)+1:=by rw[hq];simp;omega
    refine ExR.pos (by rw[cl_];omega) ?_
    rw[hm1]
    generalize hw:wrap64 (rd (cs x) (q.length:Int)+1)=w
    have hy:size (q++⟨w,f⟩::r)=size x:=by rw[hq,sa_,sa_,sc_,sc_]
    have:=ihm (q++⟨w,f⟩::r) p1 (by omega) (by omega) (by omega) (by omega) (by omega)
    rw[show cs (q++(⟨w,f⟩:Tm)::r)=(cs x).set (q.length:Int).toNat w by rw[hq,Int.toNat_natCast,← cl_ q,cs_append,cs_append,List.set_append_right _ _ (Nat.le_refl _)];simp[cs],show es (q++(⟨w,f⟩:Tm)::r)=es x by rw[hq,es_append,es_append];rfl] at this
    exact this.wide (by omega) (by omega) (by omega)
  by_cases h5:v0>0
  ·refine ExR.pos h5 ?_
   obtain⟨v1,g1,g2,t1⟩:=pick_ev hb (p:=p+1) (a:=a) (by omega) (by omega)
   refine ExR.bind t1 ?_
   obtain⟨e,p1,q1,q2,q3,q4⟩:=ih v1 (p+1+1) g1 (g2 ha) (by omega) (by omega)
   refine ExR.bind q4 ?_
   exact go e p1 q1 (by omega) (by omega)
  ·refine ExR.neg h5 ?_
   have:=go [] (p+1) (by rw[sn_];omega) (by omega) (by omega)
   rw[row_nil] at this
   exact this
theorem raw_ev {b:List Int}(hb:Bytes b):∀ (d:Nat),d≤3→∀ (a p:Int),0≤a→a≤d→0≤p→p+100000*d≤1000000→3≤G d∧G d≤1000∧ExR (G d) p (G d) (fun k=>spec_l20Raw.f k b p a):=by
 intro d
 induction d with
 | zero =>
  intro _ a p h1 h2 h3 h4
  refine⟨by simp only[G];omega,by simp only[G];omega,?_⟩
  have:a=0:=by omega
  subst this
  refine ExR.step (fun k=>by rw[spec_l20Raw.f]) ?_
  refine ExR.pos rfl ?_
  obtain⟨v,g1,g2,t⟩:=pick_ev hb (p:=p) (a:=4) h3 (by omega)
  refine ExR.bind t ?_
  refine ExR.bind (Tl.c (ofv_row g1 (g2 (by omega)))) ?_
  refine⟨_,p+1,?_,by omega,by simp only[G];omega,Tl.w _⟩
  simp only[G]
  split<;>simp only[sc_,sn_]<;>omega
 | succ d ih =>
  intro hd a p h1 h2 h3 h4
  have hG:3≤G d∧G d≤200:=by
   match d,hd with
   | 0,_=>simp only[G];omega
   | 1,_=>simp only[G];omega
   | 2,_=>simp only[G];omega
  refine⟨by simp only[G];omega,by simp only[G];omega,?_⟩
  by_cases h0:a=0
  ·subst h0
   refine ExR.step (fun k=>by rw[spec_l20Raw.f]) ?_
   refine ExR.pos rfl ?_
   obtain⟨v,g1,g2,t⟩:=pick_ev hb (p:=p) (a:=4) h3 (by omega)
   refine ExR.bind t ?_
   refine ExR.bind (Tl.c (ofv_row g1 (g2 (by omega)))) ?_
   refine⟨_,p+1,?_,by omega,by simp only[G];omega,Tl.w _⟩
   simp only[G]
   split<;>simp only[sc_,sn_]<;>omega
  ·refine ExR.step (fun k=>by rw[spec_l20Raw.f]) ?_
   refine ExR.neg h0 ?_
   obtain⟨v,g1,g2,t⟩:=pick_ev hb (p:=p) (a:=4) h3 (by omega)
   refine ExR.bind t ?_
   have hv:=g2 (by omega)
   have hM:=M_three (g:=G d) (by omega) v.toNat (by omega)
   have:=raw_l hb (P:=1000000-100000*(d:Int)) (by omega) (d:=d) hG.1 (by omega) (a:=a) (by omega) (fun a' p' k1 k2 k3 k4=>?_) v.toNat [] (p+1) (by omega) (by rw[sn_];omega) (by omega) (by omega) (by rw[sn_];omega)
   ·rw[Int.toNat_of_nonneg g1,sn_] at this
    exact this.wide (by simp only[G];omega) (by omega) (by simp only[G];omega)
   ·exact(ih (by omega) a' p' k1 (by omega) k3 (by omega)).2.2
end Go.Proofs.Ytfblcanijhnhmaa.P
namespace Go.Proofs.Ytfblcanijhnhmaa.P
open OM Go.RowKit Go.Proofs.YtfblcanijhnhmaaW.PrintWords Go.Proofs.YtfblcanijhnhmaaW.PrintLast Go.Proofs.YtfblcanijhnhmaaW.PrintMore
set_option linter.unusedVariables false
theorem rawd {b:List Int}(hb:Bytes b){a p:Int}(h0:0≤a)(h3:a≤3)(hp:0≤p)(hp':p≤700000):∃ x p',size x≤1000∧p≤p'∧p'≤p+1000∧Tl (fun k=>spec_l20Raw.f k b p a) (row x,p'):=by
 obtain⟨g1,g2,x,p',q1,q2,q3,q4⟩:=raw_ev hb 3 (by omega) a p h0 h3 hp (by omega)
 exact⟨x,p',by omega,q2,by omega,q4⟩
end Go.Proofs.Ytfblcanijhnhmaa.P
namespace Go.Proofs.Ytfblcanijhnhmaa.P
open OM Go.RowKit Go.Proofs.YtfblcanijhnhmaaW.PrintWords Go.Proofs.YtfblcanijhnhmaaW.PrintLast Go.Proofs.YtfblcanijhnhmaaW.PrintMore
set_option linter.unusedVariables false
def Sz:Nat→Int
 | 0=>3
 | d+1=>3*Sz d+4
def MS (g:Int):Nat→Int
 | 0=>0
 | m+1=>MS g m+(g+1)
theorem MS_three {g:Int}(h:0≤g):∀ m:Nat,m≤3→0≤MS g m∧MS g m≤3*g+3:=by
 intro m hm
 match m,hm with
 | 0,_=>simp only[MS];omega
 | 1,_=>simp only[MS];omega
 | 2,_=>simp only[MS];omega
 | 3,_=>simp only[MS];omega
theorem raw_s {b:List Int}(hb:Bytes b){P:Int}(hP:P≤2000000){d:Nat}(hg:3≤G d)(hg':G d≤10000)(hs:3≤Sz d)(hs':Sz d≤200){a:Int}(ha:1≤a)
 (ih:∀ (a' p:Int),0≤a'→a'<a→0≤p→p≤P→ExR (Sz d) p (G d) (fun k=>spec_l20Raw.f k b p a')) :
 ∀ (m:Nat) (x:O) (p:Int),m≤3→size x≤50000→0≤p→p+M (G d) m≤P→size x+MS (Sz d) m≤50000 →
  ExR (size x+MS (Sz d) m) p (M (G d) m) (fun k=>spec_l20Raw.l0 k a (cs x) (es x) (m:Int) b p):=by
 intro m
 induction m with
 | zero =>
  intro x p h0 h1 h2 h3 h4
  refine ExR.step (fun k=>by rw[spec_l20Raw.l0]) ?_
  refine ExR.neg (by omega) ?_
  refine ExR.bind (make_ev (by omega)) ?_
  exact⟨x,p,by simp only[MS];omega,by omega,by simp only[M];omega,Tl.w _⟩
 | succ m ihm =>
  intro x p h0 h1 h2 h3 h4
  simp only[M,MS] at h3 h4 ⊢
  have hM:=M_three (g:=G d) (by omega) m (by omega)
  have hMS:=MS_three (g:=Sz d) (by omega) m (by omega)
  have hlx:=ll_ x
  refine ExR.step (fun k=>by rw[spec_l20Raw.l0]) ?_
  refine ExR.pos (by omega) ?_
  obtain⟨v0,_,_,t0⟩:=pick_ev hb (a:=4) h2 (by omega)
  refine ExR.bind t0 ?_
  have hm1:wrap64 ((((m+1:Nat):Nat):Int)-1)=(m:Int):=by rw[wi_ (by omega) (by omega)];simp
  have go:∀ (e:O) (p1:Int),size e≤Sz d→p≤p1→p1≤p+(G d+2)→ExR (size x+(MS (Sz d) m+(Sz d+1))) p (M (G d) m+(G d+6)) (fun k=>spec_l20Raw.j1 k a (cs x) (es x) (((m+1:Nat):Nat):Int) (row e) b p1):=by
   intro e p1 he hp1 hp1'
   refine ExR.step (fun k=>by rw[spec_l20Raw.j1]) ?_
   have hp0:=sp_ e
   have fl:=find_l (b:=b) (a:=a) (m:=(((m+1:Nat):Nat):Int)) (pos:=p1) (z:=size x+(MS (Sz d) m+(Sz d+1))) (N:=M (G d) m+4) (x:=x) (e:=e) (by omega) (by omega) ?_ ?_ x [] rfl
   ·exact fl.wide (by omega) hp1 (by omega)
   ·intro q r hq
    refine ExR.step (fun k=>by rw[spec_l20Raw.j4]) ?_
    refine ExR.neg (by simp) ?_
    refine ExR.sbind ?_
    refine ExR.pos (by omega) ?_
    have hql:(x.length:Int)=(q.length:Int)+(r.length:Int):=by rw[hq];simp
    refine ExR.pos (by rw[cl_];omega) ?_
    refine ExR.sbind ?_
    have c1:(cs x).take (q.length:Int).toNat=cs q:=by rw[hq];exact cs_take
    have c2:(cs x).drop (q.length:Int).toNat=cs r:=by rw[hq];exact cs_drop
    have e1:(es x).take (q.length:Int).toNat=es q:=by rw[hq];exact es_take
    have e2:(es x).drop (q.length:Int).toNat=es r:=by rw[hq];exact es_drop
    have n1:=cl_ q
    have n2:=cl_ r
    have n3:=el_ q
    have n4:=el_ r
    rw[c1,c2,e1,e2]
    refine ExR.pos (by simp only[List.length_nil];omega) ?_
    refine ExR.sbind ?_
    obtain⟨v1,_,_,t1⟩:=pick_ev hb (p:=p1) (a:=3) (by omega) (by omega)
    refine ExR.bind t1 ?_
    obtain⟨v2,_,_,t2⟩:=pick_ev hb (p:=p1+1) (a:=60) (by omega) (by omega)
    refine ExR.bind t2 ?_
    refine ExR.sbind ?_
    refine ExR.pos (by simp only[List.length_nil,List.length_append,List.length_cons];omega) ?_
    refine ExR.sbind ?_
    refine ExR.sbind ?_
    refine ExR.pos (by simp only[List.length_nil,List.length_append,List.length_cons];omega) ?_
    refine ExR.sbind ?_
    refine ExR.pos (by rw[el_];omega) ?_
    refine ExR.sbind ?_
    refine ExR.pos (by simp only[List.length_nil];omega) ?_
    refine ExR.sbind ?_
    refine ExR.sbind ?_
    refine ExR.pos (by simp only[List.length_nil,List.length_append,List.length_cons];omega) ?_
    refine ExR.sbind ?_
    refine ExR.sbind ?_
    refine ExR.pos (by simp only[List.length_nil,List.length_append,List.length_cons];omega) ?_
    rw[hm1]
    generalize hw:wrap64 (wrap64 (1+v1)+wrap64 (wrap64 (Int.tdiv v2 59)*60))=w
    have hy:size (q++⟨w,e⟩::r)=size x+1+size e:=by rw[hq,sa_,sa_,sc_];omega
    have:=ihm (q++⟨w,e⟩::r) (p1+1+1) (by omega) (by omega) (by omega) (by omega) (by omega)
    rw[show cs (q++(⟨w,e⟩:Tm)::r)=[]++cs q++[w]++cs r by rw[cs_append,cs_cons];simp,show es (q++(⟨w,e⟩:Tm)::r)=[]++es q++[row e]++es r by rw[es_append,es_cons];simp] at this
    exact this.wide (by omega) (by omega) (by omega)
   ·intro q t r hq
    obtain⟨c,f⟩:=t
    refine ExR.step (fun k=>by rw[spec_l20Raw.j4]) ?_
    refine ExR.pos rfl ?_
    refine ExR.pos (by omega) ?_
    have hql:(x.length:Int)=(q.length:Int)+(r.length:Int)+1:=by rw[hq];simp;omega
    refine ExR.pos (by rw[cl_];omega) ?_
    rw[hm1]
    generalize hw:wrap64 (rd (cs x) (q.length:Int)+1)=w
    have hy:size (q++⟨w,f⟩::r)=size x:=by rw[hq,sa_,sa_,sc_,sc_]
    have:=ihm (q++⟨w,f⟩::r) p1 (by omega) (by omega) (by omega) (by omega) (by omega)
    rw[show cs (q++(⟨w,f⟩:Tm)::r)=(cs x).set (q.length:Int).toNat w by rw[hq,Int.toNat_natCast,← cl_ q,cs_append,cs_append,List.set_append_right _ _ (Nat.le_refl _)];simp[cs],show es (q++(⟨w,f⟩:Tm)::r)=es x by rw[hq,es_append,es_append];rfl] at this
    exact this.wide (by omega) (by omega) (by omega)
  by_cases h5:v0>0
  ·refine ExR.pos h5 ?_
   obtain⟨v1,g1,g2,t1⟩:=pick_ev hb (p:=p+1) (a:=a) (by omega) (by omega)
   refine ExR.bind t1 ?_
   obtain⟨e,p1,q1,q2,q3,q4⟩:=ih v1 (p+1+1) g1 (g2 ha) (by omega) (by omega)
   refine ExR.bind q4 ?_
   exact go e p1 q1 (by omega) (by omega)
  ·refine ExR.neg h5 ?_
   have:=go [] (p+1) (by rw[sn_];omega) (by omega) (by omega)
   rw[row_nil] at this
   exact this
theorem raws_ev {b:List Int}(hb:Bytes b):∀ (d:Nat),d≤3→∀ (a p:Int),0≤a→a≤d→0≤p→p+100000*d≤1000000→3≤G d∧G d≤1000∧ExR (Sz d) p (G d) (fun k=>spec_l20Raw.f k b p a):=by
 intro d
 induction d with
 | zero =>
  intro _ a p h1 h2 h3 h4
  refine⟨by simp only[G];omega,by simp only[G];omega,?_⟩
  have:a=0:=by omega
  subst this
  refine ExR.step (fun k=>by rw[spec_l20Raw.f]) ?_
  refine ExR.pos rfl ?_
  obtain⟨v,g1,g2,t⟩:=pick_ev hb (p:=p) (a:=4) h3 (by omega)
  refine ExR.bind t ?_
  refine ExR.bind (Tl.c (ofv_row g1 (g2 (by omega)))) ?_
  refine⟨_,p+1,?_,by omega,by simp only[G];omega,Tl.w _⟩
  simp only[Sz]
  split<;>simp only[sc_,sn_]<;>omega
 | succ d ih =>
  intro hd a p h1 h2 h3 h4
  have hG:3≤G d∧G d≤200:=by
   match d,hd with
   | 0,_=>simp only[G];omega
   | 1,_=>simp only[G];omega
   | 2,_=>simp only[G];omega
  have hS:3≤Sz d∧Sz d≤200:=by
   match d,hd with
   | 0,_=>simp only[Sz];omega
   | 1,_=>simp only[Sz];omega
   | 2,_=>simp only[Sz];omega
  refine⟨by simp only[G];omega,by simp only[G];omega,?_⟩
  by_cases h0:a=0
  ·subst h0
   refine ExR.step (fun k=>by rw[spec_l20Raw.f]) ?_
   refine ExR.pos rfl ?_
   obtain⟨v,g1,g2,t⟩:=pick_ev hb (p:=p) (a:=4) h3 (by omega)
   refine ExR.bind t ?_
   refine ExR.bind (Tl.c (ofv_row g1 (g2 (by omega)))) ?_
   refine⟨_,p+1,?_,by omega,by simp only[G];omega,Tl.w _⟩
   simp only[Sz]
   split<;>simp only[sc_,sn_]<;>omega
  ·refine ExR.step (fun k=>by rw[spec_l20Raw.f]) ?_
   refine ExR.neg h0 ?_
   obtain⟨v,g1,g2,t⟩:=pick_ev hb (p:=p) (a:=4) h3 (by omega)
   refine ExR.bind t ?_
   have hv:=g2 (by omega)
   have hM:=M_three (g:=G d) (by omega) v.toNat (by omega)
   have hMS:=MS_three (g:=Sz d) (by omega) v.toNat (by omega)
   have:=raw_s hb (P:=1000000-100000*(d:Int)) (by omega) (d:=d) hG.1 (by omega) hS.1 hS.2 (a:=a) (by omega) (fun a' p' k1 k2 k3 k4=>?_) v.toNat [] (p+1) (by omega) (by rw[sn_];omega) (by omega) (by omega) (by rw[sn_];omega)
   ·rw[Int.toNat_of_nonneg g1,sn_] at this
    exact this.wide (by simp only[Sz];omega) (by omega) (by simp only[G];omega)
   ·exact(ih (by omega) a' p' k1 (by omega) k3 (by omega)).2.2
end Go.Proofs.Ytfblcanijhnhmaa.P
namespace Go.Proofs.Ytfblcanijhnhmaa.P
open OM Go.RowKit Go.Proofs.YtfblcanijhnhmaaW.PrintWords Go.Proofs.YtfblcanijhnhmaaW.PrintLast Go.Proofs.YtfblcanijhnhmaaW.PrintMore
set_option linter.unusedVariables false
def Ex44 (a p N:Int)(g:Nat→Option (List Int × Int)):Prop:=∃ (o:List Int) (p':Int),((o.length:Int)≤44∧(a=1→ordOf o=none))∧p≤p'∧p'≤p+N∧Tl g (o,p')
theorem ordOf_bad {l:List Int}(x:O)(h:row x=l)(g:¬ Vd x):ordOf l=none:=by
 subst h
 rcases or_' x with q | q
 ·exact absurd (os_ q).2 g
 ·exact q.1
theorem ordOf_more (x:O):ordOf (row x++[0])=none:=by
 cases h:ordOf (row x++[0]) with
 | none=>rfl
 | some z =>
  have h1:=(os_ h).1
  have h2:=row_inj' x z [0] [] (by rw[h1,List.append_nil])
  cases h2.2
theorem ordOf_nil:ordOf []=none:=by unfold ordOf;rw[if_neg (by simp)]
theorem bad_a:ordOf [2,1,0,1,1,1,0]=none:=by
 refine ordOf_bad [⟨1,[]⟩,⟨1,[⟨1,[]⟩]⟩] (by simp[row,flat]) (fun h=>?_)
 have h1:=(NF_cons.1 h.1).2.2.2
 exact absurd (below_nil_eq h1) (by simp)
theorem bad_b:ordOf [1,0,0]=none:=by
 refine ordOf_bad [⟨0,[]⟩] (by simp[row,flat]) (fun h=>?_)
 have h1:=(NF_cons.1 h.1).1
 omega
theorem bad_c:ordOf [1,10000,0]=none:=by
 refine ordOf_bad [⟨10000,[]⟩] (by simp[row,flat]) (fun h=>?_)
 have h1:=h.2.1
 rw[mc_] at h1
 omega
theorem odds_ev {b:List Int}(hb:Bytes b){p a:Int}(hp:0≤p)(hp':p≤1000000000):∃ v p',(a=1→v=true)∧p≤p'∧p'≤p+1∧Tl (fun k=>spec_l20Rd_odd.f k b p a) (v,p'):=by
 by_cases h:a>0
 ·obtain⟨v,v0,v1,t⟩:=pick_ev hb (a:=a) hp hp'
  refine⟨_,_,?_,by omega,by omega,Tl.p h (Tl.b t (Tl.w _))⟩
  intro e
  subst e
  have:v=0:=by have:=v1 (by omega);omega
  subst this
  show ((0:Int) == wrap64 (1-1))=true
  rw[wi_ (by omega) (by omega)];rfl
 ·exact⟨_,_,by omega,by omega,by omega,Tl.n h (Tl.w _)⟩
theorem raw2 {b:List Int}(hb:Bytes b){p:Int}(hp:0≤p)(hp':p≤700000):∃ x p',size x≤43∧p≤p'∧p'≤p+1000∧Tl (fun k=>spec_l20Raw.f k b p 2) (row x,p'):=by
 obtain⟨g1,g2,x,p',q1,q2,q3,q4⟩:=raws_ev hb 2 (by omega) 2 p (by omega) (by omega) hp (by omega)
 exact⟨x,p',by simp only[Sz] at q1;omega,q2,by omega,q4⟩
theorem ordj1s_ev {b:List Int}(hb:Bytes b){a p:Int}{o:List Int}(x:O)(hx:o=row x)(ho:(o.length:Int)≤43)(hp:0≤p)(hp':p≤900000):Ex44 a p 10 (fun k=>spec_l20Ord.j1 k a o b p):=by
 obtain⟨v,p1,h0,h1,h2,t1⟩:=odds_ev hb (a:=a) hp (by omega)
 by_cases hv:v=true
 ·obtain⟨w,_,_,t2⟩:=pick_ev hb (p:=p1) (a:=5) (by omega) (by omega)
  have start:∀ r,Tl (fun k=>(if w=0 then(some ((([]:List Int)),p1+1)) else(if w=1 then((some (([]:List Int):List Int)).bind fun y=>(if y.length+o.length<17592186044416 then((some (y++o:List Int)).bind fun z=>(if z.length<17592186044416 then(some ((z++[0]),p1+1)) else(none))) else(none))) else(if w=2 then(some ((([2,1,0,1,1,1,0]:List Int)),p1+1)) else(if w=3 then(some ((([1,0,0]:List Int)),p1+1)) else(some ((([1,10000,0]:List Int)),p1+1))))))) r→Tl (fun k=>spec_l20Ord.j1 k a o b p) r:=by
   intro r h
   refine Tl.s (fun k=>by rw[spec_l20Ord.j1]) ?_
   refine Tl.b t1 ?_
   refine Tl.p hv ?_
   exact Tl.b t2 h
  by_cases w0:w=0
  ·exact⟨[],_,⟨by simp,fun _=>ordOf_nil⟩,by omega,by omega,start _ (Tl.p w0 (Tl.w _))⟩
  ·by_cases w1:w=1
   ·refine⟨[]++o++[0],_,⟨by simp;omega,fun _=>by rw[hx,List.nil_append,ordOf_more]⟩,by omega,by omega,start _ (Tl.n w0 (Tl.p w1 (Tl.d (Tl.p (by simp;omega) (Tl.d (Tl.p (by simp;omega) (Tl.w _)))))))⟩
   ·by_cases w2:w=2
    ·exact⟨[2,1,0,1,1,1,0],_,⟨by simp,fun _=>bad_a⟩,by omega,by omega,start _ (Tl.n w0 (Tl.n w1 (Tl.p w2 (Tl.w _))))⟩
    ·by_cases w3:w=3
     ·exact⟨[1,0,0],_,⟨by simp,fun _=>bad_b⟩,by omega,by omega,start _ (Tl.n w0 (Tl.n w1 (Tl.n w2 (Tl.p w3 (Tl.w _)))))⟩
     ·exact⟨[1,10000,0],_,⟨by simp,fun _=>bad_c⟩,by omega,by omega,start _ (Tl.n w0 (Tl.n w1 (Tl.n w2 (Tl.n w3 (Tl.w _)))))⟩
 ·refine⟨o,p1,⟨by omega,fun e=>absurd (h0 e) hv⟩,by omega,by omega,?_⟩
  refine Tl.s (fun k=>by rw[spec_l20Ord.j1]) ?_
  refine Tl.b t1 ?_
  exact Tl.n hv (Tl.w _)
theorem ordls_ev {b:List Int}(hb:Bytes b){a:Int}:∀ (m:Nat) (x:O) (o:List Int) (p i:Int),o=row x→i+m=4→0≤i→((o.length:Int)≤24∨((o.length:Int)≤43∨0<m))→0≤p→p+2000*m≤600000→Ex44 a p (2000*m+10) (fun k=>spec_l20Ord.l0 k a o i b p):=by
 intro m
 induction m with
 | zero =>
  intro z o p i hz h1 h2 h3 h4 h5
  obtain⟨o',p',q1,q2,q3,q4⟩:=ordj1s_ev hb (a:=a) (o:=o) z hz (by omega) h4 (by omega)
  refine⟨o',p',q1,q2,by omega,?_⟩
  refine Tl.s (fun k=>by rw[spec_l20Ord.l0]) ?_
  exact Tl.n (by omega) q4
 | succ m ih =>
  intro z o p i hz h1 h2 h3 h4 h5
  by_cases h:(o.length:Int)>24
  ·obtain⟨x,p1,q1,q2,q3,q4⟩:=raw2 hb h4 (by omega)
   have hx:=rl_ x
   obtain⟨o',p',r1,r2,r3,r4⟩:=ih x (row x) p1 (i+1) rfl (by omega) (by omega) (by omega) (by omega) (by omega)
   refine⟨o',p',r1,by omega,by omega,?_⟩
   refine Tl.s (fun k=>by rw[spec_l20Ord.l0]) ?_
   refine Tl.p (by omega) ?_
   refine Tl.p h ?_
   refine Tl.b q4 ?_
   rw[wi_ (by omega) (by omega)]
   exact r4
  ·obtain⟨o',p',q1,q2,q3,q4⟩:=ordj1s_ev hb (a:=a) (o:=o) z hz (by omega) h4 (by omega)
   refine⟨o',p',q1,q2,by omega,?_⟩
   refine Tl.s (fun k=>by rw[spec_l20Ord.l0]) ?_
   refine Tl.p (by omega) ?_
   exact Tl.n h q4
theorem drawOrds_ev {b:List Int}(hb:Bytes b){a p:Int}(hp:0≤p)(hp':p≤500000):Ex44 a p 20000 (fun k=>spec_l20Ord.f k b p a):=by
 obtain⟨x,p1,q1,q2,q3,q4⟩:=rawd hb (a:=3) (by omega) (by omega) hp (by omega)
 have hx:=rl_ x
 obtain⟨o',p',r1,r2,r3,r4⟩:=ordls_ev hb (a:=a) 4 x (row x) p1 0 rfl (by omega) (by omega) (by omega) (by omega) (by omega)
 exact⟨o',p',r1,by omega,by omega,Tl.b q4 r4⟩
end Go.Proofs.Ytfblcanijhnhmaa.P
namespace Go.Proofs.Ytfblcanijhnhmaa.P
open OM Go.RowKit Go.Proofs.YtfblcanijhnhmaaW.PrintWords Go.Proofs.YtfblcanijhnhmaaW.PrintLast Go.Proofs.YtfblcanijhnhmaaW.PrintMore
set_option linter.unusedVariables false
def Ex16 (p N:Int)(g:Nat→Option (List Int × Int)):Prop:=∃ (o:List Int) (p':Int),(o.length:Int)≤16∧p≤p'∧p'≤p+N∧Tl g (o,p')
theorem raw1 {b:List Int}(hb:Bytes b){p:Int}(hp:0≤p)(hp':p≤700000):∃ x p',size x≤13∧p≤p'∧p'≤p+1000∧Tl (fun k=>spec_l20Raw.f k b p 1) (row x,p'):=by
 obtain⟨g1,g2,x,p',q1,q2,q3,q4⟩:=raws_ev hb 1 (by omega) 1 p (by omega) (by omega) hp (by omega)
 exact⟨x,p',by simp only[Sz] at q1;omega,q2,by omega,q4⟩
theorem littlels_ev {b:List Int}(hb:Bytes b):∀ (m:Nat) (o:List Int) (p i:Int),i+m=4→0≤i→((o.length:Int)≤16∨0<m)→0≤p→p+2000*m≤600000→Ex16 p (2000*m) (fun k=>spec_l20Little.l0 k o i b p):=by
 intro m
 induction m with
 | zero =>
  intro o p i h1 h2 h3 h4 h5
  refine⟨o,p,by omega,by omega,by omega,?_⟩
  refine Tl.s (fun k=>by rw[spec_l20Little.l0]) ?_
  exact Tl.n (by omega) (Tl.w _)
 | succ m ih =>
  intro o p i h1 h2 h3 h4 h5
  by_cases h:(o.length:Int)>16
  ·obtain⟨x,p1,q1,q2,q3,q4⟩:=raw1 hb h4 (by omega)
   have hx:=rl_ x
   obtain⟨o',p',r1,r2,r3,r4⟩:=ih (row x) p1 (i+1) (by omega) (by omega) (by omega) (by omega) (by omega)
   refine⟨o',p',r1,by omega,by omega,?_⟩
   refine Tl.s (fun k=>by rw[spec_l20Little.l0]) ?_
   refine Tl.p (by omega) ?_
   refine Tl.p h ?_
   refine Tl.b q4 ?_
   rw[wi_ (by omega) (by omega)]
   exact r4
  ·refine⟨o,p,by omega,by omega,by omega,?_⟩
   refine Tl.s (fun k=>by rw[spec_l20Little.l0]) ?_
   refine Tl.p (by omega) ?_
   exact Tl.n h (Tl.w _)
theorem littles_ev {b:List Int}(hb:Bytes b){a p:Int}(hp:0≤p)(hp':p≤400000):∃ (o:List Int) (p':Int),((o.length:Int)≤44∧(ordOf o≠none→(o.length:Int)≤16))∧p≤p'∧p'≤p+50000∧Tl (fun k=>spec_l20Little.f k b p a) (o,p'):=by
 obtain⟨v,p1,h0,h1,h2,t1⟩:=odds_ev hb (a:=a) hp (by omega)
 by_cases hv:v=true
 ·obtain⟨o,p',⟨q1,q0⟩,q2,q3,q4⟩:=drawOrds_ev hb (a:=1) (p:=p1) (by omega) (by omega)
  exact⟨o,p',⟨by omega,fun h=>absurd (q0 rfl) h⟩,by omega,by omega,Tl.b t1 (Tl.p hv (Tl.b q4 (Tl.w _)))⟩
 ·obtain⟨x,p2,q1,q2,q3,q4⟩:=raw2 hb (p:=p1) (by omega) (by omega)
  have hx:=rl_ x
  obtain⟨o',p',r1,r2,r3,r4⟩:=littlels_ev hb 4 (row x) p2 0 (by omega) (by omega) (by omega) (by omega) (by omega)
  exact⟨o',p',⟨by omega,fun _=>r1⟩,by omega,by omega,Tl.b t1 (Tl.n hv (Tl.b q4 r4))⟩
theorem boths_ev {b:List Int}(hb:Bytes b){p:Int}(hp:0≤p)(hp':p≤300000):∃ (o q:List Int) (p':Int),(o.length:Int)≤44∧((q.length:Int)≤44∧(ordOf q≠none→(q.length:Int)≤16))∧p≤p'∧p'≤p+100000∧Tl (fun k=>spec_l20Both.f k b p) (o,q,p'):=by
 obtain⟨o,p1,a1,a2,a3,a4⟩:=littles_ev hb (a:=14) hp (by omega)
 obtain⟨q,p2,b1,b2,b3,b4⟩:=littles_ev hb (a:=14) (p:=p1) (by omega) (by omega)
 exact⟨o,q,p2,a1.1,b1,by omega,by omega,Tl.b a4 (Tl.b b4 (Tl.w _))⟩
theorem drawDivide_ev {l:List Int}(h:∀ x ∈ l,(Lit.int .u8 x).wf=true):∃ a b:List Int,(a.length:Int)≤44∧((b.length:Int)≤44∧(ordOf b≠none→(b.length:Int)≤16))∧Tl (fun k=>spec_DrawOrdDivide.f k l) (a,b):=by
 obtain⟨b,hb,ho⟩:=open_ev h
 obtain⟨o,q,p',h1,h2,h3,h4,t⟩:=boths_ev hb (p:=0) (by omega) (by omega)
 obtain⟨v,_,_,tp⟩:=pick_ev hb (p:=p') (a:=2) (by omega) (by omega)
 by_cases hz:v=0
 ·obtain⟨o',p2,r1,r2,r3,r4⟩:=drawOrds_ev hb (a:=12) (p:=p'+1) (by omega) (by omega)
  exact⟨o',q,r1.1,h2,Tl.b (Tl.c ho) (Tl.b t (Tl.b tp (Tl.p hz (Tl.b r4 (Tl.w _)))))⟩
 ·exact⟨o,q,h1,h2,Tl.b (Tl.c ho) (Tl.b t (Tl.b tp (Tl.n hz (Tl.w _))))⟩
end Go.Proofs.Ytfblcanijhnhmaa.P
namespace Go.Proofs.Ytfblcanijhnhmaa.Pure
open OM Go.RowKit Go.Proofs.Ytfblcanijhnhmaa.P Go.Proofs.YtfblcanijhnhmaaW.PrintWords Go.Proofs.YtfblcanijhnhmaaW.PrintLast Go.Proofs.YtfblcanijhnhmaaW.PrintMore
set_option linter.unusedVariables false
theorem FnOrdDivide:laws_FnOrdDivide.Pure:=by
 intro l h1 h2 h3
 refine Tl.rounds (?_:Tl (fun k=>laws_FnOrdDivide.f k l) true)
 by_cases h:(l.length:Int)>1048576
 ·exact Tl.p h (Tl.w _)
 ·refine Tl.n h ?_
  obtain⟨a,b,al,bl,hd⟩:=drawDivide_ev h3
  refine Tl.b hd ?_
  refine Tl.b implOrdDivide_ev ?_
  refine Tl.b (specOrdDivide_ev (by show (a.length:Int)≤_;omega) (by show (b.length:Int)≤_;omega)) ?_
  obtain⟨hv,hw⟩:=divv_length a b
  refine Tl.b (sameInts_ev (by show ((divv a b).1.length:Int)≤_;omega)) ?_
  refine Tl.p (by simp) ?_
  refine Tl.b (sameInts_ev (by show ((divv a b).2.1.length:Int)≤_;omega)) ?_
  refine Tl.p (by simp) ?_
  rw[show ((divv (a,b).1 (a,b).2).2.2 != (divv (a,b).1 (a,b).2).2.2)=false by simp]
  show Tl (fun k=>laws_FnOrdDivide.j0 k a b (divv a b).1 (divv a b).2.1 (divv a b).2.2 false) true
  refine Tl.s (fun k=>by rw[laws_FnOrdDivide.j0]) ?_
  refine Tl.n (by simp) ?_
  rcases divv_law al bl.2 with ⟨e1,e2,e3⟩ | ⟨e1,e2,e3,e4⟩
  ·refine Tl.n (by rw[e1];simp) ?_
   refine Tl.p (by rw[e2];rfl) ?_
   refine Tl.p (by rw[e3];rfl) ?_
   exact Tl.b alive_ev (Tl.w _)
  ·refine Tl.p e1 ?_
   refine Tl.b implOrdTimes_ev ?_
   refine Tl.b implOrdAdd_ev ?_
   refine Tl.p e2 ?_
   refine Tl.p (by rw[e3]) ?_
   refine Tl.b (sameInts_ev (by rw[e3];show (a.length:Int)≤_;omega)) ?_
   refine Tl.p (by rw[e3];simp) ?_
   refine Tl.b implOrdCompare_ev ?_
   refine Tl.to (Tl.w _) ?_
   rw[e4];rfl
end Go.Proofs.Ytfblcanijhnhmaa.Pure
