/-
 The pure statement of NumReads: the reference and the program agree on Read of all texts. No condition.
-/
import Derived.Test.YtaffkbemjbfajaaGreatDoorPNumReadsx
import Derived.Test.YtaffkbemjbfajaaGreatDoorNum
set_option linter.unusedVariables false
set_option linter.unusedSimpArgs false
namespace Go.Proofs.YtaffkbemjbfajaaGreatDoor.Pure
open Go.RowKit Go.Proofs.YtaffkbemjbfajaaGreatDoor.PNumReads Go.Proofs.YtaffkbemjbfajaaGreatDoor.Num Go.Proofs.YtaffkbemjbfajaaGreatDoorW.PrintWords Go.Proofs.YtaffkbemjbfajaaGreatDoorW.PrintLast Go.Proofs.YtaffkbemjbfajaaGreatDoorW.PrintMore
set_option maxRecDepth 100000 in
theorem nums_true:YA.f 40=some true:=by decide +kernel
theorem nums_up:∀ d,YA.f (40+d)=some true
 | 0=>nums_true
 | d+1=>YA.mono (40+d) _ (nums_up d)
theorem nums_at (k:Nat) (h:40≤k):YA.f k=some true:=by
 obtain ⟨d,rfl⟩:∃ d,k=40+d:=⟨k-40,by omega⟩
 exact nums_up d
namespace Dg
def val (B:Int) (l:List Int):Int:=l.foldr (fun d r=>d+B*r) 0
def Ok (B:Int) (l:List Int):Prop:=∀ d ∈ l,0≤d∧d<B
theorem val_nil (B:Int):val B []=0:=rfl
theorem val_cons (B d:Int) (l:List Int):val B (d :: l)=d+B*val B l:=rfl
theorem val_append (B:Int) (a b:List Int):val B (a++b)=val B a+B^a.length*val B b:=by
 induction a with
 | nil=>simp [val]
 | cons d a ih=>rw [List.cons_append,val_cons,val_cons,ih,List.length_cons];grind
theorem val_snoc (B d:Int) (l:List Int):val B (l++[d])=val B l+B^l.length*d:=by
 rw [val_append,val_cons,val_nil,Int.mul_zero,Int.add_zero]
theorem val_zeros (B:Int) (n:Nat):val B (List.replicate n 0)=0:=by
 induction n with
 | zero=>rfl
 | succ n ih=>rw [List.replicate_succ,val_cons,ih];simp
theorem val_set (B:Int) (x:Int):∀ (l:List Int) (i:Nat) (h:i<l.length),val B (l.set i x)=val B l+(x-l[i])*B^i
 | d :: l,0,_=>by simp only [List.set_cons_zero,val_cons,List.getElem_cons_zero,Int.pow_zero];omega
 | d :: l,i+1,h=>by
  simp only [List.set_cons_succ,val_cons,List.getElem_cons_succ]
  rw [val_set B x l i (by simpa using h)];grind
theorem rd_get (l:List Int) (i:Nat) (h:i<l.length):rd l (i:Int)=l[i]:=by
 unfold rd;rw [Int.toNat_natCast,List.getD_eq_getElem?_getD,List.getElem?_eq_getElem h];rfl
theorem val_set' (B:Int) (x:Int) (l:List Int) (i:Nat) (h:i<l.length):val B (l.set i x)=val B l+(x-rd l (i:Int))*B^i:=by
 rw [val_set B x l i h,rd_get l i h]
theorem Ok.rd {B:Int} {l:List Int} (h:Ok B l) (i:Nat) (hi:i<l.length):0≤rd l (i:Int)∧rd l (i:Int)<B:=by
 rw [rd_get l i hi];exact h _ (List.getElem_mem _)
theorem Ok.set {B x:Int} {l:List Int} (h:Ok B l) (i:Nat) (h0:0≤x) (h1:x<B):Ok B (l.set i x):=fun d hd=>by
 rcases List.mem_or_eq_of_mem_set hd with hd|hd
 ·exact h d hd
 ·rw [hd];exact ⟨h0,h1⟩
theorem Ok.append {B:Int} {a b:List Int} (h:Ok B a) (k:Ok B b):Ok B (a++b):=fun d hd=>(List.mem_append.1 hd).elim (h d) (k d)
theorem Ok.take {B:Int} {a:List Int} (h:Ok B a) (n:Nat):Ok B (a.take n):=fun d hd=>h d (List.mem_of_mem_take hd)
theorem Ok.drop {B:Int} {a:List Int} (h:Ok B a) (n:Nat):Ok B (a.drop n):=fun d hd=>h d (List.mem_of_mem_drop hd)
theorem Ok.zeros {B:Int} (hB:1≤B) (n:Nat):Ok B (List.replicate n 0):=fun d hd=>by rw [List.eq_of_mem_replicate hd];omega
theorem Ok.nil (B:Int):Ok B []:=fun d hd=>by cases hd
theorem Ok.cons {B x:Int} {l:List Int} (h:Ok B l) (h0:0≤x) (h1:x<B):Ok B (x :: l):=fun d hd=>by
 rcases List.mem_cons.1 hd with rfl|hd
 ·exact ⟨h0,h1⟩
 ·exact h d hd
theorem Ok.tail {B x:Int} {l:List Int} (h:Ok B (x :: l)):Ok B l:=fun d hd=>h d (List.mem_cons_of_mem _ hd)
theorem val_nonneg {B:Int} (hB:1≤B):∀ {l:List Int},Ok B l→0≤val B l
 | [],_=>Int.le_refl _
 | d :: l,h=>by
  rw [val_cons]
  have:=Int.mul_nonneg (show 0≤B by omega) (val_nonneg hB h.tail)
  have:=h d (List.mem_cons_self)
  omega
theorem pow_pos {B:Int} (hB:1≤B) (n:Nat):1≤B^n:=by
 induction n with
 | zero=>simp
 | succ n ih=>rw [Int.pow_succ];have:=Int.mul_le_mul ih hB (by omega) (by omega);omega
theorem val_lt {B:Int} (hB:1≤B):∀ {l:List Int},Ok B l→val B l<B^l.length
 | [],_=>by simp [val]
 | d :: l,h=>by
  rw [val_cons,List.length_cons,Int.pow_succ,Int.mul_comm _ B]
  have h1:=val_lt hB h.tail
  have:=Int.mul_le_mul_of_nonneg_left (show val B l+1≤B^l.length by omega) (show 0≤B by omega)
  have:=h d (List.mem_cons_self)
  rw [Int.mul_add,Int.mul_one] at *
  omega
theorem val_split (B:Int) (l:List Int) (k:Nat) (hk:k≤l.length):val B l=val B (l.take k)+B^k*val B (l.drop k):=by
 have:=val_append B (l.take k) (l.drop k)
 rw [List.take_append_drop,List.length_take,Nat.min_eq_left hk] at this
 exact this
def dg (B:Nat) (n:Nat):List Int:=if h:2≤B∧n≠0 then ((n%B:Nat):Int) :: dg B (n/B) else []
termination_by n
decreasing_by exact Nat.div_lt_self (by omega) (by omega)
theorem dg_zero (B:Nat):dg B 0=[]:=by rw [dg,dif_neg (by omega)]
theorem dg_pos {B:Nat} (hB:2≤B) {n:Nat} (h:n≠0):dg B n=((n%B:Nat):Int) :: dg B (n/B):=by rw [dg,dif_pos ⟨hB,h⟩]
theorem dg_ind {B:Nat} (hB:2≤B) {P:Nat→Prop} (h0:P 0) (h1:∀ n,n≠0→P (n/B)→P n) (n:Nat):P n:=by
 induction n using Nat.strongRecOn with
 | ind n ih =>
  by_cases h:n=0
  ·rw [h];exact h0
  ·exact h1 n h (ih _ (Nat.div_lt_self (by omega) (by omega)))
theorem dg_ok {B:Nat} (hB:2≤B) (n:Nat):Ok (B:Int) (dg B n):=by
 refine dg_ind hB (P:=fun n=>Ok (B:Int) (dg B n)) (by rw [dg_zero];exact Ok.nil _) (fun n hn ih=>?_) n
 rw [dg_pos hB hn]
 exact ih.cons (by omega) (by have:=Nat.mod_lt n (show B > 0 by omega);omega)
theorem dg_val {B:Nat} (hB:2≤B) (n:Nat):val (B:Int) (dg B n)=(n:Int):=by
 refine dg_ind hB (P:=fun n=>val (B:Int) (dg B n)=(n:Int)) (by rw [dg_zero];rfl) (fun n hn ih=>?_) n
 rw [dg_pos hB hn,val_cons,ih]
 have:=Nat.mod_add_div n B
 have h2:((n%B+B*(n/B):Nat):Int)=(n:Int):=by rw [this]
 rw [← h2,Int.natCast_add,Int.natCast_mul]
theorem dg_eq_nil {B:Nat} (hB:2≤B) {n:Nat}:dg B n=[]↔n=0:=by
 constructor
 ·intro h
  have:=dg_val hB n
  rw [h,val_nil] at this
  omega
 ·rintro rfl;exact dg_zero B
theorem dg_len_le {B:Nat} (hB:2≤B) (k:Nat):∀ n,n<B^k→(dg B n).length≤k:=by
 induction k with
 | zero =>
  intro n hn
  have:n=0:=by simpa using hn
  subst this;simp [dg_zero]
 | succ k ih =>
  intro n hn
  by_cases h:n=0
  ·subst h;simp [dg_zero]
  ·rw [dg_pos hB h,List.length_cons]
   have:=ih (n/B) (by rw [Nat.div_lt_iff_lt_mul (by omega)];rw [Nat.pow_succ] at hn;exact hn)
   omega
theorem dg_top {B:Nat} (hB:2≤B) (n:Nat):n≠0→rd (dg B n) (((dg B n).length-1:Nat):Int)≠0:=by
 refine dg_ind hB (P:=fun n=>n≠0→rd (dg B n) (((dg B n).length-1:Nat):Int)≠0) (fun h=>absurd rfl h) (fun n hn ih _=>?_) n
 rw [dg_pos hB hn,List.length_cons,Nat.add_sub_cancel]
 by_cases h:n/B=0
 ·rw [h,dg_zero]
  show ((n%B:Nat):Int)≠0
  have h1:n<B:=by rcases Nat.lt_or_ge n B with h1|h1;exact h1;have:=Nat.div_pos h1 (by omega);omega
  rw [Nat.mod_eq_of_lt h1];omega
 ·have h2:=ih h
  have h3:(dg B (n/B)).length≠0:=fun e=>h ((dg_eq_nil hB).1 (List.eq_nil_of_length_eq_zero e))
  rw [rd_get _ _ (by omega)] at h2
  rw [rd_get _ _ (by simp),List.getElem_cons,dif_neg h3]
  exact h2
theorem dg_of {B:Nat} (hB:2≤B):∀ (l:List Int),Ok (B:Int) l→(l≠[]→rd l ((l.length-1:Nat):Int)≠0)→l=dg B (val (B:Int) l).toNat
 | [],_,_=>by rw [val_nil];exact (dg_zero B).symm
 | d :: l,hok,ht=>by
  have hd:=hok d (List.mem_cons_self)
  have hv:=val_nonneg (show (1:Int)≤(B:Int) by omega) hok.tail
  have hl:l≠[]→rd l ((l.length-1:Nat):Int)≠0:=fun h=>by
   have h1:=ht (by simp)
   have h3:l.length≠0:=fun e=>h (List.eq_nil_of_length_eq_zero e)
   rw [List.length_cons,Nat.add_sub_cancel,rd_get _ _ (by simp),List.getElem_cons,dif_neg h3] at h1
   rw [rd_get _ _ (by omega)];exact h1
  have ih:=dg_of hB l hok.tail hl
  obtain ⟨v,hv'⟩:=Int.eq_ofNat_of_zero_le hv
  obtain ⟨e,rfl⟩:=Int.eq_ofNat_of_zero_le hd.1
  have hval:(val (B:Int) ((e:Int) :: l)).toNat=e+B*v:=by
   rw [val_cons,hv',← Int.natCast_mul,← Int.natCast_add,Int.toNat_natCast]
  have hne:e+B*v≠0:=by
   intro h0
   have he:e=0:=by omega
   have hv0:v=0:=by
    rcases Nat.mul_eq_zero.1 (show B*v=0 by omega) with h|h
    ·omega
    ·exact h
   by_cases hn:l=[]
   ·subst hn;have:=ht (by simp);subst he;exact this rfl
   ·have:l=[]:=by rw [ih,hv',hv0];exact dg_zero B
    exact hn this
  rw [hval,dg_pos hB hne]
  have h1:(e+B*v)%B=e:=by rw [Nat.add_mul_mod_self_left];exact Nat.mod_eq_of_lt (by omega)
  have h2:(e+B*v)/B=v:=by rw [Nat.add_mul_div_left _ _ (by omega),Nat.div_eq_of_lt (by omega),Nat.zero_add]
  rw [h1,h2]
  congr 1
  rw [ih,hv'];rfl
theorem val_take_pred (B:Int) (l:List Int) (h:l≠[]) (h0:rd l ((l.length-1:Nat):Int)=0):val B (l.take (l.length-1))=val B l:=by
 have hl:l.length≠0:=fun e=>h (List.eq_nil_of_length_eq_zero e)
 have h1:=val_split B l (l.length-1) (by omega)
 have h2:l.drop (l.length-1)=[l[l.length-1]]:=by
  rw [List.drop_eq_getElem_cons (by omega),show l.length-1+1=l.length by omega,List.drop_length]
 rw [h2,val_cons,val_nil,← rd_get l _ (by omega),h0] at h1
 rw [h1];omega
theorem dg_len_mono {B:Nat} (hB:2≤B) {m n:Nat} (h:m≤n):(dg B m).length≤(dg B n).length:=by
 refine dg_len_le hB _ m ?_
 have:=val_lt (show (1:Int)≤(B:Int) by omega) (dg_ok hB n)
 rw [dg_val hB] at this
 have:n<B^(dg B n).length:=by exact_mod_cast this
 omega
theorem lt_dg {B:Nat} (hB:2≤B) (n:Nat):n<B^(dg B n).length:=by
 have:=val_lt (show (1:Int)≤(B:Int) by omega) (dg_ok hB n)
 rw [dg_val hB] at this
 exact_mod_cast this
theorem dg_le {B:Nat} (hB:2≤B) {n:Nat} (hn:n≠0):B^((dg B n).length-1)≤n:=by
 have h:=dg_top hB n hn
 have hl:(dg B n).length≠0:=fun e=>hn ((dg_eq_nil hB).1 (List.eq_nil_of_length_eq_zero e))
 rcases Nat.lt_or_ge n (B^((dg B n).length-1)) with h1|h1
 ·have:=dg_len_le hB _ n h1;omega
 ·exact h1
end Dg
theorem u64_ {n:Int} (h0:0≤n) (h1:n<18446744073709551616):IntKind.u64.wrap n=n:=by rw [u64w];omega
theorem u32m {n:Int} (h0:0≤n) (h1:n<4294967296):n%4294967296=n:=by omega
theorem tdiv_ {a b:Int} (h:0≤a):Int.tdiv a b=a/b:=Int.tdiv_eq_ediv_of_nonneg h
theorem tmod_ {a b:Int} (h:0≤a):Int.tmod a b=a%b:=Int.tmod_eq_emod_of_nonneg h
theorem rd_set_ (l:List Int) (i j:Nat) (x:Int) (hi:i<l.length):rd (l.set i x) (j:Int)=if i=j then x else rd l (j:Int):=by
 unfold rd
 rw [Int.toNat_natCast,List.getD_eq_getElem?_getD,List.getD_eq_getElem?_getD,List.getElem?_set]
 split
 ·rfl
 ·simp [*]
theorem rd_take_ (l:List Int) (i j:Nat) (h:j<i):rd (l.take i) (j:Int)=rd l (j:Int):=by
 unfold rd;rw [Int.toNat_natCast,List.getD_eq_getElem?_getD,List.getD_eq_getElem?_getD,List.getElem?_take_of_lt h]
theorem take_one (l:List Int) (i:Nat) (h:i<l.length):l.take (i+1)=l.take i++[rd l (i:Int)]:=by
 rw [Dg.rd_get l i h,List.take_succ_eq_append_getElem h]
theorem val_take_one (B:Int) (l:List Int) (i:Nat) (h:i<l.length):Dg.val B (l.take (i+1))=Dg.val B (l.take i)+B^i*rd l (i:Int):=by
 rw [take_one l i h,Dg.val_snoc,List.length_take,Nat.min_eq_left (by omega)]
theorem val_drop_one (B:Int) (l:List Int) (i:Nat) (h:i<l.length):Dg.val B (l.drop i)=rd l (i:Int)+B*Dg.val B (l.drop (i+1)):=by
 rw [List.drop_eq_getElem_cons h,Dg.val_cons,Dg.rd_get l i h]
theorem ok9 (n:Nat):Dg.Ok 1000000000 (Dg.dg 1000000000 n):=Dg.dg_ok (B:=1000000000) (by omega) n
theorem val9 (n:Nat):Dg.val 1000000000 (Dg.dg 1000000000 n)=(n:Int):=Dg.dg_val (B:=1000000000) (by omega) n
theorem top9 (n:Nat) (h:n≠0):rd (Dg.dg 1000000000 n) (((Dg.dg 1000000000 n).length-1:Nat):Int)≠0:=Dg.dg_top (B:=1000000000) (by omega) n h
theorem nil9 {n:Nat}:Dg.dg 1000000000 n=[]↔n=0:=Dg.dg_eq_nil (B:=1000000000) (by omega)
theorem len9 {n:Nat}:(Dg.dg 1000000000 n).length=0↔n=0:=by rw [List.length_eq_zero_iff];exact nil9
theorem of_ev (n:Nat):∀ (acc:List Int),n<18446744073709551616→acc.length+(Dg.dg 1000000000 n).length<35184372088832→Ev (fun k=>Yt.l0 k (n:Int) acc) (acc++Dg.dg 1000000000 n):=by
 refine Dg.dg_ind (B:=1000000000) (by omega) (P:=fun n=>∀ (acc:List Int),n<18446744073709551616→acc.length+(Dg.dg 1000000000 n).length<35184372088832→Ev (fun k=>Yt.l0 k (n:Int) acc) (acc++Dg.dg 1000000000 n)) ?_ ?_ n
 ·intro acc _ _
  rw [Dg.dg_zero,List.append_nil]
  exact Ev.step (f:=fun _=>some acc) (fun k=>by simp only [Yt.l0];rw [if_neg (by omega)]) (Ev.now _)
 ·intro n hn ih acc h1 h2
  rw [Dg.dg_pos (by omega) hn] at h2 ⊢
  rw [List.length_cons] at h2
  have e1:(n:Int)/1000000000=((n/1000000000:Nat):Int):=by omega
  have e2:(n:Int)%1000000000=((n%1000000000:Nat):Int):=by omega
  have:=ih (acc++[((n%1000000000:Nat):Int)]) (by omega) (by simp;omega)
  rw [List.append_assoc] at this
  refine Ev.step (fun k=>?_) this
  simp only [Yt.l0]
  rw [if_pos (by omega),if_pos (by omega),tdiv_ (by omega),tmod_ (by omega),u64_ (by omega) (by omega),u32m (by omega) (by omega),e1,e2]
theorem natOf_ev (n:Nat) (h:n<18446744073709551616):Ev (fun k=>Yt.f k (n:Int)) (Dg.dg 1000000000 n):=by
 have hl:=Dg.dg_len_le (B:=1000000000) (by omega) 3 n (by omega)
 have:=of_ev n [] h (by simp;omega)
 simpa [Yt.f] using this
theorem trim_ev (n:Nat):∀ (l:List Int),l.length=n→Dg.Ok 1000000000 l→l.length<1000000000000→Ev (fun k=>Yf.f k l) (Dg.dg 1000000000 (Dg.val 1000000000 l).toNat):=by
 induction n with
 | zero =>
  intro l hl _ _
  obtain rfl:=List.eq_nil_of_length_eq_zero hl
  rw [show (Dg.val 1000000000 ([]:List Int)).toNat=0 from rfl,Dg.dg_zero]
  exact Ev.step (f:=fun _=>some []) (fun k=>by simp [Yf.f,Yf.l0]) (Ev.now _)
 | succ n ih =>
  intro l hl hok hlen
  have hw:wrap64 ((l.length:Int)-1)=((l.length-1:Nat):Int):=by rw [w64 (by omega) (by omega)];omega
  by_cases h0:rd l ((l.length-1:Nat):Int)=0
  ·have hne:l≠[]:=fun e=>by rw [e] at hl;simp at hl
   have:=ih (l.take (l.length-1)) (by rw [List.length_take];omega) (hok.take _) (by rw [List.length_take];omega)
   rw [Dg.val_take_pred _ l hne h0] at this
   refine Ev.step (fun k=>?_) this
   simp only [Yf.f,Yf.l0]
   rw [if_pos (by omega),hw,if_pos (by omega),if_pos (by omega),if_pos h0,if_pos (by omega),Int.toNat_natCast]
  ·have e:=Dg.dg_of (B:=1000000000) (by omega) l hok (fun _=>h0)
   have e':Dg.dg 1000000000 (Dg.val 1000000000 l).toNat=l:=e.symm
   rw [e']
   refine Ev.step (f:=fun _=>some l) (fun k=>?_) (Ev.now _)
   simp only [Yf.f,Yf.l0]
   rw [if_pos (by omega),hw,if_pos (by omega),if_pos (by omega),if_neg h0]
def sg (m n:Int):Int:=if m<n then -1 else if m > n then 1 else 0
theorem cmpInt_eq (a b:Int):YO.f a b=some (sg a b):=by
 unfold YO.f sg
 split
 ·rfl
 ·split <;> rfl
theorem cmp_ev (a b:List Int) (ha:Dg.Ok 1000000000 a) (hb:Dg.Ok 1000000000 b) (hl:a.length<1000000000000):∀ (i:Nat),i≤a.length→i≤b.length→Ev (fun k=>Yw.l0 k a b ((i:Int)-1)) (sg (Dg.val 1000000000 (a.take i)) (Dg.val 1000000000 (b.take i))):=by
 intro i
 induction i with
 | zero =>
  intro _ _
  refine Ev.step (f:=fun _=>some 0) (fun k=>?_) (Ev.now _)
  simp only [Yw.l0];rw [if_neg (by omega)]
 | succ i ih =>
  intro h1 h2
  have hA:=ha.rd i (by omega)
  have hB:=hb.rd i (by omega)
  have va0:=Dg.val_nonneg (by omega) (ha.take i)
  have vb0:=Dg.val_nonneg (by omega) (hb.take i)
  have va1:=Dg.val_lt (by omega) (ha.take i)
  have vb1:=Dg.val_lt (by omega) (hb.take i)
  rw [List.length_take,Nat.min_eq_left (by omega)] at va1 vb1
  rw [show ((i+1:Nat):Int)-1=(i:Int) by omega,val_take_one _ a i (by omega),val_take_one _ b i (by omega)]
  by_cases he:rd a (i:Int)=rd b (i:Int)
  ·have:=ih (by omega) (by omega)
   have e:sg (Dg.val 1000000000 (a.take i)+1000000000^i*rd a (i:Int)) (Dg.val 1000000000 (b.take i)+1000000000^i*rd b (i:Int))=sg (Dg.val 1000000000 (a.take i)) (Dg.val 1000000000 (b.take i)):=by
    rw [he];unfold sg
    generalize (1000000000:Int)^i*rd b (i:Int)=z
    split <;> split <;> first|omega|(split <;> split <;> omega)|(split <;> omega)
   rw [e]
   refine Ev.step (fun k=>?_) this
   simp only [Yw.l0]
   rw [if_pos (by omega),if_pos (by omega),if_pos (by omega),if_pos (by omega),if_pos he,w64 (by omega) (by omega)]
  ·have e:sg (Dg.val 1000000000 (a.take i)+1000000000^i*rd a (i:Int)) (Dg.val 1000000000 (b.take i)+1000000000^i*rd b (i:Int))=sg (rd a (i:Int)) (rd b (i:Int)):=by
    have hp:=Dg.pow_pos (B:=1000000000) (by omega) i
    rcases Int.lt_or_gt_of_ne he with h|h
    ·have:=Int.mul_le_mul_of_nonneg_left (show rd a (i:Int)+1≤rd b (i:Int) by omega) (show 0≤(1000000000:Int)^i by omega)
     rw [Int.mul_add,Int.mul_one] at this
     unfold sg;rw [if_pos (by omega),if_pos h]
    ·have:=Int.mul_le_mul_of_nonneg_left (show rd b (i:Int)+1≤rd a (i:Int) by omega) (show 0≤(1000000000:Int)^i by omega)
     rw [Int.mul_add,Int.mul_one] at this
     unfold sg;rw [if_neg (by omega),if_pos (by omega),if_neg (by omega),if_pos h]
   rw [e]
   refine Ev.step (f:=fun _=>some (sg (rd a (i:Int)) (rd b (i:Int)))) (fun k=>?_) (Ev.now _)
   simp only [Yw.l0]
   rw [if_pos (by omega),if_pos (by omega),if_pos (by omega),if_pos (by omega),if_neg he,w64 (by omega) (by omega),w64 (by omega) (by omega),cmpInt_eq];rfl
theorem natCmp_ev (m n:Nat) (hm:(Dg.dg 1000000000 m).length<1000000000000) (hn:(Dg.dg 1000000000 n).length<1000000000000):Ev (fun k=>Yw.f k (Dg.dg 1000000000 m) (Dg.dg 1000000000 n)) (sg m n):=by
 unfold Yw.f
 by_cases h:(Dg.dg 1000000000 m).length=(Dg.dg 1000000000 n).length
 ·have:=cmp_ev (Dg.dg 1000000000 m) (Dg.dg 1000000000 n) (ok9 m) (ok9 n) hm (Dg.dg 1000000000 m).length (Nat.le_refl _) (by omega)
  rw [List.take_length] at this
  rw [show (Dg.dg 1000000000 n).take (Dg.dg 1000000000 m).length=Dg.dg 1000000000 n by rw [h,List.take_length]] at this
  rw [val9,val9] at this
  refine Ev.congr (fun k=>?_) this
  have hw:wrap64 (((Dg.dg 1000000000 m).length:Int)-1)=((Dg.dg 1000000000 m).length:Int)-1:=w64 (by omega) (by omega)
  rw [if_pos (by omega),hw]
 ·refine Ev.congr (f:=fun _=>some (sg m n)) (fun k=>?_) (Ev.now _)
  rw [if_neg (by omega),cmpInt_eq]
  show some _=_
  congr 1
  rcases Nat.lt_or_gt_of_ne h with h1|h1
  ·have:m<n:=by
    rcases Nat.lt_or_ge m n with h2|h2
    ·exact h2
    ·have:=Dg.dg_len_mono (B:=1000000000) (by omega) h2;omega
   unfold sg;rw [if_pos (by omega),if_pos (by omega)]
  ·have:n<m:=by
    rcases Nat.lt_or_ge n m with h2|h2
    ·exact h2
    ·have:=Dg.dg_len_mono (B:=1000000000) (by omega) h2;omega
   unfold sg;rw [if_neg (by omega),if_pos (by omega),if_neg (by omega),if_pos (by omega)]
theorem divmod_unique {a q r b:Int} (h:a=q*b+r) (h0:0≤r) (h1:r<b):a/b=q∧a%b=r:=by
 have e1:a/b=q:=by rw [h,Int.add_comm,Int.add_mul_ediv_right _ _ (by omega),Int.ediv_eq_zero_of_lt h0 h1,Int.zero_add]
 refine ⟨e1,?_⟩
 have:=Int.emod_add_mul_ediv a b
 rw [e1] at this
 rw [Int.mul_comm] at this
 omega
theorem drop_set_ (l:List Int) (i:Nat) (x:Int):(l.set i x).drop (i+1)=l.drop (i+1):=by
 apply List.ext_getElem?
 intro j
 rw [List.getElem?_drop,List.getElem?_drop,List.getElem?_set_ne (by omega)]
theorem rd_beyond (l:List Int) (i:Nat) (h:l.length≤i):rd l (i:Int)=0:=by
 unfold rd;rw [Int.toNat_natCast,List.getD_eq_getElem?_getD,List.getElem?_eq_none h];rfl
theorem rd_zeros (n i:Nat):rd (List.replicate n 0) (i:Int)=0:=by
 unfold rd
 rw [Int.toNat_natCast,List.getD_eq_getElem?_getD]
 by_cases h:i<n
 ·rw [List.getElem?_replicate,if_pos h];rfl
 ·rw [List.getElem?_replicate,if_neg h];rfl
theorem mul_bd {x y a b:Int} (h0:0≤x) (h1:x≤a) (h2:0≤y) (h3:y≤b):0≤x*y∧x*y≤a*b :=
 ⟨Int.mul_nonneg h0 h2,Int.mul_le_mul h1 h3 h2 (by omega)⟩
theorem short_loop (a:List Int) (by_:Int) (hok:Dg.Ok 1000000000 a) (h1:1≤by_) (h2:by_≤1000000000) (hl:a.length<1000000000000):∀ (i:Nat) (out:List Int) (rest:Int),i≤a.length→out.length=a.length→Dg.Ok 1000000000 out→0≤rest→rest<by_ →
  Dg.val 1000000000 (a.drop i)=Dg.val 1000000000 (out.drop i)*by_+rest →
  Ev (fun k=>Yj.l0 k a by_ out rest ((i:Int)-1)) (Dg.dg 1000000000 (Dg.val 1000000000 a/by_).toNat,Dg.val 1000000000 a%by_):=by
 intro i
 induction i with
 | zero =>
  intro out rest _ hlo hoo h3 h4 hv
  rw [List.drop_zero,List.drop_zero] at hv
  obtain ⟨e1,e2⟩:=divmod_unique hv h3 h4
  rw [e1,e2]
  have ht:=trim_ev out.length out rfl hoo (by omega)
  refine Ev.step (f:=fun k=>(Yf.f k out).bind fun t137=>some (t137,rest)) (fun k=>?_) (Ev.bind ht (Ev.now _))
  simp only [Yj.l0];rw [if_neg (by omega)]
 | succ i ih =>
  intro out rest hi hlo hoo h3 h4 hv
  have hd:=hok.rd i (by omega)
  rw [show ((i+1:Nat):Int)-1=(i:Int) by omega]
  obtain ⟨t,ht⟩:∃ t:Int,rest*1000000000+rd a (i:Int)=t:=⟨_,rfl⟩
  have hq0:0≤t/by_:=Int.ediv_nonneg (by omega) (by omega)
  have hq1:t/by_<1000000000:=by
   rw [Int.ediv_lt_iff_lt_mul (by omega)]
   have:=Int.mul_le_mul_of_nonneg_left (show rest+1≤by_ by omega) (show (0:Int)≤1000000000 by omega)
   omega
  have hr0:=Int.emod_nonneg t (show by_≠0 by omega)
  have hr1:=Int.emod_lt_of_pos t (show 0<by_ by omega)
  have hda:=Int.emod_add_mul_ediv t by_
  have:=ih (out.set i (t/by_)) (t%by_) (by omega) (by rw [List.length_set];exact hlo) (hoo.set i hq0 hq1) hr0 hr1 (by
   rw [val_drop_one _ a i (by omega),val_drop_one _ (out.set i (t/by_)) i (by rw [List.length_set];omega),drop_set_,rd_set_ _ _ _ _ (by omega),if_pos rfl,hv]
   grind)
  refine Ev.step (fun k=>?_) this
  simp only [Yj.l0]
  have e1:IntKind.u64.wrap (rd a (i:Int))=rd a (i:Int):=u64_ (by omega) (by omega)
  have e2:IntKind.u64.wrap (rest*1000000000)=rest*1000000000:=u64_ (by omega) (by omega)
  rw [if_pos (by omega),if_pos (by omega),if_pos (by omega),if_neg (by omega),if_pos (by omega),e1,e2,ht,u64_ (n:=t) (by omega) (by omega),tdiv_ (a:=t) (by omega),tmod_ (a:=t) (by omega),u64_ hq0 (by omega),u32m hq0 (by omega),Int.toNat_natCast,w64 (by omega) (by omega)]
theorem short_ev (a:List Int) (by_:Int) (hok:Dg.Ok 1000000000 a) (h1:1≤by_) (h2:by_≤1000000000) (hl:a.length<1000000000000) :
  Ev (fun k=>Yj.f k a by_) (Dg.dg 1000000000 (Dg.val 1000000000 a/by_).toNat,Dg.val 1000000000 a%by_):=by
 have:=short_loop a by_ hok h1 h2 hl a.length (List.replicate a.length 0) 0 (Nat.le_refl _) (by simp) (Dg.Ok.zeros (by omega) _) (by omega) (by omega) (by
  rw [List.drop_length,List.drop_of_length_le (by simp),Dg.val_nil];omega)
 refine Ev.congr (fun k=>?_) this
 unfold Yj.f
 rw [if_pos (by omega),Int.toNat_natCast,if_pos (by omega),w64 (by omega) (by omega)]
theorem scaled_loop (a:List Int) (by_:Int) (hok:Dg.Ok 1000000000 a) (h1:0≤by_) (h2:by_≤1000000000) (room:Nat) (hr:room<1000000000000):∀ (d i:Nat) (out:List Int) (carry:Int),d+i=room→out.length=room→Dg.Ok 1000000000 out→0≤carry→carry≤1000000000→(∀ t:Nat,i≤t→rd out (t:Int)=0) →
  Dg.val 1000000000 out+carry*1000000000^i=Dg.val 1000000000 (a.take i)*by_ →
  ∃ r c,Ev (fun k=>Yk.l0 k a by_ out carry (room:Int) (i:Int)) r∧r.length=room∧Dg.Ok 1000000000 r∧0≤c∧Dg.val 1000000000 r+c*1000000000^room=Dg.val 1000000000 (a.take room)*by_:=by
 intro d
 induction d with
 | zero =>
  intro i out carry hdi hlo hoo h3 h4 hz hv
  obtain rfl:i=room:=by omega
  refine ⟨out,carry,Ev.step (f:=fun _=>some out) (fun k=>?_) (Ev.now _),hlo,hoo,h3,hv⟩
  simp only [Yk.l0];rw [if_neg (by omega)]
 | succ d ih =>
  intro i out carry hdi hlo hoo h3 h4 hz hv
  have hset:∀ x:Int,∀ t:Nat,i+1≤t→rd (out.set i x) (t:Int)=0:=fun x t ht=>by
   rw [rd_set_ _ _ _ _ (by omega),if_neg (by omega)];exact hz t (by omega)
  have hz0:=hz i (Nat.le_refl _)
  by_cases hi:i<a.length
  ·have hd:=hok.rd i hi
   have hp:=mul_bd hd.1 (show rd a (i:Int)≤999999999 by omega) h1 h2
   obtain ⟨t,ht⟩:∃ t:Int,carry+rd a (i:Int)*by_=t:=⟨_,rfl⟩
   obtain ⟨r,c,hev,hp2⟩:=ih (i+1) (out.set i (t%1000000000)) (t/1000000000) (by omega) (by rw [List.length_set];exact hlo) (hoo.set i (by omega) (by omega)) (by omega) (by omega) (hset _) (by
    rw [Dg.val_set' _ _ _ _ (by omega),hz0,val_take_one _ a i hi]
    have:=Int.emod_add_mul_ediv t 1000000000
    grind)
   refine ⟨r,c,Ev.step (fun k=>?_) hev,hp2⟩
   simp only [Yk.l0]
   have e1:IntKind.u64.wrap (rd a (i:Int))=rd a (i:Int):=u64_ (by omega) (by omega)
   have e2:IntKind.u64.wrap (rd a (i:Int)*by_)=rd a (i:Int)*by_:=u64_ (by omega) (by omega)
   rw [if_pos (by omega),if_pos (by omega),if_pos (by omega),if_pos (by omega),e1,e2,ht,u64_ (n:=t) (by omega) (by omega),tdiv_ (a:=t) (by omega),tmod_ (a:=t) (by omega),u64_ (by omega) (by omega),u32m (by omega) (by omega),Int.toNat_natCast,w64 (by omega) (by omega)]
   rfl
  ·obtain ⟨r,c,hev,hp2⟩:=ih (i+1) (out.set i (carry%1000000000)) (carry/1000000000) (by omega) (by rw [List.length_set];exact hlo) (hoo.set i (by omega) (by omega)) (by omega) (by omega) (hset _) (by
    rw [Dg.val_set' _ _ _ _ (by omega),hz0,List.take_of_length_le (by omega)]
    rw [List.take_of_length_le (by omega)] at hv
    have:=Int.emod_add_mul_ediv carry 1000000000
    grind)
   refine ⟨r,c,Ev.step (fun k=>?_) hev,hp2⟩
   simp only [Yk.l0]
   rw [if_pos (by omega),if_neg (by omega),if_pos (by omega),if_pos (by omega),tdiv_ (a:=carry) (by omega),tmod_ (a:=carry) (by omega),u64_ (by omega) (by omega),u32m (by omega) (by omega),Int.toNat_natCast,w64 (by omega) (by omega)]
   rfl
theorem scaled_ev (a:List Int) (by_:Int) (hok:Dg.Ok 1000000000 a) (h1:0≤by_) (h2:by_≤1000000000) (room:Nat) (hr:room<1000000000000) (hra:a.length≤room) (hfit:Dg.val 1000000000 a*by_<1000000000^room) :
  ∃ r,Ev (fun k=>Yk.f k a by_ (room:Int)) r∧r.length=room∧Dg.Ok 1000000000 r∧Dg.val 1000000000 r=Dg.val 1000000000 a*by_:=by
 obtain ⟨r,c,hev,hl,hrok,hc,hv⟩:=scaled_loop a by_ hok h1 h2 room hr room 0 (List.replicate room 0) 0 (by omega) (by simp) (Dg.Ok.zeros (by omega) _) (by omega) (by omega) (fun t _=>rd_zeros _ _) (by rw [Dg.val_zeros,List.take_zero];simp [Dg.val])
 rw [List.take_of_length_le hra] at hv
 have hr0:=Dg.val_nonneg (by omega) hrok
 have hc0:c=0:=by
  rcases (by omega:0<c∨c=0) with h|h
  ·have:=Int.mul_le_mul_of_nonneg_right (show (1:Int)≤c by omega) (show (0:Int)≤1000000000^room by have:=Dg.pow_pos (B:=1000000000) (by omega) room;omega)
   omega
  ·omega
 rw [hc0] at hv
 refine ⟨r,Ev.congr (fun k=>?_) hev,hl,hrok,by omega⟩
 unfold Yk.f
 rw [if_pos (by omega),Int.toNat_natCast,if_pos (by omega),Option.bind_some,List.length_replicate];rfl
theorem wadd (i j:Nat) (h:i+j<4611686018427387904):wrap64 ((i:Int)+(j:Int))=((i+j:Nat):Int):=by rw [w64 (by omega) (by omega)];omega
theorem wsucc (i:Nat) (h:i<4611686018427387904):wrap64 ((i:Int)+1)=((i+1:Nat):Int):=by rw [w64 (by omega) (by omega)];omega
theorem alg_row (A b P y:Int):A*b+y*b*P=(A+P*y)*b:=by grind
theorem alg_less {U' U q S c P x o y m dq B:Int} (hv:Aside0 (U'=U-q*S+c*P)) (ht:Aside0 (m+B*dq=c+q*y)) (hx:x=o-m):U'+(x-o)*P=U-q*(S+P*y)+dq*(P*B):=by
 have hv:=hv.out
 have ht:=ht.out
 subst hx
 grind
theorem alg_less1 {U' U q S c P x o y m dq B:Int} (hv:Aside0 (U'=U-q*S+c*P)) (ht:Aside0 (m+B*dq=c+q*y)) (hx:x=o+(B-m)):U'+(x-o)*P=U-q*(S+P*y)+(dq+1)*(P*B):=by
 have hv:=hv.out
 have ht:=ht.out
 subst hx
 grind
theorem less_loop (v:List Int) (q:Int) (hvo:Dg.Ok 1000000000 v) (hq0:0≤q) (hq1:q<1000000000) (u:List Int) (huo:Dg.Ok 1000000000 u) (hul:u.length<1000000000000):∀ (d i:Nat) (out:List Int) (c:Int),d+i=u.length→out.length=u.length→Dg.Ok 1000000000 out→0≤c→c<1000000000→(∀ t:Nat,i≤t→rd out (t:Int)=rd u (t:Int)) →
  Aside0 (Dg.val 1000000000 out=Dg.val 1000000000 u-q*Dg.val 1000000000 (v.take i)+c*1000000000^i) →
  ∃ r c',Ev (fun k=>Yp.l0 k out v q c (u.length:Int) (i:Int)) (decide (c'>0),r)∧r.length=u.length∧Dg.Ok 1000000000 r∧0≤c'∧Aside0 (Dg.val 1000000000 r=Dg.val 1000000000 u-q*Dg.val 1000000000 (v.take u.length)+c'*1000000000^u.length):=by
 intro d
 induction d with
 | zero =>
  intro i out c hdi hlo hoo h3 h4 hz hv
  obtain rfl:i=u.length:=by omega
  refine ⟨out,c,Ev.step (f:=fun _=>some (decide (c > 0),out)) (fun k=>?_) (Ev.now _),hlo,hoo,h3,hv⟩
  simp only [Yp.l0];rw [if_neg (by omega)]
 | succ d ih =>
  intro i out c hdi hlo hoo h3 h4 hz hv
  have ho:=hoo.rd i (by omega)
  have hou:=hz i (Nat.le_refl _)
  have hset:∀ x:Int,∀ t:Nat,i+1≤t→rd (out.set i x) (t:Int)=rd u (t:Int):=fun x t ht=>by
   rw [rd_set_ _ _ _ _ (by omega),if_neg (by omega)];exact hz t (by omega)
  obtain ⟨y,hy⟩:∃ y:Int,rd v (i:Int)=y:=⟨_,rfl⟩
  have hyb:0≤y∧y<1000000000:=by
   by_cases hi:i<v.length
   ·rw [← hy];exact hvo.rd i hi
   ·rw [← hy,rd_beyond v i (by omega)];omega
  have htk:Dg.val 1000000000 (v.take (i+1))=Dg.val 1000000000 (v.take i)+1000000000^i*y:=by
   by_cases hi:i<v.length
   ·rw [val_take_one _ v i hi,hy]
   ·rw [List.take_of_length_le (by omega),List.take_of_length_le (by omega),← hy,rd_beyond v i (by omega),Int.mul_zero,Int.add_zero]
  have HTK:=Aside0.mk htk
  clear htk
  have hp:=mul_bd hq0 (show q≤999999999 by omega) hyb.1 (show y≤999999999 by omega)
  obtain ⟨t,ht⟩:∃ t:Int,c+q*y=t:=⟨_,rfl⟩
  have hda:Aside0 (t%1000000000+1000000000*(t/1000000000)=c+q*y):=⟨by rw [ht];exact Int.emod_add_mul_ediv t 1000000000⟩
  have hcond:i<v.length∨(¬ i<v.length∧t=c):=by
   by_cases hi:i<v.length
   ·exact .inl hi
   ·refine .inr ⟨hi,?_⟩
    rw [← ht,← hy,rd_beyond v i (by omega),Int.mul_zero,Int.add_zero]
  have hxo:IntKind.u64.wrap (rd out (i:Int))=rd out (i:Int):=u64_ (by omega) (by omega)
  have HX:=Aside0.mk hxo
  clear hxo
  by_cases hb:rd out (i:Int)<t%1000000000
  ·obtain ⟨r,c',hev,q1,q2,q3,q4⟩:=ih (i+1) (out.set i (rd out (i:Int)+(1000000000-t%1000000000))) (t/1000000000+1) (by omega) (by rw [List.length_set];exact hlo) (hoo.set i (by omega) (by omega)) (by omega) (by omega) (hset _) ⟨by
    rw [Dg.val_set' _ _ _ _ (by omega),HTK.out,Int.pow_succ]
    exact alg_less1 hv hda rfl⟩
   refine ⟨r,c',Ev.step (fun k=>?_) hev,q1,q2,q3,q4⟩
   simp only [Yp.l0]
   rcases hcond with hi|⟨hi,htc⟩
   ·rw [if_pos (by omega),if_pos (by omega),if_pos (by omega),if_pos (by omega),HX.out,hy,u64_ (n:=y) (by omega) (by omega),u64_ (n:=q*y) (by omega) (by omega),ht,u64_ (n:=t) (by omega) (by omega),tmod_ (a:=t) (by omega),tdiv_ (a:=t) (by omega),if_pos hb,u64_ (n:=1000000000-t%1000000000) (by omega) (by omega),u64_ (n:=rd out (i:Int)+(1000000000-t%1000000000)) (by omega) (by omega),u32m (by omega) (by omega),u64_ (n:=t/1000000000) (by omega) (by omega),u64_ (n:=t/1000000000+1) (by omega) (by omega),Int.toNat_natCast,wsucc i (by omega)]
   ·subst htc
    rw [if_pos (by omega),if_neg (by omega),if_pos (by omega),if_pos (by omega),HX.out,tmod_ (a:=t) (by omega),tdiv_ (a:=t) (by omega),if_pos hb,u64_ (n:=1000000000-t%1000000000) (by omega) (by omega),u64_ (n:=rd out (i:Int)+(1000000000-t%1000000000)) (by omega) (by omega),u32m (by omega) (by omega),u64_ (n:=t/1000000000) (by omega) (by omega),u64_ (n:=t/1000000000+1) (by omega) (by omega),Int.toNat_natCast,wsucc i (by omega)]
  ·obtain ⟨r,c',hev,q1,q2,q3,q4⟩:=ih (i+1) (out.set i (rd out (i:Int)-t%1000000000)) (t/1000000000) (by omega) (by rw [List.length_set];exact hlo) (hoo.set i (by omega) (by omega)) (by omega) (by omega) (hset _) ⟨by
    rw [Dg.val_set' _ _ _ _ (by omega),HTK.out,Int.pow_succ]
    exact alg_less hv hda rfl⟩
   refine ⟨r,c',Ev.step (fun k=>?_) hev,q1,q2,q3,q4⟩
   simp only [Yp.l0]
   rcases hcond with hi|⟨hi,htc⟩
   ·rw [if_pos (by omega),if_pos (by omega),if_pos (by omega),if_pos (by omega),HX.out,hy,u64_ (n:=y) (by omega) (by omega),u64_ (n:=q*y) (by omega) (by omega),ht,u64_ (n:=t) (by omega) (by omega),tmod_ (a:=t) (by omega),tdiv_ (a:=t) (by omega),if_neg hb,u64_ (n:=rd out (i:Int)-t%1000000000) (by omega) (by omega),u32m (by omega) (by omega),u64_ (n:=t/1000000000) (by omega) (by omega),Int.toNat_natCast,wsucc i (by omega)]
   ·subst htc
    rw [if_pos (by omega),if_neg (by omega),if_pos (by omega),if_pos (by omega),HX.out,tmod_ (a:=t) (by omega),tdiv_ (a:=t) (by omega),if_neg hb,u64_ (n:=rd out (i:Int)-t%1000000000) (by omega) (by omega),u32m (by omega) (by omega),u64_ (n:=t/1000000000) (by omega) (by omega),Int.toNat_natCast,wsucc i (by omega)]
theorem less_ev (u v:List Int) (q:Int) (huo:Dg.Ok 1000000000 u) (hvo:Dg.Ok 1000000000 v) (hq0:0≤q) (hq1:q<1000000000) (hul:u.length<1000000000000) (hvl:v.length≤u.length) (hlow:Dg.val 1000000000 u-q*Dg.val 1000000000 v≥- (1000000000^u.length)) :
  ∃ r,Ev (fun k=>Yp.f k u v q) (decide (Dg.val 1000000000 u-q*Dg.val 1000000000 v<0),r)∧r.length=u.length∧Dg.Ok 1000000000 r∧Aside0 (Dg.val 1000000000 r=Dg.val 1000000000 u-q*Dg.val 1000000000 v+(if Dg.val 1000000000 u-q*Dg.val 1000000000 v<0 then 1000000000^u.length else 0)):=by
 obtain ⟨r,c,hev,h1,h2,h3,h4⟩:=less_loop v q hvo hq0 hq1 u huo hul u.length 0 u 0 (by omega) rfl huo (by omega) (by omega) (fun _ _=>rfl) ⟨by rw [List.take_zero,Dg.val_nil];omega⟩
 rw [List.take_of_length_le hvl] at h4
 have h4:=h4.out
 have hr0:=Dg.val_nonneg (by omega) h2
 have hr1:=Dg.val_lt (by omega) h2
 rw [h1] at hr1
 have hP:=Dg.pow_pos (B:=1000000000) (by omega) u.length
 obtain ⟨P,hPe⟩:∃ P:Int,(1000000000:Int)^u.length=P:=⟨_,rfl⟩
 obtain ⟨D,hD⟩:∃ D:Int,Dg.val 1000000000 u-q*Dg.val 1000000000 v=D:=⟨_,rfl⟩
 rw [hPe] at h4 hr1 hP hlow
 rw [hD] at h4 hlow
 have hDu:D<P:=by
  have:=Dg.val_lt (by omega) huo
  have:=Int.mul_nonneg hq0 (Dg.val_nonneg (by omega) hvo)
  rw [hPe] at *
  omega
 rw [hPe,hD]
 by_cases hn:D<0
 ·have hc:c=1:=by
   rcases (by omega:c=0∨c=1∨2≤c) with e|e|e
   ·subst e;omega
   ·exact e
   ·have:=Int.mul_le_mul_of_nonneg_right e (show 0≤P by omega)
    omega
  refine ⟨r,?_,h1,h2,⟨by rw [if_pos hn,h4,hc];omega⟩⟩
  rw [hc] at hev
  rw [decide_eq_true hn]
  exact hev
 ·have hc:c=0:=by
   rcases (by omega:c=0∨1≤c) with e|e
   ·exact e
   ·have:=Int.mul_le_mul_of_nonneg_right e (show 0≤P by omega)
    omega
  refine ⟨r,?_,h1,h2,⟨by rw [if_neg hn,h4,hc];omega⟩⟩
  rw [hc] at hev
  rw [decide_eq_false hn]
  exact hev
theorem alg_more {O U S c P x o y m dq B:Int} (hv:Aside0 (O+c*P=U+S)) (ht:Aside0 (m+B*dq=o+c+y)) (hx:x=m):O+(x-o)*P+dq*(P*B)=U+(S+P*y):=by
 have hv:=hv.out
 have ht:=ht.out
 subst hx
 grind
theorem more_loop (v:List Int) (hvo:Dg.Ok 1000000000 v) (u:List Int) (huo:Dg.Ok 1000000000 u) (hul:u.length<1000000000000):∀ (d i:Nat) (out:List Int) (c:Int),d+i=u.length→out.length=u.length→Dg.Ok 1000000000 out→0≤c→c≤1→(∀ t:Nat,i≤t→rd out (t:Int)=rd u (t:Int)) →
  Aside0 (Dg.val 1000000000 out+c*1000000000^i=Dg.val 1000000000 u+Dg.val 1000000000 (v.take i)) →
  ∃ r c',Ev (fun k=>Ys.l0 k out v c (u.length:Int) (i:Int)) r∧r.length=u.length∧Dg.Ok 1000000000 r∧0≤c'∧c'≤1∧Aside0 (Dg.val 1000000000 r+c'*1000000000^u.length=Dg.val 1000000000 u+Dg.val 1000000000 (v.take u.length)):=by
 intro d
 induction d with
 | zero =>
  intro i out c hdi hlo hoo h3 h4 hz hv
  obtain rfl:i=u.length:=by omega
  refine ⟨out,c,Ev.step (f:=fun _=>some out) (fun k=>?_) (Ev.now _),hlo,hoo,h3,h4,hv⟩
  simp only [Ys.l0];rw [if_neg (by omega)]
 | succ d ih =>
  intro i out c hdi hlo hoo h3 h4 hz hv
  have ho:=hoo.rd i (by omega)
  have hset:∀ x:Int,∀ t:Nat,i+1≤t→rd (out.set i x) (t:Int)=rd u (t:Int):=fun x t ht=>by
   rw [rd_set_ _ _ _ _ (by omega),if_neg (by omega)];exact hz t (by omega)
  obtain ⟨y,hy⟩:∃ y:Int,rd v (i:Int)=y:=⟨_,rfl⟩
  have hyb:0≤y∧y<1000000000:=by
   by_cases hi:i<v.length
   ·rw [← hy];exact hvo.rd i hi
   ·rw [← hy,rd_beyond v i (by omega)];omega
  have htk:Dg.val 1000000000 (v.take (i+1))=Dg.val 1000000000 (v.take i)+1000000000^i*y:=by
   by_cases hi:i<v.length
   ·rw [val_take_one _ v i hi,hy]
   ·rw [List.take_of_length_le (by omega),List.take_of_length_le (by omega),← hy,rd_beyond v i (by omega),Int.mul_zero,Int.add_zero]
  have HTK:=Aside0.mk htk
  clear htk
  obtain ⟨o,hoe⟩:∃ o:Int,rd out (i:Int)=o:=⟨_,rfl⟩
  rw [hoe] at ho
  obtain ⟨t,ht⟩:∃ t:Int,o+c+y=t:=⟨_,rfl⟩
  have hda:Aside0 (t%1000000000+1000000000*(t/1000000000)=o+c+y):=⟨by rw [ht];exact Int.emod_add_mul_ediv t 1000000000⟩
  obtain ⟨r,c',hev,q1,q2,q3,q4,q5⟩:=ih (i+1) (out.set i (t%1000000000)) (t/1000000000) (by omega) (by rw [List.length_set];exact hlo) (hoo.set i (by omega) (by omega)) (by omega) (by omega) (hset _) ⟨by
    rw [Dg.val_set' _ _ _ _ (by omega),HTK.out,Int.pow_succ,hoe]
    exact alg_more hv hda rfl⟩
  refine ⟨r,c',Ev.step (fun k=>?_) hev,q1,q2,q3,q4,q5⟩
  simp only [Ys.l0]
  by_cases hi:i<v.length
  ·rw [if_pos (by omega),if_pos (by omega),if_pos (by omega),if_pos (by omega),hoe,hy,u32m (n:=o+c) (by omega) (by omega),ht,u32m (n:=t) (by omega) (by omega),Int.toNat_natCast,wsucc i (by omega)]
  ·have hy0:y=0:=by rw [← hy,rd_beyond v i (by omega)]
   have ht2:o+c=t:=by omega
   rw [if_pos (by omega),if_pos (by omega),if_pos (by omega),if_neg (by omega),hoe,ht2,u32m (n:=t) (by omega) (by omega),Int.toNat_natCast,wsucc i (by omega)]
theorem more_ev (u v:List Int) (huo:Dg.Ok 1000000000 u) (hvo:Dg.Ok 1000000000 v) (hul:u.length<1000000000000) (hvl:v.length≤u.length) (h1:1000000000^u.length≤Dg.val 1000000000 u+Dg.val 1000000000 v) :
  ∃ r,Ev (fun k=>Ys.f k u v) r∧r.length=u.length∧Dg.Ok 1000000000 r∧Aside0 (Dg.val 1000000000 r=Dg.val 1000000000 u+Dg.val 1000000000 v-1000000000^u.length):=by
 obtain ⟨r,c,hev,q1,q2,q3,q4,q5⟩:=more_loop v hvo u huo hul u.length 0 u 0 (by omega) rfl huo (by omega) (by omega) (fun _ _=>rfl) ⟨by rw [List.take_zero,Dg.val_nil];omega⟩
 rw [List.take_of_length_le hvl] at q5
 have q5:=q5.out
 have hr1:=Dg.val_lt (by omega) q2
 rw [q1] at hr1
 refine ⟨r,hev,q1,q2,⟨?_⟩⟩
 obtain ⟨P,hPe⟩:∃ P:Int,(1000000000:Int)^u.length=P:=⟨_,rfl⟩
 rw [hPe] at q5 hr1 h1 ⊢
 have hc:c=1:=by
  rcases (by omega:c=0∨c=1) with e|e
  ·subst e;omega
  ·exact e
 rw [hc] at q5;omega
structure Est (U V top v1 v2 u2 P q r:Int):Prop where
 q0:0≤q
 q1:q≤999999999
 r0:0≤r
 eq:q*v1+r=top
 up:U<(q+1)*V
theorem est_down {U V top v1 v2 u2 P q r rv:Int} (h:Est U V top v1 v2 u2 P q r) (hU:U<(top*1000000000+u2+1)*P) (hV:V=(v1*1000000000+v2)*P+rv) (hrv:0≤rv) (hP:1≤P) (hu2:0≤u2) (hv1:1≤v1) (hc:q*v2 > r*1000000000+u2):Est U V top v1 v2 u2 P (q-1) (r+v1):=by
 obtain ⟨q0,q1,r0,e,up⟩:=h
 have hq:1≤q:=by
  rcases (by omega:q=0∨1≤q) with h|h
  ·subst h;omega
  ·exact h
 refine ⟨by omega,by omega,by omega,?_,?_⟩
 ·rw [← e,Int.sub_mul];omega
 ·have h1:(top*1000000000+u2+1)*P≤(q*(v1*1000000000+v2))*P:=by
   refine Int.mul_le_mul_of_nonneg_right ?_ (by omega)
   have:q*(v1*1000000000+v2)=q*v1*1000000000+q*v2:=by grind
   rw [this];omega
  have h2:q*(v1*1000000000+v2)*P≤q*V:=by
   have e2:q*V=q*(v1*1000000000+v2)*P+q*rv:=by rw [hV];grind
   have:=Int.mul_nonneg q0 hrv
   omega
  rw [show q-1+1=q by omega]
  omega
theorem est_out {U V top v1 v2 u2 P q r rv ru:Int} (h:Est U V top v1 v2 u2 P q r) (hU:U=(top*1000000000+u2)*P+ru) (hru:0≤ru) (hV:V=(v1*1000000000+v2)*P+rv) (hrv:0≤rv) (hrv1:rv<P) (hP:1≤P) (hu2:0≤u2) (hv1:1≤v1) (hv2:0≤v2) (hv2':v2≤999999999) (hc:r≥1000000000∨q*v2≤r*1000000000+u2):-V≤U-q*V:=by
 obtain ⟨q0,q1,r0,e,up⟩:=h
 have hqV:q*V=(q*v1*1000000000+q*v2)*P+q*rv:=by rw [hV];grind
 have hVP:1000000000*P≤V:=by
  rw [hV]
  have:1000000000*P≤(v1*1000000000+v2)*P:=Int.mul_le_mul_of_nonneg_right (by omega) (by omega)
  omega
 have hqr:q*rv≤999999999*P:=Int.mul_le_mul q1 (by omega) hrv (by omega)
 rcases hc with hc|hc
 ·have h1:q*v2≤999999999*999999999:=Int.mul_le_mul q1 hv2' hv2 (by omega)
  have h2:(q*v1*1000000000+q*v2)*P≤(top*1000000000+u2-1000000000)*P:=by
   refine Int.mul_le_mul_of_nonneg_right ?_ (by omega)
   omega
  have h3:(top*1000000000+u2-1000000000)*P=(top*1000000000+u2)*P-1000000000*P:=by grind
  omega
 ·have h2:(q*v1*1000000000+q*v2)*P≤(top*1000000000+u2)*P:=by
   refine Int.mul_le_mul_of_nonneg_right ?_ (by omega)
   omega
  omega
theorem digit_loop (u v:List Int) (n:Nat) (huo:Dg.Ok 1000000000 u) (hvo:Dg.Ok 1000000000 v) (hn:2≤n) (hvl:v.length=n) (hul:u.length=n+1) (hn1:n<100000000000) (top v1 v2 u2 P rv ru:Int)
  (hv1e:rd v ((n-1:Nat):Int)=v1) (hv2e:rd v ((n-2:Nat):Int)=v2) (hu2e:rd u ((n-2:Nat):Int)=u2) (hP:1≤P)
  (hU:Aside0 (Dg.val 1000000000 u=(top*1000000000+u2)*P+ru)) (hru:0≤ru) (hru1:ru<P) (hV:Aside0 (Dg.val 1000000000 v=(v1*1000000000+v2)*P+rv)) (hrv:0≤rv) (hrv1:rv<P) (hv1:1≤v1) (htop:top<1000000000000000000)
  (hVp:Dg.val 1000000000 v≤1000000000^(n+1)) :
  ∀ (d:Nat) (q r:Int),q≤d→Est (Dg.val 1000000000 u) (Dg.val 1000000000 v) top v1 v2 u2 P q r →
  ∃ q' s,Ev (fun k=>Ym.l0 k u v (n:Int) q r) (q',s)∧0≤q'∧q'<1000000000∧s.length=n+1∧Dg.Ok 1000000000 s∧Aside0 (Dg.val 1000000000 u=q'*Dg.val 1000000000 v+Dg.val 1000000000 s∧Dg.val 1000000000 s<Dg.val 1000000000 v):=by
 have hb1:=hvo.rd (n-1) (by omega)
 have hb2:=hvo.rd (n-2) (by omega)
 have hb3:=huo.rd (n-2) (by omega)
 rw [hv1e] at hb1
 rw [hv2e] at hb2
 rw [hu2e] at hb3
 -- the way out of the loop
 have hout:∀ q r:Int,Est (Dg.val 1000000000 u) (Dg.val 1000000000 v) top v1 v2 u2 P q r→(r≥1000000000∨q*v2≤r*1000000000+u2) →
   ∃ q' s,Ev (fun k=>Ym.j1 k u v q) (q',s)∧0≤q'∧q'<1000000000∧s.length=n+1∧Dg.Ok 1000000000 s∧Aside0 (Dg.val 1000000000 u=q'*Dg.val 1000000000 v+Dg.val 1000000000 s∧Dg.val 1000000000 s<Dg.val 1000000000 v):=by
  intro q r hE hc
  have hlow:=est_out hE hU.out hru hV.out hrv hrv1 hP hb3.1 hv1 hb2.1 (by omega) hc
  obtain ⟨q0,q1,r0,e,up⟩:=hE
  obtain ⟨s,hev,hs1,hs2,hs3⟩:=less_ev u v q huo hvo q0 (by omega) (by omega) (by omega) (by rw [hul];omega)
  have hs3:=hs3.out
  obtain ⟨V,hVe⟩:∃ V:Int,Dg.val 1000000000 v=V:=⟨_,rfl⟩
  obtain ⟨U,hUe⟩:∃ U:Int,Dg.val 1000000000 u=U:=⟨_,rfl⟩
  rw [hVe] at hs3 hlow up hev hVp ⊢
  rw [hUe] at hs3 hlow up hev ⊢
  rw [Int.add_mul,Int.one_mul] at up
  by_cases hneg:U-q*V<0
  ·rw [if_pos hneg,hul] at hs3
   have hs0:=Dg.val_nonneg (by omega) hs2
   obtain ⟨s2,hev2,ht1,ht2,ht3⟩:=more_ev s v hs2 hvo (by omega) (by omega) (by rw [hs1,hul,hs3,hVe];omega)
   have ht3:=ht3.out
   rw [hs1,hul,hs3,hVe] at ht3
   have hq1':1≤q:=by
    rcases (by omega:q=0∨1≤q) with h|h
    ·subst h
     have:=Dg.val_nonneg (B:=1000000000) (by omega) huo
     rw [hUe] at this;omega
    ·exact h
   refine ⟨q-1,s2,?_,by omega,by omega,by omega,ht2,⟨?_,?_⟩⟩
   ·rw [decide_eq_true hneg] at hev
    refine Ev.step (f:=fun k=>(Yp.f k u v q).bind fun bt164=>(if bt164.1=true then ((Ys.f k bt164.2 v).bind fun t166=>(some (IntKind.u64.wrap (q-1),t166))) else (some (q,bt164.2)))) (fun k=>by simp only [Ym.j1]) (Ev.bind hev ?_)
    refine Ev.congr (f:=fun k=>(Ys.f k s v).bind fun t166=>(some (q-1,t166))) (fun k=>?_) (Ev.bind hev2 (Ev.now _))
    rw [u64_ (n:=q-1) (by omega) (by omega)];rfl
   ·rw [Int.sub_mul,Int.one_mul];omega
   ·omega
  ·rw [if_neg hneg] at hs3
   refine ⟨q,s,?_,q0,by omega,by omega,hs2,⟨by omega,by omega⟩⟩
   rw [decide_eq_false hneg] at hev
   refine Ev.step (f:=fun k=>(Yp.f k u v q).bind fun bt164=>(if bt164.1=true then ((Ys.f k bt164.2 v).bind fun t166=>(some (IntKind.u64.wrap (q-1),t166))) else (some (q,bt164.2)))) (fun k=>by simp only [Ym.j1]) (Ev.bind hev ?_)
   exact Ev.congr (f:=fun k=>some (q,s)) (fun k=>by rfl) (Ev.now _)
 have hw1:wrap64 ((n:Int)-1)=((n-1:Nat):Int):=by rw [w64 (by omega) (by omega)];omega
 have hw2:wrap64 ((n:Int)-2)=((n-2:Nat):Int):=by rw [w64 (by omega) (by omega)];omega
 have HW1:=Aside0.mk hw1
 have HW2:=Aside0.mk hw2
 have HVP:=Aside0.mk hVp
 clear hw1 hw2 hVp
 intro d
 induction d with
 | zero =>
  intro q r hq hE
  have hq0:q=0:=by have:=hE.q0;omega
  obtain ⟨q',s,hev,h⟩:=hout q r hE (.inr (by rw [hq0,Int.zero_mul];have:=hE.r0;omega))
  have hr0:=hE.r0
  refine ⟨q',s,Ev.step (fun k=>?_) hev,h⟩
  simp only [Ym.l0]
  by_cases hr:r<1000000000
  ·rw [if_pos hr,HW2.out,if_pos (by omega),if_pos (by omega),if_pos (by omega),hv2e,hu2e,u64_ (n:=v2) (by omega) (by omega),u64_ (n:=u2) (by omega) (by omega),hq0,Int.zero_mul,u64_ (n:=0) (by omega) (by omega),u64_ (n:=r*1000000000) (by omega) (by omega),u64_ (n:=r*1000000000+u2) (by omega) (by omega),if_neg (by omega)]
  ·rw [if_neg hr]
 | succ d ih =>
  intro q r hq hE
  have hr0:=hE.r0
  have hq0:=hE.q0
  have hq1:=hE.q1
  by_cases hr:r<1000000000
  ·have hp:=mul_bd hq0 hq1 hb2.1 (show v2≤999999999 by omega)
   by_cases hc:q*v2 > r*1000000000+u2
   ·have hq1':1≤q:=by
     rcases (by omega:q=0∨1≤q) with h|h
     ·subst h;omega
     ·exact h
    obtain ⟨q',s,hev,h⟩:=ih (q-1) (r+v1) (by omega) (est_down hE (by rw [hU.out];have:(top*1000000000+u2+1)*P=(top*1000000000+u2)*P+P:=(by rw [Int.add_mul,Int.one_mul]);omega) hV.out hrv hP hb3.1 hv1 hc)
    refine ⟨q',s,Ev.step (fun k=>?_) hev,h⟩
    simp only [Ym.l0]
    rw [if_pos hr,HW2.out,if_pos (by omega),if_pos (by omega),if_pos (by omega),hv2e,hu2e,u64_ (n:=v2) (by omega) (by omega),u64_ (n:=u2) (by omega) (by omega),u64_ (n:=q*v2) (by omega) (by omega),u64_ (n:=r*1000000000) (by omega) (by omega),u64_ (n:=r*1000000000+u2) (by omega) (by omega),if_pos hc,HW1.out,if_pos (by omega),if_pos (by omega),hv1e,u64_ (n:=v1) (by omega) (by omega),u64_ (n:=q-1) (by omega) (by omega),u64_ (n:=r+v1) (by omega) (by omega)]
   ·obtain ⟨q',s,hev,h⟩:=hout q r hE (.inr (by omega))
    refine ⟨q',s,Ev.step (fun k=>?_) hev,h⟩
    simp only [Ym.l0]
    rw [if_pos hr,HW2.out,if_pos (by omega),if_pos (by omega),if_pos (by omega),hv2e,hu2e,u64_ (n:=v2) (by omega) (by omega),u64_ (n:=u2) (by omega) (by omega),u64_ (n:=q*v2) (by omega) (by omega),u64_ (n:=r*1000000000) (by omega) (by omega),u64_ (n:=r*1000000000+u2) (by omega) (by omega),if_neg hc]
  ·obtain ⟨q',s,hev,h⟩:=hout q r hE (.inl (by omega))
   refine ⟨q',s,Ev.step (fun k=>?_) hev,h⟩
   simp only [Ym.l0]
   rw [if_neg hr]
theorem top2 (l:List Int) (n:Nat) (hn:2≤n) (hl:l.length=n):Dg.val 1000000000 l=(rd l ((n-1:Nat):Int)*1000000000+rd l ((n-2:Nat):Int))*1000000000^(n-2)+Dg.val 1000000000 (l.take (n-2)):=by
 have h1:=val_take_one 1000000000 l (n-1) (by omega)
 have h2:=val_take_one 1000000000 l (n-2) (by omega)
 rw [show n-1+1=n by omega,List.take_of_length_le (by omega)] at h1
 rw [show n-2+1=n-1 by omega] at h2
 rw [h1,h2]
 have e:(1000000000:Int)^(n-1)=1000000000^(n-2)*1000000000:=by rw [← Int.pow_succ];congr 1;omega
 rw [e]
 generalize (1000000000:Int)^(n-2)=P
 generalize Dg.val 1000000000 (l.take (n-2))=z
 generalize rd l ((n-1:Nat):Int)=a
 generalize rd l ((n-2:Nat):Int)=b
 clear h1 h2 e
 grind
theorem top3 (l:List Int) (n:Nat) (hn:2≤n) (hl:l.length=n+1):Dg.val 1000000000 l=((rd l (n:Int)*1000000000+rd l ((n-1:Nat):Int))*1000000000+rd l ((n-2:Nat):Int))*1000000000^(n-2)+Dg.val 1000000000 (l.take (n-2)):=by
 have h0:=val_take_one 1000000000 l n (by omega)
 rw [List.take_of_length_le (by omega)] at h0
 have h1:=top2 (l.take n) n hn (by rw [List.length_take];omega)
 rw [rd_take_ _ _ _ (by omega),rd_take_ _ _ _ (by omega),List.take_take,Nat.min_eq_left (by omega)] at h1
 rw [h0,h1]
 have e:(1000000000:Int)^n=1000000000^(n-2)*1000000000*1000000000:=by rw [← Int.pow_succ,← Int.pow_succ];congr 1;omega
 rw [e]
 generalize (1000000000:Int)^(n-2)=P
 generalize Dg.val 1000000000 (l.take (n-2))=z
 generalize rd l ((n-1:Nat):Int)=a
 generalize rd l ((n-2:Nat):Int)=b
 generalize rd l (n:Int)=c
 clear h0 h1 e
 grind
theorem est_start {U V un um u2 v1 v2 P ru rv q0:Int} (hU:U=((un*1000000000+um)*1000000000+u2)*P+ru) (hru1:ru<P) (hV:V=(v1*1000000000+v2)*P+rv) (hrv:0≤rv) (hP:1≤P) (hv1:1≤v1) (hv2:0≤v2) (hu2':u2≤999999999) (htop:0≤un*1000000000+um) (hUV:U<1000000000*V) (hq0:q0=min ((un*1000000000+um)/v1) 999999999) :
  Est U V (un*1000000000+um) v1 v2 u2 P q0 (un*1000000000+um-q0*v1):=by
 obtain ⟨top,ht⟩:∃ t:Int,un*1000000000+um=t:=⟨_,rfl⟩
 rw [ht] at hU htop hq0 ⊢
 have h0:0≤top/v1:=Int.ediv_nonneg htop (by omega)
 have h1:(top/v1)*v1≤top:=Int.ediv_mul_le _ (by omega)
 have h2:q0*v1≤(top/v1)*v1:=Int.mul_le_mul_of_nonneg_right (by omega) (by omega)
 refine ⟨by omega,by omega,by omega,by omega,?_⟩
 by_cases hc:q0=999999999
 ·rw [hc];omega
 ·have hq:q0=top/v1:=by omega
  have h3:top<(q0+1)*v1:=by rw [hq];exact Int.lt_ediv_add_one_mul_self _ (by omega)
  have h4:(top+1)*(1000000000*P)≤((q0+1)*v1)*(1000000000*P):=Int.mul_le_mul_of_nonneg_right (by omega) (by omega)
  have h5:((q0+1)*v1)*(1000000000*P)≤(q0+1)*V:=by
   have e:(q0+1)*V=((q0+1)*v1)*(1000000000*P)+(q0+1)*(v2*P)+(q0+1)*rv:=by rw [hV];grind
   have a1:=Int.mul_nonneg (show 0≤q0+1 by omega) (Int.mul_nonneg hv2 (show 0≤P by omega))
   have a2:=Int.mul_nonneg (show 0≤q0+1 by omega) hrv
   omega
  have h6:U<(top+1)*(1000000000*P):=by
   have e1:(top*1000000000+u2)*P=top*(1000000000*P)+u2*P:=by grind
   have e2:(top+1)*(1000000000*P)=top*(1000000000*P)+1000000000*P:=by grind
   have e3:u2*P≤999999999*P:=Int.mul_le_mul_of_nonneg_right hu2' (by omega)
   omega
  omega
theorem digit_ev (u v:List Int) (n:Nat) (huo:Dg.Ok 1000000000 u) (hvo:Dg.Ok 1000000000 v) (hn:2≤n) (hvl:v.length=n) (hul:u.length=n+1) (hn1:n<100000000000) (hv1:1≤rd v ((n-1:Nat):Int)) (hUV:Dg.val 1000000000 u<1000000000*Dg.val 1000000000 v) :
  ∃ q s,Ev (fun k=>Ym.f k u v) (q,s)∧0≤q∧q<1000000000∧s.length=n+1∧Dg.Ok 1000000000 s∧Aside0 (Dg.val 1000000000 u=q*Dg.val 1000000000 v+Dg.val 1000000000 s∧Dg.val 1000000000 s<Dg.val 1000000000 v):=by
 have b1:=huo.rd n (by omega)
 have b2:=huo.rd (n-1) (by omega)
 have b3:=huo.rd (n-2) (by omega)
 have b4:=hvo.rd (n-1) (by omega)
 have b5:=hvo.rd (n-2) (by omega)
 have hP:=Dg.pow_pos (B:=1000000000) (by omega) (n-2)
 have t1:=Dg.val_nonneg (by omega) (huo.take (n-2))
 have t2:=Dg.val_lt (by omega) (huo.take (n-2))
 have t3:=Dg.val_nonneg (by omega) (hvo.take (n-2))
 have t4:=Dg.val_lt (by omega) (hvo.take (n-2))
 rw [List.length_take,Nat.min_eq_left (by omega)] at t2 t4
 have hVp:Dg.val 1000000000 v≤1000000000^(n+1):=by
  have h1:=Dg.val_lt (by omega) hvo
  rw [hvl] at h1
  have:=Dg.pow_pos (B:=1000000000) (by omega) n
  rw [Int.pow_succ];omega
 have hU:=top3 u n hn hul
 have hV:=top2 v n hn hvl
 obtain ⟨un,eun⟩:∃ x:Int,rd u (n:Int)=x:=⟨_,rfl⟩
 obtain ⟨um,eum⟩:∃ x:Int,rd u ((n-1:Nat):Int)=x:=⟨_,rfl⟩
 obtain ⟨u2,eu2⟩:∃ x:Int,rd u ((n-2:Nat):Int)=x:=⟨_,rfl⟩
 obtain ⟨v1,ev1⟩:∃ x:Int,rd v ((n-1:Nat):Int)=x:=⟨_,rfl⟩
 obtain ⟨v2,ev2⟩:∃ x:Int,rd v ((n-2:Nat):Int)=x:=⟨_,rfl⟩
 rw [eun,eum,eu2] at hU
 rw [ev1,ev2] at hV
 rw [eun] at b1
 rw [eum] at b2
 rw [eu2] at b3
 rw [ev1] at b4 hv1
 rw [ev2] at b5
 have hE:=est_start hU t2 hV t3 hP hv1 b5.1 (show u2≤999999999 by omega) (show 0≤un*1000000000+um by omega) hUV rfl
 obtain ⟨q',s,hev,h⟩:=digit_loop u v n huo hvo hn hvl hul hn1 (un*1000000000+um) v1 v2 u2 (1000000000^(n-2)) _ _ ev1 ev2 eu2 hP ⟨hU⟩ t1 t2 ⟨hV⟩ t3 t4 hv1 (by omega) hVp 1000000000 _ _ (by have:=hE.q1;omega) hE
 refine ⟨q',s,?_,h⟩
 have HH:=Aside0.mk (And.intro hU (And.intro hV (And.intro hVp (And.intro t2 (And.intro t4 (And.intro hP hUV))))))
 clear hU hV hVp t2 t4 hP hUV h
 have hq0:=hE.q0
 have hq1:=hE.q1
 have hr0:=hE.r0
 clear hE
 obtain ⟨top,ht⟩:∃ t:Int,un*1000000000+um=t:=⟨_,rfl⟩
 rw [ht] at hev hq0 hq1 hr0
 have hd0:0≤top/v1:=Int.ediv_nonneg (by omega) (by omega)
 have hd1:top/v1≤top:=Int.ediv_le_self _ (by omega)
 obtain ⟨q0,hqe⟩:∃ q:Int,min (top/v1) 999999999=q:=⟨_,rfl⟩
 rw [hqe] at hev hq0 hq1 hr0
 have hqv:=Int.mul_nonneg hq0 (show 0≤v1 by omega)
 refine Ev.congr (fun k=>?_) hev
 have hw:wrap64 ((n:Int)-1)=((n-1:Nat):Int):=by rw [w64 (by omega) (by omega)];omega
 unfold Ym.f
 rw [hvl,hul,hw]
 clear hw
 rw [if_pos (by omega),if_pos (by omega),if_pos (by omega),if_pos (by omega),if_pos (by omega),eun,eum,ev1,u64_ (n:=v1) (by omega) (by omega),if_neg (by omega),u64_ (n:=un) (by omega) (by omega),u64_ (n:=um) (by omega) (by omega),u64_ (n:=un*1000000000) (by omega) (by omega),ht,u64_ (n:=top) (by omega) (by omega),tdiv_ (a:=top) (by omega),u64_ (n:=top/v1) (by omega) (by omega),mn_eq,hqe,u64_ (n:=q0*v1) (by omega) (by omega),u64_ (n:=top-q0*v1) (by omega) (by omega)]
theorem seg_append (u:List Int) (j m:Nat) (h:j+m≤u.length):(u.take (j+m)).drop j++u.drop (j+m)=u.drop j:=by
 have h1:=List.take_append_drop (j+m) u
 conv=>rhs;rw [← h1]
 rw [List.drop_append,List.length_take,show j-min (j+m) u.length=0 by omega,List.drop_zero]
theorem alg_div {ut s hi U O q V P O' U' B1 x:Int} (hu:U=ut+P*(x+B1*hi)) (hx:x=q*V+s) (hi0:hi=0) (hu':U'=ut+P*(s+B1*hi)) (ho:O'=O+(q-0)*P):U'+V*O'=U+V*O:=by
 subst hi0 hx hu hu' ho
 grind
theorem lp_ev (v:List Int) (n:Nat) (hvo:Dg.Ok 1000000000 v) (hn:2≤n) (hvl:v.length=n) (hn1:n<100000000000) (hv1:1≤rd v ((n-1:Nat):Int)) (M:Nat) :
  ∀ (j:Nat) (u out:List Int),u.length=M+n→out.length=M→j≤M→Dg.Ok 1000000000 u→Dg.Ok 1000000000 out→(∀ t:Nat,t<j→rd out (t:Int)=0)→Dg.val 1000000000 (u.drop j)<Dg.val 1000000000 v →
  ∃ u' out',Ev (fun k=>Yn.lp k v j u out) (u',out')∧u'.length=M+n∧out'.length=M∧Dg.Ok 1000000000 u'∧Dg.Ok 1000000000 out'∧Aside0 (Dg.val 1000000000 u'+Dg.val 1000000000 v*Dg.val 1000000000 out'=Dg.val 1000000000 u+Dg.val 1000000000 v*Dg.val 1000000000 out∧Dg.val 1000000000 u'<Dg.val 1000000000 v):=by
 have hVn:=Dg.val_lt (by omega) hvo
 rw [hvl] at hVn
 intro j
 induction j with
 | zero =>
  intro u out h1 h2 h3 h4 h5 h6 h7
  exact ⟨u,out,Ev.congr (fun k=>rfl) (Ev.now _),h1,h2,h4,h5,⟨rfl,h7⟩⟩
 | succ j ih =>
  intro u out h1 h2 h3 h4 h5 h6 h7
  have hSl:((u.take (j+n+1)).drop j).length=n+1:=by rw [List.length_drop,List.length_take];omega
  have hSo:Dg.Ok 1000000000 ((u.take (j+n+1)).drop j):=(h4.take _).drop _
  have hup:Dg.val 1000000000 (u.drop (j+n+1))=0:=by
   have h:=Dg.val_split 1000000000 (u.drop (j+1)) n (by rw [List.length_drop];omega)
   rw [List.drop_drop,show j+1+n=j+n+1 by omega] at h
   have a1:=Dg.val_nonneg (by omega) ((h4.drop (j+1)).take n)
   have a2:=Dg.val_nonneg (by omega) (h4.drop (j+n+1))
   rcases (by omega:Dg.val 1000000000 (u.drop (j+n+1))=0∨1≤Dg.val 1000000000 (u.drop (j+n+1))) with e|e
   ·exact e
   ·have:=Int.mul_le_mul_of_nonneg_left e (show (0:Int)≤1000000000^n by have:=Dg.pow_pos (B:=1000000000) (by omega) n;omega)
    omega
  have hsplit:Dg.val 1000000000 (u.drop j)=Dg.val 1000000000 ((u.take (j+n+1)).drop j)+1000000000^(n+1)*Dg.val 1000000000 (u.drop (j+n+1)):=by
   rw [← seg_append u j (n+1) (by omega),Dg.val_append,← Nat.add_assoc,hSl]
  have hSV:Dg.val 1000000000 ((u.take (j+n+1)).drop j)<1000000000*Dg.val 1000000000 v:=by
   have e:=val_drop_one 1000000000 u j (by omega)
   rw [hsplit,hup,Int.mul_zero,Int.add_zero] at e
   have:=h4.rd j (by omega)
   omega
  obtain ⟨q,s,hev,q0,q1,hsl,hso,hs⟩:=digit_ev _ v n hSo hvo hn hvl hSl hn1 hv1 hSV
  have hlen:(u.take j++(s++u.drop (j+n+1))).length=M+n:=by simp only [List.length_append,List.length_take,List.length_drop];omega
  have htj:(u.take j).length=j:=by rw [List.length_take];omega
  have hdr:(u.take j++(s++u.drop (j+n+1))).drop j=s++u.drop (j+n+1):=by
   rw [List.drop_append,htj,Nat.sub_self,List.drop_zero,List.drop_of_length_le (by omega),List.nil_append]
  obtain ⟨u',out',hev2,r1,r2,r3,r4,r5⟩:=ih (u.take j++(s++u.drop (j+n+1))) (out.set j q) hlen (by rw [List.length_set];exact h2) (by omega) ((h4.take _).append (hso.append (h4.drop _))) (h5.set _ q0 q1) (fun t ht=>by rw [rd_set_ _ _ _ _ (by omega),if_neg (by omega)];exact h6 t (by omega)) (by
   rw [hdr,Dg.val_append,hup,Int.mul_zero,Int.add_zero];exact hs.out.2)
  refine ⟨u',out',?_,r1,r2,r3,r4,⟨?_,r5.out.2⟩⟩
  ·refine Ev.congr (f:=fun k=>(Ym.f k ((u.take (j+n+1)).drop j) v).bind fun t=>Yn.lp k v j (u.take j++(t.2++u.drop (j+n+1))) (out.set j (t.1%4294967296))) (fun k=>by simp only [Yn.lp,hvl]) (Ev.bind hev ?_)
   refine Ev.congr (fun k=>?_) hev2
   rw [u32m q0 (by omega)]
  ·rw [r5.out.1]
   have e1:=Dg.val_split 1000000000 u j (by omega)
   rw [hsplit] at e1
   have e2:Dg.val 1000000000 (u.take j++(s++u.drop (j+n+1)))=Dg.val 1000000000 (u.take j)+1000000000^j*(Dg.val 1000000000 s+1000000000^(n+1)*Dg.val 1000000000 (u.drop (j+n+1))):=by
    rw [Dg.val_append,Dg.val_append,htj,hsl]
   have e3:=Dg.val_set' 1000000000 q out j (by omega)
   rw [h6 j (by omega)] at e3
   exact alg_div e1 hs.out.1 hup e2 e3
theorem len9_mul (m n:Nat):(Dg.dg 1000000000 (m*n)).length≤(Dg.dg 1000000000 m).length+(Dg.dg 1000000000 n).length:=by
 refine Dg.dg_len_le (B:=1000000000) (by omega) _ _ ?_
 rw [Nat.pow_add]
 have h1:=Dg.lt_dg (B:=1000000000) (by omega) m
 have h2:=Dg.lt_dg (B:=1000000000) (by omega) n
 exact Nat.mul_lt_mul_of_lt_of_le h1 (by omega) (by omega)
theorem len9_mono {m n:Nat} (h:m≤n):(Dg.dg 1000000000 m).length≤(Dg.dg 1000000000 n).length:=Dg.dg_len_mono (B:=1000000000) (by omega) h
theorem clone9 (l:List Int) (h:l.length<100000):YC.f l=some l:=by unfold YC.f;rw [if_pos (by omega)]
theorem divInt (a b by_:Int) (h0:0≤a) (hb:1≤b) (hy:1≤by_) {u q:Int} (hu0:0≤u) (hu:u+b*by_*q=a*by_) (hlt:u<b*by_):q=a/b∧u=(a%b)*by_:=by
 have h1:u=(a-b*q)*by_:=by
  have:(a-b*q)*by_=a*by_-b*by_*q:=by grind
  omega
 have h2:0≤a-b*q:=by
  rcases (by omega:0≤a-b*q∨a-b*q≤-1) with h|h
  ·exact h
  ·have:=Int.mul_le_mul_of_nonneg_right h (show 0≤by_ by omega)
   omega
 have h3:a-b*q<b:=by
  rcases (by omega:a-b*q<b∨b≤a-b*q) with h|h
  ·exact h
  ·have:=Int.mul_le_mul_of_nonneg_right h (show 0≤by_ by omega)
   omega
 obtain ⟨e1,e2⟩:=divmod_unique (a:=a) (q:=q) (r:=a-b*q) (b:=b) (by rw [Int.mul_comm q b];omega) h2 h3
 exact ⟨e1.symm,by rw [e2];exact h1⟩
theorem scale_top (B t:Nat) (h1:1≤t) (h2:t<B):1≤B/(t+1)∧B/(t+1)*(t+1)≤B:=⟨Nat.div_pos (by omega) (by omega),Nat.div_mul_le_self _ _⟩
theorem natDiv_ev (a b:Nat) (hb:b≠0) (ha:(Dg.dg 1000000000 a).length<100000) (hbl:(Dg.dg 1000000000 b).length<100000):Ev (fun k=>Yn.f k (Dg.dg 1000000000 a) (Dg.dg 1000000000 b)) (Dg.dg 1000000000 (a/b),Dg.dg 1000000000 (a%b)):=by
 have hcmp:=natCmp_ev a b (by omega) (by omega)
 unfold Yn.f
 refine Ev.congr (fun k=>if_pos ⟨by omega,by omega⟩) (Ev.bind hcmp ?_)
 by_cases hlt:a<b
 ·rw [show sg (a:Int) (b:Int) = -1 by unfold sg;rw [if_pos (by omega)]]
  refine Ev.congr (f:=fun _=>some ([],Dg.dg 1000000000 a)) (fun k=>?_) (by rw [Nat.div_eq_of_lt hlt,Nat.mod_eq_of_lt hlt,Dg.dg_zero];exact Ev.now _)
  rw [if_pos (by omega),clone9 _ ha];rfl
 have hs:¬ sg (a:Int) (b:Int)<0:=by unfold sg;rw [if_neg (by omega)];split <;> omega
 have hbl0:(Dg.dg 1000000000 b).length≠0:=fun e=>hb (len9.1 e)
 have hlab:=len9_mono (show b≤a by omega)
 by_cases h1:(Dg.dg 1000000000 b).length=1
 ·have hb9:b<1000000000:=by have:=Dg.lt_dg (B:=1000000000) (by omega) b;rw [h1,Nat.pow_one] at this;exact this
  have hrd:rd (Dg.dg 1000000000 b) 0=(b:Int):=by
   rw [Dg.dg_pos (B:=1000000000) (by omega) hb]
   show ((b%1000000000:Nat):Int)=(b:Int)
   rw [Nat.mod_eq_of_lt hb9]
  have hsh:=short_ev (Dg.dg 1000000000 a) (b:Int) (ok9 a) (by omega) (by omega) (by omega)
  rw [val9,show ((a:Int)/(b:Int)).toNat=a/b by rw [← Int.natCast_ediv];rfl] at hsh
  have hof:=natOf_ev (a%b) (by have:=Nat.mod_lt a (show b > 0 by omega);omega)
  have e:((a:Int)%(b:Int))=((a%b:Nat):Int):=(Int.natCast_emod a b).symm
  refine Ev.congr (f:=fun k=>(Yj.f k (Dg.dg 1000000000 a) (b:Int)).bind fun t=>(Yt.f k t.2).bind fun q=>some (t.1,q)) (fun k=>?_) (Ev.bind hsh (Ev.bind (by rw [← e] at hof;exact hof) (Ev.now _)))
  rw [if_neg hs,if_pos h1,hrd,u64_ (by omega) (by omega)]
 -- many limbs
 obtain ⟨n,hn⟩:∃ n,(Dg.dg 1000000000 b).length=n:=⟨_,rfl⟩
 obtain ⟨la,hla⟩:∃ l,(Dg.dg 1000000000 a).length=l:=⟨_,rfl⟩
 rw [hn] at h1 hbl0 hbl hlab
 rw [hla] at ha hlab
 have htop0:=(ok9 b).rd (n-1) (by omega)
 have htop1:=top9 b hb
 rw [hn] at htop1
 obtain ⟨tb,htb⟩:∃ t:Nat,rd (Dg.dg 1000000000 b) ((n-1:Nat):Int)=(t:Int):=⟨_,(Int.toNat_of_nonneg htop0.1).symm⟩
 rw [htb] at htop0 htop1
 obtain ⟨hby1,hby2⟩:=scale_top 1000000000 tb (by omega) (by omega)
 obtain ⟨by_,hbye⟩:∃ y:Nat,1000000000/(tb+1)=y:=⟨_,rfl⟩
 rw [hbye] at hby1 hby2
 have hby3:by_≤1000000000:=by rw [← hbye];exact Nat.div_le_self _ _
 have hbyI:(1000000000:Int)/((tb:Int)+1)=(by_:Int):=by rw [← hbye,Int.natCast_ediv];rfl
 -- the scaled ones
 have hPn:=Dg.pow_pos (B:=1000000000) (by omega) (n-1)
 have hbval:(b:Int)*by_<1000000000^n:=by
  have e1:=val_take_one 1000000000 (Dg.dg 1000000000 b) (n-1) (by omega)
  rw [show n-1+1=n by omega,List.take_of_length_le (by omega),val9,htb] at e1
  have e2:=Dg.val_lt (by omega) ((ok9 b).take (n-1))
  rw [List.length_take,Nat.min_eq_left (by omega)] at e2
  have e3:(b:Int)<1000000000^(n-1)*((tb:Int)+1):=by rw [Int.mul_add,Int.mul_one];omega
  have e4:(1000000000:Int)^n=1000000000^(n-1)*1000000000:=by rw [← Int.pow_succ];congr 1;omega
  have e5:(b:Int)*by_<1000000000^(n-1)*((tb:Int)+1)*by_:=Int.mul_lt_mul_of_pos_right e3 (by omega)
  have e6:(1000000000:Int)^(n-1)*((tb:Int)+1)*by_≤1000000000^(n-1)*1000000000:=by
   rw [Int.mul_assoc]
   refine Int.mul_le_mul_of_nonneg_left ?_ (by omega)
   have:((by_*(tb+1):Nat):Int)≤((1000000000:Nat):Int):=Int.ofNat_le.2 hby2
   rw [Int.natCast_mul,Int.natCast_add,Int.mul_comm] at this
   exact this
  omega
 have hble:=Dg.dg_le (B:=1000000000) (by omega) hb
 rw [hn] at hble
 have hbleI:(1000000000:Int)^(n-1)≤(b:Int):=by have:=Int.ofNat_le.2 hble;rw [Int.natCast_pow] at this;exact this
 have halt:(a:Int)<1000000000^la:=by
  have:=Dg.val_lt (by omega) (ok9 a)
  rw [val9,hla] at this;exact this
 have hafit:(a:Int)*by_<1000000000^(la+1):=by
  have e1:(a:Int)*by_<1000000000^la*by_:=Int.mul_lt_mul_of_pos_right halt (by omega)
  have e2:(1000000000:Int)^la*by_≤1000000000^la*1000000000:=Int.mul_le_mul_of_nonneg_left (by omega) (by have:=Dg.pow_pos (B:=1000000000) (by omega) la;omega)
  rw [Int.pow_succ];omega
 obtain ⟨u,hevu,hul,huo,huv⟩:=scaled_ev (Dg.dg 1000000000 a) by_ (ok9 a) (by omega) (by omega) (la+1) (by omega) (by omega) (by rw [val9];exact hafit)
 obtain ⟨v,hevv,hvl,hvo,hvv⟩:=scaled_ev (Dg.dg 1000000000 b) by_ (ok9 b) (by omega) (by omega) n (by omega) (by omega) (by rw [val9];exact hbval)
 rw [val9] at huv hvv
 obtain ⟨M,hM⟩:∃ M,la-n+1=M:=⟨_,rfl⟩
 have hVge:(1000000000:Int)^(n-1)≤Dg.val 1000000000 v:=by
  rw [hvv]
  have:=Int.mul_le_mul hbleI (show (1:Int)≤by_ by omega) (by omega) (by omega)
  omega
 have hv1:1≤rd v ((n-1:Nat):Int):=by
  have e1:=val_take_one 1000000000 v (n-1) (by omega)
  rw [show n-1+1=n by omega,List.take_of_length_le (by omega)] at e1
  have e2:=Dg.val_lt (by omega) (hvo.take (n-1))
  rw [List.length_take,Nat.min_eq_left (by omega)] at e2
  have e3:=hvo.rd (n-1) (by omega)
  rcases (by omega:rd v ((n-1:Nat):Int)=0∨1≤rd v ((n-1:Nat):Int)) with h|h
  ·rw [h,Int.mul_zero] at e1;omega
  ·exact h
 have hdrop:Dg.val 1000000000 (u.drop M)<Dg.val 1000000000 v:=by
  have e1:=Dg.val_split 1000000000 u M (by omega)
  have e2:=Dg.val_nonneg (by omega) (huo.take M)
  have hPM:=Dg.pow_pos (B:=1000000000) (by omega) M
  have e3:(a:Int)*by_<Dg.val 1000000000 v*1000000000^M:=by
   have f1:(1000000000:Int)^la=1000000000^(n-1)*1000000000^M:=by rw [← Int.pow_add];congr 1;omega
   have f2:(1000000000:Int)^(n-1)*1000000000^M≤(b:Int)*1000000000^M:=Int.mul_le_mul_of_nonneg_right hbleI (by omega)
   have f3:(a:Int)*by_<(b:Int)*1000000000^M*by_:=Int.mul_lt_mul_of_pos_right (by omega) (by omega)
   rw [hvv]
   have f4:(b:Int)*by_*1000000000^M=(b:Int)*1000000000^M*by_:=by rw [Int.mul_assoc,Int.mul_comm (by_:Int),← Int.mul_assoc]
   omega
  rcases (by omega:Dg.val 1000000000 (u.drop M)<Dg.val 1000000000 v∨Dg.val 1000000000 v≤Dg.val 1000000000 (u.drop M)) with h|h
  ·exact h
  ·have:=Int.mul_le_mul_of_nonneg_left h (show (0:Int)≤1000000000^M by omega)
   rw [Int.mul_comm (Dg.val 1000000000 v)] at e3
   omega
 obtain ⟨u',out',hevl,g1,g2,g3,g4,g5⟩:=lp_ev v n hvo (by omega) hvl (by omega) hv1 M M u (List.replicate M 0) (by omega) (by simp) (Nat.le_refl _) huo (Dg.Ok.zeros (by omega) _) (fun t _=>rd_zeros _ _) hdrop
 have g6:=g5.out
 rw [Dg.val_zeros,Int.mul_zero,Int.add_zero,huv,hvv] at g6
 have hu0:=Dg.val_nonneg (by omega) g3
 obtain ⟨eq1,er1⟩:=divInt (a:Int) (b:Int) (by_:Int) (by omega) (by omega) (by omega) hu0 (by rw [← g6.1]) g6.2
 have htake:Dg.val 1000000000 (u'.take n)=Dg.val 1000000000 u':=by
  have e1:=Dg.val_split 1000000000 u' n (by omega)
  have a1:=Dg.val_nonneg (by omega) (g3.take n)
  have a2:=Dg.val_nonneg (by omega) (g3.drop n)
  rcases (by omega:Dg.val 1000000000 (u'.drop n)=0∨1≤Dg.val 1000000000 (u'.drop n)) with e|e
  ·rw [e,Int.mul_zero,Int.add_zero] at e1;exact e1.symm
  ·have:=Int.mul_le_mul_of_nonneg_left e (show (0:Int)≤1000000000^n by have:=Dg.pow_pos (B:=1000000000) (by omega) n;omega)
   omega
 have ht1:=trim_ev (u'.take n).length (u'.take n) rfl (g3.take n) (by rw [List.length_take];omega)
 rw [htake,er1] at ht1
 have hmod:((a:Int)%(b:Int)*(by_:Int)).toNat=a%b*by_:=by rw [← Int.natCast_emod,← Int.natCast_mul];rfl
 rw [hmod] at ht1
 have hlen1:(Dg.dg 1000000000 (a%b*by_)).length<1000000000000:=by
  have:=len9_mul (a%b) by_
  have h2:=len9_mono (Nat.mod_le a b)
  have h3:=Dg.dg_len_le (B:=1000000000) (by omega) 3 by_ (by omega)
  omega
 have hsh:=short_ev (Dg.dg 1000000000 (a%b*by_)) (by_:Int) (ok9 _) (by omega) (by omega) hlen1
 rw [val9,show (((a%b*by_:Nat):Int)/(by_:Int)).toNat=a%b by rw [← Int.natCast_ediv,Nat.mul_div_cancel _ (by omega)];rfl] at hsh
 have ht2:=trim_ev out'.length out' rfl g4 (by omega)
 rw [eq1,show ((a:Int)/(b:Int)).toNat=a/b by rw [← Int.natCast_ediv];rfl] at ht2
 clear hbval hafit halt hbleI hVge hdrop g5 g6 htake er1 eq1 huv hvv hu0 hPn
 refine Ev.congr (f:=fun k=>(Yk.f k (Dg.dg 1000000000 a) (by_:Int) ((la+1:Nat):Int)).bind fun u=>(Yk.f k (Dg.dg 1000000000 b) (by_:Int) (n:Int)).bind fun v=>if u.length=la+1∧v.length=n then (Yn.lp k v M u (List.replicate M 0)).bind fun z=>(Yf.f k (z.1.take v.length)).bind fun tr=>(Yj.f k tr (by_:Int)).bind fun t=>(Yf.f k z.2).bind fun q=>some (q,t.1) else none) (fun k=>?_) (Ev.bind hevu (Ev.bind hevv (Ev.congr (fun k=>if_pos ⟨hul,hvl⟩) (Ev.bind hevl ?_))))
 ·rw [if_neg hs,hn,hla,if_neg (by omega),htb,if_pos ⟨by omega,by omega,by omega,by omega⟩,hbyI,hM]
 ·rw [hvl]
  exact Ev.bind ht1 (Ev.bind hsh (Ev.bind ht2 (Ev.now _)))
theorem wide_eq (n:Nat) (h:(Dg.dg 1000000000 n).length≤2):Back.wideW (Dg.dg 1000000000 n)=(n:Int):=by
 have hlt:n<1000000000000000000:=by
  have h1:=Dg.lt_dg (B:=1000000000) (by omega) n
  have h2:=Nat.pow_le_pow_right (n:=1000000000) (by omega) h
  omega
 unfold Back.wideW
 by_cases h0:n=0
 ·subst h0;rw [Dg.dg_zero];rfl
 ·rw [Dg.dg_pos (B:=1000000000) (by omega) h0,List.foldr_cons]
  by_cases h1:n/1000000000=0
  ·rw [h1,Dg.dg_zero,List.foldr_nil,Int.zero_mul,u64_ (n:=0) (by omega) (by omega),u64_ (n:=((n%1000000000:Nat):Int)) (by omega) (by omega),u64_ (n:=(0:Int)+((n%1000000000:Nat):Int)) (by omega) (by omega)];omega
  ·rw [Dg.dg_pos (B:=1000000000) (by omega) h1,List.foldr_cons]
   have h2:n/1000000000/1000000000=0:=by omega
   rw [h2,Dg.dg_zero,List.foldr_nil,Int.zero_mul,u64_ (n:=0) (by omega) (by omega),u64_ (n:=((n/1000000000%1000000000:Nat):Int)) (by omega) (by omega),u64_ (n:=(0:Int)+((n/1000000000%1000000000:Nat):Int)) (by omega) (by omega),u64_ (n:=((0:Int)+((n/1000000000%1000000000:Nat):Int))*1000000000) (by omega) (by omega),u64_ (n:=((n%1000000000:Nat):Int)) (by omega) (by omega),u64_ (by omega) (by omega)]
   omega
theorem euclid_ev (n:Nat):∀ m:Nat,m<18446744073709551616→n<18446744073709551616→Ev (fun k=>Yb.l1 k (m:Int) (n:Int)) (Dg.dg 1000000000 (Nat.gcd m n)):=by
 induction n using Nat.strongRecOn with
 | ind n ih =>
  intro m hm hn
  by_cases h0:n=0
  ·subst h0
   rw [Nat.gcd_zero_right]
   refine Ev.step (f:=fun k=>(Yt.f k (m:Int)).bind fun t=>some t) (fun k=>?_) (Ev.bind (natOf_ev m hm) (Ev.now _))
   simp only [Yb.l1];rw [if_pos (by omega)]
  ·have hlt:=Nat.mod_lt m (show n > 0 by omega)
   have:=ih (m%n) hlt n hn (by omega)
   rw [Nat.gcd_comm n,← Nat.gcd_rec,Nat.gcd_comm] at this
   refine Ev.step (fun k=>?_) this
   simp only [Yb.l1]
   rw [if_neg (by omega),tmod_ (by omega),Int.natCast_emod]
theorem gcd_loop (n:Nat):∀ m:Nat,(Dg.dg 1000000000 m).length<100000→(Dg.dg 1000000000 n).length<100000→Ev (fun k=>Yb.l0 k (Dg.dg 1000000000 m) (Dg.dg 1000000000 n)) (Dg.dg 1000000000 (Nat.gcd m n)):=by
 induction n using Nat.strongRecOn with
 | ind n ih =>
  intro m hm hn
  by_cases hb:(Dg.dg 1000000000 m).length > 2∨(Dg.dg 1000000000 n).length > 2
  ·have hj:Ev (fun k=>Yb.j1 k (Dg.dg 1000000000 m) (Dg.dg 1000000000 n) true) (Dg.dg 1000000000 (Nat.gcd m n)):=by
    by_cases h0:n=0
    ·subst h0
     rw [Nat.gcd_zero_right]
     refine Ev.step (f:=fun _=>some (Dg.dg 1000000000 m)) (fun k=>?_) (Ev.now _)
     simp only [Yb.j1]
     rw [if_pos (by decide),if_pos (by rw [Dg.dg_zero];rfl),clone9 _ hm];rfl
    ·have hlt:=Nat.mod_lt m (show n > 0 by omega)
     have hl:=len9_mono (show m%n≤m from Nat.mod_le _ _)
     have:=ih (m%n) hlt n hn (by omega)
     rw [Nat.gcd_comm n,← Nat.gcd_rec,Nat.gcd_comm] at this
     have hne:(Dg.dg 1000000000 n).length≠0:=fun e=>h0 (len9.1 e)
     refine Ev.step (f:=fun k=>(Yn.f k (Dg.dg 1000000000 m) (Dg.dg 1000000000 n)).bind fun bt170=>Yb.l0 k (Dg.dg 1000000000 n) bt170.2) (fun k=>?_) (Ev.bind (natDiv_ev m n h0 hm hn) this)
     simp only [Yb.j1]
     rw [if_pos (by decide),if_neg (by omega)]
   refine Ev.step (fun k=>?_) hj
   simp only [Yb.l0]
   by_cases h2:(Dg.dg 1000000000 m).length > 2
   ·rw [if_pos (by omega)]
   ·have e:decide (((Dg.dg 1000000000 n).length:Int)>2)=true:=decide_eq_true (by omega)
    rw [if_neg (by omega),e]
  ·have hm2:(Dg.dg 1000000000 m).length≤2:=by omega
   have hn2:(Dg.dg 1000000000 n).length≤2:=by omega
   have hlt:∀ x:Nat,(Dg.dg 1000000000 x).length≤2→x<18446744073709551616:=fun x hx=>by
    have h1:=Dg.lt_dg (B:=1000000000) (by omega) x
    have h2:=Nat.pow_le_pow_right (n:=1000000000) (by omega) hx
    omega
   have:=euclid_ev n m (hlt m hm2) (hlt n hn2)
   refine Ev.step (f:=fun k=>Yb.j1 k (Dg.dg 1000000000 m) (Dg.dg 1000000000 n) false) (fun k=>?_) (Ev.step (fun k=>?_) this)
   ·simp only [Yb.l0]
    have e:decide (((Dg.dg 1000000000 n).length:Int)>2)=false:=decide_eq_false (by omega)
    rw [if_neg (by omega),e]
   ·simp only [Yb.j1,YS.f]
    rw [if_neg (by decide),wide_eq _ hm2,wide_eq _ hn2];rfl
theorem natGcd_ev (m n:Nat) (hm:(Dg.dg 1000000000 m).length<100000) (hn:(Dg.dg 1000000000 n).length<100000):Ev (fun k=>Yb.f k (Dg.dg 1000000000 m) (Dg.dg 1000000000 n)) (Dg.dg 1000000000 (Nat.gcd m n)):=gcd_loop n m hm hn
theorem natOne_eq (n:Nat):Yx.f (Dg.dg 1000000000 n)=some (decide (n=1)):=by
 unfold Yx.f
 by_cases h0:n=0
 ·subst h0;rw [Dg.dg_zero];rfl
 ·rw [Dg.dg_pos (B:=1000000000) (by omega) h0]
  by_cases h1:n/1000000000=0
  ·rw [h1,Dg.dg_zero]
   show some (((n%1000000000:Nat):Int)==1)=some (decide (n=1))
   congr 1
   rw [Nat.mod_eq_of_lt (by omega),Bool.eq_iff_iff,beq_iff_eq,decide_eq_true_iff];omega
  ·have hl:(Dg.dg 1000000000 (n/1000000000)).length≠0:=fun e=>h1 (len9.1 e)
   rw [List.length_cons,if_neg (by omega),decide_eq_false (by omega)]
def low (neg:Bool) (p q:Nat):Bool×List Int×List Int:=(neg&&decide (p≠0),Dg.dg 1000000000 (p/Nat.gcd p q),Dg.dg 1000000000 (q/Nat.gcd p q))
theorem ok4 (n:Nat):Dg.Ok 10000 (Dg.dg 10000 n):=Dg.dg_ok (B:=10000) (by omega) n
theorem val4 (n:Nat):Dg.val 10000 (Dg.dg 10000 n)=(n:Int):=Dg.dg_val (B:=10000) (by omega) n
theorem nil4 {n:Nat}:Dg.dg 10000 n=[]↔n=0:=Dg.dg_eq_nil (B:=10000) (by omega)
theorem len4 {n:Nat}:(Dg.dg 10000 n).length=0↔n=0:=by rw [List.length_eq_zero_iff];exact nil4
theorem of4_ev (n:Nat):∀ (acc:List Int),n<18446744073709551616→acc.length+(Dg.dg 10000 n).length<17592186044416→Ev (fun k=>Ya.l0 k (n:Int) acc) (acc++Dg.dg 10000 n):=by
 refine Dg.dg_ind (B:=10000) (by omega) (P:=fun n=>∀ (acc:List Int),n<18446744073709551616→acc.length+(Dg.dg 10000 n).length<17592186044416→Ev (fun k=>Ya.l0 k (n:Int) acc) (acc++Dg.dg 10000 n)) ?_ ?_ n
 ·intro acc _ _
  rw [Dg.dg_zero,List.append_nil]
  exact Ev.step (f:=fun _=>some acc) (fun k=>by simp only [Ya.l0];rw [if_neg (by omega)]) (Ev.now _)
 ·intro n hn ih acc h1 h2
  rw [Dg.dg_pos (by omega) hn] at h2 ⊢
  rw [List.length_cons] at h2
  have e1:(n:Int)/10000=((n/10000:Nat):Int):=by omega
  have e2:(n:Int)%10000=((n%10000:Nat):Int):=by omega
  have:=ih (acc++[((n%10000:Nat):Int)]) (by omega) (by simp;omega)
  rw [List.append_assoc] at this
  refine Ev.step (fun k=>?_) this
  simp only [Ya.l0]
  rw [if_pos (by omega),if_pos (by omega),tdiv_ (by omega),tmod_ (by omega),u64_ (by omega) (by omega),w64 (by omega) (by omega),e1,e2]
theorem natOf4_ev (n:Nat) (h:n<18446744073709551616):Ev (fun k=>Ya.f k (n:Int)) (Dg.dg 10000 n):=by
 have hl:=Dg.dg_len_le (B:=10000) (by omega) 5 n (by omega)
 have:=of4_ev n [] h (by simp;omega)
 simpa [Ya.f] using this
theorem tidy_ev (n:Nat):∀ (l:List Int),l.length=n→Dg.Ok 10000 l→l.length<1000000000000→Ev (fun k=>Y2.f k l) (Dg.dg 10000 (Dg.val 10000 l).toNat):=by
 induction n with
 | zero =>
  intro l hl _ _
  obtain rfl:=List.eq_nil_of_length_eq_zero hl
  rw [show (Dg.val 10000 ([]:List Int)).toNat=0 from rfl,Dg.dg_zero]
  exact Ev.step (f:=fun _=>some []) (fun k=>by simp [Y2.f,Y2.l0]) (Ev.now _)
 | succ n ih =>
  intro l hl hok hlen
  have hw:wrap64 ((l.length:Int)-1)=((l.length-1:Nat):Int):=by rw [w64 (by omega) (by omega)];omega
  by_cases h0:rd l ((l.length-1:Nat):Int)=0
  ·have hne:l≠[]:=fun e=>by rw [e] at hl;simp at hl
   have:=ih (l.take (l.length-1)) (by rw [List.length_take];omega) (hok.take _) (by rw [List.length_take];omega)
   rw [Dg.val_take_pred _ l hne h0] at this
   refine Ev.step (fun k=>?_) this
   simp only [Y2.f,Y2.l0]
   rw [if_pos (by omega),hw,if_pos (by omega),if_pos (by omega),if_pos h0,if_pos (by omega),Int.toNat_natCast]
  ·have e:=Dg.dg_of (B:=10000) (by omega) l hok (fun _=>h0)
   have e':Dg.dg 10000 (Dg.val 10000 l).toNat=l:=e.symm
   rw [e']
   refine Ev.step (f:=fun _=>some l) (fun k=>?_) (Ev.now _)
   simp only [Y2.f,Y2.l0]
   rw [if_pos (by omega),hw,if_pos (by omega),if_pos (by omega),if_neg h0]
def SgOk (c x y:Int):Prop:=(c<0↔x<y)∧(c=0↔x=y)
theorem cmp4_loop (a b:List Int) (ha:Dg.Ok 10000 a) (hb:Dg.Ok 10000 b) (hl:a.length<1000000000000):∀ (i:Nat),i≤a.length→i≤b.length→∃ c,Ev (fun k=>Y7.l0 k a b ((i:Int)-1)) c∧SgOk c (Dg.val 10000 (a.take i)) (Dg.val 10000 (b.take i)):=by
 intro i
 induction i with
 | zero =>
  intro _ _
  refine ⟨0,Ev.step (f:=fun _=>some 0) (fun k=>?_) (Ev.now _),by rw [List.take_zero,List.take_zero];exact ⟨by omega,by omega⟩⟩
  simp only [Y7.l0];rw [if_neg (by omega)]
 | succ i ih =>
  intro h1 h2
  have hA:=ha.rd i (by omega)
  have hB:=hb.rd i (by omega)
  have va0:=Dg.val_nonneg (by omega) (ha.take i)
  have vb0:=Dg.val_nonneg (by omega) (hb.take i)
  have va1:=Dg.val_lt (by omega) (ha.take i)
  have vb1:=Dg.val_lt (by omega) (hb.take i)
  rw [List.length_take,Nat.min_eq_left (by omega)] at va1 vb1
  rw [show ((i+1:Nat):Int)-1=(i:Int) by omega,val_take_one _ a i (by omega),val_take_one _ b i (by omega)]
  by_cases he:rd a (i:Int)=rd b (i:Int)
  ·obtain ⟨c,hc,hs1,hs2⟩:=ih (by omega) (by omega)
   refine ⟨c,Ev.step (fun k=>?_) hc,?_⟩
   ·simp only [Y7.l0]
    rw [if_pos (by omega),if_pos (by omega),if_pos (by omega),if_pos (by omega),if_pos he,w64 (by omega) (by omega)]
   ·rw [he]
    generalize (10000:Int)^i*rd b (i:Int)=z
    exact ⟨by omega,by omega⟩
  ·refine ⟨rd a (i:Int)-rd b (i:Int),Ev.step (f:=fun _=>some (rd a (i:Int)-rd b (i:Int))) (fun k=>?_) (Ev.now _),?_⟩
   ·simp only [Y7.l0]
    rw [if_pos (by omega),if_pos (by omega),if_pos (by omega),if_pos (by omega),if_neg he,w64 (by omega) (by omega)]
   ·have hp:=Dg.pow_pos (B:=10000) (by omega) i
    rcases Int.lt_or_gt_of_ne he with h|h
    ·have:=Int.mul_le_mul_of_nonneg_left (show rd a (i:Int)+1≤rd b (i:Int) by omega) (show 0≤(10000:Int)^i by omega)
     rw [Int.mul_add,Int.mul_one] at this
     exact ⟨by omega,by omega⟩
    ·have:=Int.mul_le_mul_of_nonneg_left (show rd b (i:Int)+1≤rd a (i:Int) by omega) (show 0≤(10000:Int)^i by omega)
     rw [Int.mul_add,Int.mul_one] at this
     exact ⟨by omega,by omega⟩
theorem len4_mono {m n:Nat} (h:m≤n):(Dg.dg 10000 m).length≤(Dg.dg 10000 n).length:=Dg.dg_len_mono (B:=10000) (by omega) h
theorem natCmp4_ev (m n:Nat) (hm:(Dg.dg 10000 m).length<1000000000000) (hn:(Dg.dg 10000 n).length<1000000000000):∃ c,Ev (fun k=>Y7.f k (Dg.dg 10000 m) (Dg.dg 10000 n)) c∧SgOk c m n:=by
 unfold Y7.f
 by_cases h:(Dg.dg 10000 m).length=(Dg.dg 10000 n).length
 ·obtain ⟨c,hc,hs⟩:=cmp4_loop (Dg.dg 10000 m) (Dg.dg 10000 n) (ok4 m) (ok4 n) hm (Dg.dg 10000 m).length (Nat.le_refl _) (by omega)
  rw [List.take_length,show (Dg.dg 10000 n).take (Dg.dg 10000 m).length=Dg.dg 10000 n by rw [h,List.take_length],val4,val4] at hs
  refine ⟨c,Ev.congr (fun k=>?_) hc,hs⟩
  have hw:wrap64 (((Dg.dg 10000 m).length:Int)-1)=((Dg.dg 10000 m).length:Int)-1:=w64 (by omega) (by omega)
  rw [if_pos (by omega),hw]
 ·refine ⟨((Dg.dg 10000 m).length:Int)-((Dg.dg 10000 n).length:Int),Ev.congr (f:=fun _=>some (((Dg.dg 10000 m).length:Int)-((Dg.dg 10000 n).length:Int))) (fun k=>?_) (Ev.now _),?_⟩
  ·rw [if_neg (by omega),w64 (by omega) (by omega)]
  ·rcases Nat.lt_or_gt_of_ne h with h1|h1
   ·have:m<n:=by
     rcases Nat.lt_or_ge m n with h2|h2
     ·exact h2
     ·have:=len4_mono h2;omega
    exact ⟨by omega,by omega⟩
   ·have:n<m:=by
     rcases Nat.lt_or_ge n m with h2|h2
     ·exact h2
     ·have:=len4_mono h2;omega
    exact ⟨by omega,by omega⟩
theorem alg_carry {O c P V x o m dq B:Int} (hv:Aside0 (O+c*P=V)) (ht:Aside0 (m+B*dq=c+o)) (hx:x=m):O+(x-o)*P+dq*(P*B)=V:=by
 have hv:=hv.out
 have ht:=ht.out
 subst hx
 grind
theorem carry_loop (n:Nat) (hn:n<1000000000) (V:Int):∀ (d i:Nat) (out:List Int) (c:Int),d+i=n→out.length=n→(∀ t:Nat,t<i→0≤rd out (t:Int)∧rd out (t:Int)<10000)→(∀ t:Nat,-1000000000000000≤rd out (t:Int)∧rd out (t:Int)≤1000000000000000)→-1000000000000000≤c→c≤1000000000000000 →
  Aside0 (Dg.val 10000 out+c*10000^i=V) →
  ∃ out' c',(∀ r,Ev (fun k=>Y1.l1 k out' c') r→Ev (fun k=>Y1.l0 k out c (n:Int) (i:Int)) r)∧out'.length=n∧(∀ t:Nat,t<n→0≤rd out' (t:Int)∧rd out' (t:Int)<10000)∧c'≤1000000000000000∧Aside0 (Dg.val 10000 out'+c'*10000^n=V):=by
 intro d
 induction d with
 | zero =>
  intro i out c hdi hlo hlow hall h3 h4 hv
  obtain rfl:i=n:=by omega
  refine ⟨out,c,fun r hr=>Ev.step (fun k=>?_) hr,hlo,hlow,h4,hv⟩
  simp only [Y1.l0];rw [if_neg (by omega)]
 | succ d ih =>
  intro i out c hdi hlo hlow hall h3 h4 hv
  have ho:=hall i
  obtain ⟨o,hoe⟩:∃ o:Int,rd out (i:Int)=o:=⟨_,rfl⟩
  rw [hoe] at ho
  obtain ⟨t,ht⟩:∃ t:Int,c+o=t:=⟨_,rfl⟩
  have htm:=Int.tmod_add_mul_tdiv t 10000
  have hm1:-10000<Int.tmod t 10000∧Int.tmod t 10000<10000:=by
   have h1:=Int.natAbs_tmod t 10000
   have h2:=Nat.mod_lt t.natAbs (show (10000:Int).natAbs > 0 by decide)
   have h3:(10000:Int).natAbs=10000:=rfl
   omega
  have hdq:=tdiv_range t 10000 (by omega)
  have hstep:∀ (x dq:Int),0≤x→x<10000→-1000000000000000≤dq→dq≤1000000000000000→Aside0 (x+10000*dq=c+o) →
    ∃ out' c',(∀ r,Ev (fun k=>Y1.l1 k out' c') r→Ev (fun k=>Y1.l0 k (out.set i x) dq (n:Int) ((i+1:Nat):Int)) r)∧out'.length=n∧(∀ t:Nat,t<n→0≤rd out' (t:Int)∧rd out' (t:Int)<10000)∧c'≤1000000000000000∧Aside0 (Dg.val 10000 out'+c'*10000^n=V):=by
   intro x dq hx0 hx1 hd0 hd1 he
   refine ih (i+1) (out.set i x) dq (by omega) (by rw [List.length_set];exact hlo) (fun s hs=>?_) (fun s=>?_) hd0 hd1 ⟨?_⟩
   ·rw [rd_set_ _ _ _ _ (by omega)]
    by_cases e:i=s
    ·rw [if_pos e];exact ⟨hx0,hx1⟩
    ·rw [if_neg e];exact hlow s (by omega)
   ·rw [rd_set_ _ _ _ _ (by omega)]
    by_cases e:i=s
    ·rw [if_pos e];omega
    ·rw [if_neg e];exact hall s
   ·rw [Dg.val_set' _ _ _ _ (by omega),Int.pow_succ,hoe]
    exact alg_carry hv he rfl
  have hrdset:rd (out.set i (Int.tmod t 10000)) (i:Int)=Int.tmod t 10000:=by rw [rd_set_ _ _ _ _ (by omega),if_pos rfl]
  have HRD:=Aside0.mk hrdset
  clear hrdset
  by_cases hneg:Int.tmod t 10000<0
  ·obtain ⟨out',c',h1,h2⟩:=hstep (Int.tmod t 10000+10000) (Int.tdiv t 10000-1) (by omega) (by omega) (by omega) (by omega) ⟨by rw [ht];omega⟩
   refine ⟨out',c',fun r hr=>Ev.step (fun k=>?_) (h1 r hr),h2⟩
   simp only [Y1.l0]
   rw [if_pos (by omega),if_pos (by omega),if_pos (by omega),hoe,ht,w64 (n:=t) (by omega) (by omega),Option.bind_some,Int.toNat_natCast,HRD.out,if_pos hneg,List.set_set,w64 (n:=Int.tmod t 10000+10000) (by omega) (by omega),w64 (n:=Int.tdiv t 10000) (by omega) (by omega),w64 (n:=Int.tdiv t 10000-1) (by omega) (by omega),wsucc i (by omega)]
  ·obtain ⟨out',c',h1,h2⟩:=hstep (Int.tmod t 10000) (Int.tdiv t 10000) (by omega) (by omega) (by omega) (by omega) ⟨by rw [ht];omega⟩
   refine ⟨out',c',fun r hr=>Ev.step (fun k=>?_) (h1 r hr),h2⟩
   simp only [Y1.l0]
   rw [if_pos (by omega),if_pos (by omega),if_pos (by omega),hoe,ht,w64 (n:=t) (by omega) (by omega),Option.bind_some,Int.toNat_natCast,HRD.out,if_neg hneg,w64 (n:=Int.tdiv t 10000) (by omega) (by omega),wsucc i (by omega)]
theorem ok_of_rd {B:Int} {l:List Int} (h:∀ t:Nat,t<l.length→0≤rd l (t:Int)∧rd l (t:Int)<B):Dg.Ok B l:=fun d hd=>by
 obtain ⟨i,hi,rfl⟩:=List.getElem_of_mem hd
 rw [← Dg.rd_get l i hi];exact h i hi
theorem carry1_ev (c:Nat):∀ (out:List Int),Dg.Ok 10000 out→c<1000000000000000000→out.length+(Dg.dg 10000 c).length<1000000000000→Ev (fun k=>Y1.l1 k out (c:Int)) (Dg.dg 10000 (Dg.val 10000 out+c*10000^out.length).toNat):=by
 refine Dg.dg_ind (B:=10000) (by omega) (P:=fun c=>∀ (out:List Int),Dg.Ok 10000 out→c<1000000000000000000→out.length+(Dg.dg 10000 c).length<1000000000000→Ev (fun k=>Y1.l1 k out (c:Int)) (Dg.dg 10000 (Dg.val 10000 out+c*10000^out.length).toNat)) ?_ ?_ c
 ·intro out ho _ hl
  have ht:=tidy_ev out.length out rfl ho (by omega)
  rw [show (Dg.val 10000 out+((0:Nat):Int)*10000^out.length)=Dg.val 10000 out by simp]
  refine Ev.step (f:=fun k=>(Y2.f k out).bind fun t=>some t) (fun k=>?_) (Ev.bind ht (Ev.now _))
  simp only [Y1.l1];rw [if_neg (by omega)]
 ·intro c hc ih out ho h1 h2
  rw [Dg.dg_pos (by omega) hc,List.length_cons] at h2
  have:=ih (out++[((c%10000:Nat):Int)]) (ho.append ((Dg.Ok.nil _).cons (by omega) (by omega))) (by omega) (by simp;omega)
  rw [Dg.val_snoc,List.length_append,List.length_singleton,Int.pow_succ] at this
  have e:Dg.val 10000 out+10000^out.length*((c%10000:Nat):Int)+((c/10000:Nat):Int)*(10000^out.length*10000)=Dg.val 10000 out+(c:Int)*10000^out.length:=by
   have h3:(c:Int)=((c%10000:Nat):Int)+10000*((c/10000:Nat):Int):=by omega
   generalize (10000:Int)^out.length=P
   generalize Dg.val 10000 out=O
   rw [h3]
   generalize ((c%10000:Nat):Int)=m
   generalize ((c/10000:Nat):Int)=q
   clear h3 this ih h2 h1 ho hc
   grind
  rw [e] at this
  refine Ev.step (fun k=>?_) this
  simp only [Y1.l1]
  rw [if_pos (by omega),if_pos (by omega),tdiv_ (by omega),tmod_ (by omega),w64 (by omega) (by omega),show (c:Int)%10000=((c%10000:Nat):Int) by omega,show (c:Int)/10000=((c/10000:Nat):Int) by omega]
theorem carry_ev (l:List Int) (hl:l.length<1000000000) (hb:∀ t:Nat,-1000000000000000≤rd l (t:Int)∧rd l (t:Int)≤1000000000000000) (hv:0≤Dg.val 10000 l):Ev (fun k=>Y1.f k l) (Dg.dg 10000 (Dg.val 10000 l).toNat):=by
 obtain ⟨out,c,h1,h2,h3,h4,h5⟩:=carry_loop l.length hl (Dg.val 10000 l) l.length 0 l 0 (by omega) rfl (fun t ht=>absurd ht (by omega)) hb (by omega) (by omega) ⟨by omega⟩
 have hok:Dg.Ok 10000 out:=ok_of_rd (by rw [h2];exact h3)
 have h5:=h5.out
 have hlt:=Dg.val_lt (by omega) hok
 rw [h2] at hlt
 have hc:0≤c:=by
  rcases (by omega:0≤c∨c≤-1) with h|h
  ·exact h
  ·have:=Int.mul_le_mul_of_nonneg_right h (show (0:Int)≤10000^l.length by have:=Dg.pow_pos (B:=10000) (by omega) l.length;omega)
   omega
 obtain ⟨cn,rfl⟩:=Int.eq_ofNat_of_zero_le hc
 have hcl:=Dg.dg_len_le (B:=10000) (by omega) 4 cn (by omega)
 have h6:=carry1_ev cn out hok (by omega) (by omega)
 rw [h2,h5] at h6
 exact h1 _ h6
theorem alg_mul4 {O V x S Q J y o z:Int} (hv:Aside0 (O=V+x*S*Q)) (hz:z=o+x*y):O+(z-o)*(Q*J)=V+x*(S+J*y)*Q:=by
 have hv:=hv.out
 subst hz
 grind
theorem mul4_inner (b:List Int) (hbo:Dg.Ok 10000 b) (i:Nat) (hi:i<1000000) (x:Int) (hx0:0≤x) (hx1:x<10000) (a:List Int) (al ai:Int) (n:Nat) (hn:n<1000000000) (hin:i+b.length<n) (V:Int):∀ (d j:Nat) (out:List Int),d+j=b.length→out.length=n→(∀ t:Nat,0≤rd out (t:Int)∧rd out (t:Int)≤(i+1)*100000000)→(∀ t:Nat,i+j≤t→rd out (t:Int)≤i*100000000) →
  Aside0 (Dg.val 10000 out=V+x*Dg.val 10000 (b.take j)*10000^i) →
  ∃ out',out'.length=n∧(∀ t:Nat,0≤rd out' (t:Int)∧rd out' (t:Int)≤(i+1)*100000000)∧Aside0 (Dg.val 10000 out'=V+x*Dg.val 10000 b*10000^i) ∧
   ∀ r,Ev (fun k=>Y4.l0 k b out' a al (wrap64 (ai+1))) r→Ev (fun k=>Y4.l1 k b out (i:Int) x a al ai b (b.length:Int) (j:Int)) r:=by
 intro d
 induction d with
 | zero =>
  intro j out hdj hlo hall hhi hv
  obtain rfl:j=b.length:=by omega
  refine ⟨out,hlo,hall,⟨by have:=hv.out;rw [List.take_length] at this;exact this⟩,fun r hr=>Ev.step (fun k=>?_) hr⟩
  simp only [Y4.l1]
  rw [if_neg (by omega)]
 | succ d ih =>
  intro j out hdj hlo hall hhi hv
  have hd:=hbo.rd j (by omega)
  have ho:=hall (i+j)
  have hoh:=hhi (i+j) (Nat.le_refl _)
  have hp:=mul_bd hx0 (show x≤9999 by omega) hd.1 (show rd b (j:Int)≤9999 by omega)
  obtain ⟨z,hz⟩:∃ z:Int,rd out ((i+j:Nat):Int)+x*rd b (j:Int)=z:=⟨_,rfl⟩
  obtain ⟨out',q1,q2,q3,q4⟩:=ih (j+1) (out.set (i+j) z) (by omega) (by rw [List.length_set];exact hlo) (fun t=>by
    rw [rd_set_ _ _ _ _ (by omega)]
    by_cases e:i+j=t
    ·rw [if_pos e];omega
    ·rw [if_neg e];exact hall t) (fun t ht=>by
    rw [rd_set_ _ _ _ _ (by omega),if_neg (by omega)];exact hhi t (by omega)) ⟨by
    rw [Dg.val_set' _ _ _ _ (by omega),val_take_one _ b j (by omega),Int.pow_add]
    exact alg_mul4 hv hz.symm⟩
  refine ⟨out',q1,q2,q3,fun r hr=>Ev.step (fun k=>?_) (q4 r hr)⟩
  simp only [Y4.l1]
  rw [if_pos (by omega),if_pos (by omega),if_pos (by omega),wadd i j (by omega),if_pos (by omega),if_pos (by omega),w64 (n:=x*rd b (j:Int)) (by omega) (by omega),hz,w64 (n:=z) (by omega) (by omega),Int.toNat_natCast,wsucc j (by omega)]
theorem mul4_outer (a b:List Int) (hao:Dg.Ok 10000 a) (hbo:Dg.Ok 10000 b) (hla:a.length<1000000) (hlb:b.length<1000000):∀ (d i:Nat) (out:List Int),d+i=a.length→out.length=a.length+b.length→(∀ t:Nat,0≤rd out (t:Int)∧rd out (t:Int)≤i*100000000) →
  Aside0 (Dg.val 10000 out=Dg.val 10000 (a.take i)*Dg.val 10000 b) →
  Ev (fun k=>Y4.l0 k b out a (a.length:Int) (i:Int)) (Dg.dg 10000 (Dg.val 10000 a*Dg.val 10000 b).toNat):=by
 intro d
 induction d with
 | zero =>
  intro i out hdi hlo hall hv
  obtain rfl:i=a.length:=by omega
  have hc:=carry_ev out (by omega) (fun t=>by have:=hall t;omega) (by rw [hv.out];exact Int.mul_nonneg (Dg.val_nonneg (by omega) (hao.take _)) (Dg.val_nonneg (by omega) hbo))
  rw [hv.out,List.take_length] at hc
  refine Ev.step (f:=fun k=>(Y1.f k out).bind fun t=>some t) (fun k=>?_) (Ev.bind hc (Ev.now _))
  simp only [Y4.l0];rw [if_neg (by omega)]
 | succ d ih =>
  intro i out hdi hlo hall hv
  have hd:=hao.rd i (by omega)
  obtain ⟨out',q1,q2,q3,q4⟩:=mul4_inner b hbo i (by omega) (rd a (i:Int)) hd.1 hd.2 a (a.length:Int) (i:Int) (a.length+b.length) (by omega) (by omega) (Dg.val 10000 out) b.length 0 out (by omega) hlo (fun t=>by have:=hall t;omega) (fun t _=>(hall t).2) ⟨by simp [Dg.val]⟩
  have:=ih (i+1) out' (by omega) q1 (fun t=>by have:=q2 t;omega) ⟨by
   rw [q3.out,hv.out,val_take_one _ a i (by omega)];exact alg_row _ _ _ _⟩
  refine Ev.step (fun k=>?_) (q4 _ (by rw [wsucc i (by omega)];exact this))
  simp only [Y4.l0]
  rw [if_pos (by omega),if_pos (by omega),if_pos (by omega)];rfl
theorem natMul4_ev (m n:Nat) (hm:(Dg.dg 10000 m).length<1000000) (hn:(Dg.dg 10000 n).length<1000000):Ev (fun k=>Y4.f k (Dg.dg 10000 m) (Dg.dg 10000 n)) (Dg.dg 10000 (m*n)):=by
 have:=mul4_outer (Dg.dg 10000 m) (Dg.dg 10000 n) (ok4 m) (ok4 n) hm hn (Dg.dg 10000 m).length 0 (List.replicate ((Dg.dg 10000 m).length+(Dg.dg 10000 n).length) 0) (by omega) (by simp) (fun t=>by rw [rd_zeros];omega) ⟨by rw [Dg.val_zeros,List.take_zero];simp [Dg.val]⟩
 rw [val4,val4,show ((m:Int)*(n:Int)).toNat=m*n by rw [← Int.natCast_mul];rfl] at this
 refine Ev.congr (fun k=>?_) this
 unfold Y4.f
 rw [wadd _ _ (by omega),if_pos (by omega),Int.toNat_natCast,if_pos (by omega)];rfl
theorem alg_add4 {O a r x z o P:Int} (hz:z=o+a*x):O+(z-o)*P+a*r*(P*10000)=O+a*(x+10000*r)*P:=by
 subst hz
 grind
theorem add4_lp (a2:Int) (ha:a2=1∨a2 = -1):∀ (r:List Int) (i:Nat) (o:List Int),Dg.Ok 10000 r→i+r.length≤o.length→o.length<4611686018427387904→(∀ t:Nat,-20000≤rd o (t:Int)∧rd o (t:Int)≤20000)→(∀ t:Nat,i≤t→0≤rd o (t:Int)∧rd o (t:Int)<10000) →
  (Ye.lp a2 r i o).length=o.length∧(∀ t:Nat,-20000≤rd (Ye.lp a2 r i o) (t:Int)∧rd (Ye.lp a2 r i o) (t:Int)≤20000)∧Aside0 (Dg.val 10000 (Ye.lp a2 r i o)=Dg.val 10000 o+a2*Dg.val 10000 r*10000^i)
 | [],i,o,_,_,_,hb,_=>⟨rfl,hb,⟨by rw [Dg.val_nil];simp [Ye.lp]⟩⟩
 | x :: r,i,o,hok,hl,hlo,hb,hhi=>by
  have hx:=hok x (List.mem_cons_self)
  rw [List.length_cons] at hl
  have h1:=hhi i (Nat.le_refl _)
  obtain ⟨z,hz⟩:∃ z:Int,rd o (i:Int)+a2*x=z:=⟨_,rfl⟩
  have hzb:-20000≤z∧z≤20000:=by rcases ha with e|e <;> subst e <;> omega
  have hax:-10000≤a2*x∧a2*x≤10000:=by rcases ha with e|e <;> subst e <;> omega
  obtain ⟨q1,q2,q3⟩:=add4_lp a2 ha r (i+1) (o.set i z) hok.tail (by rw [List.length_set];omega) (by rw [List.length_set];omega) (fun t=>by
    rw [rd_set_ _ _ _ _ (by omega)]
    by_cases e:i=t
    ·rw [if_pos e];exact hzb
    ·rw [if_neg e];exact hb t) (fun t ht=>by
    rw [rd_set_ _ _ _ _ (by omega),if_neg (by omega)];exact hhi t (by omega))
  have e:Ye.lp a2 (x :: r) i o=Ye.lp a2 r (i+1) (o.set i z):=by
   simp only [Ye.lp]
   rw [w64 (n:=a2*x) (by omega) (by omega),hz,w64 (n:=z) (by omega) (by omega)]
  rw [e]
  refine ⟨by rw [q1,List.length_set],q2,⟨?_⟩⟩
  rw [q3.out,Dg.val_set' _ _ _ _ (by omega),Dg.val_cons,Int.pow_succ]
  exact alg_add4 hz.symm
theorem natAdd4_ev (m n:Nat) (a2:Int) (ha:a2=1∨a2 = -1) (hm:(Dg.dg 10000 m).length<1000000) (hn:(Dg.dg 10000 n).length<1000000) (h0:0≤(m:Int)+a2*n):Ev (fun k=>Ye.f k (Dg.dg 10000 m) (Dg.dg 10000 n) a2) (Dg.dg 10000 ((m:Int)+a2*n).toNat):=by
 have hlen:(Dg.dg 10000 m++List.replicate ((Dg.dg 10000 n).length-(Dg.dg 10000 m).length) 0).length=(Dg.dg 10000 m).length+((Dg.dg 10000 n).length-(Dg.dg 10000 m).length):=by simp
 have hval:Dg.val 10000 (Dg.dg 10000 m++List.replicate ((Dg.dg 10000 n).length-(Dg.dg 10000 m).length) 0)=(m:Int):=by rw [Dg.val_append,Dg.val_zeros,val4,Int.mul_zero,Int.add_zero]
 have hok:Dg.Ok 10000 (Dg.dg 10000 m++List.replicate ((Dg.dg 10000 n).length-(Dg.dg 10000 m).length) 0):=(ok4 m).append (Dg.Ok.zeros (by omega) _)
 have hrd:∀ t:Nat,0≤rd (Dg.dg 10000 m++List.replicate ((Dg.dg 10000 n).length-(Dg.dg 10000 m).length) 0) (t:Int)∧rd (Dg.dg 10000 m++List.replicate ((Dg.dg 10000 n).length-(Dg.dg 10000 m).length) 0) (t:Int)<10000:=fun t=>by
  rcases Nat.lt_or_ge t (Dg.dg 10000 m++List.replicate ((Dg.dg 10000 n).length-(Dg.dg 10000 m).length) 0).length with h|h
  ·exact hok.rd t h
  ·rw [rd_beyond _ _ h];omega
 obtain ⟨q1,q2,q3⟩:=add4_lp a2 ha (Dg.dg 10000 n) 0 _ (ok4 n) (by rw [hlen];omega) (by rw [hlen];omega) (fun t=>by have:=hrd t;omega) (fun t _=>hrd t)
 have q3:=q3.out
 rw [hval,val4,Int.pow_zero,Int.mul_one] at q3
 have hc:=carry_ev _ (by rw [q1,hlen];omega) (fun t=>by have:=q2 t;omega) (by rw [q3];exact h0)
 rw [q3] at hc
 refine Ev.congr (fun k=>?_) hc
 unfold Ye.f
 rw [if_pos ⟨by omega,by omega⟩]
theorem clone4 (l:List Int) (h:l.length<10000000):YD.f l=some l:=by unfold YD.f;rw [if_pos (by omega)]
theorem len4_mul (m n:Nat):(Dg.dg 10000 (m*n)).length≤(Dg.dg 10000 m).length+(Dg.dg 10000 n).length:=by
 refine Dg.dg_len_le (B:=10000) (by omega) _ _ ?_
 rw [Nat.pow_add]
 exact Nat.mul_lt_mul_of_lt_of_le (Dg.lt_dg (B:=10000) (by omega) m) (by have:=Dg.lt_dg (B:=10000) (by omega) n;omega) (by have:=Dg.lt_dg (B:=10000) (by omega) n;omega)
theorem bs_ev (b r:Nat) (hb:b≠0) (hbl:(Dg.dg 10000 b).length<500000) (hrl:(Dg.dg 10000 r).length<500000):∀ (m lo hi:Nat),hi-lo<m→lo≤hi→hi≤9999→lo*b≤r→r<(hi+1)*b→Ev (fun k=>Y3.bs k (Dg.dg 10000 b) (Dg.dg 10000 r) m (lo:Int) (hi:Int)) ((r/b:Nat):Int):=by
 intro m
 induction m with
 | zero=>intro lo hi h;omega
 | succ m ih =>
  intro lo hi hm hle hhi h1 h2
  by_cases hlt:lo<hi
  ·obtain ⟨md,hmd⟩:∃ md:Nat,(lo+hi+1)/2=md:=⟨_,rfl⟩
   have hmdI:((lo:Int)+(hi:Int)+1)/2=(md:Int):=by omega
   have hof:=natOf4_ev md (by omega)
   have hmul:=natMul4_ev b md (by omega) (by have:=Dg.dg_len_le (B:=10000) (by omega) 1 md (by omega);omega)
   have hml:=len4_mul b md
   have hmd1:=Dg.dg_len_le (B:=10000) (by omega) 1 md (by omega)
   obtain ⟨c,hc,hs1,hs2⟩:=natCmp4_ev (b*md) r (by omega) (by omega)
   have hgo:Ev (fun k=>if c≤0 then Y3.bs k (Dg.dg 10000 b) (Dg.dg 10000 r) m (md:Int) (hi:Int) else Y3.bs k (Dg.dg 10000 b) (Dg.dg 10000 r) m (lo:Int) ((md:Int)-1)) ((r/b:Nat):Int):=by
    by_cases hc0:c≤0
    ·refine Ev.congr (fun k=>if_pos hc0) (ih md hi (by omega) (by omega) hhi ?_ h2)
     rw [Nat.mul_comm];omega
    ·have h3:r<md*b:=by rw [Nat.mul_comm];omega
     have:=ih lo (md-1) (by omega) (by omega) (by omega) h1 (by rw [show md-1+1=md by omega];exact h3)
     rw [show ((md-1:Nat):Int)=(md:Int)-1 by omega] at this
     exact Ev.congr (fun k=>if_neg hc0) this
   refine Ev.congr (f:=fun k=>(Ya.f k (md:Int)).bind fun t=>(Y4.f k (Dg.dg 10000 b) t).bind fun p=>(Y7.f k p (Dg.dg 10000 r)).bind fun c=>if c≤0 then Y3.bs k (Dg.dg 10000 b) (Dg.dg 10000 r) m (md:Int) (hi:Int) else Y3.bs k (Dg.dg 10000 b) (Dg.dg 10000 r) m (lo:Int) ((md:Int)-1)) (fun k=>?_) (Ev.bind hof (Ev.bind hmul (Ev.bind hc hgo)))
   simp only [Y3.bs]
   rw [if_pos (by omega),hmdI]
  ·have e:lo=hi:=by omega
   subst e
   have hq:r/b=lo:=by
    rw [Nat.div_eq_iff (by omega)]
    rw [Nat.add_mul,Nat.one_mul] at h2
    omega
   rw [hq]
   refine Ev.congr (f:=fun _=>some (lo:Int)) (fun k=>?_) (Ev.now _)
   simp only [Y3.bs]
   rw [if_neg (by omega)]
theorem alg_lp4 {r P T x b qi Q r1 r2 V q:Int} (h1:r1*P+T=Q*b+r2) (h2:x+10000*r=qi*b+r1):r*(P*10000)+(T+P*x)=(Q+P*qi)*b+r2:=by grind
theorem alg_lp4r {P Q u z:Int}:Q+P*(u+10000*z)=Q+P*u+P*10000*z:=by grind
theorem lp4_ev (a b:Nat) (hb:b≠0) (hal:(Dg.dg 10000 a).length<400000) (hbl:(Dg.dg 10000 b).length<400000):∀ (i r:Nat) (q:List Int),i≤(Dg.dg 10000 a).length→r<b→Dg.Ok 10000 q→i+q.length<1000000 →
  ∃ (q':List Int) (r':Nat) (Q:Int),Ev (fun k=>Y3.lp k (Dg.dg 10000 a) (Dg.dg 10000 b) i (Dg.dg 10000 r) q) (q',Dg.dg 10000 r')∧r'<b∧Dg.Ok 10000 q'∧q'.length=i+q.length∧Aside0 (Dg.val 10000 q'=Q+10000^i*Dg.val 10000 q)∧Aside0 ((r:Int)*10000^i+Dg.val 10000 ((Dg.dg 10000 a).take i)=Q*b+r'):=by
 intro i
 induction i with
 | zero =>
  intro r q _ hr hq _
  refine ⟨q,r,0,Ev.congr (f:=fun _=>some (q,Dg.dg 10000 r)) (fun k=>by simp only [Y3.lp]) (Ev.now _),hr,hq,by omega,⟨?_⟩,⟨?_⟩⟩
  ·simp
  ·rw [List.take_zero,Dg.val_nil];simp
 | succ i ih =>
  intro r q hi hr hq hql
  have hx:=(ok4 a).rd i (by omega)
  obtain ⟨x,hxe⟩:∃ x:Nat,rd (Dg.dg 10000 a) (i:Int)=(x:Int):=⟨_,(Int.toNat_of_nonneg hx.1).symm⟩
  rw [hxe] at hx
  have hrl:=len4_mono (show r≤b by omega)
  have hcl:=clone4 (Dg.dg 10000 r) (by omega)
  have hok1:Dg.Ok 10000 ((x:Int) :: Dg.dg 10000 r):=(ok4 r).cons (by omega) (by omega)
  have htd:=tidy_ev _ _ rfl hok1 (by rw [List.length_cons];omega)
  rw [Dg.val_cons,val4,show ((x:Int)+10000*(r:Int)).toNat=x+10000*r by omega] at htd
  obtain ⟨R,hR⟩:∃ R:Nat,x+10000*r=R:=⟨_,rfl⟩
  rw [hR] at htd
  have hRlt:R<10000*b:=by omega
  have hRl:(Dg.dg 10000 R).length<500000:=by
   have h1:=len4_mono (show R≤10000*b by omega)
   have h2:=len4_mul 10000 b
   have h3:=Dg.dg_len_le (B:=10000) (by omega) 2 10000 (by omega)
   omega
  have hlow:=bs_ev b R hb (by omega) hRl 10000 0 9999 (by omega) (by omega) (by omega) (by omega) (by omega)
  have hqb:R/b<10000:=by rw [Nat.div_lt_iff_lt_mul (by omega)];exact hRlt
  have hdm:=Nat.div_add_mod R b
  have hm:=Nat.mod_lt R (show b > 0 by omega)
  obtain ⟨q',r',Q,hev,g1,g2,g3,g4,g5⟩:=ih (R%b) (((R/b:Nat):Int) :: q) (by omega) hm (hq.cons (Int.natCast_nonneg _) (by have:=Int.ofNat_lt.2 hqb;exact this)) (by rw [List.length_cons];omega)
  refine ⟨q',r',Q+10000^i*((R/b:Nat):Int),?_,g1,g2,by rw [g3,List.length_cons];omega,⟨?_⟩,⟨?_⟩⟩
  ·refine Ev.congr (f:=fun k=>(some (Dg.dg 10000 r)).bind fun r'=>(Y2.f k ((x:Int) :: r')).bind fun r1=>(Y3.bs k (Dg.dg 10000 b) r1 10000 0 9999).bind fun low=>if low > 0 then (Ya.f k low).bind fun t=>(Y4.f k (Dg.dg 10000 b) t).bind fun p=>(Ye.f k r1 p (-1)).bind fun r2=>Y3.lp k (Dg.dg 10000 a) (Dg.dg 10000 b) i r2 (low :: q) else Y3.lp k (Dg.dg 10000 a) (Dg.dg 10000 b) i r1 (low :: q)) (fun k=>by simp only [Y3.lp];rw [hcl,hxe]) ?_
   refine Ev.bind (Ev.now (Dg.dg 10000 r)) (Ev.bind htd (Ev.bind hlow ?_))
   by_cases hl0:R/b=0
   ·rw [hl0]
    refine Ev.congr (fun k=>if_neg (by omega)) ?_
    have hRm:R%b=R:=by rw [hl0,Nat.mul_zero,Nat.zero_add] at hdm;exact hdm
    rw [hRm,hl0] at hev
    exact hev
   ·have hof:=natOf4_ev (R/b) (by omega)
    have hql1:=Dg.dg_len_le (B:=10000) (by omega) 1 (R/b) (by omega)
    have hmul:=natMul4_ev b (R/b) (by omega) (by omega)
    have hml:=len4_mul b (R/b)
    have hadd:=natAdd4_ev R (b*(R/b)) (-1) (.inr rfl) (by omega) (by omega) (by omega)
    rw [show ((R:Int) + -1*((b*(R/b):Nat):Int)).toNat=R%b by omega] at hadd
    exact Ev.congr (fun k=>if_pos (by have:=Int.ofNat_lt.2 (Nat.pos_of_ne_zero hl0);exact this)) (Ev.bind hof (Ev.bind hmul (Ev.bind hadd hev)))
  ·rw [g4.out,Dg.val_cons,Int.pow_succ]
   exact alg_lp4r
  ·rw [val_take_one _ _ i (by omega),hxe,Int.pow_succ]
   refine alg_lp4 (V:=0) (q:=0) g5.out ?_
   have h2:((b*(R/b)+R%b:Nat):Int)=(R:Int):=by rw [hdm]
   rw [Int.natCast_add,Int.natCast_mul,Int.mul_comm] at h2
   omega
theorem val_drop4 (a m:Nat) (hm:m≤(Dg.dg 10000 a).length):∃ v:Nat,Dg.val 10000 ((Dg.dg 10000 a).drop m)=(v:Int)∧v<10000^((Dg.dg 10000 a).length-m):=by
 have h0:=Dg.val_nonneg (by omega) ((ok4 a).drop m)
 have h1:=Dg.val_lt (by omega) ((ok4 a).drop m)
 rw [List.length_drop] at h1
 obtain ⟨v,hv⟩:=Int.eq_ofNat_of_zero_le h0
 rw [hv] at h1
 refine ⟨v,hv,?_⟩
 have:=h1
 rw [show (10000:Int)^((Dg.dg 10000 a).length-m)=((10000^((Dg.dg 10000 a).length-m):Nat):Int) by rw [Int.natCast_pow];rfl] at this
 exact Int.ofNat_lt.1 this
theorem natDiv4_ev (a b:Nat) (hb:b≠0) (hal:(Dg.dg 10000 a).length<400000) (hbl:(Dg.dg 10000 b).length<400000):Ev (fun k=>Y3.f k (Dg.dg 10000 a) (Dg.dg 10000 b)) (Dg.dg 10000 (a/b),Dg.dg 10000 (a%b)):=by
 obtain ⟨c,hc,hs1,hs2⟩:=natCmp4_ev a b (by omega) (by omega)
 unfold Y3.f
 refine Ev.congr (fun k=>if_pos ⟨by omega,by omega⟩) (Ev.bind hc ?_)
 by_cases hlt:a<b
 ·rw [Nat.div_eq_of_lt hlt,Nat.mod_eq_of_lt hlt,Dg.dg_zero]
  exact Ev.congr (f:=fun _=>some ([],Dg.dg 10000 a)) (fun k=>if_pos (by omega)) (Ev.now _)
 have hbl0:(Dg.dg 10000 b).length≠0:=fun e=>hb (len4.1 e)
 have hlab:=len4_mono (show b≤a by omega)
 obtain ⟨m,hm⟩:∃ m,(Dg.dg 10000 a).length-(Dg.dg 10000 b).length+1=m:=⟨_,rfl⟩
 obtain ⟨v,hv,hvlt⟩:=val_drop4 a m (by omega)
 have hble:=Dg.dg_le (B:=10000) (by omega) hb
 have hvb:v<b:=by
  rw [show (Dg.dg 10000 a).length-m=(Dg.dg 10000 b).length-1 by omega] at hvlt
  omega
 have htd:=tidy_ev _ ((Dg.dg 10000 a).drop m) rfl ((ok4 a).drop m) (by rw [List.length_drop];omega)
 rw [hv,Int.toNat_natCast] at htd
 obtain ⟨q',r',Q,hev,g1,g2,g3,g4,g5⟩:=lp4_ev a b hb hal hbl m v [] (by omega) hvb (Dg.Ok.nil _) (by rw [List.length_nil];omega)
 have g4:=g4.out
 have g5:=g5.out
 rw [Dg.val_nil,Int.mul_zero,Int.add_zero] at g4
 have hsplit:=Dg.val_split 10000 (Dg.dg 10000 a) m (by omega)
 rw [val4,hv] at hsplit
 have hA:(a:Int)=Q*b+r':=by rw [hsplit,← g5,Int.mul_comm (v:Int)];omega
 obtain ⟨e1,e2⟩:=divmod_unique hA (by omega) (by omega)
 have hQ:Q=((a/b:Nat):Int):=by rw [← e1,Int.natCast_ediv]
 have hr:r'=a%b:=by rw [← Int.natCast_emod] at e2;omega
 have htq:=tidy_ev _ q' rfl g2 (by rw [g3];simp;omega)
 rw [g4,hQ,Int.toNat_natCast] at htq
 rw [hr] at hev
 clear hsplit hA e1 e2 hvlt hble g5
 refine Ev.congr (f:=fun k=>(some ((Dg.dg 10000 a).drop m)).bind fun r'=>(Y2.f k r').bind fun r0=>(Y3.lp k (Dg.dg 10000 a) (Dg.dg 10000 b) m r0 []).bind fun z=>(Y2.f k z.1).bind fun q=>some (q,z.2)) (fun k=>?_) (Ev.bind (Ev.now ((Dg.dg 10000 a).drop m)) (Ev.bind htd (Ev.bind hev (Ev.bind htq (Ev.now _)))))
 rw [if_neg (by omega),if_pos ⟨by omega,by omega⟩,hm,clone4 _ (by rw [List.length_drop];omega)]
theorem gcd4_loop (n:Nat):∀ m:Nat,(Dg.dg 10000 m).length<400000→(Dg.dg 10000 n).length<400000→Ev (fun k=>Yr.l0 k (Dg.dg 10000 m) (Dg.dg 10000 n)) (Dg.dg 10000 (Nat.gcd m n)):=by
 induction n using Nat.strongRecOn with
 | ind n ih =>
  intro m hm hn
  by_cases h0:n=0
  ·subst h0
   rw [Nat.gcd_zero_right,Dg.dg_zero]
   refine Ev.step (fun k=>?_) (Ev.now (Dg.dg 10000 m))
   simp only [Yr.l0]
   exact if_neg (by simp)
  ·have hr:=ih (m%n) (Nat.mod_lt _ (by omega)) n hn (by have:=len4_mono (Nat.le_of_lt (Nat.mod_lt m (show n > 0 by omega)));omega)
   rw [show Nat.gcd m n=Nat.gcd n (m%n) by rw [Nat.gcd_comm m n,Nat.gcd_rec n m,Nat.gcd_comm]]
   have hl:(Dg.dg 10000 n).length≠0:=fun e=>h0 (len4.1 e)
   refine Ev.step (f:=fun k=>(Y3.f k (Dg.dg 10000 m) (Dg.dg 10000 n)).bind fun bt362=>Yr.l0 k (Dg.dg 10000 n) bt362.2) (fun k=>?_) (Ev.bind (natDiv4_ev m n h0 hm hn) hr)
   simp only [Yr.l0]
   exact if_pos (by omega)
theorem natGCD4_ev (m n:Nat) (hm:(Dg.dg 10000 m).length<400000) (hn:(Dg.dg 10000 n).length<400000):Ev (fun k=>Yr.f k (Dg.dg 10000 m) (Dg.dg 10000 n)) (Dg.dg 10000 (Nat.gcd m n)):=gcd4_loop n m hm hn
def isDig (c:UInt8):Bool:=decide (48≤c.toNat∧c.toNat≤57)
def numFrom (a:Nat) (l:List UInt8):Nat:=l.foldl (fun a c=>a*10+(c.toNat-48)) a
theorem numFrom_nil (a:Nat):numFrom a []=a:=rfl
theorem numFrom_cons (a:Nat) (c:UInt8) (l:List UInt8):numFrom a (c :: l)=numFrom (a*10+(c.toNat-48)) l:=by unfold numFrom;rw [List.foldl_cons]
theorem numFrom_append (l r:List UInt8) (a:Nat):numFrom a (l++r)=numFrom (numFrom a l) r:=List.foldl_append
theorem alg_num {a d P x:Nat}:(a*10+d)*P+x=a*(P*10)+(d*P+x):=by rw [Nat.add_mul,Nat.mul_assoc,Nat.mul_comm 10 P,Nat.add_assoc]
theorem numFrom_eq:∀ (l:List UInt8) (a:Nat),numFrom a l=a*10^l.length+numFrom 0 l
 | [],a=>by rw [numFrom_nil,numFrom_nil,List.length_nil,Nat.pow_zero];omega
 | c :: l,a=>by
  have h1:=numFrom_eq l (a*10+(c.toNat-48))
  have h2:=numFrom_eq l (0*10+(c.toNat-48))
  rw [numFrom_cons,numFrom_cons,h1,h2,List.length_cons,Nat.pow_succ,Nat.zero_mul,Nat.zero_add]
  exact alg_num
theorem numFrom_lt:∀ (l:List UInt8) (_:l.all isDig=true),numFrom 0 l<10^l.length
 | [],_=>by rw [numFrom_nil,List.length_nil,Nat.pow_zero];omega
 | c :: l,h=>by
  rw [List.all_cons,Bool.and_eq_true] at h
  have h1:=numFrom_lt l h.2
  have hc:48≤c.toNat∧c.toNat≤57:=of_decide_eq_true h.1
  rw [numFrom_cons,numFrom_eq,List.length_cons,Nat.pow_succ]
  have h3:(0*10+(c.toNat-48))*10^l.length≤9*10^l.length:=Nat.mul_le_mul_right _ (by omega)
  omega
theorem le_numFrom (l:List UInt8) (a:Nat):a≤numFrom a l:=by
 rw [numFrom_eq]
 have:=Nat.le_mul_of_pos_right a (Nat.pow_pos (n:=l.length) (show 0<10 by omega))
 omega
theorem parseM (M:Nat) (hM:M<18446744073709551616):∀ (l:List UInt8) (a:Nat),l.all isDig=true→numFrom a l≤M→Lib.parseUintM M a l = .ok (numFrom a l)
 | [],a,_,_=>rfl
 | c :: l,a,h,h2=>by
  rw [List.all_cons,Bool.and_eq_true] at h
  have hc:48≤c.toNat∧c.toNat≤57:=of_decide_eq_true h.1
  have h3:=le_numFrom l (a*10+(c.toNat-48))
  rw [numFrom_cons] at h2 ⊢
  rw [Lib.parseUintM]
  rw [if_pos hc,if_neg (by omega),if_neg (by omega)]
  exact parseM M hM l _ h.2 h2
theorem decFrom_num:∀ (l:List UInt8) (a:Nat),l.all isDig=true→Lib.decFrom a l=some (numFrom a l)
 | [],a,_=>rfl
 | c :: l,a,h=>by
  rw [List.all_cons,Bool.and_eq_true] at h
  have hc:48≤c.toNat∧c.toNat≤57:=of_decide_eq_true h.1
  rw [Lib.decFrom,Lib.digitVal,if_pos hc]
  exact decFrom_num l _ h.2
theorem atoi_num (l:List UInt8) (h:l.all isDig=true) (h0:l≠[]):Lib.atoi l=some (numFrom 0 l:Int):=by
 cases l with
 | nil=>exact absurd rfl h0
 | cons c l =>
  have h':=h
  rw [List.all_cons,Bool.and_eq_true] at h
  have hc:48≤c.toNat∧c.toNat≤57:=of_decide_eq_true h.1
  have e1:(c==45)=false:=by
   rw [beq_eq_false_iff_ne];intro e;subst e;exact absurd hc.1 (by decide)
  have e2:(c==43)=false:=by
   rw [beq_eq_false_iff_ne];intro e;subst e;exact absurd hc.1 (by decide)
  simp only [Lib.atoi,e1,e2,Lib.decNat,List.isEmpty_cons]
  rw [if_neg (by decide),if_neg (by decide),if_neg (by decide),decFrom_num _ _ h']
  rfl
theorem ba_len (a:ByteArray):a.data.toList.length=a.size:=Array.length_toList
theorem ba_loop (a:ByteArray):∀ (d i:Nat) (r:List UInt8),d=a.size-i→i≤a.size→ByteArray.toList.loop a i r=r.reverse++a.data.toList.drop i:=by
 intro d
 induction d with
 | zero =>
  intro i r hd hi
  rw [ByteArray.toList.loop,if_neg (by omega),List.drop_eq_nil_of_le (by rw [ba_len];omega),List.append_nil]
 | succ d ih =>
  intro i r hd hi
  have hlt:i<a.size:=by omega
  rw [ByteArray.toList.loop,if_pos hlt,ih (i+1) _ (by omega) (by omega)]
  have hl:i<a.data.toList.length:=by rw [ba_len];exact hlt
  have hg:a.get! i=a.data.toList[i]'hl:=by
   have h1:i<a.data.size:=hlt
   show a.data[i]! = _
   rw [getElem!_pos a.data i h1];simp
  rw [List.reverse_cons,List.append_assoc,List.singleton_append,hg,← List.drop_eq_getElem_cons hl]
theorem ba_toList (a:ByteArray):a.toList=a.data.toList:=by
 have:=ba_loop a (a.size-0) 0 [] rfl (Nat.zero_le _)
 simpa [ByteArray.toList] using this
theorem ba_nil (a:ByteArray):a.toList=([]:List UInt8)↔a.data.toList=[]:=by rw [ba_toList]
theorem dig_mem (c:UInt8):([48,49,50,51,52,53,54,55,56,57]:List UInt8).contains c=isDig c:=by
 have h:∀ n:Fin 256,([48,49,50,51,52,53,54,55,56,57]:List UInt8).contains (UInt8.ofNat n.val)=isDig (UInt8.ofNat n.val):=by decide +kernel
 have h1:=h ⟨c.toNat,c.toNat_lt⟩
 rwa [UInt8.ofNat_toNat] at h1
theorem dropWhile_nil {α:Type} (p:α→Bool):∀ l:List α,l.dropWhile p=[]↔l.all p=true
 | []=>by simp
 | a :: l=>by
  rw [List.all_cons,Bool.and_eq_true]
  cases h:p a with
  | true=>rw [List.dropWhile_cons_of_pos h,dropWhile_nil p l];simp
  | false=>rw [List.dropWhile_cons_of_neg (by simp [h])];simp
theorem all_of_dropWhile {α:Type} (p:α→Bool):∀ l:List α,(l.dropWhile p).all p=true→l.all p=true
 | [],h=>h
 | a :: l,h=>by
  cases ha:p a with
  | true =>
   rw [List.dropWhile_cons_of_pos ha] at h
   rw [List.all_cons,ha,all_of_dropWhile p l h];rfl
  | false =>
   rw [List.dropWhile_cons_of_neg (by simp [ha])] at h
   exact h
theorem trim_nil (l:List UInt8):Lib.trimS l [48,49,50,51,52,53,54,55,56,57]=[]↔l.all isDig=true:=by
 have hf:((fun c=>([48,49,50,51,52,53,54,55,56,57]:List UInt8).contains c):UInt8→Bool)=isDig:=funext dig_mem
 unfold Lib.trimS Lib.trimLeftS Lib.trimRightS
 rw [hf,dropWhile_nil]
 constructor
 ·intro h
  rw [List.all_reverse] at h
  have:=all_of_dropWhile isDig l.reverse h
  rwa [List.all_reverse] at this
 ·intro h
  have:l.reverse.dropWhile isDig=[]:=(dropWhile_nil _ _).2 (by rw [List.all_reverse];exact h)
  rw [this];rfl
def isNum (l:List UInt8):Bool:=!l.isEmpty&&l.all isDig&&(l.head? != some 48 || l==[48])
theorem bt_zero (a:ByteArray) (c:UInt8) (l:List UInt8) (h:a.data.toList=c :: l):bt a 0=(c.toNat:Int):=by
 have h1:0<a.size:=by rw [← ba_len,h,List.length_cons];omega
 unfold bt
 rw [dif_pos (show (0:Int).toNat<a.size from h1)]
 have h2:a.data.toList[0]? = some c:=by rw [h];rfl
 have h3:a[(0:Int).toNat]'h1=c:=by
  rw [Array.getElem?_toList] at h2
  obtain ⟨h4,h5⟩:=Array.getElem?_eq_some_iff.1 h2
  exact h5
 rw [h3]
theorem digits_eq (a:ByteArray) (h:a.size≤9223372036854775807):YN.f a=some (isNum a.data.toList):=by
 unfold YN.f isNum
 rw [ba_toList]
 cases hl:a.data.toList with
 | nil=>rfl
 | cons c l =>
  have h1:0<a.size:=by rw [← ba_len,hl,List.length_cons];omega
  rw [if_neg (by simp),YU.f,if_pos ⟨h,by decide +kernel,by decide +kernel⟩]
  simp only [Option.bind_some]
  rw [ba_toList,hl]
  show (if Lib.trimS (c :: l) [48,49,50,51,52,53,54,55,56,57]=[] then _ else _)=_
  by_cases hd:(c :: l).all isDig=true
  ·rw [if_pos ((trim_nil _).2 hd),if_pos (by omega),hd,bt_zero a c l hl]
   by_cases h48:c=48
   ·subst h48
    rw [if_pos (by decide)]
    simp
   ·have:¬ ((c.toNat:Int)=48):=by
     intro e
     apply h48
     have:c.toNat=48:=by omega
     exact UInt8.toNat_inj.1 this
    rw [if_neg this]
    simp [h48]
  ·rw [if_neg (fun e=>hd ((trim_nil _).1 e))]
   simp only [Bool.not_eq_true] at hd
   rw [hd];simp
theorem extract_list (a:ByteArray) (i j:Nat):(a.extract i j).data.toList=(a.data.toList.drop i).take (j-i):=by
 rw [ByteArray.data_extract,Array.toList_extract]
theorem num_chunk (l:List UInt8) (i j:Nat) (hi:i≤j) (hj:j≤l.length):numFrom 0 (l.drop i)=numFrom 0 ((l.drop i).take (j-i))*10^(l.length-j)+numFrom 0 (l.drop j):=by
 have h1:(l.drop i).drop (j-i)=l.drop j:=by rw [List.drop_drop,show i+(j-i)=j by omega]
 have h2:=numFrom_append ((l.drop i).take (j-i)) ((l.drop i).drop (j-i)) 0
 rw [List.take_append_drop] at h2
 rw [h2,h1,numFrom_eq,List.length_drop]
theorem all_seg {l:List UInt8} (h:l.all isDig=true) (i n:Nat):((l.drop i).take n).all isDig=true:=by
 rw [List.all_eq_true] at h ⊢
 exact fun x hx=>h x (List.mem_of_mem_drop (List.mem_of_mem_take hx))
theorem seg_lt {l:List UInt8} (h:l.all isDig=true) (i n w:Nat) (hn:n≤w):numFrom 0 ((l.drop i).take n)<10^w:=by
 have h1:=numFrom_lt _ (all_seg h i n)
 have h2:((l.drop i).take n).length≤w:=by rw [List.length_take];omega
 exact Nat.lt_of_lt_of_le h1 (Nat.pow_le_pow_right (by omega) h2)
theorem parse_end (s:ByteArray) (acc:List Int) (x:Int) (hx:x≤0) (ho:Dg.Ok 1000000000 acc) (hl:acc.length<1000000000000):Ev (fun k=>Yo.l0 k s acc x) (Dg.dg 1000000000 (Dg.val 1000000000 acc).toNat):=by
 refine Ev.step (f:=fun k=>(Yf.f k acc).bind fun t277=>some t277) (fun k=>?_) (Ev.bind (trim_ev _ acc rfl ho hl) (Ev.now _))
 simp only [Yo.l0]
 exact if_neg (by omega)
theorem alg_parse {v B c n P:Int} (h:P=B):v+B*c=c*P+v:=by rw [h];grind
theorem parse_loop (s:ByteArray) (hd:s.data.toList.all isDig=true) (hs:s.size<1000000):∀ (e:Nat) (acc:List Int),e≤s.size→s.size-e=9*acc.length→Dg.Ok 1000000000 acc→Aside0 (Dg.val 1000000000 acc=(numFrom 0 (s.data.toList.drop e):Int))→Ev (fun k=>Yo.l0 k s acc (e:Int)) (Dg.dg 1000000000 (numFrom 0 s.data.toList)):=by
 intro e
 induction e using Nat.strongRecOn with
 | ind e ih =>
  intro acc he hl ho hv
  by_cases h0:e=0
  ·subst h0
   have h1:=parse_end s acc ((0:Nat):Int) (by omega) ho (by omega)
   rw [hv.out,List.drop_zero,Int.toNat_natCast] at h1
   exact h1
  ·obtain ⟨lo,hlo⟩:∃ lo:Nat,e-9=lo:=⟨_,rfl⟩
   have hw:wrap64 ((e:Int)-9)=(e:Int)-9:=w64 (by omega) (by omega)
   have hm:mx ((e:Int)-9) 0=(lo:Int):=by rw [Num.mx_eq];omega
   have hlen:=ba_len s
   obtain ⟨c,hc⟩:∃ c,numFrom 0 ((s.data.toList.drop lo).take (e-lo))=c:=⟨_,rfl⟩
   have hclt:c<1000000000:=by rw [← hc];exact seg_lt hd lo (e-lo) 9 (by omega)
   have hP:YP.f (s.extract lo e) 10 32=some ((c:Int),none):=by
    unfold YP.f
    have hsz:(s.extract lo e).size≤9223372036854775806:=by rw [ByteArray.size_extract];omega
    have hne:(s.extract lo e).data.toList≠[]:=by
     intro hh
     have:=congrArg List.length hh
     rw [ba_len,ByteArray.size_extract,List.length_nil] at this
     omega
    rw [if_pos ⟨hsz,rfl,rfl⟩,Lib.parseUintB,if_neg hne,extract_list,parseM _ (by decide) _ _ (all_seg hd _ _) (by rw [hc];omega),hc]
   have ho':Dg.Ok 1000000000 (acc++[(c:Int)]):=ho.append ((Dg.Ok.nil _).cons (by omega) (by omega))
   have hv':Aside0 (Dg.val 1000000000 (acc++[(c:Int)])=(numFrom 0 (s.data.toList.drop lo):Int)):=by
    constructor
    rw [Dg.val_snoc,hv.out,num_chunk _ lo e (by omega) (by omega),hc,hlen,hl,Nat.pow_mul,Int.natCast_add,Int.natCast_mul,Int.natCast_pow]
    exact alg_parse (n:=0) rfl
   have hnext:Ev (fun k=>Yo.l0 k s (acc++[(c:Int)]) ((e:Int)-9)) (Dg.dg 1000000000 (numFrom 0 s.data.toList)):=by
    by_cases h9:9≤e
    ·have:=ih lo (by omega) (acc++[(c:Int)]) (by omega) (by rw [List.length_append,List.length_singleton];omega) ho' hv'
     rw [show (lo:Int)=(e:Int)-9 by omega] at this
     exact this
    ·have h1:=parse_end s (acc++[(c:Int)]) ((e:Int)-9) (by omega) ho' (by rw [List.length_append,List.length_singleton];omega)
     rw [hv'.out,show lo=0 by omega,List.drop_zero,Int.toNat_natCast] at h1
     exact h1
   refine Ev.step (fun k=>?_) hnext
   simp only [Yo.l0]
   rw [if_pos (by omega),hw,hm,if_pos (by omega),if_pos (by omega),if_pos (by omega)]
   rw [show ((lo:Int)).toNat=lo by omega,show ((e:Int)).toNat=e by omega,hP]
   simp only [Option.bind_some]
   rw [if_pos (by omega),Int.emod_eq_of_lt (by omega) (by omega)]
theorem parse_ev (s:ByteArray) (hd:s.data.toList.all isDig=true) (hs:s.size<1000000):Ev (fun k=>Yo.f k s) (Dg.dg 1000000000 (numFrom 0 s.data.toList)):=by
 unfold Yo.f
 refine parse_loop s hd hs s.size [] (Nat.le_refl _) (by simp) (Dg.Ok.nil _) ⟨?_⟩
 rw [List.drop_eq_nil_of_le (by rw [ba_len];omega),Dg.val_nil,numFrom_nil];rfl
theorem cut_ex (a:ByteArray):∃ s neg,YB.f a (⟨#[45]⟩:ByteArray)=some (s,neg)∧s.size≤a.size:=by
 have h1:(⟨#[45]⟩:ByteArray).size=1:=rfl
 unfold YB.f YL.f YI.f
 rw [h1]
 by_cases h:((a.size:Int)≥((1:Nat):Int))
 ·rw [if_pos h,if_pos (by omega),if_pos h]
  simp only [Option.bind_some]
  cases hb:((a.extract 0 (((1:Nat):Int)).toNat).toList==(⟨#[45]⟩:ByteArray).toList) with
  | true =>
   rw [if_pos rfl,if_pos (by omega),if_pos h]
   exact ⟨_,_,rfl,by rw [ByteArray.size_extract];omega⟩
  | false=>exact ⟨a,false,by rw [if_neg (by decide)];rfl,Nat.le_refl _⟩
 ·rw [if_neg h]
  simp only [Option.bind_some]
  exact ⟨a,false,by rw [if_neg (by decide)];rfl,Nat.le_refl _⟩
theorem isNum_dig {l:List UInt8} (h:isNum l=true):l.all isDig=true:=by
 unfold isNum at h
 simp only [Bool.and_eq_true] at h
 exact h.1.2
theorem num_len (B:Nat) (hB:10≤B) (l:List UInt8) (h:l.all isDig=true):(Dg.dg B (numFrom 0 l)).length≤l.length:=by
 refine Dg.dg_len_le (by omega) _ _ ?_
 exact Nat.lt_of_lt_of_le (numFrom_lt l h) (Nat.pow_le_pow_left hB _)
def fault (s:List UInt8) (neg:Bool) (d:List UInt8):Int :=
 if isNum s=true∧isNum d=true∧d≠[48] then
  (if s=[48] then (if neg=true then 3 else if d=[49] then 0 else 3) else if d=[49] then 0 else if Nat.gcd (numFrom 0 s) (numFrom 0 d)=1 then 0 else 3)
 else 3
theorem check_bad (s d n:ByteArray) (neg:Bool):Ev (fun k=>Y6.j0 k s neg true n d) 3:=by
 refine Ev.step (f:=fun _=>some 3) (fun k=>?_) (Ev.now _)
 simp only [Y6.j0]
 exact if_pos trivial
theorem check_good (s d n:ByteArray) (neg:Bool) (hs:s.data.toList.all isDig=true) (hd:d.data.toList.all isDig=true) (h1:s.size<100000) (h2:d.size<100000):Ev (fun k=>Y6.j0 k s neg false n d)
  (if s.data.toList=[48] then (if neg=true then 3 else if d.data.toList=[49] then 0 else 3) else if d.data.toList=[49] then 0 else if Nat.gcd (numFrom 0 s.data.toList) (numFrom 0 d.data.toList)=1 then 0 else 3):=by
 have l1:=num_len 1000000000 (by omega) _ hs
 have l2:=num_len 1000000000 (by omega) _ hd
 rw [ba_len] at l1 l2
 have hg:=natGcd_ev (numFrom 0 s.data.toList) (numFrom 0 d.data.toList) (by omega) (by omega)
 have hp:=parse_ev s hs (by omega)
 have hq:=parse_ev d hd (by omega)
 have hbig:Ev (fun k=>(Yo.f k s).bind fun t285=>(Yo.f k d).bind fun t288=>(Yb.f k t285 t288).bind fun t291=>(Yx.f t291).bind fun t294=>if t294=true then some 0 else some 3) (if Nat.gcd (numFrom 0 s.data.toList) (numFrom 0 d.data.toList)=1 then (0:Int) else 3):=by
  refine Ev.bind hp (Ev.bind hq (Ev.bind hg ?_))
  rw [natOne_eq]
  simp only [Option.bind_some]
  refine Ev.congr (fun k=>?_) (Ev.now _)
  by_cases h:Nat.gcd (numFrom 0 s.data.toList) (numFrom 0 d.data.toList)=1
  ·rw [if_pos h,if_pos (decide_eq_true h)]
  ·rw [if_neg h,if_neg (by simpa using h)]
 by_cases c1:s.data.toList=[48]
 ·rw [if_pos c1]
  refine Ev.step (fun k=>?_) (Ev.now _)
  simp only [Y6.j0]
  rw [if_neg (by decide),ba_toList,ba_toList,if_pos c1]
  cases neg with
  | true=>rfl
  | false =>
   by_cases c2:d.data.toList=[49]
   ·simp [c2]
   ·simp [c2]
 ·rw [if_neg c1]
  by_cases c2:d.data.toList=[49]
  ·rw [if_pos c2]
   refine Ev.step (fun k=>?_) (Ev.now _)
   simp only [Y6.j0]
   rw [if_neg (by decide),ba_toList,ba_toList,if_neg c1,if_pos c2]
  ·rw [if_neg c2]
   refine Ev.step (fun k=>?_) hbig
   simp only [Y6.j0]
   rw [if_neg (by decide),ba_toList,ba_toList,if_neg c1,if_neg c2]
theorem check_ev (n d s:ByteArray) (neg:Bool) (hc:YB.f n (⟨#[45]⟩:ByteArray)=some (s,neg)) (h1:s.size<100000) (h2:d.size<100000):Ev (fun k=>Y6.f k n d) (fault s.data.toList neg d.data.toList):=by
 unfold Y6.f fault
 rw [hc,digits_eq d (by omega)]
 simp only [Option.bind_some]
 rw [digits_eq s (by omega)]
 simp only [Option.bind_some]
 by_cases c1:isNum s.data.toList=true
 ·by_cases c2:isNum d.data.toList=true
  ·by_cases c3:d.data.toList=[48]
   ·rw [if_neg (fun h=>h.2.2 c3)]
    refine Ev.congr (fun k=>?_) (check_bad s d n neg)
    rw [if_pos c1,if_pos c2,ba_toList,c3];rfl
   ·rw [if_pos ⟨c1,c2,c3⟩]
    refine Ev.congr (fun k=>?_) (check_good s d n neg (isNum_dig c1) (isNum_dig c2) h1 h2)
    rw [if_pos c1,if_pos c2,ba_toList,beq_eq_false_iff_ne.2 c3]
  ·rw [if_neg (fun h=>c2 h.2.1)]
   refine Ev.congr (fun k=>?_) (check_bad s d n neg)
   rw [if_pos c1,if_neg c2]
 ·rw [if_neg (fun h=>c1 h.1)]
  exact Ev.congr (fun k=>if_neg c1) (check_bad s d n neg)
theorem bt_at (a:ByteArray) (i:Nat) (h:i<a.data.toList.length):bt a (i:Int)=((a.data.toList[i]'h).toNat:Int):=by
 have h1:i<a.size:=by rw [← ba_len];exact h
 unfold bt
 rw [dif_pos (show ((i:Nat):Int).toNat<a.size by rw [Int.toNat_natCast];exact h1)]
 have h3:a[((i:Nat):Int).toNat]'(by rw [Int.toNat_natCast];exact h1)=a.data.toList[i]'h:=by
  simp only [Int.toNat_natCast,Array.getElem_toList]
  rfl
 rw [h3]
theorem num_tail (a:ByteArray) (hd:a.data.toList.all isDig=true):(if a.toList=([]:List UInt8) then (some false) else (if 0<(a.size:Int) then (if (bt a 0)=48 then (some (a.toList==([48]:List UInt8))) else (some true)) else (none)))=some (isNum a.data.toList):=by
 unfold isNum
 rw [hd,ba_toList]
 cases hl:a.data.toList with
 | nil=>rfl
 | cons c l =>
  have h1:0<a.size:=by rw [← ba_len,hl,List.length_cons];omega
  rw [if_neg (by simp),if_pos (by omega),bt_zero a c l hl]
  by_cases h48:c=48
  ·subst h48
   rw [if_pos (by decide)]
   simp
  ·have:¬ ((c.toNat:Int)=48):=by
    intro e
    apply h48
    have:c.toNat=48:=by omega
    exact UInt8.toNat_inj.1 this
   rw [if_neg this]
   simp [h48]
theorem rdigits_loop (a:ByteArray) (hs:a.size<1000000):∀ (m i:Nat),m+i=a.size→(a.data.toList.take i).all isDig=true→Ev (fun k=>Yh.l0 k a (a.size:Int) (i:Int)) (isNum a.data.toList):=by
 intro m
 induction m with
 | zero =>
  intro i hi hd
  rw [List.take_of_length_le (by rw [ba_len];omega)] at hd
  have h:=num_tail a hd
  refine Ev.step (fun k=>?_) (Ev.now _)
  simp only [Yh.l0]
  rw [if_neg (by omega)]
  exact h
 | succ m ih =>
  intro i hi hd
  have hl:i<a.data.toList.length:=by rw [ba_len];omega
  have hb:=bt_at a i hl
  obtain ⟨c,hc⟩:∃ c,a.data.toList[i]'hl=c:=⟨_,rfl⟩
  rw [hc] at hb
  have hmem:c ∈ a.data.toList:=by rw [← hc];exact List.getElem_mem hl
  by_cases hdc:isDig c=true
  ·have h2:48≤c.toNat∧c.toNat≤57:=of_decide_eq_true hdc
   have:=ih (i+1) (by omega) (by
    rw [List.take_succ_eq_append_getElem hl,hc,List.all_append,hd,List.all_cons,hdc];rfl)
   refine Ev.step (fun k=>?_) this
   simp only [Yh.l0]
   rw [if_pos (by omega),if_pos (by omega),if_pos (by omega),hb,if_neg (by omega),if_neg (by omega),w64 (by omega) (by omega)]
   rfl
  ·have hf:isNum a.data.toList=false:=by
    cases h:isNum a.data.toList with
    | false=>rfl
    | true=>exact absurd (List.all_eq_true.1 (isNum_dig h) c hmem) hdc
   rw [hf]
   refine Ev.step (f:=fun _=>some false) (fun k=>?_) (Ev.now _)
   simp only [Yh.l0]
   rw [if_pos (by omega),if_pos (by omega),if_pos (by omega),hb]
   by_cases h1:(c.toNat:Int)<48
   ·rw [if_pos h1]
   ·have h3:¬ (48≤c.toNat∧c.toNat≤57):=fun e=>hdc (decide_eq_true e)
    rw [if_neg h1,if_pos (by omega)]
theorem rdigits_ev (a:ByteArray) (hs:a.size<1000000):Ev (fun k=>Yh.f k a) (isNum a.data.toList):=rdigits_loop a hs a.size 0 (by omega) rfl
theorem alg_read {v P n q B:Int}:v+P*n+P*B*q=v+P*(q*B+n):=by grind
theorem read_loop:∀ (e:Nat) (s:ByteArray) (acc:List Int),s.size=e→e<1000000→s.data.toList.all isDig=true→acc.length+e<2000000→Dg.Ok 10000 acc→Ev (fun k=>Yi.l0 k s acc) (Dg.dg 10000 (Dg.val 10000 acc+10000^acc.length*(numFrom 0 s.data.toList:Int)).toNat):=by
 intro e
 induction e using Nat.strongRecOn with
 | ind e ih =>
  intro s acc he hs hd hl ho
  have hlen:=ba_len s
  by_cases h0:e=0
  ·have hn:s.data.toList=[]:=List.eq_nil_of_length_eq_zero (by omega)
   rw [hn,numFrom_nil]
   have h1:=tidy_ev _ acc rfl ho (by omega)
   rw [show Dg.val 10000 acc+10000^acc.length*((0:Nat):Int)=Dg.val 10000 acc by rw [Int.natCast_zero,Int.mul_zero,Int.add_zero]]
   refine Ev.step (f:=fun k=>(Y2.f k acc).bind fun t428=>some t428) (fun k=>?_) (Ev.bind h1 (Ev.now _))
   simp only [Yi.l0]
   exact if_neg (by omega)
  ·obtain ⟨lo,hlo⟩:∃ lo:Nat,e-4=lo:=⟨_,rfl⟩
   have hw:wrap64 ((s.size:Int)-4)=(s.size:Int)-4:=w64 (by omega) (by omega)
   have hm:mx 0 ((s.size:Int)-4)=(lo:Int):=by rw [Num.mx_eq];omega
   obtain ⟨c,hc⟩:∃ c,numFrom 0 (s.data.toList.drop lo)=c:=⟨_,rfl⟩
   have hseg:(s.data.toList.drop lo).take (s.size-lo)=s.data.toList.drop lo:=List.take_of_length_le (by rw [List.length_drop];omega)
   have hall:(s.data.toList.drop lo).all isDig=true:=by have:=all_seg hd lo (s.size-lo);rwa [hseg] at this
   have hclt:c<10000:=by have:=seg_lt hd lo (s.size-lo) 4 (by omega);rw [hseg,hc] at this;exact this
   have hP:YX.f (s.extract lo s.size)=some ((c:Int),none):=by
    unfold YX.f
    have hsz:(s.extract lo s.size).size≤18:=by rw [ByteArray.size_extract];omega
    have hne:s.data.toList.drop lo≠[]:=by
     intro hh
     have:=congrArg List.length hh
     rw [List.length_drop,List.length_nil] at this
     omega
    rw [if_pos hsz,extract_list,hseg,atoi_num _ hall hne,hc];rfl
   have ho':Dg.Ok 10000 (acc++[(c:Int)]):=ho.append ((Dg.Ok.nil _).cons (by omega) (by omega))
   have ht:(s.extract 0 lo).data.toList=s.data.toList.take lo:=by rw [extract_list,List.drop_zero];rfl
   have hrec:=ih lo (by omega) (s.extract 0 lo) (acc++[(c:Int)]) (by rw [ByteArray.size_extract];omega) (by omega) (by
    rw [ht,List.all_eq_true]
    exact fun x hx=>List.all_eq_true.1 hd x (List.mem_of_mem_take hx)) (by rw [List.length_append,List.length_singleton];omega) ho'
   have hval:Dg.val 10000 (acc++[(c:Int)])+10000^(acc++[(c:Int)]).length*(numFrom 0 (s.extract 0 lo).data.toList:Int)=Dg.val 10000 acc+10000^acc.length*(numFrom 0 s.data.toList:Int):=by
    have h2:=numFrom_append (s.data.toList.take lo) (s.data.toList.drop lo) 0
    rw [List.take_append_drop,numFrom_eq (s.data.toList.drop lo),hc,List.length_drop,hlen] at h2
    rw [ht,Dg.val_snoc,List.length_append,List.length_singleton,Int.pow_succ,h2]
    by_cases h4:4≤e
    ·rw [show s.size-lo=4 by omega,Int.natCast_add,Int.natCast_mul]
     exact alg_read
    ·rw [show lo=0 by omega,List.take_zero,numFrom_nil,Nat.zero_mul,Nat.zero_add,Int.natCast_zero,Int.mul_zero,Int.add_zero]
   rw [hval] at hrec
   refine Ev.step (fun k=>?_) hrec
   simp only [Yi.l0]
   rw [if_pos (by omega),hw,hm,if_pos (by omega),if_pos (by omega),show ((lo:Int)).toNat=lo by omega,hP]
   simp only [Option.bind_some]
   rw [if_pos (by omega)]
theorem natRead_ev (s:ByteArray) (hd:s.data.toList.all isDig=true) (hs:s.size<1000000):Ev (fun k=>Yi.f k s) (Dg.dg 10000 (numFrom 0 s.data.toList)):=by
 have h:=read_loop s.size s [] rfl hs hd (by rw [List.length_nil];omega) (Dg.Ok.nil _)
 rw [Dg.val_nil,List.length_nil,Int.pow_zero,Int.one_mul,Int.zero_add,Int.toNat_natCast] at h
 exact h
theorem one4 (g:Nat) (hl:(Dg.dg 10000 g).length<1000000):(if ((Dg.dg 10000 g).length:Int)=1 then (if 0<((Dg.dg 10000 g).length:Int) then (if (rd (Dg.dg 10000 g) 0)=1 then (some (0:Int)) else (some 3)) else (none)) else (some 3))=some (if g=1 then 0 else 3):=by
 by_cases h0:g=0
 ·subst h0;rw [Dg.dg_zero];rfl
 ·have h3:=Dg.dg_pos (B:=10000) (by omega) h0
  have h4:=@len4 (g/10000)
  have hr:rd (Dg.dg 10000 g) 0=((g%10000:Nat):Int):=by rw [h3];rfl
  have hlen:(Dg.dg 10000 g).length=(Dg.dg 10000 (g/10000)).length+1:=by rw [h3,List.length_cons]
  rw [hr]
  by_cases h1:((Dg.dg 10000 g).length:Int)=1
  ·rw [if_pos h1,if_pos (by omega)]
   by_cases h2:g=1
   ·rw [if_pos h2,if_pos (by omega)]
   ·rw [if_neg h2,if_neg (by omega)]
  ·rw [if_neg h1,if_neg (fun e=>h1 (have h5:g/10000=0:=(by omega);have h6:=h4.2 h5;by omega))]
theorem rf_bad (s n d:ByteArray):Ev (fun k=>Y5.j0 k s true n d) 3:=by
 refine Ev.step (f:=fun _=>some 3) (fun k=>?_) (Ev.now _)
 simp only [Y5.j0]
 exact if_pos trivial
theorem rf_good (s n d:ByteArray) (hs:s.data.toList.all isDig=true) (hd:d.data.toList.all isDig=true) (h1:s.size<100000) (h2:d.size<100000):Ev (fun k=>Y5.j0 k s false n d) (if Nat.gcd (numFrom 0 s.data.toList) (numFrom 0 d.data.toList)=1 then 0 else 3):=by
 have l1:=num_len 10000 (by omega) _ hs
 have l2:=num_len 10000 (by omega) _ hd
 rw [ba_len] at l1 l2
 have hg:=natGCD4_ev (numFrom 0 s.data.toList) (numFrom 0 d.data.toList) (by omega) (by omega)
 have hlg:(Dg.dg 10000 (Nat.gcd (numFrom 0 s.data.toList) (numFrom 0 d.data.toList))).length<1000000:=by
  by_cases h0:numFrom 0 s.data.toList=0
  ·rw [h0,Nat.gcd_zero_left];omega
  ·have:=len4_mono (Nat.gcd_le_left (numFrom 0 d.data.toList) (Nat.pos_of_ne_zero h0));omega
 have ho:=one4 _ hlg
 refine Ev.step (f:=fun k=>(Yi.f k s).bind fun t436=>(Yi.f k d).bind fun t439=>(Yr.f k t436 t439).bind fun t442=>(if (t442.length:Int)=1 then (if 0<(t442.length:Int) then (if (rd t442 0)=1 then (some 0) else (some 3)) else (none)) else (some 3))) (fun k=>?_) (Ev.bind (natRead_ev s hs (by omega)) (Ev.bind (natRead_ev d hd (by omega)) (Ev.bind hg ?_)))
 ·simp only [Y5.j0]
  exact if_neg (by decide)
 ·exact Ev.congr (fun k=>ho) (Ev.now _)
theorem ratFault_ev (n d s:ByteArray) (neg:Bool) (hc:YB.f n (⟨#[45]⟩:ByteArray)=some (s,neg)) (h1:s.size<100000) (h2:d.size<100000):Ev (fun k=>Y5.f k n d) (fault s.data.toList neg d.data.toList):=by
 unfold Y5.f fault
 rw [hc]
 simp only [Option.bind_some]
 refine Ev.bind (rdigits_ev s (by omega)) ?_
 by_cases c1:isNum s.data.toList=true
 ·refine Ev.congr (fun k=>if_pos c1) (Ev.bind (rdigits_ev d (by omega)) ?_)
  by_cases c2:isNum d.data.toList=true
  ·refine Ev.congr (fun k=>if_pos c2) ?_
   rw [ba_toList,ba_toList]
   by_cases c3:d.data.toList=[48]
   ·rw [if_neg (fun h=>h.2.2 c3)]
    exact Ev.congr (fun k=>if_pos c3) (rf_bad s n d)
   ·rw [if_pos ⟨c1,c2,c3⟩]
    refine Ev.congr (fun k=>if_neg c3) ?_
    have hg:=rf_good s n d (isNum_dig c1) (isNum_dig c2) h1 h2
    by_cases c4:s.data.toList=[48]
    ·rw [if_pos c4]
     refine Ev.congr (fun k=>if_pos c4) ?_
     cases neg with
     | true=>exact Ev.congr (fun k=>if_pos rfl) (rf_bad s n d)
     | false =>
      refine Ev.congr (fun k=>if_neg (by decide)) ?_
      rw [if_neg (by decide)]
      by_cases c5:d.data.toList=[49]
      ·rw [if_pos c5,c5]
       have e:Nat.gcd (numFrom 0 s.data.toList) (numFrom 0 d.data.toList)=1:=by rw [c4,c5];decide +kernel
       rw [if_pos e] at hg
       exact hg
      ·rw [if_neg c5,bne_iff_ne.2 c5]
       exact rf_bad s n d
    ·rw [if_neg c4]
     refine Ev.congr (fun k=>if_neg c4) ?_
     by_cases c5:d.data.toList=[49]
     ·rw [if_pos c5]
      have e:Nat.gcd (numFrom 0 s.data.toList) (numFrom 0 d.data.toList)=1:=by rw [c5,show numFrom 0 [49]=1 by decide +kernel,Nat.gcd_one_right]
      rw [if_pos e] at hg
      exact hg
     ·rw [if_neg c5];exact hg
  ·rw [if_neg (fun h=>c2 h.2.1)]
   exact Ev.congr (fun k=>if_neg c2) (rf_bad s n d)
 ·rw [if_neg (fun h=>c1 h.1)]
  exact Ev.congr (fun k=>if_neg c1) (rf_bad s n d)
theorem below_ok (a n:Int) (h1:1≤n) (h2:n≤1099511627776):∃ t,Yv.f a n=some t∧0≤t∧t<n:=by
 have g1:=Int.tmod_lt_of_pos a (show 0<n by omega)
 have g2:-n<Int.tmod a n:=by
  have:=Int.tmod_lt_of_pos (-a) (show 0<n by omega)
  rw [Int.neg_tmod] at this;omega
 unfold Yv.f
 rw [if_neg (by omega),if_neg (by omega)]
 by_cases c:Int.tmod a n<0
 ·rw [if_pos c,w64 (by omega) (by omega)]
  exact ⟨_,rfl,by omega,by omega⟩
 ·rw [if_neg c]
  exact ⟨_,rfl,by omega,g1⟩
theorem next_ok (l:List Int) (s n:Int) (hs:0≤s) (hs2:s≤1000) (h1:1≤n) (h2:n≤1099511627776):∃ t,Y0.f l s n=some (t,s+1)∧0≤t∧t<n:=by
 unfold Y0.f
 have e1:wrap64 (s+1)=s+1:=w64 (by omega) (by omega)
 have e2:wrap64 (s+1-1)=s:=by rw [w64 (by omega) (by omega)];omega
 rw [e1,e2]
 by_cases c:(l.length:Int)=0
 ·rw [if_pos c]
  obtain ⟨t,h,h3,h4⟩:=below_ok (wrap64 ((s+1)*7919)) n h1 h2
  rw [h]
  exact ⟨t,rfl,h3,h4⟩
 ·rw [if_neg c,if_pos (by exact Int.tmod_nonneg _ hs),if_pos (Int.tmod_lt_of_pos _ (by omega))]
  obtain ⟨t1,h,_,_⟩:=below_ok (rd l (Int.tmod s (l.length:Int))) 1073741824 (by omega) (by omega)
  rw [h]
  simp only [Option.bind_some]
  obtain ⟨t,h,h3,h4⟩:=below_ok (wrap64 (t1+(wrap64 ((wrap64 (Int.tdiv s (l.length:Int)))*(wrap64 (7919+(Int.tmod s (l.length:Int)))))))) n h1 h2
  rw [h]
  exact ⟨t,rfl,h3,h4⟩
theorem range_ok (l:List Int) (s lo hi:Int) (hs:0≤s) (hs2:s≤1000) (h0:-1000000000≤lo) (h1:lo≤hi) (h2:hi≤1000000000):∃ t,Y8.f l s lo hi=some (t,s+1)∧lo≤t∧t≤hi:=by
 unfold Y8.f
 rw [if_neg (by omega),w64 (show -9223372036854775808≤hi-lo by omega) (by omega),w64 (show -9223372036854775808≤hi-lo+1 by omega) (by omega)]
 obtain ⟨t,e,g1,g2⟩:=next_ok l s (hi-lo+1) hs hs2 (by omega) (by omega)
 rw [e]
 refine ⟨lo+t,?_,by omega,by omega⟩
 simp only [Option.bind_some]
 rw [w64 (by omega) (by omega)]
theorem flip_ok (l:List Int) (s n:Int) (hs:0≤s) (hs2:s≤1000) (h1:1≤n) (h2:n≤1099511627776):∃ b,Yg.f l s n=some (b,s+1):=by
 unfold Yg.f
 obtain ⟨t,e,g1,g2⟩:=next_ok l s n hs hs2 h1 h2
 rw [e]
 exact ⟨_,rfl⟩
theorem pick_ok (l:List Int) (s:Int) (hs:0≤s) (hs2:s≤1000):∃ t,YG.f l s [2,4,8,3,7,1000]=some (t,s+1)∧1≤t∧t≤1000:=by
 unfold YG.f
 obtain ⟨t,e,g1,g2⟩:=next_ok l s 6 hs hs2 (by omega) (by omega)
 have e':Y0.f l s (([2,4,8,3,7,1000]:List Int).length:Int)=some (t,s+1):=e
 rw [e']
 simp only [Option.bind_some]
 rw [if_pos g1,if_pos (show t<(([2,4,8,3,7,1000]:List Int).length:Int) from g2)]
 refine ⟨_,rfl,?_⟩
 obtain h|h|h|h|h|h:t=0∨t=1∨t=2∨t=3∨t=4∨t=5:=by omega
 all_goals subst h;decide
theorem word_ok (l:List Int) (s:Int) (hs:0≤s) (hs2:s≤900):∃ t s',YJ.f l s=some (t,s')∧-2147483648≤t∧t≤4294967296∧s≤s'∧s'≤s+3:=by
 unfold YJ.f
 obtain ⟨t,e,g1,g2⟩:=next_ok l s 6 hs (by omega) (by omega) (by omega)
 rw [e]
 simp only [Option.bind_some]
 by_cases c0:t=0
 ·rw [if_pos c0]
  obtain ⟨u,e,g3,g4⟩:=next_ok l (s+1) 3 (by omega) (by omega) (by omega) (by omega)
  rw [e]
  refine ⟨_,_,rfl,?_⟩
  rw [w64 (by omega) (by omega)];omega
 ·rw [if_neg c0]
  by_cases c1:t=1
  ·rw [if_pos c1]
   obtain ⟨u,e,g3,g4⟩:=next_ok l (s+1) 3 (by omega) (by omega) (by omega) (by omega)
   rw [e]
   refine ⟨_,_,rfl,?_⟩
   rw [w64 (by omega) (by omega)];omega
  ·rw [if_neg c1]
   by_cases c2:t=2
   ·rw [if_pos c2]
    obtain ⟨u,e,g3,g4⟩:=next_ok l (s+1) 1073741824 (by omega) (by omega) (by omega) (by omega)
    rw [e]
    simp only [Option.bind_some]
    obtain ⟨v,e,g5,g6⟩:=next_ok l (s+1+1) 4 (by omega) (by omega) (by omega) (by omega)
    rw [e]
    refine ⟨_,_,rfl,?_⟩
    rw [w64 (show -9223372036854775808≤u*4 by omega) (by omega),w64 (show -9223372036854775808≤u*4+v by omega) (by omega),w64 (by omega) (by omega)];omega
   ·rw [if_neg c2]
    obtain ⟨u,e,g3,g4⟩:=range_ok l (s+1) (-9) 9 (by omega) (by omega) (by omega) (by omega) (by omega)
    rw [e]
    refine ⟨_,_,rfl,?_⟩
    omega
theorem nDigits_le (k:Nat):∀ u:Nat,u<10^(k+1)→Lib.nDigits u≤k+1:=by
 induction k with
 | zero =>
  intro u h
  rw [Lib.nDigits_small (by omega)];omega
 | succ k ih =>
  intro u h
  by_cases h1:u<10
  ·rw [Lib.nDigits_small h1];omega
  ·rw [Lib.nDigits_big h1]
   have:=ih (u/10) (by rw [Nat.pow_succ] at h;omega)
   omega
theorem itoa_ok (a:Int) (h0:-9223372036854775808≤a) (h1:a≤9223372036854775807):∃ r,Yz.f a=some r∧r.size≤30:=by
 refine ⟨⟨(Lib.itoa a).toArray⟩,by unfold Yz.f;rw [if_pos ⟨h0,h1⟩],?_⟩
 show (Lib.itoa a).toArray.size≤30
 rw [List.size_toArray,Lib.itoa]
 by_cases h:a<0
 ·have:=nDigits_le 19 a.natAbs (by omega)
  rw [if_pos h,List.length_cons,Lib.decDigits_length];omega
 ·have:=nDigits_le 19 a.toNat (by omega)
  rw [if_neg h,Lib.decDigits_length];omega
theorem w64_in (x:Int):-9223372036854775808≤wrap64 x∧wrap64 x≤9223372036854775807:=by unfold wrap64;omega
theorem reduced_loop (x0 x1:Int):∀ (n m:Nat),1≤m∨1≤n→∃ u v,Ev (fun k=>Y9.l0 k x0 x1 (m:Int) (n:Int)) (u,v)∧u.size≤30∧v.size≤30:=by
 intro n
 induction n using Nat.strongRecOn with
 | ind n ih =>
  intro m hmn
  by_cases h0:n=0
  ·subst h0
   obtain ⟨u,hu,lu⟩:=itoa_ok _ (w64_in (Int.tdiv x0 (m:Int))).1 (w64_in _).2
   obtain ⟨v,hv,lv⟩:=itoa_ok _ (w64_in (Int.tdiv x1 (m:Int))).1 (w64_in _).2
   refine ⟨u,v,Ev.step (f:=fun _=>some (u,v)) (fun k=>?_) (Ev.now _),lu,lv⟩
   simp only [Y9.l0]
   rw [if_pos (by omega),if_neg (by omega),hu,hv];rfl
  ·obtain ⟨u,v,h,lu,lv⟩:=ih (m%n) (Nat.mod_lt _ (by omega)) n (.inl (by omega))
   refine ⟨u,v,Ev.step (fun k=>?_) h,lu,lv⟩
   simp only [Y9.l0]
   rw [if_neg (by omega),Int.natCast_emod,Int.tmod_eq_emod_of_nonneg (by omega)]
theorem reduced_ok (a b:Int) (h0:-9223372036854775807≤a) (h1:a≤9223372036854775807) (hb:1≤b):∃ u v,Ev (fun k=>Y9.f k a b) (u,v)∧u.size≤30∧v.size≤30:=by
 obtain ⟨u,v,h,l⟩:=reduced_loop a b b.toNat a.natAbs (.inr (by omega))
 refine ⟨u,v,Ev.congr (fun k=>?_) h,l⟩
 unfold Y9.f
 rw [w64 (by omega) (by omega),Num.mx_eq,show max a (-a)=(a.natAbs:Int) by omega,show ((b.toNat:Nat):Int)=b by omega]
theorem rat_some (l:List Int) (s:Int) (hs:0≤s) (hs2:s≤100) (hL:∀ s,0≤s→s≤200→∃ u v s',Ev (fun k=>Yd.f k l s) (u,v,s')∧u.size≤100∧v.size≤100∧s≤s'∧s'≤s+20):∃ u v s',Ev (fun k=>YH.f k l s) (u,v,s')∧u.size≤100∧v.size≤100∧s≤s'∧s'≤s+30:=by
 unfold YH.f
 obtain ⟨n,e1,n0,n1⟩:=range_ok l s (-20) 20 hs (by omega) (by omega) (by omega) (by omega)
 obtain ⟨c,e2,c0,c1⟩:=next_ok l (s+1) 6 (by omega) (by omega) (by omega) (by omega)
 rw [e1]
 simp only [Option.bind_some]
 rw [e2]
 simp only [Option.bind_some]
 by_cases k0:c=0
 ·obtain ⟨d,e3,d0,d1⟩:=range_ok l (s+1+1) 1 9 (by omega) (by omega) (by omega) (by omega) (by omega)
  obtain ⟨u,v,h,lu,lv⟩:=reduced_ok n d (by omega) (by omega) d0
  refine ⟨u,v,s+1+1+1,Ev.congr (fun k=>if_pos k0) ?_,by omega,by omega,by omega,by omega⟩
  rw [e3]
  simp only [Option.bind_some]
  exact Ev.bind h (Ev.now _)
 by_cases k1:c=1
 ·obtain ⟨d,e3,d0,d1⟩:=pick_ok l (s+1+1) (by omega) (by omega)
  obtain ⟨u,v,h,lu,lv⟩:=reduced_ok n d (by omega) (by omega) d0
  refine ⟨u,v,s+1+1+1,Ev.congr (fun k=>(if_neg k0).trans (if_pos k1)) ?_,by omega,by omega,by omega,by omega⟩
  rw [e3]
  simp only [Option.bind_some]
  exact Ev.bind h (Ev.now _)
 by_cases k2:c=2
 ·obtain ⟨n,s3,e3,d0,d1,g1,g2⟩:=word_ok l (s+1+1) (by omega) (by omega)
  obtain ⟨d,e4,d2,d3⟩:=range_ok l s3 1 99 (by omega) (by omega) (by omega) (by omega) (by omega)
  obtain ⟨u,v,h,lu,lv⟩:=reduced_ok n d (by omega) (by omega) d2
  refine ⟨u,v,s3+1,Ev.congr (fun k=>(if_neg k0).trans ((if_neg k1).trans (if_pos k2))) ?_,by omega,by omega,by omega,by omega⟩
  rw [e3]
  simp only [Option.bind_some]
  rw [e4]
  simp only [Option.bind_some]
  exact Ev.bind h (Ev.now _)
 by_cases k3:c=3
 ·obtain ⟨u,v,s',h,lu,lv,g1,g2⟩:=hL (s+1+1) (by omega) (by omega)
  exact ⟨u,v,s',Ev.congr (fun k=>(if_neg k0).trans ((if_neg k1).trans ((if_neg k2).trans (if_pos k3)))) (Ev.bind h (Ev.now _)),by omega,by omega,by omega,by omega⟩
 ·obtain ⟨u,v,h,lu,lv⟩:=reduced_ok n 1 (by omega) (by omega) (by omega)
  exact ⟨u,v,s+1+1,Ev.congr (fun k=>(if_neg k0).trans ((if_neg k1).trans ((if_neg k2).trans (if_neg k3)))) (Ev.bind h (Ev.now _)),by omega,by omega,by omega,by omega⟩
theorem shl_in (x y:Int):-9223372036854775808≤shl .i64 x y∧shl .i64 x y≤9223372036854775807:=by
 unfold shl
 rw [i64_w]
 exact w64_in _
theorem long_tail (l:List Int) (s:Int) (hs:0≤s) (hs2:s≤300) (acc:List Int) (n i:Int) (hi:¬ i<n) (hl:acc.length≤61):∃ u v s',Ev (fun k=>Yd.l0 k acc n i l s) (u,v,s')∧u.size≤100∧v.size≤100∧s≤s'∧s'≤s+10:=by
 have hz:(strOfNums (acc++[49])).size≤62:=by rw [strOfNums_size,List.length_append,List.length_singleton];omega
 have hz1:((⟨#[45]⟩:ByteArray)++strOfNums (acc++[49])).size≤63:=by rw [ByteArray.size_append];have:(⟨#[45]⟩:ByteArray).size=1:=rfl;omega
 obtain ⟨b,e1⟩:=flip_ok l s 2 hs (by omega) (by omega) (by omega)
 cases b with
 | true =>
  obtain ⟨t,e2,t0,t1⟩:=range_ok l (s+1) 0 20 (by omega) (by omega) (by omega) (by omega) (by omega)
  obtain ⟨v,hv,lv⟩:=itoa_ok _ (shl_in 1 t).1 (shl_in 1 t).2
  obtain ⟨b2,e3⟩:=flip_ok l (s+1+1) 2 (by omega) (by omega) (by omega) (by omega)
  cases b2 with
  | true =>
   refine ⟨_,v,s+1+1+1,Ev.step (f:=fun _=>some (((⟨#[45]⟩:ByteArray)++strOfNums (acc++[49])),v,s+1+1+1)) (fun k=>?_) (Ev.now _),by omega,by omega,by omega,by omega⟩
   simp only [Yd.l0]
   rw [if_neg hi,if_pos (by omega)]
   simp only [Option.bind_some,e1]
   rw [if_pos (by trivial),e2]
   simp only [Option.bind_some]
   rw [if_pos t0,hv]
   simp only [Option.bind_some,e3]
   rw [if_pos (by trivial),if_pos (by omega)]
  | false =>
   refine ⟨_,v,s+1+1+1,Ev.step (f:=fun _=>some (strOfNums (acc++[49]),v,s+1+1+1)) (fun k=>?_) (Ev.now _),by omega,by omega,by omega,by omega⟩
   simp only [Yd.l0]
   rw [if_neg hi,if_pos (by omega)]
   simp only [Option.bind_some,e1]
   rw [if_pos (by trivial),e2]
   simp only [Option.bind_some]
   rw [if_pos t0,hv]
   simp only [Option.bind_some,e3]
   rw [if_neg (by decide)]
 | false =>
  have h1:(⟨#[49]⟩:ByteArray).size=1:=rfl
  obtain ⟨b2,e3⟩:=flip_ok l (s+1) 2 (by omega) (by omega) (by omega) (by omega)
  cases b2 with
  | true =>
   refine ⟨_,⟨#[49]⟩,s+1+1,Ev.step (f:=fun _=>some (((⟨#[45]⟩:ByteArray)++strOfNums (acc++[49])),(⟨#[49]⟩:ByteArray),s+1+1)) (fun k=>?_) (Ev.now _),by omega,by omega,by omega,by omega⟩
   simp only [Yd.l0]
   rw [if_neg hi,if_pos (by omega)]
   simp only [Option.bind_some,e1]
   rw [if_neg (by decide)]
   simp only [e3,Option.bind_some]
   rw [if_pos (by trivial),if_pos (by omega)]
  | false =>
   refine ⟨_,⟨#[49]⟩,s+1+1,Ev.step (f:=fun _=>some (strOfNums (acc++[49]),(⟨#[49]⟩:ByteArray),s+1+1)) (fun k=>?_) (Ev.now _),by omega,by omega,by omega,by omega⟩
   simp only [Yd.l0]
   rw [if_neg hi,if_pos (by omega)]
   simp only [Option.bind_some,e1]
   rw [if_neg (by decide)]
   simp only [e3,Option.bind_some]
   rw [if_neg (by decide)]
theorem long_loop (l:List Int) (s:Int) (hs:0≤s) (hs2:s≤300) (n:Int) (hn:n≤60):∀ (m:Nat) (acc:List Int) (i:Int),n-i≤m→0≤i→i≤60→acc.length≤1+i→∃ u v s',Ev (fun k=>Yd.l0 k acc n i l s) (u,v,s')∧u.size≤100∧v.size≤100∧s≤s'∧s'≤s+10:=by
 intro m
 induction m with
 | zero=>intro acc i h0 h1 h2 h3;exact long_tail l s hs hs2 acc n i (by omega) (by omega)
 | succ m ih =>
  intro acc i h0 h1 h2 h3
  by_cases hi:i<n
  ·obtain ⟨u,v,s',h,r⟩:=ih (acc++[48]) (i+1) (by omega) (by omega) (by omega) (by rw [List.length_append,List.length_singleton];omega)
   refine ⟨u,v,s',Ev.step (fun k=>?_) h,r⟩
   simp only [Yd.l0]
   rw [if_pos hi,if_pos (by omega),w64 (by omega) (by omega)]
  ·exact long_tail l s hs hs2 acc n i hi (by omega)
theorem long_ok (l:List Int) (s:Int) (hs:0≤s) (hs2:s≤200):∃ u v s',Ev (fun k=>Yd.f k l s) (u,v,s')∧u.size≤100∧v.size≤100∧s≤s'∧s'≤s+20:=by
 unfold Yd.f
 obtain ⟨n,e,n0,n1⟩:=range_ok l s 1 60 hs (by omega) (by omega) (by omega) (by omega)
 rw [e]
 simp only [Option.bind_some]
 obtain ⟨u,v,s',h,h1,h2,h3,h4⟩:=long_loop l (s+1) (by omega) (by omega) n n1 60 [49] 0 (by omega) (by omega) (by omega) (by simp)
 exact ⟨u,v,s',h,h1,h2,by omega,by omega⟩
theorem rat_ok (l:List Int) (s:Int) (hs:0≤s) (hs2:s≤100):∃ u v s',Ev (fun k=>YH.f k l s) (u,v,s')∧u.size≤100∧v.size≤100∧s≤s'∧s'≤s+30:=rat_some l s hs hs2 (fun s h0 h1=>long_ok l s h0 h1)
def rtext (n d:ByteArray):ByteArray:=if d.toList=([49]:List UInt8) then n else (n++(⟨#[47]⟩:ByteArray))++d
theorem ratText_eq (n d:ByteArray) (h1:n.size<100000) (h2:d.size<100000):Yy.f n d=some (rtext n d):=by
 have z:(⟨#[47]⟩:ByteArray).size=1:=rfl
 unfold Yy.f rtext
 by_cases c:d.toList=([49]:List UInt8)
 ·rw [if_pos c,if_pos c]
 ·rw [if_neg c,if_neg c,if_pos (by omega),if_pos (by rw [ByteArray.size_append];omega)]
theorem encode_le (r:Int):(Go.Utf8.encode r).size≤4:=by
 unfold Go.Utf8.encode
 dsimp only
 repeat' split
 all_goals simp [ByteArray.size]
def withS:ByteArray:=⟨#[48,49,50,51,52,53,54,55,56,57,45,47,43,32,46,120]⟩
theorem changed_ok (l:List Int) (s:Int) (t:ByteArray) (hs:0≤s) (hs2:s≤900) (ht:t.size≤100000):∃ r s',Ev (fun k=>Yc.f k l s t withS) (r,s')∧r.size≤t.size+16∧s≤s'∧s'≤s+3:=by
 have hw:withS.size=16:=rfl
 by_cases h0:t.toList=([]:List UInt8)
 ·refine ⟨withS,s,?_,by omega,by omega,by omega⟩
  unfold Yc.f
  refine Ev.congr (fun k=>if_pos h0) (Ev.step (f:=fun _=>some (withS,s)) (fun k=>?_) (Ev.now _))
  simp only [Yc.j0]
  rw [if_pos trivial]
 ·have h1:1≤t.size:=by
   rcases Nat.eq_zero_or_pos t.size with h|h
   ·exact absurd ((ba_nil t).2 (List.length_eq_zero_iff.1 ((ba_len t).trans h))) h0
   ·exact h
  obtain ⟨i,e1,i0,i1⟩:=next_ok l s (t.size:Int) hs (by omega) (by omega) (by omega)
  obtain ⟨c,e2,c0,c1⟩:=next_ok l (s+1) (withS.size:Int) (by omega) (by omega) (by omega) (by omega)
  obtain ⟨w,e3,w0,w1⟩:=next_ok l (s+1+1) 3 (by omega) (by omega) (by omega) (by omega)
  have he:=encode_le (wrap32 (bt withS c))
  have hx1:(t.extract 0 (i:Int).toNat).size≤t.size:=by rw [ByteArray.size_extract];omega
  have hx2:(t.extract (i:Int).toNat t.size).size+(t.extract 0 (i:Int).toNat).size≤t.size:=by rw [ByteArray.size_extract,ByteArray.size_extract];omega
  have hx3:(t.extract ((wrap64 (i+1)):Int).toNat t.size).size+(t.extract 0 (i:Int).toNat).size≤t.size:=by
   rw [w64 (by omega) (by omega),ByteArray.size_extract,ByteArray.size_extract];omega
  have hi1:wrap64 (i+1)=i+1:=w64 (by omega) (by omega)
  have key:∃ r s',(∀ k,Yc.j0 (k+1) t withS false l s=some (r,s'))∧r.size≤t.size+16∧s≤s'∧s'≤s+3:=by
   by_cases d0:w=0
   ·refine ⟨((t.extract 0 (i:Int).toNat)++(Go.Utf8.encode (wrap32 (bt withS c))))++(t.extract ((wrap64 (i+1)):Int).toNat t.size),s+1+1+1,fun k=>?_,?_,by omega,by omega⟩
    ·simp only [Yc.j0]
     rw [if_neg (by decide),e1]
     simp only [Option.bind_some]
     rw [e2]
     simp only [Option.bind_some]
     rw [if_pos (by omega),if_pos (by omega),e3]
     simp only [Option.bind_some]
     rw [if_pos d0,if_pos (by omega),if_pos (by omega),if_pos (by omega),if_pos (by omega),if_pos (by omega),if_pos (by rw [ByteArray.size_append];omega)]
    ·rw [ByteArray.size_append,ByteArray.size_append];omega
   ·by_cases d1:w=1
    ·refine ⟨((t.extract 0 (i:Int).toNat)++(Go.Utf8.encode (wrap32 (bt withS c))))++(t.extract (i:Int).toNat t.size),s+1+1+1,fun k=>?_,?_,by omega,by omega⟩
     ·simp only [Yc.j0]
      rw [if_neg (by decide),e1]
      simp only [Option.bind_some]
      rw [e2]
      simp only [Option.bind_some]
      rw [if_pos (by omega),if_pos (by omega),e3]
      simp only [Option.bind_some]
      rw [if_neg d0,if_pos d1,if_pos (by omega),if_pos (by omega),if_pos (by omega),if_pos (by rw [ByteArray.size_append];omega)]
     ·rw [ByteArray.size_append,ByteArray.size_append];omega
    ·refine ⟨(t.extract 0 (i:Int).toNat)++(t.extract ((wrap64 (i+1)):Int).toNat t.size),s+1+1+1,fun k=>?_,?_,by omega,by omega⟩
     ·simp only [Yc.j0]
      rw [if_neg (by decide),e1]
      simp only [Option.bind_some]
      rw [e2]
      simp only [Option.bind_some]
      rw [if_pos (by omega),if_pos (by omega),e3]
      simp only [Option.bind_some]
      rw [if_neg d0,if_neg d1,if_pos (by omega),if_pos (by omega),if_pos (by omega),if_pos (by omega),if_pos (by omega)]
     ·rw [ByteArray.size_append];omega
  obtain ⟨r,s',hj,b1,b2,b3⟩:=key
  refine ⟨r,s',?_,b1,b2,b3⟩
  unfold Yc.f
  refine Ev.congr (fun k=>if_neg h0) ?_
  rw [show (withS.toList==([]:List UInt8))=false by decide +kernel]
  exact Ev.step (f:=fun _=>some (r,s')) hj (Ev.now _)
theorem index47:∀ l:List UInt8,(∃ i:Nat,Lib.index l [47]=(i:Int)∧l=l.take i++47 :: l.drop (i+1))∨Lib.index l [47] = -1
 | []=>.inr rfl
 | b :: l=>by
  by_cases hb:b=47
  ·subst hb
   exact .inl ⟨0,by simp [Lib.index,List.isPrefixOf],by simp⟩
  ·have hp:([47]:List UInt8).isPrefixOf (b :: l)=false:=by
    simp only [List.isPrefixOf,Bool.and_true]
    exact beq_eq_false_iff_ne.2 (fun h=>hb h.symm)
   rcases index47 l with ⟨i,h1,h2⟩|h
   ·refine .inl ⟨i+1,?_,?_⟩
    ·rw [Lib.index,hp,h1]
     simp only [Bool.false_eq_true,if_false]
     rw [if_neg (by simp)];omega
    ·rw [List.take_succ_cons,List.drop_succ_cons,List.cons_append,← h2]
   ·refine .inr ?_
    rw [Lib.index,hp,h];rfl
theorem cut47 (l:List UInt8):((Lib.cut l [47]).2.2=true∧l=(Lib.cut l [47]).1++47 :: (Lib.cut l [47]).2.1)∨((Lib.cut l [47]).2.2=false∧(Lib.cut l [47]).1=l):=by
 unfold Lib.cut
 rcases index47 l with ⟨i,h1,h2⟩|h
 ·rw [h1,if_pos (by omega)]
  exact .inl ⟨rfl,by rw [Int.toNat_natCast];exact h2⟩
 ·rw [h,if_neg (by decide)]
  exact .inr ⟨rfl,rfl⟩
theorem both_ev (n d:ByteArray) (h1:n.size<100000) (h2:d.size<100000):∃ e,Ev (fun k=>Y6.f k n d) e∧Ev (fun k=>Y5.f k n d) e:=by
 obtain ⟨s,neg,hc,hs⟩:=cut_ex n
 exact ⟨_,check_ev n d s neg hc (by omega) h2,ratFault_ev n d s neg hc (by omega) h2⟩
theorem ba_mk (l:List UInt8):(⟨l.toArray⟩:ByteArray).toList=l:=by rw [ba_toList]
theorem ba_mk_size (l:List UInt8):(⟨l.toArray⟩:ByteArray).size=l.length:=by simp [ByteArray.size]
theorem reads_eq (t:ByteArray) (ht:t.size≤50000):∃ r,Ev (fun k=>YZ.f k t) r∧Ev (fun k=>Yu.f k t) r:=by
 have hcut:YE.f t (⟨#[47]⟩:ByteArray)=some (⟨(Lib.cut t.data.toList [47]).1.toArray⟩,⟨(Lib.cut t.data.toList [47]).2.1.toArray⟩,(Lib.cut t.data.toList [47]).2.2):=by
  unfold YE.f
  rw [if_pos (by omega)]
 have hlen:=ba_len t
 have h49:(⟨#[49]⟩:ByteArray).size=1:=rfl
 have h47:(⟨#[47]⟩:ByteArray).size=1:=rfl
 have e49:(⟨#[49]⟩:ByteArray).toList=([49]:List UInt8):=by decide +kernel
 have e47:(⟨#[47]⟩:ByteArray).data.toList=([47]:List UInt8):=rfl
 unfold YZ.f Yu.f
 rw [hcut]
 simp only [Option.bind_some]
 rcases cut47 t.data.toList with ⟨hf,hl⟩|⟨hf,hl⟩
 ·rw [hf]
  generalize (Lib.cut t.data.toList [47]).1=a at hl ⊢
  generalize (Lib.cut t.data.toList [47]).2.1=b at hl ⊢
  have hab:a.length+1+b.length=t.size:=by rw [← hlen,hl,List.length_append,List.length_cons];omega
  have sa:=ba_mk_size a
  have sb:=ba_mk_size b
  obtain ⟨e,c1,c2⟩:=both_ev ⟨a.toArray⟩ ⟨b.toArray⟩ (by omega) (by omega)
  by_cases hb:(⟨b.toArray⟩:ByteArray).toList=([49]:List UInt8)
  ·refine ⟨(⟨#[]⟩,⟨#[]⟩,10),Ev.congr (fun k=>(if_pos rfl).trans (if_pos hb)) (Ev.now _),Ev.congr (fun k=>if_pos rfl) ?_⟩
   refine Ev.step (f:=fun k=>(Y5.f k ⟨a.toArray⟩ ⟨b.toArray⟩).bind fun t459=>(if t459=0 then ((Yy.f ⟨a.toArray⟩ ⟨b.toArray⟩).bind fun t460=>(if t460.toList=t.toList then (some ((⟨a.toArray⟩:ByteArray),(⟨b.toArray⟩:ByteArray),(0:Int))) else (some ((⟨#[]⟩:ByteArray),(⟨#[]⟩:ByteArray),10)))) else (some ((⟨#[]⟩:ByteArray),(⟨#[]⟩:ByteArray),10)))) (fun k=>rfl) (Ev.bind c2 ?_)
   refine Ev.congr (f:=fun _=>some (⟨#[]⟩,⟨#[]⟩,10)) (fun k=>?_) (Ev.now _)
   by_cases he:e=0
   ·rw [if_pos he,ratText_eq _ _ (by omega) (by omega)]
    simp only [Option.bind_some]
    unfold rtext
    rw [if_pos hb,if_neg]
    rw [ba_mk,ba_toList,hl]
    intro h
    have:=congrArg List.length h
    rw [List.length_append,List.length_cons] at this
    omega
   ·rw [if_neg he]
  ·have hrt:rtext ⟨a.toArray⟩ ⟨b.toArray⟩=((⟨a.toArray⟩:ByteArray)++(⟨#[47]⟩:ByteArray))++(⟨b.toArray⟩:ByteArray):=by unfold rtext;rw [if_neg hb]
   have hrl:(rtext ⟨a.toArray⟩ ⟨b.toArray⟩).toList=t.toList:=by
    rw [hrt,ba_toList,ba_toList,hl]
    simp [ByteArray.data_append]
   refine ⟨if e=0 then ((⟨a.toArray⟩:ByteArray),(⟨b.toArray⟩:ByteArray),(0:Int)) else (⟨#[]⟩,⟨#[]⟩,10),Ev.congr (fun k=>(if_pos rfl).trans (if_neg hb)) (Ev.bind c1 ?_),Ev.congr (fun k=>if_pos rfl) ?_⟩
   ·refine Ev.congr (fun k=>?_) (Ev.now _)
    by_cases he:e=0
    ·rw [if_pos he,if_pos he]
    ·rw [if_neg he,if_neg he]
   ·refine Ev.step (f:=fun k=>(Y5.f k ⟨a.toArray⟩ ⟨b.toArray⟩).bind fun t459=>(if t459=0 then ((Yy.f ⟨a.toArray⟩ ⟨b.toArray⟩).bind fun t460=>(if t460.toList=t.toList then (some ((⟨a.toArray⟩:ByteArray),(⟨b.toArray⟩:ByteArray),(0:Int))) else (some ((⟨#[]⟩:ByteArray),(⟨#[]⟩:ByteArray),10)))) else (some ((⟨#[]⟩:ByteArray),(⟨#[]⟩:ByteArray),10)))) (fun k=>rfl) (Ev.bind c2 ?_)
    refine Ev.congr (fun k=>?_) (Ev.now _)
    by_cases he:e=0
    ·rw [if_pos he,if_pos he,ratText_eq _ _ (by omega) (by omega)]
     simp only [Option.bind_some]
     rw [if_pos hrl]
    ·rw [if_neg he,if_neg he]
 ·rw [hf,hl]
  have sa:=ba_mk_size t.data.toList
  obtain ⟨e,c1,c2⟩:=both_ev ⟨t.data.toList.toArray⟩ ⟨#[49]⟩ (by omega) (by omega)
  refine ⟨if e=0 then ((⟨t.data.toList.toArray⟩:ByteArray),(⟨#[49]⟩:ByteArray),(0:Int)) else (⟨#[]⟩,⟨#[]⟩,10),Ev.congr (fun k=>if_neg (by decide)) (Ev.bind c1 ?_),Ev.congr (fun k=>if_neg (by decide)) ?_⟩
  ·refine Ev.congr (fun k=>?_) (Ev.now _)
   by_cases he:e=0
   ·rw [if_pos he,if_pos he]
   ·rw [if_neg he,if_neg he]
  ·refine Ev.step (f:=fun k=>(Y5.f k ⟨t.data.toList.toArray⟩ ⟨#[49]⟩).bind fun t459=>(if t459=0 then ((Yy.f ⟨t.data.toList.toArray⟩ ⟨#[49]⟩).bind fun t460=>(if t460.toList=t.toList then (some ((⟨t.data.toList.toArray⟩:ByteArray),(⟨#[49]⟩:ByteArray),(0:Int))) else (some ((⟨#[]⟩:ByteArray),(⟨#[]⟩:ByteArray),10)))) else (some ((⟨#[]⟩:ByteArray),(⟨#[]⟩:ByteArray),10)))) (fun k=>rfl) (Ev.bind c2 ?_)
   refine Ev.congr (fun k=>?_) (Ev.now _)
   by_cases he:e=0
   ·rw [if_pos he,if_pos he,ratText_eq _ _ (by omega) (by omega)]
    simp only [Option.bind_some]
    unfold rtext
    rw [if_pos e49,if_pos (by first|(rw [ba_mk,ba_toList])|rw [ba_mk])]
   ·rw [if_neg he,if_neg he]
theorem reads_loop (l:List Int) (n:Int) (hn:n≤2):∀ (m:Nat) (i s:Int) (t:ByteArray),n-i≤m→0≤i→i≤3→0≤s→s≤100+3*i→t.size≤1000+16*i.toNat→Ev (fun k=>Yl.l0 k t n i l s) true:=by
 have hend:∀ (i s:Int) (t:ByteArray),¬ i<n→t.size≤50000→Ev (fun k=>Yl.l0 k t n i l s) true:=by
  intro i s t hi ht
  obtain ⟨r,r1,r2⟩:=reads_eq t ht
  have hn:Ev (fun k=>YA.f k) true:=⟨40,fun k hk=>nums_at k hk⟩
  refine Ev.step (f:=fun k=>(YZ.f k t).bind fun bt470=>((Yu.f k t).bind fun bt474=>((YA.f k).bind fun t478=>(if t478=true then (if bt470.2.2=bt474.2.2 then (some (bt470.1.toList==bt474.1.toList&&(bt470.2.1.toList==bt474.2.1.toList))) else (some false)) else (some false))))) (fun k=>?_) (Ev.bind r1 (Ev.bind r2 (Ev.bind hn (Ev.congr (fun k=>?_) (Ev.now _)))))
  ·simp only [Yl.l0]
   rw [if_neg hi]
  ·simp
 intro m
 induction m with
 | zero =>
  intro i s t h0 h1 h2 h3 h4 h5
  exact hend i s t (by omega) (by omega)
 | succ m ih =>
  intro i s t h0 h1 h2 h3 h4 h5
  by_cases hi:i<n
  ·obtain ⟨r,s',hc,b1,b2,b3⟩:=changed_ok l s t h3 (by omega) (by omega)
   refine Ev.step (f:=fun k=>(Yc.f k l s t withS).bind fun bt468=>Yl.l0 k bt468.1 n (i+1) l bt468.2) (fun k=>?_) (Ev.bind hc (ih (i+1) s' r (by omega) (by omega) (by omega) (by omega) (by omega) (by omega)))
   simp only [Yl.l0]
   rw [if_pos hi,w64 (n:=i+1) (by omega) (by omega)]
   rfl
  ·exact hend i s t hi (by omega)
theorem NumReads:Yl.Pure:=by
 intro l _ _ _
 obtain ⟨u,v,s1,hr,lu,lv,g1,g2⟩:=rat_ok l 0 (by omega) (by omega)
 obtain ⟨n,hn,n0,n1⟩:=next_ok l s1 3 (by omega) (by omega) (by omega) (by omega)
 have:Ev (fun k=>Yl.f k l) true:=by
  unfold Yl.f
  refine Ev.bind hr ?_
  dsimp only
  rw [ratText_eq u v (by omega) (by omega)]
  simp only [Option.bind_some]
  rw [hn]
  simp only [Option.bind_some]
  have hz:(rtext u v).size≤300:=by
   unfold rtext
   have:(⟨#[47]⟩:ByteArray).size=1:=rfl
   split
   ·omega
   ·rw [ByteArray.size_append,ByteArray.size_append];omega
  exact reads_loop l n (by omega) 3 0 (s1+1) _ (by omega) (by omega) (by omega) (by omega) (by omega) (by omega)
 exact this.rounds
end Go.Proofs.YtaffkbemjbfajaaGreatDoor.Pure
