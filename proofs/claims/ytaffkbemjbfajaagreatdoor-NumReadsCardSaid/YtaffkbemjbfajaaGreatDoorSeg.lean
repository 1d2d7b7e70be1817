/- A part of a row of whole numbers that is the call's own: a slice whose begin is not the row's begin. -/
import Derived.Test.YtaffkbemjbfajaaGreatDoorWMore
import Derived.Test.YtaffkbemjbfajaaGreatDoorWKept
import Derived.Test.YtaffkbemjbfajaaGreatDoorWApart
set_option linter.unusedVariables false
set_option linter.unusedSimpArgs false
namespace Go.Proofs.YtaffkbemjbfajaaGreatDoor
open Go.RowKit Go.Proofs.YtaffkbemjbfajaaGreatDoorW.PrintWords Go.Proofs.YtaffkbemjbfajaaGreatDoorW.PrintLast Go.Proofs.YtaffkbemjbfajaaGreatDoorW.PrintMore
def Sg (k:IntKind) (e:Nat) (pre suf:List Int) (w:World) (base:Nat) (ok:Nat→Prop) (v:Value) (xs:List Int):Prop :=
 (∀ b,v.ownBlock=some b→ok b)∧∃ g cap,v = .slice (some ⟨g,pre.length,none⟩) xs.length (cap-pre.length)∧Kd.R (Kd.int k) e w base ok (.slice (some ⟨g,0,none⟩) (pre++(xs++suf)).length cap) (pre++(xs++suf))
namespace Sg
variable {k:IntKind} {e:Nat} {pre suf:List Int} {w w1:World} {base:Nat} {ok ok':Nat→Prop} {v:Value} {xs:List Int} {g n cap:Nat}
theorem R_mono (h:Sg k e pre suf w base ok v xs) (hok:∀ b,ok b→ok' b):Sg k e pre suf w base ok' v xs:=by
 obtain ⟨h0,g,cap,e1,h1⟩:=h
 exact ⟨fun b hb=>hok b (h0 b hb),g,cap,e1,Kd.R_mono h1 hok⟩
theorem R_slice (h:Sg k e pre suf w base ok v xs):∃ A c,v = .slice A xs.length c:=by
 obtain ⟨h0,g,cap,e1,h1⟩:=h
 exact ⟨_,_,e1⟩
theorem R_below (h:Sg k e pre suf w base ok v xs) (hb:Below w.heap.size w w1):Sg k e pre suf w1 base ok v xs:=by
 obtain ⟨h0,g,cap,e1,h1⟩:=h
 exact ⟨h0,g,cap,e1,Kd.R_below h1 hb⟩
theorem R_alloc (h:Sg k e pre suf w base ok v xs) (o:Obj):Sg k e pre suf (w.alloc o) base ok v xs:=R_below h (below_alloc (Below.refl _ _) o)
theorem R_drew (h:Sg k e pre suf w base ok v xs):Sg k e pre suf w.drew base ok v xs:=R_below h (below_drew (Below.refl _ _))
theorem R_drewN (h:Sg k e pre suf w base ok v xs) (m:Nat):Sg k e pre suf (w.drewN m) base ok v xs:=R_below h (pw_below_drewN (Below.refl _ _) m)
theorem R_reads' {A:Option Addr} {n c:Nat} (h:Sg k e pre suf w base ok (.slice A n c) xs):n=xs.length∧n≤c∧Kd.C (Kd.int k) w A xs.length xs:=by
 obtain ⟨h0,g,cap,e1,h1⟩:=h
 injection e1 with eA en ec
 subst eA en ec
 obtain ⟨h2,h3,h4⟩:=Kd.R_reads' h1
 have hle:pre.length+(xs.length+suf.length)≤cap:=by simpa using h3
 refine ⟨rfl,by omega,?_⟩
 obtain ⟨a1,a2,a3⟩:=h4
 refine ⟨rfl,by simp at a2;omega,fun hp=>?_⟩
 obtain ⟨ad,ea,hc⟩:=a3 (by simp;omega)
 cases ea
 refine ⟨_,rfl,fun j p hj=>?_⟩
 have hj':j<xs.length:=(List.getElem?_eq_some_iff.1 hj).1
 obtain ⟨c,c1,c2,c3⟩:=hc (pre.length+j) p (by rw [List.getElem?_append_right (by omega),Nat.add_sub_cancel_left,List.getElem?_append_left hj'];exact hj)
 refine ⟨c,c1,c2,fun q u hq=>?_⟩
 have:=c3 q u hq
 have h1:(Kd.int k).sz=1:=rfl
 rw [h1,Nat.mul_one] at this ⊢
 rw [add_plain] at this
 rw [Addr.add_lit,← Nat.add_assoc]
 exact this
theorem R_form (h:Sg k e pre suf w base ok v xs) (hp:0<xs.length):∃ g cap,v = .slice (some ⟨g,pre.length,none⟩) xs.length cap∧base≤g∧g<w.heap.size∧∃ cells,w.heap[g]? = some (.cells cells e (0,0)):=by
 obtain ⟨h0,g,cap,e1,h1⟩:=h
 obtain ⟨g',cap',e2,a,b,c⟩:=Kd.R_form h1 (by simp;omega)
 injection e2 with e2 _ _
 injection e2 with e2
 injection e2 with e2
 subst e2
 exact ⟨g,_,e1,a,b,c⟩
theorem R_celln (d:Int) (h:Sg k e pre suf w base ok (.slice (some ⟨g,pre.length,none⟩) n cap) xs) (i:Int) (h0:0≤i) (hi:i<n):w.cell? ⟨g,pre.length+i.toNat,none⟩=some (.int k (rdOf d xs i))∧w.frozen? ⟨g,pre.length+i.toNat,none⟩=false:=by
 obtain ⟨h0',g',cap',e1,h1⟩:=h
 injection e1 with eA en ec
 injection eA with eA
 injection eA with eA
 subst eA en
 have:=Kd.R_celln d h1 ((pre.length:Int)+i) (by omega) (by simp;omega)
 have e2:((pre.length:Int)+i).toNat=pre.length+i.toNat:=by omega
 rw [e2] at this
 have e3:rdOf d (pre++(xs++suf)) ((pre.length:Int)+i)=rdOf d xs i:=by
  unfold rdOf
  rw [e2,List.getD_eq_getElem?_getD,List.getD_eq_getElem?_getD,List.getElem?_append_right (by omega),Nat.add_sub_cancel_left,List.getElem?_append_left (by omega)]
 rw [e3] at this
 exact this
theorem R_putg (h:Sg k e pre suf w base ok (.slice (some ⟨g,pre.length,none⟩) n cap) xs) (i:Int) (h0:0≤i) (hi:i<n) (x:Int):Sg k e pre suf (w.setCell ⟨g,pre.length+i.toNat,none⟩ (.int k x)) base ok (.slice (some ⟨g,pre.length,none⟩) n cap) (xs.set i.toNat x)∧w.grownBy (w.setCell ⟨g,pre.length+i.toNat,none⟩ (.int k x)) (some g):=by
 obtain ⟨h0',g',cap',e1,h1⟩:=h
 injection e1 with eA en ec
 injection eA with eA
 injection eA with eA
 subst eA en ec
 obtain ⟨a,b⟩:=Kd.R_putg h1 ((pre.length:Int)+i) x
 have e2:((pre.length:Int)+i).toNat=pre.length+i.toNat:=by omega
 rw [e2] at a b
 refine ⟨⟨h0',g,cap',by simp,?_⟩,b⟩
 have e3:(pre++(xs++suf)).set (pre.length+i.toNat) x=pre++(xs.set i.toNat x++suf):=by
  rw [List.set_append_right _ _ (by omega),Nat.add_sub_cancel_left,List.set_append_left _ _ (by omega)]
 rw [e3] at a
 have e4:(pre++(xs.set i.toNat x++suf)).length=(pre++(xs++suf)).length:=by simp
 rw [e4]
 exact a
theorem R_tight (h:Sg k e pre suf w base ok v xs):Sg k e pre suf w base (fun b=>some b=v.ownBlock) v xs:=by
 obtain ⟨h0,g,cap,e1,h1⟩:=h
 refine ⟨fun b hb=>hb.symm,g,cap,e1,?_⟩
 subst e1
 exact Kd.R_tight rfl h1
theorem R_reok {ok1:Nat→Prop} (h:Sg k e pre suf w base ok1 v xs) (hok:∀ b,v.ownBlock=some b→ok b):Sg k e pre suf w base ok v xs:=R_mono (R_tight h) (fun b hb=>hok b hb.symm)
theorem of_R {ys:List Int} {lo hi:Nat} (h:Kd.R (Kd.int k) e w base ok (.slice (some ⟨g,0,none⟩) n cap) ys) (h1:lo≤hi) (h2:hi≤ys.length):Sg k e (ys.take lo) (ys.drop hi) w base ok (.slice (some ⟨g,lo,none⟩) (hi-lo) (cap-lo)) ((ys.take hi).drop lo):=by
 have hn:=(Kd.R_reads' h).1
 subst hn
 have e0:ys.take lo++((ys.take hi).drop lo++ys.drop hi)=ys:=by
  conv=>rhs;rw [← List.take_append_drop lo ys]
  congr 1
  conv=>rhs;rw [← List.take_append_drop (hi-lo) (ys.drop lo)]
  rw [List.drop_drop,show lo+(hi-lo)=hi by omega,List.drop_take]
 have el:(ys.take lo).length=lo:=by rw [List.length_take];omega
 refine ⟨h.1,g,cap,?_,?_⟩
 ·rw [el,List.length_drop,List.length_take,Nat.min_eq_left h2]
 ·rw [e0];exact h
theorem to_R {c:Nat} (h:Sg k e pre suf w base ok (.slice (some ⟨g,pre.length,none⟩) n (cap-pre.length)) xs) (hc:pre.length≤cap) (hx:0<xs.length):Kd.R (Kd.int k) e w base ok (.slice (some ⟨g,0,none⟩) (pre++(xs++suf)).length cap) (pre++(xs++suf)):=by
 obtain ⟨h0,g',cap',e1,h1⟩:=h
 injection e1 with eA en ec
 injection eA with eA
 injection eA with eA
 subst eA en
 have hle:=(Kd.R_reads' h1).2.1
 have:cap=cap':=by simp at hle;omega
 rw [this];exact h1
end Sg
end Go.Proofs.YtaffkbemjbfajaaGreatDoor
