import Derived.Test.YtigeaokfhnlkcaaGreatDoorV0
namespace Go.Proofs.YtigeaokfhnlkcaaGreatDoor.Mt
open Go.RowKit YtigeaokfhnlkcaaGreatDoorW PrintWords PrintLast PrintMore
section
variable {α β:Type} {g f:Nat→Option α} {r:α}
theorem gm {c:Prop} [Decidable c] (h:c) (k:Ev g r):Ev (fun n=>if c then g n else f n) r:=Ev.congr (fun _=>if_pos h) k
theorem gn {c:Prop} [Decidable c] (h:¬c) (k:Ev f r):Ev (fun n=>if c then g n else f n) r:=Ev.congr (fun _=>if_neg h) k
theorem oF (k:Ev g r):Ev (fun n=>if true=true then g n else f n) r:=gm rfl k
theorem rG (k:Ev f r):Ev (fun n=>if false=true then g n else f n) r:=gn (by decide) k
theorem Dj {o:Option α} (h:o=some r):Ev (fun _=>o) r:=⟨0,fun _ _=>h⟩
theorem kQ {r':α} (k:Ev g r') (h:r'=r):Ev g r:=h▸k
theorem ie {o:Option β} {f:Nat→β→Option α} {a:β} (h:o=some a) (k:Ev (fun n=>f n a) r):Ev (fun n=>o.bind (f n)) r:=
 Ev.bind (Dj h) k
end
theorem su {n:Int} (h0: -9223372036854775808≤n) (h1:n<9223372036854775808):wrap64 n=n:=by unfold wrap64;omega
theorem xg (n:Int):IntKind.i64.wrap n=wrap64 n:=by
 unfold wrap64;exact IntKind.wrap_i64 n
theorem vO (n:Nat):((2:Int)^n)=((2^n:Nat):Int):=by simp
theorem CA (n:Nat) (h:n≤62):shl .i64 1 (n:Int)=((2^n:Nat):Int):=by
 unfold shl;rw[xg,Int.one_mul,show min ((n:Int)).toNat IntKind.i64.bits=n from by simp[IntKind.bits];omega,vO];have:(2:Nat)^n≤2^62:=Nat.pow_le_pow_right (by decide) h;generalize 2^n=m at this;exact su (by omega) (by omega)
theorem FG (s n:Nat) (h:n≤64):shr .i64 (s:Int) (n:Int)=((s/2^n:Nat):Int):=by
 unfold shr;rw[show min ((n:Int)).toNat IntKind.i64.bits=n from by simp[IntKind.bits];omega,vO];exact(Int.natCast_ediv s (2^n)).symm
theorem FH (s:Nat):Int.tmod (s:Int) 2=((s%2:Nat):Int):=by
 rw[Int.tmod_eq_emod_of_nonneg (by omega)];omega
def bi (s w:Nat):Nat:=s/2^w%2
theorem uq (s w:Nat):bi s w=if s.testBit w then 1 else 0:=by
 unfold bi;rw[Nat.testBit_eq_decide_div_mod_eq];have:s/2^w%2<2:=Nat.mod_lt _ (by decide);by_cases h:s/2^w%2=1
 ·simp[h]
 ·simp[h];omega
theorem tD (n:Int) (h0:0≤n) (h1:n<2^62):IntKind.i64.wrap n=n:=by rw[xg];exact su (by omega) (by omega)
theorem band (a b:Nat) (ha:a<2^62) (hb:b<2^62):Go.bits .and .i64 (a:Int) (b:Int)=((a&&& b:Nat):Int):=(Go.bits_nat .i64 62 (by decide) tD a b ha hb).1
theorem FI (a b:Nat) (ha:a<2^62) (hb:b<2^62):Go.bits .or .i64 (a:Int) (b:Int)=((a|||b:Nat):Int):=(Go.bits_nat .i64 62 (by decide) tD a b ha hb).2
theorem sv {s w:Nat}:((bi s w:Nat):Int)=1↔s.testBit w=true:=by
 rw[uq];cases s.testBit w<;>simp
theorem zn {s w:Nat}:((bi s w:Nat):Int)=0↔s.testBit w=false:=by
 rw[uq];cases s.testBit w<;>simp
theorem CB (s w:Nat) (h:w≤62):Int.tmod (shr .i64 (s:Int) (w:Int)) 2=((bi s w:Nat):Int):=by
 rw[FG s w (by omega),FH];rfl
theorem xh (s w:Nat) (h:w≤62) (hs:s<2^62):Go.bits .and .i64 (shr .i64 (s:Int) (w:Int)) 1=((bi s w:Nat):Int):=by
 rw[FG s w (by omega)];have h1:s/2^w<2^62:=Nat.lt_of_le_of_lt (Nat.div_le_self _ _) hs;have:=band (s/2^w) 1 h1 (by decide);rw[show((1:Nat):Int)=1 from rfl]at this;rw[this,Nat.and_one_is_mod];rfl
theorem CC (a b:Nat) (ha:a<2^62) (hb:b<2^62):Go.bits .xor .i64 (a:Int) (b:Int)=((a^^^b:Nat):Int):=by
 have ha':a%2^64=a:=Nat.mod_eq_of_lt (by omega);have hb':b%2^64=b:=Nat.mod_eq_of_lt (by omega);have hx:a^^^b<2^62:=Nat.xor_lt_two_pow ha hb
 have e2:(BitVec.ofInt 64 (a:Int)^^^BitVec.ofInt 64 (b:Int)).toNat=a^^^b:=by
  rw[BitVec.toNat_xor,BitVec.ofInt_natCast,BitVec.ofInt_natCast,BitVec.toNat_ofNat,BitVec.toNat_ofNat,ha',hb']
 show IntKind.i64.wrap ((BitVec.ofInt 64 (a:Int)^^^BitVec.ofInt 64 (b:Int)).toNat:Int)=_
 rw[e2];exact tD _ (by omega) (by omega)
def less (a b:Nat):Nat:=a^^^(a&&& b)
theorem Bv (a b i:Nat):(less a b).testBit i=(a.testBit i&& !b.testBit i):=by
 unfold less;rw[Nat.testBit_xor,Nat.testBit_and];cases a.testBit i<;>cases b.testBit i<;>rfl
theorem CD {a b n:Nat} (ha:a<2^n):less a b<2^n:=Nat.xor_lt_two_pow ha (Nat.lt_of_le_of_lt Nat.and_le_left ha)
theorem zS {a b:Nat}:less a b=0↔a&&& b=a:=by
 unfold less;constructor
 ·intro h;have:a^^^(a^^^(a&&& b))=a^^^0:=by rw[h]
  rw[←Nat.xor_assoc,Nat.xor_self,Nat.zero_xor,Nat.xor_zero]at this;exact this
 ·intro h;rw[h,Nat.xor_self]
theorem CE (a b:Nat) (ha:a<2^62):Go.bits .andNot .i64 (a:Int) (b:Int)=((less a b:Nat):Int):=by
 have hl:less a b<2^62:=CD ha
 have e:(BitVec.ofInt 64 (a:Int)&&& ~~~ BitVec.ofInt 64 (b:Int))=BitVec.ofNat 64 (less a b):=by
  apply BitVec.eq_of_getLsbD_eq;intro i hi;rw[BitVec.getLsbD_and,BitVec.getLsbD_not,BitVec.ofInt_natCast,BitVec.ofInt_natCast,BitVec.getLsbD_ofNat,BitVec.getLsbD_ofNat,BitVec.getLsbD_ofNat,Bv];simp[hi]
 have e2:(BitVec.ofInt 64 (a:Int)&&& ~~~ BitVec.ofInt 64 (b:Int)).toNat=less a b:=by
  rw[e,BitVec.toNat_ofNat];exact Nat.mod_eq_of_lt (by omega)
 show IntKind.i64.wrap ((BitVec.ofInt 64 (a:Int)&&& ~~~ BitVec.ofInt 64 (b:Int)).toNat:Int)=_
 rw[e2];exact tD _ (by omega) (by omega)
theorem GY (x:Int) (n:Nat) (h:n≤62):shl .i64 x (n:Int)=wrap64 (x*((2^n:Nat):Int)):=by
 unfold shl;rw[xg,show min ((n:Int)).toNat IntKind.i64.bits=n from by simp[IntKind.bits];omega,vO]
theorem CF (x i:Nat):x%2^(i+1)=x%2^i+2^i*bi x i:=by
 unfold bi;rw[Nat.mod_pow_succ]
end Go.Proofs.YtigeaokfhnlkcaaGreatDoor.Mt
