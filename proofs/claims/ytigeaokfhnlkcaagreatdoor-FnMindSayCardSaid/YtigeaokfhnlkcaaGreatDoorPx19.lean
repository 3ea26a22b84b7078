import Derived.Test.YtigeaokfhnlkcaaGreatDoorPx0
import Derived.Test.YtigeaokfhnlkcaaGreatDoorPx15
namespace Go.Proofs.YtigeaokfhnlkcaaGreatDoor.P
open Go.RowKit YtigeaokfhnlkcaaGreatDoorW PrintWords PrintLast PrintMore
attribute [local go_sem] max2_int min2_int max_two min_two max_three min_three max_four min_four
set_option linter.unusedVariables false
set_option linter.unusedSimpArgs false
set_option maxHeartbeats 4000000
def kO.p (l1:LI) (x:Int):Option Bool:=if 0≤x then(if x<(l1.length:Int)then some (decide (rd l1 x=0))else none)else none
def kO.f (a0:Int) (l1:LI):Option Int:=jJ.f (kO.p l1) a0
theorem kO.gives (w:World) (B:Nat) (A1:Option Addr) (c1:Nat) (l1:LI) (j:Kd.C KI w A1 l1.length l1) (hB:B<w.heap.size)
  (hd:w.cell? ⟨B,0,none⟩=some (.slice A1 l1.length c1)):
  Hof.tQ 115 #[.pointer (some ⟨B,0,none⟩)] (kO.p l1) w:=fun W x b hb hp=>by
 have hd':=(hb.cell (p:=⟨B,0,none⟩) hB).trans hd;have I:=bm (Below.refl W.heap.size W);have HR:=bm (Kd.C_below j hb);clear hd hb j hB;unfold kO.p at hp;by_cases h0:0≤x
 ·rw[if_pos h0]at hp;by_cases h1:x<(l1.length:Int)
  ·rw[if_pos h1]at hp;obtain rfl:=pd hp;obtain⟨ad,e,hx⟩:=Kd.at_int HR.out x h0 h1;cases e;clear hp;have p0:=pM h0;have p1:=pM h1;have ae:decide (0≤x)=true:=pK h0;have af:decide (x<(l1.length:Int))=true:=pK h1;clear h0 h1;by_cases hg:rd l1 x=0
   ·have J:(rd l1 x==0)=true:=pT hg;have o:decide (rd l1 x=0)=true:=pK hg;clear hg;go_enter Tryz.func115,Tryz.ntmps115;go_wp2;repeat(go_quiet (fail);try go_wp2)
    go_ret;exact⟨by rw[o];rfl,wZ I⟩
   ·have J:(rd l1 x==0)=false:=pS hg;have o:decide (rd l1 x=0)=false:=pF hg;clear hg;go_enter Tryz.func115,Tryz.ntmps115;go_wp2;repeat(go_quiet (fail);try go_wp2)
    go_ret;exact⟨by rw[o];rfl,wZ I⟩
  ·rw[if_neg h1]at hp;cases hp
 ·rw[if_neg h0]at hp;cases hp
theorem kO.calls (a0:Int) (A1:Option Addr) (c1:Nat) (l1:LI) (r:Int) (w:World) (j:Kd.C KI w A1 l1.length l1) (aa:l1.length≤c1) (h:kO.f a0 l1=some r):
  Calls Tryz.prog 84 #[.int .i64 a0,.slice A1 l1.length c1] w fun e w'=>e= .returned (.int .i64 r)∧Below w.heap.size w w':=by
 have HR:=bm j;have HB:=bm (Below.refl w.heap.size w);unfold kO.f at h;have HT:=bm (fun W hg=>jJ.calls 115 #[.pointer (some ⟨w.heap.size,0,none⟩)] (Hof.enters Tryz.func115 (by kernel_rfl) rfl) (kO.p l1) a0 r W hg h);clear h j aa;have HW:=bm (zK HB.out (.cells #[.slice A1 l1.length c1] 23));go_enter Tryz.func84,Tryz.ntmps84;go_wp2_with fail;refine(HT.out _ (kO.gives _ w.heap.size A1 c1 l1 (Kd.C_below HR.out HW.out) (by simp) (by simp))).mono ?_;rintro e _ ⟨rfl,ab⟩;go_wp2;go_ret;exact⟨rfl,below_then HW.out HW.out.size ab⟩
end Go.Proofs.YtigeaokfhnlkcaaGreatDoor.P
