/- Contracts of Go functions: each call returns what the Lean function beside it computes. Conditions: as each theorem states them. -/
import Derived.Test.YthejdhjpbpamoaaGreatDoorPkFnMoves
import Derived.Test.YthejdhjpbpamoaaGreatDoorPFnMovesx1
namespace Go.Proofs.YthejdhjpbpamoaaGreatDoor.jM
open Go.RowKit Go.Proofs.YthejdhjpbpamoaaGreatDoorW.iK Go.Proofs.YthejdhjpbpamoaaGreatDoorW.lX Go.Proofs.YthejdhjpbpamoaaGreatDoorW.oV Go.Proofs.Tryz
attribute [local go_sem] qI qM qL qP qK qO qJ qN   -- for this text's walks alone
set_option linter.unusedVariables false
set_option maxHeartbeats 8000000
set_option maxRecDepth 100000
set_option linter.unusedSimpArgs false

def Fa.f (l0:List Int):Option (Bool):=some (decide ((l0.length:Int) > 1048576))
theorem Fa.calls (A0:Option Addr) (c0:Nat) (l0:List Int) (r:Bool) (w:World) (hr0:Kd.C (Kd.int .u8) w A0 l0.length l0) (hc0:l0.length≤c0) (h:Fa.f l0=some r) :
  Calls Tryz.prog 6 #[.slice A0 l0.length c0] w fun e w'=>e=.returned (.bool r)∧nH w w':=by
 have HR0:=m_ hr0
 have a5:=m_ hc0
 clear hr0 hc0
 unfold Fa.f at h
 have H:=h
 clear h
 obtain rfl:=cZ H
 go_enter func6,ntmps6
 go_wp2
 go_ret
 exact ⟨bg,jS⟩

def aJ (w0 W:World) (g:Nat) (f0:List Int) (f1:Int) (f2:Int):Prop:=∃ A0 c0,W.heap[g]?=some (.cells #[.slice A0 f0.length c0,ah f1,ah f2] 102)∧w0.heap.size≤g∧Kd.C (Kd.int .u8) w0 A0 f0.length f0
theorem aJ.grown {w0 W:World} {g:Nat} {f0:List Int} {f1:Int} {f2:Int} {W1:World} {row:Option Nat} (h:aJ w0 W g f0 f1 f2) (hw:W.grownBy W1 row) (hne:some g≠row):aJ w0 W1 g f0 f1 f2:=by
 obtain ⟨A0,c0,hb,hg,hr0⟩:=h
 exact ⟨A0,c0,iE hb hw hne,hg,hr0⟩
theorem aJ.kept {w0 W:World} {g:Nat} {f0:List Int} {f1:Int} {f2:Int} {W1:World} {S:Nat→Prop} (h:aJ w0 W g f0 f1 f2) (hk:Kept W W1 S) (hne:¬ S g):aJ w0 W1 g f0 f1 f2:=by
 obtain ⟨A0,c0,hb,hg,hr0⟩:=h
 exact ⟨A0,c0,vF hb hk hne,hg,hr0⟩
theorem aJ.below {w0 W:World} {g:Nat} {f0:List Int} {f1:Int} {f2:Int} {W1:World} (h:aJ w0 W g f0 f1 f2) (hw:Below W.heap.size W W1):aJ w0 W1 g f0 f1 f2:=h.grown (TD hw none) (by simp)
theorem aJ.alloc {w0 W:World} {g:Nat} {f0:List Int} {f1:Int} {f2:Int} (h:aJ w0 W g f0 f1 f2) (o:Obj):aJ w0 (W.alloc o) g f0 f1 f2:=h.below (ny (Below.refl _ _) o)
theorem aJ.drewN {w0 W:World} {g:Nat} {f0:List Int} {f1:Int} {f2:Int} (h:aJ w0 W g f0 f1 f2) (m:Nat):aJ w0 (W.drewN m) g f0 f1 f2:=h
theorem aJ.drew {w0 W:World} {g:Nat} {f0:List Int} {f1:Int} {f2:Int} (h:aJ w0 W g f0 f1 f2):aJ w0 W.drew g f0 f1 f2:=h
theorem aJ.at_ {w0 W:World} {g:Nat} {f0:List Int} {f1:Int} {f2:Int} {w':World} {m:Nat} (hq:W.drewN m=w') (h:aJ w0 W g f0 f1 f2):aJ w0 w' g f0 f1 f2:=by subst hq;exact aJ.drewN h m
theorem aJ.apart {w0 W:World} {g:Nat} {f0:List Int} {f1:Int} {f2:Int} {α:Type} {d:Kd α} {e:Nat} {base:Nat} {ok:Nat→Prop} {v:Value} {xs:List α} (h:aJ w0 W g f0 f1 f2) (ho:d.R e W base ok v xs) (ht:∀ q,q ∈ e :: d.E→q≠102):d.R e W base (fun k=>ok k∧k≠g) v xs:=by
 obtain ⟨A0,c0,hb,hg,hr0⟩:=h
 exact Kd.dL ho hb ht
theorem aJ.own_ne {w0 W:World} {g:Nat} {f0:List Int} {f1:Int} {f2:Int} {α:Type} {d:Kd α} {e:Nat} {base:Nat} {ok:Nat→Prop} {v:Value} {xs:List α} (h:aJ w0 W g f0 f1 f2) (ho:d.R e W base ok v xs) (ht:e≠102):some g≠v.ownBlock:=by
 obtain ⟨A0,c0,hb,hg,hr0⟩:=h
 exact Kd.iw ho hb ht
theorem aJ.lt {w0 W:World} {g:Nat} {f0:List Int} {f1:Int} {f2:Int} (h:aJ w0 W g f0 f1 f2):g < W.heap.size:=by
 obtain ⟨A0,c0,hb,hg,hr0⟩:=h
 exact fO hb
theorem aJ.ge {w0 W:World} {g:Nat} {f0:List Int} {f1:Int} {f2:Int} (h:aJ w0 W g f0 f1 f2):w0.heap.size≤g:=by
 obtain ⟨A0,c0,hb,hg,hr0⟩:=h
 exact hg
theorem aJ.Fe {w0 W:World} {g:Nat} {f0:List Int} {f1:Int} {f2:Int} {a:Nat} {cs:Array Value} {t:TypeId} {fr:Nat × Nat} (h:aJ w0 W g f0 f1 f2) (hb2:W.heap[a]?=some (.cells cs t fr)) (ht:t≠102):g≠a:=by
 obtain ⟨A0,c0,hb,hg,hr0⟩:=h
 rintro rfl
 rw [hb] at hb2
 injection hb2 with hb2
 injection hb2 with _ ht2
 exact ht ht2.symm
theorem aJ.far {w0 W:World} {g:Nat} {f0:List Int} {f1:Int} {f2:Int} {p:Addr} (h:aJ w0 W g f0 f1 f2) (hne:g≠p.block) (u:Value):aJ w0 (W.setCell p u) g f0 f1 f2:=by
 obtain ⟨A0,c0,hb,hg,hr0⟩:=h
 exact ⟨A0,c0,xK hb hne u,hg,hr0⟩
theorem SQ {W:World} {g:Nat} {A0:Option Addr} {c0:Nat} {f0:List Int} {f1:Int} {f2:Int} (h:W.heap[g]?=some (.cells #[.slice A0 f0.length c0,ah f1,ah f2] 102)):W.cell? ⟨g,0,none⟩=some (.slice A0 f0.length c0):=(aO h 0).trans rfl
theorem SS {W:World} {g:Nat} {A0:Option Addr} {c0:Nat} {f0:List Int} {f1:Int} {f2:Int} (h:W.heap[g]?=some (.cells #[.slice A0 f0.length c0,ah f1,ah f2] 102)):W.cell? ⟨g,1,none⟩=some (ah f1):=(aO h 1).trans rfl
theorem aJ.Iy {w0 W:World} {g:Nat} {f0:List Int} {f1:Int} {f2:Int} (h:aJ w0 W g f0 f1 f2) (x:Int):aJ w0 (W.setCell ⟨g,1,none⟩ (ah x)) g f0 x f2:=by
 obtain ⟨A0,c0,hb,hg,hr0⟩:=h
 exact ⟨A0,c0,(by simpa using Gp hb 1 (ah x)),hg,hr0⟩
theorem SV {W:World} {g:Nat} {A0:Option Addr} {c0:Nat} {f0:List Int} {f1:Int} {f2:Int} (h:W.heap[g]?=some (.cells #[.slice A0 f0.length c0,ah f1,ah f2] 102)):W.cell? ⟨g,2,none⟩=some (ah f2):=(aO h 2).trans rfl
theorem aJ.Iz {w0 W:World} {g:Nat} {f0:List Int} {f1:Int} {f2:Int} (h:aJ w0 W g f0 f1 f2) (x:Int):aJ w0 (W.setCell ⟨g,2,none⟩ (ah x)) g f0 f1 x:=by
 obtain ⟨A0,c0,hb,hg,hr0⟩:=h
 exact ⟨A0,c0,(by simpa using Gp hb 2 (ah x)),hg,hr0⟩
theorem aJ.new (w0 W:World) (A0:Option Addr) (c0:Nat) (f0:List Int) (f1:Int) (f2:Int) (hB:Below w0.heap.size w0 W) (hr0:Kd.C (Kd.int .u8) w0 A0 f0.length f0):aJ w0 (W.alloc (.cells #[.slice A0 f0.length c0,ah f1,ah f2] 102)) W.heap.size f0 f1 f2:=⟨A0,c0,(by simpa using heap_alloc_new W _),hB.size,hr0⟩

def tH.l0:Nat→List Int→Int→Int→Option (List Int × Int × Int)
 | 0,_,_,_=>none
 | k+1,x0,x3,x4=>if x4 < (x0.length:Int) then (if x4 < 4000 then (if 0≤x4 then (tH.l0 k x0 (Go.bits .and .i64 (wrap64 ((wrap64 ((wrap64 (x3 * 131))+(wrap64 (rd x0 x4))))+7)) 1073741823) (wrap64 (x4+1))) else (none)) else (some (x0,0,x3))) else (some (x0,0,x3))
def tH.f (k:Nat) (l0:List Int):Option (List Int × Int × Int):=tH.l0 k l0 (wrap64 (94701+(l0.length:Int))) 0
theorem tH.calls (k:Nat) (A0:Option Addr) (c0:Nat) (l0:List Int) (r1:List Int) (r2:Int) (r3:Int) (w0 w:World) (hB:Below w0.heap.size w0 w) (hr0:Kd.C (Kd.int .u8) w0 A0 l0.length l0) (hc0:l0.length≤c0) (h:tH.f k l0=some (r1,r2,r3)) :
  Calls Tryz.prog 39 #[.slice A0 l0.length c0] w fun e w'=>∃ TB:Nat,e=.returned (.pointer (some ⟨TB,0,none⟩))∧aJ w0 w' TB r1 r2 r3∧Below w0.heap.size w0 w'∧Below w.heap.size w w':=by
 have ah1:=underlying102
 have HR0:=m_ hr0
 have ao:=m_ hc0
 clear hr0 hc0
 have yg:=m_ (Below.refl w.heap.size w)
 have HW0:=m_ hB.size
 have HB:=m_ hB
 clear hB
 unfold tH.f at h
 have H:=h
 clear h
 have H':=m_ H
 clear H
 go_enter func39,ntmps39
 go_wp2
 go_loopg [3,4] k (fun kq v3 v4 w'=>∃ (a6:Int) (a5:Int),v3=ah a6∧v4=ah a5∧aA (tH.l0 kq l0 a6 a5=some (r1,r2,r3))∧aA (kq≤k)∧aA (Below w0.heap.size w0 w')∧aA (Below w.heap.size w w'))
 case atStart=>exact ⟨(wrap64 (94701+(l0.length:Int))),(0),bg,bg,H',⟨Nat.le_refl _⟩,⟨ay⟩,⟨FQ⟩⟩
 case round =>
 clear H'
 obtain ⟨a6,a5,rfl,rfl,HA,iq,HB,yg⟩:=hrel
 cases gk with
 | zero=>exact absurd HA.out (by simp [tH.l0])
 | succ k1 =>
 obtain ⟨H⟩:=HA
 simp only [tH.l0] at H
 revert H;refine gI (fun aN H=>?_) fun aN H=>?_
 rotate_left
 ·simp only [Option.some.injEq,Prod.mk.injEq] at H
  obtain ⟨rfl,rfl,rfl⟩:=H
  go_wp2_with (first|((with_reducible refine dG 31 ?_);refine dU 31 (cs:=#[.slice A0 l0.length c0,ah 0,ah a6]) 102 ?_;intro a8 hg w6 hbox hb;obtain ⟨yg,HB,ac,ae,af⟩:=p_ (dI yg.out hb) <| p_ (dI ay hb) <| p_ (hbox) <| p_ (qW hg FQ) <| a_ ((Nat.le_trans HW0.out (qW hg FQ):w0.heap.size≤a8));clear hb hbox hg))
  go_ret
  exact ⟨_,rfl,(show aJ w0 _ a8 l0 0 a6 from ⟨_,_,(aj ac),af.out,HR0.out⟩),ay,(by repeat (first|(with_reducible first|exact yg.out|apply ny|apply qm|apply k_|refine iL ?_ ae.out)|exact yg.out))⟩
 revert H;refine gI (fun aT H=>?_) fun aT H=>?_
 ·obtain ⟨an,H⟩:=fU H
  have H':=m_ H
  clear H
  have aa:0≤(a5:Int):=bC bD
  have ab:a5 < (l0.length:Int):=bC bD
  obtain ⟨am,al,a7⟩:=Kd.MG HR0.out a5 aa ab
  cases al
  replace a7:=Ip HB.out a7
  replace aa:=eq_true aa
  replace ab:=eq_true ab
  go_wp2
  go_roundg k1
  case measure=>have:=iq.out;omega
  case rel=>exact ⟨(Go.bits .and .i64 (wrap64 ((wrap64 ((wrap64 (a6 * 131))+(wrap64 (rd l0 a5))))+7)) 1073741823),(wrap64 (a5+1)),bg,bg,H',⟨nT⟩,⟨ay⟩,⟨FQ⟩⟩
 simp only [Option.some.injEq,Prod.mk.injEq] at H
 obtain ⟨rfl,rfl,rfl⟩:=H
 go_wp2_with (first|((with_reducible refine dG 31 ?_);refine dU 31 (cs:=#[.slice A0 l0.length c0,ah 0,ah a6]) 102 ?_;intro a9 hg w5 hbox hb;obtain ⟨yg,HB,ag,aP,ai⟩:=p_ (dI yg.out hb) <| p_ (dI ay hb) <| p_ (hbox) <| p_ (qW hg FQ) <| a_ ((Nat.le_trans HW0.out (qW hg FQ):w0.heap.size≤a9));clear hb hbox hg))
 go_ret
 exact ⟨_,rfl,(show aJ w0 _ a9 l0 0 a6 from ⟨_,_,(aj ag),ai.out,HR0.out⟩),ay,(by repeat (first|(with_reducible first|exact yg.out|apply ny|apply qm|apply k_|refine iL ?_ aP.out)|exact yg.out))⟩

def uM.f (aX:List Int) (dW:Int) (dX:Int):Option (Int × Int × Int):=if dW < (aX.length:Int) then (if 0≤dW then (some (Go.bits .and .i64 (wrap64 ((Go.bits .and .i64 (Go.bits .xor .i64 ((wrap64 ((wrap64 (dX * 6364136223846793005))+1442695040888963407)) / 8589934592) ((wrap64 ((wrap64 (dX * 6364136223846793005))+1442695040888963407)) / 35184372088832)) 255)+(wrap64 (rd aX dW)))) 255,wrap64 (dW+1),wrap64 ((wrap64 (dX * 6364136223846793005))+1442695040888963407))) else (none)) else (some (Go.bits .and .i64 (Go.bits .xor .i64 ((wrap64 ((wrap64 (dX * 6364136223846793005))+1442695040888963407)) / 8589934592) ((wrap64 ((wrap64 (dX * 6364136223846793005))+1442695040888963407)) / 35184372088832)) 255,dW,wrap64 ((wrap64 (dX * 6364136223846793005))+1442695040888963407)))
theorem uM.calls (g:Nat) (aX:List Int) (dW:Int) (dX:Int) (r1:Int) (r2:Int) (r3:Int) (w0 w:World) (hI:aJ w0 w g aX dW dX) (hB:Below w0.heap.size w0 w) (h:uM.f aX dW dX=some (r1,r2,r3)) :
  Calls Tryz.prog 130 #[.pointer (some ⟨g,0,none⟩)] w fun e w'=>e=.returned (ah r1)∧aJ w0 w' g aX r2 r3∧Below w0.heap.size w0 w'∧aQ w w' g none:=by
 have HI0:=m_ hI
 have HK:=m_ (aQ.refl w g none)
 have HL:=m_ hB.size
 clear hI
 have HW0:=m_ hB.size
 have HB:=m_ hB
 clear hB
 unfold uM.f at h
 have H:=h
 clear h
 revert H;refine gI (fun ab H=>?_) fun ab H=>?_
 rotate_left
 ·simp only [Option.some.injEq,Prod.mk.injEq] at H
  obtain ⟨rfl,rfl,rfl⟩:=H
  obtain ⟨adE,ad_,Ej,aac,adS⟩:=HI0.out
  have aek:=SQ Ej
  have ael:=SS Ej
  have aem:=SV Ej
  have af6:=dF Ej 1
  have af7:=dF Ej 2
  clear Ej aac
  go_enter func130,ntmps130
  go_wp2
  repeat (go_quiet (fail);try go_wp2)
  go_ret
  exact ⟨b_,aZ,dA,iI⟩
 obtain ⟨ae,H⟩:=fU H
 simp only [Option.some.injEq,Prod.mk.injEq] at H
 obtain ⟨rfl,rfl,rfl⟩:=H
 obtain ⟨adD,ad9,Ei,Z',X4⟩:=HI0.out
 have aeh:=SQ Ei
 have aei:=SS Ei
 have aej:=SV Ei
 have af4:=dF Ei 1
 have af5:=dF Ei 2
 clear Ei Z'
 have a7:0≤(dW:Int):=bC bD
 have a8:dW < (aX.length:Int):=bC bD
 obtain ⟨a9,ac,a5⟩:=Kd.MG X4 dW a7 a8
 cases ac
 have a6:a9.block≠g:=Nat.ne_of_lt (Nat.lt_of_lt_of_le (by have:=World.block_lt_of_cell? _ _ a5;first|rwa [add_block] at this|exact this) (aJ.ge HI0.out))
 replace a5:=Ip HB.out a5
 replace a5:=(cell_far (p:=⟨g,2,none⟩) (Yz a6) (ah (wrap64 ((wrap64 (dX * 6364136223846793005))+1442695040888963407)))).trans a5
 (try have aa:=fun (OJ:Nat)=>(show (((w.drewN OJ).setCell ⟨g,2,none⟩ (ah (wrap64 ((wrap64 (dX * 6364136223846793005))+1442695040888963407))))).cell? _=some _ from a5))
 clear a6
 replace a7:=eq_true a7
 replace a8:=eq_true a8
 go_enter func130,ntmps130
 go_wp2
 repeat (go_quiet (fail);try go_wp2)
 go_ret
 exact ⟨b_,aZ,dA,iI⟩

def nG.f (aX:List Int) (dW:Int) (dX:Int) (a1:Int):Option (Int × Int × Int):=if a1≤0 then (some (0,dW,dX)) else (if a1≤256 then ((uM.f aX dW dX).bind fun a5=>(if a1=0 then (none) else (some (Int.tmod a5.1 a1,a5.2.1,a5.2.2)))) else ((uM.f aX dW dX).bind fun a6=>((uM.f aX a6.2.1 a6.2.2).bind fun a7=>((uM.f aX a7.2.1 a7.2.2).bind fun a8=>((uM.f aX a8.2.1 a8.2.2).bind fun a9=>(if a1=0 then (none) else (some (Int.tmod (wrap64 ((wrap64 ((wrap64 ((wrap64 (a6.1 * 16777216))+(wrap64 (a7.1 * 65536))))+(wrap64 (a8.1 * 256))))+a9.1)) a1,a9.2.1,a9.2.2))))))))
theorem nG.calls (g:Nat) (aX:List Int) (dW:Int) (dX:Int) (a1:Int) (r1:Int) (r2:Int) (r3:Int) (w0 w:World) (hI:aJ w0 w g aX dW dX) (hB:Below w0.heap.size w0 w) (h:nG.f aX dW dX a1=some (r1,r2,r3)) :
  Calls Tryz.prog 87 #[.pointer (some ⟨g,0,none⟩),ah a1] w fun e w'=>e=.returned (ah r1)∧aJ w0 w' g aX r2 r3∧Below w0.heap.size w0 w'∧aQ w w' g none:=by
 have HI0:=m_ hI
 have HK:=m_ (aQ.refl w g none)
 have HL:=m_ hB.size
 clear hI
 have HW0:=m_ hB.size
 have HB:=m_ hB
 clear hB
 unfold nG.f at h
 have H:=h
 clear h
 revert H;refine gI (fun ab H=>?_) fun ab H=>?_
 ·simp only [Option.some.injEq,Prod.mk.injEq] at H
  obtain ⟨rfl,rfl,rfl⟩:=H
  go_enter func87,ntmps87
  go_wp2
  go_ret
  exact ⟨b_,aZ,dA,iI⟩
 revert H;refine gI (fun ac H=>?_) fun ac H=>?_
 ·obtain ⟨⟨ae,af,ag⟩,A5,H⟩:=bd_ H
  try dsimp -simprocs only at H
  obtain ⟨c6,H⟩:=Tv H
  have aq:=gU c6
  have ar:=gV c6
  simp only [Option.some.injEq,Prod.mk.injEq] at H
  obtain ⟨rfl,rfl,rfl⟩:=H
  go_enter func87,ntmps87
  go_wp2_with (first|((with_reducible refine bU 130 ?_);refine bV (some 14) rfl rfl func130 aB rfl #[.pointer (some ⟨g,0,none⟩)] rfl aW ?_;(with_reducible refine (uM.calls g aX dW dX ae af ag w0 _ aZ dA A5.out).mono ?_);rintro e w7 ⟨rfl,hi,hb,hk⟩;refine ⟨_,rfl,?_⟩;obtain ⟨HK,HB,HI0⟩:=p_ (aQ.trans iI hk (.inl rfl)) <| p_ (hb) <| a_ (hi);(try clear hb);(try clear hk);(try clear hi)))
  go_ret
  exact ⟨b_,aZ,dA,iI⟩
 obtain ⟨⟨aP,a5,a6⟩,x8,H⟩:=bd_ H
 try dsimp -simprocs only at H
 obtain ⟨⟨ai,a7,a8⟩,A9,H⟩:=bd_ H
 try dsimp -simprocs only at H
 obtain ⟨⟨aN,a9,aa⟩,bP,H⟩:=bd_ H
 try dsimp -simprocs only at H
 obtain ⟨⟨aT,al,am⟩,av,H⟩:=bd_ H
 try dsimp -simprocs only at H
 obtain ⟨an,H⟩:=Tv H
 have ao:=gU an
 have ap:=gV an
 simp only [Option.some.injEq,Prod.mk.injEq] at H
 obtain ⟨rfl,rfl,rfl⟩:=H
 go_enter func87,ntmps87
 go_wp2_with (first|((with_reducible refine bU 130 ?_);refine bV (some 18) rfl rfl func130 aB rfl #[.pointer (some ⟨g,0,none⟩)] rfl aW ?_;(with_reducible refine (uM.calls g aX dW dX aP a5 a6 w0 _ aZ dA x8.out).mono ?_);rintro e aw ⟨rfl,hi,hb,hk⟩;refine ⟨_,rfl,?_⟩;obtain ⟨HK,HB,HI0⟩:=p_ (aQ.trans iI hk (.inl rfl)) <| p_ (hb) <| a_ (hi);(try clear hb);(try clear hk);(try clear hi))|((with_reducible refine bU 130 ?_);refine bV (some 20) rfl rfl func130 aB rfl #[.pointer (some ⟨g,0,none⟩)] rfl aW ?_;(with_reducible refine (uM.calls g aX a5 a6 ai a7 a8 w0 _ aZ dA A9.out).mono ?_);rintro e ax ⟨rfl,hi,hb,hk⟩;refine ⟨_,rfl,?_⟩;obtain ⟨HK,HB,HI0⟩:=p_ (aQ.trans iI hk (.inl rfl)) <| p_ (hb) <| a_ (hi);(try clear hb);(try clear hk);(try clear hi))|((with_reducible refine bU 130 ?_);refine bV (some 22) rfl rfl func130 aB rfl #[.pointer (some ⟨g,0,none⟩)] rfl aW ?_;(with_reducible refine (uM.calls g aX a7 a8 aN a9 aa w0 _ aZ dA bP.out).mono ?_);rintro e dw ⟨rfl,hi,hb,hk⟩;refine ⟨_,rfl,?_⟩;obtain ⟨HK,HB,HI0⟩:=p_ (aQ.trans iI hk (.inl rfl)) <| p_ (hb) <| a_ (hi);(try clear hb);(try clear hk);(try clear hi))|((with_reducible refine bU 130 ?_);refine bV (some 24) rfl rfl func130 aB rfl #[.pointer (some ⟨g,0,none⟩)] rfl aW ?_;(with_reducible refine (uM.calls g aX a9 aa aT al am w0 _ aZ dA av.out).mono ?_);rintro e az ⟨rfl,hi,hb,hk⟩;refine ⟨_,rfl,?_⟩;obtain ⟨HK,HB,HI0⟩:=p_ (aQ.trans iI hk (.inl rfl)) <| p_ (hb) <| a_ (hi);(try clear hb);(try clear hk);(try clear hi)))
 go_ret
 exact ⟨b_,aZ,dA,iI⟩

def vO.f (aX:List Int) (dW:Int) (dX:Int):Option (Int × Int × Int × Int × Int × Int):=(nG.f aX dW dX 3).bind fun a6=>((nG.f aX a6.2.1 a6.2.2 7).bind fun a5=>((nG.f aX a5.2.1 a5.2.2 4).bind fun a7=>((nG.f aX a7.2.1 a7.2.2 (wrap64 ((wrap64 (6+a5.1)) - 4))).bind fun a8=>(some (wrap64 (1+a6.1),wrap64 (6+a5.1),wrap64 (3+a7.1),wrap64 (1+a8.1),a8.2.1,a8.2.2)))))
theorem vO.calls (g:Nat) (aX:List Int) (dW:Int) (dX:Int) (r1:Int) (r2:Int) (r3:Int) (r4:Int) (r5:Int) (r6:Int) (w0 w:World) (hI:aJ w0 w g aX dW dX) (hB:Below w0.heap.size w0 w) (h:vO.f aX dW dX=some (r1,r2,r3,r4,r5,r6)) :
  Calls Tryz.prog 40 #[.pointer (some ⟨g,0,none⟩)] w fun e w'=>e=.returned (.agg #[ah r1,ah r2,ah r3,ah r4])∧aJ w0 w' g aX r5 r6∧Below w0.heap.size w0 w'∧aQ w w' g none:=by
 have w_:=underlying25
 have HI0:=m_ hI
 have HK:=m_ (aQ.refl w g none)
 have HL:=m_ hB.size
 clear hI
 have HW0:=m_ hB.size
 have HB:=m_ hB
 clear hB
 unfold vO.f at h
 have H:=h
 clear h
 obtain ⟨⟨aN,al,am⟩,A2,H⟩:=bd_ H
 try dsimp -simprocs only at H
 obtain ⟨⟨af,an,ao⟩,A3,H⟩:=bd_ H
 try dsimp -simprocs only at H
 obtain ⟨⟨aT,ag,aP⟩,A4,H⟩:=bd_ H
 try dsimp -simprocs only at H
 obtain ⟨⟨ap,aq,ar⟩,A5,H⟩:=bd_ H
 try dsimp -simprocs only at H
 simp only [Option.some.injEq,Prod.mk.injEq] at H
 obtain ⟨rfl,rfl,rfl,rfl,rfl,rfl⟩:=H
 go_enter func40,ntmps40
 go_wp2_with (first|((with_reducible refine dG 2 ?_);refine dU 2 (cs:=#[ah 0,ah 0,ah 0,ah 0]) 25 ?_;intro a6 hg w6 hbox hb;have eP:=p_ (aJ.below aZ hb) <| p_ (aQ.trans iI (aQ.of_below hb g none) (.inl rfl)) <| p_ (dI dA hb) <| p_ (hbox) <| p_ ((by rw [hg];exact (gY (w:=w) (g:=g) (row:=none) iI):w.heap.size≤a6)) <| p_ ((Nat.le_trans HW0.out (by rw [hg];exact (gY (w:=w) (g:=g) (row:=none) iI):w.heap.size≤a6):w0.heap.size≤a6)) <| p_ ((by rw [hg];exact Nat.ne_of_lt (aJ.lt (show aJ w0 _ g aX dW dX from aZ)):g≠a6)) <| a_ ((by rw [hg];exact Nat.ne_of_gt (aJ.lt (show aJ w0 _ g aX dW dX from aZ)):a6≠g));clear HI0 HK HB;obtain ⟨HI0,HK,HB,a5,Qr,Lh,L8,a7⟩:=eP;clear hb hbox hg)|((with_reducible refine bU 87 ?_);refine bV (some 5) rfl rfl func87 aB rfl #[.pointer (some ⟨g,0,none⟩),ah 3] rfl aW ?_;(with_reducible refine (nG.calls g aX dW dX 3 aN al am w0 _ aZ dA A2.out).mono ?_);rintro e w7 ⟨rfl,hi,hb,hk⟩;refine ⟨_,rfl,?_⟩;obtain ⟨a5,HK,HB,HI0⟩:=p_ (aQ.blk hk (g':=a6) (o:=.cells #[ah 0,ah 0,ah 0,ah 0] 25) (aj a5) a7.out (by simp)) <| p_ (aQ.trans FP hk (.inl rfl)) <| p_ (hb) <| a_ (hi);(try clear hb);(try clear hk);(try clear hi))|((with_reducible refine bU 87 ?_);refine bV (some 8) rfl rfl func87 aB rfl #[.pointer (some ⟨g,0,none⟩),ah 7] rfl aW ?_;(with_reducible refine (nG.calls g aX al am 7 af an ao w0 _ aZ dA A3.out).mono ?_);rintro e w8 ⟨rfl,hi,hb,hk⟩;refine ⟨_,rfl,?_⟩;obtain ⟨a5,HK,HB,HI0⟩:=p_ (aQ.blk hk (g':=a6) (o:=.cells #[ah 0,ah 0,ah 0,ah 0] 25) (aj a5) a7.out (by simp)) <| p_ (aQ.trans FP hk (.inl rfl)) <| p_ (hb) <| a_ (hi);(try clear hb);(try clear hk);(try clear hi))|((with_reducible refine bU 87 ?_);refine bV (some 11) rfl rfl func87 aB rfl #[.pointer (some ⟨g,0,none⟩),ah 4] rfl aW ?_;(with_reducible refine (nG.calls g aX an ao 4 aT ag aP w0 _ aZ dA A4.out).mono ?_);rintro e w9 ⟨rfl,hi,hb,hk⟩;refine ⟨_,rfl,?_⟩;obtain ⟨a5,HK,HB,HI0⟩:=p_ (aQ.blk hk (g':=a6) (o:=.cells #[ah 0,ah 0,ah 0,ah 0] 25) (aj a5) a7.out (by simp)) <| p_ (aQ.trans FP hk (.inl rfl)) <| p_ (hb) <| a_ (hi);(try clear hb);(try clear hk);(try clear hi))|((with_reducible refine dG 3 ?_);refine dU 3 (cs:=#[ah 0,ah 0,ah 0,ah 0]) 25 ?_;intro a8 hg b3 hbox hb;have eP:=p_ (aJ.below aZ hb) <| p_ (bG (aj a5) hb) <| p_ (aQ.trans FP (aQ.of_below hb g none) (.inl rfl)) <| p_ (dI (by repeat (first|(with_reducible first|exact HB.out|apply ny|apply qm|apply k_|refine iL ?_ (aJ.ge HI0.out)|refine iL ?_ Lh.out)|exact HB.out)) hb) <| p_ (hbox) <| p_ ((by rw [hg];exact (gY (w:=w) (g:=g) (row:=none) FP):w.heap.size≤a8)) <| p_ ((Nat.le_trans HW0.out (by rw [hg];exact (gY (w:=w) (g:=g) (row:=none) FP):w.heap.size≤a8):w0.heap.size≤a8)) <| p_ (kW hg (fO (aj a5))) <| p_ (kU hg (fO (aj a5))) <| p_ ((by rw [hg];exact Nat.ne_of_lt (aJ.lt (show aJ w0 _ g aX ag aP from aZ)):g≠a8)) <| a_ ((by rw [hg];exact Nat.ne_of_gt (aJ.lt (show aJ w0 _ g aX ag aP from aZ)):a8≠g));clear HI0 a5 HK HB;obtain ⟨HI0,a5,HK,HB,ab,XW,ai,a9,ae,aa,ac⟩:=eP;clear hb hbox hg;obtain ⟨aw,ax,bP,av⟩:=jE ae a9 ac aa;have b0:=jQ ab.out)|((with_reducible refine bU 87 ?_);refine bV (some 18) rfl rfl func87 aB rfl #[.pointer (some ⟨g,0,none⟩),ah (wrap64 ((wrap64 (6+af)) - 4))] rfl aW ?_;(with_reducible refine (nG.calls g aX ag aP (wrap64 ((wrap64 (6+af)) - 4)) ap aq ar w0 _ ?kG ?pX A5.out).mono ?_);(case kG=>repeat (first|(with_reducible first|exact HI0.out|apply aJ.alloc|apply aJ.drewN|apply aJ.drew|apply aJ.Iy|apply aJ.Iz|refine aJ.far ?_ L8.out _|refine aJ.far ?_ aa.out _)|exact HI0.out));(case pX=>repeat (first|(with_reducible first|exact HB.out|apply ny|apply qm|apply k_|refine iL ?_ (aJ.ge HI0.out)|refine iL ?_ Lh.out|refine iL ?_ ai.out)|exact HB.out));rintro e b4 ⟨rfl,hi,hb,hk⟩;refine ⟨_,rfl,?_⟩;obtain ⟨a5,ab,HK,HB,HI0⟩:=p_ (aQ.blk hk (g':=a6) (o:=.cells #[ah 0,ah 0,ah 0,ah 0] 25) (lM a5.out a9.out) a7.out (by simp)) <| p_ (aQ.blk hk (g':=a8) (o:=.cells #[ah (wrap64 (1+aN)),ah (wrap64 (6+af)),ah (wrap64 (3+aT)),ah 0] 25) (wB ab.out) ac.out (by simp)) <| p_ (aQ.trans WV hk (.inl rfl)) <| p_ (hb) <| a_ (hi);(try clear hb);(try clear hk);(try clear hi);have b1:=jQ ab.out;obtain ⟨dw,az⟩:=iJ a7 L8;have b2:=jQ a5.out))
 refine bodyPost_ret (results_cell_row rfl _ _ a6 25 #[ah (wrap64 (1+aN)),ah (wrap64 (6+af)),ah (wrap64 (3+aT)),ah (wrap64 (1+ap))] (0,0) _ rfl bH underlying25 rfl aB) rfl ?_
 exact ⟨b_,(by repeat (first|(with_reducible first|exact HI0.out|apply aJ.alloc|apply aJ.drewN|apply aJ.drew|apply aJ.Iy|apply aJ.Iz|refine aJ.far ?_ L8.out _|refine aJ.far ?_ aa.out _)|exact HI0.out)),(by repeat (first|(with_reducible first|exact HB.out|apply ny|apply qm|apply k_|refine iL ?_ (aJ.ge HI0.out)|refine iL ?_ Lh.out|refine iL ?_ ai.out)|exact HB.out)),WV⟩

def wE.f (aX:List Int) (dW:Int) (dX:Int) (a1:Int):Option (Bool × Int × Int):=(nG.f aX dW dX a1).bind fun a5=>(some ((a5.1 == 0),a5.2.1,a5.2.2))
theorem wE.calls (g:Nat) (aX:List Int) (dW:Int) (dX:Int) (a1:Int) (r1:Bool) (r2:Int) (r3:Int) (w0 w:World) (hI:aJ w0 w g aX dW dX) (hB:Below w0.heap.size w0 w) (h:wE.f aX dW dX a1=some (r1,r2,r3)) :
  Calls Tryz.prog 42 #[.pointer (some ⟨g,0,none⟩),ah a1] w fun e w'=>e=.returned (.bool r1)∧aJ w0 w' g aX r2 r3∧Below w0.heap.size w0 w'∧aQ w w' g none:=by
 have HI0:=m_ hI
 have HK:=m_ (aQ.refl w g none)
 have HL:=m_ hB.size
 clear hI
 have HW0:=m_ hB.size
 have HB:=m_ hB
 clear hB
 unfold wE.f at h
 have H:=h
 clear h
 obtain ⟨⟨a5,a6,a7⟩,A3,H⟩:=bd_ H
 try dsimp -simprocs only at H
 simp only [Option.some.injEq,Prod.mk.injEq] at H
 obtain ⟨rfl,rfl,rfl⟩:=H
 go_enter func42,ntmps42
 go_wp2_with (first|((with_reducible refine bU 87 ?_);refine bV (some 7) rfl rfl func87 aB rfl #[.pointer (some ⟨g,0,none⟩),ah a1] rfl aW ?_;(with_reducible refine (nG.calls g aX dW dX a1 a5 a6 a7 w0 _ aZ dA A3.out).mono ?_);rintro e w4 ⟨rfl,hi,hb,hk⟩;refine ⟨_,rfl,?_⟩;obtain ⟨HK,HB,HI0⟩:=p_ (aQ.trans iI hk (.inl rfl)) <| p_ (hb) <| a_ (hi);(try clear hb);(try clear hk);(try clear hi)))
 go_ret
 exact ⟨b_,aZ,dA,iI⟩

def yY.f (aX:List Int) (dW:Int) (dX:Int) (l1:List ByteArray):Option (ByteArray × Int × Int):=(nG.f aX dW dX (l1.length:Int)).bind fun a5=>(if 0≤a5.1 then (if a5.1 < (l1.length:Int) then (some (pW ByteArray.empty l1 a5.1,a5.2.1,a5.2.2)) else (none)) else (none))
theorem yY.calls (g:Nat) (aX:List Int) (dW:Int) (dX:Int) (A1:Option Addr) (c1:Nat) (l1:List ByteArray) (r1:ByteArray) (r2:Int) (r3:Int) (w0 w:World) (hI:aJ w0 w g aX dW dX) (hB:Below w0.heap.size w0 w) (hr1:Kd.C Kd.string w A1 l1.length l1) (hc1:l1.length≤c1) (hf1:∀ ad,A1=some ad→0 < l1.length→ad.block≠g) (h:yY.f aX dW dX l1=some (r1,r2,r3)) :
  Calls Tryz.prog 93 #[.pointer (some ⟨g,0,none⟩),.slice A1 l1.length c1] w fun e w'=>e=.returned (.string r1)∧aJ w0 w' g aX r2 r3∧Below w0.heap.size w0 w'∧aQ w w' g none:=by
 have ae:=m_ hr1
 have aP:=m_ hc1
 clear hr1 hc1
 have HI0:=m_ hI
 have HK:=m_ (aQ.refl w g none)
 have HL:=m_ hB.size
 clear hI
 have HW0:=m_ hB.size
 have HB:=m_ hB
 clear hB
 unfold yY.f at h
 have H:=h
 clear h
 obtain ⟨⟨a6,aa,ab⟩,A3,H⟩:=bd_ H
 try dsimp -simprocs only at H
 obtain ⟨af,H⟩:=fU H
 obtain ⟨ag,H⟩:=fU H
 simp only [Option.some.injEq,Prod.mk.injEq] at H
 obtain ⟨rfl,rfl,rfl⟩:=H
 go_enter func93,ntmps93
 go_wp2_with (first|((with_reducible refine bU 87 ?_);refine bV (some 9) rfl rfl func87 aB rfl #[.pointer (some ⟨g,0,none⟩),ah (l1.length:Int)] rfl aW ?_;(with_reducible refine (nG.calls g aX dW dX (l1.length:Int) a6 aa ab w0 _ aZ dA A3.out).mono ?_);rintro e w6 ⟨rfl,hi,hb,hk⟩;refine ⟨_,rfl,?_⟩;obtain ⟨HK,HB,HI0⟩:=p_ (aQ.trans iI hk (.inl rfl)) <| p_ (hb) <| a_ (hi);(try clear hb);(try clear hk);(try clear hi);have a7:0≤(a6:Int):=bC bD;have a8:a6 < (l1.length:Int):=bC bD;obtain ⟨a9,ac,a5⟩:=Kd.yw ae.out a6 a7 a8;cases ac;replace a5:=JU HK.out a5 (by first|(rw [add_block];exact hf1 _ rfl (by omega))|exact hf1 _ rfl (by omega)|exact hf1 a9 rfl (by omega));replace a7:=eq_true a7;replace a8:=eq_true a8))
 go_ret
 exact ⟨b_,aZ,dA,iI⟩

def rY.f (aX:List Int) (dW:Int) (dX:Int):Option (ByteArray × Int × Int):=(yY.f aX dW dX (([(⟨#[47]⟩:ByteArray),(⟨#[47,97]⟩:ByteArray),(⟨#[47,98]⟩:ByteArray),(⟨#[47,99]⟩:ByteArray),(⟨#[47,97,47,98]⟩:ByteArray),(⟨#[47,97,47,99]⟩:ByteArray),(⟨#[47,97,47,98,47,99]⟩:ByteArray),(⟨#[47,98,47,97]⟩:ByteArray),(⟨#[47,99,47,97]⟩:ByteArray),(⟨#[47,100]⟩:ByteArray),(⟨#[47,97,98]⟩:ByteArray),(⟨#[47,120,49]⟩:ByteArray),(⟨#[47,97,47,97,98,99,100,101,102,103]⟩:ByteArray)]:List ByteArray))).bind fun a5=>(some (a5.1,a5.2.1,a5.2.2))
theorem rY.calls (g:Nat) (aX:List Int) (dW:Int) (dX:Int) (r1:ByteArray) (r2:Int) (r3:Int) (w0 w:World) (hI:aJ w0 w g aX dW dX) (hB:Below w0.heap.size w0 w) (h:rY.f aX dW dX=some (r1,r2,r3)) :
  Calls Tryz.prog 44 #[.pointer (some ⟨g,0,none⟩)] w fun e w'=>e=.returned (.string r1)∧aJ w0 w' g aX r2 r3∧Below w0.heap.size w0 w'∧aQ w w' g none:=by
 have HI0:=m_ hI
 have HK:=m_ (aQ.refl w g none)
 have HL:=m_ hB.size
 clear hI
 have HW0:=m_ hB.size
 have HB:=m_ hB
 clear hB
 unfold rY.f at h
 have H:=h
 clear h
 obtain ⟨a9,a6⟩:∃ y_:List ByteArray,y_=(([(⟨#[47]⟩:ByteArray),(⟨#[47,97]⟩:ByteArray),(⟨#[47,98]⟩:ByteArray),(⟨#[47,99]⟩:ByteArray),(⟨#[47,97,47,98]⟩:ByteArray),(⟨#[47,97,47,99]⟩:ByteArray),(⟨#[47,97,47,98,47,99]⟩:ByteArray),(⟨#[47,98,47,97]⟩:ByteArray),(⟨#[47,99,47,97]⟩:ByteArray),(⟨#[47,100]⟩:ByteArray),(⟨#[47,97,98]⟩:ByteArray),(⟨#[47,120,49]⟩:ByteArray),(⟨#[47,97,47,97,98,99,100,101,102,103]⟩:ByteArray)]:List ByteArray)):=⟨_,rfl⟩
 rw [← a6] at H
 have a8:=m_ a6
 clear a6
 obtain ⟨⟨aa,ab,ac⟩,A2,H⟩:=bd_ H
 try dsimp -simprocs only at H
 simp only [Option.some.injEq,Prod.mk.injEq] at H
 obtain ⟨rfl,rfl,rfl⟩:=H
 go_enter func44,ntmps44
 go_wp2_with (first|((with_reducible refine dG 4 ?_);refine Kd.qV Kd.string _ 9 ?hg (N:=4) ?hd (xs:=([(⟨#[47]⟩:ByteArray),(⟨#[47,97]⟩:ByteArray),(⟨#[47,98]⟩:ByteArray),(⟨#[47,99]⟩:ByteArray),(⟨#[47,97,47,98]⟩:ByteArray),(⟨#[47,97,47,99]⟩:ByteArray),(⟨#[47,97,47,98,47,99]⟩:ByteArray),(⟨#[47,98,47,97]⟩:ByteArray),(⟨#[47,99,47,97]⟩:ByteArray),(⟨#[47,100]⟩:ByteArray),(⟨#[47,97,98]⟩:ByteArray),(⟨#[47,120,49]⟩:ByteArray),(⟨#[47,97,47,97,98,99,100,101,102,103]⟩:ByteArray)]:List ByteArray)) (inner:=[.string (⟨#[47]⟩:ByteArray),.string (⟨#[47,97]⟩:ByteArray),.string (⟨#[47,98]⟩:ByteArray),.string (⟨#[47,99]⟩:ByteArray),.string (⟨#[47,97,47,98]⟩:ByteArray),.string (⟨#[47,97,47,99]⟩:ByteArray),.string (⟨#[47,97,47,98,47,99]⟩:ByteArray),.string (⟨#[47,98,47,97]⟩:ByteArray),.string (⟨#[47,99,47,97]⟩:ByteArray),.string (⟨#[47,100]⟩:ByteArray),.string (⟨#[47,97,98]⟩:ByteArray),.string (⟨#[47,120,49]⟩:ByteArray),.string (⟨#[47,97,47,97,98,99,100,101,102,103]⟩:ByteArray)]) (ok:=fun _=>True) (iT:=fun _=>True) ?hr ?hp (fun _ hk=>hk) trivial (Below.refl _ _) (Nat.le_refl _) (by simp) ?_;(case hd=>rfl);(case hg=>rfl);(case hr=>first|(go_simp;done)|(go_simp;rfl));(case hp=>exact (bM.one (show Kd.M Kd.string _ _ _ (⟨#[47]⟩:ByteArray) [.string (⟨#[47]⟩:ByteArray)] from rfl) (bM.one (show Kd.M Kd.string _ _ _ (⟨#[47,97]⟩:ByteArray) [.string (⟨#[47,97]⟩:ByteArray)] from rfl) (bM.one (show Kd.M Kd.string _ _ _ (⟨#[47,98]⟩:ByteArray) [.string (⟨#[47,98]⟩:ByteArray)] from rfl) (bM.one (show Kd.M Kd.string _ _ _ (⟨#[47,99]⟩:ByteArray) [.string (⟨#[47,99]⟩:ByteArray)] from rfl) (bM.one (show Kd.M Kd.string _ _ _ (⟨#[47,97,47,98]⟩:ByteArray) [.string (⟨#[47,97,47,98]⟩:ByteArray)] from rfl) (bM.one (show Kd.M Kd.string _ _ _ (⟨#[47,97,47,99]⟩:ByteArray) [.string (⟨#[47,97,47,99]⟩:ByteArray)] from rfl) (bM.one (show Kd.M Kd.string _ _ _ (⟨#[47,97,47,98,47,99]⟩:ByteArray) [.string (⟨#[47,97,47,98,47,99]⟩:ByteArray)] from rfl) (bM.one (show Kd.M Kd.string _ _ _ (⟨#[47,98,47,97]⟩:ByteArray) [.string (⟨#[47,98,47,97]⟩:ByteArray)] from rfl) (bM.one (show Kd.M Kd.string _ _ _ (⟨#[47,99,47,97]⟩:ByteArray) [.string (⟨#[47,99,47,97]⟩:ByteArray)] from rfl) (bM.one (show Kd.M Kd.string _ _ _ (⟨#[47,100]⟩:ByteArray) [.string (⟨#[47,100]⟩:ByteArray)] from rfl) (bM.one (show Kd.M Kd.string _ _ _ (⟨#[47,97,98]⟩:ByteArray) [.string (⟨#[47,97,98]⟩:ByteArray)] from rfl) (bM.one (show Kd.M Kd.string _ _ _ (⟨#[47,120,49]⟩:ByteArray) [.string (⟨#[47,120,49]⟩:ByteArray)] from rfl) (bM.one (show Kd.M Kd.string _ _ _ (⟨#[47,97,47,97,98,99,100,101,102,103]⟩:ByteArray) [.string (⟨#[47,97,47,97,98,99,100,101,102,103]⟩:ByteArray)] from rfl) (bM.none _ _)))))))))))))));intro aiA w3 yO hb jc jd;clear jc jd;(first|rw [← a8.out] at yO|(simp only [Int.reduceToNat] at yO;rw [← a8.out] at yO));obtain ⟨a5,HI0,HK,HB⟩:=p_ (Kd.dK yO (gY (w:=w) (g:=g) (row:=none) iI)) <| p_ (aJ.below aZ hb) <| p_ (aQ.trans iI (aQ.of_below hb g none) (.inl rfl)) <| a_ (dI dA hb);clear hb yO;obtain ⟨ae,af,ag⟩:=Kd.dJ a5.out;subst ag)|((with_reducible refine bU 93 ?_);refine bV (some 5) rfl rfl func93 aB rfl #[.pointer (some ⟨g,0,none⟩),.slice ae a9.length af] rfl aW ?_;(with_reducible refine (yY.calls g aX dW dX _ _ a9 aa ab ac w0 _ aZ dA ?mJ ((Kd.bZ a5.out).2.1) (wV (aJ.own_ne HI0.out a5.out (by decide))) A2.out).mono ?_);(case mJ=>repeat (first|exact (Kd.bZ a5.out).2.2|(with_reducible refine Kd.jJ ?_ _)|(with_reducible refine Kd.jL ?_ _)|(with_reducible refine Kd.jK ?_)));rintro e w6 ⟨rfl,hi,hb,hk⟩;refine ⟨_,rfl,?_⟩;obtain ⟨a5,HK,HB,HI0⟩:=p_ (Kd.bW (Kd.lY (aJ.apart (show aJ w0 _ g aX dW dX from aZ) (aG a5) (by decide)) hk (fun _ h=>h.2)) (fun _ h=>h.1)) <| p_ (aQ.trans iI hk (.inl rfl)) <| p_ (hb) <| a_ (hi);(try clear hb);(try clear hk);(try clear hi)))
 go_ret
 exact ⟨b_,aZ,dA,iI⟩

def qo.l0:Nat→ByteArray→Int→List (aC)→List (aC)→Option ((List (aC)))
 | 0,_,_,_,_=>none
 | k+1,x1,x6,a5,a6=>if x6 < (a5.length:Int) then (if 0≤x6 then (if ((au a5 x6).f0).toList=x1.toList then (qo.l0 k x1 (wrap64 (x6+1)) a5 a6) else (if a6.length < 3518437208883 then (qo.l0 k x1 (wrap64 (x6+1)) a5 (a6++[(⟨(au a5 x6).f0,(au a5 x6).f1,(au a5 x6).f2⟩:aC)])) else (none))) else (none)) else (some a6)
def qo.f (k:Nat) (a5:List (aC)) (a1:ByteArray):Option ((List (aC))):=qo.l0 k a1 0 a5 ([]:List (aC))
def qo.T6:Bool × List (List Nat × List Nat):=(true,[([],[]),([0],[0]),([],[]),([2],[2]),([],[]),([3,4],[3,4]),([5],[5]),([6],[6]),([1,7],[1,7]),([0,1,2,3,4,5,6,7,8],[]),([9,8,8,0,1,2,3,4,5,6,7,8],[8,9])])
def qo.B6:List Nat:=[0,1,0,4,0,28,60,124,255,511,1023]
theorem qo.calls (k:Nat) (b7:Option Addr) (b3:Nat) (aH:List (aC)) (a1:ByteArray) (r:List (aC)) (w:World) (b8:Kd.C bF w b7 aH.length aH) (b9:aH.length≤b3) (h:qo.f k aH a1=some r) :
  Calls Tryz.prog 77 #[.agg #[.slice b7 aH.length b3],.string a1] w fun e w'=>∃ gQ:Value,e=.returned (.agg #[gQ])∧Kd.R bF 43 w' w.heap.size (fun _=>True) gQ r∧Below w.heap.size w w':=by
 have oq:=underlying28
 have rF:=underlying43
 have lF:=m_ b8
 have bx:=m_ b9
 clear b8 b9
 have HB:=m_ (Below.refl w.heap.size w)
 unfold qo.f at h
 have H:=h
 clear h
 have H':=m_ H
 clear H
 go_enter func77,ntmps77
 go_wp2_with (first|((with_reducible refine dG 2 ?_);refine dU 2 (cs:=#[.slice b7 aH.length b3]) 28 ?_;intro b4 hg w3 hbox hb;obtain ⟨HB,a6,bz,ca⟩:=kE ay hb hbox hg;clear hb hbox hg)|((with_reducible refine dG 4 ?_);refine dU 4 (cs:=#[.slice none 0 0]) 28 ?_;intro b5 hg w4 hbox hb;obtain ⟨a6,HB,aa,cc,cd,aN,aT⟩:=qj (aj a6) ay hb hbox hg;clear hb hbox hg)|((with_reducible refine dG 5 ?_);refine dU 5 (cs:=#[.slice none 0 0]) 28 ?_;intro b2 hg w5 hbox hb;obtain ⟨a6,aa,HB,a8,ce,cf,af,ag,al,am⟩:=wu (aj a6) (aj aa) ay hb hbox hg;clear hb hbox hg;obtain ⟨aP,ai,ar,bP⟩:=jE ag af am al;have wH:=cu a8.out))
 go_loopg [6] k (fun kq v6 w'=>∃ (a7:Int) (a9:List (aC)) (BN:Value),v6=ah a7∧aA (qo.l0 kq a1 a7 aH a9=some r)∧aA (kq≤k)∧aA (Kd.R bF 43 w' w.heap.size (fun _=>True) BN a9)∧aA (w'.heap[b4]?=some (.cells #[(.slice b7 aH.length b3)] 28))∧aA (w'.heap[b5]?=some (.cells #[(.slice none 0 0)] 28))∧aA (w'.heap[b2]?=some (.cells #[BN] 28))∧aA (Below w.heap.size w w'))
 case atStart=>exact ⟨(0),(([]:List (aC))),(.slice none 0 0),bg,H',⟨Nat.le_refl _⟩,⟨tN⟩,⟨bH⟩,⟨bH⟩,⟨bH⟩,⟨ay⟩⟩
 case round =>
 clear H'
 try clear wH
 obtain ⟨a7,a9,BN,rfl,HA,iq,a5,a6,aa,a8,HB⟩:=hrel
 cases gk with
 | zero=>exact absurd HA.out (by simp [qo.l0])
 | succ k1 =>
 obtain ⟨H⟩:=HA
 simp only [qo.l0] at H
 have cg:=m_ H
 clear H
 obtain ⟨dw,az,ch,ci⟩:=jE aN aT af ag
 have zF:=cu a6.out
 go_upto_if 12 with (fail)
 (try clear dw ai az bP aP ar)
 (try clear zF)
 obtain ⟨H⟩:=cg
 revert H;refine gI (fun b0 H=>?_) fun b0 H=>?_
 rotate_left
 ·try simp only [bI,bY,b0]
  obtain rfl:=cZ H
  obtain ⟨aP,ai,ar,bP⟩:=jE ag af am al
  have Qn:=cu a8.out
  obtain ⟨bp,bq,br⟩:=Kd.dJ a5.out
  subst br
  have XB:=cu aa.out
  go_wp2
  refine bodyPost_ret (results_cell_row rfl _ _ b5 28 #[.slice bp a9.length bq] (0,0) _ rfl bH underlying28 rfl aB) rfl ?_
  exact ⟨_,b_,(by (with_reducible repeat (first|apply Kd.dR|apply Kd.dS|apply Kd.bK));exact Kd.bW (aU (Kd.dL a5.out aa.out (by decide))) (fun _ hk=>trivial)),ay⟩
 try simp only [bI,bY,b0]
 obtain ⟨ck,H⟩:=fU H
 have bi:=m_ H
 clear H
 have FW:=cu a6.out
 have bb:0≤(a7:Int):=bC bD
 have bc:a7 < (aH.length:Int):=bC bD
 obtain ⟨an,bs,av,aw,ax⟩:=jP lF.out a7 bb bc
 cases bs
 replace av:=gu HB.out av
 replace aw:=gu HB.out aw
 replace ax:=gu HB.out ax
 replace bb:=eq_true bb
 replace bc:=eq_true bc
 go_upto_if 22 with (fail)
 (try clear ai aP)
 (try clear FW)
 (try clear av aw ax)
 obtain ⟨H⟩:=bi
 revert H;refine fJ (fun bd H=>?_) fun bd H=>?_
 ·have b1:=gZ bd
  have bj:=g_ bd
  clear bd
  try simp only [bI,bY,b1]
  have H':=m_ H
  clear H
  go_wp2
  go_roundg k1
  case measure=>have:=iq.out;omega
  case rel=>exact ⟨(wrap64 (a7+1)),(a9),(BN),bg,H',⟨nT⟩,⟨(aG a5)⟩,⟨(aj a6)⟩,⟨(aj aa)⟩,⟨(aj a8)⟩,⟨ay⟩⟩
 have b1:=gU bd
 have bj:=gV bd
 try simp only [bI,bY,b1]
 obtain ⟨cn,H⟩:=lG H
 have bl:=m_ cn
 clear cn
 obtain ⟨be,b6⟩:∃ y_:List (aC),y_=(a9++[(⟨(au aH a7).f0,(au aH a7).f1,(au aH a7).f2⟩:aC)]):=⟨_,rfl⟩
 rw [← b6] at H
 have bm:=m_ b6
 clear b6
 have H':=m_ H
 clear H
 try go_wp2
 obtain ⟨a5,a6,aa,a8,HB⟩:=p_ (Kd.bK a5.out) <| wQ a6 aa a8 HB
 have fF:0≤(a7:Int):=bC bD
 have dM:a7 < (aH.length:Int):=bC bD
 obtain ⟨fK,bu,ao,ap,aq⟩:=jP lF.out a7 fF dM
 have ab:=aq
 have ac:=ap
 have ae:=ao
 obtain rfl:an=fK:=(by injection bu)
 replace ao:=gu HB.out ao
 replace ap:=gu HB.out ap
 replace aq:=gu HB.out aq
 replace fF:=eq_true fF
 replace dM:=eq_true dM
 refine iH (n:=11) (S:=fun w'=>lD w' b2 (BN) <| lD w' b4 (.slice (some an) aH.length b3) <| uw w' (an.add ((a7).toNat * 3)) (.string ((au aH a7).f0)) (.bool ((au aH a7).f1)) (.string ((au aH a7).f2))) (ds:=[10]) EF aB rfl rfl ⟨(aO a8.out 0).trans rfl,(aO a6.out 0).trans rfl,((HB.out.cell (World.block_lt_of_cell? w _ ae)).trans ae),((HB.out.cell (World.block_lt_of_cell? w _ ac)).trans ac),((HB.out.cell (World.block_lt_of_cell? w _ ab)).trans ab)⟩ (fun hH=>?_);refine jC (T:=qo.T6) (B:=qo.B6) aB aB (fun aS gJ=>?_)
 generalize wr.drew=cp at a5 a6 aa a8 HB ao ap aq hH ⊢
 refine aI 0 ?_
 refine aI 2 ?_
 refine aI 4 ?_
 refine fV 1 hH ?_
 refine fV 3 hH ?_
 refine aI 5 ?_
 refine fV 6 hH ?_
 refine kY 7 (fun K hK=>?_)
 refine KW (w1:=?_) (v:=?_) (by rfl) rfl ?_ ?_
 rotate_left 2
 ·go_simp
  constructor
  ·rfl
  ·rfl
 refine hK.out _ _ ⟨(aO (jG a8.out _) 0).trans rfl,(aO (jG a6.out _) 0).trans rfl,(World.cell?_alloc_lt _ _ _ (World.block_lt_of_cell? _ _ (((HB.out.cell (World.block_lt_of_cell? w _ ae)).trans ae)))).trans (((HB.out.cell (World.block_lt_of_cell? w _ ae)).trans ae)),(World.cell?_alloc_lt _ _ _ (World.block_lt_of_cell? _ _ (((HB.out.cell (World.block_lt_of_cell? w _ ac)).trans ac)))).trans (((HB.out.cell (World.block_lt_of_cell? w _ ac)).trans ac)),(World.cell?_alloc_lt _ _ _ (World.block_lt_of_cell? _ _ (((HB.out.cell (World.block_lt_of_cell? w _ ab)).trans ab)))).trans (((HB.out.cell (World.block_lt_of_cell? w _ ab)).trans ab))⟩ (fun hH=>?_)
 clear hK K
 refine fD (some 30) ?_
 refine kY 8 (fun K hK=>?_)
 refine Kd.Je bF (w0:=w) w.heap.size (by rfl) (.tmp 24) (.tmp 30) 26 43 (.agg #[(.string ⟨#[]⟩),(.bool false),(.string ⟨#[]⟩)]) 40 rfl underlying26 o8 rfl (by decide) (by omega) BN a9 (⟨(au aH a7).f0,(au aH a7).f1,(au aH a7).f2⟩:aC) [.string ((au aH a7).f0),.bool ((au aH a7).f1),.string ((au aH a7).f2)] (fun _=>True) (fun _=>False) rfl rfl ?rD (fun _ hk=>hk.elim) ?kS ?ku ?lu ?kC ?aL ?_
 (case rD=>exact qX _ _ _ (⟨(au aH a7).f0,(au aH a7).f1,(au aH a7).f2⟩:aC))
 (case lu=>exact ay)
 (case kS=>exact (fun _ _=>trivial))
 (case ku=>exact (aG a5))
 (case kC=>exact (dO ay))
 (case aL=>have:=bl.out;omega)
 intro aiB co ho hb hg hat
 rw [← bm.out] at ho
 obtain ⟨a6,aa,a8,HB,ba⟩:=p_ (iE (g:=b4) (o:=.cells #[.slice (some an) aH.length b3] 28) (aj a6) hg (Kd.iw a5.out a6.out (by decide))) <| p_ (iE (g:=b5) (o:=.cells #[.slice none 0 0] 28) (aj aa) hg (Kd.iw a5.out aa.out (by decide))) <| p_ (iE (g:=b2) (o:=.cells #[BN] 28) (aj a8) hg (Kd.iw a5.out a8.out (by decide))) <| p_ (hb) <| a_ (ho)
 clear ho hb hg hat
 obtain ⟨bv,bw,bo⟩:=Kd.dJ ba.out
 (first|subst bo|(injection bo with dP fZ dQ;have f_:=dP.symm;have gq:=dQ.symm;clear dP fZ dQ;subst f_;subst gq))
 refine hK.out _ _ ⟨(aO a8.out 0).trans rfl,(aO a6.out 0).trans rfl,((HB.out.cell (World.block_lt_of_cell? w _ ae)).trans ae),((HB.out.cell (World.block_lt_of_cell? w _ ac)).trans ac),((HB.out.cell (World.block_lt_of_cell? w _ ab)).trans ab)⟩ (fun hH=>?_)
 clear hK K
 refine fD (some 31) ?_
 refine aI 9 ?_
 refine wz 10 (fun K hK=>?_)
 have agQ:co.cell? ⟨b2,0,none⟩=some (BN):=(aO a8.out 0).trans rfl
 have aeR:=dF a8.out 0
 obtain ⟨ai,bP,aP,ar⟩:=jE af al ag am
 refine jr (w1:=?_) (by rfl) rfl ?_ ?_
 rotate_left
 ·go_simp
  rfl
 refine hK.out _ _ ?_
 clear hK K
 refine iF (jB aS.out aB) ?_
 try go_wp2
 go_roundg k1
 case measure=>have:=iq.out;omega
 case rel=>exact ⟨(wrap64 (a7+1)),(be),(.slice bv be.length bw),bg,H',⟨nT⟩,⟨(by (with_reducible repeat (first|apply Kd.dR|apply Kd.dS|apply Kd.bK));exact Kd.bW (aU (Kd.dL ba.out a8.out (by decide))) (fun _ hk=>trivial))⟩,⟨bH⟩,⟨bH⟩,⟨bH⟩,⟨ay⟩⟩

def nR.l0:Nat→ByteArray→Int→List (aC)→Option (Int)
 | 0,_,_,_=>none
 | k+1,x1,x5,a5=>if x5 < (a5.length:Int) then (if 0≤x5 then (if ((au a5 x5).f0).toList=x1.toList then (some x5) else (nR.l0 k x1 (wrap64 (x5+1)) a5)) else (none)) else (some (-1))
def nR.f (k:Nat) (a5:List (aC)) (a1:ByteArray):Option (Int):=nR.l0 k a1 0 a5
theorem nR.calls (k:Nat) (ac:Option Addr) (ae:Nat) (aH:List (aC)) (a1:ByteArray) (r:Int) (w:World) (af:Kd.C bF w ac aH.length aH) (ag:aH.length≤ae) (h:nR.f k aH a1=some r) :
  Calls Tryz.prog 13 #[.agg #[.slice ac aH.length ae],.string a1] w fun e w'=>e=.returned (ah r)∧Below w.heap.size w w':=by
 have oq:=underlying28
 have lF:=m_ af
 have an:=m_ ag
 clear af ag
 have HB:=m_ (Below.refl w.heap.size w)
 unfold nR.f at h
 have H:=h
 clear h
 have H':=m_ H
 clear H
 go_enter func13,ntmps13
 go_wp2_with (first|((with_reducible refine dG 2 ?_);refine dU 2 (cs:=#[.slice ac aH.length ae]) 28 ?_;intro aT hg w3 hbox hb;obtain ⟨HB,a5,ao,ap⟩:=kE ay hb hbox hg;clear hb hbox hg))
 go_loopg [5] k (fun kq v5 w'=>∃ (a6:Int),v5=ah a6∧aA (nR.l0 kq a1 a6 aH=some r)∧aA (kq≤k)∧aA (w'.heap[aT]?=some (.cells #[(.slice ac aH.length ae)] 28))∧aA (Below w.heap.size w w'))
 case atStart=>exact ⟨(0),bg,H',⟨Nat.le_refl _⟩,⟨(aj a5)⟩,⟨ay⟩⟩
 case round =>
 clear H'
 obtain ⟨a6,rfl,HA,iq,a5,HB⟩:=hrel
 cases gk with
 | zero=>exact absurd HA.out (by simp [nR.l0])
 | succ k1 =>
 obtain ⟨H⟩:=HA
 simp only [nR.l0] at H
 have aq:=m_ H
 clear H
 have adt:=cu a5.out
 go_upto_if 10 with (fail)
 (try clear adt)
 obtain ⟨H⟩:=aq
 revert H;refine gI (fun ab H=>?_) fun ab H=>?_
 rotate_left
 ·try simp only [bI,bY,ab]
  obtain rfl:=cZ H
  go_wp2
  go_ret
  exact ⟨b_,ay⟩
 try simp only [bI,bY,ab]
 obtain ⟨av,H⟩:=fU H
 have ar:=m_ H
 clear H
 have Ee:=cu a5.out
 have aP:0≤(a6:Int):=bC bD
 have ai:a6 < (aH.length:Int):=bC bD
 obtain ⟨bP,am,a7,a8,a9⟩:=jP lF.out a6 aP ai
 cases am
 replace a7:=gu HB.out a7
 replace a8:=gu HB.out a8
 replace a9:=gu HB.out a9
 replace aP:=eq_true aP
 replace ai:=eq_true ai
 go_upto_if 20 with (fail)
 (try clear Ee)
 (try clear a7 a8 a9)
 obtain ⟨H⟩:=ar
 revert H;refine fJ (fun aN H=>?_) fun aN H=>?_
 ·have aa:=gZ aN
  have al:=g_ aN
  clear aN
  try simp only [bI,bY,aa]
  obtain rfl:=cZ H
  go_wp2
  go_ret
  exact ⟨b_,ay⟩
 have aa:=gU aN
 have al:=gV aN
 try simp only [bI,bY,aa]
 have H':=m_ H
 clear H
 go_wp2
 go_roundg k1
 case measure=>have:=iq.out;omega
 case rel=>exact ⟨(wrap64 (a6+1)),bg,H',⟨nT⟩,⟨(aj a5)⟩,⟨ay⟩⟩

end Go.Proofs.YthejdhjpbpamoaaGreatDoor.jM
