/- Contracts of strings.IndexRune, strings.IndexAny, strings.ContainsAny over the two wild signs, for texts of any bytes. Conditions: the text is shorter than 4294967281 bytes. -/
import Derived.Test.YtcnfgfomholheaaGreatDoorProg
import Derived.Test.YtcnfgfomholheaaGreatDoorSh
import Derived.Test.YtcnfgfomholheaaGreatDoorWd
import Derived.Laws.RangeAny
import Derived.Laws.Runes
import Derived.Scope
import Derived.Shelf.Strings.IndexAnyAll
namespace Go.Proofs.YtcnfgfomholheaaGreatDoor.X
open Go.RowKit Go.Shelf Go.Lib Go.Proofs Go.Proofs.YtcnfgfomholheaaGreatDoorW.PrintWords
set_option linter.unusedVariables false
set_option linter.unusedSimpArgs false
theorem Rj (s:ByteArray) (pos:Nat) (h:pos<s.size) (ha:128≤(s[pos]'h).toNat):
  ((Utf8.decode s pos).1=65533∨(128≤(Utf8.decode s pos).1∧((Utf8.decode s pos).1<55296∨(57343<(Utf8.decode s pos).1∧(Utf8.decode s pos).1≤1114111))))∧1≤(Utf8.decode s pos).2∧pos+(Utf8.decode s pos).2≤s.size∧
    ∀j,pos<j→j<pos+(Utf8.decode s pos).2→128≤(s.get! j).toNat:=by
 have hn:¬(s[pos]'h).toNat<128:=by omega
 have h0:((s[pos]'h).toNat)<256:=(s[pos]'h).toNat_lt
 have hb:∀k,(s.get! (pos+k)).toNat<256:=fun k=>(s.get! (pos+k)).toNat_lt
 have h1:=hb 1;have h2:=hb 2;have h3:=hb 3
 clear hb
 have key:∀j,pos<j→j<pos+4→j=pos+1∨j=pos+2∨j=pos+3:=by omega
 simp only [Utf8.decode,get_at s pos h,hn,if_false,Utf8.valid,Bool.and_eq_true,Bool.or_eq_true,decide_eq_true_eq,beq_iff_eq,Bool.not_eq_true',decide_eq_false_iff_not,Utf8.runeError]
 generalize e1:(s.get! (pos+1)).toNat=y1 at h1⊢
 generalize e2:(s.get! (pos+2)).toNat=y2 at h2⊢
 generalize e3:(s.get! (pos+3)).toNat=y3 at h3⊢
 repeat' split
 all_goals refine⟨by omega,by omega,by omega,fun j hj hk=>?_⟩
 all_goals rcases key j hj (by omega) with rfl | rfl | rfl
 all_goals omega
theorem next_any {P:Program} (w:World) (k:Nat) (s:ByteArray) (pos:Nat) (h:pos<s.size) (hk:w.heap[k]? =some (.stringIter s pos)):
  ∃w',w'.heap[k]? =some (.stringIter s (pos+(Utf8.decode s pos).2))∧(∀N,N≤k→Below N w w')∧
   ∀ty,(Instr.next (.pointer (some ⟨k,0,none⟩)) true ty).run P w= .ok (.tuple #[.bool true, .int .i64 pos, .int .i32 (Utf8.decode s pos).1]) w':=by
 have hlt:k<w.heap.size:=by
  rcases Nat.lt_or_ge k w.heap.size with h | h
  ·exact h
  ·rw [Array.getElem?_eq_none h] at hk;cases hk
 refine⟨{w with heap:=w.heap.setIfInBounds k (.stringIter s (pos+(Utf8.decode s pos).2))},?_,?_,?_⟩
 ·show(w.heap.setIfInBounds k _)[k]? =_
  rw [Array.getElem?_setIfInBounds_self_of_lt hlt]
 ·intro N hN
  refine⟨rfl,rfl,rfl,?_,?_⟩
  ·show w.heap.size≤(w.heap.setIfInBounds k _).size
   simp
  ·intro i hi
   show(w.heap.setIfInBounds k _)[i]? =_
   rw [Array.getElem?_setIfInBounds_ne (by omega)]
 ·intro ty
  simp only [Instr.next,getObj,setObj,Sem.run_bind,Sem.run,hk,Result.andThen,h,if_true]
  simp [goInt]
theorem Ye {P:Program} (w:World) (k:Nat) (s:ByteArray) (pos:Nat) (ty:TypeId) (h:¬pos<s.size) (hk:w.heap[k]? =some (.stringIter s pos)):
  (Instr.next (.pointer (some ⟨k,0,none⟩)) true ty).run P w= .ok (.tuple #[.bool false]) w:=by
 simp [Instr.next,getObj,Sem.run,hk,h]
def bU:ByteArray:=⟨#[43,35]⟩
set_option maxHeartbeats 4000000 in
set_option maxRecDepth 1000000 in
theorem JD (w:World):Calls Tryz.prog 233 #[.string bU, .int .i32 65533] w fun e w'=>e= .returned (.int .i64 (-1))∧∃pos,w'=w.iter bU pos:=by
 have h0:=fun ty=>show(Instr.next (.pointer (some ⟨w.heap.size,0,none⟩)) true ty).run Tryz.prog (w.iter bU 0)= .ok (.tuple #[.bool true, .int .i64 0, .int .i32 43]) (w.iter bU 1) from run_next_ascii (P:=Tryz.prog) w bU 0 ty (by decide) (by decide)
 have h1:=fun ty=>show(Instr.next (.pointer (some ⟨w.heap.size,0,none⟩)) true ty).run Tryz.prog (w.iter bU 1)= .ok (.tuple #[.bool true, .int .i64 1, .int .i32 35]) (w.iter bU 2) from run_next_ascii (P:=Tryz.prog) w bU 1 ty (by decide) (by decide)
 have h2:=fun ty=>run_next_end (P:=Tryz.prog) w bU 2 ty (by decide)
 go_enter Tryz.func233,Tryz.ntmps233
 go_wp2
 go_loopg [5,6] 2 (fun g _ _ wx=>∃i:Nat,i+g=2∧wx=w.iter bU i)
 case atStart=>exact⟨0,by omega,rfl⟩
 case round=>
  obtain⟨i,hig,rfl⟩:=hrel
  cases gk with
  | zero=>
    obtain rfl:i=2:=by omega
    go_wp2
    go_ret
    exact⟨rfl,_,rfl⟩
  | succ g=>
    have hi:i=0∨i=1:=by omega
    rcases hi with rfl | rfl
    ·go_wp2
     go_roundg g
     case measure=>omega
     case rel=>exact⟨1,by omega,rfl⟩
    ·go_wp2
     go_roundg g
     case measure=>omega
     case rel=>exact⟨2,by omega,rfl⟩
theorem validRune (r:Int) (w:World) (h0:128≤r) (h1:r<55296∨(57343<r∧r≤1114111)):Calls Tryz.prog 248 #[.int .i32 r] w fun e w'=>e= .returned (.bool true)∧w'=w:=by
 have a0:(0:Int)≤r:=by omega
 rcases h1 with h1 | h1
 ·go_enter Tryz.func248,Tryz.ntmps248
  go_wp2
  go_ret
  exact⟨rfl,rfl⟩
 ·obtain⟨h1,h2⟩:=h1
  have h3:¬r<55296:=by omega
  go_enter Tryz.func248,Tryz.ntmps248
  go_wp2
  go_ret
  exact⟨rfl,rfl⟩
set_option maxHeartbeats 4000000 in
set_option maxRecDepth 1000000 in
theorem KW (r:Int) (w:World) (h0:128≤r) (h1:r<55296∨(57343<r∧r≤1114111)) (hne:r≠65533):Calls Tryz.prog 233 #[.string bU, .int .i32 r] w fun e w'=>e= .returned (.int .i64 (-1))∧Below w.heap.size w w':=by
 have c:=validRune r w h0 h1
 have hv:Utf8.valid r=true:=by
  unfold Utf8.valid
  simp
  omega
 obtain⟨f0,f1,f2⟩:=encode_facts r hv h0
 have a0:(0:Int)≤r:=by omega
 have a1:¬r<128:=by omega
 have hcv:=fun W:World=>run_convert_int_string (P:=Tryz.prog) W 21 9 .i32 r (by rw [Tryz.underlying21];rfl) Tryz.underlying9
 clear hv
 generalize Utf8.encode r=rs at f0 f1 f2 hcv
 have hw:wrap64 ((rs.size:Int) - 1)=((rs.size - 1:Nat):Int):=by unfold wrap64;omega
 go_enter Tryz.func233,Tryz.ntmps233
 go_wp2_with (go_at_call 248;refine c.mono ?_;rintro e w' ⟨rfl,rfl⟩)
 clear c h1 hne
 have F2:=Aside0.mk f2
 clear f2
 refine wp_scope_straight ?_
 have hz:bU.size=2:=rfl
 by_cases h3:3≤rs.size
 ·have h4:¬((rs.size:Int) - 1<2):=by omega
  have h5:((rs.size:Int) - 1<2)=False:=eq_false h4
  have h6:decide ((rs.size:Int) - 1<2)=false:=decide_eq_false h4
  go_wp2
  go_loopg [9] 0 (fun g s9 wx=>s9= .int .i64 ((rs.size:Int) - 1)∧wx=w')
  case atStart=>exact⟨rfl,rfl⟩
  case round=>
   obtain⟨rfl,rfl⟩:=hrel
   go_wp2
   simp only [Exit.noGoto,Exit.inBlock]
   go_ret
   exact⟨rfl,Below.refl _ _⟩
 ·have h2:rs.size=2:=by omega
  have f3:=F2.out (by omega)
  have hg:∀h,((rs[1]'h).toNat:Int)≠35:=by
   intro h
   have e:rs.size - 1=1:=by omega
   simp only [e] at f3
   omega
  go_wp2
  go_loopg [9] 0 (fun g s9 wx=>s9= .int .i64 1∧wx=w')
  case atStart=>exact⟨rfl,rfl⟩
  case round=>
   obtain⟨rfl,rfl⟩:=hrel
   go_wp2
   refine wp_scope_straight ?_
   have hz1:((bU[1]'(by decide)).toNat:Int)=35:=rfl
   obtain⟨cc,hcc⟩:∃cc:Int,((rs[1]'(by omega)).toNat:Int)=cc:=⟨_,rfl⟩
   have hne1:¬(35:Int)=cc:=by rw [←hcc];exact fun e=>hg (by omega) e.symm
   go_wp2
   go_quiet (fail)
   go_wp2
   go_quiet (first | (refine(Any.strings_IndexByte {Tryz.lays150 with} _ _ _).mono ?_;rintro e w1 ⟨rfl,rfl⟩;exact⟨rfl,⟨_,rfl⟩⟩))
   have hib:indexByte ByteArray.empty.data.toList cc.toNat.toUInt8= -1:=rfl
   rw [hib]
   go_wp2
   simp only [Exit.noGoto,Exit.inBlock,Exit.then]
   go_ret
   exact⟨rfl,ah (Below.refl _ _) _⟩
theorem Zz {x:UInt8} (h:128≤x.toNat):bU.data.toList.contains x=false:=by
 have h1:x≠43:=by rintro rfl;revert h;decide
 have h2:x≠35:=by rintro rfl;revert h;decide
 show List.contains [43,35] x=false
 simp [h1,h2]
theorem Vf {s:ByteArray} {pos k:Nat} (h:Lib.NoAny s.data.toList bU.data.toList pos) (hp:pos<s.size) (h0:128≤(s[pos]'hp).toNat) (hk:∀j,pos<j→j<pos+k→128≤(s.get! j).toNat):
  Lib.NoAny s.data.toList bU.data.toList (pos+k):=by
 intro j b hj hb
 by_cases h1:j<pos
 ·exact h j b h1 hb
 ·have hjs:j<s.size:=by
   rcases Nat.lt_or_ge j s.size with h | h
   ·exact h
   ·rw [List.getElem?_eq_none (by rw [←Lib.size_eq];exact h)] at hb;cases hb
  have hx:=Lib.data_getElem? s j hjs
  rw [hx] at hb
  cases hb
  refine Zz ?_
  by_cases h2:j=pos
  ·subst h2;exact h0
  ·have:=hk j (by omega) hj
   have e:=get_at s j hjs
   rw [Nat.add_zero] at e
   rwa [e] at this
theorem KX (r:Int) (w:World) (h:r=65533∨(128≤r∧(r<55296∨(57343<r∧r≤1114111)))):Calls Tryz.prog 233 #[.string bU, .int .i32 r] w fun e w'=>e= .returned (.int .i64 (-1))∧Below w.heap.size w w':=by
 by_cases h1:r=65533
 ·subst h1
  refine(JD w).mono ?_
  rintro e w' ⟨rfl,pos,rfl⟩
  exact⟨rfl,(Below.refl _ _).alloc (Nat.le_refl _) _⟩
 ·rcases h with h | ⟨h,h2⟩
  ·exact absurd h h1
  ·exact KW r w h h2 h1
theorem JM {w:World} {k:Nat} {o:Obj} (h:w.heap[k]? =some o):k<w.heap.size:=by
 rcases Nat.lt_or_ge k w.heap.size with h1 | h1
 ·exact h1
 ·rw [Array.getElem?_eq_none h1] at h;cases h
set_option maxHeartbeats 8000000 in
set_option maxRecDepth 1000000 in
theorem KY (s:ByteArray) (w:World) (h8:s.size≤8):
  Calls Tryz.prog 217 #[.string s, .string bU] w fun e w'=>e= .returned (.int .i64 (Lib.indexAny s.data.toList bU.data.toList))∧Below w.heap.size w w':=by
 have hemp:bU.toList.isEmpty=false:=by
  rw [Lib.toList_data];rfl
 have hz:(bU.size:Int)=2:=rfl
 have hn1:((bU.size:Int)==1)=false:=rfl
 have h8z:decide ((8:Int)<(s.size:Int))=false:=decide_eq_false (by omega)
 go_enter Tryz.func217,Tryz.ntmps217
 go_wp2_with (go_at_call 234;refine(Any.strings_shouldUseASCIISet {Tryz.lays150 with} _ _).mono ?_;rintro e w' ⟨rfl,hw⟩;rw [hw,h8z])
 go_loopg [9,10] s.size (fun g _ _ wx=>∃i:Nat,i+g=s.size∧wx.heap[w.heap.size]? =some (.stringIter s i)∧Below w.heap.size w wx∧Lib.NoAny s.data.toList bU.data.toList i)
 case atStart=>exact⟨0,by omega,World.iter_heap _ _ _,(Below.refl _ _).alloc (Nat.le_refl _) _,Lib.NoAny.zero _ _⟩
 case round=>
  obtain⟨i,hig,hit,hbw,hno⟩:=hrel
  have HN:=Aside0.mk hno
  clear hno
  have HB:=Aside0.mk hbw
  clear hbw
  cases gk with
  | zero=>
    obtain rfl:i=s.size:=by omega
    have hnx:=fun ty=>Ye (P:=Tryz.prog) wr w.heap.size s s.size ty (by omega) hit
    clear hit
    go_wp2
    go_ret
    exact⟨by rw [Lib.indexAny_none (by rw [←Lib.size_eq];exact HN.out)];rfl,HB.out⟩
  | succ g=>
    have hi:i<s.size:=by omega
    obtain⟨w1,ZA,hb1,hnx⟩:=next_any (P:=Tryz.prog) wr w.heap.size s i hi hit
    have hlt:=JM ZA
    have HI:=Aside0.mk (And.intro ZA (HB.out.trans (hb1 _ (Nat.le_refl _))))
    clear hit hb1 ZA HB
    obtain⟨x,hx⟩:∃x:UInt8,s[i]'hi=x:=⟨_,rfl⟩
    have hxl:s.data.toList[i]? =some x:=by rw [←hx];exact Lib.data_getElem? s i hi
    by_cases hx128:x.toNat<128
    ·have hd:=decode_ascii s i hi (by rw [hx];exact hx128)
     rw [hx] at hd
     rw [hd] at hnx HI
     simp only at hnx HI
     have Hx:=Aside0.mk hxl
     clear hxl hx hd
     have hcon:=Lib.contains_iff_indexByte bU.data.toList x
     have hback:((x.toNat:Int)).toNat.toUInt8=x:=by simp
     cases hin:bU.data.toList.contains x
     ·rw [hin] at hcon
      have hlt:¬((0:Int)≤Lib.indexByte bU.data.toList x):=of_decide_eq_false hcon.symm
      clear hcon
      go_wp2_with (go_at_call 233;refine(Any.strings_IndexRune_ascii {Tryz.lays150 with} _ _ _ (by omega) (by omega)).mono ?_;rintro e w' ⟨rfl,hw⟩;rw [hw,hback])
      go_roundg g
      case measure=>omega
      case rel=>exact⟨i+1,by omega,HI.out.1,HI.out.2,HN.out.succ Hx.out hin⟩
     ·rw [hin] at hcon
      have hge:(0:Int)≤Lib.indexByte bU.data.toList x:=of_decide_eq_true hcon.symm
      clear hcon
      go_wp2_with (go_at_call 233;refine(Any.strings_IndexRune_ascii {Tryz.lays150 with} _ _ _ (by omega) (by omega)).mono ?_;rintro e w' ⟨rfl,hw⟩;rw [hw,hback])
      go_ret
      exact⟨by rw [Lib.indexAny_hit HN.out Hx.out hin];rfl,HI.out.2⟩
    ·obtain⟨hc,hk1,hk2,hk3⟩:=Rj s i hi (by rw [hx];omega)
     have HW:=Aside0.mk (Vf HN.out hi (by rw [hx];omega) hk3)
     clear HN hxl hx hk3 hx128
     generalize Utf8.decode s i=d at hnx HI HW hc hk1 hk2
     obtain⟨d1,d2⟩:=d
     simp only at hnx HI HW hc hk1 hk2
     have cR:=fun W=>KX (d1:Int) W (by omega)
     have HC:=Aside0.mk hc
     clear hc
     go_wp2_with (go_at_call 233;refine(cR _).mono ?_;rintro e w2 ⟨rfl,hb2⟩;have HB2:=Aside0.mk hb2;clear hb2)
     go_roundg (s.size - (i+d2))
     case measure=>omega
     case rel=>
      exact⟨i+d2,by omega,(HB2.out.block _ hlt).trans HI.out.1,HI.out.2.trans (HB2.out.mono (by omega)),HW.out⟩
def strings_ContainsAny.f (a0:ByteArray) (a1:ByteArray):Option Bool:=if a0.size<4294967281∧a1=bU then some (Lib.containsAny a0.data.toList bU.data.toList) else none
theorem Vg:∀(j:Nat) b,bU.data.toList[j]? =some b→b.toNat<128:=by
 intro j b h
 have h1:b∈bU.data.toList:=List.mem_of_getElem? h
 have h2:bU.data.toList=[43,35]:=rfl
 rw [h2] at h1
 simp at h1
 rcases h1 with rfl | rfl<;>decide
set_option maxHeartbeats 4000000 in
theorem strings_ContainsAny.calls (a0:ByteArray) (a1:ByteArray) (r:Bool) (w:World) (h:strings_ContainsAny.f a0 a1=some r):
  Calls Tryz.prog 193 #[.string a0, .string a1] w fun e w'=>e= .returned (.bool r)∧Below w.heap.size w w':=by
 unfold strings_ContainsAny.f at h
 by_cases hs:a0.size<4294967281∧a1=bU
 ·rw [if_pos hs] at h
  simp only [Option.some.injEq] at h
  subst h
  obtain⟨hs,rfl⟩:=hs
  have c:Calls Tryz.prog 217 #[.string a0, .string bU] w fun e w'=>e= .returned (.int .i64 (Lib.indexAny a0.data.toList bU.data.toList))∧Below w.heap.size w w':=by
   by_cases h8:a0.size≤8
   ·exact KY a0 w h8
   ·have h116:(Tryz.prog.info? (Tryz.lays150_ren.t 116)).map (fun i=>(i.zero,i.size))=some (some (.agg (Array.replicate 256 (.bool false))),256):=by kernel_rfl
    refine(Any.strings_IndexAny_long {Tryz.lays150 with} (zero_of_info h116).1 (zero_of_info h116).2 a0 bU w (by decide) (by omega) hs (by decide) Vg).mono ?_
    rintro e w' ⟨rfl,rfl⟩
    exact⟨rfl,((Below.refl _ _).alloc (Nat.le_refl _) _).alloc (by simp) _⟩
  unfold Lib.containsAny
  go_enter Tryz.func193,Tryz.ntmps193
  go_wp2_with (go_at_call 217;refine c.mono ?_;rintro e w' ⟨rfl,hw⟩)
  go_ret
  exact⟨rfl,hw⟩
 ·rw [if_neg hs] at h
  cases h
end Go.Proofs.YtcnfgfomholheaaGreatDoor.X
