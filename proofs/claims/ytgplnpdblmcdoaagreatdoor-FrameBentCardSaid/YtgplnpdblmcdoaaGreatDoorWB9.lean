/- A part of the proof of a law: my own separation logic over the machine, and walks of the program. Condition of each theorem: as its statement says. -/
import Derived.Test.YtgplnpdblmcdoaaGreatDoorWB8
import Derived.SevenTiedAt
import Derived.LaidOnce
import Derived.Test.YtgplnpdblmcdoaaGreatDoorCards
import Derived.Test.YtgplnpdblmcdoaaGreatDoorTie
set_option linter.all false
namespace Go.Proofs
open Go.Lo
open Go.Conc (G)
set_option maxRecDepth 100000
set_option synthInstance.maxSize 100000
set_option synthInstance.maxHeartbeats 1000000
set_option maxHeartbeats 4000000
variable {B:Array Obj} {M:Meet} {Y:Sy Tryz.prog B M.pro} {h:Hp} {kn:Nat} {z:List Nat}
theorem lockSlow_c (hM:M.n≤64) {c:Frame} {cs:List Frame} {kk:Nat} (hitc: ∀ks Pool,M.PL ks Pool→kn∉ks→(∀k'∈ks,k'<M.n∧M.hit k'=true)→ks.Nodup→(Y.im 0 (.w kn (.hold 1) .on ks) (h++Pool)).R (G (c.finish (.tuple #[])) cs)):
  (Y.im 1 (.w kn (.look false kk) .on z) h).R (G (Frame.enter Tryz.prog 179 [.pointer (some ⟨M.mu,0,none⟩)].toArray .normal) (c::cs)):=by
 refine i_enter Tryz.func179 rfl rfl (l:=(.pointer (some ⟨M.mu,0,none⟩))::uu138) rfl ?_;refine d127 ?_;refine d127 ?_;refine d127 ?_;refine d127 ?_;refine d76 ?_
 refine s_loadLook (aw:=false) (quiet 179 (by decide)) rfl zq hM (fun old0 ho hwk=>k_putY ?_)
 refine d9 ?_
 refine s_joinS (fun D' s' h' l'=>D'=1∧s'= .w kn (.hold 0) .on z∧h=h'∧(∃U:Nat→Value,l'=((.pointer (some ⟨M.mu,0,none⟩))::vw138 U 1 []))) ?_ ?_
 ·rintro _ _ _ _ ⟨rfl,rfl,rfl,U,rfl⟩;refine i_if ?_;refine d49 ?_;refine s_enable extEnable rfl zq ?_
  refine i_region_end ?_;refine d1 ?_;refine s_uptr rfl zq ⟨.inl rfl,.inl rfl⟩ uptrM.1 uptrM.2.1 uptrM.2.2 ?_
  refine s_take extAcquire rfl zq (fun ks Pool q1 q2 q3 q4=>?_)
  refine d102 ?_
  refine i_return rfl Tryz.func179 (still_results0 rfl) ?_;exact hitc ks Pool q1 q2 q3 q4
 ·intro jn40
  refine i_block ?_;refine s_loop (fun nn D' s' h' l'=> ∃(aw:Bool) (old:Wd) (kk it:Nat) (wst:Int) (sv:Bool),D'=1∧s'= .w kn (.try_ aw old kk) .on z∧h=h'∧nn=kk*8+(4-it)∧it≤4∧old.n≤384∧(aw=true→old.w=true∧old.s=false)∧(sv=true→aw=true)∧ ∃U:Nat→Value,l'=((.pointer (some ⟨M.mu,0,none⟩))::(U 1)::(.int .i64 wst)::(.bool sv)::(.bool aw)::(.int .i64 (it:Int))::(.int .i32 (old.val:Int))::vw132 U 7 [])) _ ⟨false,old0,_,0,0,false,rfl,rfl,rfl,rfl,by omega,ho,hwk,(fun e=>by cases e),exU rfl⟩ ?_
  rintro nn _ _ _ _ ⟨aw,old,kk,it,wst,sv,rfl,rfl,rfl,rfl,hit,ho,hwk,hsv,U,rfl⟩ hnext;refine i_block ?_;refine s_joinS (fun D' s' h' l'=>D'=1∧s'= .w kn (.try_ aw old kk) .on z∧h=h'∧(∃U:Nat→Value,l'=((.pointer (some ⟨M.mu,0,none⟩))::(U 1)::(.int .i64 wst)::(.bool sv)::(.bool aw)::(.int .i64 (it:Int))::(.int .i32 (old.val:Int))::vw132 U 7 []))) ?_ ?_
  ·rintro _ _ _ _ ⟨rfl,rfl,rfl,U,rfl⟩;refine s_join5 (fun D' s' h' l'=>D'=1∧s'= .w kn (.try_ aw old kk) .on z∧h=h'∧ ∃new:Wd,(∃U:Nat→Value,l'=((.pointer (some ⟨M.mu,0,none⟩))::(U 1)::(.int .i64 wst)::(.bool sv)::(.bool aw)::(.int .i64 (it:Int))::(.int .i32 (old.val:Int))::(.int .i32 (new.val:Int))::vw131 U 8 []))∧((old.l=false∧old.s=false∧new=⟨true,old.w&&!aw,false,old.n⟩)∨((old.l=true∨old.s=true)∧new=⟨old.l,old.w&&!aw,old.s||(sv&&old.l),old.n+1⟩))) ?_ ?_
   ·rintro _ _ _ _ ⟨rfl,rfl,rfl,new,⟨U,rfl⟩,⟨hl,hs,hnew⟩|⟨hls,hnew⟩⟩
    ·refine d108 ?_;refine i_mv rfl zq ?_
     refine s_casTake (aw:=aw) (old:=old) (new:=new) extCas32 rfl zq hl hs hnew (k_putY ?_) (fun hk=>k_putY ?_)
     ·refine d34 ?_;refine d30 ?_
      refine i_int (v:= .int .i32 0) rfl zq (by decide) (op_and ((wdB old (by omega)).and5.trans (by rw [hl,hs];decide))) ?_;refine i_int (v:= .bool true) rfl zq (by decide) (op_eql (by decide)) ?_;refine d34 ?_;refine i_exit rfl ?_
      exact jn40 _ _ _ _ ⟨rfl,rfl,rfl,exU rfl⟩
     ·refine d15 ?_;refine d1 ?_;refine d10 ?_
      refine s_loadLook (quiet 179 (by decide)) rfl zq hM (fun x hx hwx=>k_putY ?_)
      refine d9 ?_;refine i_inBlock ?_
      exact hnext _ _ _ _ _ (by omega) ⟨aw,x,kk-1,it,wst,sv,rfl,rfl,rfl,rfl,hit,hx,hwx,hsv,exU rfl⟩
    ·refine d108 ?_;refine i_mv rfl zq ?_
     refine s_casQueue (aw:=aw) (sv:=sv) (old:=old) (new:=new) extCas32 rfl zq hls hsv hnew (fun hk=>k_putY ?_) (fun hk=>k_putY ?_)
     ·refine d34 ?_;refine d30 ?_
      refine i_int (v:= .int .i32 (b01 old.l+4*b01 old.s)) rfl zq (by decide) (op_and ((wdB old (by omega)).and5)) ?_;refine i_int (v:= .bool false) rfl zq (by decide) (op_eql (decide_eq_false (by rcases hls with e|e<;>simp only [e,b01_true]<;>omega))) ?_;refine d31 ?_;refine d14 ?_
      refine i_int (v:= .bool (decide (wst≠0))) rfl zq (by decide) (op_neq rfl) ?_;refine d9 ?_
      refine s_joinS (fun D' s' h' l'=>D'=1∧s'= .w kn (.wait (kk-1)) .on z∧h=h'∧ ∃wst1:Int,(∃U:Nat→Value,l'=((.pointer (some ⟨M.mu,0,none⟩))::(U 1)::(.int .i64 wst1)::(.bool sv)::vw135 U 4 []))) ?_ ?_
      ·rintro _ _ _ _ ⟨rfl,rfl,rfl,wst1,U,rfl⟩;refine d108 ?_
       refine s_waits extSemM rfl zq (k_putY ?_)
       refine i_region_end ?_;refine s_joinS (fun D' s' h' l'=>D'=1∧s'= .w kn (.woken (kk-1)) .on z∧h=h'∧ ∃sv1:Bool,(∃U:Nat→Value,l'=((.pointer (some ⟨M.mu,0,none⟩))::(U 1)::(.int .i64 wst1)::(.bool sv1)::vw135 U 4 []))) ?_ ?_
       ·rintro _ _ _ _ ⟨rfl,rfl,rfl,sv1,U,rfl⟩;refine d76 ?_
        refine s_loadWoken (quiet 179 (by decide)) rfl zq hM (fun x hx hs hww=>k_putY ?_) (fun nn h1 h384=>k_putY ?_)
        ·refine d79 ?_
         refine i_int (v:= .int .i32 0) rfl zq (by decide) (op_and ((wdB x (by omega)).and4.trans (by rw [hs];decide))) ?_;refine i_int (v:= .bool false) rfl zq (by decide) (op_neq (by decide)) ?_;refine d31 ?_;refine d127 ?_;refine i_region rfl ?_;refine d9 ?_;refine i_inBlock ?_
         exact hnext _ _ _ _ _ (by omega) ⟨true,x,kk-1,0,wst1,sv1,rfl,rfl,rfl,rfl,by omega,hx,fun _=>⟨hww,hs⟩,fun _=>rfl,exU rfl⟩
        ·refine d79 ?_
         refine i_int (v:= .int .i32 4) rfl zq (by decide) (op_and ((wdB ⟨false,false,true,nn⟩ (by show nn<390;omega)).and4.trans rfl)) ?_;refine i_int (v:= .bool true) rfl zq (by decide) (op_neq (by decide)) ?_;refine d34 ?_;refine d30 ?_
         refine i_int (v:= .int .i32 0) rfl zq (by decide) (op_and ((wdB ⟨false,false,true,nn⟩ (by show nn<390;omega)).and3.trans rfl)) ?_;refine i_int (v:= .bool false) rfl zq (by decide) (op_neq (by decide)) ?_;refine d57 ?_
         refine i_shift (v:= .int .i32 (nn:Int)) rfl rfl (.inr rfl) (op_shr (by decide) (wdB ⟨false,false,true,nn⟩ (by show nn<390;omega)).shr3) ?_;refine i_int (v:= .bool false) rfl rfl (by decide) (op_eql (decide_eq_false (by omega))) ?_;refine d51 ?_;refine d127 ?_
         refine s_joinS (fun D' s' h' l'=>D'=1∧s'= .w kn (.handed nn) .on z∧h=h'∧ ∃(ex:Bool) (del:Int),(∃U:Nat→Value,l'=((.pointer (some ⟨M.mu,0,none⟩))::vw8 U 1 ((.int .i32 del)::vw129 U 10 [])))∧(ex=false→2≤nn)∧del= -7-4*(b01 ex:Int)) ?_ ?_
         ·rintro _ _ _ _ ⟨rfl,rfl,rfl,ex,del,⟨U,rfl⟩,hex,hdel⟩;refine d108 ?_
          refine s_accept (ex:=ex) (m:=nn) (del:=del) extAdd32 rfl (by exact trivial) hex hdel hM (fun u=>k_putY ?_)
          refine i_region_end ?_;refine i_exit rfl ?_;exact jn40 _ _ _ _ ⟨rfl,rfl,rfl,exU rfl⟩
         ·intro jn36
          refine i_seq ?_;cases sv1
          ·refine d1 ?_;refine i_not rfl zq ?_;refine d101 ?_;refine d98 ?_;refine d1 ?_
           refine i_int (v:= .int .i32 (-11)) rfl zq (by decide) (op_sub (by decide)) ?_;refine d9 ?_
           exact jn36 _ _ _ _ ⟨rfl,rfl,rfl,true,_,exU rfl,(fun e=>by cases e),by decide⟩
          ·refine d1 ?_;refine i_not rfl zq ?_;refine d57 ?_
           refine i_shift (v:= .int .i32 (nn:Int)) rfl rfl (.inr rfl) (op_shr (by decide) (wdB ⟨false,false,true,nn⟩ (by show nn<390;omega)).shr3) ?_;refine i_int (v:= .bool (decide ((nn:Int)=1))) rfl rfl (by decide) (op_eql rfl) ?_;by_cases hn1:nn=1
           ·rw [decide_eq_true (show (nn:Int)=1 by omega)];refine i_pickF rfl zq ?_;refine d128 ?_;refine i_int (v:= .int .i32 (-11)) rfl zq (by decide) (op_sub (by decide)) ?_;refine d9 ?_
            exact jn36 _ _ _ _ ⟨rfl,rfl,rfl,true,_,exU rfl,(fun e=>by cases e),by decide⟩
           ·rw [decide_eq_false (show¬(nn:Int)=1 by omega)];refine d51 ?_
            exact jn36 _ _ _ _ ⟨rfl,rfl,rfl,false,_,exU rfl,(fun _=>by omega),by decide⟩
       ·intro jn29
        cases sv
        ·refine d1 ?_;refine i_mv rfl zq ?_
         refine s_nano extNano quietNano rfl rfl (fun t2=>k_putY ?_)
         refine i_mv rfl rfl ?_;refine i_int (v:= .int .i64 (IntKind.i64.wrap (t2-wst1))) rfl rfl (by decide) (op_sub rfl) ?_;refine i_int (v:= .bool (decide (IntKind.i64.wrap (t2-wst1)>1000000))) rfl rfl (by decide) (op_gtr rfl) ?_;refine i_pickF rfl zq ?_;refine d9 ?_;exact jn29 _ _ _ _ ⟨rfl,rfl,rfl,_,exU rfl⟩
        ·refine d1 ?_;refine d148 ?_;refine i_pickT rfl zq ?_;refine d9 ?_
         exact jn29 _ _ _ _ ⟨rfl,rfl,rfl,_,exU rfl⟩
      ·intro jn27
       refine d14 ?_
       refine i_int (v:= .bool (decide (wst=0))) rfl zq (by decide) (op_eql rfl) ?_;refine i_region_end ?_;refine i_split (fun hc=>?_) (fun hc=>?_)
       ·refine i_region rfl ?_;refine s_nano extNano quietNano rfl zq (fun t1=>k_putY ?_)
        refine d9 ?_
        exact jn27 _ _ _ _ ⟨rfl,rfl,rfl,_,exU rfl⟩
       ·refine i_skip ?_;exact jn27 _ _ _ _ ⟨rfl,rfl,rfl,_,exU rfl⟩
     ·refine d15 ?_;refine d1 ?_;refine d10 ?_
      refine s_loadLook (quiet 179 (by decide)) rfl zq hM (fun x hx hwx=>k_putY ?_)
      refine d9 ?_;refine i_inBlock ?_
      exact hnext _ _ _ _ _ (by omega) ⟨aw,x,kk-1,it,wst,sv,rfl,rfl,rfl,rfl,hit,hx,hwx,hsv,exU rfl⟩
   ·intro jn22
    refine i_seq ?_;obtain ⟨ol,ow,os,on⟩:=old
    replace ho:on≤384:=ho
    cases ol<;>cases os
    ·refine d1 ?_;refine d9 ?_;refine i_seq ?_;refine i_seq ?_
     cases aw
     ·obtain rfl:sv=false:=by cases sv with
       |true=>exact absurd (hsv rfl) (by simp)
       |false=>rfl
      refine d1 ?_
      refine i_int (v:= .int .i32 0) rfl zq (by decide) (op_and ((wdB ⟨false,ow,false,on⟩ (by show on<390;omega)).and4.trans rfl)) ?_;refine i_int (v:= .bool true) rfl zq (by decide) (op_eql (by decide)) ?_;refine d128 ?_
      refine i_int (v:= .int .i32 ((⟨true,ow,false,on⟩:Wd).val:Int)) rfl zq (by decide) (op_or ((wdB ⟨false,ow,false,on⟩ (by show on<390;omega)).or1)) ?_;refine d79 ?_
      refine i_int (v:= .int .i32 0) rfl zq (by decide) (op_and ((wdB ⟨false,ow,false,on⟩ (by show on<390;omega)).and5.trans rfl)) ?_;refine i_int (v:= .bool false) rfl zq (by decide) (op_neq (by decide)) ?_;refine d31 ?_;refine d30 ?_;refine d101 ?_;refine d123 ?_;refine d31 ?_
      exact jn22 _ _ _ _ ⟨rfl,rfl,rfl,⟨true,ow,false,on⟩,exU rfl,.inl ⟨rfl,rfl,by simp⟩⟩
     ·obtain rfl:ow=true:=(hwk rfl).1
      cases sv
      ·refine d1 ?_
       refine i_int (v:= .int .i32 0) rfl zq (by decide) (op_and ((wdB ⟨false,true,false,on⟩ (by show on<390;omega)).and4.trans rfl)) ?_;refine i_int (v:= .bool true) rfl zq (by decide) (op_eql (by decide)) ?_;refine d128 ?_
       refine i_int (v:= .int .i32 ((⟨true,true,false,on⟩:Wd).val:Int)) rfl zq (by decide) (op_or ((wdB ⟨false,true,false,on⟩ (by show on<390;omega)).or1)) ?_;refine d79 ?_
       refine i_int (v:= .int .i32 0) rfl zq (by decide) (op_and ((wdB ⟨false,true,false,on⟩ (by show on<390;omega)).and5.trans rfl)) ?_;refine i_int (v:= .bool false) rfl zq (by decide) (op_neq (by decide)) ?_;refine d31 ?_;refine d30 ?_;refine d101 ?_;refine d123 ?_;refine d34 ?_;refine d30 ?_
       refine i_int (v:= .int .i32 2) rfl zq (by decide) (op_and ((wdB ⟨true,true,false,on⟩ (by show on<390;omega)).and2.trans rfl)) ?_;refine i_int (v:= .bool false) rfl zq (by decide) (op_eql (by decide)) ?_;refine d31 ?_;refine d1 ?_
       refine i_int (v:= .int .i32 ((⟨true,false,false,on⟩:Wd).val:Int)) rfl zq (by decide) (op_clr ((wdB ⟨true,true,false,on⟩ (by show on<390;omega)).clr2)) ?_;refine d9 ?_
       exact jn22 _ _ _ _ ⟨rfl,rfl,rfl,⟨true,false,false,on⟩,exU rfl,.inl ⟨rfl,rfl,by simp⟩⟩
      ·refine d1 ?_
       refine i_int (v:= .int .i32 0) rfl zq (by decide) (op_and ((wdB ⟨false,true,false,on⟩ (by show on<390;omega)).and4.trans rfl)) ?_;refine i_int (v:= .bool true) rfl zq (by decide) (op_eql (by decide)) ?_;refine d128 ?_
       refine i_int (v:= .int .i32 ((⟨true,true,false,on⟩:Wd).val:Int)) rfl zq (by decide) (op_or ((wdB ⟨false,true,false,on⟩ (by show on<390;omega)).or1)) ?_;refine d79 ?_
       refine i_int (v:= .int .i32 0) rfl zq (by decide) (op_and ((wdB ⟨false,true,false,on⟩ (by show on<390;omega)).and5.trans rfl)) ?_;refine i_int (v:= .bool false) rfl zq (by decide) (op_neq (by decide)) ?_;refine d31 ?_;refine d30 ?_;refine d57 ?_
       refine i_int (v:= .int .i32 0) rfl rfl (by decide) (op_and ((wdB ⟨false,true,false,on⟩ (by show on<390;omega)).and1.trans rfl)) ?_;refine i_int (v:= .bool false) rfl rfl (by decide) (op_neq (by decide)) ?_;refine i_pickT rfl zq ?_;refine d31 ?_;refine d30 ?_;refine d34 ?_;refine d30 ?_;refine i_int (v:= .int .i32 2) rfl zq (by decide) (op_and ((wdB ⟨true,true,false,on⟩ (by show on<390;omega)).and2.trans rfl)) ?_;refine i_int (v:= .bool false) rfl zq (by decide) (op_eql (by decide)) ?_;refine d31 ?_;refine d1 ?_
       refine i_int (v:= .int .i32 ((⟨true,false,false,on⟩:Wd).val:Int)) rfl zq (by decide) (op_clr ((wdB ⟨true,true,false,on⟩ (by show on<390;omega)).clr2)) ?_;refine d9 ?_
       exact jn22 _ _ _ _ ⟨rfl,rfl,rfl,⟨true,false,false,on⟩,exU rfl,.inl ⟨rfl,rfl,by simp⟩⟩
    ·refine d1 ?_;refine d9 ?_;refine i_seq ?_;refine i_seq ?_
     obtain rfl:aw=false:=by cases aw with
      |true=>exact absurd (hwk rfl).2 (by simp)
      |false=>rfl
     obtain rfl:sv=false:=by cases sv with
      |true=>exact absurd (hsv rfl) (by simp)
      |false=>rfl
     refine d1 ?_
     refine i_int (v:= .int .i32 4) rfl zq (by decide) (op_and ((wdB ⟨false,ow,true,on⟩ (by show on<390;omega)).and4.trans rfl)) ?_;refine i_int (v:= .bool false) rfl zq (by decide) (op_eql (by decide)) ?_;refine d31 ?_;refine d30 ?_
     refine i_int (v:= .int .i32 4) rfl zq (by decide) (op_and ((wdB ⟨false,ow,true,on⟩ (by show on<390;omega)).and5.trans rfl)) ?_;refine i_int (v:= .bool true) rfl zq (by decide) (op_neq (by decide)) ?_;refine d128 ?_
     refine i_int (v:= .int .i32 ((⟨false,ow,true,on+1⟩:Wd).val:Int)) rfl zq (by decide) (op_add ((wdB ⟨false,ow,true,on⟩ (by show on<390;omega)).add8)) ?_;refine d79 ?_;refine d101 ?_;refine d123 ?_;refine d31 ?_
     exact jn22 _ _ _ _ ⟨rfl,rfl,rfl,⟨false,ow,true,on+1⟩,exU rfl,.inr ⟨by simp,by simp⟩⟩
    ·refine d1 ?_;refine d9 ?_;refine i_seq ?_;refine i_seq ?_
     cases aw
     ·obtain rfl:sv=false:=by cases sv with
       |true=>exact absurd (hsv rfl) (by simp)
       |false=>rfl
      refine d1 ?_
      refine i_int (v:= .int .i32 0) rfl zq (by decide) (op_and ((wdB ⟨true,ow,false,on⟩ (by show on<390;omega)).and4.trans rfl)) ?_;refine i_int (v:= .bool true) rfl zq (by decide) (op_eql (by decide)) ?_;refine d128 ?_
      refine i_int (v:= .int .i32 ((⟨true,ow,false,on⟩:Wd).val:Int)) rfl zq (by decide) (op_or ((wdB ⟨true,ow,false,on⟩ (by show on<390;omega)).or1)) ?_;refine d79 ?_
      refine i_int (v:= .int .i32 1) rfl zq (by decide) (op_and ((wdB ⟨true,ow,false,on⟩ (by show on<390;omega)).and5.trans rfl)) ?_;refine i_int (v:= .bool true) rfl zq (by decide) (op_neq (by decide)) ?_;refine d128 ?_
      refine i_int (v:= .int .i32 ((⟨true,ow,false,on+1⟩:Wd).val:Int)) rfl zq (by decide) (op_add ((wdB ⟨true,ow,false,on⟩ (by show on<390;omega)).add8)) ?_;refine d79 ?_;refine d101 ?_;refine d123 ?_;refine d31 ?_
      exact jn22 _ _ _ _ ⟨rfl,rfl,rfl,⟨true,ow,false,on+1⟩,exU rfl,.inr ⟨by simp,by simp⟩⟩
     ·obtain rfl:ow=true:=(hwk rfl).1
      cases sv
      ·refine d1 ?_
       refine i_int (v:= .int .i32 0) rfl zq (by decide) (op_and ((wdB ⟨true,true,false,on⟩ (by show on<390;omega)).and4.trans rfl)) ?_;refine i_int (v:= .bool true) rfl zq (by decide) (op_eql (by decide)) ?_;refine d128 ?_
       refine i_int (v:= .int .i32 ((⟨true,true,false,on⟩:Wd).val:Int)) rfl zq (by decide) (op_or ((wdB ⟨true,true,false,on⟩ (by show on<390;omega)).or1)) ?_;refine d79 ?_
       refine i_int (v:= .int .i32 1) rfl zq (by decide) (op_and ((wdB ⟨true,true,false,on⟩ (by show on<390;omega)).and5.trans rfl)) ?_;refine i_int (v:= .bool true) rfl zq (by decide) (op_neq (by decide)) ?_;refine d128 ?_
       refine i_int (v:= .int .i32 ((⟨true,true,false,on+1⟩:Wd).val:Int)) rfl zq (by decide) (op_add ((wdB ⟨true,true,false,on⟩ (by show on<390;omega)).add8)) ?_;refine d79 ?_;refine d101 ?_;refine d123 ?_;refine d34 ?_;refine d30 ?_
       refine i_int (v:= .int .i32 2) rfl zq (by decide) (op_and ((wdB ⟨true,true,false,on+1⟩ (by show on+1<390;omega)).and2.trans rfl)) ?_;refine i_int (v:= .bool false) rfl zq (by decide) (op_eql (by decide)) ?_;refine d31 ?_;refine d1 ?_
       refine i_int (v:= .int .i32 ((⟨true,false,false,on+1⟩:Wd).val:Int)) rfl zq (by decide) (op_clr ((wdB ⟨true,true,false,on+1⟩ (by show on+1<390;omega)).clr2)) ?_;refine d9 ?_
       exact jn22 _ _ _ _ ⟨rfl,rfl,rfl,⟨true,false,false,on+1⟩,exU rfl,.inr ⟨by simp,by simp⟩⟩
      ·refine d1 ?_
       refine i_int (v:= .int .i32 0) rfl zq (by decide) (op_and ((wdB ⟨true,true,false,on⟩ (by show on<390;omega)).and4.trans rfl)) ?_;refine i_int (v:= .bool true) rfl zq (by decide) (op_eql (by decide)) ?_;refine d128 ?_
       refine i_int (v:= .int .i32 ((⟨true,true,false,on⟩:Wd).val:Int)) rfl zq (by decide) (op_or ((wdB ⟨true,true,false,on⟩ (by show on<390;omega)).or1)) ?_;refine d79 ?_
       refine i_int (v:= .int .i32 1) rfl zq (by decide) (op_and ((wdB ⟨true,true,false,on⟩ (by show on<390;omega)).and5.trans rfl)) ?_;refine i_int (v:= .bool true) rfl zq (by decide) (op_neq (by decide)) ?_;refine d128 ?_
       refine i_int (v:= .int .i32 ((⟨true,true,false,on+1⟩:Wd).val:Int)) rfl zq (by decide) (op_add ((wdB ⟨true,true,false,on⟩ (by show on<390;omega)).add8)) ?_;refine d79 ?_;refine d57 ?_
       refine i_int (v:= .int .i32 1) rfl rfl (by decide) (op_and ((wdB ⟨true,true,false,on⟩ (by show on<390;omega)).and1.trans rfl)) ?_;refine i_int (v:= .bool true) rfl rfl (by decide) (op_neq (by decide)) ?_;refine d98 ?_;refine d1 ?_
       refine i_int (v:= .int .i32 ((⟨true,true,true,on+1⟩:Wd).val:Int)) rfl zq (by decide) (op_or ((wdB ⟨true,true,false,on+1⟩ (by show on+1<390;omega)).or4)) ?_;refine d79 ?_;refine d34 ?_;refine d30 ?_
       refine i_int (v:= .int .i32 2) rfl zq (by decide) (op_and ((wdB ⟨true,true,true,on+1⟩ (by show on+1<390;omega)).and2.trans rfl)) ?_;refine i_int (v:= .bool false) rfl zq (by decide) (op_eql (by decide)) ?_;refine d31 ?_;refine d1 ?_
       refine i_int (v:= .int .i32 ((⟨true,false,true,on+1⟩:Wd).val:Int)) rfl zq (by decide) (op_clr ((wdB ⟨true,true,true,on+1⟩ (by show on+1<390;omega)).clr2)) ?_;refine d9 ?_
       exact jn22 _ _ _ _ ⟨rfl,rfl,rfl,⟨true,false,true,on+1⟩,exU rfl,.inr ⟨by simp,by simp⟩⟩
    ·refine d1 ?_;refine d9 ?_;refine i_seq ?_;refine i_seq ?_
     obtain rfl:aw=false:=by cases aw with
      |true=>exact absurd (hwk rfl).2 (by simp)
      |false=>rfl
     obtain rfl:sv=false:=by cases sv with
      |true=>exact absurd (hsv rfl) (by simp)
      |false=>rfl
     refine d1 ?_
     refine i_int (v:= .int .i32 4) rfl zq (by decide) (op_and ((wdB ⟨true,ow,true,on⟩ (by show on<390;omega)).and4.trans rfl)) ?_;refine i_int (v:= .bool false) rfl zq (by decide) (op_eql (by decide)) ?_;refine d31 ?_;refine d30 ?_
     refine i_int (v:= .int .i32 5) rfl zq (by decide) (op_and ((wdB ⟨true,ow,true,on⟩ (by show on<390;omega)).and5.trans rfl)) ?_;refine i_int (v:= .bool true) rfl zq (by decide) (op_neq (by decide)) ?_;refine d128 ?_
     refine i_int (v:= .int .i32 ((⟨true,ow,true,on+1⟩:Wd).val:Int)) rfl zq (by decide) (op_add ((wdB ⟨true,ow,true,on⟩ (by show on<390;omega)).add8)) ?_;refine d79 ?_;refine d101 ?_;refine d123 ?_;refine d31 ?_
     exact jn22 _ _ _ _ ⟨rfl,rfl,rfl,⟨true,ow,true,on+1⟩,exU rfl,.inr ⟨by simp,by simp⟩⟩
  ·intro jn11
   refine d14 ?_
   refine i_int (v:= .int .i32 (b01 old.l+4*b01 old.s)) rfl zq (by decide) (op_and (wdB old (by omega)).and5) ?_;obtain ⟨ol,ow,os,on⟩:=old
   replace ho:on≤384:=ho
   refine i_int (v:= .bool (ol&&!os)) rfl zq (by decide) (op_eql (by cases ol<;>cases os<;>rfl)) ?_;cases hsp:ol&&!os
   ·refine d43 ?_;refine d51 ?_
    exact jn11 _ _ _ _ ⟨rfl,rfl,rfl,exU rfl⟩
   ·obtain ⟨rfl,rfl⟩:ol=true∧os=false:=by cases ol<;>cases os<;>simp at hsp⊢
    refine d57 ?_
    refine s_spin extCanSpin rfl rfl (fun t ht=>k_putY ?_)
    cases t
    ·refine i_pickT rfl zq ?_;refine d31 ?_;exact jn11 _ _ _ _ ⟨rfl,rfl,rfl,exU rfl⟩
    ·have hit4:=ht rfl
     refine d98 ?_
     refine s_joinS (fun D' s' h' l'=>D'=1∧h=h'∧((s'= .w kn (.try_ aw ⟨true,ow,false,on⟩ kk) .on z∧ ∃U:Nat→Value,l'=((.pointer (some ⟨M.mu,0,none⟩))::(U 1)::(.int .i64 wst)::(.bool sv)::(.bool aw)::(.int .i64 (it:Int))::(.int .i32 ((⟨true,ow,false,on⟩:Wd).val:Int))::vw132 U 7 []))∨(0<kk∧s'= .w kn (.look true (kk-1)) .on z∧ ∃U:Nat→Value,l'=((.pointer (some ⟨M.mu,0,none⟩))::(U 1)::(.int .i64 wst)::(.bool sv)::(.bool true)::(.int .i64 (it:Int))::(.int .i32 ((⟨true,ow,false,on⟩:Wd).val:Int))::vw132 U 7 []))∨(0<kk∧aw=false∧s'= .w kn (.look false (kk-1)) .on z∧ ∃U:Nat→Value,l'=((.pointer (some ⟨M.mu,0,none⟩))::(U 1)::(.int .i64 wst)::(.bool sv)::(.bool false)::(.int .i64 (it:Int))::(.int .i32 ((⟨true,ow,false,on⟩:Wd).val:Int))::vw132 U 7 [])))) ?_ ?_
     ·rintro _ _ _ _ ⟨rfl,rfl,⟨rfl,U,rfl⟩|⟨hk,rfl,U,rfl⟩|⟨hk,rfl,rfl,U,rfl⟩⟩
      ·refine d49 ?_
       refine i_ext extDoSpin rfl zq rfl ?_;refine i_region_end ?_;refine d14 ?_;refine i_int (v:= .int .i64 ((it+1:Nat):Int)) rfl zq (by decide) (op_add (by rw [show (it:Int)+1=((it+1:Nat):Int) by omega];exact wrap_in (by unfold In64;omega))) ?_;refine d9 ?_;refine d76 ?_
       refine s_loadTry (quiet 179 (by decide)) rfl zq hM (fun x hx hwx=>k_putY ?_)
       refine d9 ?_;refine i_exit rfl ?_
       exact hnext _ _ _ _ _ (by omega) ⟨aw,x,kk,it+1,wst,sv,rfl,rfl,rfl,rfl,by omega,hx,hwx,hsv,exU rfl⟩
      ·refine d49 ?_
       refine i_ext extDoSpin rfl zq rfl ?_;refine i_region_end ?_;refine d14 ?_;refine i_int (v:= .int .i64 ((it+1:Nat):Int)) rfl zq (by decide) (op_add (by rw [show (it:Int)+1=((it+1:Nat):Int) by omega];exact wrap_in (by unfold In64;omega))) ?_;refine d9 ?_;refine d76 ?_
       refine s_loadLook (quiet 179 (by decide)) rfl zq hM (fun x hx hwx=>k_putY ?_)
       refine d9 ?_;refine i_exit rfl ?_
       exact hnext _ _ _ _ _ (by omega) ⟨true,x,kk-1,it+1,wst,sv,rfl,rfl,rfl,rfl,by omega,hx,hwx,fun _=>rfl,exU rfl⟩
      ·refine d49 ?_
       refine i_ext extDoSpin rfl zq rfl ?_;refine i_region_end ?_;refine d14 ?_;refine i_int (v:= .int .i64 ((it+1:Nat):Int)) rfl zq (by decide) (op_add (by rw [show (it:Int)+1=((it+1:Nat):Int) by omega];exact wrap_in (by unfold In64;omega))) ?_;refine d9 ?_;refine d76 ?_
       refine s_loadLook (quiet 179 (by decide)) rfl zq hM (fun x hx hwx=>k_putY ?_)
       refine d9 ?_;refine i_exit rfl ?_
       exact hnext _ _ _ _ _ (by omega) ⟨false,x,kk-1,it+1,wst,sv,rfl,rfl,rfl,rfl,by omega,hx,hwx,hsv,exU rfl⟩
     ·intro jn8
      refine i_seq ?_;cases aw
      ·cases ow
       ·refine d1 ?_;refine i_not rfl zq ?_;refine d57 ?_
        refine i_int (v:= .int .i32 0) rfl rfl (by decide) (op_and ((wdB ⟨true,false,false,on⟩ (by show on<390;omega)).and2.trans rfl)) ?_;refine i_int (v:= .bool true) rfl rfl (by decide) (op_eql (by decide)) ?_;refine i_pickT rfl zq ?_;refine d57 ?_;refine i_shift (v:= .int .i32 (on:Int)) rfl rfl (.inr rfl) (op_shr (by decide) (wdB ⟨true,false,false,on⟩ (by show on<390;omega)).shr3) ?_;refine i_int (v:= .bool (decide ((on:Int)≠0))) rfl rfl (by decide) (op_neq rfl) ?_;by_cases hon:on=0
        ·rw [decide_eq_false (show¬(on:Int)≠0 by omega)];refine i_pickT rfl zq ?_;refine d148 ?_;refine d16 ?_;refine i_off rfl rfl ?_;refine d51 ?_;exact jn8 _ _ _ _ ⟨rfl,rfl,.inl ⟨rfl,exU rfl⟩⟩
        ·rw [decide_eq_true (show (on:Int)≠0 by omega)];refine i_pickT rfl zq ?_;refine d57 ?_;refine i_nilCheck rfl rfl ?_;(first|refine i_fa0 rfl rfl ?_|refine i_fa rfl rfl ?_);refine i_mv rfl rfl ?_;refine i_mv rfl rfl ?_;refine i_int (v:= .int .i32 ((⟨true,true,false,on⟩:Wd).val:Int)) rfl rfl (by decide) (op_or ((wdB ⟨true,false,false,on⟩ (by show on<390;omega)).or2)) ?_;refine s_casSpin (old:=⟨true,false,false,on⟩) (new:=⟨true,true,false,on⟩) extCas32 rfl rfl rfl rfl rfl rfl (fun hk=>k_putY ?_) (fun hk=>k_putY ?_)
         ·refine d98 ?_;refine i_region rfl ?_;refine d9 ?_
          exact jn8 _ _ _ _ ⟨rfl,rfl,.inr (.inl ⟨hk,rfl,exU rfl⟩)⟩
         ·refine i_pickT rfl zq ?_;refine d31 ?_;exact jn8 _ _ _ _ ⟨rfl,rfl,.inr (.inr ⟨hk,rfl,rfl,exU rfl⟩)⟩
       ·refine d1 ?_;refine i_not rfl zq ?_;refine d57 ?_
        refine i_int (v:= .int .i32 2) rfl rfl (by decide) (op_and ((wdB ⟨true,true,false,on⟩ (by show on<390;omega)).and2.trans rfl)) ?_;refine i_int (v:= .bool false) rfl rfl (by decide) (op_eql (by decide)) ?_;refine i_pickT rfl zq ?_;refine d101 ?_;refine i_pickF rfl zq ?_;refine d148 ?_;refine d16 ?_;refine i_off rfl rfl ?_;refine d51 ?_;exact jn8 _ _ _ _ ⟨rfl,rfl,.inl ⟨rfl,exU rfl⟩⟩
      ·refine d1 ?_;refine i_not rfl zq ?_;refine d101 ?_;refine i_pickF rfl zq ?_;refine d101 ?_;refine i_pickF rfl zq ?_;refine d148 ?_;refine d16 ?_;refine i_off rfl rfl ?_;refine d51 ?_
       exact jn8 _ _ _ _ ⟨rfl,rfl,.inl ⟨rfl,exU rfl⟩⟩
end Go.Proofs
namespace Go.Proofs
open Go.Lo
open Go.Conc (G dcall)
set_option maxRecDepth 100000
set_option synthInstance.maxSize 100000
set_option synthInstance.maxHeartbeats 1000000
set_option maxHeartbeats 4000000
variable {B:Array Obj} {M:Meet} {Y:Sy Tryz.prog B M.pro} {h:Hp} {kn:Nat} {z:List Nat}
theorem lock180_c (hM:M.n≤64) {c:Frame} {cs:List Frame} (hitc: ∀ks Pool,M.PL ks Pool→kn∉ks→(∀k'∈ks,k'<M.n∧M.hit k'=true)→ks.Nodup→(Y.im 0 (.w kn (.hold 1) .on ks) (h++Pool)).R (G (c.finish (.tuple #[])) cs)):
  (Y.im 0 (.w kn .out .on z) h).R (G (Frame.enter Tryz.prog 145 [.pointer (some ⟨M.mu,0,none⟩)].toArray .normal) (c::cs)):=by
 refine i_enter Tryz.func145 rfl rfl (l:=(.pointer (some ⟨M.mu,0,none⟩))::uu12) rfl ?_;refine d49 ?_
 refine s_disable extDisable rfl zq ?_
 refine i_region_end ?_;refine d30 ?_;refine d10 ?_;refine s_casFast extCas32 rfl zq (k_putY ?_) (fun kk=>k_putY ?_)
 ·refine d34 ?_;refine i_seq ?_;refine i_if ?_;refine d49 ?_
  refine s_enable extEnable rfl zq ?_
  refine i_region_end ?_;refine d1 ?_;refine s_uptr rfl zq ⟨.inl rfl,.inl rfl⟩ uptrM.1 uptrM.2.1 uptrM.2.2 ?_
  refine s_take extAcquire rfl zq (fun ks Pool q1 q2 q3 q4=>?_)
  refine i_region_end ?_;refine i_ret rfl ?_;refine i_return rfl Tryz.func145 (still_results0 rfl) ?_;exact hitc ks Pool q1 q2 q3 q4
 ·refine d31 ?_;refine d1 ?_
  refine i_cal rfl zq (by kernel_rfl) (lockSlow_c hM (fun ks Pool q1 q2 q3 q4=>?_));refine i_fin rfl ?_;refine d102 ?_;refine i_return rfl Tryz.func145 (still_results0 rfl) ?_;exact hitc ks Pool q1 q2 q3 q4
theorem lock_c (hM:M.n≤64) {c:Frame} {cs:List Frame} (hitc: ∀ks Pool,M.PL ks Pool→kn∉ks→(∀k'∈ks,k'<M.n∧M.hit k'=true)→ks.Nodup→(Y.im 0 (.w kn (.hold 1) .on ks) (h++Pool)).R (G (c.finish (.tuple #[])) cs)):
  (Y.im 0 (.w kn .out .on z) h).R (G (Frame.enter Tryz.prog 94 [.pointer (some ⟨M.mu,0,none⟩)].toArray .normal) (c::cs)):=by
 refine i_enter Tryz.func94 rfl rfl (l:=[.pointer (some ⟨M.mu,0,none⟩),undef,undef,undef,undef,undef]) rfl ?_;refine d1 ?_;refine d10 ?_
 refine i_cal rfl zq (by kernel_rfl) (lock180_c hM (fun ks Pool q1 q2 q3 q4=>?_));refine i_fin rfl ?_;refine d102 ?_;refine i_return rfl Tryz.func94 (still_results0 rfl) ?_;exact hitc ks Pool q1 q2 q3 q4
theorem unlockSlow_c (hM:M.n≤64) {c:Frame} {cs:List Frame} {x:Wd} {kk:Nat} (hl:x.l=false) (hn:x.n≤384) (hitc:(Y.im 1 (.w kn .fin .on z) h).R (G (c.finish (.tuple #[])) cs)):
  (Y.im 1 (.w kn (.behind x kk) .on z) h).R (G (Frame.enter Tryz.prog 181 [.pointer (some ⟨M.mu,0,none⟩),.int .i32 (x.val:Int)].toArray .normal) (c::cs)):=by
 refine i_enter Tryz.func181 rfl rfl (l:=(.pointer (some ⟨M.mu,0,none⟩))::(.int .i32 (x.val:Int))::uu41) rfl ?_;refine d30 ?_
 refine i_int (v:= .int .i32 (IntKind.i32.wrap ((x.val:Int)+1))) rfl zq (by decide) (op_add rfl) ?_;refine i_int (v:= .int .i32 1) rfl zq (by decide) (op_and ((wdB x (by omega)).odd hl)) ?_;refine i_int (v:= .bool false) rfl zq (by decide) (op_eql (by decide)) ?_;refine d31 ?_;refine d14 ?_
 refine i_int (v:= .int .i32 (4*b01 x.s)) rfl zq (by decide) (op_and ((wdB x (by omega)).and4)) ?_;refine i_int (v:= .bool (!x.s)) rfl zq (by decide) (op_eql (by cases x.s<;>rfl)) ?_;cases hs:x.s
 ·have hb:LS.behind x kk=LS.found x kk:=by unfold LS.behind LS.found;rw [hs,hl];simp
  rw [hb];refine d34 ?_;refine d14 ?_;refine d9 ?_;refine i_block ?_
  refine s_loop (fun nn D' s' h' l'=> ∃(x:Wd) (kk:Nat),D'=1∧s'= .w kn (LS.found x kk) .on z∧h=h'∧nn=kk*1∧x.n≤384∧ ∃U:Nat→Value,l'=((.pointer (some ⟨M.mu,0,none⟩))::(U 1)::(U 2)::(U 3)::(.int .i32 (x.val:Int))::vw38 U 5 [])) _ ⟨x,kk,rfl,rfl,rfl,rfl,hn,exU rfl⟩ ?_
  clear hb hs hl hn
  rintro nn _ _ _ _ ⟨x,kk,rfl,rfl,rfl,rfl,hn,U,rfl⟩ hnext;refine i_block ?_;refine i_seq ?_;refine i_seq ?_;by_cases hc:x.n=0∨x.l=true∨x.w=true∨x.s=true
  ·rw [show LS.found x kk= .fin by unfold LS.found;rw [if_pos hc]];refine d1 ?_
   refine i_shift (v:= .int .i32 (x.n:Int)) rfl zq (.inr rfl) (op_shr (by decide) (wdB x (by omega)).shr3) ?_;refine i_int (v:= .bool (decide ((x.n:Int)=0))) rfl zq (by decide) (op_eql rfl) ?_;by_cases hn0:x.n=0
   ·rw [decide_eq_true (show (x.n:Int)=0 by omega)];refine d101 ?_;refine d98 ?_;refine i_ret rfl ?_
    refine i_return rfl Tryz.func181 (still_results0 rfl) ?_;exact hitc
   ·rw [decide_eq_false (show¬(x.n:Int)=0 by omega)];refine d57 ?_
    refine i_int (v:= .int .i32 (b01 x.l+2*b01 x.w+4*b01 x.s)) rfl rfl (by decide) (op_and ((wdB x (by omega)).and7)) ?_;refine i_int (v:= .bool true) rfl rfl (by decide) (op_neq (decide_eq_true (by rcases hc with e|e|e|e<;>first|omega|(simp only [e,b01_true];omega)))) ?_;refine i_pickF rfl zq ?_;refine d34 ?_;refine i_ret rfl ?_;refine i_return rfl Tryz.func181 (still_results0 rfl) ?_;exact hitc
  ·obtain ⟨n,rfl⟩: ∃n,x=⟨false,false,false,n⟩:=by
    obtain ⟨l,w,s,n⟩:=x
    cases l<;>cases w<;>cases s<;>simp at hc⊢
   replace hn:n≤384:=hn
   have hn0:n≠0:=fun e=>hc (.inl e)
   rw [show LS.found ⟨false,false,false,n⟩ kk= .unl ⟨false,false,false,n⟩ kk by unfold LS.found;rw [if_neg hc]];refine d1 ?_
   refine i_shift (v:= .int .i32 (n:Int)) rfl zq (.inr rfl) (op_shr (by decide) (wdB ⟨false,false,false,n⟩ (by show n<390;omega)).shr3) ?_;refine i_int (v:= .bool false) rfl zq (by decide) (op_eql (decide_eq_false (by omega))) ?_;refine d57 ?_
   refine i_int (v:= .int .i32 0) rfl rfl (by decide) (op_and ((wdB ⟨false,false,false,n⟩ (by show n<390;omega)).and7.trans rfl)) ?_;refine i_int (v:= .bool false) rfl rfl (by decide) (op_neq (by decide)) ?_;refine d51 ?_;refine d14 ?_
   refine i_int (v:= .int .i32 ((⟨false,false,false,n-1⟩:Wd).val:Int)) rfl zq (by decide) (op_sub ((wdB ⟨false,false,false,n⟩ (by show n<390;omega)).sub8 hn0)) ?_;refine i_int (v:= .int .i32 ((⟨false,true,false,n-1⟩:Wd).val:Int)) rfl zq (by decide) (op_or ((wdB ⟨false,false,false,n-1⟩ (by show n-1<390;omega)).or2)) ?_;refine d79 ?_;refine d10 ?_;refine i_mv rfl zq ?_;refine i_mv rfl zq ?_
   refine s_casWake (old:=⟨false,false,false,n⟩) (new:=⟨false,true,false,n-1⟩) extCas32 rfl zq rfl (k_putY ?_) (fun hk=>k_putY ?_)
   ·refine d34 ?_;refine d76 ?_
    refine s_wakes extSemR rfl zq hM (k_putY ?_)
    refine i_region_end ?_;refine i_ret rfl ?_;refine i_return rfl Tryz.func181 (still_results0 rfl) ?_;exact hitc
   ·refine d31 ?_;refine d1 ?_;refine d10 ?_
    refine s_loadSeek (quiet 181 (by decide)) rfl zq hM (fun x hx=>k_putY ?_)
    refine d9 ?_;refine i_inBlock ?_
    exact hnext _ _ _ _ _ (by omega) ⟨x,kk-1,rfl,rfl,rfl,rfl,hx,exU rfl⟩
 ·have hb:LS.behind x kk= .post:=by unfold LS.behind;rw [hs];rfl
  rw [hb];refine d15 ?_;refine d1 ?_;refine d10 ?_
  refine s_wakes extSemR rfl zq hM (k_putY ?_)
  refine d102 ?_
  refine i_return rfl Tryz.func181 (still_results0 rfl) ?_;exact hitc
theorem unlock181_c (hM:M.n≤64) {c:Frame} {cs:List Frame} {hr hp:Hp} (eh:Weak B h (hr++hp)) (hh:M.hit kn=true) (hP:M.PL (z++[kn]) hp) (hitc:(Y.im 0 (.w kn .fin .on z) hr).R (G (c.finish (.tuple #[])) cs)):
  (Y.im 0 (.w kn (.hold 1) .on z) h).R (G (Frame.enter Tryz.prog 146 [.pointer (some ⟨M.mu,0,none⟩)].toArray .normal) (c::cs)):=by
 refine i_enter Tryz.func146 rfl rfl (l:=(.pointer (some ⟨M.mu,0,none⟩))::uu20) rfl ?_;refine i_seq ?_;refine i_if ?_;refine d76 ?_;refine s_loadIdle (quiet 146 (by decide)) rfl zq (fun u=>k_putY ?_)
 refine i_region_end ?_;refine d14 ?_;refine s_uptr rfl zq ⟨.inl rfl,.inl rfl⟩ uptrM.1 uptrM.2.1 uptrM.2.2 ?_
 refine s_put extMerge rfl zq eh hh hP ?_
 refine i_region_end ?_;refine i_region rfl ?_;refine s_disable extDisable rfl zq ?_
 refine i_region_end ?_;refine d76 ?_;refine s_give extAdd32 rfl zq hM (fun x kk hl hn=>k_putY ?_)
 refine d79 ?_
 refine i_int (v:= .bool (decide ((x.val:Int)≠0))) rfl zq (by decide) (op_neq rfl) ?_;by_cases hx:x.val=0
 ·rw [decide_eq_false (show¬(x.val:Int)≠0 by omega)];rw [show LS.behind x kk= .fin by rw [show x=⟨false,false,false,0⟩ from Wd.inj hx];rfl];refine d31 ?_;refine i_region rfl ?_
  refine s_enable extEnable rfl zq ?_
  refine d102 ?_
  refine i_return rfl Tryz.func146 (still_results0 rfl) ?_;exact hitc
 ·rw [decide_eq_true (show (x.val:Int)≠0 by omega)];refine d128 ?_;refine i_mv rfl zq ?_
  refine i_cal rfl zq (by kernel_rfl) (unlockSlow_c hM hl hn ?_);refine i_fin rfl ?_;refine i_region_end ?_;refine i_region rfl ?_;refine s_enable extEnable rfl zq ?_
  refine d102 ?_
  refine i_return rfl Tryz.func146 (still_results0 rfl) ?_;exact hitc
theorem unlockD_c (hM:M.n≤64) {b:Frame} {l:List Value} {ds:List Deferred} {todo:List Item} {cs:List Frame} {hr hp:Hp} (eh:Weak B h (hr++hp)) (hh:M.hit kn=true) (hP:M.PL (z++[kn]) hp) (hitc:(Y.im 0 (.w kn .fin .on z) hr).R (Gret b l ds todo cs)):
  (Y.im 0 (.w kn (.hold 1) .on z) h).R (Gret b l (dcall 95 [.pointer (some ⟨M.mu,0,none⟩)].toArray::ds) todo cs):=by
 refine i_unwind Tryz.func95 (by kernel_rfl) rfl rfl (l1:=[.pointer (some ⟨M.mu,0,none⟩),undef,undef,undef,undef,undef]) rfl ?_;refine d1 ?_;refine d10 ?_
 refine i_cal rfl zq (by kernel_rfl) (unlock181_c hM eh hh hP ?_);refine i_fin rfl ?_;refine d102 ?_;refine i_leaveD rfl Tryz.func95 rfl rfl ?_;exact hitc
theorem k_putQ {D:Nat} {b:Frame} {l l':List Value} {ds:List Deferred} {k:List Item} {cs:List Frame} {d:Option Tmp} {v:Value} [p:PutV l d v l'] (n:(Im.quit Tryz.prog D).R (Gr b l' ds k cs)):(Im.quit Tryz.prog D).R (Gr b (put l d v) ds k cs):=by rw [p.eq];exact n
theorem addK_c {i:Nat} (h0:i≠0) (hM:M.n≤64) {c:Frame} {cs:List Frame} (hq:(Im.quit Tryz.prog 0).R (G (c.finish (.tuple #[])) cs)):
  ((Sy.kid Tryz.prog B M.pro i).im 0 (.w kn .fin .on z) h).R (G (Frame.enter Tryz.prog 90 [.pointer (some ⟨M.wg,0,none⟩),.int .i64 (-1)].toArray .normal) (c::cs)):=by
 refine i_enter Tryz.func90 rfl rfl (l:=(.pointer (some ⟨M.wg,0,none⟩))::(.int .i64 (-1))::uu115) rfl ?_;refine i_seq ?_;refine i_if ?_;refine d30 ?_;refine i_int (v:= .bool true) rfl zq (by decide) (op_lss (by decide)) ?_;refine d128 ?_
 refine s_uptr rfl zq ⟨.inr rfl,.inl rfl⟩ uptrW.1 uptrW.2.1 uptrW.2.2 ?_
 refine s_bye h0 extMerge rfl zq ?_
 refine i_region_end ?_;refine d49 ?_;refine s_disable extDisable rfl zq ?_
 refine i_region_end ?_;refine i_region rfl ?_;refine i_defer (args:=[]) rfl zq rfl (by decide) ?_;refine i_region_end ?_;refine d127 ?_;refine i_seq ?_;refine d49 ?_;refine i_ext extBubble rfl zq rfl ?_;refine d31 ?_;refine d108 ?_
 refine i_conv (n':=18446744073709551615) rfl zq (by kernel_rfl) (by decide) ?_;refine i_shift (v:= .int .u64 18446744069414584320) rfl zq (.inl rfl) (op_shl (by decide) (by decide)) ?_;refine i_cal rfl zq (by kernel_rfl) ?_;refine i_enter Tryz.func139 rfl rfl (l:=(.pointer (some ⟨M.wg,0,none⟩))::(.int .u64 18446744069414584320)::uu8) rfl ?_;refine d127 ?_;refine d108 ?_
 refine s_wgSub h0 (by omega) hM extAdd64 rfl zq (fun v wt hv70 hwt hvw=>?_) (k_putY ?_)
 ·show (Im.quit Tryz.prog 1).R _
  refine k_putQ ?_;refine d141 ?_
  refine i_return rfl Tryz.func139 (still_results1 rfl) ?_;refine i_fin rfl ?_;refine d79 ?_;refine i_int (v:= .int .u64 0) rfl zq (by decide) (op_and ((wgB v wt hv70 hwt).flag)) ?_;refine i_int (v:= .bool false) rfl zq (by decide) (op_neq (by decide)) ?_;refine d43 ?_;refine d51 ?_;refine d14 ?_
  refine i_shift (v:= .int .u64 (v:Int)) rfl zq (.inr rfl) (op_shr (by decide) (wgB v wt hv70 hwt).hi) ?_;refine i_conv rfl zq (by kernel_rfl) (wgB v wt hv70 hwt).hi32 ?_;refine d9 ?_;refine d14 ?_
  refine i_int (v:= .int .u64 (wt:Int)) rfl zq (by decide) (op_and ((wgB v wt hv70 hwt).lo)) ?_;refine i_conv rfl zq (by kernel_rfl) (wgB v wt hv70 hwt).lo32 ?_;refine d79 ?_;refine i_mv rfl rfl ?_
  refine i_int (v:= .bool false) rfl rfl (by decide) (op_gtr (by decide)) ?_;refine i_pickT rfl zq ?_;refine d148 ?_;refine d123 ?_;refine i_int (v:= .bool false) rfl zq (by decide) (op_lss (decide_eq_false (by omega))) ?_;refine d31 ?_;refine i_seq ?_;refine i_seq ?_
  rcases (by omega:wt=0∨(wt=1∧0<v)) with rfl|⟨rfl,hv0⟩
  ·refine d1 ?_
   refine i_int (v:= .bool false) rfl zq (by decide) (op_neq (by decide)) ?_;refine d43 ?_;refine i_pickF rfl zq ?_;refine d148 ?_;refine d123 ?_
   refine i_int (v:= .bool (decide ((v:Int)>0))) rfl zq (by decide) (op_gtr rfl) ?_;by_cases hv0:0<v
   ·rw [decide_eq_true (show (v:Int)>0 by omega)];refine d43 ?_;refine d98 ?_;refine i_ret rfl ?_
    refine q_unwindEnable rfl extEnable ?_
    refine i_return rfl Tryz.func90 (still_results0 rfl) ?_;exact hq
   ·rw [decide_eq_false (show¬(v:Int)>0 by omega)];refine d57 ?_
    refine i_int (v:= .bool true) rfl rfl (by decide) (op_eql (by decide)) ?_;refine i_pickF rfl zq ?_;refine d34 ?_;refine i_ret rfl ?_;refine q_unwindEnable rfl extEnable ?_
    refine i_return rfl Tryz.func90 (still_results0 rfl) ?_;exact hq
  ·refine d1 ?_
   refine i_int (v:= .bool true) rfl zq (by decide) (op_neq (by decide)) ?_;refine d57 ?_
   refine i_int (v:= .bool false) rfl rfl (by decide) (op_gtr (by decide)) ?_;refine i_pickT rfl zq ?_;refine d148 ?_;refine d123 ?_;refine i_int (v:= .bool true) rfl zq (by decide) (op_gtr (decide_eq_true (by omega))) ?_;refine d43 ?_;refine d98 ?_;refine i_ret rfl ?_
   refine q_unwindEnable rfl extEnable ?_
   refine i_return rfl Tryz.func90 (still_results0 rfl) ?_;exact hq
 ·refine d141 ?_
  refine i_return rfl Tryz.func139 (still_results1 rfl) ?_;refine i_fin rfl ?_;refine d79 ?_;refine i_int (v:= .int .u64 0) rfl zq (by decide) (op_and ((wgB 0 1 (by omega) (by omega)).flag)) ?_;refine i_int (v:= .bool false) rfl zq (by decide) (op_neq (by decide)) ?_;refine d43 ?_;refine d51 ?_;refine d14 ?_
  refine i_shift (v:= .int .u64 0) rfl zq (.inr rfl) (op_shr (by decide) (wgB 0 1 (by omega) (by omega)).hi) ?_;refine i_conv rfl zq (by kernel_rfl) (wgB 0 1 (by omega) (by omega)).hi32 ?_;refine d9 ?_;refine d14 ?_
  refine i_int (v:= .int .u64 1) rfl zq (by decide) (op_and ((wgB 0 1 (by omega) (by omega)).lo)) ?_;refine i_conv rfl zq (by kernel_rfl) (wgB 0 1 (by omega) (by omega)).lo32 ?_;refine d79 ?_;refine i_mv rfl rfl ?_
  refine i_int (v:= .bool false) rfl rfl (by decide) (op_gtr (by decide)) ?_;refine i_pickT rfl zq ?_;refine d148 ?_;refine d123 ?_;refine i_int (v:= .bool false) rfl zq (by decide) (op_lss (by decide)) ?_;refine d31 ?_;refine d30 ?_
  refine i_int (v:= .bool true) rfl zq (by decide) (op_neq (by decide)) ?_;refine d57 ?_
  refine i_int (v:= .bool false) rfl rfl (by decide) (op_gtr (by decide)) ?_;refine i_pickT rfl zq ?_;refine d148 ?_;refine d123 ?_;refine i_int (v:= .bool false) rfl zq (by decide) (op_gtr (by decide)) ?_;refine d57 ?_
  refine i_int (v:= .bool false) rfl rfl (by decide) (op_eql (by decide)) ?_;refine d123 ?_;refine d10 ?_;refine i_cal rfl zq (by kernel_rfl) ?_
  refine i_enter Tryz.func141 rfl rfl (l:=(.pointer (some ⟨M.wg,0,none⟩))::uu6) rfl ?_;refine d127 ?_;refine d76 ?_
  refine s_wgLastLoad h0 (by omega) extLoad64 rfl zq (k_putY ?_)
  refine d141 ?_
  refine i_return rfl Tryz.func141 (still_results1 rfl) ?_;refine i_fin rfl ?_;refine i_mv rfl zq ?_;refine i_int (v:= .bool false) rfl zq (by decide) (op_neq (by decide)) ?_;refine d31 ?_;refine d76 ?_;refine i_cal rfl zq (by kernel_rfl) ?_
  refine i_enter Tryz.func142 rfl rfl (l:=(.pointer (some ⟨M.wg,0,none⟩))::(.int .u64 0)::uu7) rfl ?_;refine d1 ?_;refine d10 ?_;refine i_mv rfl zq ?_
  refine s_wgLastStore h0 (by omega) extStore64 rfl zq (k_putY ?_)
  refine d102 ?_
  refine i_return rfl Tryz.func142 (still_results0 rfl) ?_;refine i_fin rfl ?_;refine i_region_end ?_;refine d30 ?_;refine d31 ?_;refine i_block ?_;refine i_loop ?_;refine d30 ?_;refine i_int (v:= .bool true) rfl zq (by decide) (op_neq (by decide)) ?_;refine d34 ?_;refine i_skip ?_;refine i_seq ?_;refine i_block ?_;refine d1 ?_;refine d10 ?_
  refine s_wgLastWake h0 extSemG rfl zq ?_
  show (Im.quit Tryz.prog 1).R _
  refine k_putQ ?_;refine i_region_end ?_;refine i_inBlock ?_;refine d1 ?_;refine i_int (v:= .int .u32 0) rfl zq (by decide) (op_sub (by decide)) ?_;refine d9 ?_;refine i_inLoop ?_;refine d30 ?_
  refine i_int (v:= .bool false) rfl zq (by decide) (op_neq (by decide)) ?_;refine d15 ?_;refine i_exit rfl ?_;refine i_end rfl ?_
  refine q_unwindEnable rfl extEnable ?_
  refine i_return rfl Tryz.func90 (still_results0 rfl) ?_;exact hq
theorem doneD_c {i:Nat} (h0:i≠0) (hM:M.n≤64) {b:Frame} {l:List Value} {todo:List Item} {fn:Func} {kf:Frame} (hk:b.kind= .deferred) (hf: Tryz.prog.funcs[b.fn]?=some fn) (hres:fn.results= #[]) (hkf:kf={(default:Frame) with fn:= Tryz.prog.funcs.size,defers:=[],mode:= .panicking [goexitEntry]}) (hcat:kf.catches Tryz.prog=false):
  ((Sy.kid Tryz.prog B M.pro i).im 0 (.w kn .fin .on z) h).R (Gret b l [dcall 92 [.pointer (some ⟨M.wg,0,none⟩)].toArray] todo [kf]):=by
 refine i_unwind Tryz.func92 (by kernel_rfl) rfl rfl (l1:=[.pointer (some ⟨M.wg,0,none⟩),undef,undef,undef]) rfl ?_;refine d1 ?_
 refine i_cal rfl zq (by kernel_rfl) (addK_c h0 hM ?_);refine i_fin rfl ?_;refine d102 ?_;refine i_leaveD rfl Tryz.func92 rfl rfl ?_;exact quit_kid hk hf hres hkf hcat
end Go.Proofs
namespace Go.Proofs
open Go.Lo
open Go.Conc (G dcall)
set_option maxRecDepth 100000
set_option synthInstance.maxSize 100000
set_option synthInstance.maxHeartbeats 1000000
set_option maxHeartbeats 4000000
variable {B:Array Obj} {M:Meet} {Y:Sy Tryz.prog B M.pro} {h:Hp} {r:Nat}
theorem addM_c (h0:Y.i=0) (hM:M.n≤64) {c:Frame} {cs:List Frame} (hitc:(Y.im 0 (.m r .adds) h).R (G (c.finish (.tuple #[])) cs)):
  (Y.im 0 (.m r .idle) h).R (G (Frame.enter Tryz.prog 90 [.pointer (some ⟨M.wg,0,none⟩),.int .i64 1].toArray .normal) (c::cs)):=by
 refine i_enter Tryz.func90 rfl rfl (l:=(.pointer (some ⟨M.wg,0,none⟩))::(.int .i64 1)::uu115) rfl ?_;refine i_seq ?_;refine i_if ?_;refine d30 ?_;refine i_int (v:= .bool false) rfl zq (by decide) (op_lss (by decide)) ?_;refine d31 ?_;refine d49 ?_
 refine s_disable extDisable rfl zq ?_
 refine i_region_end ?_;refine i_region rfl ?_;refine i_defer (args:=[]) rfl zq rfl (by decide) ?_;refine i_region_end ?_;refine d127 ?_;refine i_seq ?_;refine d49 ?_;refine i_ext extBubble rfl zq rfl ?_;refine d31 ?_;refine d108 ?_
 refine i_conv (n':=1) rfl zq (by kernel_rfl) (by decide) ?_;refine i_shift (v:= .int .u64 4294967296) rfl zq (.inl rfl) (op_shl (by decide) (by decide)) ?_;refine i_cal rfl zq (by kernel_rfl) ?_;refine i_enter Tryz.func139 rfl rfl (l:=(.pointer (some ⟨M.wg,0,none⟩))::(.int .u64 4294967296)::uu8) rfl ?_;refine d127 ?_;refine d108 ?_
 refine s_wgAdd h0 hM extAdd64 rfl zq (fun v hv0 hv70=>k_putY ?_)
 refine d141 ?_
 refine i_return rfl Tryz.func139 (still_results1 rfl) ?_;refine i_fin rfl ?_;refine d79 ?_;refine i_int (v:= .int .u64 0) rfl zq (by decide) (op_and ((wgB v 0 hv70 (by omega)).flag)) ?_;refine i_int (v:= .bool false) rfl zq (by decide) (op_neq (by decide)) ?_;refine d43 ?_;refine d51 ?_;refine d14 ?_
 refine i_shift (v:= .int .u64 (v:Int)) rfl zq (.inr rfl) (op_shr (by decide) (wgB v 0 hv70 (by omega)).hi) ?_;refine i_conv rfl zq (by kernel_rfl) (wgB v 0 hv70 (by omega)).hi32 ?_;refine d9 ?_;refine d14 ?_
 refine i_int (v:= .int .u64 0) rfl zq (by decide) (op_and ((wgB v 0 hv70 (by omega)).lo)) ?_;refine i_conv rfl zq (by kernel_rfl) (wgB v 0 hv70 (by omega)).lo32 ?_;refine d79 ?_;refine i_mv rfl rfl ?_
 refine i_int (v:= .bool true) rfl rfl (by decide) (op_gtr (by decide)) ?_;refine i_pickT rfl zq ?_;refine d57 ?_;refine i_mv rfl rfl ?_;refine i_conv (n':=1) rfl rfl (by kernel_rfl) (by decide) ?_;refine i_int (v:= .bool (decide ((v:Int)=1))) rfl rfl (by decide) (op_eql rfl) ?_;by_cases hv1:v=1
 ·rw [decide_eq_true (show (v:Int)=1 by omega)];refine d98 ?_;refine d1 ?_;refine d10 ?_
  refine s_uptr rfl zq ⟨.inr rfl,.inr rfl⟩ uptrS.1 uptrS.2.1 uptrS.2.2 ?_
  refine s_said (.inl rfl) h0 extRead rfl zq (k_putY ?_)
  refine i_region_end ?_;refine d30 ?_;refine i_int (v:= .bool false) rfl zq (by decide) (op_lss (decide_eq_false (by omega))) ?_;refine d31 ?_;refine d30 ?_
  refine i_int (v:= .bool false) rfl zq (by decide) (op_neq (by decide)) ?_;refine d43 ?_;refine i_pickF rfl zq ?_;refine d148 ?_;refine d123 ?_
  refine i_int (v:= .bool true) rfl zq (by decide) (op_gtr (decide_eq_true (by omega))) ?_;refine d43 ?_;refine d98 ?_;refine i_ret rfl ?_
  refine s_unwindEnable rfl extEnable ?_
  refine i_return rfl Tryz.func90 (still_results0 rfl) ?_;exact hitc
 ·rw [decide_eq_false (show¬(v:Int)=1 by omega)];refine i_pickT rfl zq ?_;refine d31 ?_;refine d30 ?_;refine i_int (v:= .bool false) rfl zq (by decide) (op_lss (decide_eq_false (by omega))) ?_;refine d31 ?_;refine d30 ?_
  refine i_int (v:= .bool false) rfl zq (by decide) (op_neq (by decide)) ?_;refine d43 ?_;refine i_pickF rfl zq ?_;refine d148 ?_;refine d123 ?_
  refine i_int (v:= .bool true) rfl zq (by decide) (op_gtr (decide_eq_true (by omega))) ?_;refine d43 ?_;refine d98 ?_;refine i_ret rfl ?_
  refine s_unwindEnable rfl extEnable ?_
  refine i_return rfl Tryz.func90 (still_results0 rfl) ?_;exact hitc
theorem waitM_c (hM:M.n≤64) {K:Goroutine→Hp→Prop} {c:Frame} {cs:List Frame} (hitc: ∀ks Pool,M.PL ks Pool→ks.Nodup→(∀k,k∈ks↔k<M.n∧M.hit k=true)→MRunS Tryz.prog B K none (G (c.finish (.tuple #[])) cs) (h++Pool)):
  ((Sy.zero Tryz.prog B M.pro K).im 0 (.m 0 .idle) h).R (G (Frame.enter Tryz.prog 96 [.pointer (some ⟨M.wg,0,none⟩)].toArray .normal) (c::cs)):=by
 refine i_enter Tryz.func96 rfl rfl (l:=(.pointer (some ⟨M.wg,0,none⟩))::uu83) rfl ?_;refine i_seq ?_;refine i_if ?_;refine i_region rfl ?_;refine s_wgBegin rfl extDisable rfl zq (fun kk=>k_putY ?_)
 refine i_region_end ?_;refine i_block ?_;refine s_loop (fun nn D' s' h' l'=> ∃kk:Nat,D'=1∧s'= .m 0 (.look kk)∧h=h'∧nn=kk*1∧ ∃U:Nat→Value,l'=((.pointer (some ⟨M.wg,0,none⟩))::vw83 U 1 [])) _ ⟨kk,rfl,rfl,rfl,rfl,exU rfl⟩ ?_
 rintro nn _ _ _ _ ⟨kk,rfl,rfl,rfl,rfl,U,rfl⟩ hnext;refine i_block ?_;refine d76 ?_;refine i_cal rfl zq (by kernel_rfl) ?_;refine i_enter Tryz.func141 rfl rfl (l:=(.pointer (some ⟨M.wg,0,none⟩))::uu6) rfl ?_;refine d127 ?_;refine d76 ?_
 refine s_wgLoad rfl hM extLoad64 rfl zq (k_putY ?_) (fun v hv0 hv70=>k_putY ?_)
 ·refine d141 ?_
  refine i_return rfl Tryz.func141 (still_results1 rfl) ?_;refine i_fin rfl ?_;refine d9 ?_;refine d14 ?_;refine i_shift (v:= .int .u64 0) rfl zq (.inr rfl) (op_shr (by decide) (wgB 0 0 (by omega) (by omega)).hi) ?_;refine i_conv rfl zq (by kernel_rfl) (wgB 0 0 (by omega) (by omega)).hi32 ?_;refine d9 ?_;refine d14 ?_
  refine i_int (v:= .int .u64 0) rfl zq (by decide) (op_and ((wgB 0 0 (by omega) (by omega)).lo)) ?_;refine i_conv rfl zq (by kernel_rfl) (wgB 0 0 (by omega) (by omega)).lo32 ?_;refine d79 ?_
  refine i_int (v:= .bool true) rfl zq (by decide) (op_eql (by decide)) ?_;refine d34 ?_;refine i_seq ?_;refine i_if ?_;refine d49 ?_
  refine s_enable extEnable rfl zq ?_
  refine i_region_end ?_;refine d1 ?_;refine s_uptr rfl zq ⟨.inr rfl,.inl rfl⟩ uptrW.1 uptrW.2.1 uptrW.2.2 ?_
  refine s_join extAcquire rfl zq (fun ks Pool q1 q2 q3=>?_)
  show (Im.star Tryz.prog B K (h++Pool)).R _
  refine i_region_end ?_;refine d30 ?_;refine i_int (v:= .bool true) rfl zq (by decide) (op_eql (by decide)) ?_;refine d57 ?_
  refine i_int (v:= .int .u64 0) rfl rfl (by decide) (op_and ((wgB 0 0 (by omega) (by omega)).flag)) ?_;refine i_int (v:= .bool false) rfl rfl (by decide) (op_neq (by decide)) ?_;refine i_pickT rfl zq ?_;refine d43 ?_;refine d51 ?_;refine i_ret rfl ?_;refine i_return rfl Tryz.func96 (still_results0 rfl) ?_;exact hitc ks Pool q1 q2 q3
 ·refine d141 ?_
  refine i_return rfl Tryz.func141 (still_results1 rfl) ?_;refine i_fin rfl ?_;refine d9 ?_;refine d14 ?_;refine i_shift (v:= .int .u64 (v:Int)) rfl zq (.inr rfl) (op_shr (by decide) (wgB v 0 hv70 (by omega)).hi) ?_;refine i_conv rfl zq (by kernel_rfl) (wgB v 0 hv70 (by omega)).hi32 ?_;refine d9 ?_;refine d14 ?_
  refine i_int (v:= .int .u64 0) rfl zq (by decide) (op_and ((wgB v 0 hv70 (by omega)).lo)) ?_;refine i_conv rfl zq (by kernel_rfl) (wgB v 0 hv70 (by omega)).lo32 ?_;refine d79 ?_
  refine i_int (v:= .bool false) rfl zq (by decide) (op_eql (decide_eq_false (by omega))) ?_;refine d31 ?_;refine d108 ?_;refine i_mv rfl zq ?_
  refine i_int (v:= .int .u64 (wgN v 1)) rfl zq (by decide) (op_add ((wgB v 0 hv70 (by omega)).wait)) ?_;refine i_cal rfl zq (by kernel_rfl) ?_;refine i_enter Tryz.func149 rfl rfl (l:=(.pointer (some ⟨M.wg,0,none⟩))::(.int .u64 (wgN v 0))::(.int .u64 (wgN v 1))::uu10) rfl ?_;refine d127 ?_;refine d108 ?_;refine i_mv rfl zq ?_
  refine s_wgCas rfl extCas64 rfl zq (k_putY ?_) (fun hk=>k_putY ?_)
  ·refine d141 ?_
   refine i_return rfl Tryz.func149 (still_results1 rfl) ?_;refine i_fin rfl ?_;refine d34 ?_;refine d30 ?_;refine i_mv rfl rfl ?_;refine i_int (v:= .bool true) rfl rfl (by decide) (op_eql (by decide)) ?_;refine d98 ?_;refine d1 ?_;refine d10 ?_
   refine s_uptr rfl zq ⟨.inr rfl,.inr rfl⟩ uptrS.1 uptrS.2.1 uptrS.2.2 ?_
   refine s_said (.inr rfl) rfl extWrite rfl zq (k_putY ?_)
   refine i_region_end ?_;refine d49 ?_;refine d79 ?_;refine i_int (v:= .int .u64 0) rfl zq (by decide) (op_and ((wgB v 0 hv70 (by omega)).flag)) ?_;refine i_int (v:= .bool false) rfl zq (by decide) (op_neq (by decide)) ?_;refine i_mv rfl zq ?_;refine i_off rfl rfl ?_;refine d51 ?_;refine d108 ?_;refine s_wgPark rfl extSemW rfl zq (k_putY ?_)
   refine i_region_end ?_;refine d76 ?_;refine i_cal rfl zq (by kernel_rfl) ?_;refine i_enter Tryz.func141 rfl rfl (l:=(.pointer (some ⟨M.wg,0,none⟩))::uu6) rfl ?_;refine d127 ?_;refine d76 ?_
   refine s_wgEnd rfl extLoad64 rfl zq (k_putY ?_)
   refine d141 ?_
   refine i_return rfl Tryz.func141 (still_results1 rfl) ?_;refine i_fin rfl ?_;refine i_int (v:= .bool false) rfl zq (by decide) (op_neq (by decide)) ?_;refine d9 ?_;refine i_seq ?_;refine i_if ?_;refine d49 ?_
   refine s_enable extEnable rfl zq ?_
   refine i_region_end ?_;refine d1 ?_;refine s_uptr rfl zq ⟨.inr rfl,.inl rfl⟩ uptrW.1 uptrW.2.1 uptrW.2.2 ?_
   refine s_join extAcquire rfl zq (fun ks Pool q1 q2 q3=>?_)
   show (Im.star Tryz.prog B K (h++Pool)).R _
   refine i_region_end ?_;refine d30 ?_;refine d31 ?_;refine i_ret rfl ?_;refine i_return rfl Tryz.func96 (still_results0 rfl) ?_;exact hitc ks Pool q1 q2 q3
  ·refine d141 ?_
   refine i_return rfl Tryz.func149 (still_results1 rfl) ?_;refine i_fin rfl ?_;refine d31 ?_;refine i_inBlock ?_;exact hnext _ _ _ _ _ (by omega) ⟨kk-1,rfl,rfl,rfl,rfl,exU rfl⟩
end Go.Proofs
namespace Go.Proofs
open Go.Lo
open Go.Conc (G)
set_option maxRecDepth 100000
set_option synthInstance.maxSize 100000
set_option synthInstance.maxHeartbeats 1000000
set_option maxHeartbeats 4000000
variable {b:Fb} {pp:Option Addr} {np cp:Nat} {pt:Option Addr} {nt ct:Nat} {pk:Option Addr} {nk ck:Nat}
variable {B:Array Obj}
variable [LaidF B]
def llK (b:Fb) (ks:List Nat):List (List Int):=ks.map fun k=>keptI k (allN b)
theorem llK_snoc (b:Fb) (ks:List Nat) (k:Nat):llK b (ks++[k])=llK b ks++[keptI k (allN b)]:=by simp [llK]
def PLf {B:Array Obj} (b:Fb) (od:Nat) (ks:List Nat) (hp:Hp):Prop:= ∃(sp:Option Addr) (sc:Nat) (ws:List Value) (X W:Hp),hp=[⟨true,od,.cells [.slice sp (llK b ks).length sc].toArray 52 (0,0)⟩]++X++W∧OwnS 34 1 (.slice sp (llK b ks).length sc) (llK b ks).length ws W∧RdE B X ws (llK b ks)
theorem nodup_le {ks:List Nat} {n:Nat} (h: ∀k∈ks,k<n) (hd:ks.Nodup):ks.length≤n:=by
 have:=List.Nodup.length_le_of_subset (l₂:=List.range n) hd fun z hz=>List.mem_range.2 (h z hz)
 rwa [List.length_range] at this
theorem llK_le {b:Fb} {ks:List Nat} {n:Nat} {p:Nat→Bool} (h: ∀k∈ks,k<n∧p k=true) (hd:ks.Nodup):(llK b ks).length≤n:=by
 unfold llK
 rw [List.length_map];exact nodup_le (fun k hk=>(h k hk).1) hd
def foulI (b:Fb) (xs:List Int):Prop:=boatsOf (onlyI b xs)=[]
instance (b:Fb) (xs:List Int):Decidable (foulI b xs):=by unfold foulI;infer_instance
def clashM (B:Array Obj) (b:Fb) (mu wg od N:Nat):Meet:=⟨N,fun k=>decide (foulI b (keptI k (allN b))),PLf (B:=B) b od,mu,wg,156,163⟩
theorem callB91:callB Tryz.prog 91=true:=by kernel_rfl
theorem kidF_catches:(kidF Tryz.prog).catches Tryz.prog=false:=by kernel_rfl
theorem kid131 {hb:Hp} (rdp:RdS B hb 3 (.slice pp np cp) np (encs b.pts)) (hp:np≤1000) (rdt:RdS B hb 4 (.slice pt nt ct) nt (encs b.tapes)) (ht:nt≤1000) (rdk:RdS B hb 3 (.slice pk nk ck) nk (encs b.sticks)) (hk:nk≤1000) (hv:FOk b) {q6 q7 q8 q9 q10 N mm i:Nat} (hM:N≤64) (hmm:mm<64) (hi:i≠0):((Sy.kid Tryz.prog B (clashM B b q7 q8 q9 N).pro i).im 0 (.w mm .out .on []) (hb++[⟨false,q6,.cells (fbL b pp np cp pt nt ct pk nk ck).toArray 96 (0,0)⟩,⟨true,q10,.cells [.int .i64 (mm:Int)].toArray 3 (0,0)⟩])).R (kid0 Tryz.prog {target:= .fn (.func 91) [.pointer (some ⟨q8,0,none⟩),.pointer (some ⟨q6,0,none⟩),.pointer (some ⟨q10,0,none⟩),.pointer (some ⟨q7,0,none⟩),.pointer (some ⟨q9,0,none⟩)].toArray,args:= #[]++ #[]}):=by
 have hml:=rdp.elen (by decide)
 have htl:=rdt.elen (by decide)
 have hkl:=rdk.elen (by decide)
 have hv1:=hv.few
 have hv2:=hv.few'
 have hall:allN b=nt+nk:=by unfold allN;omega
 have hin:InB b (keptI mm (nt+nk)):=by rw [←hall];exact inB_kept b mm
 have hto':=Nat.le_trans (onlyT_le (asc_keptI mm (nt+nk)) hin) (show b.tapes.length≤1000 by omega)
 have hko':=Nat.le_trans (onlyK_le (asc_keptI mm (nt+nk)) hin) (show b.sticks.length≤1000 by omega)
 have hM:(clashM B b q7 q8 q9 N).n≤64:=hM
 refine kidS_enter (hg:=fun e=>e) (al:=[.pointer (some ⟨q8,0,none⟩),.pointer (some ⟨q6,0,none⟩),.pointer (some ⟨q10,0,none⟩),.pointer (some ⟨q7,0,none⟩),.pointer (some ⟨q9,0,none⟩)]) (l:=(.pointer (some ⟨q8,0,none⟩))::(.pointer (some ⟨q6,0,none⟩))::(.pointer (some ⟨q10,0,none⟩))::(.pointer (some ⟨q7,0,none⟩))::(.pointer (some ⟨q9,0,none⟩))::uu15) callB91 Tryz.func91 rfl rfl rfl rfl ?_
 refine Md.kidS.to (hg:=fun e=>e) ?_
 refine run_seq ?_;refine Md.kidS.of ?_
 refine i_region rfl ?_;refine i_defer rfl zq rfl (by decide) ?_;refine i_region_end ?_;refine Md.kidS.to (hg:=fun e=>e) ?_
 refine rs9 ?_;refine d64 ?_;refine k_cal rfl zq (by kernel_rfl) (f93_c _ _ (b:=b) (pp:=pp) (cp:=cp) (rdt.keeps SubH.sub) (rdk.keeps SubH.sub) (by omega) hmm) ?_;rintro v h' ⟨nI,nT,nK,rfl,tp,tc,kp,kc,w,rfl,rT,rK,oI⟩;refine k_put ?_;obtain ⟨ip,ic,rfl,hic,rI⟩:=own_rdA (B:=B) oI
 refine d42 ?_
 refine k_new rfl zq (fun q5=>k_hp (k_put ?_));refine k_stA rfl zq rfl ?_;refine d12 ?_;refine rs2 ?_;have hvo:=onlyI_ok hv (asc_keptI mm (nt+nk)) hin
 have hto:=hvo.few
 have hko:=hvo.few'
 refine k_ldA rfl zq ?_;refine k_calP (Post:=fun v=>IsB _ v) rfl zq (by kernel_rfl) (fun H' hH=>f89_c _ H' (b:=onlyI b (keptI mm (nt+nk))) (rdp.keeps (sq hH)) (by omega) (rT.keeps (sq hH)) hto' (rK.keeps (sq hH)) hko' hvo) ?_;rintro v (⟨hc,rfl⟩|⟨hc,rfl⟩)
 ·refine k_put ?_;refine d7 ?_;refine Md.kidS.of ?_
  refine s_skipRet rfl (decide_eq_false (by unfold foulI;rw [hall];exact hc)) ?_
  exact doneD_c hi hM rfl Tryz.func91 rfl rfl kidF_catches
 ·refine k_put ?_;refine d38 ?_;refine Md.kidS.of ?_
  refine i_region rfl ?_;refine i_cal rfl zq (by kernel_rfl) (lock_c hM (fun ks Pool q1 q2 q3 q4=>?_));refine i_fin rfl ?_;refine i_region_end ?_;obtain ⟨sp,sc,ws,X,W,rfl,oW,eX⟩:=q1
  have hks:(llK b ks).length≤64:=Nat.le_trans (llK_le q3 q4) hM
  refine Md.kidS.to (hg:=fun e=>e) ?_
  refine run_seq ?_;refine Md.kidS.of ?_
  refine i_region rfl ?_;refine i_defer rfl zq rfl (by decide) ?_;refine i_region_end ?_;refine Md.kidS.to (hg:=fun e=>e) ?_
  refine rr5 ?_;refine k_ldh rfl zq ?_;refine mq rfl ?_;refine k_bs kdq rfl zq (by decide) (by decide) rfl (fun q18=>k_hp (k_put ?_));refine k_app1O rfl zq rfl oW kdq (by omega) (by omega) (fun w19 n19 o19=>k_put ?_);obtain ⟨p19,c19,rfl,_⟩:=o19.len
  refine d74 ?_
  refine Md.kidS.of ?_
  refine i_end rfl ?_;refine unlockD_c hM (hr:=[]) (hp:=[⟨true,q9,.cells [.slice p19 ((llK b ks).length+1) c19].toArray 52 (0,0)⟩]++X++nI++n19) (by rw [List.nil_append];exact weakOff3) (decide_eq_true (by unfold foulI;rw [hall];exact Classical.not_not.1 hc)) ?_ ?_
  ·have e1:(llK b (ks++[mm])).length=(llK b ks).length+1:=by rw [llK_snoc,List.length_append];rfl
   refine ⟨p19,c19,_,X++nI,n19,by rw [e1];simp only [List.append_assoc],by rw [e1];exact o19,?_⟩
   rw [llK_snoc];exact (eX.keeps (List.sublist_append_left _ _)).snoc (by rw [hall]) (by rw [hall];exact rI.keeps (List.sublist_append_right _ _)) hic
  ·exact doneD_c hi hM rfl Tryz.func91 rfl rfl kidF_catches
theorem shl_small: ∀n:Nat,n<7→IntKind.wrap .i64 (1*2^(min (n:Int).toNat IntKind.i64.bits))=((2^n:Nat):Int):=by decide
theorem pow6: ∀i:Nat,i≤6→1≤2^i∧2^i≤64:=by decide
theorem clash_all {b:Fb} {ks:List Nat} (h0:fbS b=0) (hb:boatsOf b=[]) (h: ∀k,k∈ks↔k<2^allN b∧decide (foulI b (keptI k (allN b)))=true):0<(llK b ks).length∧bestBy ltF (llK b ks)∈llK b ks∧ClashOk b (bestBy ltF (llK b ks)):=by
 obtain ⟨m0,hm0,e0⟩:=kept_of (asc_firsts (allN b)) (n:=allN b) (fun x hx=>by have:=inB_firsts b x hx;omega)
 have hk0:m0∈ks:=(h m0).2 ⟨hm0,decide_eq_true (by unfold foulI;rw [←e0,onlyI_all];exact hb)⟩
 have hl:0<(llK b ks).length:=by
  unfold llK
  rw [List.length_map];exact List.length_pos_of_mem hk0
 have hmem:=bestBy_mem ltF (llK b ks) hl
 refine ⟨hl,hmem,?_⟩
 obtain ⟨k1,hk1,e1⟩:=List.mem_map.1 hmem
 refine clash_of h0 hb k1 (of_decide_eq_true ((h k1).1 hk1).2) e1.symm fun nn hn hf=>?_
 exact fewest_of hl _ (List.mem_map.2 ⟨nn,(h nn).2 ⟨hn,decide_eq_true hf⟩,rfl⟩)
theorem gT_take {g:List Int} {k:Nat} (h:k<g.length):g.take (k+1)=g.take k++[g.getD k 0]:=by
 rw [List.take_add_one,List.getElem?_eq_getElem h,List.getD_eq_getElem?_getD,List.getElem?_eq_getElem h];rfl
theorem gT_le (b:Fb) (g:List Int):(gT b g).length≤g.length:=List.length_filter_le _ _
theorem gK_le (b:Fb) (g:List Int):(gK b g).length≤g.length:=by
 unfold gK
 rw [List.length_map];exact List.length_filter_le _ _
theorem rdI_keeps {B:Array Obj} {h H:Hp} {w:Value} {xs:List Int} (r:RdI B h w xs) (s:h.Sublist H):RdI B H w xs:=by
 obtain ⟨p,c,e,r⟩:=r
 exact ⟨p,c,e,r.keeps s⟩
theorem run_mid {P:Program} {B:Array Obj} {K:Goroutine→Hp→Prop} {M:Meet} {g:Goroutine} {h' Pool:Hp} (hP:M.PL [] Pool) (n:((Sy.zero P B M.pro K).im 0 (.m M.n .idle) h').R g):(Md.starS P B).R K g (h'++Pool++[M.muC ⟨false,false,false,0⟩ 0,M.wgC 0 0 0]):=
 MRunS.phase M.pro (.m M.n .idle) (by simp [Meet.muC,Meet.wgC]) (Meet.live M) (Meet.start0 M hP) n
theorem clash_weak {h:Hp} {b:Fb} {q1 q6 q7 q8 q9 N:Nat} {c1 c6:Array Value}:Weak B (h++[⟨true,q1,.cells c1 26 (0,0)⟩,⟨true,q6,.cells c6 96 (0,0)⟩,⟨true,q7,.cells ([.int .i32 0,.int .u32 0]:List Value).toArray 156 (0,0)⟩,⟨true,q8,.cells ([.int .u64 0,.int .u32 0]:List Value).toArray 163 (0,0)⟩,⟨true,q9,.cells ([.slice none 0 0]:List Value).toArray 52 (0,0)⟩]) ((ro h++[⟨false,q1,.cells c1 26 (0,0)⟩,⟨false,q6,.cells c6 96 (0,0)⟩])++[⟨true,q9,.cells ([.slice none 0 0]:List Value).toArray 52 (0,0)⟩]++[(clashM B b q7 q8 q9 N).muC ⟨false,false,false,0⟩ 0,(clashM B b q7 q8 q9 N).wgC 0 0 0]):=by
 have h1:=weak_ro (B:=B) (h++[⟨true,q1,.cells c1 26 (0,0)⟩,⟨true,q6,.cells c6 96 (0,0)⟩]) [⟨true,q7,.cells ([.int .i32 0,.int .u32 0]:List Value).toArray 156 (0,0)⟩,⟨true,q8,.cells ([.int .u64 0,.int .u32 0]:List Value).toArray 163 (0,0)⟩,⟨true,q9,.cells ([.slice none 0 0]:List Value).toArray 52 (0,0)⟩]
 refine Weak.trans (by simpa using h1) ?_
 refine Weak.perm ?_
 simp only [ro,List.map_append,List.map_cons,List.map_nil,List.append_assoc,List.cons_append,List.nil_append]
 refine List.Perm.append_left _ (.cons _ (.cons _ ?_))
 exact (List.perm_append_comm (l₁:=[_,_]) (l₂:=[_]))
theorem f40_c (h:Hp) (rdp:Rp B h b pp np cp) (hp:np≤1000) (rdt:Rt B h b pt nt ct) (ht:nt≤1000) (rdk:Rk B h b pk nk ck) (hk:nk≤1000):FnC (Md.starS Tryz.prog B) 40 #[fbV b pp np cp pt nt ct pk nk ck] h fun v h'=> ∃nw,h'=ro h++nw∧ ∃wT wK gg,v= .tuple [wT,wK,.int .i64 (fbS b)].toArray∧RdI B nw wT (gT b gg)∧RdI B nw wK (gK b gg)∧ClashOk b gg:=by
 have hml:=rdp.elen (by decide)
 have htl:=rdt.elen (by decide)
 have hkl:=rdk.elen (by decide)
 refine fn_enter Tryz.func40 rfl rfl (l:=(fbV b pp np cp pt nt ct pk nk ck)::uu65) rfl ?_
 intro cf cs K hK
 refine rs4 ?_;refine k_box rfl zq (fun q1=>k_hp (k_put ?_));refine k_as rfl zq ?_;refine d99 ?_;refine d96 ?_;refine k_calP (Post:=fun v=>v=_) rfl zq (by kernel_rfl) (fun H' hH=>f54_c _ H' (rdp.keeps (sq hH)) hp (rdt.keeps (sq hH)) ht (rdk.keeps (sq hH)) hk) ?_;rintro v rfl;refine d138 ?_
 refine k_neqS rfl zq (fun hc=>?_) (fun hc=>?_)
 ·refine d7 ?_;refine d118 ?_;refine k_as rfl zq ?_;refine d27 ?_
  refine run_res (h) rfl Tryz.func40 rfl weakSub ?_;refine (Md.starS Tryz.prog B).weak (h':=ro h) (by simpa using weak_ro (B:=B) h []) ?_
  refine hK _ _ ?_;exact ⟨[],by simp,_,_,[],rfl,RdI.nil,RdI.nil,by rw [ClashOk,if_pos (.inl (by omega))]⟩
 ·refine d38 ?_
  have hz0:fbS b=0:=by omega
  have hv:=fbS_zero hz0
  have hv1:=hv.few
  have hv2:=hv.few'
  have hall:allN b=nt+nk:=by unfold allN;omega
  refine rr4 ?_;refine d133 ?_;refine k_new rfl zq (fun q6=>k_hp (k_put ?_));refine d131 ?_;refine d114 ?_
  refine k_calP (Post:=fun v=>IsB _ v) rfl zq (by kernel_rfl) (fun H' hH=>f89_c _ H' (b:=b) (rdp.keeps (sq hH)) hp (rdt.keeps (sq hH)) ht (rdk.keeps (sq hH)) hk hv) ?_;rintro v (⟨hc,rfl⟩|⟨hc,rfl⟩)
  ·refine k_put ?_;have hbne:boatsOf b≠[]:=hc
   refine d7 ?_;refine rs3 ?_;refine k_as rfl zq ?_;refine d27 ?_
   refine run_res (h) rfl Tryz.func40 rfl weakSub ?_;refine (Md.starS Tryz.prog B).weak (h':=ro h) (by simpa using weak_ro (B:=B) h []) ?_
   refine hK _ _ ?_;exact ⟨[],by simp,_,_,[],by rw [hz0],RdI.nil,RdI.nil,by rw [ClashOk,if_pos (.inr hbne)]⟩
  ·refine k_put ?_;have hbe:boatsOf b=[]:=Classical.not_not.1 hc
   refine d13 ?_;refine rs1 ?_
   refine k_new rfl zq (fun q7=>k_hp (k_put ?_));refine k_nil ?_;refine rs1 ?_;refine k_new rfl zq (fun q8=>k_hp (k_put ?_));refine k_nil ?_;refine rs1 ?_;refine k_new rfl zq (fun q9=>k_hp (k_put ?_));refine d24 ?_;refine run_seq ?_
   have htm:=ht
   obtain ⟨N,hN⟩: ∃N:Nat,N=2^(nt+nk):=⟨_,rfl⟩
   obtain ⟨hN1,hN64⟩:=pow6 (nt+nk) (by omega)
   rw [←hN] at hN1 hN64
   have hM:(clashM B b q7 q8 q9 N).n≤64:=hN64
   refine rr9 ?_;refine d106 ?_;refine d106 ?_;refine k_add rfl zq (by unfold In64;omega) ?_;refine k_shl ((N:Nat):Int) rfl zq (by omega) (by rw [hN,show (nt:Int)+(nk:Int)=((nt+nk:Nat):Int) by omega];exact shl_small (nt+nk) (by omega)) ?_;refine mq rfl ?_;refine d61 ?_
   refine (Md.starS Tryz.prog B).weak (h':=(ro h++[⟨false,q1,.cells (fbL b pp np cp pt nt ct pk nk ck).toArray 26 (0,0)⟩,⟨false,q6,.cells (fbL b pp np cp pt nt ct pk nk ck).toArray 96 (0,0)⟩])++[⟨true,q9,.cells ([.slice none 0 0]:List Value).toArray 52 (0,0)⟩]++[(clashM B b q7 q8 q9 N).muC ⟨false,false,false,0⟩ 0,(clashM B b q7 q8 q9 N).wgC 0 0 0]) (clash_weak) ?_
   refine run_mid (M:=(clashM B b q7 q8 q9 N)) ⟨none,0,[],[],[],rfl,OwnS.nil,RdE.nil⟩ ?_;refine s_loop (fun nn D' s' h' l'=> ∃(t:Nat),D'=0∧s'= .m (N-t) .idle∧ro h++[⟨false,q1,.cells (fbL b pp np cp pt nt ct pk nk ck).toArray 26 (0,0)⟩,⟨false,q6,.cells (fbL b pp np cp pt nt ct pk nk ck).toArray 96 (0,0)⟩]=h'∧nn=N-t∧t≤N∧ ∃U:Nat→Value,l'=((fbV b pp np cp pt nt ct pk nk ck)::(.pointer (some ⟨q1,0,none⟩))::(.slice none 0 0)::(.slice none 0 0)::(U 4)::(U 5)::(.pointer (some ⟨q6,0,none⟩))::(.pointer (some ⟨q7,0,none⟩))::(.pointer (some ⟨q8,0,none⟩))::(.pointer (some ⟨q9,0,none⟩))::vw20 U 10 ((.int .i64 (N:Int))::(.int .i64 (t:Int))::vw34 U 32 []))) _ ⟨0,rfl,rfl,rfl,rfl,by omega,exU rfl⟩ ?_
   rintro nn _ _ _ _ ⟨t,rfl,rfl,rfl,rfl,ht,U,rfl⟩ hnext1;refine Md.mid.to ?_
   try dsimp only
   refine rs1 ?_;refine k_lssS rfl zq (fun hc=>?_) (fun hc=>?_)
   ·refine d104 ?_;refine d44 ?_
    refine k_new rfl zq (fun q10=>k_hp (k_put ?_));refine k_st1 rfl zq ?_;refine d24 ?_;obtain ⟨r,hr⟩: ∃r,N-t=r+1:=⟨N-t-1,by omega⟩
    rw [hr];refine Md.mid.of ?_
    refine i_region rfl ?_;refine i_cal rfl zq (by kernel_rfl) (addM_c rfl hM ?_);refine i_fin rfl ?_;refine i_region_end ?_;refine Md.mid.to ?_
    refine run_regionS [(0,.free)] [1] (by kernel_rfl) (by kernel_rfl) ?_;refine k_fun rfl zq ?_;refine k_nil ?_;refine Md.mid.of ?_
    refine mid_spawn (h':=ro h++[⟨false,q1,.cells (fbL b pp np cp pt nt ct pk nk ck).toArray 26 (0,0)⟩,⟨false,q6,.cells (fbL b pp np cp pt nt ct pk nk ck).toArray 96 (0,0)⟩]) (hc:=ro h++[⟨false,q6,.cells (fbL b pp np cp pt nt ct pk nk ck).toArray 96 (0,0)⟩,⟨true,q10,.cells [.int .i64 (t:Int)].toArray 3 (0,0)⟩]) rfl (show r+1≤N by omega) weakSub weakSub (fun w sw=>?_) (fun j hj=>by
     rw [show (clashM B b q7 q8 q9 N).n-(r+1)=t from (by omega:N-(r+1)=t)];exact kid131 rdp.ro hp rdt.ro htm rdk.ro hk hv hN64 (by omega) hj) ?_
    ·refine ap_last (F:=ro h++[⟨false,q1,.cells (fbL b pp np cp pt nt ct pk nk ck).toArray 26 (0,0)⟩,⟨false,q6,.cells (fbL b pp np cp pt nt ct pk nk ck).toArray 96 (0,0)⟩]) (q:=q10) (o:= .cells [.int .i64 (t:Int)].toArray 3 (0,0)) (by simpa using sw) (fun c hc=>?_) (fun d hd hr=>?_)
     ·rcases List.mem_append.1 hc with hc|hc
      ·exact (ro_mem hc).1
      ·simp only [List.mem_cons,List.not_mem_nil,or_false] at hc
       rcases hc with rfl|rfl<;>rfl
     ·rcases List.mem_append.1 hd with hd|hd
      ·rw [(ro_mem hd).1] at hr
       cases hr
      ·simp only [List.mem_cons,List.not_mem_nil,or_false] at hd
       rcases hd with rfl|rfl
       ·cases hr
       ·rfl
    refine Md.mid.to ?_
    refine run_region_end ?_;refine d91 ?_;refine Md.mid.of ?_
    refine Sy.weaken (h':=ro h++[⟨false,q1,.cells (fbL b pp np cp pt nt ct pk nk ck).toArray 26 (0,0)⟩,⟨false,q6,.cells (fbL b pp np cp pt nt ct pk nk ck).toArray 96 (0,0)⟩]) weakSub ?_
    exact hnext1 _ _ _ _ _ (by omega) ⟨t+1,rfl,by rw [show r=N-(t+1) by omega],rfl,rfl,by omega,exU rfl⟩
   ·refine d105 ?_;refine run_seq ?_
    obtain rfl:t=N:=by omega
    rw [Nat.sub_self];refine Md.mid.of ?_
    refine i_region rfl ?_;refine i_cal rfl zq (by kernel_rfl) (waitM_c hM (fun ks Pool q1 q2 q3=>?_));show (Im.star Tryz.prog B K (_++Pool)).R _
    refine i_fin rfl ?_;refine i_region_end ?_;show (Md.starS Tryz.prog B).R K _ _
    obtain ⟨sp,sc,ws,X,W,rfl,oW,eX⟩:=q1
    have q3': ∀k,k∈ks↔k<2^allN b∧decide (foulI b (keptI k (allN b)))=true:=fun k=>by rw [hall,←hN,←hall];exact q3 k
    obtain ⟨hl0,hgm,hok⟩:=clash_all hz0 hbe q3'
    obtain ⟨ga,gi,gl⟩:=clash_le hok
    have hl64:(llK b ks).length≤64:=Nat.le_trans (llK_le (fun k hk=>(q3 k).1 hk) q2) hN64
    have hlen: ∀l∈llK b ks,l.length≤1000:=fun l hl=>by
     obtain ⟨k,_,rfl⟩:=List.mem_map.1 hl
     have:=keptI_le k (allN b);omega
    refine rs3 ?_;refine k_ldh rfl zq ?_;refine k_cal rfl zq (by kernel_rfl) (f97_c _ _ ((oW.rd (List.Sublist.refl _)).keeps SubH.sub) (eX.keeps SubH.sub) (by omega) hl0 hlen) ?_;rintro v h' ⟨rfl,gp,gc,rfl,rg⟩;refine k_put ?_;generalize hgg:bestBy ltF (llK b ks)=gg at hgm hok ga gi gl rg⊢
    refine d12 ?_;refine d44 ?_;refine d136 ?_
    refine run_loop (fun nn l h'=> ∃(k:Nat) (wT wK:Value) (nT nK:Hp),nn=gg.length-k∧(k≤gg.length)∧(OwnS 3 1 wT (gT b (gg.take k)).length (ints (gT b (gg.take k))) nT)∧(OwnS 3 1 wK (gK b (gg.take k)).length (ints (gK b (gg.take k))) nK)∧(∃U:Nat→Value,l=((fbV b pp np cp pt nt ct pk nk ck)::(.pointer (some ⟨q1,0,none⟩))::wT::wK::(U 4)::(U 5)::(.pointer (some ⟨q6,0,none⟩))::(.pointer (some ⟨q7,0,none⟩))::(.pointer (some ⟨q8,0,none⟩))::(.pointer (some ⟨q9,0,none⟩))::vw30 U 10 ((.slice gp gg.length gc)::(.int .i64 (gg.length:Int))::(.int .i64 (k:Int))::vw23 U 43 [])))∧ro h++[⟨false,q1,.cells (fbL b pp np cp pt nt ct pk nk ck).toArray 26 (0,0)⟩,⟨false,q6,.cells (fbL b pp np cp pt nt ct pk nk ck).toArray 96 (0,0)⟩]++([⟨true,q9,.cells [.slice sp (llK b ks).length sc].toArray 52 (0,0)⟩]++X++W)++nT++nK=h') _ ⟨0,.slice none 0 0,.slice none 0 0,[],[],rfl,by omega,OwnS.nil,OwnS.nil,exU rfl,(by simp)⟩ ?_;rintro nn l h' ⟨k,wT,wK,nT,nK,rfl,hk9,hoT,hoK,⟨U,rfl⟩,rfl⟩ hnext2;have hgtl:=Nat.le_trans (gT_le b (gg.take k)) (List.length_take_le _ _)
    have hgkl:=Nat.le_trans (gK_le b (gg.take k)) (List.length_take_le _ _)
    refine rs1 ?_;refine k_lssS rfl zq (fun hc=>?_) (fun hc=>?_)
    ·refine d104 ?_;refine rs3 ?_
     obtain ⟨rg_b,rg_o,rfl⟩:=rg.ptr (by omega)
     refine k_ixs rfl zq (by first|rfl|assumption) (by omega) (by omega) ?_;refine k_ld rfl zq (rg.iat k (by omega) (by omega)) ?_;refine d12 ?_
     have hgk:=gi _ (mem_getD.2 ⟨k,by omega,rfl⟩)
     refine rr5 ?_;refine mq rfl ?_;refine d106 ?_;refine k_lssS rfl zq (fun hc=>?_) (fun hc=>?_)
     ·refine d7 ?_;refine rr5 ?_;refine d3 ?_
      refine k_bs kdq rfl zq (by decide) (by decide) rfl (fun q53=>k_hp (k_put ?_));refine k_app1O rfl zq rfl hoT kdq (by omega) (by omega) (fun w54 n54 o54=>k_put ?_);replace o54:OwnS 3 1 w54 (gT b (gg.take (k+1))).length (ints (gT b (gg.take (k+1)))) n54:=by
       rw [gT_take (by omega),gT_yes (b:=b) (x:=gg.getD k 0) (by omega),ints_append,List.length_append];exact o54
      have hoK1:=hoK
      rw [←gK_no (b:=b) (x:=gg.getD k 0) (by omega),←gT_take (by omega)] at hoK1
      refine d45 ?_;refine d84 ?_
      refine (Md.starS Tryz.prog B).weak (h':=ro h++[⟨false,q1,.cells (fbL b pp np cp pt nt ct pk nk ck).toArray 26 (0,0)⟩,⟨false,q6,.cells (fbL b pp np cp pt nt ct pk nk ck).toArray 96 (0,0)⟩]++([⟨true,q9,.cells [.slice sp (llK b ks).length sc].toArray 52 (0,0)⟩]++X++W)++n54++nK) weakOff2 ?_
      exact hnext2 _ _ _ (by omega) ⟨k+1,_,_,n54,nK,rfl,by omega,o54,hoK1,exU rfl,rfl⟩
     ·refine k_nil ?_;refine run_no ?_;refine rr9 ?_;refine d3 ?_;refine d2 ?_;refine d73 ?_;refine k_bs kdq rfl zq (by decide) (by decide) rfl (fun q61=>k_hp (k_put ?_));refine k_app1O rfl zq rfl hoK kdq (by omega) (by omega) (fun w62 n62 o62=>k_put ?_);replace o62:OwnS 3 1 w62 (gK b (gg.take (k+1))).length (ints (gK b (gg.take (k+1)))) n62:=by
       rw [gT_take (by omega),gK_yes (b:=b) (x:=gg.getD k 0) (by omega),ints_append,List.length_append,htl];exact o62
      have hoT1:=hoT
      rw [←gT_no (b:=b) (x:=gg.getD k 0) (by omega),←gT_take (by omega)] at hoT1
      refine d45 ?_;refine d84 ?_
      refine (Md.starS Tryz.prog B).weak (h':=ro h++[⟨false,q1,.cells (fbL b pp np cp pt nt ct pk nk ck).toArray 26 (0,0)⟩,⟨false,q6,.cells (fbL b pp np cp pt nt ct pk nk ck).toArray 96 (0,0)⟩]++([⟨true,q9,.cells [.slice sp (llK b ks).length sc].toArray 52 (0,0)⟩]++X++W)++nT++n62) weakOff2 ?_
      exact hnext2 _ _ _ (by omega) ⟨k+1,_,_,nT,n62,rfl,by omega,hoT1,o62,exU rfl,rfl⟩
    ·refine d105 ?_;refine rs5 ?_;refine d3 ?_;refine k_as rfl zq ?_;refine d27 ?_
     refine run_res (ro h++nT++nK) rfl Tryz.func40 rfl weakSub ?_;refine hK _ _ ?_;obtain rfl:k=gg.length:=by omega
     rw [List.take_length] at hoT hoK
     exact ⟨nT++nK,by rw [List.append_assoc],_,_,gg,by rw [hz0],rdI_keeps (OwnS.rdI hoT) (List.sublist_append_left _ _),rdI_keeps (OwnS.rdI hoK) (List.sublist_append_right _ _),hok⟩
theorem own_noneE {B:Array Obj} {α:Type} {k:Nat} [Enc α k] {t:Nat} {h:Hp} {n c:Nat} {xs:List α} (rd:RdS B h k (.slice none n c) n (encs xs)):OwnS t k (.slice none 0 0) n (encs xs) []:=by
 obtain ⟨p,c',e,hl,r⟩:=rd
 injection e with e1 e2 e3
 subst e1
 rcases r with ⟨_,rfl⟩|⟨b,o,e,_⟩
 ·have h0:encs xs=[]:=List.eq_nil_of_length_eq_zero (by omega)
  rw [h0];exact OwnS.nil
 ·cases e
def BkF (B:Array Obj) (b:Fb) (nw:Hp) (w:Value):Prop:= ∃pp np cp pt nt ct pk nk ck,w=fbV b pp np cp pt nt ct pk nk ck∧RdS B nw 3 (.slice pp np cp) np (encs b.pts)∧RdS B nw 4 (.slice pt nt ct) nt (encs b.tapes)∧RdS B nw 3 (.slice pk nk ck) nk (encs b.sticks)
def noF:Fb:=⟨0,[],[],[]⟩
abbrev zeroF:Value:= .agg [.int .i64 0,.slice none 0 0,.slice none 0 0,.slice none 0 0].toArray
theorem rd_none {B:Array Obj} {nw:Hp} {k:Nat}:RdS B nw k (.slice none 0 0) 0 []:=⟨none,0,rfl,by simp,.inl ⟨rfl,rfl⟩⟩
theorem BkF.zero {B:Array Obj} {nw:Hp}:BkF B noF nw zeroF:=⟨none,0,0,none,0,0,none,0,0,rfl,rd_none,rd_none,rd_none⟩
def agreeF (b:Fb):Fb:=if openS b 0=0 then b else noF
def addT (b:Fb) (t:Tp):Fb:={b with tapes:=b.tapes++[t]}
def addK (b:Fb) (k:Sk):Fb:={b with sticks:=b.sticks++[k]}
def stickS (b:Fb) (k:Sk):Int:=if fbS b≠0 then fbS b else openS (addK b k) 0
def stickF (b:Fb) (k:Sk):Fb:=if fbS b≠0 then noF else agreeF (addK b k)
theorem f55_c (m:Md Tryz.prog B) (h:Hp) {p:Option Addr} {n c:Nat} {xs:List Sk} (rd:RdS B h 3 (.slice p n c) n (encs xs)) (hn:n≤1000):FnC m 55 #[.slice p n c] h fun v h'=> ∃nw,h'=h++nw∧OwnS 50 3 v n (encs xs) nw:=by
 refine fn_enter Tryz.func55 rfl rfl (l:=(.slice p n c)::uu7) rfl ?_
 intro cf cs K hK
 refine d69 ?_;refine d19 ?_
 refine k_eqNilS rfl zq (fun hc=>?_) (fun hc=>?_)
 ·refine d58 ?_
  refine run_res (h) rfl Tryz.func55 rfl weakSub ?_;refine hK _ _ ?_;exact ⟨[],by simp,by subst hc;exact own_noneE rd⟩
 ·refine d13 ?_;refine rs4 ?_
  refine k_bs0 kdq rfl zq (fun q5=>k_hp (k_put ?_));refine mq rfl ?_
  refine k_app (F:=h) rfl zq weakSub OwnS.zero rd.up (encs_one _) kdq (by omega) (by omega) (fun w9 n9 o9=>k_put ?_);refine d0 ?_
  refine run_res (h++n9) rfl Tryz.func55 rfl weakSub ?_;refine hK _ _ ?_;exact ⟨n9,rfl,by simpa using o9⟩
theorem f117_c (m:Md Tryz.prog B) (h:Hp) {p:Option Addr} {n c:Nat} {xs:List Pt} (rd:RdS B h 3 (.slice p n c) n (encs xs)) (hn:n≤1000):FnC m 117 #[.slice p n c] h fun v h'=> ∃nw,h'=h++nw∧OwnS 32 3 v n (encs xs) nw:=by
 refine fn_enter Tryz.func117 rfl rfl (l:=(.slice p n c)::uu7) rfl ?_
 intro cf cs K hK
 refine d69 ?_;refine d19 ?_
 refine k_eqNilS rfl zq (fun hc=>?_) (fun hc=>?_)
 ·refine d58 ?_
  refine run_res (h) rfl Tryz.func117 rfl weakSub ?_;refine hK _ _ ?_;exact ⟨[],by simp,by subst hc;exact own_noneE rd⟩
 ·refine d13 ?_;refine rs4 ?_
  refine k_bs0 kdq rfl zq (fun q5=>k_hp (k_put ?_));refine mq rfl ?_
  refine k_app (F:=h) rfl zq weakSub OwnS.zero rd.up (encs_one _) kdq (by omega) (by omega) (fun w9 n9 o9=>k_put ?_);refine d0 ?_
  refine run_res (h++n9) rfl Tryz.func117 rfl weakSub ?_;refine hK _ _ ?_;exact ⟨n9,rfl,by simpa using o9⟩
theorem f118_c (m:Md Tryz.prog B) (h:Hp) {p:Option Addr} {n c:Nat} {xs:List Tp} (rd:RdS B h 4 (.slice p n c) n (encs xs)) (hn:n≤1000):FnC m 118 #[.slice p n c] h fun v h'=> ∃nw,h'=h++nw∧OwnS 89 4 v n (encs xs) nw:=by
 refine fn_enter Tryz.func118 rfl rfl (l:=(.slice p n c)::uu7) rfl ?_
 intro cf cs K hK
 refine d69 ?_;refine d19 ?_
 refine k_eqNilS rfl zq (fun hc=>?_) (fun hc=>?_)
 ·refine d58 ?_
  refine run_res (h) rfl Tryz.func118 rfl weakSub ?_;refine hK _ _ ?_;exact ⟨[],by simp,by subst hc;exact own_noneE rd⟩
 ·refine d13 ?_;refine rs4 ?_
  refine k_bs0 kdq rfl zq (fun q5=>k_hp (k_put ?_));refine mq rfl ?_
  refine k_app (F:=h) rfl zq weakSub OwnS.zero rd.up (encs_one _) kdq (by omega) (by omega) (fun w9 n9 o9=>k_put ?_);refine d0 ?_
  refine run_res (h++n9) rfl Tryz.func118 rfl weakSub ?_;refine hK _ _ ?_;exact ⟨n9,rfl,by simpa using o9⟩
theorem f42_c (m:Md Tryz.prog B) (h:Hp) (x y:Int):FnC m 42 #[.int .i64 x,.int .i64 y] h fun v h'=>h'=h∧v= .agg [.int .i64 x,.int .i64 y].toArray:=by
 refine fn_enter Tryz.func42 rfl rfl (l:=(.int .i64 x)::(.int .i64 y)::uu6) rfl ?_
 intro cf cs K hK
 refine rs1 ?_;refine k_new rfl zq (fun q4=>k_hp (k_put ?_));refine k_nil ?_;refine d65 ?_;refine k_bld rfl zq ?_;refine d93 ?_;refine run_res (h) rfl Tryz.func42 rfl weakSub ?_;refine hK _ _ ?_;exact ⟨rfl,rfl⟩
theorem f9_c (m:Md Tryz.prog B) (h:Hp) (x:Int):FnC m 9 #[.int .i64 x] h fun v h'=>h'=h∧v= .agg [.int .i64 x,.int .i64 x].toArray:=by
 refine fn_enter Tryz.func9 rfl rfl (l:=[.int .i64 x,undef,undef,undef,undef,undef]) rfl ?_
 intro cf cs K hK
 refine rs1 ?_;refine k_new rfl zq (fun q2=>k_hp (k_put ?_));refine k_nil ?_;refine d65 ?_;refine k_calP (Post:=fun v=>v=_) rfl zq (by kernel_rfl) (fun H' hH=>f42_c m H' x x) ?_;rintro v rfl;refine k_put ?_;refine d93 ?_;refine run_res (h) rfl Tryz.func9 rfl weakSub ?_;refine hK _ _ ?_;exact ⟨rfl,rfl⟩
theorem f56_c (m:Md Tryz.prog B) (h:Hp) (rdp:Rp B h b pp np cp) (hp:np≤1000) (rdt:Rt B h b pt nt ct) (ht:nt≤1000) (rdk:Rk B h b pk nk ck) (hk:nk≤1000):FnC m 56 #[fbV b pp np cp pt nt ct pk nk ck] h fun v h'=> ∃nw,h'=h++nw∧ ∃w,v= .tuple [w,.int .i64 (openS b 0)].toArray∧BkF B (agreeF b) nw w:=by
 have hml:=rdp.elen (by decide)
 refine fn_enter Tryz.func56 rfl rfl (l:=(fbV b pp np cp pt nt ct pk nk ck)::uu27) rfl ?_
 intro cf cs K hK
 refine rs3 ?_;refine k_box rfl zq (fun q1=>k_hp (k_put ?_));refine k_new rfl zq (fun q2=>k_hp (k_put ?_));refine d12 ?_;refine d150 ?_
 refine k_calC rfl zq (by kernel_rfl) (Post:=fun v nw=>Opened b (fbV b pp np cp pt nt ct pk nk ck) (openS b (0:Int)) nw v) (fun H' hH=>f76_c m H' (rdp.keeps (sq hH)) hp (rdt.keeps (sq hH)) ht (rdk.keeps (sq hH)) hk callB85 (fun hbz K hK=>by simpa using f85_c m K (b:=b))) ?_;rintro v nw ⟨x1,p1,n1,c1,p2,n2,c2,p3,n3,c3,z1,z2,z3,rfl,hz⟩;refine k_hpA (k_put ?_);refine d42 ?_
 refine k_new rfl zq (fun q4=>k_hp (k_put ?_));refine k_stA rfl zq (by first|rfl|exact rws_length _) ?_;refine aq rfl ?_;refine d19 ?_
 refine k_neqS rfl zq (fun hc=>?_) (fun hc=>?_)
 ·refine d7 ?_;refine rs4 ?_;refine d113 ?_;refine d72 ?_
  refine run_res (h) rfl Tryz.func56 rfl weakSub ?_;refine hK _ _ ?_;exact ⟨[],by simp,_,rfl,by rw [agreeF,if_neg (by assumption)];exact BkF.zero⟩
 ·refine d38 ?_
  refine run_draw [(0,.pure),(3,.pure),(6,.pure),(1,.read),(4,.read),(7,.read),(2,.keep),(9,.pure),(5,.keep),(8,.keep),(10,.free),(11,.pure),(12,.free),(13,.pure),(14,.free)] (by kernel_rfl) (by kernel_rfl) (List.Sublist.refl _) ?_;have hz0:openS b (0:Int)=0:=by first|assumption|omega
  obtain ⟨hz1,rfl,hzc,rdB⟩:=hz hz0
  injection hz1 with hz1
  injection hz1 with hz1
  injection hz1 with e1 hz1
  injection hz1 with e2 hz1
  injection hz1 with e3 hz1
  injection hz1 with e4 hz1
  injection e1 with _ e1
  injection e2 with u1 u2 u3
  injection e3 with u4 u5 u6
  injection e4 with u7 u8 u9
  subst e1 u1 u2 u3 u4 u5 u6 u7 u8 u9
  obtain ⟨hbz,hoz,hbne⟩:=openS_zero hz0
  have hv:=fbS_zero hbz
  have hpo:=hv.pts
  have hv5:=hpo.five
  have hbl:=boatsOf_le hpo
  have hpos:0<(boatsOf b).length:=List.length_pos_iff.2 hbne
  refine d8 ?_;refine d2 ?_;refine d81 ?_
  refine k_calC rfl zq (by kernel_rfl) (fun H' hH=>f117_c m H' (rdp.keeps (sq hH)) (by omega)) ?_;rintro v n1 o1;refine k_hpA (k_put ?_);obtain ⟨p1,c1,rfl,hc1,r1⟩:=own_rdA (B:=B) o1
  (first|refine k_fa0 rfl zq ?_|refine k_fa rfl zq ?_)
  refine k_calC rfl zq (by kernel_rfl) (fun H' hH=>f118_c m H' (rdt.keeps (sq hH)) (by omega)) ?_;rintro v n2 o2;refine k_hpA (k_put ?_);obtain ⟨p2,c2,rfl,hc2,r2⟩:=own_rdA (B:=B) o2
  refine k_calC rfl zq (by kernel_rfl) (fun H' hH=>f55_c m H' (rdk.keeps (sq hH)) (by omega)) ?_;rintro v n3 o3;refine k_hpA (k_put ?_);obtain ⟨p3,c3,rfl,hc3,r3⟩:=own_rdA (B:=B) o3
  refine k_st1 rfl zq ?_;refine d50 ?_;refine d145 ?_;refine d96 ?_;refine d72 ?_;refine run_res (h++n1++n2++n3) rfl Tryz.func56 rfl weakSub ?_;refine hK _ _ ?_;refine ⟨n1++n2++n3,by simp only [List.append_assoc],_,by rw [hz0],?_⟩
  rw [agreeF,if_pos hz0];exact ⟨p1,np,c1,p2,nt,c2,p3,nk,c3,rfl,r1.up,r2.up,r3.up⟩
theorem f14_c (m:Md Tryz.prog B) (h:Hp) (rdp:Rp B h b pp np cp) (hp:np≤1000) (rdt:Rt B h b pt nt ct) (ht:nt≤1000) (rdk:Rk B h b pk nk ck) (hk:nk≤1000) (x:Sk):FnC m 14 #[fbV b pp np cp pt nt ct pk nk ck,skV x] h fun v h'=> ∃nw,h'=h++nw∧ ∃w,v= .tuple [w,.int .i64 (stickS b x)].toArray∧BkF B (stickF b x) nw w:=by
 have hml:=rdp.elen (by decide)
 have htl:=rdt.elen (by decide)
 have hkl:=rdk.elen (by decide)
 refine fn_enter Tryz.func14 rfl rfl (l:=(fbV b pp np cp pt nt ct pk nk ck)::(skV x)::uu22) rfl ?_
 intro cf cs K hK
 refine rs4 ?_;refine k_box rfl zq (fun q2=>k_hp (k_put ?_));refine k_box rfl zq (fun q3=>k_hp (k_put ?_));refine k_new rfl zq (fun q4=>k_hp (k_put ?_));refine d12 ?_;refine d96 ?_
 refine k_calP (Post:=fun v=>v=_) rfl zq (by kernel_rfl) (fun H' hH=>f54_c m H' (rdp.keeps (sq hH)) hp (rdt.keeps (sq hH)) ht (rdk.keeps (sq hH)) hk) ?_;rintro v rfl;refine d138 ?_
 refine k_neqS rfl zq (fun hc=>?_) (fun hc=>?_)
 ·refine d7 ?_;refine rs4 ?_;refine d113 ?_;refine d72 ?_
  refine run_res (h) rfl Tryz.func14 rfl weakSub ?_;refine hK _ _ ?_;exact ⟨[],by simp,_,by rw [stickS,if_pos (by assumption)],by rw [stickF,if_pos (by assumption)];exact BkF.zero⟩
 ·have hv:=fbS_zero hc
  have hv1:=hv.few
  have hv2:=hv.few'
  refine d38 ?_
  refine run_drawT [0,1,2,3,4,5,6,7] (by kernel_rfl) (by kernel_rfl) (List.Sublist.refl _) ?_;refine DrawT.split 2 4 (by decide) ?_ ?_
  ·refine DrawT.leaf [(0,.pure),(1,.read),(3,.read),(2,.keep),(4,.keep),(5,.free),(6,.pure),(7,.free)] (by kernel_rfl) ?_
   refine d139 ?_
   refine k_calC rfl zq (by kernel_rfl) (fun H' hH=>f55_c m H' (rdk.keeps (sq hH)) (by omega)) ?_;rintro v n2 o2;refine k_hpA (k_put ?_);obtain ⟨p2,c2,rfl,hc2,r2⟩:=own_rdA (B:=B) o2
   refine k_bs kdq rfl zq (by decide) (by decide) rfl (fun q17=>k_hp (k_put ?_));refine k_app1O rfl zq rfl o2 kdq (by omega) (by omega) (fun w9 n9 o9=>k_put ?_);replace o9:OwnS 50 3 w9 (nk+1) (encs (addK b x).sticks) n9:=by rw [show encs (addK b x).sticks=encs b.sticks++skL x by rw [addK,encs_append,encs_sk]];exact o9
   obtain ⟨p9,c9,rfl,hc9,r9⟩:=own_rdA (B:=B) o9
   refine d145 ?_;refine rs6 ?_;refine k_ldA rfl zq ?_
   refine k_calC rfl zq (by kernel_rfl) (fun H' hH=>f56_c m H' (b:=addK b x) (rdp.keeps (sq hH)) hp (rdt.keeps (sq hH)) ht (r9.keeps (sq hH)) (by omega)) ?_;rintro v n5 ⟨w5,rfl,hb5⟩;obtain ⟨pp5,np5,cp5,pt5,nt5,ct5,pk5,nk5,ck5,rfl,hr5⟩:=hb5
   refine k_hpA (k_put ?_);refine d17 ?_;refine d72 ?_
   refine run_res (h++n5) rfl Tryz.func14 rfl weakSub ?_;refine hK _ _ ?_;exact ⟨n5,rfl,_,by rw [stickS,if_neg (fun e=>e hc)],by rw [stickF,if_neg (fun e=>e hc)];exact ⟨_,_,_,_,_,_,_,_,_,rfl,hr5⟩⟩
  ·refine DrawT.leaf [(0,.pure),(1,.read),(3,.read),(4,.keep),(2,.keep),(5,.free),(6,.pure),(7,.free)] (by kernel_rfl) ?_
   refine d139 ?_
   refine k_bs kdq rfl zq (by decide) (by decide) rfl (fun q17=>k_hp (k_put ?_));refine k_calC rfl zq (by kernel_rfl) (fun H' hH=>f55_c m H' (rdk.keeps (sq hH)) (by omega)) ?_;rintro v n2 o2;refine k_hpA (k_put ?_);obtain ⟨p2,c2,rfl,hc2,r2⟩:=own_rdA (B:=B) o2
   refine k_app1O rfl zq rfl o2 kdq (by omega) (by omega) (fun w9 n9 o9=>k_put ?_);replace o9:OwnS 50 3 w9 (nk+1) (encs (addK b x).sticks) n9:=by rw [show encs (addK b x).sticks=encs b.sticks++skL x by rw [addK,encs_append,encs_sk]];exact o9
   obtain ⟨p9,c9,rfl,hc9,r9⟩:=own_rdA (B:=B) o9
   refine d145 ?_;refine rs6 ?_;refine k_ldA rfl zq ?_
   refine k_calC rfl zq (by kernel_rfl) (fun H' hH=>f56_c m H' (b:=addK b x) (rdp.keeps (sq hH)) hp (rdt.keeps (sq hH)) ht (r9.keeps (sq hH)) (by omega)) ?_;rintro v n5 ⟨w5,rfl,hb5⟩;obtain ⟨pp5,np5,cp5,pt5,nt5,ct5,pk5,nk5,ck5,rfl,hr5⟩:=hb5
   refine k_hpA (k_put ?_);refine d17 ?_;refine d72 ?_
   refine run_res (h++n5) rfl Tryz.func14 rfl weakSub ?_;refine hK _ _ ?_;exact ⟨n5,rfl,_,by rw [stickS,if_neg (fun e=>e hc)],by rw [stickF,if_neg (fun e=>e hc)];exact ⟨_,_,_,_,_,_,_,_,_,rfl,hr5⟩⟩
theorem f16_c (m:Md Tryz.prog B) (h:Hp) (rdk:Rk B h b pk nk ck) (hn:nk≤1000) (x:Sk):FnC m 16 #[fbV b pp np cp pt nt ct pk nk ck,skV x] h fun v h'=> ∃nw,h'=h++nw∧ ∃rp rc,v=fbV (addK b x) pp np cp pt nt ct rp (nk+1) rc∧RdS B nw 3 (.slice rp (nk+1) rc) (nk+1) (encs (addK b x).sticks):=by
 have hnl:=rdk.elen (by decide)
 refine fn_enter Tryz.func16 rfl rfl (l:=(fbV b pp np cp pt nt ct pk nk ck)::(skV x)::uu14) rfl ?_
 intro cf cs K hK
 refine rs3 ?_;refine k_box rfl zq (fun q2=>k_hp (k_put ?_));refine k_box rfl zq (fun q3=>k_hp (k_put ?_));refine k_new rfl zq (fun q4=>k_hp (k_put ?_));refine k_nil ?_;refine d96 ?_;refine k_new rfl zq (fun q5=>k_hp (k_put ?_));refine d131 ?_
 refine run_drawT [0,1,2,3,4,5,6,7,8] (by kernel_rfl) (by kernel_rfl) (List.Sublist.refl _) ?_;refine DrawT.split 0 5 (by decide) ?_ ?_
 ·refine DrawT.split 3 5 (by decide) ?_ ?_
  ·refine DrawT.leaf [(1,.pure),(2,.read),(4,.read),(0,.keep),(3,.keep),(5,.keep),(6,.keep),(7,.pure),(8,.free)] (by kernel_rfl) ?_
   refine d139 ?_
   refine k_bs0 kdq rfl zq (fun q7=>k_hp (k_put ?_));refine k_appO rfl zq (OwnS.zero (q:=q7)) rdk.up (encs_one _) kdq (by omega) (by omega) (fun w10 n10 o10=>k_put ?_);replace o10:OwnS 50 3 w10 nk (encs b.sticks) n10:=by simpa using o10
   refine k_bs kdq rfl zq (by decide) (by decide) rfl (fun q12=>k_hp (k_put ?_));refine k_app1O rfl zq rfl o10 kdq (by omega) (by omega) (fun w13 n13 o13=>k_put ?_);replace o13:OwnS 50 3 w13 (nk+1) (encs (addK b x).sticks) n13:=by rw [show encs (addK b x).sticks=encs b.sticks++skL x by rw [addK,encs_append,encs_sk]];exact o13
   obtain ⟨p13,c13,rfl,_,r13⟩:=own_rdA (B:=B) o13
   refine d145 ?_;refine d114 ?_;refine d93 ?_
   refine run_res (h++n13) rfl Tryz.func16 rfl weakSub ?_;refine hK _ _ ?_;exact ⟨n13,rfl,_,_,rfl,r13⟩
  ·refine DrawT.leaf [(1,.pure),(2,.read),(4,.read),(0,.keep),(5,.keep),(3,.keep),(6,.keep),(7,.pure),(8,.free)] (by kernel_rfl) ?_
   refine d139 ?_
   refine k_bs0 kdq rfl zq (fun q7=>k_hp (k_put ?_));refine k_bs kdq rfl zq (by decide) (by decide) rfl (fun q12=>k_hp (k_put ?_));refine k_appO rfl zq (OwnS.zero (q:=q7)) rdk.up (encs_one _) kdq (by omega) (by omega) (fun w10 n10 o10=>k_put ?_);replace o10:OwnS 50 3 w10 nk (encs b.sticks) n10:=by simpa using o10
   refine k_app1O rfl zq rfl o10 kdq (by omega) (by omega) (fun w13 n13 o13=>k_put ?_);replace o13:OwnS 50 3 w13 (nk+1) (encs (addK b x).sticks) n13:=by rw [show encs (addK b x).sticks=encs b.sticks++skL x by rw [addK,encs_append,encs_sk]];exact o13
   obtain ⟨p13,c13,rfl,_,r13⟩:=own_rdA (B:=B) o13
   refine d145 ?_;refine d114 ?_;refine d93 ?_
   refine run_res (h++n13) rfl Tryz.func16 rfl weakSub ?_;refine hK _ _ ?_;exact ⟨n13,rfl,_,_,rfl,r13⟩
 ·refine DrawT.leaf [(1,.pure),(2,.read),(4,.read),(5,.keep),(0,.keep),(3,.keep),(6,.keep),(7,.pure),(8,.free)] (by kernel_rfl) ?_
  refine d139 ?_
  refine k_bs kdq rfl zq (by decide) (by decide) rfl (fun q12=>k_hp (k_put ?_));refine k_bs0 kdq rfl zq (fun q7=>k_hp (k_put ?_));refine k_appO rfl zq (OwnS.zero (q:=q7)) rdk.up (encs_one _) kdq (by omega) (by omega) (fun w10 n10 o10=>k_put ?_);replace o10:OwnS 50 3 w10 nk (encs b.sticks) n10:=by simpa using o10
  refine k_app1O rfl zq rfl o10 kdq (by omega) (by omega) (fun w13 n13 o13=>k_put ?_);replace o13:OwnS 50 3 w13 (nk+1) (encs (addK b x).sticks) n13:=by rw [show encs (addK b x).sticks=encs b.sticks++skL x by rw [addK,encs_append,encs_sk]];exact o13
  obtain ⟨p13,c13,rfl,_,r13⟩:=own_rdA (B:=B) o13
  refine d145 ?_;refine d114 ?_;refine d93 ?_
  refine run_res (h++n13) rfl Tryz.func16 rfl weakSub ?_;refine hK _ _ ?_;exact ⟨n13,rfl,_,_,rfl,r13⟩
theorem f39_c (m:Md Tryz.prog B) (h:Hp) (rdt:Rt B h b pt nt ct) (hn:nt≤1000) (x:Tp):FnC m 39 #[fbV b pp np cp pt nt ct pk nk ck,tpV x] h fun v h'=> ∃nw,h'=h++nw∧ ∃rp rc,v=fbV (addT b x) pp np cp rp (nt+1) rc pk nk ck∧RdS B nw 4 (.slice rp (nt+1) rc) (nt+1) (encs (addT b x).tapes):=by
 have hnl:=rdt.elen (by decide)
 refine fn_enter Tryz.func39 rfl rfl (l:=(fbV b pp np cp pt nt ct pk nk ck)::(tpV x)::uu14) rfl ?_
 intro cf cs K hK
 refine rs3 ?_;refine k_box rfl zq (fun q2=>k_hp (k_put ?_));refine k_box rfl zq (fun q3=>k_hp (k_put ?_));refine k_new rfl zq (fun q4=>k_hp (k_put ?_));refine k_nil ?_;refine d96 ?_;refine k_new rfl zq (fun q5=>k_hp (k_put ?_));refine d131 ?_
 refine run_drawT [0,1,2,3,4,5,6,7,8] (by kernel_rfl) (by kernel_rfl) (List.Sublist.refl _) ?_;refine DrawT.split 0 5 (by decide) ?_ ?_
 ·refine DrawT.split 3 5 (by decide) ?_ ?_
  ·refine DrawT.leaf [(1,.pure),(2,.read),(4,.read),(0,.keep),(3,.keep),(5,.keep),(6,.keep),(7,.pure),(8,.free)] (by kernel_rfl) ?_
   refine d139 ?_
   refine k_bs0 kdq rfl zq (fun q7=>k_hp (k_put ?_));refine k_appO rfl zq (OwnS.zero (q:=q7)) rdt.up (encs_one _) kdq (by omega) (by omega) (fun w10 n10 o10=>k_put ?_);replace o10:OwnS 89 4 w10 nt (encs b.tapes) n10:=by simpa using o10
   refine k_bs kdq rfl zq (by decide) (by decide) rfl (fun q12=>k_hp (k_put ?_));refine k_app1O rfl zq rfl o10 kdq (by omega) (by omega) (fun w13 n13 o13=>k_put ?_);replace o13:OwnS 89 4 w13 (nt+1) (encs (addT b x).tapes) n13:=by rw [show encs (addT b x).tapes=encs b.tapes++tpL x by rw [addT,encs_append,encs_tp]];exact o13
   obtain ⟨p13,c13,rfl,_,r13⟩:=own_rdA (B:=B) o13
   refine d145 ?_;refine d114 ?_;refine d93 ?_
   refine run_res (h++n13) rfl Tryz.func39 rfl weakSub ?_;refine hK _ _ ?_;exact ⟨n13,rfl,_,_,rfl,r13⟩
  ·refine DrawT.leaf [(1,.pure),(2,.read),(4,.read),(0,.keep),(5,.keep),(3,.keep),(6,.keep),(7,.pure),(8,.free)] (by kernel_rfl) ?_
   refine d139 ?_
   refine k_bs0 kdq rfl zq (fun q7=>k_hp (k_put ?_));refine k_bs kdq rfl zq (by decide) (by decide) rfl (fun q12=>k_hp (k_put ?_));refine k_appO rfl zq (OwnS.zero (q:=q7)) rdt.up (encs_one _) kdq (by omega) (by omega) (fun w10 n10 o10=>k_put ?_);replace o10:OwnS 89 4 w10 nt (encs b.tapes) n10:=by simpa using o10
   refine k_app1O rfl zq rfl o10 kdq (by omega) (by omega) (fun w13 n13 o13=>k_put ?_);replace o13:OwnS 89 4 w13 (nt+1) (encs (addT b x).tapes) n13:=by rw [show encs (addT b x).tapes=encs b.tapes++tpL x by rw [addT,encs_append,encs_tp]];exact o13
   obtain ⟨p13,c13,rfl,_,r13⟩:=own_rdA (B:=B) o13
   refine d145 ?_;refine d114 ?_;refine d93 ?_
   refine run_res (h++n13) rfl Tryz.func39 rfl weakSub ?_;refine hK _ _ ?_;exact ⟨n13,rfl,_,_,rfl,r13⟩
 ·refine DrawT.leaf [(1,.pure),(2,.read),(4,.read),(5,.keep),(0,.keep),(3,.keep),(6,.keep),(7,.pure),(8,.free)] (by kernel_rfl) ?_
  refine d139 ?_
  refine k_bs kdq rfl zq (by decide) (by decide) rfl (fun q12=>k_hp (k_put ?_));refine k_bs0 kdq rfl zq (fun q7=>k_hp (k_put ?_));refine k_appO rfl zq (OwnS.zero (q:=q7)) rdt.up (encs_one _) kdq (by omega) (by omega) (fun w10 n10 o10=>k_put ?_);replace o10:OwnS 89 4 w10 nt (encs b.tapes) n10:=by simpa using o10
  refine k_app1O rfl zq rfl o10 kdq (by omega) (by omega) (fun w13 n13 o13=>k_put ?_);replace o13:OwnS 89 4 w13 (nt+1) (encs (addT b x).tapes) n13:=by rw [show encs (addT b x).tapes=encs b.tapes++tpL x by rw [addT,encs_append,encs_tp]];exact o13
  obtain ⟨p13,c13,rfl,_,r13⟩:=own_rdA (B:=B) o13
  refine d145 ?_;refine d114 ?_;refine d93 ?_
  refine run_res (h++n13) rfl Tryz.func39 rfl weakSub ?_;refine hK _ _ ?_;exact ⟨n13,rfl,_,_,rfl,r13⟩
end Go.Proofs
namespace Go.Proofs
open Go.Lo
open Go.Conc (G)
set_option maxRecDepth 100000
set_option synthInstance.maxSize 100000
set_option synthInstance.maxHeartbeats 1000000
set_option maxHeartbeats 4000000
variable {B:Array Obj}
variable [LaidF B]
instance:KeyT Tryz.prog 30:=⟨by kernel_rfl⟩
end Go.Proofs
namespace Go.Proofs
open Go.Lo
open Go.Conc (G)
set_option maxRecDepth 100000
set_option synthInstance.maxSize 100000
set_option synthInstance.maxHeartbeats 1000000
set_option maxHeartbeats 4000000
variable {b:Fb} {pp:Option Addr} {np cp:Nat} {pt:Option Addr} {nt ct:Nat} {pk:Option Addr} {nk ck:Nat}
variable {B:Array Obj}
variable [LaidF B]
def exF:Fb:=⟨2,[⟨0,3,3⟩,⟨4,6,7⟩,⟨12,12,13⟩],[⟨0,1,5,5⟩],[⟨8,9,true⟩]⟩
theorem f25_c (m:Md Tryz.prog B) (h:Hp):FnC m 25 #[] h fun v h'=> ∃nw,h'=h++nw∧BkF B exF nw v:=by
 refine fn_enter Tryz.func25 rfl rfl (l:=uu14) rfl ?_
 intro cf cs K hK
 refine rs1 ?_;refine k_new rfl zq (fun q0=>k_hp (k_put ?_));refine d24 ?_
 refine run_region [(0,.free),(1,.free),(2,.free),(3,.free),(4,.free),(5,.free),(6,.free),(7,.free),(8,.free),(9,.free),(10,.free),(11,.free),(12,.free),(13,.free)] (by kernel_rfl) (by kernel_rfl) ?_;refine k_calP (Post:=fun v=>v=_) rfl zq (by kernel_rfl) (fun H' hH=>f9_c m H' _) ?_;rintro v rfl;refine k_put ?_;refine k_bld rfl zq ?_;refine k_calP (Post:=fun v=>v=_) rfl zq (by kernel_rfl) (fun H' hH=>f42_c m H' _ _) ?_;rintro v rfl;refine k_put ?_;refine k_bld rfl zq ?_;refine k_calP (Post:=fun v=>v=_) rfl zq (by kernel_rfl) (fun H' hH=>f42_c m H' _ _) ?_;rintro v rfl;refine k_put ?_;refine k_bld rfl zq ?_;refine k_bs kdq rfl zq (by decide) (by decide) rfl (fun q7=>k_hp (k_put ?_));refine k_calP (Post:=fun v=>v=_) rfl zq (by kernel_rfl) (fun H' hH=>f9_c m H' _) ?_;rintro v rfl;refine k_put ?_;refine k_bld rfl zq ?_;refine k_bs kdq rfl zq (by decide) (by decide) rfl (fun q9=>k_hp (k_put ?_));refine k_bld rfl zq ?_;refine k_bs kdq rfl zq (by decide) (by decide) rfl (fun q11=>k_hp (k_put ?_));refine k_bld rfl zq ?_;refine d93 ?_;refine run_res (h++[⟨true,q7,.cells [.int .i64 0,.int .i64 3,.int .i64 3,.int .i64 4,.int .i64 6,.int .i64 7,.int .i64 12,.int .i64 12,.int .i64 13].toArray 32 (0,0)⟩,⟨true,q9,.cells [.int .i64 0,.int .i64 1,.int .i64 5,.int .i64 5].toArray 89 (0,0)⟩,⟨true,q11,.cells [.int .i64 8,.int .i64 9,.bool true].toArray 50 (0,0)⟩]) rfl Tryz.func25 rfl weakSub ?_;refine hK _ _ ?_;exact ⟨_,rfl,_,3,3,_,1,1,_,1,1,rfl,rdS_has (ys:=encs exF.pts) (x:=⟨List.mem_cons_self⟩) rfl,rdS_has (ys:=encs exF.tapes) (x:=⟨List.mem_cons_of_mem _ List.mem_cons_self⟩) rfl,rdS_has (ys:=encs exF.sticks) (x:=⟨List.mem_cons_of_mem _ (List.mem_cons_of_mem _ List.mem_cons_self)⟩) rfl⟩
theorem f24_c (m:Md Tryz.prog B) (h:Hp):FnC m 24 #[fbV b pp np cp pt nt ct pk nk ck] h fun v h'=>h'=h∧IsB (20<(np:Int)∨20<(nt:Int)∨20<(nk:Int)) v:=by
 refine fn_enter Tryz.func24 rfl rfl (l:=(fbV b pp np cp pt nt ct pk nk ck)::uu18) rfl ?_
 intro cf cs K hK
 refine rs2 ?_;refine k_box rfl zq (fun q1=>k_hp (k_put ?_));refine d12 ?_
 refine run_region [(0,.free),(1,.free),(2,.free),(3,.free),(4,.free),(5,.free),(6,.free),(7,.free),(8,.free),(9,.free),(10,.free),(11,.free),(12,.free),(13,.free),(14,.free),(15,.free),(16,.free)] (by kernel_rfl) (by kernel_rfl) ?_;refine d106 ?_
 refine k_gtrS rfl zq (fun hc=>?_) (fun hc=>?_)
 ·refine d68 ?_;refine k_pickT rfl zq ?_;refine d68 ?_;refine d82 ?_
  refine run_res (h) rfl Tryz.func24 rfl weakSub ?_;refine hK _ _ ?_;first|exact ⟨rfl,IsB.yes (by omega)⟩|exact ⟨rfl,IsB.no (by omega)⟩
 ·refine mq rfl ?_;refine d25 ?_;refine k_len rfl rfl ?_
  refine k_gtrS rfl rfl (fun hc=>?_) (fun hc=>?_)
  ·refine k_pickF rfl zq ?_;refine d68 ?_;refine d82 ?_;refine run_res (h) rfl Tryz.func24 rfl weakSub ?_;refine hK _ _ ?_;first|exact ⟨rfl,IsB.yes (by omega)⟩|exact ⟨rfl,IsB.no (by omega)⟩
  ·refine k_pickF rfl zq ?_;refine mq rfl ?_;refine d25 ?_;refine k_len rfl rfl ?_;refine k_gtrS rfl rfl (fun hc=>?_) (fun hc=>?_)
   ·refine d109 ?_
    refine run_res (h) rfl Tryz.func24 rfl weakSub ?_;refine hK _ _ ?_;first|exact ⟨rfl,IsB.yes (by omega)⟩|exact ⟨rfl,IsB.no (by omega)⟩
   ·refine d109 ?_
    refine run_res (h) rfl Tryz.func24 rfl weakSub ?_;refine hK _ _ ?_;first|exact ⟨rfl,IsB.yes (by omega)⟩|exact ⟨rfl,IsB.no (by omega)⟩
theorem f41_c (m:Md Tryz.prog B) (h:Hp) {p p2:Option Addr} {n c n2 c2:Nat} {xs ys:List Int} (rd:RdS B h 1 (.slice p n c) n (ints xs)) (hn:n≤1000000) (rd2:RdS B h 1 (.slice p2 n2 c2) n2 (ints ys)):FnC m 41 #[.slice p n c,.slice p2 n2 c2] h fun v h'=>h'=h∧IsB (xs=ys) v:=by
 refine fn_enter Tryz.func41 rfl rfl (l:=(.slice p n c)::(.slice p2 n2 c2)::uu6) rfl ?_
 intro cf cs K hK
 refine d83 ?_;refine d65 ?_
 refine k_calP (Post:=fun v=>IsB _ v) rfl zq (by kernel_rfl) (fun H' hH=>f100_c m H' (rd.keeps (sq hH)) hn (rd2.keeps (sq hH))) ?_;rintro v (⟨hc,rfl⟩|⟨hc,rfl⟩)
 ·refine d111 ?_
  refine run_res (h) rfl Tryz.func41 rfl weakSub ?_;refine hK _ _ ?_;exact ⟨rfl,IsB.yes hc⟩
 ·refine d111 ?_
  refine run_res (h) rfl Tryz.func41 rfl weakSub ?_;refine hK _ _ ?_;exact ⟨rfl,IsB.no hc⟩
theorem f43_c (m:Md Tryz.prog B) (h:Hp) (lo hi:Int) (k:Nat) (h1:0≤lo∧lo≤hi∧hi≤100000) (hk:k≤100000000):FnC m 43 #[.agg [.int .i64 lo,.int .i64 hi].toArray,.int .i64 (k:Int)] h fun v h'=>h'=h∧v= .int .i64 (lo+((k%(hi-lo+1).toNat:Nat):Int)):=by
 refine fn_enter Tryz.func43 rfl rfl (l:=(.agg [.int .i64 lo,.int .i64 hi].toArray)::(.int .i64 (k:Int))::uu14) rfl ?_
 intro cf cs K hK
 refine rs2 ?_;refine k_box rfl zq (fun q2=>k_hp (k_put ?_));refine d12 ?_
 obtain ⟨z,hz⟩:=Int.eq_ofNat_of_zero_le (show 0≤hi-lo+1 by omega)
 have hzk:=Nat.mod_lt k (show 0<z by omega)
 refine run_draw [(0,.pure),(2,.pure),(3,.pure),(5,.pure),(1,.read),(4,.read),(6,.read),(7,.pure),(8,.pure),(9,.pure),(10,.pure),(11,.pure)] (by kernel_rfl) (by kernel_rfl) (List.Sublist.refl _) ?_;(first|refine k_fa0 rfl zq ?_|refine k_fa rfl zq ?_);refine mq rfl ?_;refine d28 ?_;refine d81 ?_;refine k_sub rfl zq (by unfold In64;omega) ?_;refine k_add rfl zq (by unfold In64;omega) ?_
 refine k_remT rfl zq (show hi-lo+1≠0 by omega) ?_;rw [show (k:Int).tmod (hi-lo+1)=((k%(hi-lo+1).toNat:Nat):Int) by rw [hz,Int.toNat_natCast];exact (Int.ofNat_tmod k z).symm];have hzk2:k%(hi-lo+1).toNat<z:=by rw [hz,Int.toNat_natCast];exact hzk
 refine d121 ?_
 refine run_res (h) rfl Tryz.func43 rfl weakSub ?_;refine hK _ _ ?_;exact ⟨rfl,rfl⟩
end Go.Proofs
namespace Go.Proofs
open Go.Lo
open Go.Conc (G)
set_option maxRecDepth 100000
set_option synthInstance.maxSize 100000
set_option synthInstance.maxHeartbeats 1000000
set_option maxHeartbeats 4000000
variable {B:Array Obj}
variable [LaidF B]
def exL:List Int:=[3,6,12]
def exK:Sk:=⟨8,10,false⟩
def exC:Fb:=addK (addT exF ⟨0,2,30,30⟩) ⟨4,7,true⟩
theorem y19:(if (0:Int)≤99∧(99:Int)≤999999 then rootI 99 else 0)=9∧(if (0:Int)≤99∧(99:Int)≤999999 then (0:Int) else 1)=0:=by decide+kernel
theorem y23:atS exF exL 8=0∧atI exF.pts exL 8=9:=by decide+kernel
theorem y25:girthS exF exL 0 2=0∧girthI exF.pts exL 0 2=15:=by decide+kernel
theorem y27:fhandS exF exL=0∧areaI exF.pts exL=180:=by decide+kernel
theorem y29:innerL exF exL=[1,4,10]:=by decide+kernel
theorem y32:spansF exF exL∧rightF exF exL:=⟨by unfold spansF;decide+kernel,by unfold rightF;decide+kernel⟩
theorem y34:fbS exF=0∧(((boatsOf exF).length:Nat):Int)=4:=by decide+kernel
theorem y36:openS exF (if 0≤(1:Int)∧(1:Int)≤((3:Nat):Int)-1 then 0 else 6)=0∧breadthsAt (boatsOf exF) 1=[6,6,7,7]:=by decide+kernel
theorem y38:openS exF (if (exF.pts.getD 0 default).h≤(8:Int)∧(8:Int)≤(exF.pts.getD (3-1) default).h then 0 else 1)=0∧minL ((boatsOf exF).map fun l=>atI exF.pts l 8)=9∧maxL ((boatsOf exF).map fun l=>atI exF.pts l 8)=10:=by decide+kernel
theorem y40:openS exF (ordS 3 1 2)=0∧minL ((boatsOf exF).map fun l=>girthI exF.pts l 1 2)=9∧maxL ((boatsOf exF).map fun l=>girthI exF.pts l 1 2)=10:=by decide+kernel
theorem y42:openS exF 0=0∧minL ((boatsOf exF).map fun l=>areaI exF.pts l)=180∧maxL ((boatsOf exF).map fun l=>areaI exF.pts l)=200:=by decide+kernel
theorem y44:openS exF (if ((exF.pts.getD 0 default).h≤(8:Int)∧(8:Int)≤(exF.pts.getD (3-1) default).h)∧0≤(10:Int)∧(10:Int)≤959 then 0 else 1)=0∧clearsI exF 8 10=0:=by decide+kernel
theorem y45:openS exF (if ((exF.pts.getD 0 default).h≤(8:Int)∧(8:Int)≤(exF.pts.getD (3-1) default).h)∧0≤(9:Int)∧(9:Int)≤959 then 0 else 1)=0∧clearsI exF 8 9=1:=by decide+kernel
theorem y46:leanL exF (boatsOf exF)=exL:=by decide+kernel
theorem y68:askAt exF=1∧askLeft exF=2:=by decide+kernel
theorem y57:stickS exF exK=0∧fbS (stickF exF exK)=0∧(((boatsOf (stickF exF exK)).length:Nat):Int)=3:=by decide+kernel
theorem y58:(stickF exF exK).pts.length=3∧(stickF exF exK).tapes.length=1∧(stickF exF exK).sticks.length=2:=by decide+kernel
theorem y53:fbS exC=0∧boatsOf exC=[]∧boatsOf (onlyI exC [])≠[]∧boatsOf (onlyI exC [0])≠[]∧boatsOf (onlyI exC [1])=[]:=by decide+kernel
theorem y54:ClashOk exC [1]:=by
 rw [ClashOk,if_neg (by rintro (e|e);exact e y53.1;exact e y53.2.1)];refine ⟨List.pairwise_singleton _ _,fun x hx=>by obtain rfl:=List.mem_singleton.1 hx;decide,y53.2.2.2.2,fun xs ha hb he hf=>?_⟩
 match xs,hf with
 |[],_=>exact y53.2.2.1 he
 |[x],.inl h=>simp at h
 |[x],.inr ⟨_,h⟩=>
  have hx:=hb x List.mem_cons_self
  unfold before at h
  by_cases e:x=1
  ·rw [if_pos e] at h
   simp [before] at h
  ·rw [if_neg e] at h
   have:=of_decide_eq_true h
   obtain rfl:x=0:=by omega
   exact y53.2.2.2.1 he
 |a::b::r,.inl h=>simp at h
 |a::b::r,.inr ⟨h,_⟩=>simp at h
theorem y55 {g:List Int} (h:ClashOk exC g):g=[1]:=clash_uniq h y54
theorem y56:gT exC [1]=[1]∧gK exC [1]=[]:=by decide+kernel
theorem y37 {ys:List Int} (h1:Asc ys) (h2: ∀z,z∈ys↔z∈breadthsAt (openL exF (openS exF (if 0≤(1:Int)∧(1:Int)≤((3:Nat):Int)-1 then 0 else 6))) (1:Int).toNat):ys=[6,7]:=by
 refine Asc.eq h1 (by unfold Asc;decide) fun z=>?_
 rw [h2,y36.1,openL,if_neg (fun e=>e rfl),show (1:Int).toNat=1 from rfl,y36.2];simp
theorem f6_c (h:Hp):FnC (Md.starS Tryz.prog B) 6 #[] h fun v h'=> ∃nw,h'=ro h++nw∧v= .bool true:=by
 refine fn_enter Tryz.func6 rfl rfl (l:=uu305) rfl ?_
 intro cf cs K hK
 refine d83 ?_;refine rs3 ?_
 refine k_calC rfl zq (by kernel_rfl) (Post:=fun v nw=>BkF B exF nw v) (fun H' hH=>f25_c _ H') ?_;rintro v nA ⟨pp,np,cp,pt,nt,ct,pk,nk,ck,rfl,rdp,rdt,rdk⟩;obtain rfl:np=3:=(rdp.elen (by decide)).symm
 obtain rfl:nt=1:=(rdt.elen (by decide)).symm
 obtain rfl:nk=1:=(rdk.elen (by decide)).symm
 refine k_hpA (k_put ?_);refine k_new rfl zq (fun q1=>k_hp (k_put ?_));refine d48 ?_;refine rs2 ?_
 refine k_bs kdq rfl zq (by decide) (by decide) rfl (fun q44=>k_hp (k_put ?_));refine aq rfl ?_;refine rs6 ?_
 have rdl:RdS B [⟨true,q44,.cells [.int .i64 3,.int .i64 6,.int .i64 12].toArray 3 (0,0)⟩] 1 (.slice (some ⟨q44,0,none⟩) 3 3) 3 (ints exL):=(OwnS.full (t:=3) (q:=q44) (cs:=ints exL) rfl).rd (List.Sublist.refl _)
 refine k_calP (Post:=fun v=>v= .tuple [.int .i64 9,.int .i64 0].toArray) rfl zq (by kernel_rfl) (fun H' hH=>by have:=f26_c (Md.starS Tryz.prog B) H' 99;rw [y19.1,y19.2] at this;exact this) ?_;rintro v rfl;refine d137 ?_;refine rs8 ?_;refine d71 ?_
 refine k_calP (Post:=fun v=>v= .tuple [.int .i64 9,.int .i64 0].toArray) rfl zq (by kernel_rfl) (fun H' hH=>by have:=f8_c (Md.starS Tryz.prog B) H' (b:=exF) (xs:=exL) (rdp.keeps (sq hH)) (by decide) (rdt.keeps (sq hH)) (by decide) (rdk.keeps (sq hH)) (by decide) (rdl.keeps (sq hH)) (by decide) 8;rw [orNo_yes y23.1,y23.2] at this;exact this) ?_;rintro v rfl;refine d137 ?_;refine rs8 ?_;refine d71 ?_
 refine k_calP (Post:=fun v=>v= .tuple [.int .i64 15,.int .i64 0].toArray) rfl zq (by kernel_rfl) (fun H' hH=>by have:=f27_c (Md.starS Tryz.prog B) H' (b:=exF) (xs:=exL) (rdp.keeps (sq hH)) (by decide) (rdt.keeps (sq hH)) (by decide) (rdk.keeps (sq hH)) (by decide) (rdl.keeps (sq hH)) (by decide) 0 2;rw [orNo_yes y25.1,y25.2] at this;exact this) ?_;rintro v rfl;refine d137 ?_;refine rs8 ?_;refine d71 ?_
 refine k_calP (Post:=fun v=>v= .tuple [.int .i64 180,.int .i64 0].toArray) rfl zq (by kernel_rfl) (fun H' hH=>by have:=f28_c (Md.starS Tryz.prog B) H' (b:=exF) (xs:=exL) (rdp.keeps (sq hH)) (by decide) (rdt.keeps (sq hH)) (by decide) (rdk.keeps (sq hH)) (by decide) (rdl.keeps (sq hH)) (by decide);rw [orNo_yes y27.1,y27.2] at this;exact this) ?_;rintro v rfl;refine d137 ?_;refine rs8 ?_;refine d71 ?_
 refine k_calC rfl zq (by kernel_rfl) (Post:=fun v new=> ∃w,v= .tuple [w,.int .i64 (fhandS exF exL)].toArray∧RdI B new w (if fhandS exF exL≠0 then [] else innerL exF exL)) (fun H' hH=>f29_c _ H' (b:=exF) (xs:=exL) (rdp.keeps (sq hH)) (by decide) (rdt.keeps (sq hH)) (by decide) (rdk.keeps (sq hH)) (by decide) (rdl.keeps (sq hH)) (by decide)) ?_;rintro v n29 ⟨w29,rfl,hw29⟩;refine k_hpA (k_put ?_);rw [if_neg (fun e=>e y27.1),y29] at hw29
 rw [y27.1];obtain ⟨p29,c29,rfl,r29⟩:=hw29
 refine d42 ?_;refine d47 ?_;refine rs8 ?_;refine d71 ?_
 refine k_calP (Post:=fun v=> ∃w,v= .tuple [w,.int .i64 (fhandS exF exL)].toArray∧IsB (fhandS exF exL=0∧spansF exF exL∧rightF exF exL) w) rfl zq (by kernel_rfl) (fun H' hH=>f30_c _ H' (b:=exF) (xs:=exL) (rdp.keeps (sq hH)) (by decide) (rdt.keeps (sq hH)) (by decide) (rdk.keeps (sq hH)) (by decide) (rdl.keeps (sq hH)) (by decide)) ?_;rintro v ⟨w32,rfl,hw32⟩;obtain rfl:=isB_true hw32 ⟨y27.1,y32⟩
 rw [y27.1];refine d137 ?_;refine rs7 ?_;refine k_ldA rfl zq ?_
 refine k_calP (Post:=fun v=>v= .tuple [.int .i64 4,.int .i64 0].toArray) rfl zq (by kernel_rfl) (fun H' hH=>by have:=f31_c (Md.starS Tryz.prog B) H' (b:=exF) (rdp.keeps (sq hH)) (by decide) (rdt.keeps (sq hH)) (by decide) (rdk.keeps (sq hH)) (by decide);rw [orNo_yes y34.1,y34.2] at this;exact this) ?_;rintro v rfl;refine d137 ?_;refine rs7 ?_;refine k_ldA rfl zq ?_
 refine k_calC rfl zq (by kernel_rfl) (Post:=fun v new=> ∃w ys,v= .tuple [w,.int .i64 (openS exF (if 0≤(1:Int)∧(1:Int)≤((3:Nat):Int)-1 then 0 else 6))].toArray∧OwnS 3 1 w ys.length (ints ys) new∧Asc ys∧ ∀z,z∈ys↔z∈breadthsAt (openL exF (openS exF (if 0≤(1:Int)∧(1:Int)≤((3:Nat):Int)-1 then 0 else 6))) (1:Int).toNat) (fun H' hH=>f32_c _ H' (b:=exF) (rdp.keeps (sq hH)) (by decide) (rdt.keeps (sq hH)) (by decide) (rdk.keeps (sq hH)) (by decide) 1) ?_;rintro v n36 ⟨w36,ys36,rfl,o36,ha36,hm36⟩;refine k_hpA (k_put ?_);obtain rfl:=y37 ha36 hm36
 rw [y36.1];obtain ⟨p36,c36,rfl,_,r36⟩:=own_rdA (B:=B) o36
 refine d42 ?_;refine d47 ?_;refine d150 ?_
 refine k_calP (Post:=fun v=>v= .tuple [.agg [.int .i64 9,.int .i64 10].toArray,.int .i64 0].toArray) rfl zq (by kernel_rfl) (fun H' hH=>by have:=f33_c (Md.starS Tryz.prog B) H' (b:=exF) (rdp.keeps (sq hH)) (by decide) (rdt.keeps (sq hH)) (by decide) (rdk.keeps (sq hH)) (by decide) 8;rw [spanT_yes y38.1,y38.2.1,y38.2.2] at this;exact this) ?_;rintro v rfl;refine d78 ?_
 refine k_new rfl zq (fun q19=>k_hp (k_put ?_));refine k_stA rfl zq rfl ?_;refine aq rfl ?_;refine d150 ?_;refine k_calP (Post:=fun v=>v= .tuple [.agg [.int .i64 9,.int .i64 10].toArray,.int .i64 0].toArray) rfl zq (by kernel_rfl) (fun H' hH=>by have:=f34_c (Md.starS Tryz.prog B) H' (b:=exF) (rdp.keeps (sq hH)) (by decide) (rdt.keeps (sq hH)) (by decide) (rdk.keeps (sq hH)) (by decide) 1 2;rw [spanT_yes y40.1,y40.2.1,y40.2.2] at this;exact this) ?_;rintro v rfl;refine d78 ?_
 refine k_new rfl zq (fun q21=>k_hp (k_put ?_));refine k_stA rfl zq rfl ?_;refine aq rfl ?_;refine d150 ?_;refine k_calP (Post:=fun v=>v= .tuple [.agg [.int .i64 180,.int .i64 200].toArray,.int .i64 0].toArray) rfl zq (by kernel_rfl) (fun H' hH=>by have:=f35_c (Md.starS Tryz.prog B) H' (b:=exF) (rdp.keeps (sq hH)) (by decide) (rdt.keeps (sq hH)) (by decide) (rdk.keeps (sq hH)) (by decide);rw [spanT_yes y42.1,y42.2.1,y42.2.2] at this;exact this) ?_;rintro v rfl;refine d78 ?_
 refine k_new rfl zq (fun q23=>k_hp (k_put ?_));refine k_stA rfl zq rfl ?_;refine aq rfl ?_;refine rs7 ?_;refine k_ldA rfl zq ?_;refine k_calP (Post:=fun v=>v= .tuple [.int .i64 0,.int .i64 0].toArray) rfl zq (by kernel_rfl) (fun H' hH=>by have:=f36_c (Md.starS Tryz.prog B) H' (b:=exF) (rdp.keeps (sq hH)) (by decide) (rdt.keeps (sq hH)) (by decide) (rdk.keeps (sq hH)) (by decide) 8 10;rw [orNo_yes y44.1,y44.2] at this;exact this) ?_;rintro v rfl;refine d137 ?_;refine rs7 ?_;refine k_ldA rfl zq ?_
 refine k_calP (Post:=fun v=>v= .tuple [.int .i64 1,.int .i64 0].toArray) rfl zq (by kernel_rfl) (fun H' hH=>by have:=f36_c (Md.starS Tryz.prog B) H' (b:=exF) (rdp.keeps (sq hH)) (by decide) (rdt.keeps (sq hH)) (by decide) (rdk.keeps (sq hH)) (by decide) 8 9;rw [orNo_yes y45.1,y45.2] at this;exact this) ?_;rintro v rfl;refine d137 ?_;refine rs9 ?_;refine k_ldA rfl zq ?_
 refine k_calC rfl zq (by kernel_rfl) (Post:=fun v new=> ∃w,v= .tuple [w,.int .i64 (if openS exF 0≠0 then 0 else areaI exF.pts (leanL exF (boatsOf exF))),.int .i64 (openS exF 0)].toArray∧RdI B new w (if openS exF 0≠0 then [] else leanL exF (boatsOf exF))) (fun H' hH=>f37_c _ H' (b:=exF) (rdp.keeps (sq hH)) (by decide) (rdt.keeps (sq hH)) (by decide) (rdk.keeps (sq hH)) (by decide)) ?_;rintro v n46 ⟨w46,rfl,hw46⟩;refine k_hpA (k_put ?_);rw [if_neg (fun e=>e y42.1),y46] at hw46
 rw [if_neg (fun e=>e y42.1),y46,y27.2,y42.1];obtain ⟨p46,c46,rfl,r46⟩:=hw46
 refine d42 ?_;refine k_ext2 rfl zq ?_;refine k_as rfl zq ?_;refine d47 ?_;refine rs9 ?_;refine k_ldA rfl zq ?_
 refine k_calP (Post:=fun v=>v= .tuple [.int .i64 1,.int .i64 2,.int .i64 0].toArray) rfl zq (by kernel_rfl) (fun H' hH=>by have:=f38_c (Md.starS Tryz.prog B) H' (b:=exF) (rdp.keeps (sq hH)) (by decide) (rdt.keeps (sq hH)) (by decide) (rdk.keeps (sq hH)) (by decide);rw [y68.1,y68.2,y42.1] at this;exact this) ?_;rintro v rfl;refine d78 ?_;refine k_ext2 rfl zq ?_;refine k_as rfl zq ?_;refine d47 ?_;refine rs9 ?_;refine d133 ?_
 refine k_calC rfl zq (by kernel_rfl) (Post:=fun v new=> ∃w,v= .tuple [w,.int .i64 (stickS exF exK)].toArray∧BkF B (stickF exF exK) new w) (fun H' hH=>f14_c _ H' (b:=exF) (rdp.keeps (sq hH)) (by decide) (rdt.keeps (sq hH)) (by decide) (rdk.keeps (sq hH)) (by decide) exK) ?_;rintro v n57 ⟨w57,rfl,pp5,np5,cp5,pt5,nt5,ct5,pk5,nk5,ck5,rfl,rdp5,rdt5,rdk5⟩;refine k_hpA (k_put ?_);rw [y57.1];obtain rfl:np5=3:=(rdp5.elen (by decide)).symm.trans y58.1
 obtain rfl:nt5=1:=(rdt5.elen (by decide)).symm.trans y58.2.1
 obtain rfl:nk5=2:=(rdk5.elen (by decide)).symm.trans y58.2.2
 refine d42 ?_
 refine k_new rfl zq (fun q35=>k_hp (k_put ?_));refine k_stA rfl zq rfl ?_;refine aq rfl ?_;refine rs7 ?_;refine k_ldA rfl zq ?_;refine k_calP (Post:=fun v=>v= .tuple [.int .i64 3,.int .i64 0].toArray) rfl zq (by kernel_rfl) (fun H' hH=>by have:=f31_c (Md.starS Tryz.prog B) H' (b:=stickF exF exK) (rdp5.keeps (sq hH)) (by decide) (rdt5.keeps (sq hH)) (by decide) (rdk5.keeps (sq hH)) (by decide);rw [orNo_yes y57.2.1,y57.2.2] at this;exact this) ?_;rintro v rfl;refine d78 ?_;refine d99 ?_
 refine run_draw [(4,.pure),(0,.read),(1,.call),(2,.pure),(3,.call),(5,.call),(6,.alloc),(7,.free)] (by kernel_rfl) (by kernel_rfl) (List.Sublist.refl _) ?_;refine k_bld rfl zq ?_;refine k_ldA rfl zq ?_;refine k_calP (Post:=fun v=>v=_) rfl zq (by kernel_rfl) (fun H' hH=>f9_c _ H' _) ?_;rintro v rfl;refine k_put ?_;refine k_bld rfl zq ?_;refine k_calC rfl zq (by kernel_rfl) (Post:=fun v nw=> ∃rp rc,v=fbV (addT exF ⟨0,2,30,30⟩) pp 3 cp rp (1+1) rc pk 1 ck∧RdS B nw 4 (.slice rp (1+1) rc) (1+1) (encs (addT exF ⟨0,2,30,30⟩).tapes)) (fun H' hH=>f39_c _ H' (b:=exF) (rdt.keeps (sq hH)) (by decide) ⟨0,2,30,30⟩) ?_;rintro v n78 ⟨pt7,ct7,rfl,rdt7⟩;refine k_hpA (k_put ?_);refine k_calC rfl zq (by kernel_rfl) (Post:=fun v nw=> ∃rp rc,v=fbV exC pp 3 cp pt7 (1+1) ct7 rp (1+1) rc∧RdS B nw 3 (.slice rp (1+1) rc) (1+1) (encs exC.sticks)) (fun H' hH=>f16_c _ H' (b:=addT exF ⟨0,2,30,30⟩) (rdk.keeps (sq hH)) (by decide) ⟨4,7,true⟩) ?_;rintro v n59 ⟨pk8,ck8,rfl,rdk8⟩;refine k_hpA (k_put ?_);refine k_new rfl zq (fun q39=>k_hp (k_put ?_));refine d48 ?_;refine rs9 ?_;refine k_ldA rfl zq ?_
 refine k_cal rfl zq (by kernel_rfl) (f40_c _ (b:=exC) (rdp.keeps SubH.sub) (by decide) (rdt7.keeps SubH.sub) (by decide) (rdk8.keeps SubH.sub) (by decide)) ?_;rintro v h' ⟨nC,rfl,wT,wK,gg,rfl,⟨pT,cT,rfl,rdT⟩,⟨pK,cK,rfl,rdK⟩,okC⟩;refine k_put ?_;obtain rfl:=y55 okC
 rw [y53.1,y56.1,y56.2] at*
 refine d42 ?_;refine k_ext2 rfl zq ?_;refine k_as rfl zq ?_;refine d99 ?_;refine run_seq ?_
 refine run_region [(0,.free),(1,.free),(2,.free),(3,.free),(4,.free),(5,.free),(6,.free),(7,.free),(8,.free),(9,.free),(10,.free),(11,.free),(12,.free),(13,.free),(14,.free),(15,.free),(16,.free),(17,.free),(18,.free),(19,.free),(20,.free),(21,.free),(22,.free),(23,.free),(24,.free),(25,.free),(26,.free),(27,.free),(28,.free),(29,.free),(30,.free),(31,.free),(32,.free),(33,.free),(34,.free),(35,.free),(36,.free),(37,.free),(38,.free),(39,.free),(40,.free),(41,.free),(42,.free),(43,.free),(44,.free),(45,.free),(46,.free),(47,.free),(48,.free),(49,.free),(50,.free),(51,.free),(52,.free),(53,.free),(54,.free),(55,.free),(56,.free),(57,.free),(58,.free),(59,.free),(60,.free),(61,.free),(62,.free),(63,.free),(64,.free),(65,.free),(66,.free),(67,.free),(68,.free),(69,.free)] (by kernel_rfl) (by kernel_rfl) ?_;refine mq rfl ?_;refine k_neqF rfl zq (by decide) ?_;refine d89 ?_;refine d89 ?_;refine d89 ?_;refine d89 ?_;refine d89 ?_;refine d89 ?_;refine d89 ?_;refine d89 ?_;refine d89 ?_;refine d89 ?_;refine d89 ?_;refine d89 ?_;refine d89 ?_;refine d89 ?_;refine d89 ?_;refine d89 ?_;refine d89 ?_;refine d38 ?_;refine run_seq ?_
 refine run_draw [(0,.pure),(1,.pure),(2,.pure),(3,.pure),(4,.pure),(5,.pure),(6,.pure),(7,.pure),(8,.pure),(9,.pure),(10,.pure),(11,.pure),(12,.pure),(13,.pure),(14,.pure),(15,.pure),(16,.keep),(17,.keep),(18,.pure),(19,.pure),(20,.pure),(21,.pure),(22,.pure),(23,.pure),(24,.pure),(25,.pure),(26,.pure),(27,.pure),(28,.pure),(29,.pure),(30,.keep),(31,.keep),(32,.pure),(33,.pure),(34,.pure),(35,.read),(36,.keep),(37,.pure),(38,.pure),(39,.pure),(40,.read),(41,.keep),(42,.pure),(43,.pure),(44,.pure),(45,.read),(46,.keep),(47,.pure),(48,.pure)] (by kernel_rfl) (by kernel_rfl) (List.Sublist.refl _) ?_;refine mq rfl ?_;refine k_neqF rfl zq (by decide) ?_;refine d89 ?_;refine d89 ?_;refine d89 ?_;refine d23 ?_
 refine k_bs kdq rfl rfl (by decide) (by decide) rfl (fun q235=>k_hp (k_put ?_));have rd235:RdS B [⟨true,q235,.cells [.int .i64 1,.int .i64 4,.int .i64 10].toArray 3 (0,0)⟩] 1 (.slice (some ⟨q235,0,none⟩) 3 3) 3 (ints [1,4,10]):=(OwnS.full (t:=3) (q:=q235) (cs:=ints [1,4,10]) rfl).rd (List.Sublist.refl _)
 refine k_calP (Post:=fun v=>IsB _ v) rfl rfl (by kernel_rfl) (fun H' hH=>f41_c _ H' (r29.ro.keeps (sq hH)) (by decide) (rd235.keeps (sq hH))) ?_;rintro v (⟨hc,rfl⟩|⟨hc,rfl⟩)
 ·refine d85 ?_;refine k_pickF rfl zq ?_;refine d23 ?_;refine k_notT rfl rfl ?_;refine k_pickF rfl zq ?_;refine d89 ?_;refine d23 ?_
  refine k_bs kdq rfl rfl (by decide) (by decide) rfl (fun q249=>k_hp (k_put ?_));have rd249:RdS B [⟨true,q249,.cells [.int .i64 6,.int .i64 7].toArray 3 (0,0)⟩] 1 (.slice (some ⟨q249,0,none⟩) 2 2) 2 (ints [6,7]):=(OwnS.full (t:=3) (q:=q249) (cs:=ints [6,7]) rfl).rd (List.Sublist.refl _)
  refine k_calP (Post:=fun v=>IsB _ v) rfl rfl (by kernel_rfl) (fun H' hH=>f41_c _ H' (r36.ro.keeps (sq hH)) (by decide) (rd249.keeps (sq hH))) ?_;rintro v (⟨hc,rfl⟩|⟨hc,rfl⟩)
  ·refine d85 ?_;refine k_pickF rfl zq ?_;refine d130 ?_
   refine k_calP (Post:=fun v=>v=_) rfl rfl (by kernel_rfl) (fun H' hH=>f42_c _ H' _ _) ?_;rintro v rfl;refine k_put ?_;refine k_neq2F (hg:=by kernel_rfl) rfl rfl (by decide) ?_;refine k_pickF rfl zq ?_;refine d130 ?_;refine k_calP (Post:=fun v=>v=_) rfl rfl (by kernel_rfl) (fun H' hH=>f42_c _ H' _ _) ?_;rintro v rfl;refine k_put ?_;refine k_neq2F (hg:=by kernel_rfl) rfl rfl (by decide) ?_;refine k_pickF rfl zq ?_;refine d130 ?_;refine k_calP (Post:=fun v=>v=_) rfl rfl (by kernel_rfl) (fun H' hH=>f42_c _ H' _ _) ?_;rintro v rfl;refine k_put ?_;refine k_neq2F (hg:=by kernel_rfl) rfl rfl (by decide) ?_;refine k_pickF rfl zq ?_;refine d38 ?_;refine run_region [(0,.free),(1,.free),(2,.free),(3,.free),(4,.free),(5,.free),(6,.free),(7,.free),(8,.free),(9,.free),(10,.free),(11,.free),(12,.free),(13,.free),(14,.free),(15,.free),(16,.free),(17,.free),(18,.free),(19,.free),(20,.free),(21,.free),(22,.free),(23,.free),(24,.free),(25,.free),(26,.free),(27,.free),(28,.free),(29,.free),(30,.free),(31,.free),(32,.free),(33,.free),(34,.free),(35,.free),(36,.free),(37,.free)] (by kernel_rfl) (by kernel_rfl) ?_;refine mq rfl ?_;refine k_eqlT rfl zq (by decide) ?_;refine d23 ?_;refine d117 ?_;refine d23 ?_
   refine k_bs kdq rfl rfl (by decide) (by decide) rfl (fun q276=>k_hp (k_put ?_));have rd276:RdS B [⟨true,q276,.cells [.int .i64 3,.int .i64 6,.int .i64 12].toArray 3 (0,0)⟩] 1 (.slice (some ⟨q276,0,none⟩) 3 3) 3 (ints [3,6,12]):=(OwnS.full (t:=3) (q:=q276) (cs:=ints [3,6,12]) rfl).rd (List.Sublist.refl _)
   refine k_calP (Post:=fun v=>IsB _ v) rfl rfl (by kernel_rfl) (fun H' hH=>f41_c _ H' (r46.ro.keeps (sq hH)) (by decide) (rd276.keeps (sq hH))) ?_;rintro v (⟨hc,rfl⟩|⟨hc,rfl⟩)
   ·refine d129 ?_;refine d23 ?_;refine d117 ?_;refine d23 ?_;refine d117 ?_;refine d23 ?_;refine d117 ?_;refine d23 ?_;refine d117 ?_;refine d23 ?_
    refine k_bs kdq rfl rfl (by decide) (by decide) rfl (fun q297=>k_hp (k_put ?_));have rd297:RdS B [⟨true,q297,.cells [.int .i64 1].toArray 3 (0,0)⟩] 1 (.slice (some ⟨q297,0,none⟩) 1 1) 1 (ints [1]):=(OwnS.full (t:=3) (q:=q297) (cs:=ints [1]) rfl).rd (List.Sublist.refl _)
    refine k_calP (Post:=fun v=>IsB _ v) rfl rfl (by kernel_rfl) (fun H' hH=>f41_c _ H' (rdT.keeps (sq hH)) (by decide) (rd297.keeps (sq hH))) ?_;rintro v (⟨hc,rfl⟩|⟨hc,rfl⟩)
    ·refine d129 ?_;refine d23 ?_;refine k_len rfl rfl ?_;refine k_eqlT rfl rfl (by decide) ?_;refine d82 ?_
     refine run_res (ro h) rfl Tryz.func6 rfl weakSub ?_;refine hK _ _ ?_;exact ⟨[],by simp,rfl⟩
    ·refine k_put ?_;exact absurd rfl hc
   ·refine k_put ?_;exact absurd rfl hc
  ·refine k_put ?_;exact absurd rfl hc
 ·refine k_put ?_;exact absurd rfl hc
end Go.Proofs
namespace Go.Proofs
open Go.Lo
open Go.Conc (G)
set_option maxRecDepth 100000
set_option synthInstance.maxSize 100000
set_option synthInstance.maxHeartbeats 1000000
set_option maxHeartbeats 4000000
variable {b:Fb} {pp:Option Addr} {np cp:Nat} {pt:Option Addr} {nt ct:Nat} {pk:Option Addr} {nk ck:Nat}
variable {B:Array Obj}
variable [LaidF B]
abbrev u16s (zs:List Int):List Value:=zs.map (Value.int .u16)
theorem u16_at {zs:List Int} {k:Nat} (h:k<zs.length):(u16s zs).getD k undef= .int .u16 (zs.getD k 0):=by
 rw [List.getD_eq_getElem?_getD,List.getD_eq_getElem?_getD,List.getElem?_map,List.getElem?_eq_getElem h];rfl
theorem getD_sn (l:List Int) (x:Int) (i:Nat):(l++[x]).getD i 0=if i<l.length then l.getD i 0 else if i=l.length then x else 0:=by
 rw [List.getD_eq_getElem?_getD,List.getD_eq_getElem?_getD,List.getElem?_append];split
 ·rfl
 ·split
  ·rename_i h1 h2
   subst h2
   simp
  ·rename_i h1 h2
   rw [List.getElem?_eq_none (by simp;omega)];rfl
theorem _root_.Go.Lo.PtsOk.span {pts:List Pt} (k:PtsOk pts) {i:Nat} (hi:i<pts.length):0≤(pts.getD i default).lo∧(pts.getD i default).lo≤(pts.getD i default).hi∧(pts.getD i default).hi≤959:=(k.ok _ (mem_getDR.2 ⟨i,hi,rfl⟩)).2.1
theorem f5_c (m:Md Tryz.prog B) (h:Hp) (rdp:Rp B h b pp np cp) (rdt:Rt B h b pt nt ct) (rdk:Rk B h b pk nk ck):FnC m 5 #[fbV b pp np cp pt nt ct pk nk ck] h fun v h'=>h'=h∧IsB (np≤20∧nt≤20∧nk≤20∧fbS b=0) v:=by
 refine fn_enter Tryz.func5 rfl rfl (l:=(fbV b pp np cp pt nt ct pk nk ck)::uu10) rfl ?_
 intro cf cs K hK
 refine rs2 ?_;refine k_box rfl zq (fun q1=>k_hp (k_put ?_));refine aq rfl ?_;refine rs9 ?_;refine k_ldA rfl zq ?_
 refine k_calP (Post:=fun v=>IsB _ v) rfl zq (by kernel_rfl) (fun H' hH=>f24_c m H') ?_;rintro v (⟨hc,rfl⟩|⟨hc,rfl⟩)
 ·refine d40 ?_;refine d52 ?_;refine d63 ?_;refine d0 ?_
  refine run_res (h) rfl Tryz.func5 rfl weakSub ?_;refine hK _ _ ?_;first|exact ⟨rfl,IsB.yes ⟨by omega,by omega,by omega,by omega⟩⟩|exact ⟨rfl,IsB.no (by omega)⟩
 ·refine d41 ?_;refine d130 ?_
  refine k_calP (Post:=fun v=>v=_) rfl rfl (by kernel_rfl) (fun H' hH=>f17_c m H' (rdp.keeps (sq hH)) (by omega) (rdt.keeps (sq hH)) (by omega) (rdk.keeps (sq hH)) (by omega)) ?_;rintro v rfl;refine k_put ?_;refine k_eqlS rfl rfl (fun hc=>?_) (fun hc=>?_)
  ·refine d82 ?_
   refine run_res (h) rfl Tryz.func5 rfl weakSub ?_;refine hK _ _ ?_;first|exact ⟨rfl,IsB.yes ⟨by omega,by omega,by omega,by omega⟩⟩|exact ⟨rfl,IsB.no (by omega)⟩
  ·refine d82 ?_
   refine run_res (h) rfl Tryz.func5 rfl weakSub ?_;refine hK _ _ ?_;first|exact ⟨rfl,IsB.yes ⟨by omega,by omega,by omega,by omega⟩⟩|exact ⟨rfl,IsB.no (by omega)⟩
theorem f19_c (m:Md Tryz.prog B) (h:Hp) {p:Option Addr} {n c:Nat} {zs:List Int} (rd:RdS B h 1 (.slice p n c) n (u16s zs)) (hz: ∀z∈zs,0≤z∧z≤65535) (k:Nat):FnC m 19 #[.slice p n c,.int .i64 (k:Int)] h fun v h'=>h'=h∧ ∃z:Nat,z≤65535∧v= .int .i64 (z:Int):=by
 refine fn_enter Tryz.func19 rfl rfl (l:=(.slice p n c)::(.int .i64 (k:Int))::uu16) rfl ?_
 intro cf cs K hK
 refine d69 ?_;refine rs8 ?_;refine mq rfl ?_
 refine k_geqS rfl zq (fun hc=>?_) (fun hc=>?_)
 ·refine d23 ?_;refine k_mv rfl rfl ?_;refine k_len rfl rfl ?_
  refine k_lssS rfl rfl (fun hc=>?_) (fun hc=>?_)
  ·refine k_pickT rfl zq ?_;refine d7 ?_;refine rs6 ?_;refine d3 ?_;have hzl:zs.length=n:=by have:=rd.len;simpa using this
   obtain ⟨pb,po,rfl⟩:=rd.ptr (by omega)
   refine k_ixs rfl zq (by first|rfl|assumption) (by omega) (by omega) ?_;have hzk:=getD_all hz (k:=k) (by omega)
   refine k_ld rfl zq (u16_at (zs:=zs) (k:=k) (by omega)▸rd.vat k (by omega) (by omega)) ?_;refine k_conv rfl zq (by kernel_rfl) (n':=zs.getD k 0) (by generalize zs.getD k 0=gz at hzk⊢;unfold IntKind.wrap;simp [IntKind.bits,IntKind.signed];omega) ?_;refine d0 ?_
   refine run_res (h) rfl Tryz.func19 rfl weakSub ?_;refine hK _ _ ?_;exact ⟨rfl,(zs.getD k 0).toNat,by omega,by rw [Int.toNat_of_nonneg (by omega)]⟩
  ·refine k_pickT rfl zq ?_;refine d13 ?_;refine d37 ?_;refine run_res (h) rfl Tryz.func19 rfl weakSub ?_;refine hK _ _ ?_;exact ⟨rfl,0,by omega,rfl⟩
 ·exact absurd hc (by omega)
theorem f7_c (m:Md Tryz.prog B) (h:Hp) (rdp:Rp B h b pp np cp) (hp:np≤1000) (hv:FOk b) {p:Option Addr} {n c:Nat} {zs:List Int} (rd:RdS B h 1 (.slice p n c) n (u16s zs)) (hz: ∀z∈zs,0≤z∧z≤65535):FnC m 7 #[fbV b pp np cp pt nt ct pk nk ck,.slice p n c] h fun v h'=> ∃new,h'=h++new∧ ∃ln,OwnS 3 1 v ln.length (ints ln) new∧ln.length=b.pts.length∧spansF b ln:=by
 have hml:=rdp.elen (by decide)
 refine fn_enter Tryz.func7 rfl rfl (l:=(fbV b pp np cp pt nt ct pk nk ck)::(.slice p n c)::uu26) rfl ?_
 intro cf cs K hK
 refine rs2 ?_;refine k_box rfl zq (fun q2=>k_hp (k_put ?_));refine aq rfl ?_;refine d69 ?_;refine d135 ?_
 refine run_loop (fun nn l h'=> ∃(k:Nat) (w:Value) (new:Hp) (ln:List Int),nn=np-k∧(k≤np)∧(ln.length=k)∧(OwnS 3 1 w k (ints ln) new)∧(∀i,i<k→(b.pts.getD i default).lo≤ln.getD i 0∧ln.getD i 0≤(b.pts.getD i default).hi)∧(∃U:Nat→Value,l=((fbV b pp np cp pt nt ct pk nk ck)::(.slice p n c)::(.pointer (some ⟨q2,0,none⟩))::(U 3)::(U 4)::w::(.int .i64 (k:Int))::vw21 U 7 []))∧h++[⟨true,q2,.cells ((fbL b pp np cp pt nt ct pk nk ck).toArray) 26 (0,0)⟩]++new=h') _ ⟨0,_,[],[],rfl,by omega,rfl,OwnS.nil,fun i hi=>by omega,exU rfl,(by simp)⟩ ?_;rintro nn l h' ⟨k,w,new,ln,rfl,hk,hll,ho,hla,⟨U,rfl⟩,rfl⟩ hnext;refine run_seq ?_;refine d140 ?_;refine d106 ?_;refine k_lssS rfl zq (fun hc=>?_) (fun hc=>?_)
 ·refine d94 ?_
  refine run_draw [(0,.pure),(1,.pure),(3,.pure),(7,.pure),(8,.pure),(2,.read),(4,.pure),(5,.pure),(6,.read),(9,.keep),(10,.keep),(11,.keep),(12,.free),(13,.pure)] (by kernel_rfl) (by kernel_rfl) (List.Sublist.refl _) ?_;refine mq rfl ?_;(first|refine k_fa0 rfl zq ?_|refine k_fa rfl zq ?_);refine d3 ?_;refine mq rfl ?_;refine k_ldh rfl zq ?_
  obtain ⟨rdp_b,rdp_o,rfl⟩:=rdp.ptr (by omega)
  refine d18 ?_
  refine k_ldN (vs:=[.int .i64 (b.pts.getD k default).lo,.int .i64 (b.pts.getD k default).hi]) rfl zq rfl (rdp.eatF k 1 (by omega) (by omega) rfl) ?_;refine k_calP (Post:=fun v=> ∃z:Nat,z≤65535∧v= .int .i64 (z:Int)) rfl zq (by kernel_rfl) (fun H' hH=>f19_c m H' (rd.keeps (sq hH)) hz k) ?_;rintro v ⟨zz,hzz,rfl⟩;refine k_put ?_;have hmk:=hv.pts.span (i:=k) (by omega)
  refine k_calP (Post:=fun v=>v=_) rfl zq (by kernel_rfl) (fun H' hH=>f43_c m H' _ _ zz (by omega) (by omega)) ?_;rintro v rfl;refine k_put ?_;have hz7:=Nat.mod_lt zz (show 0<((b.pts.getD k default).hi-(b.pts.getD k default).lo+1).toNat by omega)
  refine k_bs kdq rfl zq (by decide) (by decide) rfl (fun q25=>k_hp (k_put ?_));refine k_app1 (F:=h++[⟨true,q2,.cells ((fbL b (some ⟨rdp_b,rdp_o,none⟩) np cp pt nt ct pk nk ck).toArray) 26 (0,0)⟩]) rfl zq rfl ho kdq (by omega) (by omega) (fun w2 new2 ho2=>k_put ?_);rw [show ints ln++[Value.int .i64 ((b.pts.getD k default).lo+((zz%((b.pts.getD k default).hi-(b.pts.getD k default).lo+1).toNat:Nat):Int))]=ints (ln++[(b.pts.getD k default).lo+((zz%((b.pts.getD k default).hi-(b.pts.getD k default).lo+1).toNat:Nat):Int)]) by simp] at ho2
  refine d45 ?_;refine rr3 ?_;refine d59 ?_
  exact m.weak weakSub (hnext _ _ _ (by omega) ⟨k+1,_,_,_,rfl,by omega,by simp;omega,ho2,fun i hi=>by
   rw [getD_sn,hll];by_cases e:i<k
   ·rw [if_pos e];exact hla i e
   ·rw [if_neg e,if_pos (by omega),show i=k by omega];omega,exU rfl,rfl⟩)
 ·refine d67 ?_;refine d95 ?_
  refine run_res (h++new) rfl Tryz.func7 rfl weakSub ?_;refine hK _ _ ?_;have hkk:k=ln.length:=hll.symm
  subst hkk
  exact ⟨_,rfl,ln,ho,by omega,hla⟩
end Go.Proofs
namespace Go.Proofs.Bt
open Go.Proofs
open Go.Lo
open Go.Conc (G)
set_option maxRecDepth 100000
set_option synthInstance.maxSize 100000
set_option synthInstance.maxHeartbeats 1000000
set_option maxHeartbeats 4000000
variable {B:Array Obj}
class Laid (B:Array Obj):Prop where
 eq: ∃t f,B[1]?=some (.cells [.func (.func 220) #[] #[],.func (.func 221) #[] #[],.func (.func 222) #[] #[]].toArray t f)
variable [Laid B]
end Go.Proofs.Bt
namespace Go.Proofs.YtgplnpdblmcdoaaGreatDoor
open Go Go.Lo Go.ChangeShapes Go.WideShapes Go.ChangeAt Go.RowKit Go.Conc
set_option maxRecDepth 100000
theorem tied_goes_at (Lk:Looks) {p:Pinned} {s:OpenSpec} {k:StoodClaim8} {ks:List StandKind} (kinds:List LaidKind) (tests:Bool) (h:Claim7.holdsNew p (.plain s) {stood:=k,kinds:=ks}) (hw:k.row.wfByText s=true):
  Claim7.holdsNew p (.plain s) {stood:=k,kinds:=ks,goes:=true,laidByText:=true,laidKinds:=kinds,laidTests:=tests,laidLooks:=Lk}:=by
 obtain ⟨_,rest⟩:=h
 exact ⟨hw,rest⟩
theorem card_of (Lk:Looks) {p:Pinned} {s:OpenSpec} {c:OpenClaim} (kinds:List LaidKind) (tests:Bool) (har:Bool×String) (lk:Bool)
  (hc:c.holds p s) (hw:c.wfByText s=true) (htie:c.laidByTextAt Lk p kinds tests)
  (hst:c.start= .entering) (hnb:c.noBlocks=false∧c.again=false) (hm:p.checked.prog.mainIs=some (har.1,har.2.toList)) (hn:(!har.1&&har.2.isEmpty&&!lk)=false)
  (hl: ∀f fn,p.checked.prog.funcNamed c.func=some f→p.checked.prog.funcs[f]?=some fn→lk=p.checked.prog.looks []∧ ∀(j:Nat) t,fn.params[j]?=some t→p.checked.prog.wantsStandIn t=false)
  (hg:true=c.goesBy p.checked.prog):
  Claim7.holds p (.plain s) {stood:={row:=c,standIns:=[],harness:=har,looks:=lk},kinds:=[],alts:=[],goes:=true,laidByText:=true,laidKinds:=kinds,laidTests:=tests,laidLooks:=Lk}:=by
 have h6: ∀r:OpenClaim,Claim7.isSixth {stood:={row:=r,standIns:=[],harness:=har,looks:=lk},kinds:=[]}=false:=fun r=>by simpa [Claim7.isSixth] using hn
 exact ⟨tied_goes_at Lk kinds tests (Claim7.new_of_sixth hc har lk hst hnb hm (h6 c) hl) hw,(fun D hD=>by cases hD),htie,(fun h=>by cases h),hg⟩
theorem own:ownKnob Tryz.prog.godebug=none:=by kernel_rfl
theorem laidOut:laidOutB Tryz.prog=true:=by kernel_rfl
theorem laidOutP:laidOutB Tryz.pinned.checked.prog=true:=laidOut
def laidL:List (String×DataW Unit):=[("ribband/batten.checks",Rows.laid_ribband_batten_checks),("ribband/frame.checks",Rows.laid_ribband_frame_checks)]
theorem door_met (os:Os) (args:Array Value):laidMetH Tryz.prog laidL ((World.doorLaid Tryz.prog 14 os).forCall (fun _ _=>0) ⟨#[],args,[]⟩).memory:=
 laidMetH_of_parts3 (fuel:=8) (laidMet_nil _ _) (by kernel_rfl) (by kernel_rfl)
theorem laid_of {W:World} (h:laidMetH Tryz.prog laidL W):LaidF W.heap:=by
 obtain ⟨g,t,cs,fuel,p,hg,ht,hv,hd⟩:=h.funcs (n:= "ribband/frame.checks") (List.mem_cons_of_mem _ (List.mem_cons_self ..))
 obtain rfl:=Option.some.inj ((show Tryz.prog.globalNamed "ribband/frame.checks" =some 0 by kernel_rfl).symm.trans hg)
 obtain rfl:=Option.some.inj ((show (Tryz.prog.globals[0]?).map (·.type)=some 182 by kernel_rfl).symm.trans ht)
 have hu: Tryz.prog.underlying 182=some (.array 3 142):=by kernel_rfl
 have hc1: Tryz.prog.cellsOf 142=1:=by kernel_rfl
 obtain ⟨ps,rs,va,hfun⟩: ∃ps rs va,Tryz.prog.underlying 142=some (.func ps rs va):=⟨_,_,_,Tryz.underlying142⟩
 obtain ⟨xs,m,_,ex,hl,hxl,hx⟩:=DataW.trod_array hu hd
 have hl3:cs.toList.length=3:=hl.trans (by kernel_rfl)
 obtain ⟨cl⟩:=cs
 obtain ⟨c0,c1,c2,rfl⟩: ∃c0 c1 c2,cl=[c0,c1,c2]:=by
  match cl,hl3 with
  |[c0,c1,c2],_=>exact ⟨_,_,_,rfl⟩
 obtain ⟨y0,y1,y2,rfl⟩: ∃y0 y1 y2,xs=[y0,y1,y2]:=by
  match xs,hxl with
  |[y0,y1,y2],_=>exact ⟨_,_,_,rfl⟩
 have e2: ∃a b c:List UInt8,(Rows.laid_ribband_frame_checks:DataW Unit)= .iface "func table" (.agg [.iface "func" (.lit (.string a)),.iface "func" (.lit (.string b)),.iface "func" (.lit (.string c))])∧
   ((List.range Tryz.prog.funcs.size).filter fun f=>(Tryz.prog.funcs[f]?).any (·.name.toUTF8.data.toList==a))=[216]∧((List.range Tryz.prog.funcs.size).filter fun f=>(Tryz.prog.funcs[f]?).any (·.name.toUTF8.data.toList==b))=[217]∧
   ((List.range Tryz.prog.funcs.size).filter fun f=>(Tryz.prog.funcs[f]?).any (·.name.toUTF8.data.toList==c))=[218]∧a≠[]∧b≠[]∧c≠[]∧
   [y0.1,y1.1,y2.1]=[.held a,.held b,.held c]:=by
  refine ⟨_,_,_,rfl,by kernel_rfl,by kernel_rfl,by kernel_rfl,by simp,by simp,by simp,?_⟩
  have:=congrArg Prod.fst ex
  simp only [DataW.funcsOut] at this
  injection this with this
  exact this.symm
 obtain ⟨a,b,c,_,fa,fb,fc,na,nb,nc,e3⟩:=e2
 simp only [List.cons.injEq,and_true] at e3
 obtain ⟨z0,z1,z2⟩:=e3
 have g0:=hx 0 (by omega)
 have g1:=hx 1 (by omega)
 have g2:=hx 2 (by omega)
 rw [hc1] at g0 g1 g2
 have key: ∀(v:Value) (y:DataW (List UInt8)×List MemPlace) (l:List UInt8) (f0:FuncId),DataW.trod (funcToken Tryz.prog) Tryz.prog W 0 (fun _=>true) true m 142 [v]=some y→y.1= .held l→l≠[]→((List.range Tryz.prog.funcs.size).filter fun f=>(Tryz.prog.funcs[f]?).any (·.name.toUTF8.data.toList==l))=[f0]→v= .func (.func f0) #[] #[]:=by
  intro v y l f0 h1 h2 h3 h4
  obtain ⟨y1,y2⟩:=y
  obtain rfl:y1= .held l:=h2
  cases l with
  |nil=>exact absurd rfl h3
  |cons b0 r0=>exact func_of_trod hfun h4 h1
 obtain rfl:=key c0 y0 a 216 g0 z0 na fa
 obtain rfl:=key c1 y1 b 217 g1 z1 nb fb
 obtain rfl:=key c2 y2 c 218 g2 z2 nc fc
 unfold World.var? at hv
 rw [hg] at hv
 simp only [Option.bind_some] at hv
 split at hv
 ·rename_i cs t f hb
  obtain rfl:=Option.some.inj hv
  exact ⟨t,f,hb⟩
 ·cases hv
theorem laid_ofB {W:World} (h:laidMetH Tryz.prog laidL W):Bt.Laid W.heap:=by
 obtain ⟨g,t,cs,fuel,p,hg,ht,hv,hd⟩:=h.funcs (n:= "ribband/batten.checks") (List.mem_cons_self ..)
 obtain rfl:=Option.some.inj ((show Tryz.prog.globalNamed "ribband/batten.checks" =some 1 by kernel_rfl).symm.trans hg)
 obtain rfl:=Option.some.inj ((show (Tryz.prog.globals[1]?).map (·.type)=some 186 by kernel_rfl).symm.trans ht)
 have hu: Tryz.prog.underlying 186=some (.array 3 124):=by kernel_rfl
 have hc1: Tryz.prog.cellsOf 124=1:=by kernel_rfl
 obtain ⟨ps,rs,va,hfun⟩: ∃ps rs va,Tryz.prog.underlying 124=some (.func ps rs va):=⟨_,_,_,Tryz.underlying124⟩
 obtain ⟨xs,m,_,ex,hl,hxl,hx⟩:=DataW.trod_array hu hd
 have hl3:cs.toList.length=3:=hl.trans (by kernel_rfl)
 obtain ⟨cl⟩:=cs
 obtain ⟨c0,c1,c2,rfl⟩: ∃c0 c1 c2,cl=[c0,c1,c2]:=by
  match cl,hl3 with
  |[c0,c1,c2],_=>exact ⟨_,_,_,rfl⟩
 obtain ⟨y0,y1,y2,rfl⟩: ∃y0 y1 y2,xs=[y0,y1,y2]:=by
  match xs,hxl with
  |[y0,y1,y2],_=>exact ⟨_,_,_,rfl⟩
 have e2: ∃a b c:List UInt8,(Rows.laid_ribband_batten_checks:DataW Unit)= .iface "func table" (.agg [.iface "func" (.lit (.string a)),.iface "func" (.lit (.string b)),.iface "func" (.lit (.string c))])∧
   ((List.range Tryz.prog.funcs.size).filter fun f=>(Tryz.prog.funcs[f]?).any (·.name.toUTF8.data.toList==a))=[220]∧((List.range Tryz.prog.funcs.size).filter fun f=>(Tryz.prog.funcs[f]?).any (·.name.toUTF8.data.toList==b))=[221]∧
   ((List.range Tryz.prog.funcs.size).filter fun f=>(Tryz.prog.funcs[f]?).any (·.name.toUTF8.data.toList==c))=[222]∧a≠[]∧b≠[]∧c≠[]∧
   [y0.1,y1.1,y2.1]=[.held a,.held b,.held c]:=by
  refine ⟨_,_,_,rfl,by kernel_rfl,by kernel_rfl,by kernel_rfl,by simp,by simp,by simp,?_⟩
  have:=congrArg Prod.fst ex
  simp only [DataW.funcsOut] at this
  injection this with this
  exact this.symm
 obtain ⟨a,b,c,_,fa,fb,fc,na,nb,nc,e3⟩:=e2
 simp only [List.cons.injEq,and_true] at e3
 obtain ⟨z0,z1,z2⟩:=e3
 have g0:=hx 0 (by omega)
 have g1:=hx 1 (by omega)
 have g2:=hx 2 (by omega)
 rw [hc1] at g0 g1 g2
 have key: ∀(v:Value) (y:DataW (List UInt8)×List MemPlace) (l:List UInt8) (f0:FuncId),DataW.trod (funcToken Tryz.prog) Tryz.prog W 0 (fun _=>true) true m 124 [v]=some y→y.1= .held l→l≠[]→((List.range Tryz.prog.funcs.size).filter fun f=>(Tryz.prog.funcs[f]?).any (·.name.toUTF8.data.toList==l))=[f0]→v= .func (.func f0) #[] #[]:=by
  intro v y l f0 h1 h2 h3 h4
  obtain ⟨y1,y2⟩:=y
  obtain rfl:y1= .held l:=h2
  cases l with
  |nil=>exact absurd rfl h3
  |cons b0 r0=>exact func_of_trod hfun h4 h1
 obtain rfl:=key c0 y0 a 220 g0 z0 na fa
 obtain rfl:=key c1 y1 b 221 g1 z1 nb fb
 obtain rfl:=key c2 y2 c 222 g2 z2 nc fc
 unfold World.var? at hv
 rw [hg] at hv
 simp only [Option.bind_some] at hv
 split at hv
 ·rename_i cs t f hb
  obtain rfl:=Option.some.inj hv
  exact ⟨t,f,hb⟩
 ·cases hv
end Go.Proofs.YtgplnpdblmcdoaaGreatDoor
