/- Names, ranges and first errors, of the program and of the reference. | Leaf contracts: points, touching. -/
import Derived.Test.YtehnikhicnnnhaaGreatDoorPa01
namespace Go.Proofs.YtehnikhicnnnhaaGreatDoor
open Go.RowKit
def letterC(c:Nat):Bool:=(decide (97≤c)&&decide (c≤122))||(decide (65≤c)&&decide (c≤90))
def digitC(c:Nat):Bool:=(decide (48≤c)&&decide (c≤57))||decide (c=95)
def okC(f:Bool)(c:Nat):Bool:=letterC c||(!f&&digitC c)
def nameOK:Bool→List UInt8→Bool
 |_,[]=>true
 |f,c::l=>okC f c.toNat&&nameOK false l
def isNm(s:ByteArray):Bool:=decide (0<s.size)&&decide (s.size≤24)&&nameOK true s.data.toList
theorem nameOK_drop(s:ByteArray)(k:Nat)(hk:k<s.size)(f:Bool):nameOK f (s.data.toList.drop k)=(okC f s[k].toNat&&nameOK false (s.data.toList.drop (k+1))):=by
 rw[List.drop_eq_getElem_cons (by simpa using hk)];rfl
theorem str_empty{s:ByteArray}(h:s.size=0):s.toList= []:=by
 rw[ByteArray.toList_eq];apply List.eq_nil_of_length_eq_zero;simpa using h
theorem str_some{s:ByteArray}(h:¬s.size=0):s.toList.isEmpty=false:=by
 rw[ByteArray.toList_eq]
 cases hl:s.data.toList with
 |nil=>exact absurd (by have:=congrArg List.length hl;simpa using this) h
 |cons a l=>rfl
theorem str_ne{s:ByteArray}(h:¬s.size=0):¬s.toList= []:=by
 intro e;have:=str_some h;rw[e]at this;cases this
theorem letterC_iff(c:Nat):letterC c=true↔(97≤c∧c≤122)∨(65≤c∧c≤90):=by simp[letterC]
theorem digitC_iff(c:Nat):digitC c=true↔(48≤c∧c≤57)∨c=95:=by simp[digitC]
theorem nm_step{s:ByteArray}{k:Nat}{N:Bool}(hk:k<s.size)(hf:Hid (nameOK (decide (k=0)) (s.data.toList.drop k)=N))(h:okC (decide (k=0)) s[k].toNat=true):
 Hid (nameOK (decide (k+1=0)) (s.data.toList.drop (k+1))=N):=by
 have h1:=hf.out
 rw[nameOK_drop s k hk,h]at h1
 exact zh (by simpa using h1)
theorem nm_bad{s:ByteArray}{k:Nat}(hk:k<s.size)(hf:Hid (nameOK (decide (k=0)) (s.data.toList.drop k)=nameOK true s.data.toList))(h:okC (decide (k=0)) s[k].toNat=false):isNm s=false:=by
 have h1:=hf.out
 rw[nameOK_drop s k hk,h]at h1
 simp only[isNm,←h1];simp
theorem nm_end{s:ByteArray}{k:Nat}(hk:¬k<s.size)(hf:Hid (nameOK (decide (k=0)) (s.data.toList.drop k)=nameOK true s.data.toList)):isNm s=(decide (0<s.size)&&decide (s.size≤24)):=by
 have h1:=hf.out
 rw[List.drop_eq_nil_of_le (by simpa using hk)]at h1
 simp only[isNm,←h1,nameOK,Bool.and_true]
theorem okC_let(f:Bool){c:Nat}(h:(97≤c∧c≤122)∨(65≤c∧c≤90)):okC f c=true:=by simp[okC,(letterC_iff c).2 h]
theorem okC_dig{c:Nat}(h:(48≤c∧c≤57)∨c=95):okC false c=true:=by simp[okC,(digitC_iff c).2 h]
theorem okC_no{f:Bool}{c:Nat}(h:¬((97≤c∧c≤122)∨(65≤c∧c≤90)))(h2:f=true∨¬((48≤c∧c≤57)∨c=95)):okC f c=false:=by
 have h3:letterC c=false:=by rw[←Bool.not_eq_true,letterC_iff];exact h
 rcases h2 with rfl|h2
 ·simp[okC,h3]
 ·have h4:digitC c=false:=by rw[←Bool.not_eq_true,digitC_iff];exact h2
  simp[okC,h3,h4]
set_option maxHeartbeats 400000 in
theorem rWhen_c(b:Bool)(n:Int)(w:World):
 Calls Tryz.prog 34 #[.bool b,.int .i64 n] w fun e w'=>e=.returned (.int .i64 (whn b n))∧w=w':=by
 cases b
 all_goals
  go_enter Tryz.func34,Tryz.ntmps34
  go_wp2
  go_ret
  exact⟨rfl,rfl⟩
set_option maxHeartbeats 400000 in
theorem rRange_c(n lo hi:Int)(w:World):
 Calls Tryz.prog 99 #[.int .i64 n,.int .i64 lo,.int .i64 hi] w fun e w'=>e=.returned (.int .i64 (rng n lo hi))∧w=w':=by
 have hr:rng n lo hi=whn (decide (n<lo∨n>hi)) 3:=by unfold rng whn;simp
 by_cases h1:n<lo
 ·have h2:decide (n<lo)=true:=by simpa using h1
  go_enter Tryz.func99,Tryz.ntmps99
  go_wp2_with (go_at_call 34;refine(rWhen_c _ _ _).mono ?_;rintro e w' ⟨rfl,rfl⟩)
  go_ret
  exact⟨ret_int (by rw[hr];simp[h1]),rfl⟩
 ·have h2:decide (n<lo)=false:=by simpa using h1
  go_enter Tryz.func99,Tryz.ntmps99
  go_wp2_with (go_at_call 34;refine(rWhen_c _ _ _).mono ?_;rintro e w' ⟨rfl,rfl⟩)
  go_ret
  exact⟨ret_int (by rw[hr];simp[h2]),rfl⟩
set_option maxHeartbeats 400000 in
theorem rFirst_c(b:Nat)(xs:List Int)(w:World)(hx:xs.length≤1000)(hb:CellsAt w b 0 xs):
 Calls Tryz.prog 100 #[.slice (some ⟨b,0,none⟩) xs.length xs.length] w fun e w'=>e=.returned (.int .i64 (firstErr xs))∧w=w':=by
 have hcell:∀k (h:k<xs.length),w.cell? ⟨b,k,none⟩=some (.int .i64 xs[k]):=by
  intro k h
  simpa using hb.get k h
 have HB:=zh hb;clear hb
 have HC:=zh hcell;clear hcell
 go_enter Tryz.func100,Tryz.ntmps100
 go_wp2
 go_loop [3] (fun i=>∃k:Nat,k≤xs.length∧i=.int .i64 k∧Hid (firstErr (xs.take k)=0)) (fun i=>xs.length-(intOf i).toNat)
 case atStart=>exact⟨0,Nat.zero_le _,rfl,zh (by simp[firstErr])⟩
 case round=>
  obtain⟨k,hk,rfl,hf⟩:=hrel
  by_cases hlt:k<xs.length
  ·have hc:=HC.out k hlt
   by_cases hz:xs[k]=0
   ·have hz':(xs[k]!=0)=false:=by simp[hz]
    go_wp2
    go_round
    case rel=>exact⟨k+1,by omega,by go_num,zh ((firstErr_take_succ xs k hlt hf.out).trans hz)⟩
    case measure=>simp[intOf];omega
   ·have hz':(xs[k]!=0)=true:=by simp[hz]
    have HF:=zh (firstErr_at xs k hlt hf.out hz)
    clear hz
    go_wp2
    go_ret
    exact⟨ret_int HF.out.symm,rfl⟩
  ·go_wp2
   go_ret
   have:=hf.out
   rw[List.take_of_length_le (by omega)]at this
   exact⟨ret_int this.symm,rfl⟩
set_option maxHeartbeats 1000000 in
theorem rName_c(s:ByteArray)(w:World)(hs:s.size≤100000):
 Calls Tryz.prog 96 #[.string s] w fun e w'=>e=.returned (.bool (isNm s))∧w=w':=by
 by_cases h0:s.size=0
 ·have e0:=str_empty h0
  have HH:=zh h0;clear h0
  have hr:isNm s=false:=by simp[isNm,HH.out]
  have HR:=zh hr;clear hr
  go_enter Tryz.func96,Tryz.ntmps96
  go_wp2
  go_ret
  exact⟨ret_bool HR.out.symm,rfl⟩
 ·have e1:=str_some h0
  have e2:=str_ne h0
  by_cases h24:s.size≤24
  ·go_enter Tryz.func96,Tryz.ntmps96
   go_wp2
   go_loop [3] (fun i=>∃k:Nat,k≤s.size∧i=.int .i64 k∧Hid (nameOK (decide (k=0)) (s.data.toList.drop k)=nameOK true s.data.toList)) (fun i=>s.size-(intOf i).toNat)
   case atStart=>exact⟨0,Nat.zero_le _,rfl,zh (by simp)⟩
   case round=>
    obtain⟨k,hk,rfl,hf⟩:=hrel
    by_cases hlt:k<s.size
    ·have hb:s[k].toNat<256:=s[k].toNat_lt
     rcases Nat.eq_zero_or_pos k with hk0|hk0
     ·subst hk0
      by_cases hc1:97≤s[0].toNat<;>by_cases hc2:s[0].toNat≤122<;>by_cases hc3:65≤s[0].toNat<;>by_cases hc4:s[0].toNat≤90<;>(try omega)
      all_goals
       go_wp2
       all_goals first
       |(exfalso;(try simp only[decide_eq_true_eq,decide_eq_false_iff_not,Bool.not_eq_eq_eq_not,Bool.not_true,Bool.not_false]at *);omega)
       |(go_round
         case rel=>exact⟨1,by omega,rfl,nm_step (k:=0) hlt hf (okC_let _ (by omega))⟩
         case measure=>simp[intOf];omega)
       |(go_ret;exact⟨ret_bool (nm_bad hlt hf (okC_no (by omega) (.inl rfl))).symm,rfl⟩)
     ·have hkn:((k:Int)==0)=false:=by rw[beq_eq_false_iff_ne];omega
      have hkd:decide (k=0)=false:=by simp;omega
      rw[hkd]at hf
      by_cases hc5:s[k].toNat=95
      ·have hc6:((s[k].toNat:Int)==95)=true:=by rw[beq_iff_eq];omega
       have H5:=zh hc5
       have h7:¬97≤s[k].toNat:=by omega
       have h8:¬s[k].toNat≤90:=by omega
       clear hc5 hkd
       go_wp2
       go_round
       case rel=>exact⟨k+1,by omega,by go_num,nm_step hlt (by rw[show decide (k=0)=false by simp;omega];exact hf) (by rw[show decide (k=0)=false by simp;omega];exact okC_dig (.inr H5.out))⟩
       case measure=>simp[intOf];omega
      ·have hc6:((s[k].toNat:Int)==95)=false:=by rw[beq_eq_false_iff_ne];omega
       clear hkd
       by_cases hc1:97≤s[k].toNat<;>by_cases hc2:s[k].toNat≤122<;>by_cases hc3:65≤s[k].toNat<;>by_cases hc4:s[k].toNat≤90<;>by_cases hc7:48≤s[k].toNat<;>by_cases hc8:s[k].toNat≤57<;>(try omega)
       all_goals
        go_wp2
        all_goals first
        |(exfalso;(try simp only[decide_eq_true_eq,decide_eq_false_iff_not,Bool.not_eq_eq_eq_not,Bool.not_true,Bool.not_false]at *);omega)
        |(go_round
          case rel=>exact⟨k+1,by omega,by go_num,nm_step hlt (by rw[show decide (k=0)=false by simp;omega];exact hf) (by rw[show decide (k=0)=false by simp;omega];first|exact okC_let _ (by omega)|exact okC_dig (by omega))⟩
          case measure=>simp[intOf];omega)
        |(go_ret;exact⟨ret_bool (nm_bad hlt (by rw[show decide (k=0)=false by simp;omega];exact hf) (by rw[show decide (k=0)=false by simp;omega];exact okC_no (by omega) (.inr (by omega)))).symm,rfl⟩)
    ·go_wp2
     go_ret
     exact⟨ret_bool (by rw[nm_end hlt hf];simp;omega),rfl⟩
  ·have hr:isNm s=false:=by simp[isNm];omega
   have HR:=zh hr;clear hr
   go_enter Tryz.func96,Tryz.ntmps96
   go_wp2
   go_ret
   exact⟨ret_bool HR.out.symm,rfl⟩
theorem mul_bd{a b A B:Int}(h1: -A≤a)(h2:a≤A)(h3: -B≤b)(h4:b≤B): -(A*B)≤a*b∧a*b≤A*B:=by
 have hA:a.natAbs≤A.toNat:=by omega
 have hB:b.natAbs≤B.toNat:=by omega
 have h:=Nat.mul_le_mul hA hB
 rw[←Int.natAbs_mul]at h
 have e:((A.toNat*B.toNat:Nat):Int)=A*B:=by
  rw[Int.natCast_mul,Int.toNat_of_nonneg (by omega),Int.toNat_of_nonneg (by omega)]
 omega
def dotI(a b c d:Int):Int:=a*c+b*d
def crossI(a b c d:Int):Int:=a*d-b*c
def touchB(zx zy r bl ax ay bx by_:Int):Bool:=
 let reach:=(r+bl)*(r+bl)
 let dx:=bx-ax;let dy:=by_-ay
 let ux:=zx-ax;let uy:=zy-ay
 let vx:=zx-bx;let vy:=zy-by_
 if(ax=bx∧ay=by_)∨dotI dx dy ux uy≤0 then decide (dotI ux uy ux uy≤reach)
 else if 0≤dotI dx dy vx vy then decide (dotI vx vy vx vy≤reach)
 else decide (crossI dx dy ux uy*crossI dx dy ux uy≤reach*dotI dx dy dx dy)
set_option maxHeartbeats 400000 in
theorem less_c(a b c d:Int)(w:World)(ha: -2000≤a)(ha':a≤2000)(hb: -2000≤b)(hb':b≤2000)(hc: -2000≤c)(hc':c≤2000)(hd: -2000≤d)(hd':d≤2000):
 Calls Tryz.prog 176 #[.agg #[.int .i64 a,.int .i64 b],.agg #[.int .i64 c,.int .i64 d]] w fun e w'=>e=.returned (.agg #[.int .i64 (a-c),.int .i64 (b-d)])∧Below w.heap.size w w':=by
 go_enter Tryz.func176,Tryz.ntmps176
 go_wp2
 go_returns
 exact⟨rfl,by exact zbl⟩
set_option maxHeartbeats 400000 in
theorem dot_c(a b c d:Int)(w:World)(ha: -2000≤a)(ha':a≤2000)(hb: -2000≤b)(hb':b≤2000)(hc: -2000≤c)(hc':c≤2000)(hd: -2000≤d)(hd':d≤2000):
 Calls Tryz.prog 177 #[.agg #[.int .i64 a,.int .i64 b],.agg #[.int .i64 c,.int .i64 d]] w fun e w'=>e=.returned (.int .i64 (dotI a b c d))∧Below w.heap.size w w':=by
 have h1:=mul_bd ha ha' hc hc'
 have h2:=mul_bd hb hb' hd hd'
 obtain⟨h3,h4⟩:=h1
 obtain⟨h5,h6⟩:=h2
 go_enter Tryz.func177,Tryz.ntmps177
 go_wp2
 go_ret
 exact⟨rfl,by exact zbl⟩
set_option maxHeartbeats 400000 in
theorem cross_c(a b c d:Int)(w:World)(ha: -2000≤a)(ha':a≤2000)(hb: -2000≤b)(hb':b≤2000)(hc: -2000≤c)(hc':c≤2000)(hd: -2000≤d)(hd':d≤2000):
 Calls Tryz.prog 178 #[.agg #[.int .i64 a,.int .i64 b],.agg #[.int .i64 c,.int .i64 d]] w fun e w'=>e=.returned (.int .i64 (crossI a b c d))∧Below w.heap.size w w':=by
 have h1:=mul_bd ha ha' hd hd'
 have h2:=mul_bd hb hb' hc hc'
 obtain⟨h3,h4⟩:=h1
 obtain⟨h5,h6⟩:=h2
 go_enter Tryz.func178,Tryz.ntmps178
 go_wp2
 go_ret
 exact⟨rfl,by exact zbl⟩
theorem eql_line(w:World)(a b c d a' b' c' d':Int):
 (binOp .eql 117 (.agg #[.int .i64 a,.int .i64 b,.int .i64 c,.int .i64 d]) (.agg #[.int .i64 a',.int .i64 b',.int .i64 c',.int .i64 d'])).run Tryz.prog w=.ok (.bool (decide (a=a'∧b=b'∧c=c'∧d=d'))) w:=by
 rw[run_eql_struct]
 rw[show(10000:Nat)=9999+1 from rfl,Op.equalIn]
 simp[go_sem,List.range',isAgg]
 by_cases h1:a=a'<;>by_cases h2:b=b'<;>by_cases h3:c=c'<;>by_cases h4:d=d'<;>simp[h1,h2,h3,h4]
set_option maxRecDepth 100000 in
set_option maxHeartbeats 1000000 in
theorem touches_c(nm:ByteArray)(zx zy r bl ax ay bx by_:Int)(w:World)(h1:0≤zx)(h1':zx≤1000)(h2:0≤zy)(h2':zy≤1000)(h3:0≤r)(h3':r≤500)(h4:0≤bl)(h4':bl≤100)
 (h5:0≤ax) (h5':ax≤1000) (h6:0≤ay) (h6':ay≤1000) (h7:0≤bx) (h7':bx≤1000) (h8:0≤by_) (h8':by_≤1000):
  Calls Tryz.prog 133 #[.agg #[.string nm,.int .i64 zx,.int .i64 zy,.int .i64 r],.int .i64 bl,.agg #[.int .i64 ax,.int .i64 ay,.int .i64 bx,.int .i64 by_]] w fun e w'=>e=.returned (.bool (touchB zx zy r bl ax ay bx by_))∧Below w.heap.size w w':=by
 have hm:=mul_bd (a:=r+bl) (b:=r+bl) (A:=600) (B:=600) (by omega) (by omega) (by omega) (by omega)
 obtain⟨hm1,hm2⟩:=hm
 go_enter Tryz.func133,Tryz.ntmps133
 go_upto_region 2 with fail
 go_cut [8,9] (fun s8 s9 wx=>∃g8 g9:Nat,s8=.pointer (some ⟨g8,0,none⟩)∧s9=.pointer (some ⟨g9,0,none⟩)∧w.heap.size≤g8∧w.heap.size≤g9∧g8<wx.heap.size∧g9<wx.heap.size∧
  wx.cell? ⟨g8,0,none⟩=some (.int .i64 (bx-ax))∧wx.cell? ⟨g8,1,none⟩=some (.int .i64 (by_-ay))∧wx.cell? ⟨g9,0,none⟩=some (.int .i64 (zx-ax))∧wx.cell? ⟨g9,1,none⟩=some (.int .i64 (zy-ay))∧
  Sx ((w.alloc (.cells #[.string nm,.int .i64 zx,.int .i64 zy,.int .i64 r] 119)).alloc (.cells #[.int .i64 ax,.int .i64 ay,.int .i64 bx,.int .i64 by_] 117)) wx∧Below w.heap.size w wx)
 case first=>
  go_region_held3 (SSd ((w.alloc (.cells #[.string nm,.int .i64 zx,.int .i64 zy,.int .i64 r] 119)).alloc (.cells #[.int .i64 ax,.int .i64 ay,.int .i64 bx,.int .i64 by_] 117))) ((refine Sx.goal ?_;exact zsx)) (first|(go_at_call 176;refine(less_c _ _ _ _ _ (by omega) (by omega) (by omega) (by omega) (by omega) (by omega) (by omega) (by omega)).mono ?_;rintro e w' ⟨rfl,hb⟩;(obtain⟨hcc,hff⟩:=bcell hb;have hzz:=hb.size;(try simp at hzz);(try have z1:w.heap.size+1<w'.heap.size:=by omega);(try have z2:w.heap.size+2<w'.heap.size:=by omega);(try have z3:w.heap.size+3<w'.heap.size:=by omega);(try have z4:w.heap.size+4<w'.heap.size:=by omega);(try have z5:w.heap.size+5<w'.heap.size:=by omega);(try have z0:w.heap.size<w'.heap.size:=by omega);(try(have zy1:=Nat.lt_of_succ_le hzz;(try(have zy2:=Nat.lt_of_succ_lt zy1;(try have zy3:=Nat.lt_of_succ_lt zy2))))))))
  all_goals(go_wp2_with fail;go_meet;refine⟨_,_,rfl,rfl,?_,?_,?_,?_,?_,?_,?_,?_,?_,?_⟩)
  all_goals first|omega|(focus(simp;done))|(focus(simp;omega))|(focus((refine Sx.goal ?_;repeat first|(with_reducible first|assumption|exact Sx.refl _|refine Sx.drew ?_|refine Sx.alloc ?_ _|refine Sx.set ?_ _ ?_)|(with_reducible apply Sx.below';(focus(with_reducible assumption)))|omega|(focus(simp;done))|(focus(simp;omega)));done))|(focus((repeat first|(with_reducible first|assumption|exact Below.refl _ _|refine Bl.drew ?_|refine Bl.drewN ?_ _|refine Bl.alloc ?_ _|refine Bl.set ?_ _ ?_)|(with_reducible apply Bl.step';(focus(with_reducible assumption)))|omega|(focus(simp;done))|(focus(simp;omega)));done))|(focus(go_simp;done))
 case rest=>
  obtain⟨g8,g9,rfl,rfl,hg8,hg9,hl8,hl9,c80,c81,c90,c91,hs,hbw⟩:=hcut
  have q1:=hs.at (b:=w.heap.size) (o:=1) (v:=.int .i64 zx) (by simp)
  have q2:=hs.at (b:=w.heap.size) (o:=2) (v:=.int .i64 zy) (by simp)
  have q3:=hs.at (b:=w.heap.size+1) (o:=0) (v:=.int .i64 ax) (by simp)
  have q4:=hs.at (b:=w.heap.size+1) (o:=1) (v:=.int .i64 ay) (by simp)
  have q5:=hs.at (b:=w.heap.size+1) (o:=2) (v:=.int .i64 bx) (by simp)
  have q6:=hs.at (b:=w.heap.size+1) (o:=3) (v:=.int .i64 by_) (by simp)
  have hsz:w.heap.size+2≤wc.heap.size:=by have:=hs.1;simp at this;omega
  have y0:w.heap.size<wc.heap.size:=by omega
  have y1:w.heap.size+1<wc.heap.size:=by omega
  have HS:=zh hs;clear hs
  have heq:=fun w=>eql_line w ax ay bx by_ ax ay ax ay
  by_cases hsame:ax=bx∧ay=by_
  ·have hd:decide (ax=ax∧ay=ay∧bx=ax∧by_=ay)=true:=by simp[hsame.1,hsame.2]
   rw[hd]at heq
   have HH:=zh hsame;clear hsame hd
   go_wp2_with (first|(go_at_call 177;refine(dot_c _ _ _ _ _ (by omega) (by omega) (by omega) (by omega) (by omega) (by omega) (by omega) (by omega)).mono ?_;rintro e w' ⟨rfl,hb⟩;(obtain⟨hcc,hff⟩:=bcell hb;have hzz:=hb.size;(try simp at hzz);(try have z1:w.heap.size+1<w'.heap.size:=by omega);(try have z2:w.heap.size+2<w'.heap.size:=by omega);(try have z3:w.heap.size+3<w'.heap.size:=by omega);(try have z4:w.heap.size+4<w'.heap.size:=by omega);(try have z5:w.heap.size+5<w'.heap.size:=by omega);(try have zm0:g8<w'.heap.size:=by omega);(try have zm1:g9<w'.heap.size:=by omega);(try have z0:w.heap.size<w'.heap.size:=by omega);(try(have zy1:=Nat.lt_of_succ_le hzz;(try(have zy2:=Nat.lt_of_succ_lt zy1;(try have zy3:=Nat.lt_of_succ_lt zy2))))))))
   go_ret
   exact⟨ret_bool (by simp[touchB,HH.out]),by exact zbl⟩
  ·have hd:decide (ax=ax∧ay=ay∧bx=ax∧by_=ay)=false:=by simp;intro h1 h2;exact hsame ⟨h1.symm,h2.symm⟩
   rw[hd]at heq
   have HH:=zh hsame;clear hsame hd
   by_cases hdot:dotI (bx-ax) (by_-ay) (zx-ax) (zy-ay)≤0
   ·go_wp2_with (first|(go_at_call 177;refine(dot_c _ _ _ _ _ (by omega) (by omega) (by omega) (by omega) (by omega) (by omega) (by omega) (by omega)).mono ?_;rintro e w' ⟨rfl,hb⟩;(obtain⟨hcc,hff⟩:=bcell hb;have hzz:=hb.size;(try simp at hzz);(try have z1:w.heap.size+1<w'.heap.size:=by omega);(try have z2:w.heap.size+2<w'.heap.size:=by omega);(try have z3:w.heap.size+3<w'.heap.size:=by omega);(try have z4:w.heap.size+4<w'.heap.size:=by omega);(try have z5:w.heap.size+5<w'.heap.size:=by omega);(try have zm0:g8<w'.heap.size:=by omega);(try have zm1:g9<w'.heap.size:=by omega);(try have z0:w.heap.size<w'.heap.size:=by omega);(try(have zy1:=Nat.lt_of_succ_le hzz;(try(have zy2:=Nat.lt_of_succ_lt zy1;(try have zy3:=Nat.lt_of_succ_lt zy2)))))))|(go_at_call 178;refine(cross_c _ _ _ _ _ (by omega) (by omega) (by omega) (by omega) (by omega) (by omega) (by omega) (by omega)).mono ?_;rintro e w' ⟨rfl,hb⟩;(obtain⟨hcc,hff⟩:=bcell hb;have hzz:=hb.size;(try simp at hzz);(try have z1:w.heap.size+1<w'.heap.size:=by omega);(try have z2:w.heap.size+2<w'.heap.size:=by omega);(try have z3:w.heap.size+3<w'.heap.size:=by omega);(try have z4:w.heap.size+4<w'.heap.size:=by omega);(try have z5:w.heap.size+5<w'.heap.size:=by omega);(try have zm0:g8<w'.heap.size:=by omega);(try have zm1:g9<w'.heap.size:=by omega);(try have z0:w.heap.size<w'.heap.size:=by omega);(try(have zy1:=Nat.lt_of_succ_le hzz;(try(have zy2:=Nat.lt_of_succ_lt zy1;(try have zy3:=Nat.lt_of_succ_lt zy2)))))))|(go_at_call 176;refine(less_c _ _ _ _ _ (by omega) (by omega) (by omega) (by omega) (by omega) (by omega) (by omega) (by omega)).mono ?_;rintro e w' ⟨rfl,hb⟩;(obtain⟨hcc,hff⟩:=bcell hb;have hzz:=hb.size;(try simp at hzz);(try have z1:w.heap.size+1<w'.heap.size:=by omega);(try have z2:w.heap.size+2<w'.heap.size:=by omega);(try have z3:w.heap.size+3<w'.heap.size:=by omega);(try have z4:w.heap.size+4<w'.heap.size:=by omega);(try have z5:w.heap.size+5<w'.heap.size:=by omega);(try have zm0:g8<w'.heap.size:=by omega);(try have zm1:g9<w'.heap.size:=by omega);(try have z0:w.heap.size<w'.heap.size:=by omega);(try(have zy1:=Nat.lt_of_succ_le hzz;(try(have zy2:=Nat.lt_of_succ_lt zy1;(try have zy3:=Nat.lt_of_succ_lt zy2))))))))
    go_ret
    exact⟨ret_bool (by simp[touchB,HH.out,hdot]),by exact zbl⟩
   ·by_cases hback:0≤dotI (bx-ax) (by_-ay) (zx-bx) (zy-by_)
    ·go_wp2_with (first|(go_at_call 177;refine(dot_c _ _ _ _ _ (by omega) (by omega) (by omega) (by omega) (by omega) (by omega) (by omega) (by omega)).mono ?_;rintro e w' ⟨rfl,hb⟩;(obtain⟨hcc,hff⟩:=bcell hb;have hzz:=hb.size;(try simp at hzz);(try have z1:w.heap.size+1<w'.heap.size:=by omega);(try have z2:w.heap.size+2<w'.heap.size:=by omega);(try have z3:w.heap.size+3<w'.heap.size:=by omega);(try have z4:w.heap.size+4<w'.heap.size:=by omega);(try have z5:w.heap.size+5<w'.heap.size:=by omega);(try have zm0:g8<w'.heap.size:=by omega);(try have zm1:g9<w'.heap.size:=by omega);(try have z0:w.heap.size<w'.heap.size:=by omega);(try(have zy1:=Nat.lt_of_succ_le hzz;(try(have zy2:=Nat.lt_of_succ_lt zy1;(try have zy3:=Nat.lt_of_succ_lt zy2)))))))|(go_at_call 178;refine(cross_c _ _ _ _ _ (by omega) (by omega) (by omega) (by omega) (by omega) (by omega) (by omega) (by omega)).mono ?_;rintro e w' ⟨rfl,hb⟩;(obtain⟨hcc,hff⟩:=bcell hb;have hzz:=hb.size;(try simp at hzz);(try have z1:w.heap.size+1<w'.heap.size:=by omega);(try have z2:w.heap.size+2<w'.heap.size:=by omega);(try have z3:w.heap.size+3<w'.heap.size:=by omega);(try have z4:w.heap.size+4<w'.heap.size:=by omega);(try have z5:w.heap.size+5<w'.heap.size:=by omega);(try have zm0:g8<w'.heap.size:=by omega);(try have zm1:g9<w'.heap.size:=by omega);(try have z0:w.heap.size<w'.heap.size:=by omega);(try(have zy1:=Nat.lt_of_succ_le hzz;(try(have zy2:=Nat.lt_of_succ_lt zy1;(try have zy3:=Nat.lt_of_succ_lt zy2)))))))|(go_at_call 176;refine(less_c _ _ _ _ _ (by omega) (by omega) (by omega) (by omega) (by omega) (by omega) (by omega) (by omega)).mono ?_;rintro e w' ⟨rfl,hb⟩;(obtain⟨hcc,hff⟩:=bcell hb;have hzz:=hb.size;(try simp at hzz);(try have z1:w.heap.size+1<w'.heap.size:=by omega);(try have z2:w.heap.size+2<w'.heap.size:=by omega);(try have z3:w.heap.size+3<w'.heap.size:=by omega);(try have z4:w.heap.size+4<w'.heap.size:=by omega);(try have z5:w.heap.size+5<w'.heap.size:=by omega);(try have zm0:g8<w'.heap.size:=by omega);(try have zm1:g9<w'.heap.size:=by omega);(try have z0:w.heap.size<w'.heap.size:=by omega);(try(have zy1:=Nat.lt_of_succ_le hzz;(try(have zy2:=Nat.lt_of_succ_lt zy1;(try have zy3:=Nat.lt_of_succ_lt zy2))))))))
     go_ret
     exact⟨ret_bool (by simp only[touchB];rw[if_neg (by rintro(h|h);exact HH.out h;omega),if_pos hback]),by exact zbl⟩
    ·have e1:=mul_bd (a:=dotI (bx-ax) (by_-ay) (bx-ax) (by_-ay)) (b:=1) (A:=2000000) (B:=1) (by have:=mul_bd (a:=bx-ax) (b:=bx-ax) (A:=1000) (B:=1000) (by omega) (by omega) (by omega) (by omega);have:=mul_bd (a:=by_-ay) (b:=by_-ay) (A:=1000) (B:=1000) (by omega) (by omega) (by omega) (by omega);unfold dotI;omega) (by have:=mul_bd (a:=bx-ax) (b:=bx-ax) (A:=1000) (B:=1000) (by omega) (by omega) (by omega) (by omega);have:=mul_bd (a:=by_-ay) (b:=by_-ay) (A:=1000) (B:=1000) (by omega) (by omega) (by omega) (by omega);unfold dotI;omega) (by omega) (by omega)
     have e2: -2000000≤crossI (bx-ax) (by_-ay) (zx-ax) (zy-ay)∧crossI (bx-ax) (by_-ay) (zx-ax) (zy-ay)≤2000000:=by
      have:=mul_bd (a:=bx-ax) (b:=zy-ay) (A:=1000) (B:=1000) (by omega) (by omega) (by omega) (by omega)
      have:=mul_bd (a:=by_-ay) (b:=zx-ax) (A:=1000) (B:=1000) (by omega) (by omega) (by omega) (by omega)
      unfold crossI;omega
     have e3:=mul_bd e2.1 e2.2 e2.1 e2.2
     have e4:=mul_bd (a:=(r+bl)*(r+bl)) (b:=dotI (bx-ax) (by_-ay) (bx-ax) (by_-ay)) (A:=360000) (B:=2000000) (by omega) (by omega) (by omega) (by omega)
     obtain⟨e5,e6⟩:=e3
     obtain⟨e7,e8⟩:=e4
     clear e1 e2
     go_wp2_with (first|(go_at_call 177;refine(dot_c _ _ _ _ _ (by omega) (by omega) (by omega) (by omega) (by omega) (by omega) (by omega) (by omega)).mono ?_;rintro e w' ⟨rfl,hb⟩;(obtain⟨hcc,hff⟩:=bcell hb;have hzz:=hb.size;(try simp at hzz);(try have z1:w.heap.size+1<w'.heap.size:=by omega);(try have z2:w.heap.size+2<w'.heap.size:=by omega);(try have z3:w.heap.size+3<w'.heap.size:=by omega);(try have z4:w.heap.size+4<w'.heap.size:=by omega);(try have z5:w.heap.size+5<w'.heap.size:=by omega);(try have zm0:g8<w'.heap.size:=by omega);(try have zm1:g9<w'.heap.size:=by omega);(try have z0:w.heap.size<w'.heap.size:=by omega);(try(have zy1:=Nat.lt_of_succ_le hzz;(try(have zy2:=Nat.lt_of_succ_lt zy1;(try have zy3:=Nat.lt_of_succ_lt zy2)))))))|(go_at_call 178;refine(cross_c _ _ _ _ _ (by omega) (by omega) (by omega) (by omega) (by omega) (by omega) (by omega) (by omega)).mono ?_;rintro e w' ⟨rfl,hb⟩;(obtain⟨hcc,hff⟩:=bcell hb;have hzz:=hb.size;(try simp at hzz);(try have z1:w.heap.size+1<w'.heap.size:=by omega);(try have z2:w.heap.size+2<w'.heap.size:=by omega);(try have z3:w.heap.size+3<w'.heap.size:=by omega);(try have z4:w.heap.size+4<w'.heap.size:=by omega);(try have z5:w.heap.size+5<w'.heap.size:=by omega);(try have zm0:g8<w'.heap.size:=by omega);(try have zm1:g9<w'.heap.size:=by omega);(try have z0:w.heap.size<w'.heap.size:=by omega);(try(have zy1:=Nat.lt_of_succ_le hzz;(try(have zy2:=Nat.lt_of_succ_lt zy1;(try have zy3:=Nat.lt_of_succ_lt zy2)))))))|(go_at_call 176;refine(less_c _ _ _ _ _ (by omega) (by omega) (by omega) (by omega) (by omega) (by omega) (by omega) (by omega)).mono ?_;rintro e w' ⟨rfl,hb⟩;(obtain⟨hcc,hff⟩:=bcell hb;have hzz:=hb.size;(try simp at hzz);(try have z1:w.heap.size+1<w'.heap.size:=by omega);(try have z2:w.heap.size+2<w'.heap.size:=by omega);(try have z3:w.heap.size+3<w'.heap.size:=by omega);(try have z4:w.heap.size+4<w'.heap.size:=by omega);(try have z5:w.heap.size+5<w'.heap.size:=by omega);(try have zm0:g8<w'.heap.size:=by omega);(try have zm1:g9<w'.heap.size:=by omega);(try have z0:w.heap.size<w'.heap.size:=by omega);(try(have zy1:=Nat.lt_of_succ_le hzz;(try(have zy2:=Nat.lt_of_succ_lt zy1;(try have zy3:=Nat.lt_of_succ_lt zy2))))))))
     go_ret
     exact⟨ret_bool (by simp only[touchB];rw[if_neg (by rintro(h|h);exact HH.out h;omega),if_neg (by omega)]),by exact zbl⟩
end Go.Proofs.YtehnikhicnnnhaaGreatDoor