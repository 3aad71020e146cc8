/- Contracts of functions of Go's library, said of heaps of pieces. -/
import Derived.Test.YthbfapccpmppoaaGreatDoorJT
import Derived.Test.YthbfapccpmppoaaGreatDoorJLX
import Derived.Test.YthbfapccpmppoaaGreatDoorJSh
set_option linter.all false
namespace Gv
open Gv.Hp renaming le_trans→zL
open Go Go.Proofs Go.Proofs.Tryz Go.RowKit Go.Sort
section
variable {G:kH} {K:Hp} {L:List eW} {w:World}
theorem aF.laid (hs:aF G K L w):aIe w:=G.laid w hs.globs
theorem lib_Cut {s sep:aL} {R:aL × aL × Bool} (hs:aF G K L w) (hm:l_Cut s sep=some R):
  Calls prog 166 ([str s,str sep]:List Value).toArray w (cL fun v w'=>v=Value.tuple #[str R.1,str R.2.1,Value.bool R.2.2]/\aF G K L w'):=by
 unfold l_Cut at hm
 split at hm
 ·rename_i hl
  cases hm
  obtain ⟨m,hm⟩:=hs.laid.1
  refine (strings_Cut ⟨⟨s⟩⟩ ⟨⟨sep⟩⟩ m w hl hm).mono ?_
  rintro e w' ⟨rfl,n,rfl⟩
  exact ⟨_,rfl,rfl,hs.mono (eI.drewN w n)⟩
 ·cases hm
theorem aLf (sep:aL) (n:Nat) (s:aL):aBO sep (n+1) s=match Lib.cut s sep with|(a,b,true)=>a::aBO sep n b|(_,_,false)=>[s]:=rfl
theorem splitB_eq (sep:aL) (h1:sep≠[]):∀ (n:Nat) (s:aL),s.length<=n->(Lib.splitB ⟨⟨sep⟩⟩ 0 (Lib.countB ⟨⟨s⟩⟩ ⟨⟨sep⟩⟩) ⟨⟨s⟩⟩).map (·.data.toList)=aBO sep n s/\(Lib.splitB ⟨⟨sep⟩⟩ 0 (Lib.countB ⟨⟨s⟩⟩ ⟨⟨sep⟩⟩) ⟨⟨s⟩⟩).length=Lib.countB ⟨⟨s⟩⟩ ⟨⟨sep⟩⟩+1:=by
 have hsz:1<=(⟨⟨sep⟩⟩:ByteArray).size:=List.length_pos_iff.2 h1
 intro n
 induction n with
 |zero=>
  intro s hl
  obtain rfl:s=[]:=List.length_eq_zero_iff.1 (by omega)
  have hx:Lib.indexB ⟨⟨[]⟩⟩ ⟨⟨sep⟩⟩=-1:=by
   show Lib.index [] sep=-1
   cases sep with
   |nil=>exact absurd rfl h1
   |cons a l=>rfl
  rw [Lib.splitB_miss _ _ _ _ hx,Lib.countB_miss _ _ hx]
  exact ⟨rfl,rfl⟩
 |succ n ih=>
  intro s hl
  have hc:Lib.cut s sep=if 0<=Lib.index s sep then (s.take (Lib.index s sep).toNat,s.drop ((Lib.index s sep).toNat+sep.length),true) else (s,[],false):=rfl
  by_cases h0:0<=Lib.index s sep
  ·rw [if_pos h0] at hc
   have hi:Lib.indexB ⟨⟨s⟩⟩ ⟨⟨sep⟩⟩=((Lib.index s sep).toNat:Nat):=by
    show Lib.index s sep=_
    omega
   rw [Lib.countB_hit _ _ _ hsz hi,Nat.add_comm 1,Lib.splitB_hit _ _ _ _ _ hi]
   have hroom:=Lib.index_room s sep h0
   have e1:(⟨⟨s⟩⟩:ByteArray).extract ((Lib.index s sep).toNat+(⟨⟨sep⟩⟩:ByteArray).size) (⟨⟨s⟩⟩:ByteArray).size=⟨⟨s.drop ((Lib.index s sep).toNat+sep.length)⟩⟩:=by
    apply ByteArray.ext
    rw [ByteArray.data_extract]
    apply Array.toList_inj.1
    rw [Array.toList_extract]
    show List.extract s _ _=_
    rw [List.extract_eq_take_drop]
    refine List.take_of_length_le ?_
    show (List.drop ((Lib.index s sep).toNat+sep.length) s).length<=s.length - ((Lib.index s sep).toNat+sep.length)
    rw [List.length_drop];exact Nat.le_refl _
   rw [e1]
   obtain ⟨g1,g2⟩:=ih (s.drop ((Lib.index s sep).toNat+sep.length)) (by
    have:=List.length_pos_iff.2 h1
    simp;omega)
   refine ⟨?_,by rw [List.length_cons,g2]⟩
   rw [List.map_cons,g1,aLf,hc]
   simp only [Nat.add_zero]
   congr 1
   show ((⟨⟨s⟩⟩:ByteArray).extract 0 (Lib.index s sep).toNat).data.toList=_
   rw [ByteArray.data_extract,Array.toList_extract]
   show List.extract s _ _=_
   rw [List.extract_eq_take_drop];simp
  ·rw [if_neg h0] at hc
   have hi:Lib.indexB ⟨⟨s⟩⟩ ⟨⟨sep⟩⟩=-1:=by
    show Lib.index s sep=-1
    have:=Lib.index_ge s sep
    omega
   rw [Lib.splitB_miss _ _ _ _ hi,Lib.countB_miss _ _ hi]
   rw [aLf,hc]
   exact ⟨rfl,rfl⟩
theorem lib_Split {s sep:aL} {R:List aL} (hs:aF G K L w) (hm:aIY s sep=some R):
  Calls prog 168 ([str s,str sep]:List Value).toArray w (cL fun v w'=>∃ (a:Option Addr) (c:Nat),v=Value.slice a R.length c/\aF G K (aV 9 K a c R::L) w'):=by
 unfold aIY at hm
 split at hm
 ·rename_i hl
  cases hm
  obtain ⟨m,hm⟩:=hs.laid.1
  obtain ⟨g1,g2⟩:=splitB_eq sep hl.2 s.length s (Nat.le_refl _)
  refine (strings_Split ⟨⟨s⟩⟩ ⟨⟨sep⟩⟩ m w hl.1 hm (List.length_pos_iff.2 hl.2)).mono ?_
  generalize Lib.splitB ⟨⟨sep⟩⟩ 0 (Lib.countB ⟨⟨s⟩⟩ ⟨⟨sep⟩⟩) ⟨⟨s⟩⟩=xs at g1 g2 ⊢
  rintro e w' ⟨rfl,rfl⟩
  have hlen:(aBO sep s.length s).length=Lib.countB ⟨⟨s⟩⟩ ⟨⟨sep⟩⟩+1:=by rw [←g1,List.length_map,g2]
  refine ⟨_,rfl,some ⟨w.heap.size,0,none⟩,_,by rw [hlen],hs.alloc _ ?_⟩
  have hrow:xs.map Value.string=(aBO sep s.length s).map str:=by
   rw [←g1,List.map_map]
   exact List.map_congr_left fun x _=>rfl
  rw [hrow,←hlen]
  refine ⟨Nat.le_refl _,.inr ⟨⟨w.heap.size,0,none⟩,_,(aBO sep s.length s).map str,rfl,rfl,Hp.one_self _ _,?_,?_,?_,?_⟩⟩
  ·simp [El.sz,iQ.sz]
  ·simp [El.sz,iQ.sz]
  ·intro t v ht;simpa using ht
  ·intro i d hd
   show El.rd K _ d
   simp only [El.sz,iQ.sz,Nat.mul_one]
   have:((List.map str (aBO sep s.length s)).drop i).take 1=[str d]:=by
    rw [List.take_one,List.head?_drop,List.getElem?_map,hd];rfl
   rw [this];rfl
 ·cases hm
theorem aMA {xs:List aL} {sep:aL} {a:Option Addr} {c:Nat} {R:aL} (hs:aF G K L w) (hG:G.lo=0) (h:aW K a c xs) (hm:aAH xs sep=some R):
  Calls prog 101 ([Value.slice a xs.length c,str sep]:List Value).toArray w (cL fun v w'=>v=str R/\aF G K L w'):=by
 unfold aAH at hm
 split at hm
 ·rename_i hl
  cases hm
  unfold iK at hl
  cases xs with
  |nil=>
   refine (strings_Join_none a c ⟨⟨sep⟩⟩ w).mono ?_
   rintro e w' ⟨rfl,rfl⟩
   exact ⟨_,rfl,rfl,hs⟩
  |cons x0 r=>
   obtain ⟨cs,⟨ad,c0,E,fr,rfl,sp,hb,_⟩,_⟩:=h.cell 0 x0 rfl
   obtain ⟨b,off,s⟩:=ad
   simp only at sp hb
   subst sp
   have hbw:w.heap[b]?=some (.cells c0 E fr):=hs.know _ _ hb
   have hcells:∀ (j:Nat) x,((x0::r).map fun s=>(⟨⟨s⟩⟩:ByteArray))[j]?=some x->w.cell? ⟨b,off+j,none⟩=some (.string x):=by
    intro j x hx
    rw [List.getElem?_map] at hx
    cases hj:(x0::r)[j]? with
    |none=>rw [hj] at hx;cases hx
    |some d=>
     rw [hj] at hx;cases hx
     obtain ⟨cs,⟨ad,c1,E1,fr1,e1,_,hb1,hr⟩,hrd⟩:=h.cell j d hj
     cases e1
     simp only at hb1 hr
     rw [hb] at hb1
     cases hb1
     have hcs:cs=[str d]:=hrd
     subst hcs
     have:=hr 0 (str d) rfl
     simp only [El.sz,iQ.sz,Nat.mul_one,Nat.add_zero] at this
     simp [World.cell?,hbw,this,str]
   have hmap:((x0::r).map fun s=>(⟨⟨s⟩⟩:ByteArray)).map (·.data.toList)=x0::r:=by
    rw [List.map_map]
    conv=>rhs;rw [←List.map_id (x0::r)]
    exact List.map_congr_left fun x _=>rfl
   have:=strings_Join b off c ((x0::r).map fun s=>(⟨⟨s⟩⟩:ByteArray)) ⟨⟨sep⟩⟩ w hcells (Array.getElem?_eq_some_iff.1 hbw).1 (by rw [List.length_map];omega) (by rw [List.length_map];exact h.room) (by rw [hmap];show (Lib.join (x0::r) sep).length<=_;omega)
   rw [hmap,List.length_map] at this
   refine this.mono ?_
   rintro e w' ⟨rfl,hB⟩
   refine ⟨_,rfl,rfl,?_⟩
   obtain ⟨⟨he,_⟩,g,gd,gl,d,k,l,rr⟩:=hs
   have hle:(hp w).le (hp w'):=fun b o e=>by
    have hb:b < w.heap.size:=(Array.getElem?_eq_some_iff.1 e).1
    have:=hB.block b hb
    unfold hp at *;rw [this];exact e
   exact ⟨⟨by rw [←he];simp [Gv.env,hB.os,hB.tape,hB.output],by omega⟩,g,gd,zL gl hle,d,zL k hle,zL l hle,rr⟩
 ·cases hm
theorem aF.tab (hs:aF G K L w):Lib.TabIs prog w "internal/strconv.uint64pow10" .u64 Lib.pow10Tab:=by
 obtain ⟨_,⟨E,fr,h⟩,_⟩:=hs.laid
 have hg:prog.globalNamed "internal/strconv.uint64pow10"=some 4:=by kernel_rfl
 unfold Lib.TabIs World.var?
 rw [hg]
 simp only [Option.bind_some,h]
theorem dec0 {n:Int} (h0:-9223372036854775808<=n) (h1:n<=9223372036854775807) (w:World) (ht:Lib.TabIs prog w "internal/strconv.uint64pow10" .u64 Lib.pow10Tab):
  Calls prog 104 #[.int .i64 n] w fun e w'=>e=.returned (.string ⟨(Lib.itoa n).toArray⟩)/\∃ k os,w'=grow (w.drewN k) os:=by
 have hcon:=strconv_FormatInt_10 n h0 h1 w ht
 generalize (Lib.itoa n).toArray=r at hcon ⊢
 go_enter func104,ntmps104
 go_wp2_with (go_at_call 150;refine hcon.mono ?_;rintro e w' ⟨rfl,k,os,rfl⟩)
 go_ret
 exact ⟨rfl,k,os,rfl⟩
theorem nL {n:Int} {R:aL} (hs:aF G K L w) (hm:gN n=some R):
  Calls prog 104 ([i64 n]:List Value).toArray w (cL fun v w'=>v=str R/\aF G K L w'):=by
 unfold gN at hm
 split at hm
 ·rename_i h
  cases hm
  refine (dec0 h.1 h.2 w hs.tab).mono ?_
  rintro e w' ⟨rfl,k,os,rfl⟩
  exact ⟨_,rfl,rfl,hs.grow k os⟩
 ·cases hm
def Gr (w w':World):Prop:=Gv.env w'=Gv.env w/\(hp w).le (hp w')
theorem Gr.refl (w:World):Gr w w:=⟨rfl,Hp.le_refl _⟩
theorem Gr.trans {a b c:World} (h:Gr a b) (k:Gr b c):Gr a c:=⟨k.1.trans h.1,zL h.2 k.2⟩
theorem Gr.grows {w w':World} (h:eI w w'):Gr w w':=⟨h.env,h.le⟩
theorem Gr.below {w w':World} (h:RowKit.Below w.heap.size w w'):Gr w w':=⟨by simp [Gv.env,h.os,h.tape,h.output],fun b o e=>by
 have hb:b < w.heap.size:=(Array.getElem?_eq_some_iff.1 e).1
 have:=h.block b hb
 unfold hp at *;rw [this];exact e⟩
theorem bare_trim (s:aL):Lib.trimPrefix s [45]=bare s:=by
 unfold Lib.trimPrefix bare
 cases s with
 |nil=>rfl
 |cons c r=>
  by_cases h:c=45
  ·subst h;rfl
  ·have h':¬ (45:UInt8)=c:=fun e=>h e.symm
   have:Lib.hasPrefix (c::r) [45]=false:=by
    simp [Lib.hasPrefix,List.isPrefixOf,h']
   rw [this]
   simp only [Bool.false_eq_true,if_false]
   split
   ·rename_i h2;simp at h2;exact absurd h2.1 h
   ·rfl
theorem trim0 (s:aL) (w:World):Calls prog 242 #[.string ⟨⟨s⟩⟩,.string ⟨#[45]⟩] w fun e w'=>e=.returned (.string ⟨⟨bare s⟩⟩)/\w'=w:=by
 refine (strings_TrimPrefix ⟨⟨s⟩⟩ ⟨#[45]⟩ w).mono ?_
 rintro e w' ⟨rfl,rfl⟩
 exact ⟨by rw [←bare_trim],rfl⟩
theorem parse_bad {s:aL} (hl:s.length < iK) (h:∀ v,Lib.parseIntB 64 s≠.ok v) (w:World) (hw:aIe w):Calls prog 243 #[.string ⟨⟨s⟩⟩,.int .i64 10,.int .i64 64] w fun e w'=>∃ v te pe,e=.returned (.tuple #[.int .i64 v,.iface te pe])/\Gr w w':=by
 obtain ⟨_,_,⟨ev,h1,h2⟩,⟨er,h3,h4⟩,_⟩:=hw
 unfold iK at hl
 cases hp:Lib.parseIntB 64 s with
 |ok v=>exact absurd hp (h v)
 |range=>
  refine (strconv_ParseInt_10_at64_range ⟨⟨s⟩⟩ (by show s.length<=_;omega) hp er w h3 h4).mono ?_
  rintro e w' ⟨N,rfl,_,_,hB⟩
  exact ⟨_,_,_,rfl,Gr.below hB⟩
 |_=>
  refine (strconv_ParseInt_10_at64_syntax ⟨⟨s⟩⟩ (by show s.length<=_;omega) hp ev w h1 h2).mono ?_
  rintro e w' ⟨N,rfl,_,_,hB⟩
  exact ⟨_,_,_,rfl,Gr.below hB⟩
theorem bytes_gr (w:World) (t:ByteArray):Gr w (Lib.bytesWorld w 5 t):=Gr.below (Lib.bytesWorld_below _ _ _)
theorem rd_long {s:aL} (h:18 < (bare s).length) (w:World):Calls prog 202 #[.string ⟨⟨s⟩⟩] w fun e w'=>e=.returned (.tuple #[.int .i64 0,.bool false])/\w'=w:=by
 have hT:=fun W=>trim0 s W
 have h2:18 < (⟨⟨bare s⟩⟩:ByteArray).size:=h
 clear h
 generalize (⟨⟨bare s⟩⟩:ByteArray)=b at hT h2
 have hd:decide ((18:Int) < (b.size:Int))=true:=by simp only [decide_eq_true_eq];omega
 clear h2
 go_enter func202,ntmps202
 go_wp2_with (go_at_call 242;refine (hT _).mono ?_;rintro e w' ⟨rfl,rfl⟩)
 go_ret2
 exact ⟨rfl,rfl⟩
theorem rd_bad {s:aL} (hl:s.length < iK) (h:¬ 18 < (bare s).length) (hb:∀ v,Lib.parseIntB 64 s≠.ok v) (w:World) (hw:aIe w):Calls prog 202 #[.string ⟨⟨s⟩⟩] w fun e w'=>e=.returned (.tuple #[.int .i64 0,.bool false])/\Gr w w':=by
 have hT:=fun W=>trim0 s W
 have hP:=parse_bad hl hb w hw
 have h2:¬ 18 < (⟨⟨bare s⟩⟩:ByteArray).size:=h
 clear h
 generalize (⟨⟨bare s⟩⟩:ByteArray)=b at hT h2
 generalize (⟨⟨s⟩⟩:ByteArray)=t at hT hP ⊢
 have hd:decide ((18:Int) < (b.size:Int))=false:=by simp only [decide_eq_false_iff_not];omega
 clear h2 hb hw
 go_enter func202,ntmps202
 go_wp2_with (first|(go_at_call 242;refine (hT _).mono ?_;rintro e w' ⟨rfl,rfl⟩)|(go_at_call 243;refine hP.mono ?_;rintro e w' ⟨v,te,pe,rfl,hg⟩))
 go_ret2
 exact ⟨rfl,hg⟩
theorem rd_ok {s:aL} {v:Int} (h:¬ 18 < (bare s).length) (h0:-9223372036854775808<=v/\v<=9223372036854775807) (hs:s.length < iK) (hb:Lib.parseIntB 64 s=.ok v) (w:World) (ht:∀ W,Gr w W->Lib.TabIs prog W "internal/strconv.uint64pow10" .u64 Lib.pow10Tab):Calls prog 202 #[.string ⟨⟨s⟩⟩] w fun e w'=>e=.returned (.tuple #[.int .i64 (if Lib.itoa v=s then v else 0),.bool (decide (Lib.itoa v=s))])/\Gr w w':=by
 have hT:=fun W=>trim0 s W
 have hP:Calls prog 243 #[.string ⟨⟨s⟩⟩,.int .i64 10,.int .i64 64] w fun e w'=>e=.returned (.tuple #[.int .i64 v,.nilIface])/\Gr w w':=by
  refine (strconv_ParseInt_10_at64_ok ⟨⟨s⟩⟩ (by show s.length<=_;unfold iK at hs;omega) v hb w).mono ?_
  rintro e w' ⟨rfl,rfl|⟨t,rfl⟩⟩
  ·exact ⟨rfl,Gr.refl _⟩
  ·exact ⟨rfl,bytes_gr w t⟩
 have hD:∀ W,Gr w W->Calls prog 104 #[.int .i64 v] W fun e w'=>e=.returned (.string ⟨⟨Lib.itoa v⟩⟩)/\Gr w w':=fun W hg=>by
  refine (dec0 h0.1 h0.2 W (ht W hg)).mono ?_
  rintro e w' ⟨rfl,k,os,rfl⟩
  exact ⟨rfl,hg.trans (Gr.grows (eI.grow W k os))⟩
 have h2:¬ 18 < (⟨⟨bare s⟩⟩:ByteArray).size:=h
 clear h
 generalize (⟨⟨bare s⟩⟩:ByteArray)=b at hT h2
 have hd:decide ((18:Int) < (b.size:Int))=false:=by simp only [decide_eq_false_iff_not];omega
 clear h2 hb ht h0
 by_cases he:Lib.itoa v=s
 ·rw [he] at hD
  rw [if_pos he,decide_eq_true he]
  clear he
  generalize (⟨⟨s⟩⟩:ByteArray)=t at hT hP hD ⊢
  go_enter func202,ntmps202
  go_wp2_with (first|(go_at_call 242;refine (hT _).mono ?_;rintro e w' ⟨rfl,rfl⟩)|(go_at_call 243;refine hP.mono ?_;rintro e w' ⟨rfl,hg⟩)|(go_at_call 104;refine (hD _ hg).mono ?_;rintro e w' ⟨rfl,hg2⟩))
  go_ret2
  exact ⟨rfl,hg2⟩
 ·rw [if_neg he,decide_eq_false he]
  have hne:¬ (⟨⟨Lib.itoa v⟩⟩:ByteArray)=⟨⟨s⟩⟩:=fun e=>he (congrArg (fun x=>x.data.toList) e)
  clear he
  generalize (⟨⟨Lib.itoa v⟩⟩:ByteArray)=q at hD hne
  generalize (⟨⟨s⟩⟩:ByteArray)=t at hT hP hne ⊢
  have hq:(q.toList == t.toList)=false:=by
   cases hx:q.toList == t.toList with
   |false=>rfl
   |true=>exact absurd (ByteArray.ext (Array.toList_inj.1 (by simpa [ByteArray.toList_eq] using hx))) hne
  clear hne
  go_enter func202,ntmps202
  go_wp2_with (first|(go_at_call 242;refine (hT _).mono ?_;rintro e w' ⟨rfl,rfl⟩)|(go_at_call 243;refine hP.mono ?_;rintro e w' ⟨rfl,hg⟩)|(go_at_call 104;refine (hD _ hg).mono ?_;rintro e w' ⟨rfl,hg2⟩))
  go_ret2
  exact ⟨rfl,hg2⟩
theorem aF.gr {w':World} (hs:aF G K L w) (hG:G.lo=0) (h:Gr w w'):aF G K L w':=by
 obtain ⟨⟨he,_⟩,g,gd,gl,d,k,l,rr⟩:=hs
 exact ⟨⟨h.1.trans he,by omega⟩,g,gd,zL gl h.2,d,zL k h.2,zL l h.2,rr⟩
theorem aQk {s:aL} {v:Int} (h:Lib.parseIntB 64 s=.ok v):-9223372036854775808<=v/\v<=9223372036854775807:=by
 unfold Lib.parseIntB at h
 split at h
 ·cases h
 ·simp only at h
  split at h
  ·cases h
  ·cases h
  ·rename_i u _
   split at h
   ·cases h
   ·split at h
    ·cases h
    ·rename_i h1 h2
     have e:=Lib.NumEnd.ok.inj h
     have p:(2:Nat) ^ (64 - 1)=9223372036854775808:=by decide
     rw [p] at h1 h2
     rw [←e]
     split
     ·rename_i hn
      have:¬ 9223372036854775808 < u:=fun hu=>h2 ⟨hn,hu⟩
      omega
     ·rename_i hn
      have:¬ 9223372036854775808<=u:=fun hu=>h1 ⟨hn,hu⟩
      omega
theorem aLt {s:aL} {R:Int × Bool} (hs:aF G K L w) (hG:G.lo=0) (hm:sL s=some R):
  Calls prog 202 ([str s]:List Value).toArray w (cL fun v w'=>v=Value.tuple #[i64 R.1,Value.bool R.2]/\aF G K L w'):=by
 unfold sL at hm
 split at hm
 ·rename_i hl
  cases hm
  unfold iC
  by_cases h18:(bare s).length > 18
  ·rw [if_pos h18]
   refine (rd_long h18 w).mono ?_
   rintro e w' ⟨rfl,rfl⟩
   exact ⟨_,rfl,rfl,hs⟩
  ·rw [if_neg h18]
   cases hp:Lib.parseIntB 64 s with
   |ok v=>
    simp only
    refine (rd_ok h18 (aQk hp) hl hp w fun W hg=>(hs.gr hG hg).tab).mono ?_
    rintro e w' ⟨rfl,hg⟩
    refine ⟨_,rfl,?_,hs.gr hG hg⟩
    by_cases he:Lib.itoa v=s
    ·rw [if_pos he,if_pos he,decide_eq_true he];rfl
    ·rw [if_neg he,if_neg he,decide_eq_false he];rfl
   |range=>
    refine (rd_bad hl h18 (fun v e=>by rw [hp] at e;cases e) w hs.laid).mono ?_
    rintro e w' ⟨rfl,hg⟩
    exact ⟨_,rfl,rfl,hs.gr hG hg⟩
   |_=>
    refine (rd_bad hl h18 (fun v e=>by rw [hp] at e;cases e) w hs.laid).mono ?_
    rintro e w' ⟨rfl,hg⟩
    exact ⟨_,rfl,rfl,hs.gr hG hg⟩
 ·cases hm
end
end Gv
