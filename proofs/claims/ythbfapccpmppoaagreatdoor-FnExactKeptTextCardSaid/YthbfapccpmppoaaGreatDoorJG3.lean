/- The contract of the row; the card. -/
import Derived.Test.YthbfapccpmppoaaGreatDoorJZ
set_option linter.all false
namespace Go.Proofs.YthbfapccpmppoaaGreatDoor.fnKpT
open Go.ChangeShapes Go.WideShapes Go.ChangeAt Go.RowKit Gv
theorem aOi {H:Type} {enc:TypeId × Value->H} {P:Program} {f:Func} {s:ChangeSpec} {apart fresh handsOn again:Bool} {W W':World} {args:Array Value} {v:Value} {ds gs:List (DataW H)} {before pa pv:List MemPlace}
  (hW:DataW.Whole enc P f.params.toList s.vars apart W args.toList ds gs before)
  (hres:∀ (b:Nat) (sp:Nat->Bool) (hd:Bool),DataW.TrodAll enc P W' b sp hd f.resultTypes.toList (v.resultList f.resultTypes.size) (s.fn H (ds++gs)).results [])
  (hargs:∀ sp:Nat->Bool,(∀ p∈before,sp p.block=true)->DataW.TrodAll enc P W' 0 sp true f.params.toList args.toList (s.fn H (ds++gs)).args pa)
  (hvars:∀ sp:Nat->Bool,(∀ p∈before,sp p.block=true)->DataW.TrodVars enc P W' sp s.vars (s.fn H (ds++gs)).vars pv)
  (hps:before=pa++pv) (hb:Below W.heap.size W W')
  (hok:∀ (j:Nat) (t:TypeId) (r:Value),f.resultTypes[j]?=some t->(v.resultList f.resultTypes.size)[j]?=some r->Value.okWide P W' .any 0 t r):
  s.post enc P f apart fresh handsOn again W args v W':=by
 have hold:∀ p∈before,(fun b=>decide (b < W.heap.size)) p.block=true:=fun p hp=>by simpa using hW.lt p hp
 have hlt:∀ p∈before,p.block < W.heap.size:=fun p hp=>hW.lt p hp
 refine ⟨ds,gs,before,[],pa,pv,hW,hres _ _ _,hargs _ hold,hvars _ hold,World.keptBut_mono (fun p hp=>⟨hp,?_⟩) (hb.frame (·∈before)),fun _=>?_⟩
 ·rw [hps,List.mem_append] at hp
  exact Or.inr hp
 ·obtain ⟨_,_,_,_,_,hz,hn⟩:=hW
  refine ⟨hok,_,_,([]++pa)++pv,⟨[]++pa,pv,trodAll_append (hargs _ (fun _ _=>rfl)) (hres _ _ _),hvars _ (fun _ _=>rfl),rfl,?_,?_⟩,?_⟩
  ·intro b off hp
   have hp':MemPlace.cell b off∈before:=by rw [hps];simpa using hp
   rw [hb.frozen (p:=⟨b,off,none⟩) (hlt _ hp')]
   exact hz b off hp'
  ·intro ha
   have:=hn ha
   rw [hps] at this
   simpa using this
  ·intro p hp _
   rw [hps]
   simpa using hp
theorem aV:ownKnob Tryz.prog.godebug=none:=by kernel_rfl
theorem under33s:∃ fs,Tryz.prog.underlying 33=some (.struct fs):=⟨_,Tryz.underlying33⟩
theorem rec33:Tryz.prog.readableRec 33=true:=by kernel_rfl
theorem lt33:33 < Tryz.prog.types.size:=of_decide_eq_true (by kernel_rfl)
theorem under4:Tryz.prog.underlying 4=some .bool:=by kernel_rfl
theorem laidOut:laidOutB Tryz.prog=true:=by kernel_rfl
set_option maxRecDepth 100000 in
theorem contract (H:Type) (enc:TypeId × Value->H) (W:World) (base:Nat) (args:Array Value) (ds gs:List (DataW H)) (before:List MemPlace)
  (hval:∀ (j:Nat) t v,Tryz.f3.params[j]?=some t->args[j]?=some v->Value.okWide Tryz.prog W .any base t v)
  (hW:DataW.Whole enc Tryz.prog Tryz.f3.params.toList Rows.fnExactKeptTextSpec.vars false W args.toList ds gs before) (hL:laidMetH Tryz.prog Rows.fnExactKeptTextRow.laid W) (hS:W.ShapedOpen Tryz.prog):
  Calls Tryz.prog 3 args W fun e W'=>∃ v,e=.returned v/\Rows.fnExactKeptTextSpec.post enc Tryz.prog Tryz.f3 false true false false W args v W':=by
 have hW':=hW
 obtain ⟨p,q,hA0,hV,rfl,hfz,hnd⟩:=hW
 have hA:DataW.TrodAll enc Tryz.prog W 0 (fun _=>true) true Tryz.f3.params.toList args.toList ds p:=hA0
 rw [Tryz.params3] at hA hval
 obtain ⟨v0,vs0,d0,ds0,p0,q0,hargs,rfl,rfl,h0,r0⟩:=trodAll_cons hA
 obtain ⟨rfl,rfl,rfl⟩:=trodAll_nil r0
 obtain rfl:args=#[v0]:=by cases args;simp_all
 obtain ⟨_,_,_,_,ga,_,_,_,_,_,gb,_,rfl,_⟩:=trodVars_two (n0:= "loop.example/g01075/impl.operatorTexts") (n1:= "loop.example/g01075/impl.levels") hV
 obtain ⟨fs0,hfs0⟩:=under33s
 obtain ⟨c0,rfl,_⟩:=okWide_struct hfs0 (hval 0 33 v0 rfl rfl)
 clear hA0
 simp only [List.append_nil] at hW'
 refine (walk0 (laid0 hL hS) h0).mono fun e W' ⟨he,hb⟩=>?_
 subst he
 have hlt0:∀ x∈p0,x.block < W.heap.size:=fun x hx=>hW'.lt x (List.mem_append_left _ (hx))
 have k0:=fun (sp:Nat->Bool) (hsp:∀ x∈p0,sp x.block=true)=>WideElems.Trod_stays laidOut rec33 lt33 h0 (fun x hx=>hb.same (hlt0 x hx)) hsp
 exact ⟨_,rfl,aOi (pa:=p0) (pv:=q) hW' (fun _ _ _=>trodAll_cons_mk (shut_bool under4 _) trodAll_mk0)
  (fun sp hsp=>by
   rw [show p0=p0++[] by simp]
   exact trodAll_cons_mk (k0 sp fun x hx=>hsp x (List.mem_append_left _ (hx))) trodAll_mk0)
  (fun sp hsp=>Gv.trodVars_sp laidOut hb (by kernel_rfl) hV (fun x hx=>hsp x (List.mem_append_right _ hx))) (by simp) hb (ok_one (by kernel_rfl) rfl (okWide_bool_mk under4 _))⟩
end Go.Proofs.YthbfapccpmppoaaGreatDoor.fnKpT
