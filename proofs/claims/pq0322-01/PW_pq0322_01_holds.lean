import PyProof.Rows.All
import Wide.All
import OpenK.AllK
import Wide.FinOn
import Lean
import PySem.Challenge.RW_pq0322_01
set_option Elab.async false
set_option linter.all false
set_option genSizeOf false
set_option genInjectivity false
set_option compiler.extract_closed false
set_option hygiene false
noncomputable section
open _root_.List renaming length_append->aa,append_assoc->af,length_map->ax,append_nil->ay,mem_append_right->az,not_mem_nil->aD,mem_cons->aE,casesOn->aF,map_append->aJ,replicate->aM,mem_append_left->aN,mem_singleton->aQ,mem_append->aU,length->bl,reverse_append->bD,cons_append->bH,length_replicate->bP,length_nil->bQ,length_cons->cg,isEmpty_iff->cj,take_append_drop->cw,reverse_cons->cG,nil_append->cN,filterMap_cons_some->cV,length_reverse->c7,map_cons->dm,eq_nil_of_length_eq_zero->dr,mem_map->dv,nodup_cons->dw,filterMap_cons_none->dB,all_eq_true->dC,map_replicate->d3,length_drop->d6,cons_ne_nil->d7,append_eq_nil_iff->eI,append_eq_append_iff->eT,length_take->eX,range->fB,getElem?_eq_some_iff->gk,flatMap_append->hU,mem_reverse->hZ,filter_cons_of_pos->h9,mem_filter->iR,length_range->jh,reverse_reverse->jy,getLast?_concat->jz,map_map->jI,getElem?_eq_none_iff->jR,getElem?_eq_getElem->j5,mem_filterMap->kK,append_cancel_left->kN,getElem?_map->lR,drop_of_length_le->lS,replicate_append_replicate->mB,concat_eq_append->mV,length_take_le'->og,mem_map_of_mem->pB,zip_cons_cons->qC,foldr_append->rS,take_length->sW,map_reverse->sX,filter_cons_of_neg->sY,filter_cons->sZ,drop_eq_nil_of_le->uN,eq_nil_or_concat->vg,take_left->xK,range_eq_range'->xM,drop_left->xN,perm_singleton->yO,filter_sublist->yP,drop_nil->zI,append_ne_nil_of_right_ne_nil->zO,map_inj_left->Bw,lookup_cons->Di,take_append_of_le_length->Ea,map->Gr,getElem?_append_right->Gs,drop_eq_getElem_cons->Hn,take_nil->Ia,map_drop->Ib,length_filterMap_le->Ic,append_cancel_right->Ie,any_cons->Ig,all_cons->Ih,flatMap_singleton->JS,length_filter_le->L8,getElem?_toArray->L9,range'->Mm,mem_of_mem_drop->Mn,lookup->Mo,map_congr_left->NX,length_take_le->NY,length_pos_iff->NZ,append_toArray->N0,mem_replicate->Pu,size_toArray->QT,nodup_append->QU,foldl_append->QV,flatMap_cons->QW,any_eq_false->QX,mem_toArray->Rk,mem_flatMap->Rl,any_eq_true->Rm,forIn_cons->U1,foldl_cons->U2,take_take->Vj,perm_cons->Vk,drop_zero->Vl,toArray->Y',foldl->a2h
open _root_.Nat renaming le_trans->ah,blt->ai,beq->a9,lt_of_le_of_lt->bc,le_of_ble_eq_true->bh,le_add_right->bq,add_le_add_right->bN,eq_of_beq_eq_true->bR,succ_le_succ->bU,ne_of_lt->cb,zero_le->cy,succ_ne_zero->cF,le_refl->cM,zero_add->cQ,le_of_eq->cR,add_le_add_left->c9,lt_succ_of_lt->dH,min_eq_left->eS,le_of_succ_le_succ->fS,succ_pos->gX,lt_succ_self->ij,add_le_add->ik,le_succ->iF,pos_of_ne_zero->iN,le_succ_of_le->ji,add_comm->jQ,add_right_comm->kM,casesOn->kQ,ne_of_beq_eq_false->lZ,le_of_succ_le->l5,le_of_add_right_le->l6,min_eq_right->od,not_succ_le_zero->oJ,mul_le_mul_left->pG,mul_left_comm->rX,add_sub_cancel_left->um,le_total->u7,le_of_lt->u9,ble->va,le_add_left->ve,mul_assoc->zL,lt_irrefl->zM,add_assoc->zN,lt_of_lt_of_eq->Br,pow_succ->Cz,succ_ne_self->D',not_lt->Hm,mul_succ->L7,sub_eq_zero_of_le->Mk,ble_eq_true_of_le->Ml,sub_lt_sub_left->Pt,lt_of_succ_lt->Ri,div->Rj,max_eq_right->U0,two_pow_pos->Vg,strongRecOn->Vh,max_eq_left->Vi,sub_self->a1R,min_self->a1S,lt_trans->a1T,beq_refl->a1U,mul_pos->a2g,not_le->a4F
open _root_.Bool renaming and_eq_true_iff->ao,false_ne_true->aq,not_eq_true'->bu,or_eq_true_iff->bK,false_eq_true->zP,and_true->Ij,or_eq_false_iff->Mp,eq_false_iff->QZ
open _root_.Option.some renaming inj->aA
open _root_.Int renaming lt_irrefl->aP,le_trans->aS,sub_nonneg_of_le->bk,le_of_lt->bp,sub_right_le_of_le_add->bt,natCast_nonneg->bJ,toNat_of_nonneg->bL,ofNat_lt->cB,ofNat_le->cK,toNat_natCast->cS,not_lt->dc,lt_asymm->dI,add_sub_cancel->dM,le_refl->dU,add_zero->fh,natCast_add->fH,lt_trans->fT,lt_of_le_of_lt->gg,sub_le_sub_right->gY,lt_of_lt_of_le->iO,le_antisymm->kL,toNat_le->l7,lt_succ->oK,add_pos_of_pos_of_nonneg->pC,zero_add->qB,add_assoc->sU,lt_iff_le_and_ne->yc,add_lt_add_right->yd,add_le_add_left->zJ,not_le->Bs,sub_pos_of_lt->CA,ne_of_lt->CB,le_of_eq->CC,max_eq_right->Eb,sub_nonneg->Ho,add_nonneg->Hp,add_nonneg_iff_neg_le->Ii,toNat_add->JH,eq_ofNat_of_zero_le->JT,ne_of_gt->Ma,lt_or_eq_of_le->QY,min_eq_right->U3,sub_eq_zero->Vm,min_eq_left->Vn,ofNat_sub->Za,sub_zero->a1V,add_comm->a1W
open _root_.Exists renaming imp->bj
open _root_.Option renaming map_eq_some_iff->bZ,bind_eq_some_iff->dG,isNone_iff_eq_none->eO,isSome_iff_exists->jS,bind_some->rV,ne_none_iff_exists'->Eo,none->JQ,some_ne_none->L6,map->Y9
open _root_.And renaming imp_right->cD,imp_left->dR,imp->vc
open _root_.Int.ofNat renaming inj->cO
open _root_.Classical renaming byContradiction->eJ,em->rT,not_not->a5Q
open _root_.Prod.mk renaming inj->fJ
open _root_.PyProof.Rows renaming slot_tuple_getitem->f9,sub_int->a10,ne_str->a11,ne_int->a12,mul_int->a13,mod_int->a14,lt_int->a15,le_int->a16,gt_int->a17,getItem_tuple->a18,ge_int->a19,floordiv_int->a2a,eq_str->a2b,eq_int->a2c,entry_tuple_getitem->a2d,args_tuple_getitem->a2e,add_int->a2f
open _root_.Prod renaming ext->lQ,fst->Gq,snd->Mj
open _root_.List.cons renaming inj->lT
open _root_.Nat.succ renaming inj->rW
open _root_.ForInStep renaming yield->rY
open _root_.PySem.AutoSeq1 renaming wpAny_loadPart'->vd,sub_tuple_tuple->Y8
open _root_.Array renaming toList_append->ye,getElem?_toList->JU,mem_toList_iff->Mb,length_toList->Mq,find?_toList->N4,toList_inj->Q0
open _root_.Or renaming imp_right->Dh,imp_left->Pr
open _root_.PySem.F renaming slot_list_extend->Gk,slot_list_pop->H9,slot_int_rmul->H'
open _root_.False renaming elim->Gl
open _root_.PySem renaming slot_list_append->JG,wpAny_listItems->JP,call->a1Q
open _root_.Nat.le renaming dest->JR
open _root_.Ne renaming symm->UZ
open _root_.PySem.Challenge renaming rw_pq0322_01->XZ,pw_pq0322_01->X0
open _root_.Eq renaming symm->a2i
open _root_.PySem.SeqAt renaming eqv_refl->a4E
namespace Mine.Internal
@[elab_as_elim] theorem rwl {α : Sort u} {a b : α} {P : α → Prop} (h : a = b) (p : P b) : P a := h ▸ p
@[elab_as_elim] theorem rwr {α : Sort u} {a b : α} {P : α → Prop} (h : a = b) (p : P a) : P b := h ▸ p
def stM (w : String) : Lean.MacroM (Lean.TSyntax `tactic) := do
  let p := w.splitOn "/"
  let i := Lean.mkIdent (.mkSimple (p.headD ""))
  if p.length == 1 then `(tactic| with_reducible refine $i ?_) else
  let t ← `(tactic| ((fail_if_success (fail_if_success (with_reducible refine' $i ..))); with_reducible apply $i))
  let t ← (p.getD 1 "").toList.foldlM (init := t) fun t c => match c with
    | 'r' => `(tactic| ($t:tactic; exact rfl))
    | 'b' => `(tactic| ($t:tactic; k_caughtB))
    | 'n' => `(tactic| ($t:tactic; exact Nat.le_of_ble_eq_true rfl))
    | 'a' => `(tactic| ($t:tactic <;> assumption))
    | _ => `(tactic| ($t:tactic; rotate_left))
  `(tactic| focus $t:tactic)
def fiM (s : String) : Lean.MacroM (Lean.TSyntax `tactic) := do
  let a := ((← (s.splitOn " ").mapM stM)).toArray
  `(tactic| first $[| $a:tactic]*)
def rwM (a : Array (Lean.TSyntax `Lean.Parser.Tactic.rwRule)) : Lean.MacroM (Lean.TSyntax `tactic) := do
  let a ← a.mapM fun r => do
    let h : Lean.Term := ⟨r.raw[1]⟩
    let f := Lean.mkIdent (if r.raw[0].isNone then `rwl else `rwr)
    `(tactic| first | refine $f $h ?_ | refine $f ($h ..) ?_ | rewrite +offsetCnstrs [$r])
  `(tactic| ($[$a]*))
end Mine.Internal
local macro_rules | `(tactic| rewrite [$rs,*]) => Mine.Internal.rwM rs.getElems
local macro_rules | `(tactic| k_caughtB) => do `(tactic| first | assumption | $(← Mine.Internal.fiM "ak/ rz/a RQ/a ZG/a"):tactic)
local macro_rules | `(tactic| k_caught0) => Mine.Internal.fiM "a2Q/r V8/rr ZS/11r1br Oi Oj V6 a2O a0a/b Km/r SH/br a2F/r R8/rr a2X/br R7/r N9 ZD N7 th Hx Iu WQ Th N8 a0C RC Rz Iq Vz VA yT Zy Iv VF Zz a0H a0E Zl Zp a2r VG RK Zm Zo Zn Vx Vy Zk OB WM VB Zw VE MC a2w Zx Zv RI VC Zu VD ZA a2x VH RL RH RG RM VI WL WJ a3g a3h a3i a3j mc_eq Ym a0x a0v a0w a0u Tc a0A a0B a0z Ti Tg P2 a0F a0G Qa P9 a0P H7 Pd NQ a1C Qv Oq a0b Wk ZM/r X6/rr a2E/r P1/r Z7/r SE/r a2C/r Yc/b a2Z/b Z0/b MW/n Z4/n Z3/n Z2/n Z1/n a43/bb SG/bb a0c/b Wl/b a45/r"
local macro_rules | `(tactic| k_in) => `(tactic| repeat k_caught0)
local macro_rules | `(tactic| k_go) => do `(tactic| repeat (first | k_caught0 | ($(← Mine.Internal.stM "tA/br"):tactic; first | $(← Mine.Internal.fiM "S2/ a49/ a5a/ a47/ a48/"):tactic | exact rfl)))
namespace Mine.Internal
open PySem
noncomputable def BD:List Nat→Bool
 |[]=>true
 |c::r=>ai c 127&&BD r
noncomputable def yn:List Nat→Nat
 |[]=>0
 |c::r=>c+1+128*yn r
noncomputable def GZ:List Nat→Nat
 |[]=>0
 |c::r=>2^c*(2*GZ r+1)
noncomputable def no(s:Str):Nat:=bif BD s.cps.toList then 2*yn s.cps.toList else 2*GZ s.cps.toList+1
theorem HT:∀{a b:List Nat},BD a=true→BD b=true→yn a=yn b→a=b
 |[],[],_,_,_=>rfl
 |[],d::t,_,_,h=>absurd h (by show 0≠d+1+128*yn t;lia)
 |c::r,[],_,_,h=>absurd h (by show c+1+128*yn r≠0;lia)
 |c::r,d::t,ha,hb,h=>by
  have ha:=ao.mp ha;have hb:=ao.mp hb;have h1:c<127:=bh ha.1;have h2:d<127:=bh hb.1;have h:c+1+128*yn r=d+1+128*yn t:=h;rw[HT ha.2 hb.2 (by lia:yn r=yn t),show c=d by lia]
theorem Ou{x y:Nat}:∀{c d:Nat},2^c*(2*x+1)=2^d*(2*y+1)→c=d∧x=y
 |0,0,h=>⟨rfl,by lia⟩
 |0,d+1,h=>by rw[Cz,zL,rX]at h;lia
 |c+1,0,h=>by rw[Cz,zL,rX]at h;lia
 |c+1,d+1,h=>by
  rw[Cz,Cz,zL,rX,zL,rX (2^d)]at h;have:=Ou (x:=x) (y:=y) (c:=c) (d:=d) (Nat.eq_of_mul_eq_mul_left (by decide) h)
  exact⟨by rw[this.1],this.2⟩
theorem Ln:∀{a b:List Nat},GZ a=GZ b→a=b
 |[],[],_=>rfl
 |[],d::t,h=>by
  have h:0=2^d*(2*GZ t+1):=h;exact absurd h (cb (a2g (Vg d) (gX (2*GZ t))))
 |c::r,[],h=>by
  have h:2^c*(2*GZ r+1)=0:=h;exact absurd h.symm (cb (a2g (Vg c) (gX (2*GZ r))))
 |c::r,d::t,h=>by
  obtain⟨h1,h2⟩:=Ou (h:2^c*(2*GZ r+1)=2^d*(2*GZ t+1));rw[h1,Ln h2]
theorem Nb{a b:Str}(h:no a=no b):a=b:=by
 have:a.cps.toList=b.cps.toList:=by
  unfold no at h;cases ha:BD a.cps.toList<;>cases hb:BD b.cps.toList<;>rw[ha,hb]at h<;>simp only[cond_true,cond_false]at h
  ·exact Ln (by lia)
  ·lia
  ·lia
  ·exact HT ha hb (by lia)
 cases a;cases b;exact congrArg Str.mk (Q0.mp this)
noncomputable def is1:Nat→Bool
 |1=>true
 |_=>false
theorem TN{a b:Nat}:is1 (a+a+1-(b+b))=decide (a=b):=by
 by_cases h:a=b
 ·rw[h,show b+b+1-(b+b)=1 by lia,decide_eq_true rfl];rfl
 ·rw[decide_eq_false h];by_cases h2:a<b
  ·rw[show a+a+1-(b+b)=0 by lia];rfl
  ·obtain⟨k,e⟩:∃k,a+a+1-(b+b)=k+2:=⟨a+a-1-(b+b),by lia⟩
   rw[e];rfl
noncomputable def sm(a b:Str):Bool:=is1 (no a+no a+1-(no b+no b))
theorem Ed(a:Str):sm a a=true:=TN.trans (decide_eq_true rfl)
theorem Kx{a b:Str}(h:a≠b):sm a b=false:=TN.trans (decide_eq_false λe=>h (Nb e))
theorem Cc{Px:Type}{p:Px→Prop}{G:Prop}(h:∃a0,p a0)(f:∀a0,p a0→G):G:=h.elim λa0 h=>f a0 h
theorem iA{Px Ro:Type}{p:Px→Ro→Prop}{G:Prop}(h:∃a0 a1,p a0 a1)(f:∀a0 a1,p a0 a1→G):G:=h.elim λa0 h=>h.elim λa1 h=>f a0 a1 h
theorem JM{Px Ro Vp:Type}{p:Px→Ro→Vp→Prop}{G:Prop}(h:∃a0 a1 a2,p a0 a1 a2)(f:∀a0 a1 a2,p a0 a1 a2→G):G:=h.elim λa0 h=>h.elim λa1 h=>h.elim λa2 h=>f a0 a1 a2 h
theorem Jf{Px Ro Vp Zc:Type}{p:Px→Ro→Vp→Zc→Prop}{G:Prop}(h:∃a0 a1 a2 a3,p a0 a1 a2 a3)(f:∀a0 a1 a2 a3,p a0 a1 a2 a3→G):G:=h.elim λa0 h=>h.elim λa1 h=>h.elim λa2 h=>h.elim λa3 h=>f a0 a1 a2 a3 h
theorem ex5{Px Ro Vp Zc α4:Type}{p:Px→Ro→Vp→Zc→α4→Prop}{G:Prop}(h:∃a0 a1 a2 a3 a4,p a0 a1 a2 a3 a4)(f:∀a0 a1 a2 a3 a4,p a0 a1 a2 a3 a4→G):G:=h.elim λa0 h=>h.elim λa1 h=>h.elim λa2 h=>h.elim λa3 h=>h.elim λa4 h=>f a0 a1 a2 a3 a4 h
theorem ex6{Px Ro Vp Zc α4 α5:Type}{p:Px→Ro→Vp→Zc→α4→α5→Prop}{G:Prop}(h:∃a0 a1 a2 a3 a4 a5,p a0 a1 a2 a3 a4 a5)(f:∀a0 a1 a2 a3 a4 a5,p a0 a1 a2 a3 a4 a5→G):G:=h.elim λa0 h=>h.elim λa1 h=>h.elim λa2 h=>h.elim λa3 h=>h.elim λa4 h=>h.elim λa5 h=>f a0 a1 a2 a3 a4 a5 h
theorem Xo{Px Ro Vp Zc α4 α5 α6:Type}{p:Px→Ro→Vp→Zc→α4→α5→α6→Prop}{G:Prop}(h:∃a0 a1 a2 a3 a4 a5 a6,p a0 a1 a2 a3 a4 a5 a6)(f:∀a0 a1 a2 a3 a4 a5 a6,p a0 a1 a2 a3 a4 a5 a6→G):G:=h.elim λa0 h=>h.elim λa1 h=>h.elim λa2 h=>h.elim λa3 h=>h.elim λa4 h=>h.elim λa5 h=>h.elim λa6 h=>f a0 a1 a2 a3 a4 a5 a6 h
theorem rU{A0 A1 G:Prop}(h:A0∧A1)(f:A0→A1→G):G:=f h.1 h.2
theorem oe{A0 A1 A2 G:Prop}(h:A0∧A1∧A2)(f:A0→A1→A2→G):G:=f h.1 h.2.1 h.2.2
theorem an4{A0 A1 A2 A3 G:Prop}(h:A0∧A1∧A2∧A3)(f:A0→A1→A2→A3→G):G:=f h.1 h.2.1 h.2.2.1 h.2.2.2
theorem an5{A0 A1 A2 A3 A4 G:Prop}(h:A0∧A1∧A2∧A3∧A4)(f:A0→A1→A2→A3→A4→G):G:=f h.1 h.2.1 h.2.2.1 h.2.2.2.1 h.2.2.2.2
theorem an7{A0 A1 A2 A3 A4 A5 A6 G:Prop}(h:A0∧A1∧A2∧A3∧A4∧A5∧A6)(f:A0→A1→A2→A3→A4→A5→A6→G):G:=f h.1 h.2.1 h.2.2.1 h.2.2.2.1 h.2.2.2.2.1 h.2.2.2.2.2.1 h.2.2.2.2.2.2
noncomputable def gO:Str:=⟨#[66,79,85,78,68,65,82,89]⟩
noncomputable def J5:Str:=⟨#[66,117,102,102,101,114]⟩
noncomputable def Hw:Str:=⟨#[71,97,112,84,101,120,116]⟩
noncomputable def mH:Str:=⟨#[73,110,116,101,114,118,97,108]⟩
noncomputable def vE:Str:=⟨#[73,110,116,101,114,118,97,108,84,114,101,101]⟩
noncomputable def Hv:Str:=⟨#[76,79,78,71,69,83,84]⟩
noncomputable def jF:Str:=⟨#[76,105,115,112,83,105,103,110,97,108]⟩
noncomputable def EC:Str:=⟨#[77,97,114,107,101,114]⟩
noncomputable def Hu:Str:=⟨#[77,97,114,107,101,114,115]⟩
noncomputable def a2n:Str:=⟨#[79,112,97,113,117,101]⟩
noncomputable def N6:Str:=⟨#[80,105,101,99,101]⟩
noncomputable def CJ:Str:=⟨#[82,101,99,111,114,100,105,110,103]⟩
noncomputable def CI:Str:=⟨#[84,101,120,116,80,114,111,112,115]⟩
noncomputable def EB:Str:=⟨#[85,110,100,111,76,105,115,116]⟩
noncomputable def Zf:Str:=⟨#[95,95,105,110,105,116,95,95]⟩
noncomputable def vC:Str:=⟨#[95,108,97,119,95,99,111,109,109,97,110,100]⟩
noncomputable def dA:Str:=⟨#[95,108,97,119,95,100,114,97,119]⟩
noncomputable def jE:Str:=⟨#[95,108,97,119,95,115,116,97,116,101]⟩
noncomputable def lh:Str:=⟨#[95,108,97,119,95,115,116,114,101,116,99,104]⟩
noncomputable def ry:Str:=⟨#[95,108,97,119,95,117,110,100,111,110,101]⟩
noncomputable def a4I:Str:=⟨#[95,119,97,108,108]⟩
noncomputable def x_a:Str:=⟨#[97]⟩
noncomputable def tf:Str:=⟨#[97,98,111,118,101]⟩
noncomputable def pL:Str:=⟨#[97,98,111,118,101,95,98,111,117,110,100,97,114,105,101,115]⟩
noncomputable def Ht:Str:=⟨#[97,98,115]⟩
noncomputable def fN:Str:=⟨#[97,100,100,95,97,98,111,118,101]⟩
noncomputable def iy:Str:=⟨#[97,100,118,97,110,99,101,115]⟩
noncomputable def pK:Str:=⟨#[97,102,116,101,114,95,99,104,97,110,103,101]⟩
noncomputable def ja:Str:=⟨#[97,104,101,97,100]⟩
noncomputable def d4:Str:=⟨#[97,112,112,101,110,100]⟩
noncomputable def qT:Str:=⟨#[97,114,101,95,99,111,100,101,115]⟩
noncomputable def x_at:Str:=⟨#[97,116]⟩
noncomputable def mG:Str:=⟨#[98,101,97,116]⟩
noncomputable def jU:Str:=⟨#[98,101,102,111,114,101]⟩
noncomputable def ux:Str:=⟨#[98,101,102,111,114,101,95,99,104,97,110,103,101]⟩
noncomputable def bA:Str:=⟨#[98,101,102,111,114,101,95,109,97,114,107,101,114,115]⟩
noncomputable def aT:Str:=⟨#[98,101,103,105,110]⟩
noncomputable def Q2:Str:=⟨#[98,101,103,105,110,95,99,111,109,109,97,110,100]⟩
noncomputable def vB:Str:=⟨#[98,101,103,118]⟩
noncomputable def EA:Str:=⟨#[98,111,111,108]⟩
noncomputable def fW:Str:=⟨#[98,111,117,110,100,97,114,121]⟩
noncomputable def ae:Str:=⟨#[98,117,102,102,101,114]⟩
noncomputable def My:Str:=⟨#[99,101,108,108]⟩
noncomputable def fo:Str:=⟨#[99,101,108,108,115]⟩
noncomputable def cf:Str:=⟨#[99,104,97,110,103,101,100]⟩
noncomputable def gF:Str:=⟨#[99,104,97,110,103,101,100,95,112,114,111,112,101,114,116,105,101,115]⟩
noncomputable def a4H:Str:=⟨#[99,108,101,97,114]⟩
noncomputable def x_code:Str:=⟨#[99,111,100,101]⟩
noncomputable def a1Y:Str:=⟨#[99,111,100,101,95,97,116]⟩
noncomputable def ba:Str:=⟨#[99,111,100,101,115]⟩
noncomputable def mX:Str:=⟨#[99,111,100,101,115,95,116,105,99,107,115]⟩
noncomputable def N5:Str:=⟨#[99,111,117,110,116]⟩
noncomputable def Mx:Str:=⟨#[100,97,116,97]⟩
noncomputable def di:Str:=⟨#[100,101,99,107]⟩
noncomputable def gE:Str:=⟨#[100,101,108,101,116,101]⟩
noncomputable def vA:Str:=⟨#[100,101,108,101,116,101,95,114,97,110,103,101]⟩
noncomputable def Py:Str:=⟨#[100,101,108,101,116,101,100]⟩
noncomputable def eY:Str:=⟨#[100,105,102,102,101,114,101,110,99,101]⟩
noncomputable def eh:Str:=⟨#[100,105,115,116,97,110,99,101]⟩
noncomputable def Ze:Str:=⟨#[100,114,111,112]⟩
noncomputable def j0:Str:=⟨#[100,114,111,112,95,105,110,116,101,114,118,97,108]⟩
noncomputable def xy:Str:=⟨#[100,114,111,112,112,101,100]⟩
noncomputable def J4:Str:=⟨#[100,117,101]⟩
noncomputable def f6:Str:=⟨#[101,108,100,101,114]⟩
noncomputable def aH:Str:=⟨#[101,110,100]⟩
noncomputable def Vs:Str:=⟨#[101,113]⟩
noncomputable def z0:Str:=⟨#[101,120,116,101,110,100]⟩
noncomputable def Mw:Str:=⟨#[102,105,108,101]⟩
noncomputable def cE:Str:=⟨#[102,105,110,100,95,105,110,116,101,114,118,97,108]⟩
noncomputable def dO:Str:=⟨#[102,105,114,115,116]⟩
noncomputable def qS:Str:=⟨#[102,111,108,108,111,119,105,110,103]⟩
noncomputable def bG:Str:=⟨#[102,111,117,110,100]⟩
noncomputable def x_fresh:Str:=⟨#[102,114,101,115,104]⟩
noncomputable def cJ:Str:=⟨#[103,97,112,95,101,110,100]⟩
noncomputable def bM:Str:=⟨#[103,97,112,95,115,116,97,114,116]⟩
noncomputable def iT:Str:=⟨#[103,111,110,101]⟩
noncomputable def Ip:Str:=⟨#[103,111,116,111]⟩
noncomputable def zZ:Str:=⟨#[103,114,111,119,116,104]⟩
noncomputable def eZ:Str:=⟨#[104,101,114,101]⟩
noncomputable def bI:Str:=⟨#[104,105,103,104]⟩
noncomputable def fO:Str:=⟨#[104,105,115,116,111,114,121]⟩
noncomputable def jD:Str:=⟨#[104,111,108,100,115,95,112,97,105,114]⟩
noncomputable def xx:Str:=⟨#[104,117,110,103,95,105,110]⟩
noncomputable def te:Str:=⟨#[104,117,110,103,95,111,117,116]⟩
noncomputable def ee:Str:=⟨#[105,110,115,101,114,116]⟩
noncomputable def qR:Str:=⟨#[105,110,115,101,114,116,95,97,116]⟩
noncomputable def qQ:Str:=⟨#[105,110,115,101,114,116,95,105,110,116,101,114,118,97,108]⟩
noncomputable def vz:Str:=⟨#[105,110,115,101,114,116,95,112,105,101,99,101]⟩
noncomputable def Mv:Str:=⟨#[105,110,115,101,114,116,101,100]⟩
noncomputable def a5R:Str:=⟨#[105,110,116]⟩
noncomputable def kY:Str:=⟨#[105,115,95,97,100,118,97,110,99,105,110,103]⟩
noncomputable def r7:Str:=⟨#[105,115,95,97,116,95,98,111,117,110,100,97,114,121]⟩
noncomputable def jl:Str:=⟨#[105,115,95,98,101,102,111,114,101]⟩
noncomputable def td:Str:=⟨#[105,115,95,102,105,114,115,116]⟩
noncomputable def By:Str:=⟨#[105,115,95,108,105,118,101]⟩
noncomputable def bz:Str:=⟨#[105,115,95,109,111,100,105,102,105,101,100]⟩
noncomputable def tc:Str:=⟨#[105,115,95,111,110]⟩
noncomputable def gB:Str:=⟨#[105,115,95,112,111,105,110,116,95,98,101,104,105,110,100]⟩
noncomputable def jk:Str:=⟨#[105,115,95,114,101,97,100,95,111,110,108,121]⟩
noncomputable def xw:Str:=⟨#[105,115,95,115,111]⟩
noncomputable def Ez:Str:=⟨#[105,115,95,118,97,108,117,101]⟩
noncomputable def Zd:Str:=⟨#[105,115,95,119,104,111,108,101]⟩
noncomputable def kX:Str:=⟨#[105,115,105,110,115,116,97,110,99,101]⟩
noncomputable def kF:Str:=⟨#[106,111,105,110,95,97,116]⟩
noncomputable def oY:Str:=⟨#[106,111,105,110,95,114,97,110,103,101]⟩
noncomputable def x_k:Str:=⟨#[107]⟩
noncomputable def a4P:Str:=⟨#[107,105,110,100]⟩
noncomputable def Bx:Str:=⟨#[108,97,99,107]⟩
noncomputable def dh:Str:=⟨#[108,97,115,116]⟩
noncomputable def cW:Str:=⟨#[108,101,102,116]⟩
noncomputable def qP:Str:=⟨#[108,101,102,116,95,116,117,114,110,95,104,101,108,112,115]⟩
noncomputable def mF:Str:=⟨#[108,101,102,116,109,111,115,116]⟩
noncomputable def cA:Str:=⟨#[108,101,110]⟩
noncomputable def kW:Str:=⟨#[108,101,110,103,116,104]⟩
noncomputable def c8:Str:=⟨#[108,105,115,116]⟩
noncomputable def cI:Str:=⟨#[108,105,115,116,101,110,101,114]⟩
noncomputable def ip:Str:=⟨#[108,105,115,116,101,110,101,114,115]⟩
noncomputable def Ey:Str:=⟨#[108,111,99,97,108,115]⟩
noncomputable def cz:Str:=⟨#[108,111,119]⟩
noncomputable def bE:Str:=⟨#[109,97,110,121]⟩
noncomputable def Mu:Str:=⟨#[109,97,114,107]⟩
noncomputable def aL:Str:=⟨#[109,97,114,107,101,114]⟩
noncomputable def qO:Str:=⟨#[109,97,114,107,101,114,95,100,105,115,116,97,110,99,101]⟩
noncomputable def dX:Str:=⟨#[109,97,114,107,101,114,95,114,111,119,115]⟩
noncomputable def dy:Str:=⟨#[109,97,114,107,101,114,115]⟩
noncomputable def uw:Str:=⟨#[109,97,114,107,101,114,115,95,97,104,101,97,100]⟩
noncomputable def fj:Str:=⟨#[109,97,114,107,115]⟩
noncomputable def qN:Str:=⟨#[109,97,120]⟩
noncomputable def uv:Str:=⟨#[109,105,110]⟩
noncomputable def yS:Str:=⟨#[109,111,118,101,95,103,97,112]⟩
noncomputable def f5:Str:=⟨#[109,111,118,101,100]⟩
noncomputable def pJ:Str:=⟨#[109,121,95,97,103,97,105,110]⟩
noncomputable def s9:Str:=⟨#[110,97,109,101]⟩
noncomputable def Vr:Str:=⟨#[110,97,114,114,111,119,95,103,97,112]⟩
noncomputable def oX:Str:=⟨#[110,101,101,100,95,114,97,110,103,101]⟩
noncomputable def qM:Str:=⟨#[110,101,101,100,95,114,111,111,109]⟩
noncomputable def g9:Str:=⟨#[110,101,101,100,95,118,105,115,105,98,108,101]⟩
noncomputable def eM:Str:=⟨#[110,101,101,100,95,119,114,105,116,97,98,108,101]⟩
noncomputable def fZ:Str:=⟨#[110,101,101,100,95,119,114,105,116,97,98,108,101,95,112,114,111,112,115]⟩
noncomputable def J3:Str:=⟨#[110,101,119]⟩
noncomputable def aB:Str:=⟨#[110,111,100,101]⟩
noncomputable def zY:Str:=⟨#[110,111,116,101,95,98,101,103,105,110]⟩
noncomputable def Gw:Str:=⟨#[110,111,116,101,95,100,101,108,101,116,101]⟩
noncomputable def Gv:Str:=⟨#[110,111,116,101,95,105,110,115,101,114,116]⟩
noncomputable def Dl:Str:=⟨#[110,111,116,101,95,112,114,111,112,101,114,116,121]⟩
noncomputable def zX:Str:=⟨#[110,111,116,101,95,115,116,97,116,101]⟩
noncomputable def kU:Str:=⟨#[110,111,116,101,100,95,116,105,99,107]⟩
noncomputable def aG:Str:=⟨#[110,117,109,98,101,114]⟩
noncomputable def eU:Str:=⟨#[110,117,109,98,101,114,115]⟩
noncomputable def zW:Str:=⟨#[111,108,100]⟩
noncomputable def oW:Str:=⟨#[111,108,100,95,108,101,110,103,116,104]⟩
noncomputable def gZ:Str:=⟨#[111,110,101]⟩
noncomputable def dg:Str:=⟨#[111,116,104,101,114]⟩
noncomputable def j8:Str:=⟨#[111,118,101,114,108,97,121,115]⟩
noncomputable def vy:Str:=⟨#[111,119,110]⟩
noncomputable def cY:Str:=⟨#[111,119,110,95,108,101,110,103,116,104]⟩
noncomputable def vx:Str:=⟨#[112,97,105,114]⟩
noncomputable def bV:Str:=⟨#[112,97,114,101,110,116]⟩
noncomputable def fK:Str:=⟨#[112,105,101,99,101]⟩
noncomputable def bF:Str:=⟨#[112,108,97,99,101]⟩
noncomputable def aI:Str:=⟨#[112,108,105,115,116]⟩
noncomputable def gA:Str:=⟨#[112,108,105,115,116,95,102,105,110,100]⟩
noncomputable def kE:Str:=⟨#[112,108,105,115,116,95,103,101,116]⟩
noncomputable def uu:Str:=⟨#[112,108,105,115,116,95,114,101,109,111,118,101,100]⟩
noncomputable def zV:Str:=⟨#[112,108,105,115,116,95,114,111,119,115]⟩
noncomputable def jC:Str:=⟨#[112,108,105,115,116,95,119,105,116,104]⟩
noncomputable def uo:Str:=⟨#[112,108,105,115,116,95,119,105,116,104,111,117,116]⟩
noncomputable def x_point:Str:=⟨#[112,111,105,110,116]⟩
noncomputable def g8:Str:=⟨#[112,111,105,110,116,95,98,101,102,111,114,101]⟩
noncomputable def Rv:Str:=⟨#[112,111,112]⟩
noncomputable def bT:Str:=⟨#[112,111,115,105,116,105,111,110]⟩
noncomputable def qL:Str:=⟨#[112,114,101,99,101,100,105,110,103]⟩
noncomputable def j7:Str:=⟨#[112,114,111,112,101,114,116,121]⟩
noncomputable def pI:Str:=⟨#[112,114,111,112,101,114,116,121,95,99,104,97,110,103,101,115]⟩
noncomputable def bg:Str:=⟨#[112,114,111,112,115]⟩
noncomputable def Ru:Str:=⟨#[112,117,116]⟩
noncomputable def CH:Str:=⟨#[112,117,116,95,97,104,101,97,100]⟩
noncomputable def Hr:Str:=⟨#[112,117,116,95,97,108,108]⟩
noncomputable def jB:Str:=⟨#[112,117,116,95,98,101,104,105,110,100]⟩
noncomputable def zU:Str:=⟨#[112,117,116,95,105,110]⟩
noncomputable def fV:Str:=⟨#[112,117,116,95,105,110,95,115,116,101,97,100]⟩
noncomputable def vv:Str:=⟨#[112,117,116,95,112,114,111,112,101,114,116,121]⟩
noncomputable def yR:Str:=⟨#[112,117,116,95,114,111,119,115]⟩
noncomputable def gz:Str:=⟨#[112,117,116,95,114,111,119,115,95,116,101,120,116,112,114,111,112,115]⟩
noncomputable def kT:Str:=⟨#[114,97,110,103,101]⟩
noncomputable def mW:Str:=⟨#[114,97,110,103,101,95,110,111,100,101,115]⟩
noncomputable def kC:Str:=⟨#[114,101,97,99,104,101,100]⟩
noncomputable def J2:Str:=⟨#[114,101,109,111,118,101]⟩
noncomputable def yQ:Str:=⟨#[114,101,110,101,119,95,117,110,109,111,100,105,102,105,101,100]⟩
noncomputable def Hq:Str:=⟨#[114,101,112,108,97,99,101]⟩
noncomputable def Mt:Str:=⟨#[114,101,112,108,97,99,101,100]⟩
noncomputable def Ew:Str:=⟨#[114,101,115,116]⟩
noncomputable def dF:Str:=⟨#[114,105,103,104,116]⟩
noncomputable def pH:Str:=⟨#[114,105,103,104,116,95,116,117,114,110,95,104,101,108,112,115]⟩
noncomputable def qK:Str:=⟨#[114,105,103,104,116,109,111,115,116]⟩
noncomputable def gN:Str:=⟨#[114,111,111,109]⟩
noncomputable def mE:Str:=⟨#[114,111,111,116]⟩
noncomputable def yh:Str:=⟨#[114,111,116,97,116,101,95,108,101,102,116]⟩
noncomputable def vu:Str:=⟨#[114,111,116,97,116,101,95,114,105,103,104,116]⟩
noncomputable def dW:Str:=⟨#[114,111,119]⟩
noncomputable def aX:Str:=⟨#[114,111,119,115]⟩
noncomputable def vt:Str:=⟨#[114,111,119,115,95,98,101,116,119,101,101,110]⟩
noncomputable def dx:Str:=⟨#[114,111,119,115,95,98,101,116,119,101,101,110,95,116,101,120,116,112,114,111,112,115]⟩
noncomputable def iS:Str:=⟨#[114,117,110,115]⟩
noncomputable def a1X:Str:=⟨#[115,97,109,101,95,97,115]⟩
noncomputable def oV:Str:=⟨#[115,97,109,101,95,112,108,105,115,116]⟩
noncomputable def d9:Str:=⟨#[115,97,118,101,100,95,116,105,99,107,115]⟩
noncomputable def vp:Str:=⟨#[115,99,114,105,112,116]⟩
noncomputable def aj:Str:=⟨#[115,101,108,102]⟩
noncomputable def gM:Str:=⟨#[115,101,116,95,108,101,102,116]⟩
noncomputable def zT:Str:=⟨#[115,101,116,95,109,97,114,107,101,114]⟩
noncomputable def vo:Str:=⟨#[115,101,116,95,109,111,100,105,102,105,101,100]⟩
noncomputable def r4:Str:=⟨#[115,101,116,95,112,114,111,112,101,114,116,105,101,115]⟩
noncomputable def vn:Str:=⟨#[115,101,116,95,112,114,111,112,101,114,116,121]⟩
noncomputable def kB:Str:=⟨#[115,101,116,95,114,105,103,104,116]⟩
noncomputable def J0:Str:=⟨#[115,101,116,116,108,101]⟩
noncomputable def gy:Str:=⟨#[115,101,116,116,108,101,95,117,112]⟩
noncomputable def xv:Str:=⟨#[115,104,105,102,116]⟩
noncomputable def a4G:Str:=⟨#[115,104,111,119,110]⟩
noncomputable def rx:Str:=⟨#[115,105,122,101]⟩
noncomputable def cH:Str:=⟨#[115,111,110]⟩
noncomputable def r0:Str:=⟨#[115,111,114,116,101,100]⟩
noncomputable def jj:Str:=⟨#[115,112,108,105,116,95,97,116]⟩
noncomputable def au:Str:=⟨#[115,116,97,114,116]⟩
noncomputable def xu:Str:=⟨#[115,116,97,116,101]⟩
noncomputable def jT:Str:=⟨#[115,116,97,116,101,115]⟩
noncomputable def Eu:Str:=⟨#[115,121,109,98,111,108]⟩
noncomputable def Et:Str:=⟨#[115,121,110,116,97,120]⟩
noncomputable def gx:Str:=⟨#[116,101,108,108,95,97,104,101,97,100]⟩
noncomputable def iP:Str:=⟨#[116,101,108,108,95,98,101,104,105,110,100]⟩
noncomputable def vl:Str:=⟨#[116,101,120,116]⟩
noncomputable def CG:Str:=⟨#[116,101,120,116,95,99,97,109,101]⟩
noncomputable def Io:Str:=⟨#[116,101,120,116,95,99,111,109,101,115]⟩
noncomputable def kS:Str:=⟨#[116,101,120,116,95,100,101,108,101,116,101,100]⟩
noncomputable def JZ:Str:=⟨#[116,101,120,116,95,103,111,101,115]⟩
noncomputable def CE:Str:=⟨#[116,101,120,116,95,103,111,110,101]⟩
noncomputable def xt:Str:=⟨#[116,101,120,116,95,105,110]⟩
noncomputable def jZ:Str:=⟨#[116,101,120,116,95,105,110,115,101,114,116,101,100]⟩
noncomputable def fM:Str:=⟨#[116,101,120,116,95,108,101,110,103,116,104]⟩
noncomputable def s8:Str:=⟨#[116,101,120,116,95,111,117,116]⟩
noncomputable def fU:Str:=⟨#[116,105,99,107]⟩
noncomputable def kR:Str:=⟨#[116,105,99,107,115]⟩
noncomputable def CD:Str:=⟨#[116,111,108,100,95,117,110,100,111]⟩
noncomputable def rZ:Str:=⟨#[116,111,112]⟩
noncomputable def cx:Str:=⟨#[116,111,116,97,108]⟩
noncomputable def cT:Str:=⟨#[116,111,116,97,108,95,111,102]⟩
noncomputable def Il:Str:=⟨#[116,111,117,99,104]⟩
noncomputable def aY:Str:=⟨#[116,114,101,101]⟩
noncomputable def kA:Str:=⟨#[116,117,114,110,95,114,111,119,115]⟩
noncomputable def vk:Str:=⟨#[116,117,114,110,101,100]⟩
noncomputable def jK:Str:=⟨#[117,110,100,111]⟩
noncomputable def yg:Str:=⟨#[117,110,100,111,95,100,101,108,101,116,101]⟩
noncomputable def zS:Str:=⟨#[117,110,100,111,95,103,114,111,117,112]⟩
noncomputable def yf:Str:=⟨#[117,110,100,111,95,105,110,115,101,114,116]⟩
noncomputable def Es:Str:=⟨#[117,110,100,111,95,114,111,119]⟩
noncomputable def dN:Str:=⟨#[117,110,109,111,100,105,102,105,101,100]⟩
noncomputable def s7:Str:=⟨#[118,97,108,105,100]⟩
noncomputable def cX:Str:=⟨#[118,97,108,117,101]⟩
noncomputable def eF:Str:=⟨#[119,97,105,116,105,110,103]⟩
noncomputable def gw:Str:=⟨#[119,97,110,116,101,100]⟩
noncomputable def zR:Str:=⟨#[119,97,121]⟩
noncomputable def JY:Str:=⟨#[119,105,100,101,110,95,103,97,112]⟩
noncomputable def Rt:Str:=⟨#[119,105,116,104,105,110]⟩
noncomputable def Er:Str:=⟨#[119,111,114,100]⟩
noncomputable def Dk:Str:=⟨#[122,118]⟩
noncomputable def kZ:Str:=⟨#[46,48]⟩
inductive N where
 |bad|nil|cons (e r:N)
 |con (c:Const)|name (x:Str)
 |bop (op:BoolOp) (l:N)|bin (a:N) (op:Operator) (b:N)|un (op:UnaryOp) (a:N)|ife (t a b:N)
 |cmp (a:N) (ops:List CmpOp) (l:N)
 |call (f l:N)|attr (o:N) (x:Str)|sub (o i:N)|slice (lo hi:N)
 |list (l:N)|tup (l:N)|Uw
 |comp (e g:N) (names:List (Str×NameKind))
 |lam (ps:List Str) (b:N) (names:List (Str×NameKind))
 |expr (e:N)|assign (t e:N)|ifs (t a b:N)|Zs (t a:N)|a1q (t i a:N)|ret (e:N)|vK|pass
noncomputable abbrev aK:=List (Str×NameKind)
noncomputable def N.gd(c:Bool)(x:N):N:=match c with
 |true=>x
 |false=>.bad
noncomputable def okN(ns:aK)(x:Str):Bool:=(ns.lookup x).isSome&&!(x==("__debug__":Str))&&!(x==("__classdict__":Str))
noncomputable def DF(ns:aK):N→Bool
 |.name x=>decide (ns.lookup x=some .local)
 |.tup l=>DF ns l
 |.cons e r=>DF ns e&&DF ns r
 |.nil=>true
 |_=>false
noncomputable def nc(ns names:aK):aK:=names.map λ(n,k)=>if(k==NameKind.free&&ns.lookup n==some .cell)then(n,NameKind.cell)else(n,k)
noncomputable def pO:aK→Bool
 |[]=>true
 |(x,_)::r=>r.all (λp=>decide (p.1≠x))&&pO r
noncomputable def IK(ns:aK)(sc:Scope)(t:N):Bool:=
 decide (sc.kind=.function)&&pO sc.names&&sc.names.all (λp=>decide (p.2≠.cell)&&(decide (p.2≠.free)||decide (ns.lookup p.1=some .cell)||decide (ns.lookup p.1=some .free)))&&DF sc.names t
noncomputable def nOp(a:N):UnaryOp→N
 |.USub=>.un .USub a
 |.Not=>.un .Not a
 |_=>.bad
noncomputable def TA(a:Arguments):Bool:=a.posonlyargs.isEmpty&&a.vararg.isNone&&a.kwonlyargs.isEmpty&&a.kw_defaults.isEmpty&&a.kwarg.isNone&&a.defaults.isEmpty
noncomputable def M4(ns:aK)(names:aK):Bool:=names.all λp=>decide (p.2≠.free)||decide (ns.lookup p.1=some .cell)||decide (ns.lookup p.1=some .free)
noncomputable def SY(names:aK)(ps:List Str):Bool:=pO names&&names.all (λp=>decide (p.2≠.cell)&&(decide (p.2≠.local)||ps.contains p.1))&&ps.all λx=>decide (names.lookup x=some .local)
noncomputable def B4(e:Expr):Bool:=va 8 e.ctorIdx&&va e.ctorIdx 10
noncomputable def isCall:Expr→Bool
 |.Call _ [] _ _=>true
 |_=>false
noncomputable def isTup:Expr→Option (List Expr)
 |.Tuple l _ _=>some l
 |_=>none
noncomputable def noStar(l:List Expr):Bool:=l.all λe=>!Nat.beq e.ctorIdx 22
noncomputable def S6:Expr→Option (Str×Nat)
 |.Name x p=>some (x,p.line)
 |_=>none
noncomputable def WA(ns:aK)(a b:Expr):Bool:=match S6 a with
 |some p=>(match S6 b with
  |some q=>decide (ns.lookup p.1≠some .local)||(a9 q.2 p.2&&decide (ns.lookup p.1=some .local)&&decide (ns.lookup q.1=some .local)&&decide (p.1≠q.1))
  |none=>true)
 |none=>true
noncomputable def SX(vs:List Expr):Bool:=noStar vs&&!(vs.all (foldedForSure 8))&&!(vs.all (constantsAlone 8))
noncomputable def ok2(ns:aK):List Expr→Bool
 |[]=>false
 |a::r=>(match r with
  |[]=>false
  |b::r=>r.isEmpty&&WA ns a b)
noncomputable def a28(ns:aK)(t e:Expr):Bool:=!Nat.beq t.ctorIdx 22&&(match isTup e with
 |some vs=>(match isTup t with
  |some ts=>ok2 ns ts&&decide (vs.length=2)&&SX vs
  |none=>!Nat.beq t.ctorIdx 24)
 |none=>true)
mutual
noncomputable def nE(ns:aK):Expr→N
 |.Constant c _ _=>.con c
 |.Name x _=>(N.name x).gd (okN ns x)
 |.BoolOp op l _=>.bop op (nA ns l)
 |.BinOp a op b _=>.bin (nE ns a) op (nE ns b)
 |.UnaryOp op a _=>nOp (nE ns a) op
 |.IfExp t a b _=>.ife (nE ns t) (nE ns a) (nE ns b)
 |.Compare a ops l _=>(N.cmp (nE ns a) ops (nA ns l)).gd (!lastMarks ops l)
 |.Call f l ks p=>(N.call (nE ns f) (nA ns l)).gd (ks.isEmpty&&(decide (l.length<20)&&(noStar l&&f.pos.endLine==p.line)))
 |.Attribute o x _=>(N.attr (nE ns o) x).gd (!isCall o)
 |.Subscript o i _=>.sub (nE ns o) (nE ns i)
 |.Slice lo hi st _=>(N.slice (nO ns lo) (nO ns hi)).gd st.isNone
 |.List l _=>(N.list (nA ns l)).gd (noStar l)
 |.Tuple l _ _=>(N.tup (nA ns l)).gd (noStar l)
 |.Dict ks vs _=>N.Uw.gd (ks.isEmpty&&vs.isEmpty)
 |.ListComp e gs sc _=>.comp (nE (nc ns sc.names) e) (nG ns sc gs) sc.names
 |.Lambda a b sc _=>(N.lam (a.args.map (·.arg)) (nE sc.names b) sc.names).gd (TA a&&decide (sc.kind=.function)&&!sc.isCoroutine&&!sc.isGenerator&&(M4 ns sc.names&&SY sc.names (a.args.map (·.arg))))
 |_=>.bad
noncomputable def nO(ns:aK):Option Expr→N
 |none=>.con .none
 |some e=>nE ns e
noncomputable def nA(ns:aK):List Expr→N
 |[]=>.nil
 |e::r=>.cons (nE ns e) (nA ns r)
noncomputable def nG(ns:aK)(sc:Scope):List Comprehension→N
 |[]=>.bad
 |g::r=>(nC ns sc g).gd r.isEmpty
noncomputable def nC(ns:aK)(sc:Scope):Comprehension→N
 |⟨t,i,fs,k⟩=>(N.cons (nE (nc ns sc.names) t) (.cons (nE ns i) (nA (nc ns sc.names) fs))).gd (IK ns sc (nE (nc ns sc.names) t)&&(decide (k=0)&&!Nat.beq i.ctorIdx 7))
noncomputable def nS(ns:aK):Stmt→N
 |.Expr e _=>(N.expr (nE ns e)).gd (!B4 e)
 |.Assign l e _=>nT ns e l
 |.If t a b _=>.ifs (nE ns t) (nB ns a) (nB ns b)
 |.While t a b _=>(N.Zs (nE ns t) (nB ns a)).gd b.isEmpty
 |.For t i a b _=>(N.a1q (nE ns t) (nE ns i) (nB ns a)).gd (b.isEmpty&&!Nat.beq i.ctorIdx 7)
 |.Return o _=>nR ns o
 |.Pass _=>.pass
 |_=>.bad
noncomputable def nB(ns:aK):List Stmt→N
 |[]=>.nil
 |s::r=>.cons (nS ns s) (nB ns r)
noncomputable def nT(ns:aK)(e:Expr):List Expr→N
 |[]=>.bad
 |t::r=>(N.assign (nE ns t) (nE ns e)).gd (r.isEmpty&&a28 ns t e)
noncomputable def nR(ns:aK):Option Expr→N
 |none=>.vK
 |some e=>.ret (nE ns e)
end
inductive MV where
 |none|bool (b:Bool)|int (i:Int)|str (s:Str)
 |ref (a:Addr)
 |tup (l:List MV)
 |PK (n:Int)
 |fn (a:Addr)|cls (C:Addr)|bi (s:String)|ty (s:String)
 |Fw (ps:List Str) (b:N) (ns:List Str) (vs:List MV)
 |MR (lo hi:MV)
inductive MO where
 |list (l:List MV)
 |inst (C:Addr) (fs:List (Str×MV))
 |dict (l:List (Int×MV))
 |Lc (l:List MV)
noncomputable def MO.BW(o:MO):Bool:=match o with
 |.Lc _=>false
 |_=>true
noncomputable abbrev St:=Addr→Option MO
noncomputable def upd(σ:St)(a:Addr)(o:MO):St:=λb=>if b=a then some o else σ b
theorem ak(σ:St)(a:Addr)(o:MO):upd σ a o a=some o:=if_pos rfl
theorem aC{σ:St}{a b:Addr}{o:MO}(h:b≠a):upd σ a o b=σ b:=if_neg h
noncomputable def cc{α:Type}:List (Str×α)→Str→Option α
 |[],_=>none
 |(y,v)::r,x=>bif sm x y then some v else cc r x
noncomputable def iH{α:Type}:List (Str×α)→Str→α→List (Str×α)
 |[],x,v=>[(x,v)]
 |(y,u)::r,x,v=>bif sm x y then(y,v)::r else(y,u)::iH r x v
theorem fG{α:Type}{l:List (Str×α)}{x:Str}{v:α}:cc ((x,v)::l) x=some v:=congrArg (λb=>bif b then some v else cc l x) (Ed x)
theorem dQ{α:Type}{l:List (Str×α)}{x y:Str}{v:α}(h:x≠y):cc ((y,v)::l) x=cc l x:=congrArg (λb=>bif b then some v else cc l x) (Kx h)
theorem K4{α:Type}{l:List (Str×α)}{x:Str}{u v:α}:iH ((x,u)::l) x v=(x,v)::l:=congrArg (λb=>bif b then(x,v)::l else(x,u)::iH l x v) (Ed x)
theorem HM{α:Type}{l:List (Str×α)}{x y:Str}{u v:α}(h:x≠y):iH ((y,u)::l) x v=(y,u)::iH l x v:=congrArg (λb=>bif b then(y,v)::l else(y,u)::iH l x v) (Kx h)
theorem sr{α:Type}{x:Str}{v:α}:∀l:List (Str×α),cc (iH l x v) x=some v:=by
 intro zl;induction zl with
 |nil=>
  exact fG
 |cons zx r ih=>
  obtain⟨k,u⟩:=zx;exact if h:x=k then by rw[h,K4,fG]else by rw[HM h,dQ h];exact ih
theorem jo{α:Type}{x y:Str}{v:α}(n:y≠x)(l:List (Str×α)):cc (iH l x v) y=cc l y:=by
 induction l with
 |nil=>exact dQ n
 |cons p r ih=>induction p with|mk k u=>
  exact if h:x=k then by rw[←h,K4,dQ n,dQ n]else by
   rw[HM h];exact if g:y=k then by rw[g,fG,fG]else by rw[dQ g,dQ g];exact ih
theorem xC{α:Type}(l:List (Str×α))(x:Str)(v:α)(y:Str):cc (iH l x v) y=if y=x then some v else cc l y:=
 if h:y=x then by rw[if_pos h,h];exact sr l else by rw[if_neg h];exact jo h l
noncomputable def Cd:List (Int×MV)→Int→Option MV
 |[],_=>none
 |(y,v)::r,x=>if x=y then some v else Cd r x
noncomputable def Fi:List (Int×MV)→Int→MV→List (Int×MV)
 |[],x,v=>[(x,v)]
 |(y,u)::r,x,v=>if x=y then(y,v)::r else(y,u)::Fi r x v
noncomputable abbrev Loc:=List (Str×Option MV)
noncomputable abbrev bw:=MV→St→Prop
noncomputable def lim:Nat:=1000000
noncomputable def br(c:Bool)(A B:Prop):Prop:=match c with
 |true=>A
 |false=>B
structure Ctx where
 call:MV→List MV→St→bw→Prop
 glob:Str→Option MV
 a5b:Addr→Str→Option Addr
 init:Addr→Option Addr
 fld:Addr→Str→Prop
 eq:Bool→St→MV→MV→Bool→Prop
 lam:Prop
noncomputable abbrev jg{α:Type}:α→Prop:=λ_=>False
noncomputable abbrev KU{α β:Type}:α→β→Prop:=λ_ _=>False
noncomputable def MV.on(v:MV)(i:Int→Prop)(r:Addr→Prop)(t:List MV→Prop):Prop:=match v with
 |.int k=>i k
 |.ref a=>r a
 |.tup l=>t l
 |_=>False
noncomputable def look(σ:St)(a:Addr)(kl:List MV→Prop)(ki:Addr→List (Str×MV)→Prop)(kd:List (Int×MV)→Prop):Prop:=match σ a with
 |some (.list l)=>kl l
 |some (.inst C fs)=>ki C fs
 |some (.dict l)=>kd l
 |some (.Lc _)=>False
 |none=>False
noncomputable def E7(σ:St)(a:Addr)(k:List MV→Prop):Prop:=match σ a with
 |some (.list l)=>k l
 |some (.Lc l)=>k l
 |_=>False
noncomputable def gv{α:Type}(o:Option α)(k:α→Prop):Prop:=match o with
 |some u=>k u
 |none=>False
noncomputable def fe(vs:List MV)(σ:St)(Q:bw):Prop:=∀c,σ c=none→Q (.ref c) (upd σ c (.list vs))
noncomputable def a3o(a b:MV)(σ:St)(Q:bw):Prop:=
 a.on (λi=>b.on (λj=>Q (.int (i+j)) σ) jg jg)
  (λx=>b.on jg (λy=>look σ x (λl=>look σ y (λk=>l.length+k.length≤lim∧fe (l++k) σ Q) KU jg) KU jg) jg) jg
noncomputable def yj(a b:MV)(k:Int→Int→Prop):Prop:=a.on (λi=>b.on (k i) jg jg) jg jg
noncomputable def zf(l:List MV):Nat→List MV
 |0=>[]
 |n+1=>l++zf l n
noncomputable def a3m(a b:MV)(σ:St)(Q:bw):Prop:=
 b.on (λn=>a.on (λi=>(-(2^62)<i∧i<2^62)∧Q (.int (i*n)) σ)
  (λx=>look σ x (λl=>(l.length≤1∧-(2^40)<n∧n≤lim)∧fe (zf l n.toNat) σ Q) KU jg) jg) jg jg
noncomputable def BY(op:Operator)(a b:MV)(σ:St)(Q:bw):Prop:=match op with
 |.Add=>a3o a b σ Q
 |.Sub=>yj a b λi j=>Q (.int (i-j)) σ
 |.Mult=>a3m a b σ Q
 |.Mod=>yj a b λi j=>0<j∧Q (.int (i%j)) σ
 |.FloorDiv=>yj a b λi j=>(0<j∧j<1000)∧Q (.int (i/j)) σ
 |_=>False
noncomputable def ze(a:MV)(Q:Bool→Prop):Prop:=match a with
 |.bool b=>Q b
 |.none=>Q false
 |.int i=>Q (decide (i≠0))
 |_=>False
noncomputable def mUn(op:UnaryOp)(a:MV)(σ:St)(Q:bw):Prop:=match op with
 |.USub=>a.on (λi=>Q (.int (-i)) σ) jg jg
 |.Not=>ze a λb=>Q (.bool (!b)) σ
 |_=>False
noncomputable def isNone:MV→Bool
 |.none=>true
 |_=>false
noncomputable def mIs(a b:MV)(σ:St)(Q:Bool→Prop):Prop:=
 br (isNone b) (Q (isNone a)) (b.on jg (λy=>br (isNone a) (Q false) (a.on jg (λx=>σ x≠none∧σ y≠none∧Q (decide (x=y))) jg)) jg)
noncomputable def MV.i?(v:MV):Option Int:=match v with
 |.int i=>some i
 |_=>JQ
noncomputable def MV.s?(v:MV):Option Str:=match v with
 |.str s=>some s
 |_=>JQ
noncomputable def Lm(a b:MV):Option Bool:=match a.i? with
 |some i=>(match b.i? with
  |some j=>some (decide (i=j))
  |none=>bif isNone b then some false else none)
 |none=>(match a.s? with
  |some x=>b.s?.map λy=>decide (x=y)
  |none=>none)
noncomputable def mEq(X:Ctx)(ne:Bool)(a b:MV)(σ:St)(Q:Bool→Prop):Prop:=match Lm a b with
 |some r=>Q r
 |none=>∃r,X.eq ne σ a b r∧Q r
noncomputable def mIn(a b:MV)(σ:St)(Q:Bool→Prop):Prop:=
 a.on (λi=>b.on jg (λx=>look σ x (λl=>∃js:List Int,l=js.map .int∧Q (decide (i∈js))) KU λl=>Q (Cd l i).isSome) jg) jg jg
noncomputable def a0M(X:Ctx)(op:CmpOp)(a b:MV)(σ:St)(Q:Bool→Prop):Prop:=match op with
 |.Eq=>mEq X false a b σ Q
 |.NotEq=>mEq X true a b σ λr=>Q (!r)
 |.Lt=>yj a b λi j=>Q (decide (i<j))
 |.LtE=>yj a b λi j=>Q (decide (i≤j))
 |.Gt=>yj a b λi j=>Q (decide (j<i))
 |.GtE=>yj a b λi j=>Q (decide (j≤i))
 |.Is=>mIs a b σ Q
 |.IsNot=>mIs a b σ λr=>Q (!r)
 |.In=>mIn a b σ Q
 |.NotIn=>mIn a b σ λr=>Q (!r)
noncomputable def K3(v:MV)(x:Str)(σ:St)(Q:bw):Prop:=v.on jg (λa=>look σ a jg (λ_ fs=>gv (cc fs x) λu=>Q u σ) jg) jg
noncomputable def so(X:Ctx)(v:MV)(x:Str)(u:MV)(σ:St)(Q:St→Prop):Prop:=
 v.on jg (λa=>look σ a jg (λC fs=>X.fld C x∧Q (upd σ a (.inst C (iH fs x u)))) jg) jg
noncomputable def xY(i:Int)(n:Nat):Option Nat:=
 if 0≤i then(if i<n then some i.toNat else none)else(if 0≤i+n then some (i+n).toNat else none)
noncomputable def qV(l:List MV)(k:Int)(σ:St)(Q:bw):Prop:=gv (xY k l.length) λj=>gv l[j]? λu=>Q u σ
noncomputable def lo?(v:MV):Option Nat:=match v with
 |.none=>some 0
 |.int i=>if 0≤i∧i<2^40 then some i.toNat else none
 |_=>none
noncomputable def hi?(v:MV)(n:Nat):Option Nat:=match v with
 |.none=>some n
 |.int i=>if 0≤i∧i<2^40 then some i.toNat else none
 |_=>none
noncomputable def AH(l:List MV)(i j:Nat):List MV:=(l.take j).drop i
noncomputable def MV.ix(v:MV)(i:Int→Prop)(s:MV→MV→Prop):Prop:=match v with
 |.int k=>i k
 |.MR lo hi=>s lo hi
 |_=>False
noncomputable def l8(v i:MV)(σ:St)(Q:bw):Prop:=
 i.ix (λk=>v.on jg (λa=>look σ a (λl=>qV l k σ Q) KU λl=>gv (Cd l k) λu=>Q u σ) λl=>l.length≤100∧qV l k σ Q)
  (λlo hi=>v.on jg (λa=>E7 σ a (λl=>gv (lo? lo) λi=>gv (hi? hi l.length) λj=>fe (AH l i j) σ Q))
   λl=>isNone lo=true∧hi.on (λj=>j=2∧∃x y z,l=[x,y,z]∧Q (.tup [x,y]) σ) jg jg)
noncomputable def pS(v i u:MV)(σ:St)(Q:St→Prop):Prop:=
 v.on jg (λa=>i.ix (λk=>look σ a (λl=>gv (xY k l.length) λj=>Q (upd σ a (.list (l.set j u)))) KU λl=>l.length≤100∧Q (upd σ a (.dict (Fi l k u))))
  λlo hi=>u.on jg (λb=>look σ a (λl=>look σ b (λk=>gv (lo? lo) λi=>gv (hi? hi l.length) λj=>
   (i≤j∧j≤l.length∧l.length+k.length≤lim∧a≠b)∧Q (upd σ a (.list (l.take i++k++l.drop j)))) KU jg) KU jg) jg) jg
noncomputable def oZ(n:Int):List MV:=(fB n.toNat).map λ(i:Nat)=>MV.int (i:Int)
noncomputable def Oe:List (Int×Int)→List (Int×Int)
 |[p,q]=>if q.1<p.1 then[q,p]else[p,q]
 |l=>l
noncomputable def sortI:List Int→List Int
 |[p,q]=>if q<p then[q,p]else[p,q]
 |l=>l
noncomputable def uC(p:Int×Int):MV:=.tup [.int p.1,.int p.2]
noncomputable def Ee(v:MV)(σ:St)(Q:bw):Prop:=
 v.on jg (λa=>look σ a (λl=>(∃js:List Int,l=js.map .int∧js.length≤2∧fe ((sortI js).map .int) σ Q)∨
   ∃ps:List (Int×Int),l=ps.map uC∧(ps.length≤2∧(ps.map (·.1)).Nodup)∧fe ((Oe ps).map uC) σ Q) KU
  λl=>l.length≤2∧fe ((sortI (l.map (·.1))).map .int) σ Q) jg
noncomputable def Bp(vs:List MV)(k:MV→Prop):Prop:=match vs with
 |[v]=>k v
 |_=>False
noncomputable def LY(vs:List MV)(k:MV→MV→Prop):Prop:=match vs with
 |[v,u]=>k v u
 |_=>False
noncomputable def TM:MV→Bool
 |.ty s=>s=="bool"
 |_=>false
noncomputable def fF(s:String)(vs:List MV)(σ:St)(Q:bw):Prop:=
 bif s=="len"then Bp vs λv=>v.on jg (λa=>look σ a (λl=>Q (.int l.length) σ) KU jg) jg else
 bif s=="abs"then Bp vs λv=>v.on (λi=>Q (.int (if i<0 then-i else i)) σ) jg jg else
 bif s=="min"then LY vs λu v=>yj u v λi j=>Q (.int (if j<i then j else i)) σ else
 bif s=="max"then LY vs λu v=>yj u v λi j=>Q (.int (if i<j then j else i)) σ else
 bif s=="isinstance"then LY vs λu v=>TM v=true∧u.on (λ_=>Q (.bool false) σ) jg jg else
 bif s=="sorted"then Bp vs λv=>Ee v σ Q else False
noncomputable def MV.rn(v:MV)(k:Int→Prop):Prop:=match v with
 |.PK n=>k n
 |_=>False
noncomputable def K1(s:String)(vs:List MV)(σ:St)(Q:bw):Prop:=Bp vs λv=>
 bif s=="list"then(v.on jg (λa=>look σ a (λl=>fe l σ Q) KU jg) jg)∨(v.rn λn=>fe (oZ n) σ Q)else
 bif s=="range"then v.on (λn=>(0≤n∧n≤lim)∧Q (.PK n) σ) jg jg else False
noncomputable def Aj(X:Ctx)(f:MV)(vs:List MV)(σ:St)(Q:bw):Prop:=match f with
 |.bi s=>fF s vs σ Q
 |.ty s=>K1 s vs σ Q
 |.cls C=>gv (X.init C) λi=>∀a,σ a=none→X.call (.fn i) (.ref a::vs) (upd σ a (.inst C [])) λr av=>r=.none∧Q (.ref a) av
 |.fn a=>X.call (.fn a) vs σ Q
 |.Fw ps b ns ms=>X.call (.Fw ps b ns ms) vs σ Q
 |_=>False
inductive Way where
 |fn (f:Addr) (self:MV)|app (a:Addr)|ext (a:Addr)|pop (a:Addr)|val (v:MV)
noncomputable def Nj(m:Str)(a:Addr)(K:Way→Prop):Prop:=bif sm m "append"then K (.app a)else bif sm m "extend"then K (.ext a)else bif sm m "pop"then K (.pop a)else False
noncomputable def WT(X:Ctx)(v:MV)(m:Str)(σ:St)(K:Way→Prop):Prop:=
 v.on jg (λa=>look σ a (λ_=>Nj m a K)
  (λC _=>gv (X.a5b C m) λf=>K (.fn f (.ref a))) jg) jg
noncomputable def P6(X:Ctx)(w:Way)(vs:List MV)(σ:St)(Q:bw):Prop:=match w with
 |.fn f self=>X.call (.fn f) (self::vs) σ Q
 |.val f=>Aj X f vs σ Q
 |.app a=>look σ a (λl=>Bp vs λv=>l.length<lim∧Q .none (upd σ a (.list (l++[v])))) KU jg
 |.ext a=>look σ a (λl=>Bp vs λv=>v.on jg (λb=>look σ b (λk=>(l.length+k.length≤lim∧a≠b)∧Q .none (upd σ a (.list (l++k)))) KU jg) jg) KU jg
 |.pop a=>look σ a (λl=>vs=[]∧gv l.getLast? λv=>Q v (upd σ a (.list l.dropLast))) KU jg
inductive Src where
 |items (l:List MV)
 |list (a:Addr) (l:List MV)
noncomputable def EG(v:MV)(σ:St):Option Src:=match v with
 |.PK n=>some (.items (oZ n))
 |.ref a=>(match σ a with|some (.list l)=>some (.list a l)|_=>none)
 |_=>none
noncomputable def Src.all:Src→List MV
 |.items l=>l
 |.list _ l=>l
noncomputable def Src.oi:Src→St→Prop
 |.items _,_=>True
 |.list a l,σ=>σ a=some (.list l)
noncomputable def jc(names:aK)(ρ:Loc):Loc:=
 names.filterMap λp=>match p.2 with
  |.local=>some (p.1,none)
  |.free=>(cc ρ p.1).map λv=>(p.1,v)
  |_=>none
noncomputable def Lf:aK→List Str→List Str
 |[],acc=>acc
 |p::r,acc=>Lf r (match p.2 with
  |.free=>p.1::acc
  |_=>acc)
noncomputable def Am(names:aK):List Str:=Lf names []
noncomputable def Lb(ρ:Loc):List Str→Option (List MV)
 |[]=>some []
 |x::r=>(cc ρ x).bind λov=>ov.bind λv=>(Lb ρ r).map (v::·)
noncomputable def turns(f:MV→St→(Option MV→St→Prop)→Prop)(s:Src):List MV→List MV→St→(List MV→St→Prop)→Prop
 |[],acc,σ,Q=>Q acc σ
 |v::vs,acc,σ,Q=>f v σ λr av=>s.oi av∧(match r with
  |some u=>acc.length<lim∧turns f s vs (acc++[u]) av Q
  |none=>turns f s vs acc av Q)
inductive Fl where
 |next|ret (v:MV)
noncomputable def Ug(body:Loc→St→(Fl→Loc→St→Prop)→Prop)(t:MV→Loc→Option Loc)(s:Src):List MV→Loc→St→(Fl→Loc→St→Prop)→Prop
 |[],ρ,σ,Q=>Q .next ρ σ
 |v::vs,ρ,σ,Q=>∃dq,t v ρ=some dq∧body dq σ λfl m8 aO=>match fl with
  |.next=>s.oi aO∧Ug body t s vs m8 aO Q
  |.ret u=>Q (.ret u) m8 aO
structure Wr where
 e:Loc→St→bw→Prop
 t:Loc→St→(Bool→St→Prop)→Prop
 c:Loc→St→(Way→St→Prop)→Prop
 g:MV→Loc→St→(Loc→St→Prop)→Prop
 b:MV→Loc→Option Loc
 s:Loc→St→(Fl→Loc→St→Prop)→Prop
noncomputable def Wr.v(f:Loc→St→bw→Prop):Wr:=⟨f,λρ σ Q=>f ρ σ λv aO=>ze v λb=>Q b aO,λρ σ K=>f ρ σ λv aO=>K (.val v) aO,λ_ _ _ _=>False,λ_ _=>none,λ_ _ _=>False⟩
noncomputable def Wr.q(f:Loc→St→bw→Prop)(t:Loc→St→(Bool→St→Prop)→Prop):Wr:=⟨f,t,λρ σ K=>f ρ σ λv aO=>K (.val v) aO,λ_ _ _ _=>False,λ_ _=>none,λ_ _ _=>False⟩
noncomputable def Wr.st(f:Loc→St→(Fl→Loc→St→Prop)→Prop):Wr:=⟨λ_ _ _=>False,λ_ _ _=>False,λ_ _ _=>False,λ_ _ _ _=>False,λ_ _=>none,f⟩
noncomputable def Wr.bad:Wr:=.st λ_ _ _=>False
noncomputable def aW:List Wr→Loc→St→(List MV→St→Prop)→Prop
 |[],_,σ,Q=>Q [] σ
 |w::r,ρ,σ,Q=>w.e ρ σ λv aO=>aW r ρ aO λvs b0=>Q (v::vs) b0
noncomputable abbrev fl(d b:Bool):Bool:=match d with
 |true=>!b
 |false=>b
noncomputable def boW(d:Bool):List Wr→Loc→St→bw→Prop
 |[],_,_,_=>False
 |w::r,ρ,σ,Q=>match r with
  |[]=>w.e ρ σ Q
  |_::_=>w.e ρ σ λv aO=>ze v λb=>br (fl d b) (boW d r ρ aO Q) (Q v aO)
noncomputable def btW(d:Bool):List Wr→Loc→St→(Bool→St→Prop)→Prop
 |[],_,σ,Q=>Q (!d) σ
 |w::r,ρ,σ,Q=>w.t ρ σ λb aO=>br (fl d b) (btW d r ρ aO Q) (Q d aO)
noncomputable def ifW:List Wr→Loc→St→(Bool→St→Prop)→Prop
 |[],_,σ,Q=>Q true σ
 |w::r,ρ,σ,Q=>match r with
  |[]=>w.t ρ σ Q
  |_::_=>False
noncomputable def UM:List Wr→List MV→Loc→Option Loc
 |[],[],ρ=>some ρ
 |w::r,v::vs,ρ=>(w.b v ρ).bind λdq=>UM r vs dq
 |_,_,_=>none
noncomputable def YW(X:Ctx)(u:MV):List CmpOp→List Wr→Loc→St→(Bool→St→Prop)→Prop
 |op::os,w::r,ρ,σ,Q=>w.e ρ σ λv aO=>a0M X op u v aO λb=>match os with
  |[]=>(match r with
   |[]=>Q b aO
   |_::_=>False)
  |_::_=>br b (YW X v os r ρ aO Q) (Q false aO)
 |_,_,_,_,_=>False
noncomputable def bW:List Wr→Loc→St→(Fl→Loc→St→Prop)→Prop
 |[],ρ,σ,Q=>Q .next ρ σ
 |w::r,ρ,σ,Q=>w.s ρ σ λfl m8 aO=>match fl with
  |.next=>bW r m8 aO Q
  |.ret v=>Q (.ret v) m8 aO
noncomputable def OL:BoolOp→Bool
 |.And=>true
 |.Or=>false
noncomputable def a4i:Const→Option MV
 |.none=>some .none
 |.bool b=>some (.bool b)
 |.int i=>some (.int i)
 |.str s=>some (.str s)
 |_=>none
noncomputable def nmW(X:Ctx)(x:Str)(ρ:Loc)(Q:MV→Prop):Prop:=match cc ρ x with
 |some ov=>gv ov Q
 |none=>gv (X.glob x) Q
noncomputable def XE(X:Ctx)(e:Wr)(l:List Wr)(ns:aK):Wr:=match l with
 |t::i::fs=>.v λρ σ Q=>i.e ρ σ λv aO=>∃s,EG v aO=some s∧
  turns (λu av K=>∃dq,t.b u (jc ns ρ)=some dq∧ifW fs dq av λb b0=>br b (e.e dq b0 λr zQ=>K (some r) zQ) (K none b0)) s s.all [] aO λl b0=>fe l b0 Q
 |_=>.bad
section
variable(X:Ctx)
noncomputable def w:N→Wr×List Wr:=@N.rec (λ_=>Wr×List Wr)
 ((.bad,[]))
 ((.bad,[]))
 (λe r we wr=>(.bad,we.1::wr.2))
 (λc=>(.v λ_ σ Q=>gv (a4i c) λv=>Q v σ,[]))
 (λx=>({Wr.v (λρ σ Q=>nmW X x ρ λv=>Q v σ)with
  g:=λv ρ σ Q=>gv (cc ρ x) λ_=>Q (iH ρ x (some v)) σ
  b:=λv ρ=>(cc ρ x).map λ_=>iH ρ x (some v)},[]))
 (λop l wl=>(.q (boW (!OL op) wl.2) (btW (!OL op) wl.2),[]))
 (λa op b wa wb=>(.v λρ σ Q=>wa.1.e ρ σ λu aO=>wb.1.e ρ aO λv b0=>BY op u v b0 Q,[]))
 (λop a wa=>(.q (λρ σ Q=>wa.1.e ρ σ λu aO=>mUn op u aO Q) (match op with
  |.Not=>λρ σ Q=>wa.1.t ρ σ λb aO=>Q (!b) aO
  |op=>λρ σ Q=>wa.1.e ρ σ λu aO=>mUn op u aO λv b0=>ze v λb=>Q b b0),[]))
 (λt a b wt wa wb=>(.q (λρ σ Q=>wt.1.t ρ σ λc aO=>br c (wa.1.e ρ aO Q) (wb.1.e ρ aO Q)) (λρ σ Q=>wt.1.t ρ σ λc aO=>br c (wa.1.t ρ aO Q) (wb.1.t ρ aO Q)),[]))
 (λa ops l wa wl=>(.q (λρ σ Q=>wa.1.e ρ σ λu aO=>YW X u ops wl.2 ρ aO λb b0=>Q (.bool b) b0) (λρ σ Q=>wa.1.e ρ σ λu aO=>YW X u ops wl.2 ρ aO Q),[]))
 (λf l wf wl=>(.v λρ σ Q=>wf.1.c ρ σ λwy aO=>aW wl.2 ρ aO λvs b0=>P6 X wy vs b0 Q,[]))
 (λo x wo=>({Wr.v (λρ σ Q=>wo.1.e ρ σ λv aO=>K3 v x aO Q)with
  c:=λρ σ K=>wo.1.e ρ σ λv aO=>WT X v x aO λwy=>K wy aO
  g:=λu ρ σ Q=>wo.1.e ρ σ λv aO=>so X v x u aO λb0=>Q ρ b0},[]))
 (λo i wo wi=>({Wr.v (λρ σ Q=>wo.1.e ρ σ λv aO=>wi.1.e ρ aO λk b0=>l8 v k b0 Q)with
  g:=λu ρ σ Q=>wo.1.e ρ σ λv aO=>wi.1.e ρ aO λk b0=>pS v k u b0 λzQ=>Q ρ zQ},[]))
 (λlo hi wlo whi=>(.v λρ σ Q=>wlo.1.e ρ σ λi aO=>whi.1.e ρ aO λj b0=>Q (.MR i j) b0,[]))
 (λl wl=>(.v λρ σ Q=>aW wl.2 ρ σ λvs aO=>vs.length≤lim∧fe vs aO Q,[]))
 (λl wl=>({Wr.v (λρ σ Q=>aW wl.2 ρ σ λvs aO=>vs.length≤lim∧Q (.tup vs) aO)with
  g:=λv ρ σ Q=>match v with
   |.tup vs=>∃dq,UM wl.2 vs ρ=some dq∧Q dq σ
   |_=>False
  b:=λv ρ=>match v with
   |.tup vs=>UM wl.2 vs ρ
   |_=>none},[]))
 ((.v λ_ σ Q=>∀c,σ c=none→Q (.ref c) (upd σ c (.dict [])),[]))
 (λe g ns we wg=>(XE X we.1 wg.2 ns,[]))
 (λps b ns wb=>(.v λρ σ Q=>X.lam∧gv (Lb ρ (Am ns)) λvs=>Q (.Fw ps b (Am ns) vs) σ,[]))
 (λe we=>(.st λρ σ Q=>we.1.e ρ σ λ_ aO=>Q .next ρ aO,[]))
 (λt e wt we=>(.st λρ σ Q=>we.1.e ρ σ λv aO=>wt.1.g v ρ aO λdq b0=>Q .next dq b0,[]))
 (λt a b wt wa wb=>(.st λρ σ Q=>wt.1.t ρ σ λc aO=>br c (bW wa.2 ρ aO Q) (bW wb.2 ρ aO Q),[]))
 (λt a wt wa=>(.st λρ σ Q=>∀P:Loc→St→Prop,(∀dq av,(wt.1.t dq av λc aO=>
  br c (bW wa.2 dq aO λfl JV b0=>match fl with
   |.next=>P JV b0
   |.ret v=>Q (.ret v) JV b0) (Q .next dq aO))→P dq av)→P ρ σ,[]))
 (λt i a wt wi wa=>(.st λρ σ Q=>wi.1.e ρ σ λv aO=>∃s,EG v aO=some s∧Ug (bW wa.2) wt.1.b s s.all ρ aO Q,[]))
 (λe we=>(.st λρ σ Q=>we.1.e ρ σ λv aO=>Q (.ret v) ρ aO,[]))
 ((.st λρ σ Q=>Q (.ret .none) ρ σ,[]))
 ((.st λρ σ Q=>Q .next ρ σ,[]))
end
noncomputable abbrev NE:=N
noncomputable abbrev NA:=N
noncomputable abbrev NB:=N
section
variable(X:Ctx)
noncomputable def wE(e:N)(ρ:Loc)(σ:St)(Q:bw):Prop:=(w X e).1.e ρ σ Q
noncomputable def wT(e:N)(ρ:Loc)(σ:St)(Q:Bool→St→Prop):Prop:=(w X e).1.t ρ σ Q
noncomputable def wC(e:N)(ρ:Loc)(σ:St)(K:Way→St→Prop):Prop:=(w X e).1.c ρ σ K
noncomputable def wAs(e:N)(v:MV)(ρ:Loc)(σ:St)(Q:Loc→St→Prop):Prop:=(w X e).1.g v ρ σ Q
noncomputable def yJ(e:N)(v:MV)(ρ:Loc):Option Loc:=(w X e).1.b v ρ
noncomputable def wS(e:N)(ρ:Loc)(σ:St)(Q:Fl→Loc→St→Prop):Prop:=(w X e).1.s ρ σ Q
noncomputable def wA(l:N)(ρ:Loc)(σ:St)(Q:List MV→St→Prop):Prop:=aW (w X l).2 ρ σ Q
noncomputable def wBo(d:Bool)(l:N)(ρ:Loc)(σ:St)(Q:bw):Prop:=boW d (w X l).2 ρ σ Q
noncomputable def wBt(d:Bool)(l:N)(ρ:Loc)(σ:St)(Q:Bool→St→Prop):Prop:=btW d (w X l).2 ρ σ Q
noncomputable def ZE(l:N)(ρ:Loc)(σ:St)(Q:Bool→St→Prop):Prop:=ifW (w X l).2 ρ σ Q
noncomputable def wCh(u:MV)(ops:List CmpOp)(l:N)(ρ:Loc)(σ:St)(Q:Bool→St→Prop):Prop:=YW X u ops (w X l).2 ρ σ Q
noncomputable def a4q(l:N)(vs:List MV)(ρ:Loc):Option Loc:=UM (w X l).2 vs ρ
noncomputable def wB(b:N)(ρ:Loc)(σ:St)(Q:Fl→Loc→St→Prop):Prop:=bW (w X b).2 ρ σ Q
end
noncomputable def zc{α:Type}:List (Nat×α)→Nat→Option α
 |[],_=>none
 |(j,v)::r,i=>bif a9 i j then some v else zc r i
noncomputable def gI:List (Nat×MV):=[
 (3979112685710311786227656414,.fn 48),
 (15979764595035432670,.fn 55),
 (895471575983846,.fn 62),
 (1877360212042872973034,.fn 69),
 (240542491310581819565802,.fn 76),
 (132775976692934378,.fn 83),
 (983702624331498,.fn 90),
 (132775976638084818,.fn 97),
 (983702569481938,.fn 104),
 (7685176751842,.fn 111),
 (16972667723026427860,.fn 119),
 (8102350581716,.fn 127),
 (7072631940810,.fn 134),
 (904126510196454,.fn 142),
 (29388,.fn 149),
 (1879238195369165024738,.fn 156),
 (16977240249421098466,.fn 163),
 (1953890012326039743970,.fn 170),
 (4562147986728856216925466082,.fn 175),
 (2136763117221795262674,.fn 182),
 (2175106730422353486568,.fn 189),
 (3938358920204252225878715874,.fn 194),
 (155258350542856178443935378080831465928,.fn 201),
 (2157243254120048324066,.fn 206),
 (31065623696501197384609748,.fn 211),
 (115887273013179604,.fn 218),
 (37150632141031540113729256,.fn 223),
 (65149680628961355646168922186460,.fn 327),
 (31086819008907677543917278,.fn 334),
 (3937109723406197126078259932,.fn 341),
 (278394646153626377187308,.fn 348),
 (243013783059443674705900,.fn 355),
 (136101105992134636,.fn 362),
 (9476217601988914768365738291389380,.fn 369),
 (2101614792061232541676,.fn 376),
 (116959508826878186,.fn 765),
 (1953887681769327032544,.fn 772),
 (250097623266473885361898,.fn 779),
 (30758671463759021826832098,.fn 786),
 (132643354993944296,.fn 793),
 (16980618635179124456,.fn 800),
 (35610938332002148400427238,.fn 807),
 (278173277211237457522918,.fn 814),
 (9483204034761314337638132095412966,.fn 821),
 (74087531521572768262797906929370,.fn 828),
 (7068400150248,.fn 835),
 (16418723934909425384,.fn 842),
 (14834723291317593540,.fn 849),
 (4246635058410147372038875854,.fn 856),
 (132758392022492890,.fn 863),
 (16993074178887543526,.fn 870),
 (15113895142336426190,.fn 877),
 (15113893831259681762,.fn 884),
 (1879238213363920729826,.fn 891),
 (14666876656585209570,.fn 898),
 (132598966548623848,.fn 905),
 (4246635058410147372089242570,.fn 912),
 (69576868796991854544586584780756,.fn 919),
 (31075233299492865549199050,.fn 926),
 (275793506619761620411110,.fn 996),
 (1035929400996054,.fn 1003),
 (1896681719939787485398,.fn 1010),
 (37150632141031540113733346,.fn 1017),
 (578382427032501170202849502952,.fn 1024),
 (33790431179284744828121318,.fn 1031),
 (131667679084476130,.fn 1038),
 (3938354252040808163004180202,.fn 1045),
 (30768390728328830357661418,.fn 1052),
 (1896681719939745408734,.fn 1059),
 (16255601482277515498,.fn 1066),
 (19887752521444462856337300797678794532574,.fn 1073),
 (16853462922787682026,.fn 1078),
 (3864290,.fn 1085),
 (966317582251746,.fn 1092),
 (7073747658470,.fn 1099),
 (2136197933194943325928,.fn 1106),
 (17405179303384149440,.fn 1174),
 (31972594188348961527524800,.fn 1181),
 (1898540747880509042112,.fn 1186),
 (30789292043499640015908288,.fn 1191),
 (242904534820016022973888,.fn 1198),
 (2024944289478948317850,.cls 38),
 (132757961967857580,.cls 316),
 (1037513061360272,.cls 463),
 (7073218785696,.cls 498),
 (7957957436060,.cls 540),
 (1028304748012188,.cls 608),
 (7957936076422,.cls 714),
 (123593346751590292,.cls 733),
 (31070582839752205658681236,.cls 754),
 (16845581615412078250,.cls 985),
 (55183633058,.cls 1123),
 (15113893838289266342,.cls 1163),
 (3663578,.bi "len"),
 (3826628,.bi "abs"),
 (3664604,.bi "min"),
 (3990236,.bi "max"),
 (1896105259335660434644,.bi "isinstance"),
 (6995922514152,.bi "sorted"),
 (494562010,.ty "list"),
 (55200703206,.ty "range"),
 (460878022,.ty "bool"),
 (41707639976071911751557211033846910279101477094,.fn 1031),
 (155373066574602990417028832719263168226,.fn 1038),
 (102065640200425606,.tup [.str fW]),
 (753478228496538,.int 4194304)]
noncomputable def Uc(x:Str):Option MV:=zc gI (no x)
noncomputable def mI:List (Nat×List (Nat×Addr)):=[
 (316,[(63283359944,245),(608593445414256515483339617492,252),(138378128534499526,259),(1898540747880434168030,273),(2062982799764800336094,280),(278394646153626335768798,287),(243013783059443633287390,294),(4755280914052037134494920926,301),(8259272563960168743004363032094438,306)]),
 (463,[(431876840,397),(431157448,404),(62708183240,411),(128095905386328284,418),(16396275894210194160,425),(8102350581716,432),(7072631940810,439),(3864290,446)]),
 (608,[(1028304710104798,563),(3864290,570),(477656010,577),(7685214497520,584),(114621194429951956,591),(895478027183818,598),(114620017101301478,605)]),
 (714,[(60040701638,648),(3338188,655),(431876840,662),(62708183240,676),(473624784,683),(456289002,690),(240376468397449024664788,697),(30768187954873475157124840,704),(56794771690,711)]),
 (985,[(114621194429951956,947),(895478027183818,954),(14824467114588169962,961),(14825716434675230442,968),(33790431179284744828121318,975),(131667679084476130,982)]),
 (1163,[(2154646902810198468330,1148),(16833195968575629034,1153),(9476207543735334234316429940257762,1160)])]
noncomputable def Tn(C:Addr)(x:Str):Option Addr:=match zc mI C with|some l=>zc l (no x)|none=>none
noncomputable def TP(C:Addr):Option Addr:=zc [(316,238),(463,390),(540,516),(608,556),(714,627),(733,730),(754,751),(985,940),(1123,1120),(1163,1141)] C
noncomputable def Cb(C:Addr):List Str:=(zc [
 (38,[Eu,Mx]),
 (316,[aX,xy,tc,g8,kU]),
 (463,[gN,fo,bM,cJ]),
 (498,[]),
 (540,[aG,iy,ae,bT]),
 (608,[aX]),
 (714,[aG,s9,vl,dy,x_point,vB,Dk,Mu,By,jk,kR,mX,d9,ip,jK,bg,j8,Ey,Et,Mw]),
 (733,[cx,aI,cW,dF,bV]),
 (754,[mE]),
 (985,[aY]),
 (1123,[ba,iS]),
 (1163,[c8])] C).getD []
open PySem.W PySem.Calls PyProof.Rows
noncomputable abbrev pw:Program:=X0
noncomputable abbrev aR:=Addr→Option Obj
noncomputable def aR.le(T T':aR):Prop:=∀b o,T b=some o→T' b=some o
theorem aR.le.refl(T:aR):T.le T:=λ_ _ e=>e
theorem aR.le.trans{T T' T'':aR}(x:T.le T')(y:T'.le T''):T.le T'':=λb o e=>y b o (x b o e)
theorem ar{α:Type}{o:Option α}{x:α}(e:o=some x)(h:o=none){p:Prop}:p:=by cases e.symm.trans h
theorem gQ{α:Type}{o:Option α}(h:o≠none):∃x,o=some x:=by
 induction o with
 |some x=>exact⟨x,rfl⟩
 |none=>exact(h rfl).elim
theorem gS{α:Type}{p:Prop}{o:Option α}(h:∀x,o=some x→o=none):o=none:=by
 induction o with
 |none=>rfl
 |some x=>exact h x rfl
theorem Gf{l:List MV}{C:Nat}{fs:List (Str×MV)}{p:Prop}(h:MO.list l=.inst C fs):p:=by cases h
theorem gH{α:Type}{o:Option α}{x:α}(e:o=some x):o≠none:=λh=>ar e h
inductive UX (fd:FuncData) (ps:List Str) (b:N) (cs:List (Str×Addr)):Prop
 |mk (as:List Arg) (e:Expr) (names:aK) (more:List (Str×Const)) (pa:fd.params=⟨[],as,none,[],[],none,[]⟩) (pn:as.map (·.arg)=ps) (eb:fd.body=.expr e) (nb:nE names e=b)
  (sc:fd.scope=⟨.function,names,false,false,more⟩) (gl:fd.globals=mainGlobals) (cl:fd.closure=cs) (bi:fd.builtins=builtinsNs) (df:fd.defaults=.none) (ok:SY names ps=true) (hfr:cs.map (·.1)=Am names)
noncomputable def TupAt(T:aR)(a:Addr)(vs:List Value):Prop:=∃o n,T a=some o∧o.cls=.type "tuple"∧o.data=.seq vs.toArray n
noncomputable def oH(T:aR)(cd:Value)(q:Str):Prop:=∃c o vs t,cd=.ref c∧T c=some o∧o.data=.fields vs∧vs[1]?=some (.str q t)
noncomputable def uk(T:aR)(c:Addr)(v:Value):Prop:=∃o,T c=some o∧o.data=.cell (some v)
noncomputable def pz(T:aR):List (Str×Addr)→List Str→List Value→Prop
 |[],ns,vs=>ns=[]∧vs=[]
 |p::r,ns,vs=>∃v Q4 Gy,ns=p.1::Q4∧vs=v::Gy∧uk T p.2 v∧pz T r Q4 Gy
noncomputable def FnAt(T:aR)(a:Addr):Prop:=∃o fd,T a=some o∧o.data=.func fd
noncomputable abbrev ZY(t:Tok)(n:Int)(u z:Tok):Obj:={cls:=.type "range",dict:=none,data:=.fields #[.int 0 t,.int n u,.int 1 z],slots:=#[]}
noncomputable abbrev yU(i j:Value):Obj:={cls:=.type "slice",data:=.fields #[i,j,.none]}
mutual
noncomputable def VR(T:aR):MV→Value→Prop
 |.none,v=>v=.none
 |.bool b,v=>v=.bool b
 |.int i,v=>∃t,v=.int i t
 |.str s,v=>∃t,v=.str s t
 |.ref a,v=>v=.ref a
 |.tup l,v=>∃a vs,v=.ref a∧TupAt T a vs∧eQ T l vs
 |.PK n,v=>∃a t u z,v=.ref a∧T a=some (ZY t n u z)∧(0≤n∧n≤lim)
 |.fn a,v=>v=.ref a∧FnAt T a
 |.cls C,v=>v=.ref C
 |.bi s,v=>v=.builtin s∧(withoutEnding? s "#data").isNone=true
 |.ty s,v=>v=.type s
 |.Fw ps b ns ms,v=>∃a o fd cs vs,v=.ref a∧T a=some o∧o.data=.func fd∧UX fd ps b cs∧oH T fd.code fd.qualname∧pz T cs ns vs∧eQ T ms vs
 |.MR lo hi,v=>∃a i j,v=.ref a∧T a=some (yU i j)∧VR T lo i∧VR T hi j
noncomputable def eQ(T:aR):List MV→List Value→Prop
 |[],vs=>vs=[]
 |m::ms,vs=>∃v r,vs=v::r∧VR T m v∧eQ T ms r
end
section
variable{T T':aR}(h:T.le T')
include h
theorem FnAt.mono{a}:FnAt T a→FnAt T' a:=bj λ_=>bj λ_=>dR (h _ _)
theorem TupAt.mono{a vs}:TupAt T a vs→TupAt T' a vs:=bj λ_=>bj λ_=>dR (h _ _)
theorem oH.mono{cd q}:oH T cd q→oH T' cd q:=bj λ_=>bj λ_=>bj λ_=>bj λ_=>cD (dR (h _ _))
theorem uk.mono{c v}:uk T c v→uk T' c v:=bj λ_=>dR (h _ _)
theorem pz.mono:∀{cs ns vs},pz T cs ns vs→pz T' cs ns vs:=by
 intro zl;induction zl with
 |nil=>
  rintro _ _;exact id
 |cons _ _ ih=>
  rintro _ _;exact bj λ_=>bj λ_=>bj λ_=>cD (cD (vc (uk.mono h) ih))
mutual
theorem VR.mono:∀(m:MV){v:Value},VR T m v→VR T' m v
 |.none,_|.bool _,_|.int _,_|.str _,_|.ref _,_|.cls _,_|.bi _,_|.ty _,_=>id
 |.tup l,_=>bj λ_=>bj λ_=>cD (vc (TupAt.mono h) (eQ.mono l))
 |.PK _,_=>bj λ_=>bj λ_=>bj λ_=>bj λ_=>cD (dR (h _ _))
 |.fn _,_=>cD (FnAt.mono h)
 |.Fw _ _ _ l,_=>bj λ_=>bj λ_=>bj λ_=>bj λ_=>bj λ_=>cD (vc (h _ _) (cD (cD (vc (oH.mono h) (vc (pz.mono h) (eQ.mono l))))))
 |.MR a b,_=>bj λ_=>bj λ_=>bj λ_=>cD (vc (h _ _) (vc (VR.mono a) (VR.mono b)))
theorem eQ.mono:∀(l:List MV){vs:List Value},eQ T l vs→eQ T' l vs
 |[],_=>id
 |m::ms,_=>bj λ_=>bj λ_=>cD (vc (VR.mono m) (eQ.mono ms))
end
end
theorem VR.up{T T':aR}{m:MV}{v:Value}(x:VR T m v)(h:T.le T'):VR T' m v:=VR.mono h m x
theorem eQ.up{T T':aR}{m:List MV}{v:List Value}(x:eQ T m v)(h:T.le T'):eQ T' m v:=eQ.mono h m x
section
variable{T:aR}
theorem eQ.length:∀(l:List MV){vs:List Value},eQ T l vs→l.length=vs.length:=by
 intro zl;induction zl with
 |nil=>
  rintro _ e;exact congrArg bl (show[]=_ from e.symm)
 |cons _ ms ih=>
  rintro _ x;exact iA x λv r z=>rwl z.1 (congrArg (·+1) (ih z.2.2))
theorem eQ.get:∀(l:List MV){vs:List Value},eQ T l vs→∀{i:Nat}{m:MV},l[i]?=some m→∃v,vs[i]?=some v∧VR T m v:=by
 intro zl;induction zl with
 |nil=>
  rintro _ _ _ _ e;exact ar e rfl
 |cons _ ms ih=>
  rintro _ x i m e;refine iA x λv r z=>?_;rw[z.1];induction i using kQ with
  |zero=>exact⟨v,rfl,rwr (aA e) z.2.1⟩
  |succ i=>exact ih z.2.2 e
theorem eQ.append{k:List MV}{us:List Value}(y:eQ T k us):∀(l:List MV){vs:List Value},eQ T l vs→eQ T (l++k) (vs++us):=by
 intro zl;induction zl with
 |nil=>
  rintro _ e;rw[show _=[]from e];exact y
 |cons _ ms ih=>
  rintro _ x;exact iA x λv r z=>rwl z.1 (⟨v,r++us,rfl,z.2.1,ih z.2.2⟩)
theorem eQ.take:∀(l:List MV){vs:List Value}(i:Nat),eQ T l vs→eQ T (l.take i) (vs.take i):=by
 intro zl;induction zl with
 |nil=>
  rintro _ i e;rw[show _=[]from e,Ia,Ia];rfl
 |cons _ ms ih=>
  rintro _ i x;refine iA x λv r z=>?_;rw[z.1];induction i using kQ with
  |zero=>exact rfl
  |succ i=>exact⟨v,_,rfl,z.2.1,ih i z.2.2⟩
theorem eQ.drop:∀(l:List MV){vs:List Value}(i:Nat),eQ T l vs→eQ T (l.drop i) (vs.drop i):=by
 intro zl;induction zl with
 |nil=>
  rintro _ i e;rw[show _=[]from e,zI,zI];rfl
 |cons _ ms ih=>
  rintro _ i x;induction i using kQ with
  |zero=>exact x
  |succ i=>exact iA x λv r z=>rwl z.1 (ih i z.2.2)
theorem eQ.set{m:MV}{v:Value}(y:VR T m v):∀(l:List MV){vs:List Value}(i:Nat),eQ T l vs→eQ T (l.set i m) (vs.set i v):=by
 intro zl;induction zl with
 |nil=>
  rintro _ i e;rw[show _=[]from e];exact rfl
 |cons _ ms ih=>
  rintro _ i x;refine iA x λv' r z=>?_;rw[z.1];induction i using kQ with
  |zero=>exact⟨_,_,rfl,y,z.2.2⟩
  |succ i=>exact⟨v',_,rfl,z.2.1,ih i z.2.2⟩
theorem eQ.one{m:MV}{v:Value}(h:VR T m v):eQ T [m] [v]:=⟨v,[],rfl,h,rfl⟩
section
variable{v:MV}{u:Value}{P:Value→Prop}
theorem MV.on.vr{i r t}(R:VR T v u)(h:v.on i r t)(ci:∀k t,i k→P (.int k t))(cr:∀a,r a→P (.ref a))(ct:∀l a vs,TupAt T a vs→eQ T l vs→t l→P (.ref a)):P u:=by
 induction v using MV.casesOn with
 |int k=>exact Cc R λt e=>rwl e (ci k t h)
 |ref a=>rw[show u=.ref a from R];exact cr a h
 |tup l=>exact iA R λa vs z=>rwl z.1 (ct l a vs z.2.1 z.2.2 h)
 |_=>exact h.elim
theorem MV.on.ir{i r}(R:VR T v u)(h:v.on i r jg)(ci:∀k t,i k→P (.int k t))(cr:∀a,r a→P (.ref a)):P u:=MV.on.vr R h ci cr λ_ _ _ _ _ h=>h.elim
theorem MV.on.i{i}(R:VR T v u)(h:v.on i jg jg)(c:∀k t,i k→P (.int k t)):P u:=MV.on.ir R h c λ_ h=>h.elim
theorem MV.on.r{r}(R:VR T v u)(h:v.on jg r jg)(c:∀a,r a→P (.ref a)):P u:=MV.on.ir R h (λ_ _ h=>h.elim) c
end
theorem look.cases{σ:St}{a:Addr}{kl ki kd}{P:Prop}(h:look σ a kl ki kd)(cl:∀l,σ a=some (.list l)→kl l→P)(ci:∀C fs,σ a=some (.inst C fs)→ki C fs→P)(cd:∀l,σ a=some (.dict l)→kd l→P):P:=by
 unfold look at h;induction e:σ a with
 |none=>rw[e]at h;exact h.elim
 |some o=>rw[e]at h;induction o with
  |list l=>exact cl l e h
  |inst C fs=>exact ci C fs e h
  |dict l=>exact cd l e h
  |Lc l=>exact h.elim
theorem look.l{σ:St}{a:Addr}{kl}{P:Prop}(h:look σ a kl KU jg)(c:∀l,σ a=some (.list l)→kl l→P):P:=h.cases c (λ_ _ _ h=>h.elim) λ_ _ h=>h.elim
theorem gv.cases{α:Type}{o:Option α}{k:α→Prop}{P:Prop}(h:gv o k)(c:∀x,o=some x→k x→P):P:=by
 induction o with
 |some x=>exact c x rfl h
 |none=>exact h.elim
end
structure GC where
 w:World
 T0:aR
 os:OsState
 tabs:List (Addr×Str)
 K:Frag
noncomputable def O7(K:Frag)(C:Addr):Bool:=
 findIn K (.ref C) "__getattribute__"==some (some (.builtin "object.__getattribute__"))&&findIn K (.ref C) "__getattr__"==some none&&
 (clsIn K C).any (·.hasDict)&&plainOver K C&&findIn K (.ref C) "__setattr__"==some (some (.builtin "object.__setattr__"))
noncomputable abbrev cU(vs:List Value)(n:Nat):Obj:={cls:=.type "list",data:=.seq vs.toArray n}
noncomputable def DR(T:aR):List (Int×MV)→List (Int×Value)→Prop
 |[],es=>es=[]
 |p::l,es=>∃v r,es=(p.1,v)::r∧VR T p.2 v∧DR T l r
noncomputable def D9(T:aR)(m:Option MV)(v:Option Value):Prop:=match m with
 |none=>v=none
 |some m=>∃u,v=some u∧VR T m u
theorem D9.mono{T T':aR}(h:T.le T'){m v}(x:D9 T m v):D9 T' m v:=by
 induction m with
 |none=>exact x
 |some m=>exact x.imp λ_=>cD (VR.mono h m)
theorem DR.mono{T T':aR}(h:T.le T'):∀(l:List (Int×MV)){es:List (Int×Value)},DR T l es→DR T' l es:=by
 intro zl;induction zl with
 |nil=>
  rintro _;exact id
 |cons p l ih=>
  rintro _;exact bj λ_=>bj λ_=>cD (vc (VR.mono h p.2) (ih))
inductive XX (T:aR) (h:Heap) (a:Addr) (l:List MV):Prop
 |mk (vs:List Value) (n:Nat) (e:h.get? a=some (cU vs n)) (r:eQ T l vs) (len:l.length≤lim)
inductive QR (G:GC) (T:aR) (h:Heap) (a:Addr) (C:Addr) (fs:List (Str×MV)):Prop
 |mk (d:Addr) (m:Str→Option Value) (ea:a=d+1) (e:h.get? a=some (instObj C d)) (ns:h.Ns1 d m) (f:∀x,D9 T (cc fs x) (m x)) (g:∀x,cc fs x≠none→x∈Cb C) (k:O7 G.K C=true)
inductive XT (T:aR) (h:Heap) (a:Addr) (l:List MV):Prop
 |mk (vs:List Value) (n:Nat) (t:T a=some (cU vs n)) (e:h.get? a=some (cU vs n)) (r:eQ T l vs) (len:l.length≤lim) (ns:(a==sysModules)=false)
inductive a1N (G:GC) (T:aR) (h:Heap) (a:Addr) (l:List (Int×MV)):Prop
 |mk (kvs:List (Int×Value)) (e:h.DictOf (intKind pw G.w) a kvs) (r:DR T l kvs)
noncomputable def Gj(G:GC)(T:aR)(h:Heap)(a:Addr):MO→Prop
 |.list l=>XX T h a l
 |.inst C fs=>QR G T h a C fs
 |.dict l=>a1N G T h a l
 |.Lc l=>XT T h a l
noncomputable def n9(σ:St)(b:Addr):Prop:=(∃o,σ b=some o∧o.BW=true)∨∃C fs,σ (b+1)=some (.inst C fs)
noncomputable def H8(T:aR)(h:Heap)(P:Addr)(q:Str):Prop:=∃ps,h.get? P=some (tabObj ps)∧TriplesOk ps.toList∧∀pos cv,codeAmong pos ps.toList=some cv→oH T cv q
structure u6(G:GC)(T B:aR)(σ:St)(x:Addr):Prop where
 t:T x=none
 b:B x=none
 f:¬n9 σ x
 tab:∀q∈G.tabs,q.1≠x
structure Inv(G:GC)(T B:aR)(σ:St)(s:Shared):Prop where
 t:T.le s.heap.get?
 b:B.le s.heap.get?
 base:G.T0.le T
 tb:∀x,B x≠none→T x=none
 obj:∀a mo,σ a=some mo→Gj G T s.heap a mo
 sep:∀x,n9 σ x→T x=none∧B x=none
 PZ:∀d C fs,σ (d+1)=some (.inst C fs)→σ d=none
 tab:∀q∈G.tabs,H8 T s.heap q.1 q.2
 oh:∀q∈G.tabs,T q.1=none∧B q.1=none∧¬n9 σ q.1
 os:s.os=G.os
 gens:s.gens=#[]
section
variable{G:GC}{T T' B B':aR}{σ av:St}{s s':Shared}{h h':Heap}{a x:Addr}{mo U8:MO}
theorem S3{d:Addr}{m}(x:h.Ns1 d m):∃o,h.get? d=some o:=x.imp λ_ y=>y.elim λ_ y=>y.elim λ_ y=>y.1
theorem Qz{l}(x:h.DictOf (intKind pw G.w) a l):∃o,h.get? a=some o:=x.imp λ_ y=>y.elim λ_ y=>y.elim λ_ y=>y.1
theorem Xx{l}(x:h.DictOf (intKind pw G.w) a l)(k:∀o,h.get? a=some o→h'.get? a=some o):h'.DictOf (intKind pw G.w) a l:=x.imp λo=>bj λ_=>bj λ_=>dR (k o)
theorem Gj.live{mo:MO}(x:Gj G T h a mo):∃o,h.get? a=some o:=by
 induction mo with
 |dict _=>induction x with|mk _ e=>exact Qz e
 |Lc _=>induction x with|mk _ _ _ e=>exact⟨_,e⟩
 |_=>cases x;exact⟨_,by assumption⟩
theorem Gj.move(hT:T.le T'){mo:MO}(x:Gj G T h a mo)(k:∀o,h.get? a=some o→h'.get? a=some o)(kd:∀C fs d o,mo=.inst C fs→a=d+1→h.get? d=some o→h'.get? d=some o):Gj G T' h' a mo:=by
 induction mo with
 |list _=>induction x with|mk vs n e r l=>exact .mk vs n (k _ e) (r.up hT) l
 |inst C fs=>induction x with|mk d m ea e ns f g c=>exact .mk d m ea (k _ e) (ns.at λo=>kd C fs d o rfl ea) (λx=>(f x).mono hT) g c
 |dict _=>induction x with|mk es e r=>exact .mk es (Xx e k) (DR.mono hT _ r)
 |Lc _=>induction x with|mk vs n t e r l ns=>exact .mk vs n (hT _ _ t) (k _ e) (r.up hT) l ns
theorem Inv.live(I:Inv G T B σ s)(f:n9 σ x):∃o,s.heap.get? x=some o:=by
 rcases f with f|f
 ·exact f.elim λ_ e=>(I.obj _ _ e.1).live
 ·exact f.elim λC f=>f.elim λfs e=>by induction(I.obj _ _ e:QR ..)with|mk d m ea _ ns=>exact S3 (rwl (rW ea) ns)
theorem Inv.off{P:Addr}(I:Inv G T B σ s)(e:σ a=some mo)(t:T P=none)(f:¬n9 σ P):a≠P:=λq=>by
 subst q;induction h:mo.BW with
 |true=>exact f (.inl ⟨mo,e,h⟩)
 |false=>induction mo with
  |Lc l=>induction(I.obj _ _ e:XT ..)with|mk _ _ z=>exact ar z t
  |_=>exact absurd h.symm aq
theorem Inv.fresh(I:Inv G T B σ s)(hx:s.heap.get? x=none):u6 G T B σ x:=
 ⟨gS (p:=True) λo e=>ar (I.t _ _ e) hx,gS (p:=True) λo e=>ar (I.b _ _ e) hx,λf=>(I.live f).elim λ_ e=>ar e hx,
  λq hq e=>(I.tab q hq).elim λ_ z=>ar z.1 (rwl e hx)⟩
theorem Inv.step{P:Addr→Prop}(I:Inv G T B σ s)(hT:T.le T')(hn:∀b o,T' b=some o→T b=some o∨s.heap.get? b=none∧s'.heap.get? b=some o)
  (hP:∀x,P x→T x=none∧B x=none∧∀q∈G.tabs,q.1≠x∨H8 T' s'.heap q.1 q.2) (hk:∀x o,¬P x→s.heap.get? x=some o→s'.heap.get? x=some o)
  (hf:∀x,n9 av x→n9 σ x∨s.heap.get? x=none∧T' x=none)
  (ho:∀a mo,av a=some mo→σ a=some mo∧¬P a∧(∀C fs d,mo=.inst C fs→a=d+1→¬P d)∨Gj G T' s'.heap a mo)
  (a1b:∀d C fs,av (d+1)=some (.inst C fs)→av d=none) (GY:s'.os=s.os) (hg:s'.gens=s.gens):Inv G T' B av s':=by
 have tn:∀x o,s.heap.get? x=some o→T x=none→T' x=none:=λx o e q=>gS (p:=True) λo' h=>(hn x o' h).elim (λh=>ar h q) λh=>ar e h.1;refine⟨λb o e=>(hn b o e).elim ((λb o e=>hk b o (λp=>ar e (hP b p).1) (I.t b o e)) b o) (·.2),λb o e=>hk b o (λp=>ar e (hP b p).2.1) (I.b b o e),I.base.trans hT,λx hx=>?_,λa mo e=>?_,λx f=>?_,a1b,λq hq=>?_,λq hq=>?_,GY.trans I.os,hg.trans I.gens⟩
 ·exact(gQ hx).elim λo e=>tn x o (I.b _ _ e) (I.tb x hx)
 ·exact(ho a mo e).elim (λz=>(I.obj a mo z.1).move hT (λo=>hk a o z.2.1) λC fs d o q r=>hk d o (z.2.2 C fs d q r)) id
 ·exact(hf x f).elim (λf=>(I.live f).elim λo e=>⟨tn x o e (I.sep x f).1,(I.sep x f).2⟩) λz=>⟨z.2,gS (p:=True) λo b=>ar (I.b _ _ b) z.1⟩
 ·refine Cc (I.tab q hq) λps zh=>oe zh λa b c=>?_;exact(rT (P q.1)).elim (λp=>((hP _ p).2.2 q hq).elim (absurd rfl) id) λp=>⟨ps,hk _ _ p a,b,λpos cv e=>(c pos cv e).mono hT⟩
 ·refine(I.tab q hq).elim λps a=>?_;have a:=a.1;have t:=I.oh q hq;exact⟨tn _ _ a t.1,t.2.1,λf=>(hf _ f).elim t.2.2 λh=>ar a h.1⟩
theorem n9.upd(h:n9 (upd σ a mo) x):n9 σ x∨x=a∨∃C fs,mo=.inst C fs∧a=x+1:=by
 rcases h with f|⟨C,fs,e⟩
 ·by_cases h:x=a
  ·exact .inr (.inl h)
  ·rw[aC h]at f;exact .inl (.inl f)
 ·by_cases h:x+1=a
  ·rw[h,ak]at e;exact .inr (.inr ⟨C,fs,aA e,h.symm⟩)
  ·rw[aC h]at e;exact .inl (.inr ⟨C,fs,e⟩)
theorem Inv.grow(I:Inv G T B σ s)(hk:∀b o,s.heap.get? b=some o→s'.heap.get? b=some o)(hT:T.le T')(hn:∀b o,T' b=some o→T b=some o∨s.heap.get? b=none∧s'.heap.get? b=some o)
  (ho:s'.os=s.os) (hg:s'.gens=s.gens):Inv G T' B σ s':=
 I.step (P:=λ_=>False) hT hn (λ_ p=>p.elim) (λx o _=>hk x o) (λ_ f=>.inl f) (λ_ _ e=>.inl ⟨e,id,λ_ _ _ _ _=>id⟩) I.PZ ho hg
theorem Inv.other(I:Inv G T B σ s)(hb:B'.le s.heap.get?)(ht:∀x,B' x≠none→T x=none∧¬n9 σ x∧∀q∈G.tabs,q.1≠x):Inv G T B' σ s:=
 ⟨I.t,hb,I.base,λx hx=>(ht x hx).1,I.obj,λx f=>⟨(I.sep x f).1,gS (p:=True) λo h=>absurd f (ht x (gH h)).2.1⟩,I.PZ,I.tab,
  λq hq=>⟨(I.oh q hq).1,gS (p:=True) λo h=>absurd rfl ((ht q.1 (gH h)).2.2 q hq),(I.oh q hq).2.2⟩,I.os,I.gens⟩
theorem Inv.less{τ:St}(I:Inv G T B σ s)(h:∀a mo,τ a=some mo→σ a=some mo):Inv G T B τ s:=
 have foot:∀y,n9 τ y→n9 σ y:=λy f=>f.imp (λf=>f.imp λ_ e=>⟨h _ _ e.1,e.2⟩) λz=>z.imp λC z=>z.imp λfs e=>h _ _ e
 ⟨I.t,I.b,I.base,I.tb,λa mo e=>I.obj a mo (h _ _ e),λx f=>I.sep x (foot x f),λd C fs e=>gS (p:=True) λmo q=>ar (h _ _ q) (I.PZ d C fs (h _ _ e)),I.tab,λq hq=>⟨(I.oh q hq).1,(I.oh q hq).2.1,λf=>(I.oh q hq).2.2 (foot _ f)⟩,I.os,I.gens⟩
end
noncomputable def a4A(n:Nat)(A:Around):Prop:=A.handled=none∧A.depth+4*n≤600∧A.units+30*n≤6000
noncomputable def L0(n:Nat)(A:Around):Prop:=A.handled=none∧A.depth+4*n+2≤600∧A.units+30*n+12≤6000
theorem L0.room{n:Nat}{A:Around}(h:L0 n A):a4A n A:=⟨h.1,l6 h.2.1,l6 h.2.2⟩
inductive Ret (G:GC) (T B:aR) (Q:bw) (r:Result) (s':Shared):Prop
 |mk (v:Value) (T':aR) (m:MV) (av:St) (e:r=.ok (.ret v)) (t:T.le T') (x:VR T' m v) (I:Inv G T' B av s') (q:Q m av)
noncomputable def oa(G:GC)(n:Nat)(f:MV)(vs:List MV)(σ:St)(Q:bw):Prop:=
 ∀(A:Around)(T B:aR)(s:Shared)(fv:Value)(us:List Value),a4A n A→Inv G T B σ s→VR T f fv→eQ T vs us→codeAny (model pw G.w) A (.call fv ⟨us,[]⟩) (Ret G T B Q) s
noncomputable abbrev Cl:=MV→List MV→St→bw→Prop
inductive a1L (T:aR) (a:Addr) (P:Array DictEntry→Prop):Prop
 |mk (o:Obj) (es:Array DictEntry) (ep:Nat) (e:T a=some o) (d:o.data=.dict es ep) (k:StrKeys es) (p:P es)
structure Y6(G:GC):Prop where
 kin:∀a o,G.K.lookup a=some o→G.T0 a=some o
 a2K:G.T0 sysModules≠none
 S5:a1L G.T0 cStatics λes=>nsFind es "sys.recursionlimit"=none
 Ua:a1L G.T0 mainGlobals λes=>a1L G.T0 builtinsNs λes'=>∀x v,Uc x=some v→(∃u,nsFind es x=some u∧VR G.T0 v u)∨(nsFind es x=none∧∃u,nsFind es' x=some u∧VR G.T0 v u)
 few:∀C,(Cb C).length≤1000
 fld:∀C x,x∈Cb C→findIn G.K (.ref C) x=some none
 mth:∀C m f,Tn C m=some f→findIn G.K (.ref C) m=some (some (.ref f))∧typeIn G.K (.ref f)=some (.type "function")∧m∉Cb C∧FnAt G.T0 f
 ini:∀C f,TP C=some f→makesIn G.K C=true∧findIn G.K (.ref C) "__init__"=some (some (.ref f))∧typeIn G.K (.ref f)=some (.type "function")∧O7 G.K C=true∧FnAt G.T0 f∧keepIn G.K (.ref C)=true
noncomputable def Pm(G:GC)(code:Value)(q:Str):Prop:=∃cd P,code=.ref cd∧((P,q)∈G.tabs∧∀q'∈G.tabs,q'.1=P→q'.2=q)∧∀h:Heap,G.T0.le h.get?→CodeHd h cd P∧∃mg,h.Ns mainGlobals mg∧h.BuiltinsAt mg P
structure Cx where
 G:GC
 W:Y6 G
 n:Nat
 call:Cl
 cs:∀f vs σ Q,call f vs σ Q→oa G n f vs σ Q
 A:Around
 hr:L0 n A
 B:aR
 env:Env
 own:Bool
 fz:Bool
 kind:env.scope.kind=.function
 gl:env.globals=mainGlobals
 bi:env.builtins=builtinsNs
 nf:fz=true→own=false
 lc:fz=true→Pm G env.code (env.qual++"<lambda>")
 uq:own=true→∀x y k,env.cells.lookup x=some k→env.cells.lookup y=some k→x=y
noncomputable def NW(T:aR)(m:Option MV)(v:Option Value):Prop:=match m with
 |none=>True
 |some m=>∃u,v=some u∧VR T m u
theorem NW.mono{T T':aR}(h:T.le T'){m v}(x:NW T m v):NW T' m v:=by
 induction m with
 |none=>exact x
 |some m=>exact x.imp λ_=>cD (VR.mono h m)
noncomputable def Cell(T:aR)(env:Env)(h:Heap)(x:Str)(ov:Option MV)(c:Addr):Prop:=env.cells.lookup x=some c∧∃cv,h.IsCell c cv∧NW T ov cv
noncomputable def Slot(T:aR)(env:Env)(h:Heap)(m:Str→Option Value)(x:Str):Option (Option MV)→Prop
 |none=>env.kindOf x≠some .local∧env.kindOf x≠some .cell∧env.kindOf x≠some .free
 |some ov=>(env.kindOf x=some .local∧NW T ov (m x))∨((env.kindOf x=some .cell∨env.kindOf x=some .free)∧∃c,Cell T env h x ov c)
theorem Slot.mono{T T':aR}(h:T.le T'){env:Env}{hp hp':Heap}{m:Str→Option Value}{x:Str}(hk:∀c v,env.cells.lookup x=some c→hp.IsCell c v→hp'.IsCell c v){o:Option (Option MV)}(y:Slot T env hp m x o):Slot T' env hp' m x o:=by
 induction o with
 |none=>exact y
 |some ov=>exact y.imp (cD (NW.mono h)) (cD (bj λc y=>⟨y.1,y.2.imp λv z=>⟨hk c v y.1 z.1,z.2.mono h⟩⟩))
structure FrE(c:Cx)(ρ:Loc)(T:aR)(σ:St)(s:Shared):Prop where
 ns:∃m,s.heap.Ns c.env.locals m∧∀x,Slot T c.env s.heap m x (cc ρ x)
 sep:u6 c.G T c.B σ c.env.locals
 G0:c.own=true→∀x k,c.env.cells.lookup x=some k→(∃v,s.heap.IsCell k v)∧u6 c.G T c.B σ k∧k≠c.env.locals
 DL:c.own=false→∀x k,c.env.cells.lookup x=some k→∃o,T k=some o∨(c.fz=false∧c.B k=some o)
noncomputable def FI(c:Cx)(ρ:Loc)(T:aR)(σ:St)(s:Shared):Prop:=Inv c.G T c.B σ s∧FrE c ρ T σ s
section
variable{c:Cx}{ρ dq:Loc}{T T':aR}{σ av:St}{s s':Shared}{a:Addr}{mo U8:MO}
theorem u6.step{G:GC}{B:aR}{x:Addr}{o:Obj}(L:u6 G T B σ x)(e:s.heap.get? x=some o)(hn:∀b o,T' b=some o→T b=some o∨s.heap.get? b=none∧s'.heap.get? b=some o)
  (hf:∀x,n9 av x→n9 σ x∨s.heap.get? x=none∧T' x=none):u6 G T' B av x:=
 ⟨gS (p:=True) λo' h=>(hn x o' h).elim (λh=>ar h L.t) λh=>ar e h.1,L.b,λf=>(hf x f).elim L.f λh=>ar e h.1,L.tab⟩
theorem FI.step{P:Addr→Prop}(F:FI c ρ T σ s)(hT:T.le T')(hn:∀b o,T' b=some o→T b=some o∨s.heap.get? b=none∧s'.heap.get? b=some o)
  (hP:∀x,P x→T x=none∧c.B x=none∧∀q∈c.G.tabs,q.1≠x∨H8 T' s'.heap q.1 q.2) (hL:¬P c.env.locals) (hC:∀x k,c.env.cells.lookup x=some k→¬P k)
  (hk:∀x o,¬P x→s.heap.get? x=some o→s'.heap.get? x=some o) (hf:∀x,n9 av x→n9 σ x∨s.heap.get? x=none∧T' x=none)
  (ho:∀a mo,av a=some mo→σ a=some mo∧¬P a∧(∀C fs d,mo=.inst C fs→a=d+1→¬P d)∨Gj c.G T' s'.heap a mo)
  (a1b:∀d C fs,av (d+1)=some (.inst C fs)→av d=none) (GY:s'.os=s.os) (hg:s'.gens=s.gens):FI c ρ T' av s':=by
 have cl:∀x k v,c.env.cells.lookup x=some k→s.heap.IsCell k v→s'.heap.IsCell k v:=λx k v e=>bj λo=>dR (hk k o (hC x k e));refine⟨F.1.step hT hn hP hk hf ho a1b GY hg,?_,?_,λh x k e=>?_,λh x k e=>(F.2.DL h x k e).imp λo=>Pr (hT _ _)⟩
 ·exact F.2.ns.imp λm y=>⟨y.1.imp λo=>bj λ_=>bj λ_=>dR (hk _ o hL),λx=>(y.2 x).mono hT λk v=>cl x k v⟩
 ·induction F.2.ns with|intro m y=>induction y.1 with|intro o y=>induction y with|intro _ y=>induction y with|intro _ y=>exact F.2.sep.step y.1 hn hf
 ·have y:=F.2.G0 h x k e;induction y.1 with|intro v z=>induction z with|intro o z=>exact⟨⟨v,cl x k v e ⟨o,z⟩⟩,y.2.1.step z.1 hn hf,y.2.2⟩
theorem FI.grow(F:FI c ρ T σ s)(hk:∀b o,s.heap.get? b=some o→s'.heap.get? b=some o)(hT:T.le T')(hn:∀b o,T' b=some o→T b=some o∨s.heap.get? b=none∧s'.heap.get? b=some o)
  (ho:s'.os=s.os) (hg:s'.gens=s.gens):FI c ρ T' σ s':=
 F.step (P:=λ_=>False) hT hn (λ_ p=>p.elim) id (λ_ _ _=>id) (λx o _=>hk x o) (λ_=>.inl) (λ_ _ e=>.inl ⟨e,id,λ_ _ _ _ _=>id⟩) F.1.PZ ho hg
theorem FI.ext(F:FI c ρ T σ s)(hk:∀b o,s.heap.get? b=some o→s'.heap.get? b=some o)(ho:s'.os=s.os)(hg:s'.gens=s.gens):FI c ρ T σ s':=F.grow hk (.refl T) (λ_ _=>.inl) ho hg
theorem FI.tok(F:FI c ρ T σ s)(t:Nat):FI c ρ T σ {s with toks:=t}:=F.ext (λ_ _=>id) rfl rfl
theorem FI.take(F:FI c ρ T σ s)(hk:∀b o,s.heap.get? b=some o→s'.heap.get? b=some o)(hc:s.heap.get? a=none)(ho:Gj c.G T s'.heap a mo)
  (hd:∀C fs d,mo=.inst C fs→a=d+1→s.heap.get? d=none) (GY:s'.os=s.os) (hg:s'.gens=s.gens):FI c ρ T (upd σ a mo) s':=by
 have sn:∀x,s.heap.get? x=none→σ x=none:=λx e=>gS (p:=True) λo h=>(F.1.obj _ _ h).live.elim λ_ q=>ar q e;refine F.step (P:=λ_=>False) (.refl T) (λ_ _=>.inl) (λ_ p=>p.elim) id (λ_ _ _=>id) (λx o _=>hk x o) (λx f=>?_) (λb m e=>?_) (λd C fs e=>?_) GY hg
 ·have fr:s.heap.get? x=none→s.heap.get? x=none∧T x=none:=λe=>⟨e,(F.1.fresh e).t⟩;exact f.upd.imp_right λf=>f.elim (λe=>fr (rwl e hc)) λf=>f.elim λC f=>f.elim λfs f=>fr (hd C fs x f.1 f.2)
 ·by_cases h:b=a
  ·rw[h,ak]at e;exact .inr (h▸rwr (aA e) ho)
  ·rw[aC h]at e;exact .inl ⟨e,id,λ_ _ _ _ _=>id⟩
 ·by_cases h:d+1=a
  ·rw[h,ak]at e;rw[aC (λq=>D' d (h.trans q.symm))];exact sn d (hd C fs d (aA e) h.symm)
  ·rw[aC h]at e;rw[aC (λq=>(F.1.live (.inr ⟨C,fs,e⟩:n9 σ d)).elim λ_ z=>ar z ((congrArg s.heap.get? (show d=a from q)).trans hc))];exact F.1.PZ d C fs e
theorem FI.chg{P:Addr→Prop}(F:FI c ρ T σ s)(ha:σ a=some mo)(hmi:mo.BW=true)(hm:∀C fs,U8=.inst C fs→∃Rf,mo=.inst C Rf)(hP:∀x,P x→x=a∨∃C fs,mo=.inst C fs∧a=x+1)
  (hk:∀x o,¬P x→s.heap.get? x=some o→s'.heap.get? x=some o) (ho:Gj c.G T s'.heap a U8) (GY:s'.os=s.os) (hg:s'.gens=s.gens):FI c ρ T (upd σ a U8) s':=by
 have pf:∀x,P x→n9 σ x:=λx p=>(hP x p).elim (λe=>.inl (rwl e (⟨mo,ha,hmi⟩))) λz=>iA z λC fs z=>.inr ⟨C,fs,z.2▸rwr z.1 ha⟩;have nn:∀d C fs,σ (d+1)=some (.inst C fs)→d≠a:=λd C fs e q=>ar ha (rwr q (F.1.PZ d C fs e));refine F.step (P:=P) (.refl T) (λ_ _=>.inl) (λx p=>⟨(F.1.sep x (pf x p)).1,(F.1.sep x (pf x p)).2,λq hq=>.inl λe=>(F.1.oh q hq).2.2 (rwl e (pf x p))⟩) (λp=>F.2.sep.f (pf _ p)) (λx k e p=>?_) hk (λx f=>.inl ?_) (λb m e=>?_) (λd C fs e=>?_) GY hg
 ·induction h:c.own with
  |true=>exact(F.2.G0 h x k e).2.1.f (pf k p)
  |false=>exact(F.2.DL h x k e).elim λo q=>q.elim (λq=>ar q (F.1.sep k (pf k p)).1) λq=>ar q.2 (F.1.sep k (pf k p)).2
 ·exact f.upd.elim id λf=>f.elim (λe=>.inl (rwl e (⟨mo,ha,hmi⟩))) λz=>iA z λC fs z=>(hm C fs z.1).elim λRf r=>.inr ⟨C,Rf,z.2▸r▸ha⟩
 ·by_cases h:b=a
  ·rw[h,ak]at e;exact .inr (h▸aA e▸ho)
  ·rw[aC h]at e;refine .inl ⟨e,λp=>(hP b p).elim h λz=>iA z λC fs z=>ar e (F.1.PZ b C fs (z.2▸rwr z.1 ha)),λC fs d r q p=>(hP d p).elim (nn d C fs (q▸rwr r e)) λz=>iA z λ_ _ z=>h (q.trans z.2.symm)⟩
 ·by_cases h:d+1=a
  ·rw[h,ak]at e;rw[aC (λq=>D' d (h.trans q.symm))];exact(hm C fs (aA e)).elim λRf r=>F.1.PZ d C Rf (h.symm▸rwr r ha)
  ·rw[aC h]at e;rw[aC (nn d C fs e)];exact F.1.PZ d C fs e
end
section
variable{G:GC}{n k:Nat}{f:MV}{vs:List MV}{σ:St}{Q Q':bw}
theorem oa.less(h:oa G n f vs σ Q)(hQ:∀m av,Q m av→∃τ,(∀a mo,τ a=some mo→av a=some mo)∧Q' m τ):oa G n f vs σ Q':=
 λA T B s fv us hr I hf hv=>codeAny_mono (h A T B s fv us hr I hf hv) λ_ _ y=>by induction y with|mk v T' m av e t x I q=>exact(hQ _ _ q).elim λτ z=>.mk v T' m τ e t x (I.less z.1) z.2
theorem oa.mono(h:oa G n f vs σ Q)(hQ:∀m av,Q m av→Q' m av):oa G n f vs σ Q':=h.less λm av q=>⟨av,λ_ _=>id,hQ _ _ q⟩
theorem oa.up(h:oa G n f vs σ Q)(hk:n≤k):oa G k f vs σ Q:=
 λA T B s fv us hr I hf hv=>h A T B s fv us ⟨hr.1,ah (c9 (pG 4 hk) _) hr.2.1,ah (c9 (pG 30 hk) _) hr.2.2⟩ I hf hv
end
mutual
inductive Dat (σ:St):MV→PyData→Prop where
 |int (i:Int):Dat σ (.int i) (.int i)
 |bool (b:Bool):Dat σ (.bool b) (.bool b)
 |str (x:Str):Dat σ (.str x) (.str x)
 |tup {l:List MV} {ds:List PyData} (h:fR σ l ds):Dat σ (.tup l) (.tuple ds)
 |list {a:Addr} {l:List MV} {ds:List PyData} (e:σ a=some (.list l)) (h:fR σ l ds):Dat σ (.ref a) (.list ds)
inductive fR (σ:St):List MV→List PyData→Prop where
 |nil:fR σ [] []
 |cons {m:MV} {l:List MV} {d:PyData} {ds:List PyData} (h:Dat σ m d) (r:fR σ l ds):fR σ (m::l) (d::ds)
end
noncomputable def U5(d:PyData):Prop:=d.canLay0=true∧d.depth≤64
inductive eqR (ne:Bool) (σ:St) (a b:MV) (r:Bool):Prop
 |data (d e:PyData) (x:Dat σ a d) (y:Dat σ b e) (hd:U5 d) (he:U5 e) (er:r=PyData.eqv d e)
 |head (x y:Str) (l k:List MV) (ea:a=.tup (.str x::l)) (eb:b=.tup (.str y::k)) (h:x≠y) (hk:k=[]∨ne=false) (er:r=false)
noncomputable def E5(call:Cl)(fz:Bool):Ctx:=⟨call,Uc,Tn,TP,λC x=>x∈Cb C,eqR,fz=true⟩
noncomputable abbrev Cx.X(c:Cx):Ctx:=E5 c.call c.fz
noncomputable abbrev noE{α:Type}:α→Shared→Prop:=λ_ _=>False
noncomputable abbrev Wp(c:Cx){α:Type}(t:Sem α)(R:α→Shared→Prop)(s:Shared):Prop:=wpAny (model pw c.G.w) c.A t R noE s
noncomputable def Kt(c:Cx)(ρ:Loc)(T:aR)(Q:bw)(R:Value→Shared→Prop):Prop:=
 ∀T' m v av s',T.le T'→VR T' m v→FI c ρ T' av s'→Q m av→R v s'
noncomputable def Ks(c:Cx)(ρ:Loc)(T:aR)(Q:St→Prop)(R:Shared→Prop):Prop:=∀av s',FI c ρ T av s'→Q av→R s'
section
variable{c:Cx}{ρ:Loc}{T T':aR}{σ av:St}{s s':Shared}{Q:bw}{R:Value→Shared→Prop}{x:Addr}{o:Obj}
theorem Kt.up(k:Kt c ρ T Q R)(h:T.le T'):Kt c ρ T' Q R:=λNU m v aO BC t=>k NU m v aO BC (h.trans t)
theorem Kt.here{m:MV}{v:Value}(k:Kt c ρ T Q R)(F:FI c ρ T σ s)(r:VR T m v)(q:Q m σ):R v s:=k T m v σ s (.refl T) r F q
theorem dT(h:Heap):h.get? h.objs.size=none:=Heap.get?_none_of_le (cM _)
theorem Kt.fe{l:List MV}{vs:List Value}{n:Nat}(k:Kt c ρ T Q R)(F:FI c ρ T σ s)(r:eQ T l vs)(hk:∀b o,s.heap.get? b=some o→s'.heap.get? b=some o)
  (hc:s.heap.get? x=none) (hn:s'.heap.get? x=some (cU vs n)) (ho:s'.os=s.os) (hg:s'.gens=s.gens) (hl:l.length≤lim) (q:fe l σ Q):R (.ref x) s':=
 k.here (m:=.ref x) (F.take (mo:=.list l) hk hc (.mk vs n hn r hl) (λ_ _ _=>Gf) ho hg) rfl (q x (gS (p:=True) λo h=>(F.1.obj _ _ h).live.elim λ_ z=>ar z hc))
theorem FI.note(F:FI c ρ T σ s)(hk:∀b o,s.heap.get? b=some o→s'.heap.get? b=some o)(hc:s.heap.get? x=none)(hn:s'.heap.get? x=some o)
  (ho:s'.os=s.os) (hg:s'.gens=s.gens):∃T',T.le T'∧T' x=some o∧FI c ρ T' σ s':=
 have hT:T.le λb=>if b=x then some o else T b:=λb o' e=>(if_neg λ(h:b=x)=>ar (p:=False) e (rwl h ((F.1.fresh hc).t))).trans e
 ⟨_,hT,if_pos rfl,F.grow hk hT (λb o' e=>if h:b=x then .inr (rwl h (⟨hc,hn.trans ((if_pos h).symm.trans e)⟩))else .inl ((if_neg h).symm.trans e)) ho hg⟩
theorem FI.list{l:List MV}(F:FI c ρ T σ s)(e:σ x=some (.list l)):XX T s.heap x l:=F.1.obj _ _ e
theorem FI.rd{k:List MV→Prop}(F:FI c ρ T σ s)(h:E7 σ x k):∃l,XX T s.heap x l∧k l:=by
 unfold E7 at h;induction e:σ x with
 |none=>rw[e]at h;exact h.elim
 |some o=>
  rw[e]at h;induction o with
  |list l=>exact⟨l,F.1.obj _ _ e,h⟩
  |Lc l=>induction(F.1.obj _ _ e:XT ..)with|mk vs n t g r hl=>exact⟨l,.mk vs n g r hl,h⟩
  |_=>exact h.elim
noncomputable def tI(c:Cx)(x:Addr):Prop:=x=c.env.locals∨(c.own=true∧∃y,c.env.cells.lookup y=some x)
open Classical in
noncomputable def d5(c:Cx)(h:Heap):aR:=λx=>if tI c x then h.get? x else c.B x
theorem FI.BW(F:FI c ρ T σ s)(h:tI c x):u6 c.G T c.B σ x∧∃o,s.heap.get? x=some o:=by
 rcases h with h|⟨ho,y,e⟩
 ·rw[h];exact F.2.ns.elim λm y=>⟨F.2.sep,y.1.imp λ_ z=>z.elim λ_ z=>z.elim λ_ z=>z.1⟩
 ·have y:=F.2.G0 ho y x e;exact⟨y.2.1,y.1.elim λ_ z=>z.imp λ_ z=>z.1⟩
theorem Ir{h:Heap}(m:tI c x):d5 c h x=h.get? x:=if_pos m
theorem Zt(F:FI c ρ T σ s)(e:c.B x=some o):d5 c s.heap x=some o:=(if_neg λm=>ar e (F.BW m).1.b).trans e
open Classical in
theorem X2{h:Heap}(e:d5 c h x=some o):tI c x∧h.get? x=some o∨c.B x=some o:=if m:tI c x then .inl ⟨m,(if_pos m).symm.trans e⟩else .inr ((if_neg m).symm.trans e)
theorem Inv.held{G:GC}{B:aR}(I:Inv G T B σ s)(e:B x=some o):T x=none∧¬n9 σ x∧∀q∈G.tabs,q.1≠x:=
 ⟨I.tb x (gH e),λf=>ar e (I.sep x f).2,λq hq h=>ar e (rwr h ((I.oh q hq).2.1))⟩
theorem FI.toCall(F:FI c ρ T σ s):Inv c.G T (d5 c s.heap) σ s:=
 F.1.other (λb o e=>(X2 e).elim (·.2) (F.1.b b o)) λx hx=>(gQ hx).elim λo e=>(X2 e).elim (λm=>let L:=(F.BW m.1).1;⟨L.t,L.f,L.tab⟩) F.1.held
theorem FI.called(F:FI c ρ T σ s)(hT:T.le T')(I:Inv c.G T' (d5 c s.heap) av s'):FI c ρ T' av s':=by
 have I':Inv c.G T' c.B av s':=I.other (λb o e=>I.b b o (Zt F e)) λx hx=>(gQ hx).elim λo e=>I.held (Zt F e);have wm:∀x,tI c x→u6 c.G T' c.B av x∧∀o,s.heap.get? x=some o→s'.heap.get? x=some o:=λx m=>by
  refine rU (F.BW m) λL y=>?_;refine⟨y.elim λo e=>?_,λo e=>I.b x o ((Ir m).trans e)⟩;have z:=I.held ((Ir m).trans e);exact⟨z.1,L.b,z.2.1,z.2.2⟩
 have cl:∀x k v,c.env.cells.lookup x=some k→s.heap.IsCell k v→s'.heap.IsCell k v:=λx k v e=>bj λo=>dR λg=>by
  induction h:c.own with
  |true=>exact(wm k (.inr ⟨h,x,e⟩)).2 o g
  |false=>exact(F.2.DL h x k e).elim λo' q=>rwr ((show some o'=some o from(q.elim (F.1.t k o') λq=>F.1.b k o' q.2).symm.trans g)) (q.elim (λq=>I'.t k o' (hT k o' q)) λq=>I'.b k o' q.2)
 exact⟨I',F.2.ns.imp λm y=>⟨y.1.imp λo=>bj λ_=>bj λ_=>dR ((wm _ (.inl rfl)).2 o),λx=>(y.2 x).mono hT λk v=>cl x k v⟩,(wm _ (.inl rfl)).1,
  λh x k e=>let y:=F.2.G0 h x k e;⟨y.1.imp λv=>cl x k v e,(wm k (.inr ⟨h,x,e⟩)).1,y.2.2⟩,λh x k e=>(F.2.DL h x k e).imp λo=>Pr (hT k o)⟩
theorem zj{f:MV}{vs:List MV}{u:Value}{us:List Value}(F:FI c ρ T σ s)(rf:VR T f u)(rv:eQ T vs us)(h:oa c.G c.n f vs σ Q)(k:Kt c ρ T Q R):Wp c (call u us) R s:=
 wpAny_call (codeAny_mono (h c.A T _ s u us c.hr.room F.toCall rf rv) λr s' y=>by induction y with|mk v T' m av e t x I q=>rw[e];exact k T' m v av s' t x (F.called t I) q)
end
open PySem.SeqAt
theorem eN:lim≤sizeLine:=by decide
section
variable{c:Cx}{ρ:Loc}{T:aR}{σ:St}{s:Shared}{Q:bw}{R:Value→Shared→Prop}{a b:MV}{u v:Value}{l k:List MV}{vs us:List Value}
theorem eQ.sz(r:eQ T l vs):vs.toArray.size=l.length:=QT.trans r.length.symm
theorem eQ.fit(r:eQ T l vs)(h:l.length≤lim):vs.toArray.size≤sizeLine:=ah (cR r.sz) (ah h eN)
theorem eQ.a5B(r:eQ T l vs)(r':eQ T k us)(h:l.length+k.length≤lim):vs.toArray.size+us.toArray.size≤sizeLine:=by rw[r.sz,r'.sz];exact ah h eN
theorem Xn{i:Int}(h:-2^63≤i)(h':i<2^63):¬(!Builtin.List.listFitsIndex i)=true:=by rw[Builtin.List.listFitsIndex,decide_eq_true h,decide_eq_true h'];decide
theorem E2{n:Nat}(h:n≤lim):¬Builtin.List.listTooLong n=true:=λe=>Hm.mpr (ah h eN) (of_decide_eq_true e)
theorem HE{h:Heap}{a:Array Value}(e:a=vs.toArray):(h.push {cls:=.type "list",data:=.seq a}).get? h.objs.size=some (cU vs 0):=rwl e (Heap.get?_push_size _ rfl)
theorem a0O(F:FI c ρ T σ s)(ra:VR T a u)(rb:VR T b v)(h:a3o a b σ Q)(k:Kt c ρ T Q R):Wp c (binaryOp .Add u v) R s:=
 MV.on.ir (P:=λu=>Wp c (binaryOp .Add u v) R s) ra h (λi t h=>MV.on.i (P:=λv=>Wp c (binaryOp .Add (.int i t) v) R s) rb h λj t' h=>a2f (k.here (m:=.int _) (F.tok _) ⟨_,rfl⟩ h))
  λx h=>MV.on.r (P:=λv=>Wp c (binaryOp .Add (.ref x) v) R s) rb h λy h=>h.l λl e h=>h.l λl' e' h=>by
   induction F.list e with|mk vs n g r hl=>induction F.list e' with|mk us n' g' r' hl'=>
   refine concat_meets ⟨_,g,rfl⟩ ⟨_,g',rfl⟩ noFill_list_add seq_list_add PySem.F.slot_list_add PySem.F.entry_list_add (PySem.F.args_list_add_2 _ _)
    (list_addW x y vs.toArray us.toArray n n' none none #[] #[] ?_) ⟨g,g',?_⟩
   ·exact r.a5B r' h.1
   ·exact k.fe F (eQ.append r' _ r) (λb o e=>Heap.get?_push_of_some _ e) (dT _) (HE (N0 ..)) rfl rfl (by rw[aa];exact h.1) h.2
theorem pd{f:Int→Int→Prop}{op:Value→Value→Sem Value}(ra:VR T a u)(rb:VR T b v)(h:yj a b f)(k:∀i j t t',f i j→Wp c (op (.int i t) (.int j t')) R s):Wp c (op u v) R s:=
 MV.on.i (P:=λu=>Wp c (op u v) R s) ra h λi t h=>MV.on.i (P:=λv=>Wp c (op (.int i t) v) R s) rb h λj t' h=>k i j t t' h
noncomputable def K2(l:List Value):Nat→List Value
 |0=>[]
 |n+1=>l++K2 l n
theorem foldl_rep(items:Array Value):∀(k:Nat)(acc:Array Value),(a2h (λx1 x2=>x1++x2) acc (aM k items)).toList=acc.toList++K2 items.toList k:=by
 intro zl;induction zl with
 |zero=>
  rintro acc;exact(ay _).symm
 |succ k ih=>
  rintro acc;rw[List.replicate_succ,U2,ih,ye,af];rfl
theorem P5:∀k,K2 [] k=[]:=by
 intro zl;induction zl with
 |zero=>
  exact rfl
 |succ k ih=>
  exact ih
theorem To(h:l.length≤1):∀k,(zf l k).length≤k:=by
 intro zl;induction zl with
 |zero=>
  exact cM 0
 |succ k ih=>
  rw[zf,aa,jQ];exact ik (ih) h
theorem eQ.rep(r:eQ T l vs)(k):eQ T (zf l k) (K2 vs k):=
 k.rec rfl λ_ ih=>eQ.append ih _ r
theorem a0L(F:FI c ρ T σ s)(ra:VR T a u)(rb:VR T b v)(h:a3m a b σ Q)(k:Kt c ρ T Q R):Wp c (binaryOp .Mult u v) R s:=
 MV.on.i (P:=λv=>Wp c (binaryOp .Mult u v) R s) rb h λn t h=>MV.on.ir (P:=λu=>Wp c (binaryOp .Mult u (.int n t)) R s) ra h
  (λi t' h=>a13 (k.here (m:=.int _) (F.tok _) ⟨_,rfl⟩ h.2) (IntMulOk.of_left (intBits_le_64 (fT (by decide) h.1.1) (fT h.1.2 (by decide)))))
  λx h=>h.l λl e h=>by
   induction F.list e with|mk vs n' g r hl=>
   have hn:n.toNat≤lim:=l7.mpr h.1.2.2;have hm:vs.toArray.size*n.toNat≤lim:=ah (Nat.mul_le_mul (rwl r.sz h.1.1) hn) (cR (Nat.one_mul _));have ev:(a2h (λx1 x2=>x1++x2) #[] (aM (if vs.toArray.isEmpty=true then 0 else n.toNat) vs.toArray))=(K2 vs n.toNat).toArray:=by
    apply Q0.mp;rw[foldl_rep];induction vs using aF with
    |nil=>exact(P5 _).symm
    |cons a r=>rfl
   refine wpAny_binaryOp_repeat_ref (T:="list") (U:="int") (by decide) ⟨_,g,rfl⟩ (λs'=>typeIs_int s' n t) noFill_list_mul PySem.F.fills_int_mul H' repeat_list PySem.F.slot_int_index.lookup
    (call_meets H' (typeIs_int s n t) PySem.F.entry_int_rmul (PySem.F.args_int_rmul_2 _ _) (int___rmul___int_list n t x vs.toArray n')
    ⟨g,rfl,⟨_,g,rfl⟩,call_meets PySem.F.slot_list_mul ⟨_,g,rfl⟩ PySem.F.entry_list_mul (PySem.F.args_list_mul_2 _ _)
     (AutoListH.list___mul___list_int_3 x vs.toArray n' n t ?_ ?_ ?_) ⟨g,?_⟩⟩)
   ·exact Xn (bp (fT (by decide) h.1.2.1)) (gg h.1.2.2 (by decide))
   ·exact Hm.mpr (ah hm (by decide))
   ·exact E2 hm
   ·exact k.fe F (r.rep n.toNat) (λb o e=>Heap.get?_push_of_some _ e) (dT _) (HE ev) rfl rfl (ah (To h.1.1 _) hn) h.2
theorem a0N{op:Operator}(F:FI c ρ T σ s)(ra:VR T a u)(rb:VR T b v)(h:BY op a b σ Q)(k:Kt c ρ T Q R):Wp c (binaryOp op u v) R s:=by
 cases op
 case Add=>exact a0O F ra rb h k
 case Sub=>exact pd ra rb h λi j t t' h=>a10 (k.here (m:=.int _) (F.tok _) ⟨_,rfl⟩ h)
 case Mult=>exact a0L F ra rb h k
 case Mod=>exact pd ra rb h λi j t t' h=>a14 (Ma h.1) (k.here (m:=.int _) (F.tok _) ⟨_,congrArg (Value.int · _) (Int.fmod_eq_emod_of_nonneg _ (bp h.1))⟩ h.2)
 case FloorDiv=>exact pd ra rb h λi j t t' h=>a2a (hp:=.inl (PyProof.noPylong_small (by have:=h.1;omega))) (Ma h.1.1) (k.here (m:=.int _) (F.tok _) ⟨_,congrArg (Value.int · _) (Int.fdiv_eq_ediv_of_nonneg _ (bp h.1.1))⟩ h.2)
 all_goals exact h.elim
theorem W5(i:Int):(i !=0)=decide (i≠0):=by cases h:decide (i=0)<;>simp_all
theorem E6{Q:Bool→Prop}{R:Bool→Shared→Prop}(ra:VR T a u)(h:ze a Q)(k:∀b,Q b→R b s):Wp c (truthy u) R s:=by
 induction a using MV.casesOn with
 |none=>rw[show u=.none from ra];exact truthy_none (k _ h)
 |bool b=>rw[show u=.bool b from ra];exact wpAny_truthy_bool (k _ h)
 |int i=>exact Cc ra λt e=>e▸PySem.P.truthy_int (k _ (rwr ((W5 i).symm) h))
 |_=>exact h.elim
theorem a3l{op:UnaryOp}(F:FI c ρ T σ s)(ra:VR T a u)(h:mUn op a σ Q)(k:Kt c ρ T Q R):Wp c (unaryOp op u) R s:=by
 cases op
 case USub=>exact MV.on.i (P:=λu=>Wp c (unaryOp .USub u) R s) ra h λi t h=>PySem.P.neg_int (k.here (m:=.int _) (F.tok _) ⟨_,rfl⟩ h)
 case Not=>exact not_value (E6 ra h λb q=>k.here (m:=.bool _) F rfl q)
 all_goals exact h.elim
theorem zA{w:Value}{b:Bool}(e:u=w)(h:(w==.none)=b):(u==.none)=b:=rwl e h
theorem Ah(a:MV){u:Value}(e:VR T a u):(u==.none)=isNone a:=by
 induction a using MV.casesOn with
 |int|str=>exact e.elim λ_ e=>zA e rfl
 |tup=>exact iA e λ_ _ e=>zA e.1 rfl
 |PK=>exact Jf e λ_ _ _ _ e=>zA e.1 rfl
 |fn|bi=>exact zA e.1 rfl
 |Fw=>exact ex5 e λ_ _ _ _ _ e=>zA e.1 rfl
 |MR=>exact JM e λ_ _ _ e=>zA e.1 rfl
 |_=>exact zA e rfl
theorem Ej{u:Value}(h:(u==.none)=true):u=.none:=by cases u<;>first|rfl|cases h
theorem K7{x y:Addr}{ox oy:Obj}{R:Bool→Shared→Prop}(hx:s.heap.get? x=some ox)(hy:s.heap.get? y=some oy)(hc:ox.cls≠.type "tuple")
  (k:R (decide (x=y)) s):Wp c (isSame (.ref x) (.ref y)) R s:=
 if h:x=y then h▸wpAny_isSame_ref_self (rwr (decide_eq_true h) k)else wpAny_isSame_ref_other h hx hy hc (rwr (decide_eq_false h) k)
theorem FI.notTuple{x:Addr}(F:FI c ρ T σ s)(h:σ x≠none):∃o,s.heap.get? x=some o∧o.cls≠.type "tuple":=by
 induction gQ h with|intro mo e=>
 have y:=F.1.obj _ _ e;induction mo with
 |list l=>induction y with|mk vs n g=>exact⟨_,g,λq=>absurd (Value.type.inj q) (by decide)⟩
 |inst C fs=>induction y with|mk d m ea g=>exact⟨_,g,nofun⟩
 |Lc l=>induction y with|mk vs n t g=>exact⟨_,g,λq=>absurd (Value.type.inj q) (by decide)⟩
 |dict l=>induction y with|mk kvs g=>exact g.imp λo g=>g.elim λ_ g=>g.elim λ_ g=>⟨g.1,λq=>absurd (Value.type.inj (g.2.1.1.symm.trans q)) (by decide)⟩
theorem Yo{Q:Bool→Prop}{R:Bool→Shared→Prop}(F:FI c ρ T σ s)(ra:VR T a u)(rb:VR T b v)(h:mIs a b σ Q)(k:∀b,Q b→R b s):Wp c (isSame u v) R s:=by
 have ea:=Ah a ra;unfold mIs at h;induction hb:isNone b with
 |true=>
  rw[hb]at h;rw[Ej ((Ah b rb).trans hb),isSame_none,ea];exact wpAny_pure (k _ h)
 |false=>
  rw[hb]at h;refine MV.on.r (P:=λv=>Wp c (isSame u v) R s) rb h λy h=>?_;induction ha:isNone a with
  |true=>
   rw[ha]at h;rw[Ej (ea.trans ha)];exact wpAny_pure (k _ h)
  |false=>
   rw[ha]at h;exact MV.on.r (P:=λu=>Wp c (isSame u (.ref y)) R s) ra h λx h=>(F.notTuple h.1).elim λo g=>(F.notTuple h.2.1).elim λo' g'=>K7 g.1 g'.1 g.2 (k _ h.2.2)
end
theorem EE(l b:Addr)(x y:Value)(r k:List Value)(n n2:Nat)(dd dd2:Option Addr)(sl sl2:Array (Option Value)):
  Meets (Builtin.«tuple.__eq__» ⟨[.ref l,.ref b],[]⟩)
   (λA R s=>s.heap.get? l=some {cls:=.type "tuple",dict:=dd,data:=.seq (x::r).toArray n,slots:=sl}∧s.heap.get? b=some {cls:=.type "tuple",dict:=dd2,data:=.seq (y::k).toArray n2,slots:=sl2}∧
    EqAt A.in1 s x y false∧R (.ok (.ret (.bool false))) s):=
 .of_wp λprog w A R s h=>by
  obtain⟨hp,g,d,tk,os⟩:=s;obtain⟨hl,hb,he,h⟩:=h;have f2:=Y8
  wp_walk using vd hl,vd hb,wpAny_forIn_list _ (λrest b s'=>b.1=none∧s'=⟨hp,g,d,tk,os⟩∧rest=(x,y)::(r.zip k)) _
  case turn=>
   rintro⟨y',x'⟩ rest b s' ⟨hb',rfl,hz⟩
   injection hz with hyx a5V
   cases hyx;refine wpAny_bind (he prog w _ _ ?_)
   wp_walk
   exact⟨_,rfl,h⟩
  case fin=>
   rintro⟨b1,b2⟩ s' ⟨hb',rfl,hz⟩;cases hz
  case h=>
   exact⟨rfl,rfl,by simp⟩
section
variable{c:Cx}{ρ:Loc}{T:aR}{σ:St}{s:Shared}{a b:MV}{u v:Value}
theorem Uo{A:Around}(x y:Str)(t u:Tok):EqAt A s (.str x t) (.str y u) (decide (x=y)):=λ_ _ _ _ h=>wpAny_eqBool_str h
theorem Up{A:Around}(x y:Int)(t u:Tok):EqAt A s (.int x t) (.int y u) (decide (x=y)):=λ_ _ _ _ h=>wpAny_eqBool_int h
inductive a4z (T:aR) (h:Heap) (l:List MV) (a:Addr):Prop
 |mk (vs:List Value) (n:Nat) (dd:Option Addr) (sl:Array (Option Value)) (e:h.get? a=some {cls:=.type "tuple",dict:=dd,data:=.seq vs.toArray n,slots:=sl}) (r:eQ T l vs)
theorem FI.tup{l:List MV}{a:Addr}{vs:List Value}(F:FI c ρ T σ s)(t:TupAt T a vs)(r:eQ T l vs):a4z T s.heap l a:=
 t.elim λo t=>t.elim λn t=>by
  induction o with|mk cls dd da sl=>exact .mk vs n dd sl ((F.1.t _ _ t.1).trans (by rw[show cls=_ from t.2.1,show da=_ from t.2.2])) r
theorem Dat.reads(F:FI c ρ T σ s){m:MV}{d:PyData}(h:Dat σ m d):∀{v:Value},VR T m v→∃as,Reads s.heap v d as:=
 @Dat.rec σ (λm d _=>∀{v:Value},VR T m v→∃as,Reads s.heap v d as) (λl ds _=>∀{vs:List Value},eQ T l vs→∃as,ReadsAll s.heap vs ds as)
  (λi _ r=>r.elim λt e=>rwl e (⟨_,.int i t⟩)) (λb _ r=>rwl ((show _=_ from r)) (⟨_,.bool b⟩)) (λx _ r=>r.elim λt e=>rwl e (⟨_,.str x t⟩))
  (λ_ f _ r=>r.elim λa r=>r.elim λvs r=>rwl r.1 (r.2.1.elim λo t=>t.elim λn t=>(f r.2.2).imp λas z=>.tuple (F.1.t _ _ t.1) t.2.1 t.2.2 z))
  (λe _ f _ r=>rwl ((show _=_ from r)) ((by induction F.list e with|mk vs n g q=>exact(f q).elim λas z=>⟨_,.list g rfl rfl z⟩)))
  (λr=>rwl ((show _=_ from r)) (⟨_,.nil⟩))
  (λ_ _ f f' _ r=>r.elim λv r=>r.elim λk r=>rwl r.1 ((f r.2.1).elim λ_ z=>(f' r.2.2).elim λ_ y=>⟨_,.cons z y⟩)) m d h
theorem all1(f:Nat→Bool)(n:Nat)(h:f 0=false)(z:Bool):((fB (min (n+1) 1)).all f&&z)=false:=by rw[od (bU (cy n))];show((f 0&&true)&&z)=false;rw[h];rfl
theorem Cx.units(c:Cx):c.A.units+64<cLine:=bc (bN (ah (bq _ _) (ah (bq _ _) c.hr.2.2)) 64) (by decide)
noncomputable abbrev Hl(ne:Bool)(R:Bool→Shared→Prop):Value→Shared→Prop:=λw s'=>∃r,w=.bool (if ne then !r else r)∧R r s'
theorem a4f{ne r:Bool}{R:Bool→Shared→Prop}(F:FI c ρ T σ s)(ra:VR T a u)(rb:VR T b v)(h:eqR ne σ a b r)(k:R r s):
  Wp c (compareOp (if ne then .NotEq else .Eq) u v) (Hl ne R) s:=by
 induction h with
 |data d e x y hd he er=>
  rw[er]at k;have sh:∀{d},U5 d→shaped d=true:=λ{d}h=>by rw[shaped,h.1,decide_eq_true h.2];rfl
  refine(x.reads F ra).elim λas r1=>(y.reads F rb).elim λbs r2=>?_;induction ne with
  |true=>exact ne_dataH r1 r2 (sh hd) (sh he) c.units ⟨_,rfl,k⟩
  |false=>exact eq_dataH r1 r2 (sh hd) (sh he) c.units ⟨_,rfl,k⟩
 |head x y l m ea eb nF hk er=>
  rw[er]at k;rw[ea]at ra;rw[eb]at rb;refine iA ra λa1 vs z=>oe z λe1 t1 q1=>iA rb λa2 us z=>oe z λe2 t2 q2=>?_;rw[e1,e2];induction F.tup t1 q1 with|mk vs n1 d1 sl1 g1 q1=>induction F.tup t2 q2 with|mk us n2 d2 sl2 g2 q2=>
  refine iA q1 λw1 k1 z=>oe z λf1 p1 _=>iA q2 λw2 k2 z=>oe z λf2 p2 z2=>p1.elim λx1 p1=>p2.elim λx2 p2=>?_;rw[f1,p1]at g1;rw[f2,p2]at g2;have hs:∀{A:Around},EqAt A s (.str x x1) (.str y x2) false:=λ{A}=>rwr (decide_eq_false nF) (Uo x y x1 x2);induction ne with
  |false=>
   exact richCompare_meets_room (op:=.Eq) ⟨_,g1,rfl⟩ ⟨_,g2,rfl⟩ PySem.F.slot_tuple_eq PySem.F.entry_tuple_eq (PySem.F.args_tuple_eq_2 _ _) (EE a1 a2 _ _ k1 k2 n1 n2 d1 d2 sl1 sl2)
    ⟨g1,g2,hs,(λx=>nomatch x),⟨_,rfl,k⟩⟩ (bc (bq _ _) c.units)
  |true=>
   induction hk with
   |inr h=>cases h
   |inl h=>
    rw[h]at z2;rw[show k2=[]from z2]at g2;have key:RcNeAt c.A s (.ref a1) (.ref a2) (!false):=by
     rw[←all1 (λ_=>false) k1.length rfl ((Value.str x x1::k1).toArray.size==[Value.str y x2].toArray.size)];exact RcNeAt.tuples ⟨_,g1,rfl,_,rfl⟩ ⟨_,g2,rfl,_,rfl⟩ (bc (bq _ _) c.units) λj h1 h2=>match j,h1,h2 with
      |0,_,_=>hs
      |j+1,_,h2=>absurd h2 (Hm.mpr (bU (cy j)))
    exact key _ _ _ _ ⟨_,rfl,k⟩
end
section
variable{c:Cx}{ρ:Loc}{T:aR}{σ:St}{s:Shared}{a b:MV}{u v:Value}
theorem YA{i:Int}(h:a.i?=some i)(r:VR T a u):∃t,u=.int i t:=by
 induction a using MV.casesOn with
 |int j=>exact rwr (aA h) r
 |_=>exact ar h rfl
theorem Ya{x:Str}(h:a.s?=some x)(r:VR T a u):∃t,u=.str x t:=by
 cases a with
 |str j=>exact rwr (aA h) r
 |_=>exact ar h rfl
theorem Xq{r:Bool}{P:Value→Value→Bool→Prop}(ra:VR T a u)(rb:VR T b v)(e:Lm a b=some r)(ki:∀i j t t',P (.int i t) (.int j t') (decide (i=j)))
  (ks:∀i j t t',P (.str i t) (.str j t') (decide (i=j))) (kn:∀i t,P (.int i t) .none false):P u v r:=by
 unfold Lm at e;induction h1:a.i? with
 |some i=>
  rw[h1]at e;obtain⟨t,eu⟩:=YA h1 ra;rw[eu];induction h2:b.i? with
  |some j=>rw[h2]at e;obtain⟨t',ev⟩:=YA h2 rb;rw[ev,←aA e];exact ki i j t t'
  |none=>rw[h2]at e;induction h3:isNone b with
   |false=>rw[h3]at e;exact ar e rfl
   |true=>rw[h3]at e;rw[Ej ((Ah b rb).trans h3),←aA e];exact kn i t
 |none=>rw[h1]at e;induction h2:a.s? with
  |none=>rw[h2]at e;exact ar e rfl
  |some x=>rw[h2]at e;induction h3:b.s? with
   |none=>rw[h3]at e;exact ar e rfl
   |some y=>rw[h3]at e;obtain⟨t,eu⟩:=Ya h2 ra;obtain⟨t',ev⟩:=Ya h3 rb;rw[eu,ev,←aA e];exact ks x y t t'
section
variable{ne:Bool}{R:Bool→Shared→Prop}
theorem a4e{i j:Int}{t t':Tok}(k:R (decide (i=j)) s):Wp c (compareOp (if ne then .NotEq else .Eq) (.int i t) (.int j t')) (Hl ne R) s:=
 ne.rec (a2c ⟨_,rfl,k⟩) (a12 ⟨_,rfl,k⟩)
theorem a4c{i j:Str}{t t':Tok}(k:R (decide (i=j)) s):Wp c (compareOp (if ne then .NotEq else .Eq) (.str i t) (.str j t')) (Hl ne R) s:=
 ne.rec (a2b ⟨_,rfl,k⟩) (a11 ⟨_,rfl,k⟩)
theorem a4d{i:Int}{t:Tok}(k:R false s):Wp c (compareOp (if ne then .NotEq else .Eq) (.int i t) .none) (Hl ne R) s:=
 ne.rec (EqNone.eq_int_none ⟨_,rfl,k⟩) (EqNone.ne_int_none ⟨_,rfl,k⟩)
theorem Yq{Q:Bool→Prop}(F:FI c ρ T σ s)(ra:VR T a u)(rb:VR T b v)(h:mEq (c.X) ne a b σ Q)(k:∀r,Q r→R r s):Wp c (compareOp (if ne then .NotEq else .Eq) u v) (Hl ne R) s:=by
 unfold mEq at h;induction e:Lm a b with
 |none=>rw[e]at h;exact h.elim λr h=>a4f F ra rb h.1 (k r h.2)
 |some r=>rw[e]at h;exact Xq (P:=λu v r=>R r s→Wp c (compareOp (if ne then .NotEq else .Eq) u v) (Hl ne R) s) ra rb e (λ_ _ _ _=>a4e) (λ_ _ _ _=>a4c) (λ_ _=>a4d) (k r h)
end
theorem DR.find:∀(l:List (Int×MV)){es:List (Int×Value)},DR T l es→∀k,D9 T (Cd l k) (valueAt es k):=by
 intro zl;induction zl with
 |nil=>
  rintro _ h k;rw[show _=[]from h];exact rfl
 |cons zx l ih=>
  obtain⟨k',m⟩:=zx;rintro _ h k;refine iA h λv r zh=>oe zh λe q z=>?_;rw[e,valueAt];by_cases g:k=k'
  ·rw[List.find?_cons_of_pos (p:=λkv:Int×Value=>decide (kv.1=k)) (decide_eq_true g.symm),show Cd ((k',m)::l) k=some m from if_pos g];exact⟨v,rfl,q⟩
  ·rw[List.find?_cons_of_neg (p:=λkv:Int×Value=>decide (kv.1=k)) (λn=>g (of_decide_eq_true n).symm),show Cd ((k',m)::l) k=Cd l k from if_neg g];exact ih z k
theorem FI.map{x:Addr}{l:List (Int×MV)}(F:FI c ρ T σ s)(e:σ x=some (.dict l)):∃f,s.heap.MapOf (intKind pw c.G.w) x f∧∀k,D9 T (Cd l k) (f k):=by
 induction F.1.obj _ _ e with|mk es g r=>exact⟨_,g.mapOf,DR.find l r⟩
theorem D9.isSome{m:Option MV}{v:Option Value}(h:D9 T m v):m.isSome=v.isSome:=by
 induction m with
 |none=>exact rwl (show v=none from h) rfl
 |some m=>exact h.elim λu h=>rwl h.1 rfl
theorem Inv.Xi{G:GC}{B:aR}(W:Y6 G)(I:Inv G T B σ s):G.K.In s.heap:=λa o e=>I.t _ _ (I.base _ _ (W.kin a o e))
theorem Inv.S4{G:GC}{B:aR}(W:Y6 G)(I:Inv G T B σ s){x:Addr}(h:σ x≠none):(x==sysModules)=false:=
 (gQ h).elim λo g=>by
  induction e:o.BW with
  |true=>exact beq_eq_false_iff_ne.mpr λq=>(gQ W.a2K).elim λo' e'=>ar (I.base _ _ e') (rwr q ((I.sep x (.inl ⟨o,g,e⟩)).1))
  |false=>
   induction o with
   |Lc l=>induction(I.obj _ _ g:XT ..)with|mk _ _ _ _ _ _ ns=>exact ns
   |_=>exact absurd e.symm aq
noncomputable def isI(i:Int)(y:Value):Bool:=match y with
 |.int j _=>decide (j=i)
 |_=>false
theorem any_ints(i:Int):∀(js:List Int){vs:List Value},eQ T (js.map .int) vs→vs.any (isI i)=decide (i∈js):=by
 intro zl;induction zl with
 |nil=>
  rintro _ h;rw[show _=[]from h];rfl
 |cons j js ih=>
  rintro _ h;obtain⟨v,r,e,⟨t,et⟩,q⟩:=h;rw[e,et,Ig,ih q];show(decide (j=i)||decide (i∈js))=_;rw[←Bool.decide_or];exact decide_eq_decide.mpr ⟨λh=>h.elim (λh=>rwr h (.head _)) (.tail _),λh=>(aE.mp h).imp_left a2i⟩
theorem Td:∀(js:List Int){vs:List Value},eQ T (js.map .int) vs→∀y∈vs,∃j t,y=.int j t:=by
 intro zl;induction zl with
 |nil=>
  rintro _ h y hy;rw[show _=[]from h]at hy;exact absurd hy aD
 |cons j js ih=>
  rintro _ h y hy;obtain⟨v,r,e,⟨t,et⟩,q⟩:=h;rw[e]at hy;exact(aE.mp hy).elim (λh=>⟨j,t,h.trans et⟩) (ih q y)
theorem Yp{ne:Bool}{Q:Bool→Prop}{R:Bool→Shared→Prop}(F:FI c ρ T σ s)(ra:VR T a u)(rb:VR T b v)(h:mIn a b σ Q)(k:∀r t,Q r→R r {s with toks:=t}):
  Wp c (compareOp (if ne then .NotIn else .In) u v) (Hl ne R) s:=
 MV.on.i (P:=λu=>Wp c (compareOp (if ne then .NotIn else .In) u v) (Hl ne R) s) ra h λi t h=>MV.on.r (P:=λv=>Wp c (compareOp (if ne then .NotIn else .In) (.int i t) v) (Hl ne R) s) rb h λx h=>
  h.cases (λl e h=>by
   obtain⟨js,ej,h⟩:=h;rw[ej]at e;induction F.list e with|mk vs n g r hl=>
   have he:∀y,y∈vs.toArray→EqAt c.A.in1 s y (.int i t) (isI i y):=λy hy=>(Td js r y (Mb.mpr hy)).elim λj z=>z.elim λt' z=>rwl z (Up j i t' t);have k:=(List.any_toArray.trans (any_ints i js r)).symm▸k _ s.toks h;induction ne with
   |true=>exact notIn_listAt _ ⟨_,g,rfl,_,rfl⟩ he ⟨_,rfl,k⟩
   |false=>exact in_listAt _ ⟨_,g,rfl,_,rfl⟩ he ⟨_,rfl,k⟩)
  (λ_ _ _ h=>h.elim) λl e h=>by
   obtain⟨f,hm,hf⟩:=F.map e;have ns:=F.1.S4 c.W (gH e);have hk:(intKind pw c.G.w).is i (.int i t)=true:=decide_eq_true rfl;rw[(hf i).isSome]at h;induction ne with
   |true=>exact wpAny_notIn_of hk ns hm ⟨_,rfl,k _ _ h⟩
   |false=>exact wpAny_in_of hk ns hm ⟨_,rfl,k _ _ h⟩
theorem QC{u v:Value}{R:Value→Shared→Prop}(h:Wp c (isSame u v) (λb s'=>R (.bool b) s') s):Wp c (compareOp .Is u v) R s:=wpAny_bind (wpAny_mono h (λ_ _ x=>wpAny_pure x) λ_ _ x=>x)
theorem Jg{u v:Value}{R:Value→Shared→Prop}(h:Wp c (isSame u v) (λb s'=>R (.bool (!b)) s') s):Wp c (compareOp .IsNot u v) R s:=wpAny_bind (wpAny_mono h (λ_ _ x=>wpAny_pure x) λ_ _ x=>x)
theorem BX{op:CmpOp}{Q:Bool→Prop}{R:Value→Shared→Prop}(F:FI c ρ T σ s)(ra:VR T a u)(rb:VR T b v)(h:a0M (c.X) op a b σ Q)(k:∀r t,Q r→R (.bool r) {s with toks:=t}):
  Wp c (compareOp op u v) R s:=by
 have up:∀{ne:Bool}{t:Sem Value},Wp c t (Hl ne λr s'=>R (.bool (if ne then !r else r)) s') s→Wp c t R s:=λh=>wpAny_mono h (λw s' y=>y.elim λr y=>rwl y.1 y.2) λ_ _ x=>x;induction op with
 |Eq=>exact up (ne:=false) (Yq (ne:=false) F ra rb h λr q=>k r s.toks q)
 |NotEq=>exact up (ne:=true) (Yq (ne:=true) (Q:=λr=>Q (!r)) F ra rb h λr q=>k (!r) s.toks q)
 |Lt=>exact pd ra rb h λi j t t' h=>a15 (k _ s.toks h)
 |LtE=>exact pd ra rb h λi j t t' h=>a16 (k _ s.toks h)
 |Gt=>exact pd ra rb h λi j t t' h=>a17 (k _ s.toks h)
 |GtE=>exact pd ra rb h λi j t t' h=>a19 (k _ s.toks h)
 |Is=>exact QC (Yo F ra rb h λr q=>k r s.toks q)
 |IsNot=>exact Jg (Yo (Q:=λr=>Q (!r)) F ra rb h λr q=>k (!r) s.toks q)
 |In=>exact up (ne:=false) (Yp (ne:=false) F ra rb h λr t q=>k r t q)
 |NotIn=>exact up (ne:=true) (Yp (ne:=true) (Q:=λr=>Q (!r)) F ra rb h λr t q=>k (!r) t q)
end
section
variable{c:Cx}{ρ:Loc}{T:aR}{σ:St}{s:Shared}{Q:bw}{R:Value→Shared→Prop}{a m:MV}{u v:Value}{x:Str}
theorem PY{es:List DictEntry}(h:∀e∈es,∃n t,e.key=.str n t):es.any (·.refKey)=false:=
 QX.mpr λe he=>(h e he).elim λn q=>q.elim λt q=>by rw[DictEntry.refKey,q];exact aq
theorem P8{o:Obj}{es:Array DictEntry}{ep:Nat}(hd:o.data=.dict es ep)(hk:StrKeys es):lookIn x o=some (nsFind es x):=by
 unfold lookIn nsFind findBy;rw[hd];dsimp only;rw[←N4];induction h:es.toList.find? (λe=>e.key.isStr x)with
 |some e=>rfl
 |none=>rw[PY λe he=>hk e (Mb.mp he)];rfl
theorem kG{w:Value}(e:u=w)(h:handedIn w=true):handedIn u=true:=rwl e h
theorem VR.handed(m:MV){v:Value}(e:VR T m v):handedIn v=true:=by
 induction m using MV.casesOn with
 |int|str=>exact e.elim λ_ e=>kG e rfl
 |tup=>exact iA e λ_ _ e=>kG e.1 rfl
 |PK=>exact Jf e λ_ _ _ _ e=>kG e.1 rfl
 |fn=>exact kG e.1 rfl
 |bi=>exact kG e.1 e.2
 |Fw=>exact ex5 e λ_ _ _ _ _ e=>kG e.1 rfl
 |MR=>exact JM e λ_ _ _ e=>kG e.1 rfl
 |_=>exact kG e rfl
structure a4D(K:Frag)(C:Addr):Prop where
 gat:findIn K (.ref C) "__getattribute__"=some (some (.builtin "object.__getattribute__"))
 gta:findIn K (.ref C) "__getattr__"=some none
 dic:(clsIn K C).any (·.hasDict)=true
 plain:plainOver K C=true
 sat:findIn K (.ref C) "__setattr__"=some (some (.builtin "object.__setattr__"))
theorem wN{K:Frag}{C:Addr}(h:O7 K C=true):a4D K C:=
 have h1:=ao.mp h;have h2:=ao.mp h1.1;have h3:=ao.mp h2.1;have h4:=ao.mp h3.1
 ⟨eq_of_beq h4.1,eq_of_beq h4.2,h3.2,h2.2,eq_of_beq h1.2⟩
theorem B5{a C d:Addr}{m:Str→Option Value}(h1:s.heap.get? a=some (instObj C d))(h2:s.heap.Ns1 d m):∃o,InstAt s.heap a (instObj C d) C (some o)∧∀x,lookIn x o=some (m x):=
 h2.imp λo h=>h.elim λes h=>h.elim λep h=>⟨⟨h1,rfl,rfl,h.1⟩,λx=>(P8 h.2.1 h.2.2.1).trans (congrArg some (h.2.2.2.2 x))⟩
theorem Qs{expr:Bool}(F:FI c ρ T σ s)(ra:VR T a u)(h:K3 a x σ Q)(k:Kt c ρ T Q R):Wp c (getAttr u x expr) R s:=
 MV.on.r (P:=λu=>Wp c (getAttr u x expr) R s) ra h λy h=>h.cases (λ_ _ h=>h.elim) (λC fs e h=>h.cases λw hw h=>by
  induction(F.1.obj _ _ e:QR ..)with|mk d m ea e1 ns f g ck=>
  have ok:=wN ck;refine(B5 e1 ns).elim λo z=>?_;obtain⟨v,hv,rv⟩:=(show∃v,m x=some v∧VR T w v from by have:=f x;rw[hw]at this;exact this)
  obtain⟨cd,hc,hd⟩:=any_some ok.dic;have hf:findObj c.G.K C (some o) x=some (.value v):=by
   rw[findObj,hc,c.W.fld C x (g x (gH hw)),rV,rV,PySem.W.ownOf,hd,if_pos rfl,rV,z.2,hv];rfl
  exact get_value (F.1.Xi c.W) z.1 ok.gat hf (VR.handed _ rv) (k.here (F.tok _) rv h)) λ_ _ h=>h.elim
section
variable{fs:List (Str×MV)}{m':Str→Option Value}{L:List Str}
theorem within(f:∀x,D9 T (cc fs x) (m' x))(g:∀x,cc fs x≠none→x∈L)(h:x∈L):Within (λy=>if y=x then some v else m' y) L:=λy hy=>
 if q:y=x then rwl q h else g y λe=>hy ((if_neg q).trans (show D9 T none (m' y)from rwr e (f y)))
theorem SU(f:∀x,D9 T (cc fs x) (m' x))(rm:VR T m v)(y:Str):D9 T (cc (iH fs x m) y) (if y=x then some v else m' y):=by
 by_cases q:y=x
 ·rw[q,sr];exact⟨v,if_pos rfl,rm⟩
 ·rw[jo q,if_neg q];exact f y
theorem Xl(g:∀x,cc fs x≠none→x∈L)(h:x∈L)(y:Str)(hy:cc (iH fs x m) y≠none):y∈L:=
 if q:y=x then rwl q h else g y (rwr (jo q fs) hy)
end
theorem PH{Q:St→Prop}{R:Unit→Shared→Prop}(F:FI c ρ T σ s)(ra:VR T a u)(rm:VR T m v)(h:so (c.X) a x m σ Q)(k:Ks c ρ T Q (R ())):Wp c (setAttr u x v) R s:=
 MV.on.r (P:=λu=>Wp c (setAttr u x v) R s) ra h λy h=>h.cases (λ_ _ h=>h.elim) (λC fs e h=>by
  induction(F.1.obj _ _ e:QR ..)with|mk d m' ea e1 ns f g ck=>
  have ok:=wN ck;have X:=F.1.Xi c.W;refine(B5 e1 ns).elim λo z=>?_;obtain⟨cd,hc,hd⟩:=any_some ok.dic;have ht:takerIn c.G.K C x=some none:=by rw[takerIn,c.W.fld C x h.1];rfl
  refine set_plain X z.1 ok.sat (osa_open (s:={s with toks:=s.toks+1}) X z.1 ok.plain ht λb=>?_);refine wpAny_bind (wpAny_pure (wpAny_bind (wpAny_bind (wpAny_loadPart z.1.at_ (wpAny_bind ((looks_clsIn X hc).at ?_))))));rw[hd];refine wpAny_pure (a:=some d) (wpAny_bind (wpAny_pure (wpAny_bind (wpAny_nsSet1 ns λh' hn hs=>?_))));refine JM (hn.count (within f g h.1)) λo' es' ep' zh=>oe zh λq1 q2 q3=>?_;refine wpAny_bind (wpAny_lookBehind q1 (by rw[q2];exact pastItsLine_dict (ah q3 (ah (c.W.few C) (by decide)))) (wpAny_pure ?_))
  refine k _ _ (F.chg (P:=(·=d)) e rfl (λC' Rf q=>⟨fs,by cases q;rfl⟩) (λx q=>.inr ⟨C,fs,rfl,rwl q ea⟩) (λb o hb e=>(hs.2 b hb).trans e) ?_ rfl rfl) h.2
  exact .mk d _ ea ((hs.2 y (rwl ea (D' d))).trans e1) hn (SU f rm) (Xl g h.1) ck) λ_ _ h=>h.elim
end
theorem VX(slice:Expr)(o i:Value):∃ops,subscripted slice false o i=operate ops (getItem o i):=by
 cases slice with
 |Slice lo hi st p=>cases st<;>exact⟨_,rfl⟩
 |_=>exact⟨_,rfl⟩
noncomputable def z9(v:MV):Option Int:=v.i?
theorem Tb(k n:Nat):min (k:Int) (n:Int)=((min k n:Nat):Int):=
 (u7 k n).elim (λh=>by rw[eS h,Vn (cK.mpr h)]) λh=>by rw[od h,U3 (cK.mpr h)]
theorem toNat_cut{i:Int}{n:Nat}(h:0≤i):max 0 (min i n)=((min i.toNat n:Nat):Int):=
 (JT h).elim λk e=>by rw[e,cS,Tb];exact Eb (bJ _)
section
variable{T:aR}{v:MV}{u:Value}{i n:Nat}
theorem K5(h:lo? v=some i):v=.none∧i=0∨∃k:Int,v=.int k∧0≤k∧i=k.toNat:=by
 induction v using MV.casesOn with
 |none=>exact .inl ⟨rfl,(aA h).symm⟩
 |int k=>exact .inr ⟨k,rfl,by
  have h:(if 0≤k∧k<2^40 then some k.toNat else none)=some i:=h;by_cases q:0≤k∧k<2^40
  ·rw[if_pos q]at h;exact⟨q.1,(aA h).symm⟩
  ·rw[if_neg q]at h;exact ar h rfl⟩
 |_=>exact ar h rfl
theorem YJ{v:MV}(h:hi? v n=some i):v=.none∧i=n∨lo? v=some i:=by
 cases v with
 |none=>exact .inl ⟨rfl,(aA h).symm⟩
 |_=>exact .inr h
theorem IH(h:lo? v=some i)(r:VR T v u):IsPart u (z9 v):=by
 induction v using MV.casesOn with
 |none=>rw[show u=.none from r];exact .none
 |int i=>exact Cc r λt e=>rwl e (.int _ t)
 |_=>exact ar h rfl
theorem Ow(h:hi? v n=some i)(r:VR T v u):IsPart u (z9 v):=(YJ h).elim (λh=>by rw[h.1]at r⊢;rw[show u=.none from r];exact .none) λh=>IH h r
end
theorem Gc{n i j:Nat}{lo hi:MV}(h1:lo? lo=some i)(h2:hi? hi n=some j):sliceBounds (z9 lo) (z9 hi) none n=(((min i n:Nat):Int),((min j n:Nat):Int),1):=by
 have p:∀{v:MV}{i:Nat},(∃k:Int,v=.int k∧0≤k∧i=k.toNat)→∀z:Int,(match z9 v with|none=>z|some i=>let i:=if i<0 then i+n else i;max 0 (min i n))=((min i n:Nat):Int):=λy z=>Cc y λk y=>oe y λe h q=>by
  rw[e,q];show max 0 (min (if k<0 then k+n else k) n)=_;rw[if_neg (dc.mpr h)];exact toNat_cut h
 unfold sliceBounds;refine lQ ?_ (lQ ?_ rfl)
 ·exact(K5 h1).elim (λh=>by rw[h.1,h.2,Nat.zero_min];rfl) λh=>p h 0
 ·exact(YJ h2).elim (λh=>by rw[h.1,h.2,a1S];rfl) λh=>(K5 h).elim (λq=>by
   rw[q.1]at h2;rw[q.1,←aA h2,a1S];rfl) λh=>p h n
theorem Xz{α:Type}(l:List α)(i j:Nat):((l.drop (min i l.length)).take (min j l.length-min i l.length))=(l.take j).drop i:=by
 rw[←List.drop_take,List.take_eq_take_min (l:=l) (i:=j)];rcases u7 i l.length with h|h
 ·rw[eS h]
 ·rw[od h,lS (og ..),lS (ah (og ..) h)]
theorem SR(items:Array Value){lo hi:MV}{i j:Nat}(h1:lo? lo=some i)(h2:hi? hi items.size=some j):
  slicePick items (z9 lo) (z9 hi) none=((items.toList.take j).drop i).toArray:=by
 rw[slicePick,Gc h1 h2,sliceRange_one,pick_run];exact congrArg Y' (Xz items.toList i j)
section
variable{c:Cx}{ρ:Loc}{T:aR}{σ:St}{s:Shared}{Q:bw}{R:Value→Shared→Prop}{a k:MV}{u v:Value}{l:List MV}{vs:List Value}
theorem MV.ix.vr{f g}{P:Value→Prop}(r:VR T k v)(h:k.ix f g)(ci:∀i t,f i→P (.int i t))(cs:∀lo hi a x y,T a=some (yU x y)→VR T lo x→VR T hi y→g lo hi→P (.ref a)):P v:=by
 induction k using MV.casesOn with
 |int i=>exact Cc r λt e=>rwl e (ci i t h)
 |MR lo hi=>exact JM r λa x y z=>rwl z.1 (cs lo hi a x y z.2.1 z.2.2.1 z.2.2.2 h)
 |_=>exact h.elim
noncomputable def Po(s:Shared)(u:Value):Prop:=∃Ty id,s.TypeIs u Ty∧typeLookup (.type Ty) "__getitem__"=pure (some (.builtin id))
noncomputable def It(c:Cx)(u v:Value)(R:Value→Shared→Prop)(s:Shared):Prop:=Po s u∧Wp c (getItem u v) R s
theorem Se{value slice:Expr}{o i:Value}(h:It c o i R s):Wp c (subscriptTail value slice o i) R s:=
 h.1.elim λTy hT=>hT.elim λid hT=>(VX slice o i).elim λops hs=>by
  unfold subscriptTail;refine wpAny_bind ?_;rw[getitemInPython_of_ne hT.1.not_modules];refine wpAny_bind (wpAny_specialOf hT.1 hT.2 ?_);have fin:Wp c (subscripted slice false o i) (λr a2J=>Wp c (letTemporaryGo value o r>>=λ_=>pure r) R a2J) s:=by
   rw[hs];exact wpAny_operating (wpAny_mono h.2 (λr a2J a5l=>wpAny_bind (wpAny_letTemporaryGo (wpAny_pure a5l))) λ_ _ x=>x)
  exact wpAny_pure (wpAny_bind fin)
theorem su{k:Int}{n j:Nat}(h:xY k n=some j):(0≤k∧k<n∧j=k.toNat)∨(k<0∧-(n:Int)≤k∧j=(k+n).toNat):=by
 unfold xY at h;by_cases p:0≤k
 ·rw[if_pos p]at h;by_cases q:k<n
  ·rw[if_pos q]at h;exact .inl ⟨p,q,(aA h).symm⟩
  ·rw[if_neg q]at h;exact ar h rfl
 ·rw[if_neg p]at h;by_cases q:0≤k+n
  ·rw[if_pos q]at h;exact .inr ⟨Bs.mp p,Ii.mp q,(aA h).symm⟩
  ·rw[if_neg q]at h;exact ar h rfl
theorem OM{k:Int}{n j:Nat}(h:xY k n=some j):seqIndex? k n=some j:=(su h).elim (λh=>by
 rw[seqIndex?,if_neg (dc.mpr h.1),h.2.2,if_pos];rw[decide_eq_true h.1,decide_eq_true h.2.1];rfl) λh=>rwl h.2.2 (seqIndex_neg h.1 h.2.1)
theorem Eh{k:Int}{n j:Nat}(h:xY k n=some j)(hn:n≤lim):-2^63≤k∧k<2^63:=
 have hn:(n:Int)≤1000000:=cK.mpr hn
 (su h).elim (λh=>⟨aS (by decide) h.1,iO h.2.1 (aS hn (by decide))⟩) λh=>⟨aS (aS (by decide) (Int.neg_le_neg hn)) h.2.1,fT h.1 (by decide)⟩
theorem qV.cases{k:Int}{P:Prop}(h:qV l k σ Q)(c:∀j m,xY k l.length=some j→l[j]?=some m→Q m σ→P):P:=gv.cases h λj hj h=>gv.cases h λm hm h=>c j m hj hm h
theorem Tv{x:Addr}{n:Nat}(g:s.heap.get? x=some (cU vs n)):Po s (.ref x):=⟨_,_,⟨_,g,rfl⟩,list_getitem_lookup⟩
theorem tw{x:Addr}{n:Nat}{dd:Option Addr}{sl:Array (Option Value)}(g:s.heap.get? x=some {cls:=.type "tuple",dict:=dd,data:=.seq vs.toArray n,slots:=sl}):IsTup s.heap x vs.toArray:=⟨_,g,rfl,_,rfl⟩
theorem Tt{x:Addr}{k:Int}{t:Tok}{j:Nat}{w:Value}(hl:s.heap.IsList x vs.toArray)(hj:xY k vs.toArray.size=some j)(hn:vs.toArray.size≤lim)(hw:vs.toArray[j]?=some w)(h:R w s):Wp c (getItem (.ref x) (.int k t)) R s:=
 (su hj).elim (λp=>wpAny_getItem_list hl p.1 (Eh hj hn).2 (rwr p.2.2 hw) h) λp=>wpAny_getItem_list_neg hl p.1 p.2.1 (Eh hj hn).1 (rwr p.2.2 hw) h
theorem toA{j:Nat}{w:Value}(h:vs[j]?=some w):vs.toArray[j]?=some w:=L9.trans h
theorem Kt.a3b(kt:Kt c ρ T Q R)(F:FI c ρ T σ s)(r:eQ T l vs)(q:Q (.tup l) σ):R (.ref s.heap.objs.size) {s with heap:=s.heap.push {cls:=.type "tuple",data:=.seq vs.toArray}}:=
 (F.note (s':={s with heap:=s.heap.push {cls:=.type "tuple",data:=.seq vs.toArray}}) (λb o e=>Heap.get?_push_of_some _ e) (dT _) (Heap.get?_push_size _ rfl) rfl rfl).elim λT' z=>
  kt T' (.tup l) _ σ _ z.1 ⟨_,vs,rfl,⟨_,_,z.2.1,rfl,rfl⟩,r.up z.1⟩ z.2.2 q
theorem VO{a sa:Addr}{n:Nat}{dd:Option Addr}{sl:Array (Option Value)}{tj:Tok}{x y z:Value}(g:s.heap.get? a=some {cls:=.type "tuple",dict:=dd,data:=.seq [x,y,z].toArray n,slots:=sl})
  (gs:s.heap.get? sa=some (yU .none (.int 2 tj))) (h:R (.ref s.heap.objs.size) {s with heap:=s.heap.push {cls:=.type "tuple",data:=.seq [x,y].toArray}}):Wp c (getItem (.ref a) (.ref sa)) R s:=by
 refine wpAny_holding (wpAny_bind (wpAny_sequenceKey (tw g).typeIs (by decide) ?_))
 refine wpAny_bind (wpAny_callSpecial?_slot (name:=Str.ofString "__getitem__") (tw g).typeIs f9
  (wpAny_call_entry f9 (tw g).typeIs a2d ?_ (a2e _ _)))
 refine wpAny_bind (m:=Builtin.Tuple.tupleItemsOf (.ref a)) (tupleItemsOf_ (tw g) ?_);refine wpAny_bind (wpAny_typeOf ⟨_,gs,rfl⟩ ?_);rw[if_pos (by decide)]
 refine wpAny_bind (m:=Builtin.Slice.sliceApplied _ _) ?_;refine wpAny_bind (m:=Builtin.Slice.sliceFields _) (wpAny_bind (wpAny_field gs rfl (x:=.none) rfl (wpAny_bind (wpAny_field gs rfl (x:=.int 2 tj) rfl (wpAny_bind (wpAny_field gs rfl (x:=.none) rfl (wpAny_pure ?_)))))));exact wpAny_bind (slicePart_none (wpAny_bind (slicePart_none (wpAny_bind (slicePart_int (wpAny_bind (wpAny_pure (wpAny_pure
  (wpAny_bind (m:=Builtin.Tuple.tupleExact _) (wpAny_newObj_type (wpAny_pure ⟨_,rfl,wpAny_pure h⟩) (show 2≤sizeLine by decide)))))))))))
theorem Qr(F:FI c ρ T σ s)(ra:VR T a u)(rk:VR T k v)(h:l8 a k σ Q)(kt:Kt c ρ T Q R):It c u v R s:=
 MV.ix.vr (P:=λv=>It c u v R s) rk h
  (λi t h=>MV.on.vr (P:=λu=>It c u (.int i t) R s) ra h (λ_ _ h=>h.elim)
   (λx h=>h.cases (λl e h=>h.cases λj m hj hm q=>by
     induction F.list e with|mk vs n g r hl=>
     obtain⟨w,hw,Q3⟩:=eQ.get l r hm;exact⟨Tv g,Tt ⟨_,g,rfl,_,rfl⟩ (rwr r.sz.symm hj) (rwr r.sz.symm hl) (toA hw) (kt.here F Q3 q)⟩)
    (λ_ _ _ h=>h.elim) λl e h=>h.cases λm hm q=>by
     obtain⟨f,hmf,hf⟩:=F.map e;obtain⟨w,hw,Q3⟩:=(show∃w,f i=some w∧VR T m w from by have:=hf i;rw[hm]at this;exact this)
     exact⟨⟨_,_,hmf.typeIs,slot_dict_getitem.lookup⟩,wpAny_getItem_of (decide_eq_true rfl) hmf hw (kt.here (F.tok _) Q3 q)⟩)
   λl x vs t r h=>h.2.cases λj m hj hm q=>by
    induction F.tup t r with|mk vs n dd sl g r=>
    obtain⟨w,hw,Q3⟩:=eQ.get l r hm;have ft:=Eh hj (ah h.1 (by decide))
    exact⟨⟨_,_,(tw g).typeIs,f9.lookup⟩,a18 (tw g) ft.1 ft.2 (rwr r.sz.symm (OM hj)) (toA hw) (kt.here F Q3 q)⟩)
  λlo hi sa x y g rlo rhi h=>by
   have gs:s.heap.get? sa=some (yU x y):=F.1.t _ _ g;refine MV.on.vr (P:=λu=>It c u (.ref sa) R s) ra h (λ_ _ h=>h.elim) (λa h=>(F.rd h).elim λl z=>gv.cases z.2 λi hi h=>gv.cases h λj hj q=>?_) λl a vs t r h=>?_
   ·induction z.1 with|mk vs n g r hl=>
    refine⟨Tv g,wpAny_getItem_list_slice ⟨_,g,rfl,_,rfl⟩ ⟨_,gs,rfl,rfl⟩ (IH hi rlo) (Ow hj rhi) .none nofun ?_ (r.fit hl)⟩;rw[SR vs.toArray hi (rwr r.sz.symm hj)];exact kt.fe F (eQ.drop _ i (eQ.take _ j r)) (λb o e=>Heap.get?_push_of_some _ e) (dT _) (Heap.get?_push_size _ rfl) rfl rfl (ah ((List.drop_sublist _ _).trans (List.take_sublist _ _)).length_le hl) q
   ·rw[Ej ((Ah lo rlo).trans h.1)]at gs;refine MV.on.i (P:=λy=>s.heap.get? sa=some (yU .none y)→It c (.ref a) (.ref sa) R s) rhi h.2 (λj tj h gs=>?_) gs;obtain⟨ej,x,y,z,el,q⟩:=h;rw[ej]at gs;rw[el]at r;induction F.tup t r with|mk vs n dd sl g r=>
    obtain⟨v1,k1,e1,p1,v2,k2,e2,p2,v3,k3,e3,p3,e4⟩:=r;rw[e1,e2,e3,show k3=[]from e4]at g;exact⟨⟨_,_,(tw g).typeIs,f9.lookup⟩,VO g gs (kt.a3b (l:=[x,y]) F ⟨v1,_,rfl,p1,.one p2⟩ q)⟩
end
theorem K0{h:Heap}{a:Addr}{vs us:List Value}{k:Nat}{f:Array Value→Array Value}(e:h.get? a=some (cU vs k))(hf:f vs.toArray=us.toArray):
  ∃k',(h.update a (Obj.mapSeq f)).get? a=some (cU us k'):=
 ⟨_,(Heap.get?_update_self _ e rfl).trans (congrArg (λx=>some (({cls:=.type "list",dict:=none,data:=.seq x (if x.size==vs.toArray.size then k else k+1),slots:=#[]}:Obj))) hf)⟩
section
variable{c:Cx}{ρ:Loc}{T:aR}{σ:St}{s s':Shared}{Q:St→Prop}{R:Unit→Shared→Prop}{a i m:MV}{u vi v:Value}{l l':List MV}{vs us:List Value}{x:Addr}{k:Nat}
theorem FI.set{mo U8:MO}(F:FI c ρ T σ s)(e:σ x=some mo)(hm:∀C fs,U8≠.inst C fs)(hk:∀b o,b≠x→s.heap.get? b=some o→s'.heap.get? b=some o)(ho:Gj c.G T s'.heap x U8)(GY:s'.os=s.os)(hg:s'.gens=s.gens)(hmi:mo.BW=true:=by rfl):FI c ρ T (upd σ x U8) s':=
 F.chg (P:=(·=x)) e hmi (λC fs q=>absurd q (hm C fs)) (λ_=>.inl) (λb o=>hk b o) ho GY hg
theorem FI.So{f:Array Value→Array Value}(F:FI c ρ T σ s)(e:σ x=some (.list l))(g:s.heap.get? x=some (cU vs k))
  (hf:f vs.toArray=us.toArray) (r:eQ T l' us) (hl:l'.length≤lim):FI c ρ T (upd σ x (.list l')) {s with heap:=s.heap.update x (Obj.mapSeq f)}:=
 (K0 g hf).elim λk' g'=>F.set (U8:=.list l') e (λ_ _=>Gf) (λb o hb eb=>(Heap.get?_update_other _ _ (UZ hb)).trans eb) (XX.mk us k' g' r hl) rfl rfl
theorem DR.keep{k:Int}{v:Value}:∀(es:List (Int×Value)),(∀p∈es,p.1≠k)→es.map (λkv=>if kv.1=k then(kv.1,v)else kv)=es:=by
 intro zl;induction zl with
 |nil=>
  rintro _;exact rfl
 |cons p es ih=>
  rintro h;rw[dm,if_neg (h p (.head _)),ih λq hq=>h q (.tail _ hq)]
theorem MK{es:List (Int×Value)}{k:Int}{v w:Value}(h:∀p∈es,p.1≠k):stored ((k,w)::es) k v=(k,v)::es:=by
 rw[stored,Ig,show decide (k=k)=true from decide_eq_true rfl,Bool.true_or,if_pos rfl,dm,if_pos rfl,DR.keep es h]
theorem Kr{es:List (Int×Value)}{k k':Int}{v w:Value}(h:k'≠k):stored ((k',w)::es) k v=(k',w)::stored es k v:=by
 rw[stored,stored,Ig,show decide (k'=k)=false from decide_eq_false h,Bool.false_or,dm,if_neg h];cases es.any (λkv=>decide (kv.1=k))<;>rfl
theorem DR.set{k:Int}(rm:VR T m v):∀(l:List (Int×MV)){es:List (Int×Value)},DR T l es→(es.map (·.1)).Nodup→DR T (Fi l k m) (stored es k v):=by
 intro zl;induction zl with
 |nil=>
  rintro _ h _;rw[show _=[]from h];exact⟨v,[],rfl,rm,rfl⟩
 |cons zx l ih=>
  obtain⟨k',m'⟩:=zx;rintro _ h hn;refine iA h λv' es zh=>oe zh λe p q=>?_;rw[e]at hn⊢;have hn:=dw.mp hn;by_cases g:k=k'
  ·rw[g,show Fi ((k',m')::l) k' m=(k',m)::l from if_pos rfl];exact⟨v,es,MK λp hp ep=>hn.1 (dv.mpr ⟨p,hp,ep⟩),rm,q⟩
  ·rw[show Fi ((k',m')::l) k m=(k',m')::Fi l k m from if_neg g];exact⟨v',stored es k v,Kr (UZ g),p,ih q hn.2⟩
theorem DR.length:∀(l:List (Int×MV)){es:List (Int×Value)},DR T l es→l.length=es.length:=by
 intro zl;induction zl with
 |nil=>
  rintro _ h;exact congrArg bl (show[]=_ from h.symm)
 |cons _ l ih=>
  rintro _ h;obtain⟨v,r,e,p,q⟩:=h;rw[e];exact congrArg (·+1) (ih q)
theorem V4{x:Addr}{k:Int}{t:Tok}{l:List (Int×MV)}(F:FI c ρ T σ s)(e:σ x=some (.dict l))(hl:l.length≤100)(rm:VR T m v)(q:Q (upd σ x (.dict (Fi l k m))))(kt:Ks c ρ T Q (R ())):Wp c (setItem (.ref x) (.int k t) v) R s:=by
 induction F.1.obj _ _ e with|mk es hd r=>
 exact wpAny_setItem_pairs (decide_eq_true rfl) hd (λh' hd' hs=>kt _ _ (F.set (U8:=.dict (Fi l k m)) (s':={s with heap:=h',toks:=s.toks+1}) e (λ_ _=>nofun) (λb o hb eb=>(hs.2 b hb).trans eb)
  (a1N.mk _ hd' (DR.set rm l r (hd.elim λ_ z=>z.elim λ_ z=>z.elim λ_ z=>z.2.2.2.2.2))) rfl rfl) q) (rwl ((DR.length l r).symm) (ah hl (by decide)))
theorem Ts{x:Addr}{key:Int}{t:Tok}{j:Nat}(g:s.heap.get? x=some (cU vs k))(hj:xY key vs.toArray.size=some j)(hn:vs.toArray.size≤lim)(hx:vs.toArray[j]?=some vi)
  (fin:wpAny (model pw c.G.w) c.A.in1 (setSeqItemAt x j v) (λ_ s'=>R () s') noE s):Wp c (setItem (.ref x) (.int key t) v) R s:=by
 have hl:s.heap.IsList x vs.toArray:=⟨_,g,rfl,_,rfl⟩;have ft:=Eh hj hn;refine wpAny_holding (wpAny_bind (wpAny_sequenceKey hl.typeIs (by decide) ?_))
 refine wpAny_bind (wpAny_callSpecial?_slot (name:=Str.ofString "__setitem__") hl.typeIs slot_list_setitem (wpAny_call_entry slot_list_setitem hl.typeIs entry_list_setitem ?_ (args_list_setitem _ _ _)));refine wpAny_bind (m:=Builtin.List.listSubscript? (.int key t)) (wpAny_listSubscript_int (by rw[Builtin.List.listFitsIndex,decide_eq_true ft.1,decide_eq_true ft.2];rfl) ?_)
 rcases su hj with⟨p1,p2,e⟩|⟨p1,p2,e⟩
 ·obtain⟨j',ek⟩:=JT p1;rw[ek,cS]at e;rw[ek];refine wpAny_bind (wpAny_bind (m:=seqItemAt x j') (wpAny_seqItemAt g rfl (wpAny_pure ?_)));rw[←e,hx];exact wpAny_bind (m:=setSeqItemAt x j v) (wpAny_mono fin (λ_ s' p=>wpAny_pure ⟨.none,rfl,wpAny_pure p⟩) λ_ _ x=>x)
 ·obtain⟨j',ek⟩:=Int.eq_negSucc_of_lt_zero p1;have hs:=OM hj;rw[ek]at hs;rw[ek];refine wpAny_bind (wpAny_bind (m:=Builtin.List.listItems (.ref x)) (wpAny_bind (wpAny_seqItems g rfl (wpAny_pure (wpAny_pure ?_)))));rw[hs,rV,hx];exact wpAny_bind (m:=setSeqItemAt x j v) (wpAny_mono fin (λ_ s' p=>wpAny_pure ⟨.none,rfl,wpAny_pure p⟩) λ_ _ x=>x)
end
noncomputable def XD(i j:Nat)(us xs:Array Value):Array Value:=xs.extract 0 ((i:Nat):Int).toNat++us++xs.extract (max ((i:Nat):Int) ((j:Nat):Int)).toNat xs.size
theorem O5{i j:Nat}{vs us:List Value}(h:i≤j):XD i j us.toArray vs.toArray=(vs.take i++us++vs.drop j).toArray:=by
 rw[XD,cS,show max (i:Int) (j:Int)=(j:Int)from Eb (cK.mpr h),cS];simp[List.take_of_length_le]
section
variable{c:Cx}{ρ:Loc}{T:aR}{σ:St}{s s':Shared}{Q:St→Prop}{R:Unit→Shared→Prop}{a i m:MV}{u vi vj v:Value}{l l':List MV}{vs us:List Value}{x b:Addr}{k k2:Nat}
theorem Tu{sa:Addr}{lo hi:MV}{i j:Nat}(g:s.heap.get? x=some (cU vs k))(g2:s.heap.get? b=some (cU us k2))(gs:s.heap.get? sa=some (yU vi vj))(rlo:VR T lo vi)(rhi:VR T hi vj)(hp:lo? lo=some i)(hq:hi? hi vs.toArray.size=some j)
  (hi1:min i vs.toArray.size=i) (hj1:min j vs.toArray.size=j) (hb:x≠b) (hn:vs.toArray.size+us.toArray.size≤lim) (hz:(XD i j us.toArray vs.toArray).size≤lim)
  (fin:R () {s with heap:=s.heap.update x (Obj.mapSeq (XD i j us.toArray))}):Wp c (setItem (.ref x) (.ref sa) (.ref b)) R s:=by
 have hl:s.heap.IsList x vs.toArray:=⟨_,g,rfl,_,rfl⟩;have hTs:s.TypeIs (.ref sa) "slice":=⟨_,gs,rfl⟩;refine wpAny_holding (wpAny_bind (wpAny_sequenceKey hl.typeIs (by decide) ?_))
 refine wpAny_bind (wpAny_callSpecial?_slot (name:=Str.ofString "__setitem__") hl.typeIs slot_list_setitem (wpAny_call_entry slot_list_setitem hl.typeIs entry_list_setitem ?_ (args_list_setitem _ _ _)));refine wpAny_bind (m:=Builtin.List.listSubscript? (.ref sa)) (wpAny_bind (wpAny_specialOf hTs slice_no_index (wpAny_pure ?_)));refine wpAny_bind (m:=typeOf (.ref sa)) (wpAny_typeOf hTs ?_);rw[if_neg (by decide),listSliceParts_eq]
 refine wpAny_bind (wpAny_bind (wpAny_field gs rfl (x:=.none) rfl (wpAny_bind (wpAny_listPart .none ?_))));rw[if_neg (show¬((rawPart none==rawInt 0)=true)from aq)];refine wpAny_bind (wpAny_field gs rfl (x:=vi) rfl (wpAny_bind (wpAny_listPart (IH hp rlo) ?_)));refine wpAny_bind (wpAny_field gs rfl (x:=vj) rfl (wpAny_bind (wpAny_listPart (Ow hq rhi) (wpAny_pure ?_))));show wpAny _ _ (if Builtin.List.listSameRef (.ref x) (.ref b)=true then _ else _) _ _ _;rw[if_neg (show¬Builtin.List.listSameRef (.ref x) (.ref b)=true from λh=>hb (eq_of_beq h))];refine wpAny_bind (m:=Builtin.List.listAllItems _ _) (wpAny_bind (wpAny_typeOf ⟨_,g2,rfl⟩ ?_));rw[if_pos (by decide)]
 refine JP g2 rfl (wpAny_bind (m:=Builtin.List.listItems _) (JP g rfl ?_));refine wpAny_bind (wpAny_of_eq (sliceIndices_raw (z9 lo) (z9 hi) none vs.toArray.size (by decide)) ?_)
 rw[Gc hp hq,hi1,hj1];refine wpAny_bind (m:=rule _) (wpAny_rule ?_);show wpAny _ _ (if Builtin.List.listTooLong (vs.toArray.size+us.toArray.size)=true then _ else _) _ _ _;rw[if_neg (E2 hn)];refine wpAny_bind (m:=Builtin.List.listUpdate _ _) (wpAny_updateSeq g rfl (wpAny_bind (m:=letGo _ _) (wpAny_letGo (wpAny_pure ⟨.none,rfl,wpAny_pure fin⟩))) (ah (bq _ _) (ah hn eN)) (ji (ah hz eN)))
theorem XB{i j:Nat}{l k:List MV}(h:i≤j)(h':j≤l.length)(h3:l.length+k.length≤lim):(l.take i++k++l.drop j).length≤lim:=by
 rw[aa,aa,eX,d6,eS (ah h h')];lia
theorem PG{u:Value}(F:FI c ρ T σ s)(ra:VR T a u)(ri:VR T i vi)(rm:VR T m v)(h:pS a i m σ Q)(kt:Ks c ρ T Q (R ())):Wp c (setItem u vi v) R s:=
 MV.on.r (P:=λu=>Wp c (setItem u vi v) R s) ra h λx h=>MV.ix.vr (P:=λvi=>Wp c (setItem (.ref x) vi v) R s) ri h
  (λkey t h=>h.cases (λl e h=>gv.cases h λj hj q=>by
   induction F.list e with|mk vs n g r hl=>
   have DK:j<vs.length:=rwr ((eQ.length _ r)) ((su hj).elim (λh=>cB.mp (by rw[h.2.2,bL h.1];exact h.2.1)) λh=>cB.mp (by rw[h.2.2,bL (Ii.mpr h.2.1)];lia))
   exact Ts g (rwr r.sz.symm hj) (rwr r.sz.symm hl) (toA (j5 DK)) (wpAny_setSeqItemAt g rfl (kt _ _ (F.So e g (us:=vs.set j v) (by simp) (eQ.set rm l j r) (ah (cR List.length_set) hl)) q)))
   (λ_ _ _ h=>h.elim) λl e h=>V4 F e h.1 rm h.2 kt)
  λlo hi sa y z gs rlo rhi h=>MV.on.r (P:=λv=>Wp c (setItem (.ref x) (.ref sa) v) R s) rm h λb h=>h.l λl e h=>h.l λk e2 h=>gv.cases h λi hi h=>gv.cases h λj hj h=>by
   induction F.list e with|mk vs n g r hl=>induction F.list e2 with|mk us n2 g2 r2 hl2=>
   have h1:=h.1;have ln:=XB h1.1 h1.2.1 h1.2.2.1;have rr:=eQ.append (eQ.drop l j r) _ (eQ.append r2 _ (eQ.take l i r));refine Tu g g2 (F.1.t _ _ gs) rlo rhi hi (rwr r.sz.symm hj) (eS (rwr r.sz.symm (ah h1.1 h1.2.1))) (eS (rwr r.sz.symm h1.2.1)) h1.2.2.2 (by rw[r.sz,r2.sz];exact h1.2.2.1) ?_ (kt _ _ (F.So e g (O5 h1.1) rr ln) h.2)
   rw[O5 h1.1,rr.sz];exact ln
end
section
variable{c:Cx}{ρ:Loc}{T:aR}{σ:St}{s s':Shared}{Q:bw}{R:Value→Shared→Prop}{v m:MV}{u:Value}{l ms:List MV}{vs us:List Value}{x:Addr}
theorem Bp.el{f}{P:List Value→Prop}(r:eQ T ms us)(h:Bp ms f)(k:∀m u,VR T m u→f m→P [u]):P us:=by
 induction ms using aF with
 |nil=>exact h.elim
 |cons m ms=>induction ms using aF with
  |nil=>exact iA r λv k' z=>by rw[z.1,show k'=[]from z.2.2];exact k m v z.2.1 h
  |cons m' ms=>exact h.elim
theorem LY.el{f}{P:List Value→Prop}(r:eQ T ms us)(h:LY ms f)(k:∀m u m' u',VR T m u→VR T m' u'→f m m'→P [u,u']):P us:=by
 induction ms using aF with
 |nil=>exact h.elim
 |cons m ms=>induction ms using aF with
  |nil=>exact h.elim
  |cons m' ms=>induction ms using aF with
   |nil=>exact iA r λv k' z=>iA z.2.2 λv' k2 y=>by rw[z.1,y.1,show k2=[]from y.2.2];exact k m v m' v' z.2.1 y.2.1 h
   |cons m2 ms=>exact h.elim
theorem vM{n:Int}(h:0≤n):Builtin.Range.rangeSize 0 n 1=(n.toNat:Int):=by rw[rangeSize_one];split<;>lia
theorem Ky(z:Int):(oZ z).length=z.toNat:=by rw[oZ,ax,jh]
theorem eQ.ints{z:Int}{vs:List Value}(hl:z.toNat=vs.length)(h:∀(i:Nat)v,vs[i]?=some v→∃t,v=.int (i:Int) t):eQ T (oZ z) vs:=by
 have key:∀(n k:Nat)(vs:List Value),n=vs.length→(∀(i:Nat)v,vs[i]?=some v→∃t,v=.int ((k+i:Nat):Int) t)→eQ T ((Mm k n).map λi=>MV.int ((i:Nat):Int)) vs:=by
  intro n;induction n with
  |zero=>intro k vs e _;exact dr e.symm
  |succ n ih=>intro k vs e f;induction vs using aF with
   |nil=>exact absurd e (cF n)
   |cons v vs=>exact⟨v,vs,rfl,f 0 v rfl,ih (k+1) vs (rW e) λi w hw=>by have:=f (i+1) w hw;rwa [show k+(i+1)=k+1+i by lia]at this⟩
 have:=key z.toNat 0 vs hl (λi v hv=>by rw[cQ];exact h i v hv)
 rw[←xM]at this;exact this
theorem WU{y:String}(F:FI c ρ T σ s)(rv:eQ T ms us)(h:K1 y ms σ Q)(k:Kt c ρ T Q R):Wp c (call (.type y) us) R s:=
 Bp.el (P:=λus=>Wp c (call (.type y) us) R s) rv h λm u r h=>by
  induction h1:y=="list"with
  |true=>
   rw[h1]at h;rw[eq_of_beq h1];rcases h with h|h
   ·refine MV.on.r (P:=λu=>Wp c (call (.type "list") [u]) R s) r h λa h=>h.l λl e q=>?_;induction F.list e with|mk vs n g r hl=>
    exact call_list_seq a (.inl rfl) g rfl rfl (λh' c' hk hn=>k.fe F r hk (dT _) hn rfl rfl hl q) (r.fit hl)
   ·cases m with
    |PK z=>
     refine Jf r λa t w w' zh=>oe zh λe g hz=>?_;rw[e];refine call_list_range (a:=0) (b:=z) (c:=1) c.hr.1 (F.1.t _ _ g) (small_one (by decide) (by decide) (aS (by decide) hz.1) (gg hz.2 (by decide))) (vM hz.1) (ah (l7.mpr hz.2) (by decide)) λh' tk acc c' hk hn hi=>?_
     refine k.fe (l:=oZ z) (vs:=acc.toList) (n:=c') F (eQ.ints (hi.1.symm.trans Mq.symm) λi v hv=>(hi.2 i v (by rw[←JU];exact hv)).imp λt e=>e.trans (congrArg (Value.int · t) (by simp))) hk (dT _) (by simpa [cU]using hn) rfl rfl (by rw[Ky];exact l7.mpr hz.2) h
    |_=>exact h.elim
  |false=>
   rw[h1]at h;induction h2:y=="range"with
   |false=>rw[h2]at h;exact h.elim
   |true=>
    rw[h2]at h;rw[eq_of_beq h2];refine MV.on.i (P:=λu=>Wp c (call (.type "range") [u]) R s) r h λz t h=>call_range_1 ?_;refine(F.note (s':={s with heap:=s.heap.push {cls:=.type "range",data:=.fields #[.int 0 s.toks,.int z t,.int 1 (s.toks+1)]},toks:=s.toks+1+1}) (λb o e=>Heap.get?_push_of_some _ e) (dT _) (Heap.get?_push_size _ rfl) rfl rfl).elim λT' y=>?_;exact k T' (.PK z) _ σ _ y.1 ⟨_,_,_,_,rfl,y.2.1,h.1⟩ y.2.2 h.2
end
theorem a25{x y a b:Int}(h:[x,y].Perm [a,b]):(x=a∧y=b)∨(x=b∧y=a):=by
 rcases aE.mp (h.mem_iff.mp (.head _))with e|e
 ·rw[e]at h;exact .inl ⟨e,(lT (yO.mp ((Vk a).mp h))).1⟩
 ·have e:=aQ.mp e;rw[e]at h;exact .inr ⟨e,(lT (yO.mp ((Vk b).mp (h.trans (.swap b a []))))).1⟩
theorem a0R{α:Type}{a b c:α}{l:List α}{p:Prop}(h:(a::b::c::l).length≤2):p:=absurd h (a4F.mpr (ve 3 _))
theorem EH{js ks:List Int}(hl:js.length≤2)(hp:ks.Perm js)(ho:ks.Pairwise (·≤·)):ks=sortI js:=by
 induction js using aF with
 |nil=>exact hp.eq_nil
 |cons a js=>induction js using aF with
  |nil=>exact yO.mp hp
  |cons b js=>induction js using aF with
   |cons c js=>exact a0R hl
   |nil=>
    have e:=hp.length_eq;induction ks using aF with
    |nil=>exact absurd e (lZ rfl)
    |cons x ks=>induction ks using aF with
     |nil=>exact absurd e (lZ rfl)
     |cons y ks=>induction ks using aF with
      |cons z ks=>exact a0R (cR e)
      |nil=>
       have hxy:=(List.pairwise_cons.mp ho).1 y (.head _);refine Eq.trans ?_ (show ite (b<a) [b,a] [a,b]=_ from rfl);rcases a25 hp with⟨e1,e2⟩|⟨e1,e2⟩
       ·rw[←e1,←e2,if_neg (dc.mpr hxy)]
       ·rw[←e1,←e2];by_cases h:x<y
        ·exact(if_pos h).symm
        ·rw[if_neg h,kL hxy (dc.mp h)]
theorem K8{T:aR}:∀(js:List Int){vs:List Value},eQ T (js.map .int) vs→IntsAre vs js:=by
 intro zl;induction zl with
 |nil=>
  rintro _ h;rw[show _=[]from h];exact .nil
 |cons j js ih=>
  rintro _ h;obtain⟨v,r,e,⟨t,et⟩,q⟩:=h;rw[e,et];exact .cons _ _ (ih q)
theorem Df{T:aR}{js:List Int}{vs:List Value}(h:IntsAre vs js):eQ T (js.map .int) vs:=by
 induction h with
 |nil=>exact rfl
 |cons _ _ _ ih=>exact⟨_,_,rfl,⟨_,rfl⟩,ih⟩
section
variable{c:Cx}{ρ:Loc}{T:aR}{σ:St}{s:Shared}{Q:bw}{R:Value→Shared→Prop}
theorem MP{l:Addr}{vs:List Value}{Q:Value→Shared→Prop}(hl:s.heap.IsList l vs.toArray)(h2:vs.length<2)
  (h:Q (.ref (s.heap.objs.size+1)) {s with heap:=sortedAll s.heap vs vs.toArray}):
  Wp c (call (.builtin "sorted") [.ref l]) Q s:=by
 refine Calls.call_function_entry kind_sorted plain_sorted entry_sorted (args_sorted1 _) ?_;unfold Builtin.«sorted»;refine wpAny_bind (m:=checkCount "sorted" 1 1 _) (wpAny_pure ?_);refine wpAny_bind (collect_list hl ?_);refine wpAny_bind (wpAny_newList ?_);have xD:((s.heap.push (seqObj "list" #[] 0)).update s.heap.objs.size (Obj.mapSeq (·++vs.toArray))).objs.size=s.heap.objs.size+1:=by
  rw[Heap.size_update,size_push']
 have Xa:(((s.heap.push (seqObj "list" #[] 0)).update s.heap.objs.size (Obj.mapSeq (·++vs.toArray))).push (seqObj "list" vs.toArray 0)).get? (s.heap.objs.size+1)=some (seqObj "list" vs.toArray 0):=by
  rw[←xD];exact Heap.get?_push_size _ rfl
 show wpAny _ _ _ _ _ {s with heap:=((s.heap.push (seqObj "list" #[] 0)).update s.heap.objs.size (Obj.mapSeq (·++vs.toArray))).push (seqObj "list" vs.toArray 0)};rw[xD];refine wpAny_bind (wpAny_holding (wpAny_call_entry slot_list_sort ⟨_,Xa,rfl⟩ entry_list_sort ?_ (args_list_sort _)));rw[list_sort_plain];generalize Me:({s with heap:=((s.heap.push (seqObj "list" #[] 0)).update s.heap.objs.size (Obj.mapSeq (·++vs.toArray))).push (seqObj "list" vs.toArray 0)}:Shared)=s' at*;have ho:s'.heap.get? (s.heap.objs.size+1)=some (seqObj "list" vs.toArray 0):=by rw[←Me];exact Xa
 have ha:s.heap.objs.size+1<s'.heap.objs.size:=Heap.lt_size ho;refine wpAny_bind (listItems_at ho rfl ?_);refine wpAny_bind (listUpdate_at ho rfl ?_);obtain⟨e1,ho1⟩:∃e1,(s'.heap.update (s.heap.objs.size+1) (Obj.mapSeq λ_=>#[])).get? (s.heap.objs.size+1)=some (seqObj "list" #[] e1):=⟨_,get?_update_seq ho (λ_=>#[])⟩;refine wpAny_bind (seqEpoch_at ho1 rfl ?_);refine wpAny_bind (wpAny_newTuple ?_);refine wpAny_bind (wpAny_newList ?_);refine wpAny_holding ?_;have ho6:(((s'.heap.update (s.heap.objs.size+1) (Obj.mapSeq λ_=>#[])).push (seqObj "tuple" vs.toArray 0)).push (seqObj "list" #[] 0)).get? (s.heap.objs.size+1)=some (seqObj "list" #[] e1):=by
  rw[Heap.get?_push_ne _ _ _ (by rw[size_push',Heap.size_update];exact cb (dH ha)),Heap.get?_push_ne _ _ _ (by rw[Heap.size_update];exact cb ha)]
  exact ho1
 show wpAny _ _ _ _ _ {s' with heap:=((s'.heap.update (s.heap.objs.size+1) (Obj.mapSeq λ_=>#[])).push (seqObj "tuple" vs.toArray 0)).push (seqObj "list" #[] 0)};dsimp only;have hn:vs.toArray.size<2:=by exact h2
 rw[if_pos hn,if_pos hn];refine wpAny_bind (wpAny_pure ?_);rw[StateT.run_pure];refine wpAny_bind (wpAny_pure ?_);dsimp only;refine wpAny_bind (seqEpoch_at ho6 rfl ?_);refine wpAny_bind (listUpdate_at ho6 rfl ?_ (hsz2:=by rw[Array.size_map];show(pairsOf vs).size≤_;rw[pairsOf_size,sizeLine_eq];lia))
 simp only[bne_self_eq_false,zP,if_false];refine wpAny_pure ⟨_,rfl,wpAny_pure ⟨_,rfl,?_⟩⟩;subst Me;have e:arrOf (SortSt.mk' general' (vs.toArray.zip vs.toArray) #[] 7 none)=pairsOf vs:=rfl;have e2:Array.map (λx=>x.2) (pairsOf vs)=vs.toArray:=by
  unfold pairsOf;refine Array.ext (by simp) λi h1 h2=>?_
  simp
 rw[e,e2];exact h
theorem Jb:kas_sort 2=.ask 1 0 λc=>if c=true then .ret #[1,0]else .ret #[0,1]:=by
 exact congrArg (KasT.ask 1 0) (funext λc=>by cases c<;>rfl)
theorem MN{l a1 a2:Addr}{o1 o2:Obj}{n1 n2:Nat}{i1 j1 i2 j2:Int}{t1 t2 u1 u2:Tok}{Q:Value→Shared→Prop}(hl:s.heap.IsList l [Value.ref a1,.ref a2].toArray)
  (h1:s.heap.get? a1=some o1) (c1:o1.cls=.type "tuple") (d1:o1.data=.seq #[.int i1 t1,.int j1 u1] n1) (h2:s.heap.get? a2=some o2) (c2:o2.cls=.type "tuple") (d2:o2.data=.seq #[.int i2 t2,.int j2 u2] n2) (nF:i1≠i2)
  (h:Q (.ref (s.heap.objs.size+1)) {s with heap:=sortedAll s.heap [.ref a1,.ref a2] (if i2<i1 then#[.ref a2,.ref a1]else#[.ref a1,.ref a2])}):
  Wp c (call (.builtin "sorted") [.ref l]) Q s:=by
 refine Calls.call_function_entry kind_sorted plain_sorted entry_sorted (args_sorted1 _) ?_;unfold Builtin.«sorted»;refine wpAny_bind (m:=checkCount "sorted" 1 1 _) (wpAny_pure ?_);generalize JK:[Value.ref a1,.ref a2]=vs at*;have hlen:vs.length=2:=by rw[←JK];rfl
 refine wpAny_bind (collect_list hl ?_);refine wpAny_bind (wpAny_newList ?_);have xD:((s.heap.push (seqObj "list" #[] 0)).update s.heap.objs.size (Obj.mapSeq (·++vs.toArray))).objs.size=s.heap.objs.size+1:=by
  rw[Heap.size_update,size_push']
 have Xa:(((s.heap.push (seqObj "list" #[] 0)).update s.heap.objs.size (Obj.mapSeq (·++vs.toArray))).push (seqObj "list" vs.toArray 0)).get? (s.heap.objs.size+1)=some (seqObj "list" vs.toArray 0):=by
  rw[←xD];exact Heap.get?_push_size _ rfl
 show wpAny _ _ _ _ _ {s with heap:=((s.heap.push (seqObj "list" #[] 0)).update s.heap.objs.size (Obj.mapSeq (·++vs.toArray))).push (seqObj "list" vs.toArray 0)};rw[xD];refine wpAny_bind (wpAny_holding (wpAny_call_entry slot_list_sort ⟨_,Xa,rfl⟩ entry_list_sort ?_ (args_list_sort _)));rw[list_sort_plain];have a3v:∀b o,s.heap.get? b=some o→(((s.heap.push (seqObj "list" #[] 0)).update s.heap.objs.size (Obj.mapSeq (·++vs.toArray))).push (seqObj "list" vs.toArray 0)).get? b=some o:=λb o q=>by
  have DK:b<s.heap.objs.size:=Heap.lt_size q;rw[Heap.get?_push_ne _ _ _ (by rw[xD];exact cb (dH DK)),Heap.get?_update_ne _ _ _ _ (cb DK),Heap.get?_push_ne _ _ _ (cb DK)]
  exact q
 generalize Me:({s with heap:=((s.heap.push (seqObj "list" #[] 0)).update s.heap.objs.size (Obj.mapSeq (·++vs.toArray))).push (seqObj "list" vs.toArray 0)}:Shared)=s' at*;have ho:s'.heap.get? (s.heap.objs.size+1)=some (seqObj "list" vs.toArray 0):=by rw[←Me];exact Xa
 have ha:s.heap.objs.size+1<s'.heap.objs.size:=Heap.lt_size ho;refine wpAny_bind (listItems_at ho rfl ?_);refine wpAny_bind (listUpdate_at ho rfl ?_);obtain⟨e1,ho1⟩:∃e1,(s'.heap.update (s.heap.objs.size+1) (Obj.mapSeq λ_=>#[])).get? (s.heap.objs.size+1)=some (seqObj "list" #[] e1):=⟨_,get?_update_seq ho (λ_=>#[])⟩;refine wpAny_bind (seqEpoch_at ho1 rfl ?_);refine wpAny_bind (wpAny_newTuple ?_);refine wpAny_bind (wpAny_newList ?_);refine wpAny_holding ?_;have keep:∀b o,s.heap.get? b=some o→(((s'.heap.update (s.heap.objs.size+1) (Obj.mapSeq λ_=>#[])).push (seqObj "tuple" vs.toArray 0)).push (seqObj "list" #[] 0)).get? b=some o:=λb o q=>by
  have DK:b<s.heap.objs.size:=Heap.lt_size q;have hb:b<s'.heap.objs.size:=a1T DK (Ri ha);rw[Heap.get?_push_ne _ _ _ (by rw[size_push',Heap.size_update];exact cb (dH hb)),Heap.get?_push_ne _ _ _ (by rw[Heap.size_update];exact cb hb),Heap.get?_update_ne _ _ _ _ (cb (dH DK))]
  rw[←Me];exact a3v b o q
 have ho6:(((s'.heap.update (s.heap.objs.size+1) (Obj.mapSeq λ_=>#[])).push (seqObj "tuple" vs.toArray 0)).push (seqObj "list" #[] 0)).get? (s.heap.objs.size+1)=some (seqObj "list" #[] e1):=by
  rw[Heap.get?_push_ne _ _ _ (by rw[size_push',Heap.size_update];exact cb (dH ha)),Heap.get?_push_ne _ _ _ (by rw[Heap.size_update];exact cb ha)]
  exact ho1
 show wpAny _ _ _ _ _ {s' with heap:=((s'.heap.update (s.heap.objs.size+1) (Obj.mapSeq λ_=>#[])).push (seqObj "tuple" vs.toArray 0)).push (seqObj "list" #[] 0)};have hn:¬vs.toArray.size<2:=by rw[QT,hlen];simp+arith
 rw[if_neg hn,if_neg hn];have a4S:KatTups (((s'.heap.update (s.heap.objs.size+1) (Obj.mapSeq λ_=>#[])).push (seqObj "tuple" vs.toArray 0)).push (seqObj "list" #[] 0)) vs [.int i1 t1,.int i2 t2]:=by
  rw[←JK]at keep⊢;exact .cons (keep _ _ h1) c1 d1 rfl (.cons (keep _ _ h2) c2 d2 rfl .nil)
 generalize zg:({s' with heap:=((s'.heap.update (s.heap.objs.size+1) (Obj.mapSeq λ_=>#[])).push (seqObj "tuple" vs.toArray 0)).push (seqObj "list" #[] 0)}:Shared)=s2 at*;have ho7:s2.heap.get? (s.heap.objs.size+1)=some (seqObj "list" #[] e1):=by rw[←zg];exact ho6
 have Ys:∀b o,s.heap.get? b=some o→s2.heap.get? b=some o:=by rw[←zg];exact keep
 refine wpAny_bind (kat_kind (s:=s2) (T:=.type "int") (by rw[←zg];exact a4S) (bh rfl) (λv hv=>?_) rfl ?_)
 ·simp only[aE,aD,or_false]at hv;rcases hv with rfl|rfl<;>exact .now
 have hb:(Value.type "int"!=Value.type "tuple")=true:=by decide
 rw[hb];have lt:∀(C:Bool→Shared→Prop),C (decide (i2<i1)) s2→kas_ask pw c.G.w c.A.in1.in1 (tuples' true) vs 1 0 C s2:=λC hC=>by
  unfold kas_ask;rw[←JK];refine kat_lt (Ys _ _ h2) d2 (Ys _ _ h1) d1 ?_;have hz:(#[Value.int i2 t2,Value.int j2 u2].toList.zip #[Value.int i1 t1,Value.int j1 u1].toList)=[(.int i2 t2,.int i1 t1),(.int j2 u2,.int j1 u1)]:=rfl;rw[hz];refine kat_cons (wpAny_eqBool_int ?_);rw[show(i2==i1)=false by rw[beq_eq_false_iff_ne];exact λe=>nF e.symm]
  exact kat_no (show wpAny _ _ (oneLt' true _ _) _ _ _ from oneLt_int hC)
 have out:∀(p:Array Nat),(p=if i2<i1 then#[1,0]else#[0,1])→Y' (p.toList.map λi=>vs.getD i Value.none)=(if i2<i1 then#[Value.ref a2,.ref a1]else#[Value.ref a1,.ref a2]):=λp hp=>by
  rw[hp,←JK];split<;>rfl
 refine wpAny_bind (wpAny_mono (kat_run (ks:=vs) (vs:=vs) (Q:=λst' s'=>s'=s2∧failedOf st'=none∧(arrOf st').map (·.2)=(if i2<i1 then#[Value.ref a2,.ref a1]else#[Value.ref a1,.ref a2]))
  (G:=λp s'=>s'=s2∧(p=if i2<i1 then#[1,0]else#[0,1])) rfl (by lia) (by lia) (λp st' s'' _ har hf hg=>⟨hg.1,hf,by rw[kat_snds rfl har];exact out p hg.2⟩) ?_) ?_ λ_ _ e=>e)
 ·rw[hlen,Jb];refine lt _ ?_;by_cases DK:i2<i1
  ·rw[decide_eq_true DK];exact⟨rfl,by simp[DK]⟩
  ·rw[decide_eq_false DK];exact⟨rfl,by simp[DK]⟩
 rintro⟨⟨⟩,st'⟩ s3 ⟨rfl,hf,hO⟩;dsimp only at hO⊢;refine wpAny_bind (seqEpoch_at ho7 rfl ?_);refine wpAny_bind (listUpdate_at ho7 rfl ?_ (hsz2:=by rw[hO];split<;>(rw[sizeLine_eq];simp)))
 rw[hf];simp only[bne_self_eq_false,zP,if_false];refine wpAny_pure ⟨_,rfl,wpAny_pure ⟨_,rfl,?_⟩⟩;subst zg;subst Me;rw[hO];subst JK;exact h
theorem Kv{d:Addr}{kvs:List (Int×Value)}{Q:Value→Shared→Prop}(hd:s.heap.DictOf (intKind pw c.G.w) d kvs)(lo:(d==sysModules)=false)(hn:kvs.length≤2)
  (h:∀(h':Heap)(tk:Nat)(x:Addr)(k:Nat)(vs:List Value),(∀b o,s.heap.get? b=some o→h'.get? b=some o)→s.heap.get? x=none→h'.get? x=some (cU vs k)→
   IntsAre vs (sortI (kvs.map (·.1)))→Q (.ref x) {s with heap:=h',toks:=tk}):
  Wp c (call (.builtin "sorted") [.ref d]) Q s:=by
 obtain⟨ep,hat⟩:=hd.dictAt;have hsl:=sizeLine_eq;refine Calls.call_function_entry kind_sorted plain_sorted entry_sorted (args_sorted1 _) ?_;unfold Builtin.«sorted»;refine wpAny_bind (m:=checkCount "sorted" 1 1 _) (wpAny_pure ?_);refine wpAny_bind (kdu_collect (A:=c.A.in1) (kdl_dict (knd:=intKind pw c.G.w) (kvs:=kvs) (ep:=ep) lo) c.hr.1 hat (by lia) λh' tk acc hk Qo=>?_)
 have hl:acc.toList.length=kvs.length:=by rw[Mq];exact Qo.1
 have hints:∀(vs:List Value)(ks:List (Int×Value)),vs.length=ks.length→(∀(j:Nat)(v:Value),vs[j]?=some v→∃k x,ks[j]?=some (k,x)∧(intKind pw c.G.w).is k v=true)→IntsAre vs (ks.map (·.1)):=by
  intro vs;induction vs with
  |nil=>intro ks e _;induction ks with
   |nil=>exact .nil
   |cons=>simp at e
  |cons v vs ih=>intro ks e f;induction ks using aF with
   |nil=>simp at e
   |cons k ks=>
    obtain⟨k',x,h1,h2⟩:=f 0 v rfl;simp at h1;subst h1;obtain⟨t,rfl⟩:=Value.isInt_shape h2;exact .cons _ _ (ih ks (by simpa using e) λj w hw=>f (j+1) w hw)
 have hI:=hints acc.toList kvs hl λj v e=>Qo.2 j v (by rw[←JU];exact e)
 refine wpAny_bind (wpAny_newList ?_ (by lia))
 have Xa:(h'.push (seqObj "list" acc.toList.toArray 0)).get? h'.objs.size=some (seqObj "list" acc.toList.toArray 0):=Heap.get?_push_size _ rfl;refine wpAny_bind (wpAny_holding (wpAny_call_entry slot_list_sort ⟨_,Xa,rfl⟩ entry_list_sort (list_sort_tree Xa hI (by lia) λout Q4 a1 a2 a3=>⟨_,rfl,?_⟩) (args_list_sort _)))
 have a1g:s.heap.get? h'.objs.size=none:=by
  induction q:s.heap.get? h'.objs.size with
  |none=>rfl
  |some o=>exact absurd (Heap.lt_size (hk _ _ q)) (zM _)
 refine Cc (sortedHeap_at (vs:=acc.toList) (out:=out) Xa) λe he=>?_;refine wpAny_pure ⟨_,rfl,h _ tk h'.objs.size e out.toList (λb o q=>?_) a1g (by simpa [cU]using he) ?_⟩
 ·have hb:b<h'.objs.size:=Heap.lt_size (hk _ _ q);rw[sortedHeap_old (cb hb) (by rw[size_push'];exact dH hb),Heap.get?_push_ne _ _ _ (cb hb)]
  exact hk _ _ q
 ·rw[←EH (by simpa using hn) a2 a3];exact a1
end
section
variable{c:Cx}{ρ:Loc}{T:aR}{σ:St}{s s':Shared}{Q:bw}{R:Value→Shared→Prop}{v m:MV}{u:Value}{l ms:List MV}{vs us:List Value}{x:Addr}
theorem Kt.sorted{out:Array Value}(k:Kt c ρ T Q R)(F:FI c ρ T σ s)(r:eQ T l out.toList)(hl:l.length≤lim)(q:Mine.Internal.fe l σ Q):R (.ref (s.heap.objs.size+1)) {s with heap:=sortedAll s.heap vs out}:=
 (sortedAll_at s.heap vs out).elim λe he=>k.fe (vs:=out.toList) (n:=e) F r (λ_ _=>sortedAll_old) (Heap.get?_none_of_le (iF _)) he rfl rfl hl q
theorem DR.keys:∀(l:List (Int×MV)){es:List (Int×Value)},DR T l es→l.map (·.1)=es.map (·.1):=by
 intro zl;induction zl with
 |nil=>
  rintro _ h;rw[show _=[]from h];rfl
 |cons p l ih=>
  rintro _ h;obtain⟨v,r,e,_,q⟩:=h;rw[e,dm,dm,ih q]
theorem Hy{l:List Int}(h:l.length≤2):(sortI l).length≤lim:=by
 induction l using aF with
 |nil=>exact cy _
 |cons a l=>induction l using aF with
  |nil=>exact bh rfl
  |cons b l=>induction l using aF with
   |cons c l=>exact a0R h
   |nil=>
    show(ite (b<a) [b,a] [a,b]).length≤_;split<;>exact bh rfl
theorem PC{js:List Int}(F:FI c ρ T σ s)(e:σ x=some (.list (js.map .int)))(hj:js.length≤2)(q:fe ((sortI js).map .int) σ Q)(k:Kt c ρ T Q R):Wp c (call (.builtin "sorted") [.ref x]) R s:=by
 induction F.list e with|mk vs n g r hl=>
 refine sorted_ints ⟨_,g,rfl,_,rfl⟩ (K8 js r) (by rw[←eQ.length _ r,ax];exact bc hj (by decide)) λout Q4 a1 a2 a3=>?_
 rw[EH hj a2 a3]at a1;exact k.sorted F (Df a1) (by rw[ax];exact Hy hj) q
theorem PD{l:List (Int×MV)}(F:FI c ρ T σ s)(e:σ x=some (.dict l))(hl2:l.length≤2)(q:fe ((sortI (l.map (·.1))).map .int) σ Q)(k:Kt c ρ T Q R):Wp c (call (.builtin "sorted") [.ref x]) R s:=by
 induction F.1.obj _ _ e with|mk es hd r=>
 refine Kv hd (F.1.S4 c.W (gH e)) (rwr (DR.length l r) hl2) λh' tk y n vs hk hc hg hi=>?_;rw[←DR.keys l r]at hi;exact k.fe (s':={s with heap:=h',toks:=tk}) F (Df hi) hk hc hg rfl rfl (by rw[ax];exact Hy (by rw[ax];exact hl2)) q
theorem Kw(F:FI c ρ T σ s)(e:σ x=some (.list l))(hp:l.length<2)(q:fe l σ Q)(k:Kt c ρ T Q R):Wp c (call (.builtin "sorted") [.ref x]) R s:=by
 induction F.list e with|mk vs n g r hl=>
 exact MP ⟨_,g,rfl,_,rfl⟩ (rwr (eQ.length _ r) hp) (k.sorted F r hl q)
theorem Sf{p p':Int×Int}(F:FI c ρ T σ s)(e:σ x=some (.list [uC p,uC p']))(nF:p.1≠p'.1)(q:fe ((Oe [p,p']).map uC) σ Q)(k:Kt c ρ T Q R):Wp c (call (.builtin "sorted") [.ref x]) R s:=by
 induction F.list e with|mk vs n g r hl=>
 refine iA r λv1 k1 z=>oe z λe1 ra z=>iA z λv2 k2 z=>oe z λe2 rb e3=>?_;rw[e1,e2,show k2=[]from e3]at g;refine iA ra λa1 w1 z=>oe z λf1 t1 z1=>iA rb λa2 w2 z=>oe z λf2 t2 z2=>?_;rw[f1,f2]at g;rw[f1]at ra;rw[f2]at rb;induction F.tup t1 z1 with|mk us1 n1 d1 sl1 g1 z1=>induction F.tup t2 z2 with|mk us2 n2 d2 sl2 g2 z2=>
 obtain⟨i1,k1,h1,⟨x1,i1'⟩,j1,k1',YR,⟨y1,j1'⟩,a5A⟩:=z1;obtain⟨i2,k2,h2,⟨x2,i2'⟩,j2,k2',h2',⟨y2,j2'⟩,a5z⟩:=z2;rw[h1,YR,show k1'=[]from a5A,i1',j1']at g1;rw[h2,h2',show k2'=[]from a5z,i2',j2']at g2;refine MN ⟨_,g,rfl,_,rfl⟩ g1 rfl rfl g2 rfl rfl nF ?_;have q:fe ((if p'.1<p.1 then[p',p]else[p,p']).map uC) σ Q:=q;by_cases DK:p'.1<p.1
 ·rw[if_pos DK]at q⊢;exact k.sorted F (l:=[uC p',uC p]) ⟨_,_,rfl,rb,.one ra⟩ (show 2≤lim by decide) q
 ·rw[if_neg DK]at q⊢;exact k.sorted F (l:=[uC p,uC p']) ⟨_,_,rfl,ra,.one rb⟩ (show 2≤lim by decide) q
theorem P4(F:FI c ρ T σ s)(rv:VR T v u)(h:Ee v σ Q)(k:Kt c ρ T Q R):Wp c (call (.builtin "sorted") [u]) R s:=
 MV.on.r (P:=λu=>Wp c (call (.builtin "sorted") [u]) R s) rv h λx h=>h.cases
  (λl e h=>h.elim (λh=>h.elim λjs h=>PC F (rwr h.1 e) h.2.1 h.2.2 k) λh=>h.elim λps h=>by
   obtain⟨el,⟨hp,hnd⟩,q⟩:=h;rw[el]at e;induction ps using aF with
   |nil=>exact Kw F e (by decide) q k
   |cons p ps=>induction ps using aF with
    |nil=>exact Kw F e (ij 1) q k
    |cons p' ps=>induction ps using aF with
     |nil=>exact Sf F e (λe=>(dw.mp hnd).1 (aQ.mpr e)) q k
     |cons p'' ps=>exact absurd hp (a4F.mpr (bU (bU (bU (cy _))))))
  (λ_ _ _ h=>h.elim) λl e h=>PD F e h.1 h.2 k
theorem Nh{y:String}(F:FI c ρ T σ s)(rv:eQ T ms us)(h:fF y ms σ Q)(k:Kt c ρ T Q R):Wp c (call (.builtin y) us) R s:=by
 unfold fF at h;induction h1:y=="len"with
 |true=>
  rw[h1]at h;rw[eq_of_beq h1];refine Bp.el (P:=λus=>Wp c (call (.builtin "len") us) R s) rv h λm u r h=>MV.on.r (P:=λu=>Wp c (call (.builtin "len") [u]) R s) r h λa h=>h.l λl e q=>?_;induction F.list e with|mk vs n g r hl=>
  exact call_len_list ⟨_,g,rfl,_,rfl⟩ (gg (cK.mpr (rwl r.sz hl)) (show((lim:Nat):Int)<2^63 by decide)) (k.here (m:=.int l.length) (F.tok _) ⟨_,by rw[r.sz]⟩ q)
 |false=>rw[h1]at h;induction h2:y=="abs"with
  |true=>
   rw[h2]at h;rw[eq_of_beq h2];exact Bp.el (P:=λus=>Wp c (call (.builtin "abs") us) R s) rv h λm u r h=>MV.on.i (P:=λu=>Wp c (call (.builtin "abs") [u]) R s) r h λi t q=>call_abs_int λu tk=>k.here (m:=.int _) (F.tok _) ⟨_,rfl⟩ q
  |false=>rw[h2]at h;induction h3:y=="min"with
   |true=>
    rw[h3]at h;rw[eq_of_beq h3];exact LY.el (P:=λus=>Wp c (call (.builtin "min") us) R s) rv h λm u m' u' r r' h=>pd (op:=λu u'=>call (.builtin "min") [u,u']) r r' h λi j t t' q=>min_two_ints c.hr.1 λh' tk hk=>k.here (m:=.int (if j<i then j else i)) (s:={s with heap:=h',toks:=tk}) (F.ext hk rfl rfl) (by split<;>exact⟨_,rfl⟩) q
   |false=>rw[h3]at h;induction h4:y=="max"with
    |true=>
     rw[h4]at h;rw[eq_of_beq h4];exact LY.el (P:=λus=>Wp c (call (.builtin "max") us) R s) rv h λm u m' u' r r' h=>pd (op:=λu u'=>call (.builtin "max") [u,u']) r r' h λi j t t' q=>max_two_ints c.hr.1 λh' tk hk=>k.here (m:=.int (if i<j then j else i)) (s:={s with heap:=h',toks:=tk}) (F.ext hk rfl rfl) (by split<;>exact⟨_,rfl⟩) q
    |false=>rw[h4]at h;induction h5:y=="isinstance"with
     |true=>
      rw[h5]at h;rw[eq_of_beq h5];refine LY.el (P:=λus=>Wp c (call (.builtin "isinstance") us) R s) rv h λm u m' u' r r' h=>?_;cases m' with
      |ty y=>
       rw[show u'=.type y from r',eq_of_beq h.1];exact MV.on.i (P:=λu=>Wp c (call (.builtin "isinstance") [u,.type "bool"]) R s) r h.2 λi t q=>IsiPair.int_bool (k.here (m:=.bool false) (F.tok _) rfl q)
      |_=>exact absurd h.1 aq
     |false=>rw[h5]at h;induction h6:y=="sorted"with
      |true=>rw[h6]at h;rw[eq_of_beq h6];exact Bp.el (P:=λus=>Wp c (call (.builtin "sorted") us) R s) rv h λm u r h=>P4 F r h k
      |false=>rw[h6]at h;exact h.elim
end
section
variable{c:Cx}{ρ:Loc}{T T':aR}{σ:St}{s s':Shared}{Q:bw}{R:Value→Shared→Prop}{v m f:MV}{u:Value}{l ms vs:List MV}{us:List Value}{x:Addr}
theorem IB(C:Addr)(us:List Value):(Code.builtin "type.__call__" ⟨.ref C::us,[]⟩).weight=1:=by kernel_rfl
theorem Ki(C:Addr)(us:List Value):(Code.builtin "type.__call__" ⟨.ref C::us,[]⟩).cUnits=1:=by kernel_rfl
theorem PX(h:Heap):(h.push emptyDict).Ns1 h.objs.size λ_=>none:=⟨emptyDict,#[],0,Heap.get?_push_size _ rfl,rfl,λe he=>absurd he (Array.not_mem_empty e),by simp[UniqKeys],λ_=>rfl⟩
theorem a0J{C i:Addr}(F:FI c ρ T σ s)(rv:eQ T vs us)(hi:TP C=some i)
  (h:∀a,σ a=none→c.call (.fn i) (.ref a::vs) (upd σ a (.inst C [])) λr av=>r=.none∧Q (.ref a) av) (k:Kt c ρ T Q R):Wp c (call (.ref C) us) R s:=by
 have w:=c.W.ini C i hi;have X:=F.1.Xi c.W;refine wpAny_call (make_core (makes_of X w.1) (looks_findIn X w.2.1) (λself=>bind_fn X self w.2.2.1) (.inl rfl) ?_);have xD:(s.heap.push emptyDict).objs.size=s.heap.objs.size+1:=Heap.size_push ..;have F':=F.take (a:=s.heap.objs.size+1) (mo:=.inst C []) (s':={s with heap:=(s.heap.push emptyDict).push (instObj C s.heap.objs.size)}) (λb o e=>Heap.get?_push_of_some _ (Heap.get?_push_of_some _ e)) (Heap.get?_none_of_le (iF _))
  (QR.mk s.heap.objs.size (λ_=>none) rfl (by rw[←xD];exact Heap.get?_push_size _ rfl) ((PX s.heap).at λo e=>Heap.get?_push_of_some _ e) (λ_=>rfl) (λ_ e=>absurd rfl e) w.2.2.2.1)
  (λC' fs d _ e=>rwr (rW e) (dT _)) rfl rfl
 refine codeAny_mono (c.cs _ _ _ _ (h _ (gS (p:=True) λo h=>(F.1.obj _ _ h).live.elim λ_ z=>ar z (Heap.get?_none_of_le (iF _)))) _ T _ _ (.ref i) (.ref (s.heap.objs.size+1)::us) ⟨c.hr.1,?_,?_⟩ F'.toCall ⟨rfl,w.2.2.2.2.1.mono F.1.base⟩ ⟨_,_,rfl,rfl,rv⟩) λr s' z=>?_
 ·show c.A.depth+(Code.builtin "type.__call__" ⟨.ref C::us,[]⟩).weight+4*c.n≤600;rw[IB,kM];exact l5 c.hr.2.1
 ·show c.A.units+(Code.builtin "type.__call__" ⟨.ref C::us,[]⟩).cUnits+30*c.n≤6000;rw[Ki,kM];exact ah (c9 (by decide) _) c.hr.2.2
 ·induction z with|mk v T' m av e t rr I q=>
  rw[e,show v=.none from(q.1▸rr:VR T' .none v)];exact⟨rfl,k T' (.ref _) _ av s' t rfl (F'.called t I) q.2⟩
noncomputable abbrev xq(G:GC)(T:aR)(u:Value):Prop:=∀h:Heap,T.le h.get?→∃k,(k=Keeper.frame∨k=Keeper.machine∨k=Keeper.boundFrame)∧Looks (model pw G.w) h (keeperOf u) k
theorem OI{G:GC}{a:Addr}{o:Obj}{fd:FuncData}(h1:T a=some o)(h2:o.data=.func fd):xq G T (.ref a):=λh ht=>by
 induction o with|mk cls d da sl=>exact⟨.frame,.inl rfl,(Looks.ld (part:=none) (ht _ _ h1)).andThen (by rw[show da=_ from h2];exact .now)⟩
theorem HN{G:GC}{a:Addr}(h:FnAt T a):xq G T (.ref a):=h.elim λo h=>h.elim λfd h=>OI h.1 h.2
theorem OJ{G:GC}(x:String):xq G T (.builtin x):=λ_ _=>⟨.machine,.inr (.inl rfl),.now⟩
theorem W1{G:GC}(x:String):xq G T (.type x):=λ_ _=>⟨.machine,.inr (.inl rfl),.now⟩
theorem TC{G:GC}{C:Addr}(W:Y6 G)(hT:G.T0.le T)(h:keepIn G.K (.ref C)=true):xq G T (.ref C):=λhp ht=>keeps_K h hp λa o e=>ht _ _ (hT _ _ (W.kin a o e))
theorem Ng(F:FI c ρ T σ s)(rf:VR T f u)(h:Aj c.X f vs σ Q):xq c.G T u:=by
 induction f using MV.casesOn with
 |bi x=>rw[show u=.builtin x from rf.1];exact OJ x
 |ty x=>rw[show u=.type x from rf];exact W1 x
 |cls C=>rw[show u=.ref C from rf];exact gv.cases h λi hi _=>TC c.W F.1.base (c.W.ini C i hi).2.2.2.2.2
 |fn a=>rw[show u=.ref a from rf.1];exact HN rf.2
 |Fw ps b ns ms=>exact rf.elim λa r=>r.elim λo r=>r.elim λfd r=>r.elim λcs r=>r.elim λvs r=>by rw[r.1];exact OI r.2.1 r.2.2.1
 |_=>exact h.elim
theorem WV(F:FI c ρ T σ s)(rf:VR T f u)(rv:eQ T vs us)(h:Aj c.X f vs σ Q)(k:Kt c ρ T Q R):Wp c (call u us) R s:=by
 induction f using MV.casesOn with
 |bi x=>rw[show u=.builtin x from rf.1];exact Nh F rv h k
 |ty x=>rw[show u=.type x from rf];exact WU F rv h k
 |cls C=>rw[show u=.ref C from rf];exact gv.cases h λi hi h=>a0J F rv hi h k
 |fn a=>exact zj F rf rv (c.cs _ _ _ _ h) k
 |Fw ps b ns ms=>exact zj F rf rv (c.cs _ _ _ _ h) k
 |_=>exact h.elim
end
section
variable{c:Cx}{ρ:Loc}{T T':aR}{σ:St}{s s':Shared}{Q:bw}{R:Value→Shared→Prop}{v m:MV}{u:Value}{l l' ms:List MV}{vs us ws:List Value}{x:Addr}
theorem pT{y:Str}{id:String}{pl:Sem Bool}{R:Value×List Value→Shared→Prop}{n:Nat}(ho:s.heap.get? x=some (cU vs n))
  (hl:typeLookup (.type "list") y=pure (some (.builtin id))) (ht:typeOf (.builtin id)=pure (.type "method_descriptor")) (h:R (.builtin id,[.ref x]) s):Wp c (getMethod (.ref x) y pl) R s:=by
 have hT:s.TypeIs (.ref x) "list":=⟨_,ho,rfl⟩;refine wpAny_bind (wpAny_specialOf hT list_getattribute ?_);show wpAny _ _ (if(Manifest.canonical "list.__getattribute__"!="object.__getattribute__")=true then _ else _) _ _ _;rw[canon_list_getattribute,if_neg aq];exact wpAny_bind (wpAny_specialOf hT list_getattr_none (wpAny_bind (wpAny_specialOf hT hl (wpAny_bind (wpAny_of_eq ht (wpAny_bind (wpAny_load ho (wpAny_bind (wpAny_rule (wpAny_pure h))))))))))
inductive Found (T:aR):Way→Value→List Value→Prop
 |fn {f a:Addr} (h:FnAt T f):Found T (.fn f (.ref a)) (.ref f) [.ref a]
 |app (a:Addr):Found T (.app a) (.builtin "list.append") [.ref a]
 |ext (a:Addr):Found T (.ext a) (.builtin "list.extend") [.ref a]
 |pop (a:Addr):Found T (.pop a) (.builtin "list.pop") [.ref a]
theorem Sj{a b:Str}(h:sm a b=true):a=b:=eJ λn=>aq ((Kx n).symm.trans h)
theorem a3p{y:Str}{K:Way→Prop}{pl:Sem Bool}{R:Value×List Value→Shared→Prop}(F:FI c ρ T σ s)(e:σ x=some (.list l))(h:Nj y x K)(k:∀w f first,Found T w f first→K w→R (f,first) s):Wp c (getMethod (.ref x) y pl) R s:=by
 unfold Nj at h;induction F.list e with|mk ws n g r hl=>
 induction h1:sm y "append"with
 |true=>rw[h1]at h;rw[Sj h1];exact pT g JG.lookup type_list_append (k _ _ _ (.app x) h)
 |false=>rw[h1]at h;induction h2:sm y "extend"with
  |true=>rw[h2]at h;rw[Sj h2];exact pT g Gk.lookup PySem.F.type_list_extend (k _ _ _ (.ext x) h)
  |false=>rw[h2]at h;induction h3:sm y "pop"with
   |true=>rw[h3]at h;rw[Sj h3];exact pT g H9.lookup PySem.F.type_list_pop (k _ _ _ (.pop x) h)
   |false=>rw[h3]at h;exact h.elim
theorem a0K{y:Str}{K:Way→Prop}{pl:Sem Bool}{R:Value×List Value→Shared→Prop}(F:FI c ρ T σ s)(rv:VR T v u)(h:WT (c.X) v y σ K)(k:∀w f first,Found T w f first→K w→R (f,first) s):Wp c (getMethod u y pl) R s:=
 MV.on.r (P:=λu=>Wp c (getMethod u y pl) R s) rv h λx h=>look.cases h (λl e h=>by refine a3p F e ?_ k;assumption)
  (λC fs e h=>gv.cases h λf hf h=>by
   induction(F.1.obj _ _ e:QR ..)with|mk d m ea e1 ns g1 g2 ck=>
   refine(B5 e1 ns).elim λo z=>?_;have ok:=wN ck;have w:=c.W.mth C y f hf;have hm:m y=none:=by
    have:=g1 y;induction q:cc fs y with
    |none=>rw[q]at this;exact this
    |some v=>exact absurd (g2 y (gH q)) w.2.2.1
   exact method_fn (F.1.Xi c.W) z.1 ok.gat ok.gta w.1 w.2.1 (by show(lookIn y o).map _=_;rw[z.2,hm];rfl) (k _ _ _ (.fn (w.2.2.2.mono F.1.base)) h)) λ_ _ h=>h.elim
end
section
variable{c:Cx}{ρ:Loc}{T T':aR}{σ:St}{s s':Shared}{Q:bw}{R:Value→Shared→Prop}{v m:MV}{u:Value}{l l' ms:List MV}{vs us ws:List Value}{x:Addr}
theorem last_eq{l:List MV}{m:MV}(h:l.getLast?=some m):l=l.dropLast++[m]:=by
 have nF:l≠[]:=λe=>by rw[e]at h;exact ar h rfl
 rw[List.getLast?_eq_some_getLast nF]at h;rw[←aA h];exact(List.dropLast_concat_getLast nF).symm
theorem eQ.snoc:∀(l:List MV){vs:List Value},eQ T (l++[m]) vs→∃us v,vs=us++[v]∧eQ T l us∧VR T m v:=by
 intro zl;induction zl with
 |nil=>
  rintro _ r;obtain⟨v,k,e,p,q⟩:=r;exact⟨[],v,by rw[e,show k=[]from q];rfl,rfl,p⟩
 |cons _ l ih=>
  rintro _ r;obtain⟨v,k,e,p,q⟩:=r;obtain⟨us,w,e',p',q'⟩:=ih q;exact⟨v::us,w,by rw[e,e'];rfl,⟨v,us,rfl,p,p'⟩,q'⟩
theorem a4v(F:FI c ρ T σ s)(e:σ x=some (.list l))(rv:VR T m u)(hl':l.length<lim)(q:Q .none (upd σ x (.list (l++[m]))))(k:Kt c ρ T Q R):Wp c (call (.builtin "list.append") [.ref x,u]) R s:=by
 induction F.list e with|mk ws n g r hl=>
 refine call_meets JG ⟨_,g,rfl⟩ PySem.entry_list_append (PySem.args_list_append _ _) (list_append x ws.toArray n u ?_) ⟨g,?_⟩
 ·rw[r.sz];exact ah hl eN
 ·exact k.here (m:=.none) (F.So e g (us:=ws++[u]) (by rw[←List.push_toArray]) (eQ.append (.one rv) _ r) (by rw[aa];exact hl')) rfl q
theorem a4b{b:Addr}(F:FI c ρ T σ s)(e:σ x=some (.list l))(e':σ b=some (.list l'))(h:l.length+l'.length≤lim)(q:Q .none (upd σ x (.list (l++l'))))(k:Kt c ρ T Q R):Wp c (call (.builtin "list.extend") [.ref x,.ref b]) R s:=by
 induction F.list e with|mk ws n g r hl=>induction F.list e' with|mk us n' g' r' hl'=>
 refine call_meets Gk ⟨_,g,rfl⟩ PySem.F.entry_list_extend (PySem.F.args_list_extend_2 _ _) (AutoSeq1.list_extend_list_list_0 x ws.toArray n b us.toArray n' ?_ ?_ ?_) ⟨g,g',?_⟩
 ·rw[r.sz,r'.sz];exact λe=>E2 h (ao.mp e).2
 ·rw[r.sz];exact ah hl eN
 ·rw[r.sz,r'.sz];exact ji (ah h eN)
 ·exact k.here (m:=.none) (F.So e g (us:=ws++us) (N0 ..) (eQ.append r' _ r) (by rw[aa];exact h)) rfl q
theorem a23(F:FI c ρ T σ s)(e:σ x=some (.list l))(hv:l.getLast?=some m)(q:Q m (upd σ x (.list l.dropLast)))(k:Kt c ρ T Q R):Wp c (call (.builtin "list.pop") [.ref x]) R s:=by
 induction F.list e with|mk ws n g r hl=>
 have hd:=last_eq hv;have hle:l.dropLast.length≤lim:=ah (List.dropLast_sublist l).length_le hl;rw[hd]at r hl;refine iA (eQ.snoc _ r) λus w zh=>oe zh λew ru Q3=>?_;rw[ew]at g r;refine call_meets H9 ⟨_,g,rfl⟩ PySem.F.entry_list_pop (PySem.F.args_list_pop_1 _) (MeetsSeq.list_pop_last x (us++[w]).toArray n w ?_ ?_) ⟨g,?_⟩
 ·simp
 ·rw[r.sz];exact ah hl eN
 ·exact k.here (F.So e g (us:=us) (by simp[List.eraseIdx_append_of_length_le]) ru hle) Q3 q
theorem a3n{w:Way}{f:Value}{first:List Value}{vs:List MV}(F:FI c ρ T' σ s)(hT:T.le T')(hw:Found T w f first)(rv:eQ T' vs us)(h:P6 c.X w vs σ Q)(k:Kt c ρ T' Q R):Wp c (call f (first++us)) R s:=by
 induction hw with
 |fn hf=>exact zj F (show VR T' (.fn _) _ from⟨rfl,hf.mono hT⟩) (show eQ T' (.ref _::vs) _ from⟨_,_,rfl,rfl,rv⟩) (c.cs _ _ _ _ h) k
 |app a=>exact look.l h λl e h=>Bp.el (P:=λus=>Wp c (call (.builtin "list.append") ([.ref a]++us)) R s) rv h λm u r h=>a4v F e r h.1 h.2 k
 |ext a=>exact look.l h λl e h=>Bp.el (P:=λus=>Wp c (call (.builtin "list.extend") ([.ref a]++us)) R s) rv h λm u r h=>MV.on.r (P:=λu=>Wp c (call (.builtin "list.extend") [.ref a,u]) R s) r h λb h=>h.l λl' e' h=>a4b F e e' h.1.1 h.2 k
 |pop a=>
  refine look.l h λl e h=>gv.cases h.2 λm hm q=>?_;rw[h.1]at rv;rw[show us=[]from rv];exact a23 F e hm q k
end
noncomputable def Kq(c:Cx)(ρ:Loc)(T:aR)(Q:Bool→St→Prop)(R:Bool→Shared→Prop):Prop:=∀T' b av s',T.le T'→FI c ρ T' av s'→Q b av→R b s'
noncomputable def Ka(c:Cx)(ρ:Loc)(T:aR)(Q:List MV→St→Prop)(R:List Value→Shared→Prop):Prop:=∀T' ms vs av s',T.le T'→eQ T' ms vs→FI c ρ T' av s'→Q ms av→R vs s'
noncomputable def Ex(c:Cx)(ρ:Loc)(t:Sem Value)(f:St→bw→Prop):Prop:=∀{T σ s Q R},FI c ρ T σ s→f σ Q→Kt c ρ T Q R→Wp c t R s
noncomputable def Tx(c:Cx)(ρ:Loc)(t:Sem Bool)(f:St→(Bool→St→Prop)→Prop):Prop:=∀{T σ s Q R},FI c ρ T σ s→f σ Q→Kq c ρ T Q R→Wp c t R s
noncomputable def Ax(c:Cx)(ρ:Loc)(t:Sem (List Value))(f:St→(List MV→St→Prop)→Prop):Prop:=∀{T σ s Q R},FI c ρ T σ s→f σ Q→Ka c ρ T Q R→Wp c t R s
noncomputable def Cx.me(c:Cx)(e:Expr):Wr:=(w c.X (nE c.env.scope.names e)).1
noncomputable def Cx.ml(c:Cx)(l:List Expr):List Wr:=(w c.X (nA c.env.scope.names l)).2
structure xp(e:Expr):Prop where
 se:∀c ρ,Ex c ρ (eval e c.env) ((c.me e).e ρ)
 st:∀c ρ,Tx c ρ (isTrue e c.env (eval e c.env)) ((c.me e).t ρ)
 sc:∀c ρ(l:List Expr)(pos:Pos)(fs:List Wr),l.length<20→noStar l=true→(e.pos.endLine==pos.line)=true→(∀pos,Ax c ρ (spliced (backTo pos (starEach l c.env))) (aW fs ρ))→Ex c ρ (eval (.Call e l [] pos) c.env) λσ Q=>(c.me e).c ρ σ λwy aO=>aW fs ρ aO λvs b0=>P6 c.X wy vs b0 Q
section
variable{c:Cx}{ρ:Loc}{T T':aR}{σ:St}{s:Shared}{e a b t:Expr}{pos:Pos}
theorem Kq.up{Q:Bool→St→Prop}{R:Bool→Shared→Prop}(k:Kq c ρ T Q R)(h:T.le T'):Kq c ρ T' Q R:=λNU b aO BC t=>k NU b aO BC (h.trans t)
theorem Kq.here{Q:Bool→St→Prop}{R:Bool→Shared→Prop}{b:Bool}(k:Kq c ρ T Q R)(F:FI c ρ T σ s)(q:Q b σ):R b s:=k T b σ s (.refl T) F q
theorem Vv{op:Operator}(ha:xp a)(hb:xp b):Ex c ρ (eval (.BinOp a op b pos) c.env) λσ Q=>(c.me a).e ρ σ λu aO=>(c.me b).e ρ aO λv b0=>BY op u v b0 Q:=λF h k=>
 wpAny_BinOp (ha.se c ρ F h λT1 m v dE s1 t1 r1 F1 q1=>hb.se c ρ F1 q1 λT2 m2 v2 dp s2 t2 r2 F2 q2=>a0N F2 (r1.up t2) r2 q2 (k.up (t1.trans t2)))
theorem Vu(ht:xp t)(ha:xp a)(hb:xp b):Ex c ρ (eval (.IfExp t a b pos) c.env) λσ Q=>(c.me t).t ρ σ λz aO=>br z ((c.me a).e ρ aO Q) ((c.me b).e ρ aO Q):=λF h k=>
 wpAny_IfExp (ht.st c ρ F h λT1 z dE s1 t1 F1 q1=>by
  induction z with
  |true=>exact ha.se c ρ F1 q1 (k.up t1)
  |false=>exact hb.se c ρ F1 q1 (k.up t1))
theorem VT(ht:xp t)(ha:xp a)(hb:xp b):Tx c ρ (isTrue (.IfExp t a b pos) c.env (eval (.IfExp t a b pos) c.env)) λσ Q=>(c.me t).t ρ σ λz aO=>br z ((c.me a).t ρ aO Q) ((c.me b).t ρ aO Q):=λF h k=>
 wpAny_bind (ht.st c ρ F h λT1 z dE s1 t1 F1 q1=>by
  induction z with
  |true=>exact ha.st c ρ F1 q1 (k.up t1)
  |false=>exact hb.st c ρ F1 q1 (k.up t1))
theorem Ph{o:Expr}(h:isCall o=false){x:Str}{env:Env}{w:Sem Value}:attributeBase o x env w=w:=by
 cases o<;>first|rfl|skip
 rename_i f l ks p
 induction l using aF with
 |nil=>cases h
 |cons a l=>cases f<;>rfl
theorem Ry{o:Expr}{x:Str}(hn:isCall o=false)(ho:xp o):Ex c ρ (eval (.Attribute o x pos) c.env) λσ Q=>(c.me o).e ρ σ λv aO=>K3 v x aO Q:=λ{T σ s Q R}F h k=>by
 rw[arm_eval_Attribute,Ph hn];exact wpAny_bind (ho.se c ρ F h λT1 m v dE s1 t1 r1 F1 q1=>wpAny_bind (wpAny_standAt (wpAny_bind (wpAny_holding (Qs F1 r1 q1 λT2 m2 v2 dp s2 t2 r2 F2 q2=>
  wpAny_bind (wpAny_letTemporaryGo (wpAny_pure (k T2 m2 v2 dp s2 (t1.trans t2) r2 F2 q2))))))))
theorem a2m{o i:Expr}(ho:xp o)(hi:xp i):Ex c ρ (eval (.Subscript o i pos) c.env) λσ Q=>(c.me o).e ρ σ λv aO=>(c.me i).e ρ aO λk b0=>l8 v k b0 Q:=λF h k=>
 Subscript_ (ho.se c ρ F h λT1 m v dE s1 t1 r1 F1 q1=>hi.se c ρ F1 q1 λT2 m2 v2 dp s2 t2 r2 F2 q2=>Se (Qr F2 (r1.up t2) r2 q2 (k.up (t1.trans t2))))
theorem a2p{k:Const}{n:Nat}:Ex c ρ (eval (.Constant k n pos) c.env) λσ Q=>gv (a4i k) λv=>Q v σ:=λ{T σ s Q R}F h kt=>by
 induction k with
 |none=>exact wpAny_Constant_none (kt.here (m:=.none) F rfl h)
 |bool b=>exact wpAny_Constant_bool (kt.here (m:=.bool b) F rfl h)
 |int i=>exact wpAny_Constant_int (kt.here (m:=.int i) (F.tok _) ⟨_,rfl⟩ h)
 |str x=>exact wpAny_Constant_str (kt.here (m:=.str x) (F.tok _) ⟨_,rfl⟩ h)
 |_=>exact h.elim
theorem Yh{x:Addr}{o:Obj}{es:Array DictEntry}{ep:Nat}(h:s.heap.get? x=some o)(hd:o.data=.dict es ep)(hk:StrKeys es):s.heap.Ns x (nsFind es):=⟨o,es,ep,h,hd,hk,λ_=>rfl⟩
theorem Qq{x:Str}{v:MV}{Q:bw}{R:Value→Shared→Prop}(F:FI c ρ T σ s)(hv:Uc x=some v)(h:Q v σ)(k:Kt c ρ T Q R):Wp c (loadGlobal c.env x) R s:=by
 induction c.W.Ua with|mk o es ep e d kk g=>induction g with|mk o' es' ep' e' d' kk' g=>
 have N1:s.heap.Ns c.env.globals (nsFind es):=rwl c.gl (Yh (F.1.t _ _ (F.1.base _ _ e)) d kk);exact(g x v hv).elim (λy=>y.elim λu y=>loadGlobal_global N1 y.1 (k.here F (y.2.up F.1.base) h)) λy=>y.2.elim λu z=>loadGlobal_builtin N1 y.1 (rwl c.bi (Yh (F.1.t _ _ (F.1.base _ _ e')) d' kk')) z.1 (k.here F (z.2.up F.1.base) h)
structure OkN(ns:aK)(x:Str):Prop where
 n:ns.lookup x≠none
 d:(x==("__debug__":Str))=false
 c:(x==("__classdict__":Str))=false
theorem PR{ns:aK}{x:Str}(h:okN ns x=true):OkN ns x:=
 have h1:=ao.mp h;have h2:=ao.mp h1.1
 ⟨λe=>by have:=h2.1;rw[e]at this;exact aq this,(bu _).mp h2.2,(bu _).mp h1.2⟩
theorem Zh{x:Str}(hn:okN c.env.scope.names x=true):Ex c ρ (eval (.Name x pos) c.env) λσ Q=>nmW (c.X) x ρ λv=>Q v σ:=λ{T σ s Q R}F h k=>by
 have ok:=PR hn;refine wpAny_Name ?_ ok.d;refine F.2.ns.elim λm z=>?_;have sx:=z.2 x;unfold nmW at h;induction e:cc ρ x with
 |some ov=>
  rw[e]at h sx;refine gv.cases h λv ev h=>?_;rw[ev]at sx;rcases sx with⟨a,u,hu,r⟩|⟨a,y,⟨hy,cv,TY,u,ecv,r⟩⟩
  ·exact wpAny_loadName_local c.kind a z.1 hu (k.here F r h)
  ·rw[ecv]at TY;exact a.elim (λa=>wpAny_loadName_cell c.kind a hy TY (k.here F r h)) λa=>wpAny_loadName_free c.kind a hy TY (k.here F r h) ok.c
 |none=>
  rw[e]at h sx;refine gv.cases h λv hv h=>?_;have hl:loadName c.env x=loadGlobal c.env x:=by
   induction hk:c.env.kindOf x with
   |none=>exact absurd hk ok.n
   |some kd=>induction kd with
    |globalImplicit=>exact loadName_read c.kind hk
    |globalExplicit=>exact loadName_declared c.kind hk
    |«local»=>exact absurd hk sx.1
    |cell=>exact absurd hk sx.2.1
    |free=>exact absurd hk sx.2.2
  rw[hl];exact Qq F hv h k
end
noncomputable def JE(l:List Expr):Prop:=∀e∈l,xp e
section
variable{c:Cx}{ρ:Loc}{T T':aR}{σ:St}{s:Shared}{e a b t:Expr}{pos:Pos}{l:List Expr}
theorem JE.hd(h:JE (e::l)):xp e:=h e (.head _)
theorem JE.tl(h:JE (e::l)):JE l:=λa m=>h a (.tail _ m)
theorem a2k{op:BoolOp}(l:List Expr)(o:JE l):Ex c ρ (boolOp pos op (evalEach l c.env)) (boW (!OL op) (c.ml l) ρ):=by
 induction l with
 |nil=>exact λ_ h _=>h.elim
 |cons e l ih=>induction l using aF with
  |nil=>exact o.hd.se c ρ
  |cons e2 r=>
   refine λF h k=>wpAny_bind (o.hd.se c ρ F h λT1 m v dE s1 t1 r1 F1 q1=>wpAny_bind (wpAny_standAt (wpAny_bind (wpAny_holding (E6 r1 q1 λz q=>?_)))));cases op<;>cases z<;>first|exact wpAny_pure (k T1 m v dE s1 t1 r1 F1 q)|exact ih o.tl F1 q (k.up t1)
theorem a2D{op:BoolOp}(l:List Expr)(o:JE l):Tx c ρ (allTrue op l c.env) (btW (!OL op) (c.ml l) ρ):=by
 induction l with
 |nil=>exact λF h k=>wpAny_pure (by cases op<;>exact k.here F h)
 |cons e r ih=>
  refine λF h k=>wpAny_bind (o.hd.st c ρ F h λT1 z dE s1 t1 F1 q1=>?_);cases op<;>cases z<;>first|exact wpAny_pure (k T1 _ dE s1 t1 F1 q1)|exact ih o.tl F1 q1 (k.up t1)
theorem Ka.cons{Q:List MV→St→Prop}{R:List Value→Shared→Prop}{m:MV}{v:Value}(k:Ka c ρ T Q R)(t:T.le T')(r:VR T' m v):Ka c ρ T' (λms σ=>Q (m::ms) σ) λvs s=>R (v::vs) s:=
 λT1 ms vs dE s1 t1 r1 F q=>k T1 (m::ms) (v::vs) dE s1 (t.trans t1) ⟨v,vs,rfl,r.up t1,r1⟩ F q
theorem Ku(h:a9 e.ctorIdx 22=false)(r:List Expr)(env:Env):starEach (e::r) env=(false,eval e env)::starEach r env:=by cases e<;>first|rfl|exact nomatch h
theorem gJ(h:noStar (e::l)=true):a9 e.ctorIdx 22=false∧noStar l=true:=
 have h:=ao.mp (Ih.symm.trans h)
 ⟨(bu _).mp h.1,h.2⟩
theorem Mz(l:List Expr)(o:JE l)(n:noStar l=true)(pos:Pos):Ax c ρ (spliced (backTo pos (starEach l c.env))) (aW (c.ml l) ρ):=by
 induction l with
 |nil=>exact λF h k=>wpAny_items_nil (k _ [] [] _ _ (.refl _) rfl F h)
 |cons e r ih=>exact λF h k=>wpAny_items_cons (o.hd.se c ρ F h λT1 m v dE s1 t1 r1 F1 q1=>ih o.tl (gJ n).2 F1 q1 (k.cons t1 r1)) (Ku (gJ n).1 r c.env)
end
section
variable{c:Cx}{ρ:Loc}{T T':aR}{σ:St}{s:Shared}{e a b t:Expr}{pos:Pos}{l:List Expr}
theorem a4Q(ops:List CmpOp):∀(l:List Expr),JE l→∀{T σ s m u}{Q:Bool→St→Prop}{R:Value→Shared→Prop},FI c ρ T σ s→VR T m u→YW (c.X) m ops (c.ml l) ρ σ Q→
  (∀T' b av s',T.le T'→FI c ρ T' av s'→Q b av→R (.bool b) s')→Wp c (compareChain pos u ops (evalEach l c.env)) R s:=by
 induction ops with
 |nil=>intro l o T σ s m u Q R F ru h k;exact h.elim
 |cons op os ih=>
  intro l o T σ s m u Q R F ru h k;induction l using aF with
  |nil=>exact h.elim
  |cons e r=>induction os using aF with
   |nil=>induction r using aF with
    |nil=>exact wpAny_bind (wpAny_holding (o.hd.se c ρ F h λT1 m v dE s1 t1 r1 F1 q1=>wpAny_bind (wpAny_standAt (wpAny_operate' (BX F1 (ru.up t1) r1 q1 λb t q=>k T1 b dE _ t1 (F1.tok t) q)))))
    |cons e2 r=>exact wpAny_bind (wpAny_holding (o.hd.se c ρ F h λT1 m v dE s1 t1 r1 F1 q1=>wpAny_bind (wpAny_standAt (wpAny_bind (wpAny_holding (BX F1 (ru.up t1) r1 q1 λb t q=>q.elim))))))
   |cons op2 os=>
    refine wpAny_bind (wpAny_holding (o.hd.se c ρ F h λT1 m v dE s1 t1 r1 F1 q1=>wpAny_bind (wpAny_standAt (wpAny_bind (wpAny_holding (BX F1 (ru.up t1) r1 q1 λb t q=>wpAny_bind (wpAny_release' (wpAny_bind (wpAny_holding (wpAny_truthy_bool ?_))))))))));induction b with
    |true=>exact ih r o.tl (F1.tok t) r1 q λT' b av s' t'=>k T' b av s' (t1.trans t')
    |false=>exact wpAny_pure (k T1 false dE _ t1 (F1.tok t) q)
theorem a4U(ops:List CmpOp):∀(l:List Expr),JE l→∀{T σ s m u}{Q:Bool→St→Prop}{R:Bool→Shared→Prop},FI c ρ T σ s→VR T m u→YW (c.X) m ops (c.ml l) ρ σ Q→Kq c ρ T Q R→Wp c (testChain pos u ops (evalEach l c.env)) R s:=by
 induction ops with
 |nil=>intro l o T σ s m u Q R F ru h k;exact h.elim
 |cons op os ih=>
  intro l o T σ s m u Q R F ru h k;induction l using aF with
  |nil=>exact h.elim
  |cons e r=>induction os using aF with
   |nil=>induction r using aF with
    |nil=>exact wpAny_bind (wpAny_holding (o.hd.se c ρ F h λT1 m v dE s1 t1 r1 F1 q1=>wpAny_bind (wpAny_standAt (wpAny_bind (wpAny_operate' (BX F1 (ru.up t1) r1 q1 λb t q=>wpAny_holding (wpAny_truthy_bool (k T1 b dE _ t1 (F1.tok t) q))))))))
    |cons e2 r=>exact wpAny_bind (wpAny_holding (o.hd.se c ρ F h λT1 m v dE s1 t1 r1 F1 q1=>wpAny_bind (wpAny_standAt (wpAny_bind (wpAny_holding (BX F1 (ru.up t1) r1 q1 λb t q=>q.elim))))))
   |cons op2 os=>
    refine wpAny_bind (wpAny_holding (o.hd.se c ρ F h λT1 m v dE s1 t1 r1 F1 q1=>wpAny_bind (wpAny_standAt (wpAny_bind (wpAny_holding (BX F1 (ru.up t1) r1 q1 λb t q=>wpAny_bind (wpAny_release' (wpAny_bind (wpAny_holding (wpAny_truthy_bool ?_))))))))));induction b with
    |true=>exact ih r o.tl (F1.tok t) r1 q (k.up t1)
    |false=>exact wpAny_pure (k T1 false dE _ t1 (F1.tok t) q)
end
section
variable{c:Cx}{ρ:Loc}{T T':aR}{σ:St}{s:Shared}{e a b t:Expr}{pos:Pos}{l:List Expr}
theorem a2q{ops:List CmpOp}(hm:lastMarks ops l=false)(ha:xp a)(hl:JE l):Ex c ρ (eval (.Compare a ops l pos) c.env) λσ Q=>(c.me a).e ρ σ λu aO=>YW (c.X) u ops (c.ml l) ρ aO λb b0=>Q (.bool b) b0:=λF h k=>by
 rw[arm_eval_Compare,markedEach_of_false _ _ _ hm];exact wpAny_bind (ha.se c ρ F h λT1 m v dE s1 t1 r1 F1 q1=>a4Q ops l hl F1 r1 q1 λT' b av s' t' F' q=>k T' (.bool b) _ av s' (t1.trans t') rfl F' q)
theorem a2I{ops:List CmpOp}{wh:Sem Value}(hm:lastMarks ops l=false)(ha:xp a)(hl:JE l):Tx c ρ (isTrue (.Compare a ops l pos) c.env wh) λσ Q=>(c.me a).e ρ σ λu aO=>YW (c.X) u ops (c.ml l) ρ aO Q:=λF h k=>by
 rw[arm_isTrue_Compare,markedEach_of_false _ _ _ hm];exact wpAny_bind (ha.se c ρ F h λT1 m v dE s1 t1 r1 F1 q1=>a4U ops l hl F1 r1 q1 (k.up t1))
theorem Zg{op:UnaryOp}(ha:xp a):Ex c ρ (eval (.UnaryOp op a pos) c.env) λσ Q=>(c.me a).e ρ σ λu aO=>mUn op u aO Q:=λF h k=>wpAny_UnaryOp (ha.se c ρ F h λT1 m v dE s1 t1 r1 F1 q1=>a3l F1 r1 q1 (k.up t1))
theorem a2G{wh:Sem Value}(ha:xp a):Tx c ρ (isTrue (.UnaryOp .Not a pos) c.env wh) λσ Q=>(c.me a).t ρ σ λb aO=>Q (!b) aO:=λF h k=>wpAny_isTrue_Not (ha.st c ρ F h λT1 b dE s1 t1 F1 q1=>k T1 (!b) dE s1 t1 F1 q1)
theorem Zi(hn:noStar l=true)(hl:JE l):Ex c ρ (eval (.List l pos) c.env) λσ Q=>aW (c.ml l) ρ σ λvs aO=>vs.length≤lim∧fe vs aO Q:=λF h k=>wpAny_List (Mz l hl hn pos F h λT1 ms vs dE s1 t1 r1 F1 q1=>
 ⟨rwr (eQ.length _ r1) (ah q1.1 eN),(k.up t1).fe (s':={s1 with heap:=s1.heap.push {cls:=.type "list",data:=.seq vs.toArray}}) F1 r1 (λb o e=>Heap.get?_push_of_some _ e) (dT _) (Heap.get?_push_size _ rfl) rfl rfl q1.1 q1.2⟩)
theorem a2l{n:Nat}(hn:noStar l=true)(hl:JE l):Ex c ρ (eval (.Tuple l n pos) c.env) λσ Q=>aW (c.ml l) ρ σ λvs aO=>vs.length≤lim∧Q (.tup vs) aO:=λF h k=>wpAny_Tuple (Mz l hl hn pos F h λT1 ms vs dE s1 t1 r1 F1 q1=>
 ⟨rwr (eQ.length _ r1) (ah q1.1 eN),(k.up t1).a3b F1 r1 q1.2⟩)
theorem Zj:Ex c ρ (eval (.Dict [] [] pos) c.env) λσ Q=>∀y,σ y=none→Q (.ref y) (upd σ y (.dict [])):=λ{T σ s Q R}F h k=>by
 refine wpAny_Dict_empty ?_;exact k.here (m:=.ref _) (F.take (a:=s.heap.objs.size) (mo:=.dict []) (s':={s with heap:=s.heap.push {cls:=.type "dict",data:=.dict #[]}}) (λb o e=>Heap.get?_push_of_some _ e) (dT _) (a1N.mk [] (Heap.DictOf.new (knd:=intKind pw c.G.w) s.heap) rfl) (λ_ _ _ h=>MO.noConfusion h) rfl rfl) rfl (h _ (gS (p:=True) λo h=>(F.1.obj _ _ h).live.elim λ_ z=>ar z (dT _)))
noncomputable def Cx.mo(c:Cx)(o:Option Expr):Wr:=(w c.X (nO c.env.scope.names o)).1
noncomputable def OkO:Option Expr→Prop
 |none=>True
 |some e=>xp e
theorem Rw:∀o:Option Expr,OkO o→Ex c ρ (evalPart o c.env) ((c.mo o).e ρ)
 |none,_=>λF h k=>wpAny_pure (k.here (m:=.none) F rfl h)
 |some e,o=>o.se c ρ
theorem Vt{lo hi:Option Expr}(hl:OkO lo)(hh:OkO hi):Ex c ρ (eval (.Slice lo hi none pos) c.env) λσ Q=>(c.mo lo).e ρ σ λi aO=>(c.mo hi).e ρ aO λj b0=>Q (.MR i j) b0:=λF h k=>
 wpAny_Slice (Rw lo hl F h λT1 m v dE s1 t1 r1 F1 q1=>Rw hi hh F1 q1 λT2 m2 v2 dp s2 t2 r2 F2 q2=>wpAny_pure
  ((F2.note (s':={s2 with heap:=s2.heap.push (yU v v2)}) (λb o e=>Heap.get?_push_of_some _ e) (dT _) (Heap.get?_push_size _ rfl) rfl rfl).elim λT3 z=>
   k T3 (.MR m m2) _ dp _ ((t1.trans t2).trans z.1) ⟨_,v,v2,rfl,z.2.1,r1.up (t2.trans z.1),r2.up z.1⟩ z.2.2 q2))
end
section
variable{c:Cx}{ρ:Loc}{T T':aR}{σ:St}{s:Shared}{e a b t:Expr}{pos:Pos}{l:List Expr}
theorem Oz{env:Env}{l:List Expr}(h:noStar l=true):(backTo pos (starEach l env)).any (·.1)=false:=by
 induction l with
 |nil=>rfl
 |cons e r ih=>rw[Ku (gJ h).1];exact ih (gJ h).2
theorem Lk{f:Value}{xs:List (Bool×Sem Value)}{R:Args→Shared→Prop}(hn:xs.any (·.1)=false)(h:Wp c (spliced xs) (λvs s'=>R ⟨vs,[]⟩ s') s):Wp c (evalArgs f true xs []) R s:=by
 induction xs using aF with
 |nil=>exact wpAny_bind (wpAny_mono h (λvs s' h'=>wpAny_bind (wpAny_pure (wpAny_holding (wpAny_bind (wpAny_pure (wpAny_bind (wpAny_pure (wpAny_pure h')))))))) λ_ _ x=>x)
 |cons x xs=>
  induction x with|mk st x=>
  induction st with
  |true=>exact absurd hn.symm aq
  |false=>exact evalArgs_plain h
theorem a3H{α:Type}{P:Prop}{d:Decidable P}{a b:Sem α}{R:α→Shared→Prop}(h:Wp c a R s)(k:Wp c b R s):Wp c (@ite _ P d a b) R s:=by
 cases d<;>assumption
theorem FN{f:Value}{first:List Value}{xs:List (Bool×Sem Value)}{R:Value→Shared→Prop}(hn:xs.any (·.1)=false)
  (h:Wp c (spliced xs) (λvs BC=>(∃T,xq c.G T f∧T.le BC.heap.get?)∧Wp c (call f (first++vs)) R BC) s):Wp c (callWith pos f first xs []) R s:=by
 refine wpAny_bind (wpAny_holding (Lk hn (wpAny_mono h (λvs BC DG=>wpAny_bind (wpAny_standAt ?_)) λ_ _ x=>x)));induction DG.1 with|intro T y=>induction y.1 _ y.2 with|intro k L=>
 rw[hn];refine wpAny_bind (L.2.here ?_);have tail:∀{t:Sem Value},Wp c t R BC→Wp c (t>>=λr=>holding [r] point>>=λ_=>pure r) R BC:=λht=>wpAny_bind (wpAny_mono ht (λr a4W hr=>wpAny_bind (wpAny_holding (wpAny_point (wpAny_pure hr)))) λ_ _ x=>x);have marked (mk:Value):Wp c (callMarked mk f (first++vs) []) R BC:=Calls.wpAny_keep DG.2
 rcases L.1 with e|e|e<;>rw[e]<;>first|exact tail DG.2|exact a3H (tail DG.2) (tail (marked _))
theorem Ny{G:GC}{wy:Way}{f:Value}{first:List Value}(h:Found T wy f first):xq G T f:=by
 induction h with
 |fn h=>exact HN h
 |_=>exact OJ _
theorem a4l{f:Expr}{fs:List Wr}{g:St→bw→Prop}(hn:noStar l=true)(hf:Ex c ρ (eval f c.env) g)(ha:∀pos,Ax c ρ (spliced (backTo pos (starEach l c.env))) (aW fs ρ))
  (hev:eval (.Call f l [] pos) c.env=(do callWith pos (←eval f c.env) [] (backTo pos (starEach l c.env)) (backToKw pos []))):
  Ex c ρ (eval (.Call f l [] pos) c.env) λσ Q=>g σ λv aO=>aW fs ρ aO λvs b0=>P6 c.X (.val v) vs b0 Q:=λF h k=>by
 rw[hev];exact wpAny_bind (hf F h λT1 m v dE s1 t1 r1 F1 q1=>FN (Oz hn) (ha pos F1 q1 λT2 ms vs dp s2 t2 r2 F2 q2=>
  ⟨⟨T2,Ng F2 (r1.up t2) q2,F2.1.t⟩,WV F2 (r1.up t2) r2 q2 (k.up (t1.trans t2))⟩))
theorem a1B{o:Expr}{x:Str}{ap:Pos}{fs:List Wr}(hn:noStar l=true)(hl:l.length<20)(hp:(ap.endLine==pos.line)=true)(hc:isCall o=false)(ho:xp o)(ha:∀pos,Ax c ρ (spliced (backTo pos (starEach l c.env))) (aW fs ρ)):
  Ex c ρ (eval (.Call (.Attribute o x ap) l [] pos) c.env) λσ Q=>(c.me o).e ρ σ λv aO=>WT (c.X) v x aO λwy=>aW fs ρ aO λvs b0=>P6 c.X wy vs b0 Q:=λF h k=>by
 have hs:=Oz (pos:=pos) (env:=c.env) hn;have a3Y:methodCallForm (l.length+([]:List Keyword).length) (backTo pos (starEach l c.env)) (backToKw pos (keywordEach [] c.env))=true:=by
  have h1:(backTo pos (starEach l c.env)).all (λx=>!x.1)=true:=by rw[List.all_eq_not_any_not];simpa using hs
  unfold methodCallForm;rw[h1];exact decide_eq_true (a1T hl (by decide))
 rw[arm_eval_Call,Ph hc];refine wpAny_bind (ho.se c ρ F h λT1 m v dE s1 t1 r1 F1 q1=>wpAny_bind (wpAny_standAt ?_));unfold methodCall;rw[a3Y];refine wpAny_bind (wpAny_holding (a0K F1 r1 q1 λwy f first hw q=>?_))
 have a5q:methodCallPos true o c.env ap pos=pure pos:=by unfold methodCallPos;rw[hp];rfl
 dsimp only;rw[a5q];exact wpAny_bind (wpAny_pure (FN hs (ha pos F1 q λT2 ms vs dp s2 t2 r2 F2 q2=>⟨⟨T1,Ny hw,λb o e=>F2.1.t _ _ (t2 _ _ e)⟩,a3n F2 t2 hw r2 q2 (k.up (t1.trans t2))⟩)))
end
section
variable{c:Cx}{ρ dq:Loc}{T T':aR}{σ:St}{s s':Shared}{a x:Addr}
theorem Inv.Y2{G:GC}{B:aR}(I:Inv G T B σ s)(L:u6 G T B σ x)(hk:∀b o,b≠x→s.heap.get? b=some o→s'.heap.get? b=some o)(GY:s'.os=s.os)(hg:s'.gens=s.gens):Inv G T B σ s':=
 I.step (P:=(·=x)) (.refl T) (λ_ _=>.inl) (λy p=>rwl p (⟨L.t,L.b,λq hq=>.inl (L.tab q hq)⟩)) (λb o=>hk b o) (λ_=>.inl) (λb mo e=>.inl ⟨e,I.off e L.t L.f,λC fs d q r p=>L.f (p▸.inr ⟨C,fs,r▸rwr q e⟩)⟩) I.PZ GY hg
theorem FI.Wd{m':Str→Option Value}(F:FI c ρ T σ s)(hk:∀b o,b≠c.env.locals→s.heap.get? b=some o→s'.heap.get? b=some o)(hn:s'.heap.Ns c.env.locals m')
  (hs:∀x,Slot T c.env s'.heap m' x (cc dq x)) (GY:s'.os=s.os) (hg:s'.gens=s.gens):FI c dq T σ s':=
 ⟨F.1.Y2 F.2.sep hk GY hg,⟨m',hn,hs⟩,F.2.sep,λh x k e=>let y:=F.2.G0 h x k e;⟨y.1.imp λv z=>z.imp λo=>dR (hk k o y.2.2),y.2⟩,F.2.DL⟩
theorem FI.ext'(F:FI c ρ T σ s)(h:∀x,cc dq x=cc ρ x):FI c dq T σ s:=⟨F.1,F.2.ns.imp λm y=>⟨y.1,λx=>rwr ((h x).symm) (y.2 x)⟩,F.2.sep,F.2.G0,F.2.DL⟩
theorem UA{h:Heap}{l k:Addr}{m v}(N:h.Ns l m)(K:h.IsCell k v):k≠l:=λe=>
 K.elim λo K=>N.elim λo' N=>N.elim λes N=>N.elim λep N=>by have h1:=aA (K.1.symm.trans (rwl e N.1));cases K.2.symm.trans ((congrArg Obj.data h1).trans N.2.1)
theorem Yr{p:Prop}(h:some NameKind.local=some .cell∨some NameKind.local=some .free):p:=h.elim (λh=>by cases h) λh=>by cases h
theorem IE{y:Str}{m:MV}{v:Value}{R:Unit→Shared→Prop}(F:FI c ρ T σ s)(ho:c.own=true∨c.env.kindOf y=some .local)(hx:cc ρ y≠none)(r:VR T m v)
  (k:∀s',FI c (iH ρ y (some m)) T σ s'→R () s'):Wp c (storeName c.env y v) R s:=by
 refine F.2.ns.elim λmm z=>(gQ hx).elim λov eo=>?_;have sx:=z.2 y;rw[eo]at sx;rcases sx with⟨hl,_⟩|⟨hc,q,hq,cv,hcv,_⟩
 ·refine wpAny_storeName_local hl z.1 (λh' hn hs=>?_) (by rw[c.kind];rfl)
  refine k _ (F.Wd (s':={s with heap:=h',toks:=s.toks+1}) (λb o hb e=>(hs.2 b hb).trans e) hn (λx=>?_) rfl rfl);by_cases g:x=y
  ·rw[g,sr];exact .inl ⟨hl,v,if_pos rfl,r⟩
  ·rw[jo g];have sx:=z.2 x;induction e:cc ρ x with
   |none=>rw[e]at sx;exact sx
   |some ov=>rw[e]at sx;exact sx.imp (λw=>⟨w.1,by show NW T ov (if x=y then _ else _);rw[if_neg g];exact w.2⟩) λw=>⟨w.1,w.2.imp λd w=>⟨w.1,w.2.imp λcv w=>⟨w.1.imp λo u=>⟨(hs.2 d (UA z.1 w.1)).trans u.1,u.2⟩,w.2⟩⟩⟩
 ·have hw:c.own=true:=ho.elim id λh=>Yr (h▸hc);have key:∀h',h'.IsCell q (some v)→Heap.SameBut q s.heap h'→R () {s with heap:=h'}:=λh' Qn hs=>by
   have y1:=F.2.G0 hw y q hq;refine k _ ⟨F.1.Y2 (s':={s with heap:=h'}) y1.2.1 (λb o hb e=>(hs.2 b hb).trans e) rfl rfl,⟨mm,z.1.imp λo=>bj λ_=>bj λ_=>dR λe=>(hs.2 _ (UZ y1.2.2)).trans e,λx=>?_⟩,F.2.sep,λh x k e=>?_,λh=>absurd hw (rwl h aq)⟩
   ·by_cases g:x=y
    ·rw[g,sr];exact .inr ⟨hc,q,hq,_,Qn,v,rfl,r⟩
    ·rw[jo g];have sx:=z.2 x;induction e:cc ρ x with
     |none=>rw[e]at sx;exact sx
     |some ov=>rw[e]at sx;exact sx.imp id λw=>⟨w.1,w.2.imp λd w=>⟨w.1,w.2.imp λcv u=>⟨u.1.imp λo o'=>⟨(hs.2 d (λp=>g (c.uq hw x y d w.1 (rwl p hq)))).trans o'.1,o'.2⟩,u.2⟩⟩⟩
   ·have y2:=F.2.G0 h x k e;refine⟨?_,y2.2⟩;by_cases p:k=q
    ·exact⟨_,rwl p Qn⟩
    ·exact y2.1.imp λv w=>w.imp λo=>dR λe=>(hs.2 k p).trans e
  rcases hc with hc|hc
  ·exact wpAny_storeName_cell c.kind hc hq hcv key
  ·exact storeName_free c.kind hc hq hcv key
end
noncomputable def hold(B:aR)(I:Addr)(o:Obj):aR:=λx=>if x=I then some o else B x
theorem fu{B:aR}{I:Addr}{o:Obj}:hold B I o I=some o:=if_pos rfl
theorem f7{B:aR}{I x:Addr}{o:Obj}(h:x≠I):hold B I o x=B x:=if_neg h
noncomputable def Cx.wB(c:Cx)(B:aR):Cx:={c with B:=B}
section
variable{c:Cx}{ρ dq:Loc}{T T' B B':aR}{σ:St}{s s':Shared}{I x:Addr}{o o':Obj}
theorem jq(h:hold B I o x=some o'):x=I∧o'=o∨B x=some o':=if p:x=I then .inl ⟨p,(aA ((if_pos p).symm.trans h)).symm⟩else .inr ((if_neg p).symm.trans h)
noncomputable def L5(c:Cx)(T B:aR):Prop:=c.own=false→∀x k,c.env.cells.lookup x=some k→∃o,T k=some o∨(c.fz=false∧B k=some o)
theorem L5.up(h:L5 c T B)(t:T.le T'):L5 c T' B:=λw x k e=>(h w x k e).imp λo=>Pr (t k o)
theorem FI.exB(F:FI c ρ T σ s)(hb:B'.le s.heap.get?)(ht:∀x o,B' x=some o→T x=none∧¬n9 σ x∧(∀q∈c.G.tabs,q.1≠x)∧¬tI c x)(hf:L5 c T B'):FI (c.wB B') ρ T σ s:=
 have nm:∀x,tI c x→u6 c.G T B' σ x:=λx m=>let L:=(F.BW m).1;⟨L.t,gS (p:=True) λo e=>absurd m (ht x o e).2.2.2,L.f,L.tab⟩
 ⟨F.1.other hb λx hx=>(gQ hx).elim λo e=>let y:=ht x o e;⟨y.1,y.2.1,y.2.2.1⟩,F.2.ns,nm _ (.inl rfl),λh x k e=>let y:=F.2.G0 h x k e;⟨y.1,nm k (.inr ⟨h,x,e⟩),y.2.2⟩,hf⟩
theorem FI.HR(F:FI c ρ T σ s)(e:c.B x=some o):T x=none∧¬n9 σ x∧(∀q∈c.G.tabs,q.1≠x)∧¬tI c x:=
 let y:=F.1.held e;⟨y.1,y.2.1,y.2.2,λm=>ar e (F.BW m).1.b⟩
theorem FI.hold(F:FI c ρ T σ s)(hI:s.heap.get? I=none)(hk:∀b o,s.heap.get? b=some o→s'.heap.get? b=some o)(ho:s'.heap.get? I=some o)(GY:s'.os=s.os)(hg:s'.gens=s.gens):FI (c.wB (Mine.Internal.hold c.B I o)) ρ T σ s':=by
 have F1:=F.ext hk GY hg;have L:=F.1.fresh hI;refine F1.exB (λb o' e=>(jq e).elim (λh=>h.1▸rwl h.2 ho) (F1.1.b b o')) (λx o' e=>(jq e).elim (λh=>?_) F1.HR) λw x k e=>(F.2.DL w x k e).imp λo'=>Dh λz=>⟨z.1,(f7 λh=>ar z.2 (h▸L.b)).trans z.2⟩;rw[h.1];exact⟨L.t,L.f,L.tab,λm=>(F.BW m).2.elim λ_ z=>ar z hI⟩
theorem FI.ZH(F:FI (c.wB (Mine.Internal.hold B I o)) ρ T σ s)(hB:B I=none)(hf:L5 c T B):FI (c.wB B) ρ T σ s:=
 have up:∀x o',B x=some o'→Mine.Internal.hold B I o x=some o':=λx o' e=>(f7 λ(h:x=I)=>ar (p:=False) e (rwr h.symm hB)).trans e
 F.exB (c:=c.wB (Mine.Internal.hold B I o)) (λb o' e=>F.1.b b o' (up b o' e)) (λx o' e=>F.HR (up x o' e)) hf
theorem FI.drop(F:FI (c.wB (Mine.Internal.hold B I o)) ρ T σ s)(hB:B I=none)(hf:L5 c T B)(hk:∀b o,b≠I→s.heap.get? b=some o→s'.heap.get? b=some o)(GY:s'.os=s.os)(hg:s'.gens=s.gens):FI (c.wB B) ρ T σ s':=by
 have y:=F.HR (c:=c.wB (Mine.Internal.hold B I o)) fu;have U:=F.ZH hB hf;exact U.step (P:=(·=I)) (.refl T) (λ_ _=>.inl) (λx p=>rwl p (⟨y.1,hB,λq hq=>.inl (y.2.2.1 q hq)⟩)) (λp=>y.2.2.2 (.inl p.symm))
  (λx k e p=>by
   induction h:c.own with
   |true=>exact y.2.2.2 (.inr ⟨h,x,rwr p e⟩)
   |false=>exact(hf h x k e).elim λo z=>z.elim (λz=>ar (p▸z) y.1) λz=>ar (p▸z.2) hB)
  (λb o=>hk b o) (λ_=>.inl) (λb mo e=>.inl ⟨e,U.1.off e y.1 y.2.1,λC fs d q r p=>y.2.1 (p▸.inr ⟨C,fs,r▸rwr q e⟩)⟩) U.1.PZ GY hg
theorem FI.MU(F:FI (c.wB (Mine.Internal.hold B I o)) ρ T σ s)(hB:B I=none)(hf:L5 c T B)(hk:∀b o,b≠I→s.heap.get? b=some o→s'.heap.get? b=some o)(ho:s'.heap.get? I=some o')(GY:s'.os=s.os)(hg:s'.gens=s.gens):FI (c.wB (Mine.Internal.hold B I o')) ρ T σ s':=by
 have y:=F.HR (c:=c.wB (Mine.Internal.hold B I o)) fu;have F1:=F.drop hB hf hk GY hg;refine F1.exB (c:=c.wB B) (λb o'' e=>(jq e).elim (λh=>h.1▸rwl h.2 ho) (F1.1.b b o'')) (λx o'' e=>(jq e).elim (λh=>rwl h.1 y) F1.HR) λw x k e=>(hf w x k e).imp λo''=>Dh λz=>⟨z.1,(f7 λh=>ar z.2 (h▸hB)).trans z.2⟩
end
noncomputable def i'(h:Heap)(I:Addr):Src→Nat→Prop
 |.items l,i=>∃n:Int,l=oZ n∧(0≤n∧n≤lim)∧IsRangeIter h I i (n-i) 1
 |.list a _,i=>h.IsListIter I a i
section
variable{c:Cx}{ρ dq:Loc}{T T':aR}{σ:St}{s s':Shared}{I x:Addr}{o o':Obj}{src:Src}{i:Nat}{h h':Heap}
theorem i'.at(k:h'.get? I=h.get? I){src:Src}(x:i' h I src i):i' h' I src i:=by
 induction src with
 |items _=>exact x.imp λ_=>cD (cD λd=>k.trans d)
 |list _ _=>exact x.imp λ_=>dR λd=>k.trans d
theorem i'.live{src:Src}(x:i' h I src i):∃o,h.get? I=some o:=by
 induction src with
 |items _=>exact x.elim λ_ x=>⟨_,x.2.2⟩
 |list _ _=>exact x.imp λ_=>And.left
theorem E9{v:MV}{u:Value}{R:Value→Shared→Prop}(F:FI c ρ T σ s)(r:VR T v u)(h:EG v σ=some src)
  (k:∀o,i' (s.heap.push o) s.heap.objs.size src 0→(s.heap.push o).get? s.heap.objs.size=some o→src.oi σ→R (.ref s.heap.objs.size) {s with heap:=s.heap.push o}):Wp c (pyIter u) R s:=by
 induction v using MV.casesOn with
 |PK z=>
  refine Jf r λa t u' w zh=>oe zh λe g hz=>?_;rw[e];rw[←aA h]at k;refine wpAny_pyIter_range (F.1.t _ _ g) (small_one (by decide) (by decide) (aS (by decide) hz.1) (gg hz.2 (by decide))) (k _ ⟨z,rfl,hz,?_⟩ (Heap.get?_push_size _ rfl) trivial)
  rw[vM hz.1,bL hz.1,show z-((0:Nat):Int)=z from a1V z];exact Heap.get?_push_size _ rfl
 |ref a=>
  rw[show u=.ref a from r];have h:(match σ a with|some (.list l)=>some (Src.list a l)|_=>none)=some src:=h
  induction e:σ a with
  |none=>rw[e]at h;exact ar h rfl
  |some mo=>induction mo with
   |list l=>
    rw[e]at h;rw[←aA h]at k;induction F.list e with|mk vs n g _ _=>
    exact wpAny_pyIter_list ⟨_,g,rfl,_,rfl⟩ (k _ ⟨_,Heap.get?_push_size _ rfl,rfl,rfl⟩ (Heap.get?_push_size _ rfl) e)
   |_=>rw[e]at h;exact ar h rfl
 |_=>exact ar h rfl
theorem Wb{z:Int}{m:MV}(h:(oZ z)[i]?=some m):m=.int i∧(i:Int)<z:=by
 rw[oZ,lR]at h;refine Cc (bZ.mp h) λj zh=>rU zh λhj e=>?_;have hi:i<z.toNat:=Br (gk.mp hj).1 jh;rw[List.getElem?_range hi]at hj;rw[←e,←aA hj];exact⟨rfl,Int.lt_toNat.mp hi⟩
theorem Sw{z:Int}(h:(oZ z)[i]?=none):z≤i:=by
 rw[jR,Ky]at h;exact l7.mp h
theorem HO{R:Option Value→Shared→Prop}(F:FI c ρ T σ s)(it:i' s.heap I src i)(st:src.oi σ)
  (hs:∀m v h' tk,src.all[i]?=some m→VR T m v→i' h' I src (i+1)→Heap.SameBut I s.heap h'→R (some v) {s with heap:=h',toks:=tk})
  (hn:∀h',src.all[i]?=none→Heap.ExtBut I s.heap h'→R none {s with heap:=h'}):Wp c (pyNext (.ref I)) R s:=by
 induction src with
 |items l=>
  refine Cc it λz zh=>oe zh λel hz hi=>?_;rw[el]at hs hn;induction h:(oZ z)[i]? with
  |none=>exact wpAny_pyNext_range_end c.hr.1 hi (Int.sub_nonpos_of_le (Sw h)) λh' he=>hn h' h he
  |some m=>
   have y:=Wb h;rw[y.1]at h;exact wpAny_pyNext_range_item hi (CA y.2) λh' hi' W7=>hs _ _ h' _ h ⟨_,rfl⟩ ⟨z,rfl,hz,by rw[show z-((i+1:Nat):Int)=z-i-1 by lia];exact hi'⟩ W7
 |list a l=>
  induction F.list st with|mk vs n g r _=>
  induction h:l[i]? with
  |none=>exact wpAny_pyNext_list_end c.hr.1 it ⟨_,g,rfl,_,rfl⟩ (Array.getElem?_eq_none (by rw[r.sz];exact jR.mp h)) λh' he=>hn h' h he
  |some m=>
   refine Cc (eQ.get l r h) λv zh=>rU zh λhv rv=>?_;exact wpAny_pyNext_list_item it ⟨_,g,rfl,_,rfl⟩ (toA hv) λh' hi' W7=>hs m v h' _ h rv hi' W7
end
section
variable{c:Cx}{s:Shared}{I:Addr}{src:Src}{i:Nat}{v:Value}
theorem OG{els:List Expr}{n:Nat}{p:Pos}{R:Unit→Shared→Prop}{y:String}{vs:Array Value}{o:Obj}(ho:s.heap.get? I=some o)(hc:o.cls=.type y)(hd:o.data=.fields vs)
  (hx:(["enumerate","zip","dict_itemiterator","dict_reverseitemiterator","odict_iterator","itertools.zip_longest","itertools.pairwise"].contains y)=false) (h:R () s):Wp c (letOwnedTupleGo (.Tuple els n p) (.ref I) v) R s:=by
 induction v with
 |ref a=>
  refine wpAny_bind (wpAny_load ho ?_);rw[hc,hd];dsimp only;rw[hx,Bool.false_and];exact wpAny_pure h
 |_=>exact wpAny_pure h
theorem OF{els:List Expr}{n:Nat}{p:Pos}{R:Unit→Shared→Prop}(it:i' s.heap I src i)(h:R () s):Wp c (letOwnedTupleGo (.Tuple els n p) (.ref I) v) R s:=by
 induction src with
 |items l=>exact it.elim λz x=>OG x.2.2 rfl rfl (by decide) h
 |list a l=>exact it.elim λo x=>OG x.1 x.2.1 x.2.2 (by decide) h
end
noncomputable def Vf(c:Cx)(x:N):Prop:=c.own=true∨DF c.env.scope.names x=true
noncomputable def Bd(e:Expr):Prop:=∀{c ρ dq T σ s m v}{R:Unit→Shared→Prop},FI c ρ T σ s→Vf c (nE c.env.scope.names e)→(c.me e).b m ρ=some dq→VR T m v→(∀s',FI c dq T σ s'→R () s')→Wp c (assign e c.env v) R s
section
variable{c:Cx}{ρ dq:Loc}{T:aR}{σ:St}{s:Shared}{e:Expr}{l:List Expr}{ms:List MV}{vs:List Value}{env:Env}
theorem NT(h:a9 e.ctorIdx 22=false)(r:List Expr):assignEach (e::r) env=(false,assign e env)::assignEach r env:=by cases e<;>first|rfl|exact nomatch h
theorem a1H:∀{l:List Expr},noStar l=true→(assignEach l env).length=l.length∧(assignEach l env).findIdx? (·.1)=none:=by
 intro zl;induction zl with
 |nil=>
  rintro _;exact⟨rfl,rfl⟩
 |cons e r ih=>
  rintro h;rw[NT (gJ h).1,cg,cg,(ih (gJ h).2).1,List.findIdx?_cons,(ih (gJ h).2).2];exact⟨rfl,rfl⟩
theorem Pg{ws:List Wr}{ms:List MV}{ρ dq:Loc}(h:UM ws ms ρ=some dq):ws.length=ms.length:=by
 induction ws generalizing ms ρ with
 |nil=>induction ms with
  |nil=>rfl
  |cons=>exact ar h rfl
 |cons w ws ih=>induction ms using aF with
  |nil=>exact ar h rfl
  |cons m ms=>exact(dG.mp h).elim λ_ h=>congrArg (·+1) (ih h.2)
theorem a0s:∀l:List Expr,(c.ml l).length=l.length:=by
 intro zl;induction zl with
 |nil=>
  exact rfl
 |cons _ r ih=>
  exact congrArg (·+1) (ih)
theorem a4s:∀l:List Expr,(∀e∈l,Bd e)→noStar l=true→∀{ms ρ dq s vs}{R:Unit→Shared→Prop},FI c ρ T σ s→Vf c (nA c.env.scope.names l)→UM (c.ml l) ms ρ=some dq→eQ T ms vs→(∀s',FI c dq T σ s'→R () s')→Wp c (assignInOrder ((assignEach l c.env).map (·.2)) vs) R s:=λl o n{ms}=>by
 induction l generalizing ms with
 |nil=>intro _ _ _ _ _ F _ h r k;induction ms with
   |nil=>exact wpAny_pure (k _ (rwr (aA h) F))
   |cons=>exact ar h rfl
 |cons e es ih=>intro _ _ _ _ _ F ok h r k;induction ms using aF with
  |nil=>exact ar h rfl
  |cons m ms=>
   refine iA r λv us zh=>oe zh λev p q=>?_;obtain⟨Rn,h1,h2⟩:=dG.mp h;have ok2:Vf c (nE c.env.scope.names e)∧Vf c (nA c.env.scope.names es):=ok.elim (λh=>⟨.inl h,.inl h⟩) λh=>let h:=ao.mp h;⟨.inr h.1,.inr h.2⟩
   rw[ev,NT (gJ n).1];exact wpAny_bind (wpAny_holding (o e (.head _) F ok2.1 h1 p λs' F'=>ih (λa m=>o a (.tail _ m)) (gJ n).2 F' ok2.2 h2 q k))
end
section
variable{c:Cx}{ρ dq:Loc}{T:aR}{σ:St}{s:Shared}{pos:Pos}{l:List Expr}{m:MV}{v:Value}
theorem UQ{x:Str}{R:Unit→Shared→Prop}(F:FI c ρ T σ s)(ok:Vf c (.name x))(h:(cc ρ x).map (λ_=>iH ρ x (some m))=some dq)(r:VR T m v)(k:∀s',FI c dq T σ s'→R () s'):Wp c (assign (.Name x pos) c.env v) R s:=
 (bZ.mp h).elim λov y=>wpAny_assign_Name (IE F (ok.imp id λh=>of_decide_eq_true h) (gH y.1) r (rwl y.2 k))
theorem Y1{n:Nat}{ms:List MV}{R:Unit→Shared→Prop}(hn:noStar l=true)(hl:∀e∈l,Bd e)(F:FI c ρ T σ s)(ok:Vf c (nA c.env.scope.names l))(h:UM (c.ml l) ms ρ=some dq)(r:VR T (.tup ms) v)(k:∀s',FI c dq T σ s'→R () s'):Wp c (assign (.Tuple l n pos) c.env v) R s:=by
 refine iA r λa vs zh=>oe zh λev t q=>?_;induction F.tup t q with|mk vs n' dd sl g q=>
 have len:=a1H (env:=c.env) hn;rw[ev,arm_assign_Tuple];exact wpAny_bind (wpAny_standAt (unpack_tuple c.hr.1 (tw g) (by rw[len.1,←a0s (c:=c),Pg h,q.sz]) len.2 λh' he=>
  a4s l hl hn (F.ext (s':={s with heap:=h'}) (λb o e=>he b o (cb (Heap.lt_size e)) e) rfl rfl) ok h q k))
end
structure Kf(c:Cx)(T:aR)(Q:Fl→Loc→St→Prop)(R:Flow→Shared→Prop):Prop where
 next:∀T' dq av s',T.le T'→FI c dq T' av s'→Q .next dq av→R .next s'
 ret:∀T' v m dq av s',T.le T'→VR T' m v→Inv c.G T' c.B av s'→Q (.ret m) dq av→R (.ret v) s'
noncomputable def Sx(c:Cx)(t:Sem Flow)(f:Loc→St→(Fl→Loc→St→Prop)→Prop):Prop:=∀{ρ T σ s Q R},FI c ρ T σ s→f ρ σ Q→Kf c T Q R→Wp c t R s
section
variable{c:Cx}{ρ dq:Loc}{T T':aR}{σ:St}{s:Shared}{pos:Pos}{e t:Expr}{a b:List Stmt}{st:Stmt}
theorem Kf.up{Q:Fl→Loc→St→Prop}{R:Flow→Shared→Prop}(k:Kf c T Q R)(h:T.le T'):Kf c T' Q R:=⟨λNU dq av s' t=>k.next NU dq av s' (h.trans t),λNU v m dq av s' t=>k.ret NU v m dq av s' (h.trans t)⟩
theorem a4r:Sx c (execs [] c.env) (bW []):=λF h k=>wpAny_execs_nil (k.next _ _ _ _ (.refl _) F h)
theorem a1E{w:Wr}{ws:List Wr}(hs:Sx c (exec st c.env) w.s)(hr:Sx c (execs a c.env) (bW ws)):Sx c (execs (st::a) c.env) (bW (w::ws)):=λF h k=>by
 rw[arm_execs_cons];exact wpAny_bind (hs F h ⟨λT1 Rn dE s1 t1 F1 q1=>hr F1 q1 (k.up t1),λT1 v m Rn dE s1 t1 r1 I1 q1=>wpAny_pure (k.ret T1 v m Rn dE s1 t1 r1 I1 q1)⟩)
theorem ZV:Sx c (exec (.Pass pos) c.env) λρ σ Q=>Q .next ρ σ:=λF h k=>wpAny_Pass (k.next _ _ _ _ (.refl _) F h)
theorem a2R(he:xp e):Sx c (exec (.Return (some e) pos) c.env) λρ σ Q=>(c.me e).e ρ σ λv aO=>Q (.ret v) ρ aO:=λF h k=>wpAny_Return_some (he.se c _ F h λT1 m v dE s1 t1 r1 F1 q1=>k.ret T1 v m _ dE s1 t1 r1 F1.1 q1)
theorem ZU:Sx c (exec (.Return none pos) c.env) λρ σ Q=>Q (.ret .none) ρ σ:=λF h k=>wpAny_Return_none (k.ret _ .none .none _ _ _ (.refl _) rfl F.1 h)
theorem a40{wa wb:List Wr}(ht:xp t)(ha:Sx c (execs a c.env) (bW wa))(hb:Sx c (execs b c.env) (bW wb)):Sx c (exec (.If t a b pos) c.env) λρ σ Q=>(c.me t).t ρ σ λz aO=>br z (bW wa ρ aO Q) (bW wb ρ aO Q):=λF h k=>
 wpAny_If (ht.st c _ F h λT1 z dE s1 t1 F1 q1=>by
  induction z with
  |true=>exact ha F1 q1 (k.up t1)
  |false=>exact hb F1 q1 (k.up t1))
end
section
variable{c:Cx}{ρ dq:Loc}{T T':aR}{σ:St}{s:Shared}{pos:Pos}{e t:Expr}{a b:List Stmt}{st:Stmt}
theorem V9{wa:List Wr}(ht:xp t)(ha:Sx c (execs a c.env) (bW wa)):Sx c (exec (.While t a [] pos) c.env) λρ σ Q=>∀P:Loc→St→Prop,(∀dq av,((c.me t).t dq av λz aO=>
   br z (bW wa dq aO λfl JV b0=>match fl with
    |.next=>P JV b0
    |.ret v=>Q (.ret v) JV b0) (Q .next dq aO))→P dq av)→P ρ σ:=λ{ρ T σ s Q R}F h k=>by
 refine wpAny_While (h (λdq av=>∀T' s',T.le T'→FI c dq T' av s'→codeAny (model pw c.G.w) c.A (.whileLoop t a [] c.env) (λr s'=>match r with|.ok f=>R f s'|.error e=>cameBackBy (model pw c.G.w) c.A c.env noE e s') s') (λRn dE h1 T1 s1 t1 F1=>?_) T s (.refl T) F)
 refine codeAny_of_tree ?_;show wpAny _ c.A ((whileTurn t a [] c.env).onRaise (λx=>do noteFrame x c.env;theTreesLotGoes x)) _ _ s1
 refine wpAny_noted (wpAny_mono (Q:=λfin s'=>match fin with|.done f=>R f s'|.again c'=>c'.quiet=true∧codeAny (model pw c.G.w) c.A c' (λr s'=>match r with|.ok f=>R f s'|.error e=>cameBackBy (model pw c.G.w) c.A c.env noE e s') s') (E:=noE) ?_ (λ_ _ x=>x) λ_ _ x=>x.elim)
 simp only[whileTurn];exact wpAny_bind (ht.st c Rn F1 h1 λT2 z dp s2 t2 F2 q2=>by
  induction z with
  |false=>exact wpAny_bind (wpAny_execs_nil (wpAny_pure (k.next T2 Rn dp s2 (t1.trans t2) F2 q2)))
  |true=>exact wpAny_bind (ha F2 q2 ⟨λT3 ρ3 jJ s3 t3 F3 q3=>wpAny_pure ⟨rfl,q3 T3 s3 ((t1.trans t2).trans t3) F3⟩,λT3 v m ρ3 jJ s3 t3 r3 I3 q3=>wpAny_pure (k.ret T3 v m ρ3 jJ s3 ((t1.trans t2).trans t3) r3 I3 q3)⟩))
end
section
variable{c:Cx}{ρ dq:Loc}{T T':aR}{σ:St}{s:Shared}{pos:Pos}{e t i:Expr}{a b:List Stmt}{st:Stmt}
theorem Ut{v:Value}{R:Flow→Shared→Prop}(h:R .next s):Wp c (dropValue e pos v) R s:=wpAny_dropValue h
theorem Sb{n:Nat}{env:Env}(h:B4 e=false):swapsWith e none n env=pure false:=by cases e<;>first|rfl|exact nomatch h
theorem HS{env:Env}{v:Value}(h:a9 e.ctorIdx 7=false):foldedSetIterable e env v=pure v:=by cases e<;>first|rfl|exact nomatch h
theorem ZW(hn:B4 e=false)(he:xp e):Sx c (exec (.Expr e pos) c.env) λρ σ Q=>(c.me e).e ρ σ λ_ aO=>Q .next ρ aO:=λF h k=>by
 rw[exec_Expr c.env e pos (by unfold interactive;rw[c.kind];rfl) (Sb hn)]
 exact wpAny_bind (wpAny_standAt (wpAny_bind (he.se c _ F h λT1 m v dE s1 t1 r1 F1 q1=>Ut (k.next T1 _ dE s1 t1 F1 q1))))
theorem O3{α:Type}{l:List α}{i:Nat}{x:α}(h:l[i]?=some x):i<l.length∧l.drop i=x::l.drop (i+1):=
 (gk.mp h).elim λp q=>⟨p,rwr q (Hn p)⟩
theorem Ao(F:FI c ρ T σ s):L5 c T c.B:=F.2.DL
theorem a0p(F:FI c ρ T σ s){I:Addr}(h:s.heap.get? I=none):c.B I=none:=(F.1.fresh h).b
inductive a4B (c:Cx) (T:aR) (I:Addr) (src:Src) (W:List MV→Loc→St→Prop) (n:Nat) (s:Shared):Prop
 |mk (T':aR) (ρ:Loc) (σ:St) (j:Nat) (o:Obj) (e:n=src.all.length+1-j) (t:T.le T') (F:FI (c.wB (hold c.B I o)) ρ T' σ s) (it:i' s.heap I src j) (st:src.oi σ) (w:W (src.all.drop j) ρ σ)
theorem a2S{wa:List Wr}(hf:a9 i.ctorIdx 7=false)(hw:c.own=true∨DF c.env.scope.names (nE c.env.scope.names t)=true)(hi:xp i)(ht:Bd t)(lt:∀{c s R I src j v},i' s.heap I src j→R () s→Wp c (letOwnedTupleGo t (.ref I) v) R s)
  (ha:∀B,Sx (c.wB B) (execs a c.env) (bW wa)):Sx c (exec (.For t i a [] pos) c.env) λρ σ Q=>(c.me i).e ρ σ λv aO=>∃s,EG v aO=some s∧Ug (bW wa) (c.me t).b s s.all ρ aO Q:=λ{ρ T σ s Q R}F h k=>by
 rw[arm_exec_For];refine wpAny_bind (wpAny_standAt (wpAny_bind (hi.se c ρ F h λT1 m v dE s1 t1 r1 F1 q1=>q1.elim λsrc q1=>?_)));refine wpAny_bind (wpAny_of_eq (HS hf) (wpAny_bind (wpAny_standAt (wpAny_bind (wpAny_holding (E9 F1 r1 q1.1 λoI hit Xc YD=>wpAny_runOwn ?_))))));have hB:=a0p F1 (dT s1.heap);refine codeAny_forLoop_any (A:=c.A) (a4B c T s1.heap.objs.size src λl ρ σ=>Ug (bW wa) (c.me t).b src l ρ σ Q) (λn s' hI=>?_) (src.all.length+1) (.mk T1 ρ dE 0 oI rfl t1 (F1.hold (s':={s1 with heap:=s1.heap.push oI}) (dT _) (λb o e=>Heap.get?_push_of_some _ e) Xc rfl rfl) hit YD q1.2);induction hI with|mk T3 ρ3 jJ j oI3 en t3 F3 it3 st3 q3=>
 have fx:∀{T'},T.le T'→L5 c T' c.B:=λt=>(Ao F).up t;refine wpAny_mono (HO (c:=c.wB (hold c.B s1.heap.objs.size oI3)) F3 it3 st3 (λmi v h' tk hm rm it4 W7=>?_) λh' a3O he=>?_) (λ_ _ x=>x) λ_ _ x=>x.elim
 ·have hd:=O3 hm;rw[hd.2]at q3;induction it4.live with|intro oI4 hI4=>induction q3 with|intro ρ4 q4=>
  have F4:=F3.MU (s':={s' with heap:=h',toks:=tk}) hB (fx t3) (λb o hb e=>(W7.2 b hb).trans e) hI4 rfl rfl;have up:∀{α:Type}{t:Sem α}{R:α→Shared→Prop}{E s},Wp c t R s→wpAny (model pw c.G.w) c.A t R E s:=λh=>wpAny_mono h (λ_ _ x=>x) λ_ _ x=>x.elim;refine up (lt (c:=c) it4 (up (ht (c:=c.wB (hold c.B s1.heap.objs.size oI4)) F4 hw q4.1 rm λs5 F5=>up (ha (hold c.B s1.heap.objs.size oI4) F5 q4.2 ⟨λT6 ρ6 pE s6 t6 F6 q6=>?_,λT6 u m6 ρ6 pE s6 t6 r6 I6 q6=>?_⟩))))
  ·exact⟨_,by rw[en];exact Pt (dH hd.1) (ij j),.mk T6 ρ6 pE (j+1) oI4 rfl (t3.trans t6) F6 (it4.at ((F6.1.b _ _ fu).trans hI4.symm)) q6.1 q6.2⟩
  ·refine k.ret T6 u m6 ρ6 pE s6 (t3.trans t6) r6 ?_ q6;exact I6.other (λb o e=>I6.b b o ((f7 λ(h:b=_)=>ar (p:=False) e (rwl h hB)).trans e)) λx hx=>(gQ hx).elim λo e=>I6.held ((f7 λ(h:x=_)=>ar (p:=False) e (rwl h hB)).trans e)
 ·rw[lS (jR.mp a3O)]at q3;exact wpAny_execs_nil (k.next T3 ρ3 jJ _ t3 (F3.drop hB (fx t3) (λb o hb e=>he b o hb e) rfl rfl) q3)
end
noncomputable def Kl(c:Cx)(T:aR)(Q:Loc→St→Prop)(R:Unit→Shared→Prop):Prop:=∀T' dq av s',T.le T'→FI c dq T' av s'→Q dq av→R () s'
noncomputable def Gx(c:Cx)(e:Expr)(f:MV→Loc→St→(Loc→St→Prop)→Prop):Prop:=∀{ρ T σ s m v Q R},FI c ρ T σ s→VR T m v→f m ρ σ Q→Kl c T Q R→Wp c (assign e c.env v) R s
section
variable{c:Cx}{ρ dq:Loc}{T T':aR}{σ:St}{s:Shared}{pos:Pos}{e t o i:Expr}{l:List Expr}
theorem Ub{x:Str}(hw:c.own=true):Gx c (.Name x pos) λv ρ σ Q=>gv (cc ρ x) λ_=>Q (iH ρ x (some v)) σ:=λ{ρ T σ s m v Q R}F r h k=>
 gv.cases h λov e q=>UQ (m:=m) F (.inl hw) (by rw[e];rfl) r λs' F'=>k T _ σ s' (.refl T) F' q
theorem a36{n:Nat}(hw:c.own=true)(hn:noStar l=true)(hl:∀e∈l,Bd e):Gx c (.Tuple l n pos) λv ρ σ Q=>match v with
  |.tup vs=>∃dq,UM (c.ml l) vs ρ=some dq∧Q dq σ
  |_=>False:=λ{ρ T σ s m v Q R}F r h k=>by
 induction m using MV.casesOn with
 |tup ms=>exact h.elim λdq h=>Y1 hn hl F (.inl hw) h.1 r λs' F'=>k T dq σ s' (.refl T) F' h.2
 |_=>exact h.elim
theorem a1n{x:Str}(ho:xp o):Gx c (.Attribute o x pos) λu ρ σ Q=>(c.me o).e ρ σ λv aO=>so (c.X) v x u aO λb0=>Q ρ b0:=λ{ρ T σ s m v Q R}F r h k=>
 wpAny_bind (wpAny_holding (ho.se c ρ F h λT1 m1 v1 dE s1 t1 r1 F1 q1=>wpAny_bind (wpAny_standAt (wpAny_bind (wpAny_holding
  (PH F1 r1 (r.up t1) q1 λdp s2 F2 q2=>wpAny_release' (k T1 ρ dp s2 t1 F2 q2)))))))
theorem a37(ho:xp o)(hi:xp i):Gx c (.Subscript o i pos) λu ρ σ Q=>(c.me o).e ρ σ λv aO=>(c.me i).e ρ aO λk b0=>pS v k u b0 λzQ=>Q ρ zQ:=λ{ρ T σ s m v Q R}F r h k=>
 wpAny_bind (wpAny_holding (ho.se c ρ F h λT1 m1 v1 dE s1 t1 r1 F1 q1=>wpAny_bind (wpAny_holding (hi.se c ρ F1 q1 λT2 m2 v2 dp s2 t2 r2 F2 q2=>wpAny_bind (wpAny_standAt (wpAny_bind (wpAny_holding
  (PG F2 (r1.up t2) r2 (r.up (t1.trans t2)) q2 λjJ s3 F3 q3=>wpAny_release' (k T2 ρ jJ s3 (t1.trans t2) F3 q3)))))))))
theorem a4w(h:a9 t.ctorIdx 22=false){env:Env}:(assignEach [t] env).map (·.2)=[assign t env]:=by rw[NT h];rfl
theorem a41(hsw:swapsWithSole [t] e pos.line c.env=pure false)(hss:swappedStores [t] e c.env=pure none)(ht:a9 t.ctorIdx 22=false)(he:xp e){g}(hg:Gx c t g):
  Sx c (exec (.Assign [t] e pos) c.env) λρ σ Q=>(c.me e).e ρ σ λv aO=>g v ρ aO λdq b0=>Q .next dq b0:=λF h k=>by
 rw[arm_exec_Assign,a4w ht];refine wpAny_bind (wpAny_standAt (wpAny_bind (wpAny_of_eq hsw (wpAny_bind (he.se c _ F h λT1 m v dE s1 t1 r1 F1 q1=>wpAny_bind (wpAny_of_eq hss ?_))))));exact wpAny_bind (show Wp c (assign t c.env v) _ s1 from hg F1 r1 q1 λT2 ρ2 dp s2 t2 F2 q2=>wpAny_pure (k.next T2 ρ2 dp s2 (t1.trans t2) F2 q2))
noncomputable def nameAt(env:Env)(line:Nat):Expr→Option Str
 |.Name id pos=>if env.kindOf id==some .local&&pos.line==line then some id else none
 |_=>none
theorem HK{env:Env}{n:Nat}(h:S6 e=none):nameAt env n e=none:=by cases e<;>first|rfl|exact ar rfl h
theorem P0{env:Env}{x:Str}{q:Pos}{n:Nat}(hl:env.kindOf x≠some .local):nameAt env n (.Name x q)=none:=if_neg λh=>hl (by simpa using(ao.mp h).1)
theorem HJ{env:Env}{x:Str}{q:Pos}(hl:env.kindOf x=some .local):nameAt env q.line (.Name x q)=some x:=if_pos (by rw[hl];simp)
theorem Nc{p:Str×Nat}(h:S6 e=some p):∃q,e=.Name p.1 q∧q.line=p.2:=by
 cases e with
 |Name x q=>exact⟨q,by rw[←aA h],by rw[←aA h]⟩
 |_=>exact ar h rfl
end
section
variable{c:Cx}{ρ dq:Loc}{T T':aR}{σ:St}{s:Shared}{pos p p':Pos}{e t o i a b:Expr}{l vs:List Expr}{env:Env}{k k':Nat}
theorem X7{names:List Str}(hb:env.scope.kind=.function)(hl:vs.length=2)(hv:SX vs=true)(hn:[a,b].filterMap (nameAt env a.pos.line)=names):
  swappedStores [.Tuple [a,b] k p] (.Tuple vs k' p') env=if(names.length !=2||names.eraseDups.length !=names.length)=true then pure none else pure (some names):=by
 have e:swappedStores [.Tuple [a,b] k p] (.Tuple vs k' p') env=(do
   if !([a,b].length==2||[a,b].length==3)||vs.length !=[a,b].length||env.blockKind !=.function then return none
   if vs.any (λ|.Starred ..=>true|_=>false)then return none
   if([a,b].filterMap (nameAt env a.pos.line)).length !=2||([a,b].filterMap (nameAt env a.pos.line)).eraseDups.length !=([a,b].filterMap (nameAt env a.pos.line)).length then return none
   if vs.all (foldedForSure 8)then return none
   if vs.all (constantsAlone 8)then unsupported "assign.tuple-of-constant-expressions:order-of-the-stores"
   return some ([a,b].filterMap (nameAt env a.pos.line))):=rfl
 have h1:=ao.mp hv;have h2:=ao.mp h1.1;have h3:vs.any (λ|.Starred ..=>true|_=>false)=false:=by
  rw[QX];intro x hx;have:=dC.mp h2.1 x hx;cases x<;>first|exact aq|exact nomatch this
 have h4:(!([a,b].length==2||[a,b].length==3)||vs.length !=[a,b].length||env.blockKind !=.function)=false:=by
  rw[hl];unfold Env.blockKind;rw[hb];rfl
 rw[e,hn,h4,h3,(bu _).mp h2.2,(bu _).mp h1.2];rfl
theorem VV(hb:env.scope.kind=.function)(hl:vs.length=2)(hv:SX vs=true)(h:(∀n,nameAt env n a=none)∨S6 b=none):swappedStores [.Tuple [a,b] k p] (.Tuple vs k' p') env=pure none:=by
 have z:(([a,b].filterMap (nameAt env a.pos.line)).length !=2)=true:=by
  rcases h with h|h
  ·rw[dB (h _)];exact bne_iff_ne.mpr (cb (bc (Ic _ _) (ij 1)))
  ·cases x:nameAt env a.pos.line a<;>simp[x,HK h]
 rw[X7 hb hl hv rfl,z];rfl
theorem VU{x y:Str}{q q':Pos}(hb:env.scope.kind=.function)(hl:vs.length=2)(hv:SX vs=true)(hx:env.kindOf x=some .local)(hy:env.kindOf y=some .local)(hn:x≠y)(hq:q'.line=q.line):
  swappedStores [.Tuple [.Name x q,.Name y q'] k p] (.Tuple vs k' p') env=pure (some [x,y]):=by
 have z:(!y==x)=true:=by simpa using hn.symm
 rw[X7 (names:=[x,y]) hb hl hv (by
  have e1:nameAt env q.line (.Name x q)=some x:=HJ hx;have e2:nameAt env q.line (.Name y q')=some y:=rwr hq (HJ hy);exact(cV e1).trans (congrArg _ (cV e2)))]
 simp[List.eraseDups_cons,z]
theorem P7{x y:Str}(hn:x≠y)(u v:Option MV)(z:Str):cc (iH (iH ρ x u) y v) z=cc (iH (iH ρ y v) x u) z:=by
 rw[xC,xC,xC,xC];by_cases h:z=x
 ·rw[if_pos h,if_neg (h▸hn),if_pos h]
 ·rw[if_neg h,if_neg h]
theorem Pf{x:Str}{m:MV}(h:(c.me (.Name x pos)).b m ρ=some dq):cc ρ x≠none∧dq=iH ρ x (some m):=by
 have h:(w c.X ((N.name x).gd (okN c.env.scope.names x))).1.b m ρ=some dq:=h;induction ok:okN c.env.scope.names x with
 |false=>rw[ok]at h;exact ar h rfl
 |true=>rw[ok]at h;exact(bZ.mp h).elim λov e=>⟨gH e.1,e.2.symm⟩
theorem ZK{α:Type}{l:List α}(h:2=l.length):∃x y,l=[x,y]:=by
 induction l using aF with
 |nil=>cases h
 |cons x l=>induction l using aF with
  |nil=>cases h
  |cons y l=>induction l using aF with
   |nil=>exact⟨x,y,rfl⟩
   |cons z l=>cases h
theorem ZT{x y:Str}{q q':Pos}(hw:c.own=true)(hl:vs.length=2)(hv:SX vs=true)(hx:c.env.kindOf x=some .local)(hy:c.env.kindOf y=some .local)(hn:x≠y)(hq:q'.line=q.line)(he:xp (.Tuple vs k' p')):
  Sx c (exec (.Assign [.Tuple [.Name x q,.Name y q'] k p] (.Tuple vs k' p') pos) c.env) λρ σ Q=>(c.me (.Tuple vs k' p')).e ρ σ λv aO=>(c.me (.Tuple [.Name x q,.Name y q'] k p)).g v ρ aO λdq b0=>Q .next dq b0:=λ{ρ T σ s Q R}F h kk=>by
 rw[arm_exec_Assign];refine wpAny_bind (wpAny_standAt (wpAny_bind (wpAny_of_eq (show swapsWithSole [.Tuple [.Name x q,.Name y q'] k p] (.Tuple vs k' p') pos.line c.env=pure false from rfl) (wpAny_bind (he.se c _ F h λT1 m v dE s1 t1 r1 F1 q1=>wpAny_bind (wpAny_of_eq (VU c.kind hl hv hx hy hn hq) ?_))))));induction m using MV.casesOn with
 |tup ms=>
  refine Cc (show∃dq,UM (c.ml [.Name x q,.Name y q']) ms ρ=some dq∧_ from q1) λdq q1=>?_;have len:2=ms.length:=Pg q1.1;refine iA (ZK len) λm1 m2 e=>?_
  ·subst e;induction dG.mp q1.1 with|intro Rn hb=>induction dG.mp hb.2 with|intro ρ2 hc=>
   have n1:=Pf hb.1;have n2:=Pf hc.1;have e2:dq=iH (iH ρ x (some m1)) y (some m2):=(aA hc.2).symm.trans (n2.2.trans (by rw[n1.2]))
   have hy':cc ρ y≠none:=λe=>n2.1 (by rw[n1.2,jo hn.symm];exact e)
   refine iA r1 λad ws zh=>oe zh λev tt qq=>?_;induction F1.tup tt qq with|mk ws n' dd sl g gq=>
   refine iA gq λv1 ws1 zh=>oe zh λe1 p1 rr=>?_;refine iA rr λv2 ws2 zh=>oe zh λe3 p2 rn=>?_;rw[e1,e3,show ws2=[]from rn]at g;rw[ev];show Wp c (do
    rule "assign.swapped-stores"
    let items←unpackItems (.ref ad) ([v1,v2]:List Value).toArray.size none
    assignInOrder [λv=>bindName c.env y v,λv=>bindName c.env x v] items.reverse
    pure Flow.next) _ s1
   refine wpAny_bind (wpAny_rule (wpAny_bind (unpackItems_tuple c.hr.1 (tw g) λh' hx'=>?_)));have F2:=F1.ext (s':={s1 with heap:=h'}) (λb o e=>hx' b o (cb (Heap.lt_size e)) e) rfl rfl;show Wp c ((do
    holding [v1] (bindName c.env y v2)
    holding [] (bindName c.env x v1)
    pure ())>>=λ_=>pure Flow.next) _ _
   refine wpAny_bind (wpAny_bind (wpAny_holding (wpAny_bindName (IE F2 (.inl hw) hy' p2 λs3 F3=>?_))));refine wpAny_bind (wpAny_holding (wpAny_bindName (IE F3 (.inl hw) (λe=>n1.1 ((jo hn _).symm.trans e)) p1 λs4 F4=>wpAny_pure (wpAny_pure (kk.next T1 dq dE s4 t1 (F4.ext' λz=>?_) q1.2)))));rw[e2];exact P7 hn _ _ z
 |_=>exact q1.elim
end
noncomputable def Kb(ns:aK)(ρ dq:Loc):Prop:=∀x,cc dq x=cc ρ x∨(ns.lookup x=some .local∧cc dq x≠none)
section
variable{ns:aK}{X:Ctx}{ρ Rn dq:Loc}
theorem Kb.trans(a:Kb ns ρ Rn)(b:Kb ns Rn dq):Kb ns ρ dq:=λx=>(b x).elim (λe=>rwl e (a x)) .inr
theorem Nn{ms ρ dq}(e:UM [] ms ρ=some dq):Kb ns ρ dq:=by
 induction ms using aF with
 |nil=>exact λx=>.inl (by rw[aA e])
 |cons _ _=>exact ar e rfl
theorem keeps(x:N)(h:DF ns x=true):(∀{m ρ dq},(w X x).1.b m ρ=some dq→Kb ns ρ dq)∧∀{ms ρ dq},UM (w X x).2 ms ρ=some dq→Kb ns ρ dq:=by
 induction x with
 |name y=>exact⟨λ{m ρ dq}e=>(bZ.mp e).elim λov e x=>by
  rw[←e.2];by_cases p:x=y
  ·rw[p,sr];exact .inr ⟨of_decide_eq_true h,λe=>ar e.symm rfl⟩
  ·exact .inl (jo p ρ),Nn⟩
 |tup l ih=>exact⟨λ{m ρ dq}e=>by
  induction m using MV.casesOn with
  |tup ms=>exact(ih h).2 e
  |_=>exact ar e rfl,Nn⟩
 |nil=>exact⟨λ{m ρ dq}e=>ar e rfl,Nn⟩
 |cons a r ia ir=>exact⟨λ{m ρ dq}e=>ar e rfl,λ{ms ρ dq}e=>by
  induction ms using aF with
  |nil=>exact ar e rfl
  |cons _ _=>exact(dG.mp e).elim λRn e=>((ia (ao.mp h).1).1 e.1).trans ((ir (ao.mp h).2).2 e.2)⟩
 |_=>exact absurd h aq
end
section
variable{c:Cx}{ρ dq:Loc}{T:aR}{σ:St}{s:Shared}{l:List Expr}{I D:Addr}{B:aR}{oI oD o:Obj}
theorem FI.forget(F:FI c dq T σ s)(h:∀x,cc dq x=cc ρ x∨(cc ρ x=some none∧cc dq x≠none)):FI c ρ T σ s:=
 ⟨F.1,F.2.ns.imp λm y=>⟨y.1,λx=>(h x).elim (λe=>rwr e (y.2 x)) λe=>(gQ e.2).elim λov q=>by
  have z:=y.2 x;rw[q]at z;rw[e.1];exact z.imp (λz=>⟨z.1,trivial⟩) λz=>⟨z.1,z.2.imp λk z=>⟨z.1,z.2.imp λv z=>⟨z.1,trivial⟩⟩⟩⟩,F.2.sep,F.2.G0,F.2.DL⟩
theorem a2j(l:List Expr)(o:JE l):Tx c ρ (forIn l true λe r=>if r=true then do let ok←isTrue e c.env (eval e c.env);pure (rY ok)else pure (rY r)) (ifW (c.ml l) ρ):=by
 induction l using aF with
 |nil=>exact λF h k=>wpAny_tests_nil (k.here F h)
 |cons e l=>induction l using aF with
  |nil=>exact λF h k=>wpAny_tests_one (o.hd.st c ρ F h k)
  |cons _ _=>exact λ_ h _=>h.elim
theorem HP(h:I≠D):hold (hold B I oI) D oD=hold (hold B D oD) I oI:=funext λx=>
 if p:x=D then by rw[p,fu,f7 h.symm,fu]else
 if q:x=I then by rw[f7 p,q,fu,fu]else by rw[f7 p,f7 q,f7 q,f7 p]
theorem L5.hold(h:L5 c T B)(b:B I=none):L5 c T (Mine.Internal.hold B I o):=λw x k e=>(h w x k e).imp λ_=>Dh λz=>⟨z.1,(f7 λ(p:k=I)=>ar (p:=False) z.2 (p▸b)).trans z.2⟩
end
section
variable{c:Cx}{ρ:Loc}{T:aR}{σ:St}{s:Shared}{elt target iter:Expr}{ifs:List Expr}{I D:Addr}{B:aR}{src:Src}
noncomputable def Ws(c:Cx)(ρ:Loc)(t e:Wr)(fs:List Wr)(u:MV)(σ:St)(K:Option MV→St→Prop):Prop:=
 ∃dq,t.b u ρ=some dq∧ifW fs dq σ λb b0=>br b (e.e dq b0 λr zQ=>K (some r) zQ) (K none b0)
inductive a1O (c:Cx) (ρ:Loc) (B T:aR) (I D:Addr) (src:Src) (W:List MV→List MV→St→Prop) (n:Nat) (s:Shared):Prop
 |mk (T':aR) (σ:St) (acc:List MV) (vs:List Value) (k j:Nat) (o:Obj) (e:n=src.all.length+1-j) (t:T.le T') (F:FI (c.wB (hold (hold B I o) D (cU vs k))) ρ T' σ s) (it:i' s.heap I src j)
  (r:eQ T' acc vs) (len:acc.length≤lim) (st:src.oi σ) (w:W (src.all.drop j) acc σ)
theorem QD{sc:Scope}{pos:Pos}{oI:Obj}{R:Result→Shared→Prop}{Q:List MV→St→Prop}(he:xp elt)(YL:JE ifs)(ht:Bd target)(lt:∀{c s R I src j v},i' s.heap I src j→R () s→Wp c (letOwnedTupleGo target (.ref I) v) R s)
  (hl:DF c.env.scope.names (nE c.env.scope.names target)=true) (hl':∀x,c.env.scope.names.lookup x=some .local→cc ρ x=some none)
  (hI:B I=none) (hD:B D=none) (Rc:I≠D) (fx:L5 c T B) (F:FI (c.wB (hold (hold B I oI) D (cU [] 0))) ρ T σ s) (it:i' s.heap I src 0) (st:src.oi σ)
  (h:turns (Ws c ρ (c.me target) (c.me elt) (c.ml ifs)) src src.all [] σ Q)
  (k:∀T' vs n l av s',T.le T'→FI (c.wB (hold B D (cU vs n))) ρ T' av s'→eQ T' l vs→l.length≤lim→Q l av→R (.ok .next) s'):
  codeAny (model pw c.G.w) c.A (.compLoop (.ListComp elt [⟨target,iter,ifs,0⟩] sc pos) 0 (.ref I) (.ref D) c.env) R s:=by
 refine codeAny_loop rfl (a1O c ρ B T I D src λl acc σ=>turns (Ws c ρ (c.me target) (c.me elt) (c.ml ifs)) src l acc σ Q) (λm s' hA=>?_) (src.all.length+1) (.mk T σ [] [] 0 0 oI rfl (.refl T) F it rfl (cy _) st h);induction hA with|mk T1 dE acc vs n j oI1 en t1 F1 it1 Wg Qo st1 h1=>
 have up:∀{α:Type}{t:Sem α}{P:α→Shared→Prop}{E s},Wp c t P s→wpAny (model pw c.G.w) c.A t P E s:=λh=>wpAny_mono h (λ_ _ x=>x) λ_ _ x=>x.elim;show wpAny _ c.A ((compTurn (.ListComp elt [⟨target,iter,ifs,0⟩] sc pos) 0 (.ref I) (.ref D) c.env).onRaise (λx=>do noteFrame x c.env;theTreesLotGoes x)) _ _ s'
 refine wpAny_noted (up ?_);rw[compTurn_list];have hBI:hold B D (cU vs n) I=none:=(f7 Rc).trans hI;have fx1:L5 c T1 (hold B D (cU vs n)):=(fx.up t1).hold hD;refine wpAny_bind (wpAny_standAt (wpAny_bind (HO (c:=c.wB (hold (hold B I oI1) D (cU vs n))) F1 it1 st1 (λmi v h' tk hm rm it2 W7=>?_) λh' hn hx=>?_)))
 ·have hd:=O3 hm;rw[hd.2]at h1;induction it2.live with|intro WC hI2=>induction h1 with|intro dq h1=>
  have F2:FI (c.wB (hold (hold B I WC) D (cU vs n))) ρ T1 dE {s' with heap:=h',toks:=tk}:=by
   rw[HP Rc]at F1⊢;exact F1.MU hBI fx1 (λb o hb e=>(W7.2 b hb).trans e) hI2 rfl rfl
  refine wpAny_bind (lt (c:=c) it2 (wpAny_bind (ht (c:=c.wB (hold (hold B I WC) D (cU vs n))) F2 (.inr hl) h1.1 rm λs3 F3=>wpAny_bind (a2j (c:=c.wB (hold (hold B I WC) D (cU vs n))) ifs YL F3 h1.2 λT4 b vh s4 t4 F4 q4=>?_))));have fg:∀x,cc dq x=cc ρ x∨(cc ρ x=some none∧cc dq x≠none):=λx=>((keeps _ hl).1 h1.1 x).imp_right λy=>⟨hl' x y.1,y.2⟩;have dec:src.all.length+1-(j+1)<m:=rwl en (Pt (dH hd.1) (ij j));have gI:∀{T σ s},FI (c.wB (hold (hold B I WC) D (cU vs n))) dq T σ s→s.heap.get? I=some WC:=λF=>F.1.b _ _ ((f7 Rc).trans fu);induction b with
  |false=>exact wpAny_pure ⟨rfl,_,dec,.mk T4 vh acc vs n (j+1) WC rfl (t1.trans t4) (F4.forget fg) (it2.at ((gI F4).trans hI2.symm)) (Wg.up t4) Qo q4.1 q4.2⟩
  |true=>
   refine wpAny_bind (wpAny_bind (he.se (c.wB (hold (hold B I WC) D (cU vs n))) dq F4 q4 λT5 m5 v5 qJ s5 t5 r5 F5 q5=>?_));refine wpAny_bind (append_at (F5.1.b _ _ fu) (λh6 hs6 hd6=>wpAny_pure (wpAny_pure ⟨rfl,_,dec,.mk T5 qJ (acc++[m5]) (vs++[v5]) (n+1) (j+1) WC rfl ((t1.trans t4).trans t5) ?_ (it2.at (((hs6.2 I Rc).trans (gI F5)).trans hI2.symm)) (eQ.append (.one r5) _ (Wg.up (t4.trans t5))) (by rw[aa];exact q5.2.1) q5.1 q5.2.2⟩)) ?_)
   ·exact(F5.forget fg).MU (B:=hold B I WC) (s':={s5 with heap:=h6}) ((f7 Rc.symm).trans hD) ((((fx.up t1).up t4).up t5).hold hI) (λb o hb e=>(hs6.2 b hb).trans e) (by simpa [cU]using hd6) rfl rfl
   ·rw[Wg.sz];exact ah Qo eN
 ·rw[lS (jR.mp hn)]at h1;rw[HP Rc]at F1;exact wpAny_pure (k T1 vs n acc dE _ t1 (F1.drop hBI fx1 (λb o hb e=>hx b o hb e) rfl rfl) Wg Qo h1)
end
section
variable{ns names r:aK}{x y:Str}{k:NameKind}{env:Env}{ρ:Loc}
theorem gh{α:Type}{l:List (Str×α)}{v:α}:((x,v)::l).lookup x=some v:=by rw[Di,beq_self_eq_true]
theorem eP{α:Type}{l:List (Str×α)}{v:α}(h:x≠y):((y,v)::l).lookup x=l.lookup x:=by rw[Di,beq_eq_false_iff_ne.mpr h]
theorem lookup_mem{α:Type}{ns:List (Str×α)}{x:Str}{k:α}(h:ns.lookup x=some k):(x,k)∈ns:=by
 induction ns with
 |nil=>exact ar h rfl
 |cons p r ih=>
  by_cases e:x=p.1
  ·rw[show(p::r).lookup x=some p.2 from rwl e gh]at h;rw[e,←aA h];exact .head _
  ·exact .tail _ (ih ((eP e).symm.trans h))
theorem lj(h:pO ((y,k)::r)=true):(∀p∈r,p.1≠y)∧pO r=true:=
 have h:=ao.mp h
 ⟨λp m=>of_decide_eq_true (dC.mp h.1 p m),h.2⟩
theorem rA{ns:aK}(h:pO ns=true)(p)(hp:p∈ns):ns.lookup p.1=some p.2:=by
 induction ns with
 |nil=>exact absurd hp aD
 |cons q r ih=>exact(aE.mp hp).elim (λe=>rwr e gh) λhp=>(eP ((lj h).1 p hp)).trans (ih (lj h).2 hp)
theorem HH(h:pO ((y,k)::r)=true):r.lookup y=none:=gS (p:=True) λk' e=>absurd rfl ((lj h).1 _ (lookup_mem e))
noncomputable def PL(ns:aK)(x:Str)(k:NameKind):NameKind:=if(k==NameKind.free&&ns.lookup x==some .cell)=true then .cell else k
theorem vL:∀(names:aK)(x:Str),(nc ns names).lookup x=(names.lookup x).map (PL ns x):=by
 intro zl;induction zl with
 |nil=>
  rintro x;exact rfl
 |cons zx r ih=>
  obtain⟨y,k⟩:=zx;rintro x;have e:nc ns ((y,k)::r)=(y,PL ns y k)::nc ns r:=congrArg (·::nc ns r) (by unfold PL;dsimp only;split<;>rfl)
  rw[e];exact if h:x=y then by rw[h,gh,gh];rfl else by rw[eP h,eP h];exact ih x
theorem Wc(h:k≠.free):PL ns x k=k:=if_neg λe=>h (eq_of_beq (ao.mp e).1)
theorem Tq(t:N)(h:DF names t=true):DF (nc ns names) t=true:=by
 induction t with
 |name x=>exact decide_eq_true (by rw[vL,of_decide_eq_true h];exact congrArg some (Wc NameKind.noConfusion))
 |tup l ih=>exact ih h
 |cons a r i j=>exact ao.mpr ⟨i (ao.mp h).1,j (ao.mp h).2⟩
 |nil=>exact h
 |_=>exact absurd h aq
noncomputable def a3r(ρ:Loc)(x:Str):Option NameKind→Option (Option MV)
 |some .local=>some none
 |some .free=>cc ρ x
 |_=>none
theorem C3(ρ:Loc):∀names:aK,pO names=true→∀x,cc (jc names ρ) x=a3r ρ x (names.lookup x):=by
 intro zl;induction zl with
 |nil=>
  rintro _ x;exact rfl
 |cons zx r ih=>
  obtain⟨y,k⟩:=zx;rintro h x;have ih:=ih (lj h).2 x;by_cases hx:x=y
  ·rw[hx,gh];rw[hx,HH h]at ih;induction k with
   |«local»=>exact fG
   |free=>
    show cc (jc ((y,.free)::r) ρ) y=cc ρ y;induction e:cc ρ y with
    |none=>rw[show jc ((y,.free)::r) ρ=jc r ρ from dB (by show(cc ρ y).map _=_;rw[e];rfl)];exact ih
    |some v=>rw[show jc ((y,.free)::r) ρ=(y,v)::jc r ρ from cV (by show(cc ρ y).map _=_;rw[e];rfl)];exact fG
   |_=>exact ih
  ·rw[eP hx,←ih];induction k with
   |«local»=>exact dQ hx
   |free=>induction e:cc ρ y with
    |none=>rw[show jc ((y,.free)::r) ρ=jc r ρ from dB (by show(cc ρ y).map _=_;rw[e];rfl)]
    |some v=>rw[show jc ((y,.free)::r) ρ=(y,v)::jc r ρ from cV (by show(cc ρ y).map _=_;rw[e];rfl)];exact dQ hx
   |_=>rfl
noncomputable def cellIn(env:Env)(x:Str):Str×Addr:=(x,(env.cells.lookup x).getD 0)
noncomputable def mZ(env:Env)(names:aK):List (Str×Addr):=(Am names).map (cellIn env)
theorem NH(env:Env):∀(names:aK)(acc:List Str),(∀p∈names,p.2=.free→∃c,env.cells.lookup p.1=some c)→
  (forIn names (acc.map (cellIn env)) λx cs=>do
   let(name,kind):=x
   if kind==.free then do
    let y←cellOf env name
    pure (rY ((name,y)::cs))
   else pure (rY cs):Sem (List (Str×Addr)))=pure ((Lf names acc).map (cellIn env)):=by
 intro zl;induction zl with
 |nil=>
  rintro acc _;exact rfl
 |cons zx r ih=>
  obtain⟨x,k⟩:=zx;rintro acc h;have ih:=λacc=>ih acc λp m=>h p (.tail _ m);rw[U1];induction k with
  |free=>
   obtain⟨a,e⟩:=h (x,.free) (.head _) rfl;have e2:cellIn env x=(x,a):=by unfold cellIn;rw[e];rfl
   have ih:=ih (x::acc);rw[dm,e2]at ih;have e3:cellOf env x=pure a:=by unfold cellOf;rw[show env.cells.lookup x=some a from e]
   simp only[e3];exact ih
  |_=>exact ih acc
theorem yA{scope:Scope}(h:∀p∈scope.names,p.2=.free→∃c,env.cells.lookup p.1=some c):closureFor scope env=pure (mZ env scope.names):=by
 have e:=NH env scope.names [] h;unfold closureFor;exact(congrArg (·>>=pure) e)
theorem B9:∀(names:aK)(acc:List Str),x∈Lf names acc→x∈acc∨(x,.free)∈names:=by
 intro zl;induction zl with
 |nil=>
  rintro acc h;exact .inl h
 |cons zx r ih=>
  obtain⟨y,k⟩:=zx;rintro acc h;induction k with
  |free=>exact(ih _ h).elim (λh=>(aE.mp h).elim (λe=>.inr (rwl e (.head _))) .inl) λh=>.inr (.tail _ h)
  |_=>exact(ih acc h).imp_right (.tail _)
theorem Ld:∀(names:aK)(acc:List Str),x∈acc∨(x,.free)∈names→x∈Lf names acc:=by
 intro zl;induction zl with
 |nil=>
  rintro acc h;exact h.elim id λh=>absurd h aD
 |cons zx r ih=>
  obtain⟨y,k⟩:=zx;rintro acc h;exact ih _ (h.elim (λh'=>.inl (by induction k with
  |free=>exact .tail _ h'
  |_=>exact h')) λh=>(aE.mp h).imp (λh=>by cases h;exact .head _) id)
theorem Jh{l:List Str}(h:x∈l):(l.map (cellIn env)).lookup x=some (cellIn env x).2:=by
 induction l with
 |nil=>exact absurd h aD
 |cons y r ih=>exact if e:x=y then by rw[e];exact gh else(eP e).trans (ih ((aE.mp h).resolve_left e))
theorem QG{c:Addr}(h:(mZ env names).lookup x=some c):(x,.free)∈names∧c=(cellIn env x).2:=by
 have m:=lookup_mem h;obtain⟨y,hy,e⟩:=dv.mp m;have ex:y=x:=congrArg Gq e;rw[ex]at hy e;exact⟨(B9 _ _ hy).resolve_left (aD),(congrArg Mj e).symm⟩
end
structure Cy(ns:aK)(sc:Scope)(t:N):Prop where
 kind:sc.kind=.function
 keys:pO sc.names=true
 names:∀p∈sc.names,p.2≠.cell∧(p.2=.free→ns.lookup p.1=some .cell∨ns.lookup p.1=some .free)
 loc:DF sc.names t=true
theorem IJ{ns:aK}{sc:Scope}{t:N}(h:IK ns sc t=true):Cy ns sc t:=by
 have h1:=ao.mp h;have h2:=ao.mp h1.1;have h3:=ao.mp h2.1;refine⟨of_decide_eq_true h3.1,h3.2,λp m=>?_,h1.2⟩;have h4:=ao.mp (dC.mp h2.2 p m);exact⟨of_decide_eq_true h4.1,λe=>(bK.mp h4.2).imp (λh=>(bK.mp h).elim (λh=>absurd e (of_decide_eq_true h)) of_decide_eq_true) of_decide_eq_true⟩
noncomputable def compEnv(c:Cx)(sc:Scope)(C:Addr):Env:={newEnv sc C c.env.globals (mZ c.env sc.names) c.env.qual none .none (some c.env) c.env.builtins with scope:=relabel sc c.env}
theorem sl3{o k:Option NameKind}(e:o=k)(h:k≠some .local∧k≠some .cell∧k≠some .free):o≠some .local∧o≠some .cell∧o≠some .free:=e▸h
noncomputable def wL(c:Cx)(sc:Scope)(hk:sc.kind=.function)(C:Addr)(B:aR):Cx:={c with B:=B,env:=compEnv c sc C,own:=false,kind:=hk,nf:=λ_=>rfl,uq:=λh=>absurd h aq}
section
variable{c:Cx}{ρ:Loc}{T:aR}{σ:St}{s s':Shared}{sc:Scope}{C I D x:Addr}{oI oD o:Obj}{G:GC}{B:aR}
theorem HB:(compEnv c sc C).scope.names=nc c.env.scope.names sc.names:=by
 show Gr _ _=Gr _ _;simp only[c.kind,beq_self_eq_true,Ij];rfl
theorem u6.hold(L:u6 G T B σ C)(h:C≠x):u6 G T (Mine.Internal.hold B x o) σ C:=⟨L.t,(f7 h).trans L.b,L.f,L.tab⟩
theorem Inv.YG(J:Inv G T B σ s)(L:u6 G T B σ x)(ho:s.heap.get? x=some o):Inv G T (Mine.Internal.hold B x o) σ s:=
 J.other (λb o' e=>(jq e).elim (λh=>h.1▸rwl h.2 ho) (J.b b o')) λy hy=>(gQ hy).elim λo' e=>(jq e).elim (λh=>rwl h.1 (⟨L.t,L.f,L.tab⟩)) J.held
theorem r8{y:Str}(F:FI c ρ T σ s)(h:c.env.kindOf y=some .cell∨c.env.kindOf y=some .free):∃ov k,cc ρ y=some ov∧Cell T c.env s.heap y ov k:=
 F.2.ns.elim λm z=>by
  have z:=z.2 y;induction e:cc ρ y with
  |none=>rw[e]at z;exact h.elim (λh=>absurd h z.2.1) λh=>absurd h z.2.2
  |some ov=>
   rw[e]at z;exact z.elim (λz=>Yr (rwr z.1 h)) λz=>z.2.imp' (λ_=>ov) λk z=>⟨k,rfl,z⟩
theorem NG{t:N}{m:Str→Option Value}(F:FI c ρ T σ s)(ok:Cy c.env.scope.names sc t)(hk:∀b o,s.heap.get? b=some o→s'.heap.get? b=some o)(GY:s'.os=s.os)(hg:s'.gens=s.gens)
  (fI:s.heap.get? I=none) (fD:s.heap.get? D=none) (fC:s.heap.get? C=none) (gI:s'.heap.get? I=some oI) (gD:s'.heap.get? D=some oD) (gC:s'.heap.Ns C m) (hIC:I≠C) (hDC:D≠C) (Rc:I≠D):
  FI (wL c sc ok.kind C (hold (hold (d5 c s.heap) I oI) D oD)) (jc sc.names ρ) T σ s'∧L5 (wL c sc ok.kind C (d5 c s.heap)) T (d5 c s.heap):=by
 have J:=F.toCall;have J1:Inv c.G T (d5 c s.heap) σ s':=J.grow hk (.refl T) (λ_ _=>.inl) GY hg;have lI:=J.fresh fI;have lD:=J.fresh fD;have lC:=J.fresh fC;have ko:∀x,(compEnv c sc C).kindOf x=(sc.names.lookup x).map (PL c.env.scope.names x):=λx=>(congrArg (Mo x) HB).trans (vL _ x);have cl:∀x k,(compEnv c sc C).cells.lookup x=some k→∃ov,cc ρ x=some ov∧Cell T c.env s.heap x ov k:=λx k e=>by
  have h1:=QG (show(mZ c.env sc.names).lookup x=some k from e);refine iA (r8 F ((ok.names _ h1.1).2 rfl)) λov k' zh=>rU zh λh2 h3=>?_;exact⟨ov,h2,by rw[h1.2,show(cellIn c.env x).2=k' by unfold cellIn;rw[h3.1];rfl];exact h3⟩
 have fx:L5 (wL c sc ok.kind C (d5 c s.heap)) T (d5 c s.heap):=λ_ x k e=>(cl x k e).elim λov h=>by
  induction hw:c.own with
  |true=>exact h.2.2.elim λv h'=>h'.1.elim λo g=>⟨o,.inr ⟨QZ.mpr λz=>aq ((c.nf z).symm.trans hw),(Ir (.inr ⟨hw,x,h.2.1⟩)).trans g.1⟩⟩
  |false=>exact(F.2.DL hw x k h.2.1).imp λo=>Dh λz=>⟨z.1,Zt F z.2⟩
 refine⟨⟨(J1.YG ⟨lI.t,lI.b,lI.f,lI.tab⟩ gI).YG (u6.hold ⟨lD.t,lD.b,lD.f,lD.tab⟩ Rc.symm) gD,⟨m,gC,λx=>?_⟩,(u6.hold (u6.hold ⟨lC.t,lC.b,lC.f,lC.tab⟩ hIC.symm) hDC.symm),λh=>absurd h aq,(fx.hold lI.b).hold ((f7 Rc.symm).trans lD.b)⟩,fx⟩;rw[C3 ρ _ ok.keys];show Slot T (compEnv c sc C) s'.heap m x _;have kx:=ko x;induction hx:sc.names.lookup x with
 |none=>rw[hx]at kx;exact sl3 (k:=none) kx (by decide)
 |some k=>
  rw[hx]at kx;have hm:=lookup_mem hx;induction k with
  |«local»=>exact .inl ⟨kx,trivial⟩
  |cell=>exact absurd rfl (ok.names _ hm).1
  |free=>
   have hf:=(ok.names _ hm).2 rfl;refine iA (r8 F hf) λov k' zh=>rU zh λh2 h3=>?_;show Slot T (compEnv c sc C) s'.heap m x (cc ρ x);rw[h2];refine .inr ⟨?_,k',?_,h3.2.imp λv z=>⟨z.1.imp λo=>dR (hk k' o),z.2⟩⟩
   ·rw[kx];exact hf.imp (λe=>congrArg some (if_pos (by rw[show c.env.scope.names.lookup x=some .cell from e];rfl))) λe=>congrArg some (if_neg (by rw[show c.env.scope.names.lookup x=some .free from e];decide))
   ·exact(Jh (Ld _ [] (.inr hm))).trans (by unfold cellIn;rw[h3.1];rfl)
  |globalExplicit=>exact sl3 (k:=some .globalExplicit) kx (by decide)
  |globalImplicit=>exact sl3 (k:=some .globalImplicit) kx (by decide)
theorem Inv.adopt{l:List MV}{vs:List Value}{n:Nat}(J:Inv G T (Mine.Internal.hold B D (cU vs n)) σ s)(hB:B D=none)(r:eQ T l vs)(len:l.length≤lim):Inv G T B (upd σ D (.list l)) s∧σ D=none:=by
 have up:∀x o',B x=some o'→Mine.Internal.hold B D (cU vs n) x=some o':=λx o' e=>(f7 λ(h:x=D)=>ar (p:=False) e (rwr h.symm hB)).trans e;have hD:=J.held fu;have sD:σ D=none:=gS (p:=True) λo e=>absurd rfl (J.off e hD.1 hD.2.1);have ft:∀x,n9 (upd σ D (.list l)) x→x=D∨n9 σ x:=λx f=>f.upd.elim .inr λf=>f.elim .inl λz=>iA z λ_ _ z=>Gf z.1;refine⟨⟨J.t,λb o e=>J.b b o (up b o e),J.base,λx hx=>(gQ hx).elim λo e=>J.tb x (gH (up x o e)),λa mo e=>?_,λx f=>(ft x f).elim (λh=>⟨rwl h hD.1,rwl h hB⟩) λf=>⟨(J.sep x f).1,gS (p:=True) λo e=>ar (up x o e) (J.sep x f).2⟩,λd C fs e=>?_,J.tab,
  λq hq=>⟨(J.oh q hq).1,gS (p:=True) λo e=>ar (up _ o e) (J.oh q hq).2.1,λf=>(ft _ f).elim (hD.2.2 q hq) (J.oh q hq).2.2⟩,J.os,J.gens⟩,sD⟩
 ·by_cases h:a=D
  ·rw[h,ak]at e;rw[h,←aA e];exact .mk vs n (J.b D _ fu) r len
  ·rw[aC h]at e;exact J.obj a mo e
 ·by_cases h:d+1=D
  ·rw[h,ak]at e;exact Gf (aA e)
  ·rw[aC h]at e;by_cases h2:d=D
   ·exact absurd (.inr ⟨C,fs,rwr h2 e⟩) hD.2.1
   ·rw[aC h2];exact J.PZ d C fs e
end
section
variable{c:Cx}{ρ:Loc}{T:aR}{σ:St}{s s':Shared}{sc:Scope}{C I D x:Addr}{oI oD o:Obj}{elt target iter:Expr}{ifs:List Expr}{pos p:Pos}
noncomputable def Kc(c:Cx)(ρ:Loc)(T:aR)(Q:bw)(P:Value→Addr→Shared→Prop):Prop:=
 ∀T' D C oC av s' mC,T.le T'→FI (c.wB (hold c.B C oC)) ρ T' av s'→c.B C=none→s'.heap.Ns C mC→Q (.ref D) av→P (.ref D) C s'
theorem HZ{use:Option (Value→Sem Unit)}{Q:bw}{R:Value→Shared→Prop}(hf:a9 iter.ctorIdx 7=false)(hi:xp iter)(he:xp elt)(YL:JE ifs)(ht:Bd target)
  (lt:∀{c s R I src j v},i' s.heap I src j→R () s→Wp c (letOwnedTupleGo target (.ref I) v) R s) (ok:Cy c.env.scope.names sc (nE (nc c.env.scope.names sc.names) target)) (F:FI c ρ T σ s)
  (h:(XE c.X (w c.X (nE (nc c.env.scope.names sc.names) elt)).1
   ((w c.X (nE (nc c.env.scope.names sc.names) target)).1::c.me iter::(w c.X (nA (nc c.env.scope.names sc.names) ifs)).2) sc.names).e ρ σ Q)
  (k:Kc c ρ T Q λv C s'=>compPost (model pw c.G.w) c.A noE use R v C (.ok .next) s'):
  Wp c (comprehension (.ListComp elt [⟨target,iter,ifs,0⟩] sc pos) sc c.env p (newList []) false (eval iter c.env) use) R s:=by
 have a1k:∀p∈sc.names,p.2=.free→∃a,c.env.cells.lookup p.1=some a:=λp hp e=>(r8 F ((ok.names p hp).2 e)).elim λov z=>z.imp λa z=>z.2.1;refine wpAny_comprehension_free (g:=⟨target,iter,ifs,0⟩) (gs:=[]) (cl:=mZ c.env sc.names) rfl (λx=>HS hf) (yA a1k) ok.kind (λx hx e=>by rw[rA ok.keys x hx,e]) ?_
 refine hi.se c ρ F h λT1 m v dE s1 t1 r1 F1 q1=>q1.elim λsrc q1=>E9 F1 r1 q1.1 λoI hit Xc YD=>?_;refine wpAny_newObj_type (wpAny_newFunctionEnv (λx hx=>(ok.names x hx).1) (λy hy=>absurd hy aD) (λDG Nv Nu=>?_) ok.kind);dsimp only at Nv Nu⊢;have z1:(s1.heap.push oI).objs.size=s1.heap.objs.size+1:=Heap.size_push ..;generalize hH2:(s1.heap.push oI).push {cls:=.type "list",dict:=none,data:=.seq ([]:List Value).toArray}=H2 at Nv Nu⊢;have hC:H2.objs.size=s1.heap.objs.size+2:=by rw[←hH2,Heap.size_push,z1]
 have hDC:(s1.heap.push oI).objs.size≠H2.objs.size:=by rw[hC,z1];exact cb (ij _)
 have hIC:s1.heap.objs.size≠H2.objs.size:=by rw[hC];exact cb (dH (ij _))
 have Rc:s1.heap.objs.size≠(s1.heap.push oI).objs.size:=by rw[z1];exact cb (ij _)
 have up:∀b o,b≠H2.objs.size→H2.get? b=some o→DG.get? b=some o:=λb o hb e=>Nu.extBut b o hb (Heap.get?_push_of_some _ e);have old:∀b o,s1.heap.get? b=some o→DG.get? b=some o:=λb o e=>up b o (cb (by rw[hC];exact dH (dH (Heap.lt_size e)))) (by rw[←hH2];exact Heap.get?_push_of_some _ (Heap.get?_push_of_some _ e))
 have gI:DG.get? s1.heap.objs.size=some oI:=up _ _ hIC (by rw[←hH2];exact Heap.get?_push_of_some _ Xc)
 have gD:DG.get? (s1.heap.push oI).objs.size=some (cU [] 0):=up _ _ hDC (by rw[←hH2];exact Heap.get?_push_size _ rfl)
 have fr:∀a,s1.heap.objs.size≤a→s1.heap.get? a=none:=λa=>Heap.get?_none_of_le;have fI:=fr _ (cM _);have fD:=fr (s1.heap.push oI).objs.size (by rw[z1];exact iF _)
 have fC:=fr H2.objs.size (by rw[hC];exact bq _ _)
 have CF:=NG (s':={s1 with heap:=DG,toks:=s1.toks+([]:List (Str×Value)).length}) F1 ok old rfl rfl fI fD fC gI gD Nv hIC hDC Rc;generalize H2.objs.size=C at*;generalize(s1.heap.push oI).objs.size=D at*;generalize s1.heap.objs.size=I at*;have J:=F1.toCall;have nI:=(J.fresh fI).b;have nD:=(J.fresh fD).b;have nC:=(J.fresh fC).b;have a1f:i' DG I src 0:=hit.at (gI.trans Xc.symm);have en:(compEnv c sc C).scope.names=nc c.env.scope.names sc.names:=HB;have q3:turns (Ws (wL c sc ok.kind C (d5 c s1.heap)) (jc sc.names ρ) ((wL c sc ok.kind C (d5 c s1.heap)).me target) ((wL c sc ok.kind C (d5 c s1.heap)).me elt) ((wL c sc ok.kind C (d5 c s1.heap)).ml ifs)) src src.all [] dE λl b0=>fe l b0 Q:=by
  show turns (Ws _ _ (w _ (nE (compEnv c sc C).scope.names target)).1 (w _ (nE (compEnv c sc C).scope.names elt)).1 (w _ (nA (compEnv c sc C).scope.names ifs)).2) _ _ _ _ _;rw[en];exact q1.2
 have hl:DF (compEnv c sc C).scope.names (nE (compEnv c sc C).scope.names target)=true:=by rw[en];exact Tq _ ok.loc
 have loop:codeAny (model pw c.G.w) c.A (.compLoop (.ListComp elt [⟨target,iter,ifs,0⟩] sc pos) 0 (.ref I) (.ref D) (compEnv c sc C)) (compPost (model pw c.G.w) c.A noE use R (.ref D) C) {s1 with heap:=DG,toks:=s1.toks+([]:List (Str×Value)).length}:=by
  refine QD (c:=wL c sc ok.kind C (d5 c s1.heap)) he YL ht lt hl (λx hx=>?_) nI nD Rc CF.2 CF.1 a1f YD q3 λT2 vs kk l dp s2 t2 F5 rl len q2=>?_
  ·have hx:(compEnv c sc C).scope.names.lookup x=some .local:=hx;rw[en,vL]at hx;obtain⟨kd,e1,e2⟩:=bZ.mp hx;have e3:kd=.local:=by
    unfold PL at e2;split at e2
    ·cases e2
    ·exact e2
   rw[C3 ρ _ ok.keys,e1,e3];rfl
  ·have Z:=Inv.adopt (B:=d5 c s1.heap) (l:=l) F5.1 nD rl len;have lC:=F5.2.sep;have dD:=F5.1.held fu;have G6:=F1.called t2 Z.1;induction F5.2.ns.choose_spec.1 with|intro oC y=>induction y with|intro es y=>induction y with|intro ep y=>
   have gC:s2.heap.get? C=some oC:=y.1;have bC:c.B C=none:=(F1.1.fresh fC).b;have G7:FI (c.wB (hold c.B C oC)) ρ T2 (upd dp D (.list l)) s2:=G6.exB (λb o e=>(jq e).elim (λh=>h.1▸rwl h.2 gC) (G6.1.b b o)) (λx o e=>(jq e).elim (λh=>by
     rw[h.1];exact⟨lC.t,λf=>f.upd.elim lC.f λf=>f.elim (λe=>hDC e.symm) λz=>iA z λ_ _ z=>Gf z.1,lC.tab,λm=>(F1.BW m).2.elim λ_ z=>ar z fC⟩) G6.HR) ((L5.up (Ao F1) t2).hold bC)
   exact k T2 D C oC _ s2 _ (t1.trans t2) G7 bC ⟨oC,es,ep,y⟩ (q2 D Z.2)
 refine codeAny_compStart_list loop ?_;induction src with
 |items l=>exact a1f.elim λz hz=>wpAny_pyIter_rangeiter hz.2.2 loop
 |list a l=>exact wpAny_pyIter_listiter a1f loop
end
section
variable{c:Cx}{ρ:Loc}{T:aR}{σ:St}{s s':Shared}{sc:Scope}{elt target iter:Expr}{ifs:List Expr}{pos p:Pos}
noncomputable def Cx.mc(c:Cx)(sc:Scope)(elt target iter:Expr)(ifs:List Expr):Wr:=XE c.X (w c.X (nE (nc c.env.scope.names sc.names) elt)).1
 ((w c.X (nE (nc c.env.scope.names sc.names) target)).1::c.me iter::(w c.X (nA (nc c.env.scope.names sc.names) ifs)).2) sc.names
structure Y7(elt target iter:Expr)(ifs:List Expr):Prop where
 hf:a9 iter.ctorIdx 7=false
 hi:xp iter
 he:xp elt
 YL:JE ifs
 ht:Bd target
 lt:∀{c s R I src j v},i' s.heap I src j→R () s→Wp c (letOwnedTupleGo target (.ref I) v) R s
theorem Rx(P:Y7 elt target iter ifs)(ok:Cy c.env.scope.names sc (nE (nc c.env.scope.names sc.names) target)):Ex c ρ (eval (.ListComp elt [⟨target,iter,ifs,0⟩] sc pos) c.env) ((c.mc sc elt target iter ifs).e ρ):=λ{T σ s Q R}F h k=>
 HZ P.hf P.hi P.he P.YL P.ht P.lt ok F h λT' D C oC av s' mC t F' hB hn q=>⟨mC,hn,λh' hs=>k T' (.ref D) _ av _ t rfl (F'.drop hB ((Ao F).up t) hs.extBut rfl rfl) q⟩
theorem Su{x:Str}{q:Pos}(hw:c.own=true)(P:Y7 elt target iter ifs)(ok:Cy c.env.scope.names sc (nE (nc c.env.scope.names sc.names) target)):
  Sx c (exec (.Assign [.Name x q] (.ListComp elt [⟨target,iter,ifs,0⟩] sc p) pos) c.env) λρ σ Q=>(c.mc sc elt target iter ifs).e ρ σ λv aO=>(c.me (.Name x q)).g v ρ aO λdq b0=>Q .next dq b0:=λ{ρ T σ s Q R}F h k=>by
 have gn:∀{B:aR},Gx (c.wB B) (.Name x q) (c.me (.Name x q)).g:=λ{B ρ T σ s m v Q R}F r h k=>by
  have h:(w c.X ((N.name x).gd (okN c.env.scope.names x))).1.g m ρ σ Q:=h;induction e:okN c.env.scope.names x with
  |false=>rw[e]at h;exact h.elim
  |true=>rw[e]at h;exact Ub (c:=c.wB B) hw F r h k
 rw[arm_exec_Assign];obtain⟨b,hb⟩:∃b,swapsWithSole [.Name x q] (.ListComp elt [⟨target,iter,ifs,0⟩] sc p) pos.line c.env=pure b:=⟨_,rfl⟩;refine wpAny_bind (wpAny_standAt (wpAny_bind (wpAny_of_eq hb ?_)));induction b with
 |false=>
  show Wp c (do
   let v←eval (.ListComp elt [⟨target,iter,ifs,0⟩] sc p) c.env
   assignStores c.env v (←swappedStores [.Name x q] (.ListComp elt [⟨target,iter,ifs,0⟩] sc p) c.env) [assign (.Name x q) c.env]) _ s
  refine wpAny_bind (Rx P ok F h λT1 m v dE s1 t1 r1 F1 q1=>wpAny_bind (wpAny_of_eq (show swappedStores [.Name x q] (.ListComp elt [⟨target,iter,ifs,0⟩] sc p) c.env=pure none from rfl) ?_));exact wpAny_bind (show Wp c (assign (.Name x q) c.env v) _ s1 from gn (B:=c.B) F1 r1 q1 λT2 ρ2 dp s2 t2 F2 q2=>wpAny_pure (k.next T2 ρ2 dp s2 (t1.trans t2) F2 q2))
 |true=>
  show Wp c ((comprehension (.ListComp elt [⟨target,iter,ifs,0⟩] sc p) sc c.env iter.pos (newList []) false (eval iter c.env) (some λv=>assignAll v [assign (.Name x q) c.env])>>=λ_=>pure ())>>=λ_=>pure Flow.next) _ s;refine wpAny_bind (wpAny_bind (HZ P.hf P.hi P.he P.YL P.ht P.lt ok F h λT' D C oC av s' mC t F' hB hn q1=>?_));have gC:s'.heap.get? C=some oC:=F'.1.b _ _ fu;show Wp c (assign (.Name x q) c.env (.ref D)) _ s';refine gn (B:=hold c.B C oC) F' (m:=.ref D) rfl q1 λT2 ρ2 dp s2 t2 F2 q2=>⟨mC,hn.elim λo y=>y.elim λes y=>y.elim λep z=>⟨o,es,ep,(F2.1.b C oC fu).trans (gC.symm.trans z.1),z.2⟩,λh' hs=>wpAny_pure (wpAny_pure ?_)⟩;exact k.next T2 ρ2 dp _ (t.trans t2) (F2.drop hB ((Ao F).up (t.trans t2)) hs.extBut rfl rfl) q2
end
theorem II{ns names:aK}(h:M4 ns names=true):∀p∈names,p.2=.free→ns.lookup p.1=some .cell∨ns.lookup p.1=some .free:=λp m e=>
 (bK.mp (dC.mp h p m)).imp (λh=>(bK.mp h).elim (λh=>absurd e (of_decide_eq_true h)) of_decide_eq_true) of_decide_eq_true
theorem CM{a:Arguments}(h:TA a=true):a=⟨[],a.args,none,[],[],none,[]⟩:=by
 have h1:=ao.mp h;have h2:=ao.mp h1.1;have h3:=ao.mp h2.1;have h4:=ao.mp h3.1;have h5:=ao.mp h4.1;cases a with|mk a1 a2 a3 a4 a5 a6 a7=>
 rw[show a1=[]from cj.mp h5.1,show a3=none from eO.mp h5.2,show a4=[]from cj.mp h4.2,show a5=[]from cj.mp h3.2,show a6=none from eO.mp h2.2,show a7=[]from cj.mp h1.2]
theorem Ob{t u:Tok}{i j:Int}{v:Value}:∀{l:List Value},TriplesOk l→TriplesOk (l++[.int i t,.int j u,v])∧∀{pos cv},codeAmong pos (l++[.int i t,.int j u,v])=some cv→codeAmong pos l=some cv∨cv=v
 |[],_=>⟨trivial,λ{pos cv}h=>by
  have h:(if(i==pos.line&&j==pos.col)=true then some v else none)=some cv:=h;split at h
  ·exact .inr (aA h).symm
  ·exact ar h rfl⟩
 |.int _ _::.int _ _::c::r,h=>have ih:=Ob (l:=r) h;⟨ih.1,λ{pos cv}h=>by
  simp only[bH,codeAmong]at h⊢;split at h
  ·rename_i hc;exact .inl (by rw[if_pos hc];exact h)
  ·rename_i hc;rw[if_neg hc];exact ih.2 h⟩
section
variable{c:Cx}{ρ:Loc}{T:aR}{σ:St}{s s':Shared}{P c':Addr}{q:Str}{ps:Array Value}{v:Value}{t u:Tok}{i j:Int}
theorem H8.grow{T T':aR}{h':Heap}{P:Addr}{q:Str}{ps:Array Value}{v:Value}{t u:Tok}{i j:Int}(ht:TriplesOk ps.toList)(hc:∀pos cv,codeAmong pos ps.toList=some cv→oH T cv q)(hT:T.le T')(g:h'.get? P=some (tabObj (ps++#[.int i t,.int j u,v])))(hv:oH T' v q):H8 T' h' P q:=
 have y:=Ob (t:=t) (u:=u) (i:=i) (j:=j) (v:=v) ht
 ⟨_,g,by rw[ye];exact y.1,λpos cv e=>(y.2 (pos:=pos) (by rw[ye]at e;exact e)).elim (λe=>(hc pos cv e).mono hT) λe=>rwl e hv⟩
theorem LA{ns:aK}{env:Env}{ρ:Loc}(h:∀x v,cc ρ x=some (some v)→(x,NameKind.free)∈ns→∃k u,env.cells.lookup x=some k∧uk T k u∧VR T v u):
  ∀{l:List Str}{ms:List MV},(∀x∈l,(x,NameKind.free)∈ns)→Lb ρ l=some ms→∃vs,pz T (l.map (cellIn env)) l vs∧eQ T ms vs
 |[],ms,_,e=>⟨[],⟨rfl,rfl⟩,by rw[←aA e];rfl⟩
 |x::r,ms,hx,e=>by
  refine(dG.mp e).elim λov xP=>xP.elim λe1 e2=>?_;refine(dG.mp e2).elim λm xP=>xP.elim λe3 e4=>?_;refine(bZ.mp e4).elim λms' xP=>xP.elim λe5 e6=>?_;refine(h x m (rwr e3 e1) (hx x (.head _))).elim λk xP=>xP.elim λu JX=>JX.elim λh1 JW=>JW.elim λh2 h3=>?_;refine(LA h (λy m=>hx y (.tail _ m)) e5).elim λus xP=>xP.elim λh4 h5=>?_;rw[←e6];exact⟨u::us,⟨u,r,us,rfl,rfl,by rw[show cellIn env x=(x,k) by unfold cellIn;rw[h1];rfl];exact h2,h4⟩,u,us,rfl,h3,h5⟩
theorem a2o{a:Arguments}{b:Expr}{sc:Scope}{pos:Pos}(h1:TA a=true)(h2:sc.kind=.function)(h3:sc.isCoroutine=false)(h4:sc.isGenerator=false)(h5:M4 c.env.scope.names sc.names=true)(h6:SY sc.names (a.args.map (·.arg))=true):
  Ex c ρ (eval (.Lambda a b sc pos) c.env) λσ Q=>(c.X).lam∧gv (Lb ρ (Am sc.names)) λvs=>Q (.Fw (a.args.map (·.arg)) (nE sc.names b) (Am sc.names) vs) σ:=λ{T σ s Q R}F h k=>by
 have hz:c.fz=true:=h.1;induction c.lc hz with|intro cd y=>induction y with|intro P y=>
 have hh:=y.2.2 s.heap λb o e=>F.1.t b o (F.1.base b o e);induction hh.2 with|intro mg hg=>
 refine gv.cases h.2 λms zK q=>?_;have YM:=II h5;have cell:∀x v,cc ρ x=some (some v)→(x,NameKind.free)∈sc.names→∃k u,c.env.cells.lookup x=some k∧uk T k u∧VR T v u:=λx v e m=>by
  refine(r8 F (YM _ m rfl)).elim λov xP=>xP.elim λk JX=>JX.elim λe2 JW=>JW.elim λek Vq=>Vq.elim λcv zq5=>zq5.elim λhc ho=>?_;rw[aA (e2.symm.trans e)]at ho;refine ho.elim λu xP=>xP.elim λeu r=>?_;refine(F.2.DL (c.nf hz) x k ek).elim λo hT=>?_;have hT:T k=some o:=hT.elim id λz=>absurd (z.1.symm.trans hz) aq;exact⟨k,u,ek,⟨o,hT,hc.elim λo' z=>by rw[aA ((F.1.t _ _ hT).symm.trans z.1),z.2,eu]⟩,r⟩
 refine(LA cell (λx m=>(B9 _ _ m).resolve_left aD) zK).elim λvs xP=>xP.elim λYN JK=>?_;have Qn:closureFor sc c.env=pure (mZ c.env sc.names):=yA λp m e=>(r8 F (YM p m e)).elim λov z=>z.imp λk z=>z.2.1;have a1d:∀(fd:FuncData),fd.params=a→fd.body=.expr b→fd.scope=sc→fd.globals=mainGlobals→fd.closure=mZ c.env sc.names→fd.builtins=builtinsNs→fd.defaults=.none→UX fd (a.args.map (·.arg)) (nE sc.names b) (mZ c.env sc.names):=
  λfd p1 p2 p3 p4 p5 p6 p7=>⟨a.args,b,sc.names,sc.more,p1.trans (CM h1),rfl,p2,rfl,p3.trans (by induction sc with|mk a1 a2 a3 a4 a5=>rw[show a1=_ from h2,show a3=_ from h4,show a4=_ from h3]),p4,p5,p6,p7,h6,by unfold mZ;rw[jI];exact List.map_id _⟩
 have last:∀{T1:aR}{s1:Shared}{fd:FuncData},T.le T1→FI c ρ T1 σ s1→oH T1 fd.code fd.qualname→UX fd (a.args.map (·.arg)) (nE sc.names b) (mZ c.env sc.names)→R (.ref s1.heap.objs.size) {s1 with heap:=s1.heap.push {cls:=.type "function",data:=.func fd}}:=λ{T1 s1 fd}t F1 OU L=>
  (F1.note (s':={s1 with heap:=s1.heap.push {cls:=.type "function",data:=.func fd}}) (λb o e=>Heap.get?_push_of_some _ e) (dT _) (Heap.get?_push_size _ rfl) rfl rfl).elim λT2 z=>
   k T2 (.Fw _ _ _ ms) _ σ _ (t.trans z.1) ⟨_,_,fd,_,vs,rfl,z.2.1,rfl,L,OU.mono z.1,pz.mono (t.trans z.1) YN,JK.up (t.trans z.1)⟩ z.2.2 q
 induction F.1.tab _ y.2.1.1 with|intro ps hp=>
 rw[CM h1]at a1d⊢;show Wp c (makeFunction "<lambda>" (c.env.qual++"<lambda>") ⟨[],a.args,none,[],[],none,[]⟩ (.expr b) sc c.env [] [] [] pos pos.line) R s;induction hf:codeAmong pos ps.toList with
 |some cv=>
  refine kla_makeFunctionHit Qn c.gl hg.1 y.1 hh.1 hp.1 hp.2.1 hf hg.2 λctv h' tk hk xD=>?_;exact last (s1:={s with heap:=h',toks:=tk}) (.refl T) (F.ext hk rfl rfl) (hp.2.2 pos cv hf) (a1d _ rfl rfl rfl rfl rfl rfl rfl)
 |none=>
  have tP:=F.1.oh _ y.2.1.1;have hgP:mainGlobals≠P:=λe=>by induction c.W.Ua with|mk o es ep e1=>exact ar (e▸F.1.base _ _ e1) tP.1
  refine kla_makeFunction Qn c.gl hg.1 y.1 hh.1 hp.1 hp.2.1 hf hgP hg.2 λc' ctv h' tk hx hge DK DI htb=>?_;induction DI with|intro c2 DI=>induction DI with|intro oc DI=>induction DI with|intro ws DI=>induction DI with|intro tq DI=>
  have fc:s.heap.get? c'=none:=Heap.get?_none_of_le hge;have gc:h'.get? c'=some oc:=(congrArg h'.get? (Value.ref.inj DI.1)).trans DI.2.1;have hT:T.le λb=>if b=c' then some oc else T b:=λb o' e=>(if_neg λ(h:b=c')=>ar (p:=False) e (rwl h ((F.1.fresh fc).t))).trans e;have OU:oH (λb=>if b=c' then some oc else T b) (.ref c') (c.env.qual++"<lambda>"):=⟨c',oc,ws,tq,rfl,if_pos rfl,DI.2.2.1,DI.2.2.2⟩;have nP:∀x,n9 σ x→x≠P:=λx f e=>tP.2.2 (rwr e f);refine last (s1:={s with heap:=h',toks:=tk}) hT (F.step (P:=(·=P)) hT (λb o' e=>?_) (λx p=>⟨rwl p tP.1,rwl p tP.2.1,λq' hq'=>?_⟩) (F.2.sep.tab _ y.2.1.1∘a2i) (λx k e p=>?_) (λx o p=>hx x o p) (λ_=>.inl) (λa mo e=>.inl ⟨e,F.1.off e tP.1 tP.2.2,λC fs d q r=>nP d (.inr ⟨C,fs,r▸rwr q e⟩)⟩) F.1.PZ rfl rfl) OU (a1d _ rfl rfl rfl rfl rfl rfl rfl)
  ·by_cases h:b=c'
   ·exact .inr (rwl h (⟨fc,gc.trans ((if_pos h).symm.trans e)⟩))
   ·exact .inl ((if_neg h).symm.trans e)
  ·by_cases h:q'.1=P
   ·rw[h,y.2.1.2 q' hq' h];exact .inr (H8.grow hp.2.1 hp.2.2 hT htb OU)
   ·exact .inl (rwl p h)
  ·exact(F.2.DL (c.nf hz) x k e).elim λo z=>z.elim (λz=>ar (p▸z) tP.1) λz=>absurd (hz.symm.trans z.1) nofun
end
structure Gp(c:Cx)(e:Expr)(W:Wr):Prop where
 se:∀ρ,Ex c ρ (eval e c.env) (W.e ρ)
 st:∀ρ,Tx c ρ (isTrue e c.env (eval e c.env)) (W.t ρ)
 sc:∀ρ(l:List Expr)(pos:Pos)(fs:List Wr),l.length<20→noStar l=true→(e.pos.endLine==pos.line)=true→(∀pos,Ax c ρ (spliced (backTo pos (starEach l c.env))) (aW fs ρ))→Ex c ρ (eval (.Call e l [] pos) c.env) λσ Q=>W.c ρ σ λwy aO=>aW fs ρ aO λvs b0=>P6 c.X wy vs b0 Q
 sg:c.own=true→Gx c e W.g
 sb:∀{ρ dq T σ s m v}{R:Unit→Shared→Prop},FI c ρ T σ s→Vf c (nE c.env.scope.names e)→W.b m ρ=some dq→VR T m v→(∀s',FI c dq T σ s'→R () s')→Wp c (assign e c.env v) R s
noncomputable def sV(e:Expr):Prop:=∀c:Cx,Gp c e (c.me e)
noncomputable def JD(l:List Expr):Prop:=∀e∈l,sV e
theorem sV.ok{e:Expr}(h:sV e):xp e:=⟨λc=>(h c).se,λc=>(h c).st,λc=>(h c).sc⟩
theorem sV.bd{e:Expr}(h:sV e):Bd e:=λ{c ρ dq T σ s m v R}F o b r k=>(h c).sb F o b r k
theorem JD.ok{l:List Expr}(h:JD l):JE l:=λe m=>(h e m).ok
section
variable{c:Cx}{e:Expr}{W:Wr}{f:Loc→St→bw→Prop}{t:Loc→St→(Bool→St→Prop)→Prop}{g:MV→Loc→St→(Loc→St→Prop)→Prop}{b:MV→Loc→Option Loc}{x:N}
theorem Gp.bad:Gp c e .bad:=⟨λ_ _ _ _ _ _ _ h=>h.elim,λ_ _ _ _ _ _ _ h=>h.elim,λ_ _ _ _ _ _ _ _ _ _ _ _ _ _ h=>h.elim,λ_ _ _ _ _ _ _ _ _ _ _ h=>h.elim,λ_ _ h=>ar h rfl⟩
theorem Gp.gd{o:Bool}(h:o=true→Gp c e (w c.X x).1):Gp c e (w c.X (x.gd o)).1:=by
 induction o with
 |true=>exact h rfl
 |false=>exact .bad
noncomputable abbrev UY(e:Expr):Prop:=∀(l:List Expr)(pos:Pos)(env:Env),eval (.Call e l [] pos) env=(do callWith pos (←eval e env) [] (backTo pos (starEach l env)) (backToKw pos []))
noncomputable abbrev US(e:Expr):Prop:=∀env(v:Sem Value),isTrue e env v=(do let v←v;standAt e.pos;holding [v] (truthy v))
theorem R6{ρ:Loc}{f:St→bw→Prop}(h:Ex c ρ (eval e c.env) f)(ht:US e):Tx c ρ (isTrue e c.env (eval e c.env)) λσ Q=>f σ λv aO=>ze v λb=>Q b aO:=λF q k=>
 wpAny_isTrue_value (h F q λT1 m v dE s1 t1 r1 F1 q1=>E6 r1 q1 λb q=>k T1 b dE s1 t1 F1 q) (ht c.env _)
theorem Gp.q(h:∀ρ,Ex c ρ (eval e c.env) (f ρ))(ht:∀ρ,Tx c ρ (isTrue e c.env (eval e c.env)) (t ρ))(hc:UY e):Gp c e (.q f t):=
 ⟨h,ht,λρ l pos fs hl hn hp ha=>a4l hn (h ρ) ha (hc l pos c.env),λ_ _ _ _ _ _ _ _ _ _ _ h=>h.elim,λ_ _ h=>ar h rfl⟩
theorem Gp.v(h:∀ρ,Ex c ρ (eval e c.env) (f ρ))(ht:US e)(hc:UY e):Gp c e (.v f):=.q h (λρ=>R6 (h ρ) ht) hc
theorem Gp.RF(h:Gp c e W)(hg:c.own=true→Gx c e g):Gp c e {W with g:=g}:=⟨h.se,h.st,h.sc,hg,h.sb⟩
theorem Gp.X1(h:Gp c e W)(hb:∀{ρ dq T σ s m v}{R:Unit→Shared→Prop},FI c ρ T σ s→Vf c (nE c.env.scope.names e)→b m ρ=some dq→VR T m v→(∀s',FI c dq T σ s'→R () s')→Wp c (assign e c.env v) R s):Gp c e {W with b:=b}:=⟨h.se,h.st,h.sc,h.sg,hb⟩
theorem Gp.a5S{k:Loc→St→(Way→St→Prop)→Prop}(h:Gp c e W)(hk:∀ρ(l:List Expr)(pos:Pos)(fs:List Wr),l.length<20→noStar l=true→(e.pos.endLine==pos.line)=true→(∀pos,Ax c ρ (spliced (backTo pos (starEach l c.env))) (aW fs ρ))→Ex c ρ (eval (.Call e l [] pos) c.env) λσ Q=>k ρ σ λwy aO=>aW fs ρ aO λvs b0=>P6 c.X wy vs b0 Q):Gp c e {W with c:=k}:=⟨h.se,h.st,hk,h.sg,h.sb⟩
end
section
variable{a b e t f o i:Expr}{l:List Expr}{pos:Pos}
theorem SV(h:∀ns,nE ns e=.bad):sV e:=λc=>by
 unfold Cx.me;rw[h];exact .bad
theorem a0j{k:Const}{n:Nat}:sV (.Constant k n pos):=λc=>.v (λρ=>a2p) (λ_ _=>rfl) λ_ _ _=>rfl
theorem Wu{x:Str}:sV (.Name x pos):=λc=>.gd λh=>((Gp.v (λρ=>Zh h) (λ_ _=>rfl) λ_ _ _=>rfl).RF λhw=>Ub hw).X1 λF ok hb r k=>UQ F (by have ok:Vf c ((N.name x).gd (okN c.env.scope.names x)):=ok;rw[h]at ok;exact ok) hb r k
theorem a0l{op:BoolOp}(h:JD l):sV (.BoolOp op l pos):=λc=>.q (λρ=>a2k l h.ok) (λρ=>a2D l h.ok) λ_ _ _=>rfl
theorem a0m{op:Operator}(ha:sV a)(hb:sV b):sV (.BinOp a op b pos):=λc=>.v (λρ=>Vv ha.ok hb.ok) (λ_ _=>rfl) λ_ _ _=>rfl
theorem a27(ht:sV t)(ha:sV a)(hb:sV b):sV (.IfExp t a b pos):=λc=>.q (λρ=>Vu ht.ok ha.ok hb.ok) (λρ=>VT ht.ok ha.ok hb.ok) λ_ _ _=>rfl
theorem a26{op:UnaryOp}(ha:sV a):sV (.UnaryOp op a pos):=by
 induction op with
 |USub=>exact λc=>.q (λρ=>Zg ha.ok) (λρ=>R6 (Zg ha.ok) λ_ _=>rfl) λ_ _ _=>rfl
 |Not=>exact λc=>.q (λρ=>Zg ha.ok) (λρ=>a2G ha.ok) λ_ _ _=>rfl
 |_=>exact SV λ_=>rfl
theorem a0k{ops:List CmpOp}(ha:sV a)(hl:JD l):sV (.Compare a ops l pos):=λc=>.gd λh=>.q (λρ=>a2q ((bu _).mp h) ha.ok hl.ok) (λρ=>a2I ((bu _).mp h) ha.ok hl.ok) λ_ _ _=>rfl
theorem Wy{ks:List Keyword}(hf:sV f)(hl:JD l):sV (.Call f l ks pos):=λc=>.gd λh=>by
 have h1:=ao.mp h;have h2:=ao.mp h1.2;have h3:=ao.mp h2.2;rw[cj.mp h1.1];exact .v (λρ=>(hf c).sc ρ l pos (c.ml l) (of_decide_eq_true h2.1) h3.1 h3.2 λpos=>Mz l hl.ok h3.1 pos) (λ_ _=>rfl) λ_ _ _=>rfl
theorem Wz{x:Str}(ho:sV o):sV (.Attribute o x pos):=λc=>.gd λh=>by
 have hc:=(bu _).mp h;exact⟨λρ=>Ry hc ho.ok,λρ=>R6 (Ry hc ho.ok) λ_ _=>rfl,λρ l pos fs hl hn hp ha=>a1B hn hl hp hc ho.ok ha,λ_=>a1n ho.ok,λ_ _ h=>ar h rfl⟩
theorem a0h(ho:sV o)(hi:sV i):sV (.Subscript o i pos):=λc=>(Gp.v (λρ=>a2m ho.ok hi.ok) (λ_ _=>rfl) λ_ _ _=>rfl).RF λ_=>a37 ho.ok hi.ok
theorem Wv(hl:JD l):sV (.List l pos):=λc=>.gd λh=>.v (λρ=>Zi h hl.ok) (λ_ _=>rfl) λ_ _ _=>rfl
theorem a0g{n:Nat}(hl:JD l):sV (.Tuple l n pos):=λc=>.gd λh=>by
 have bd:∀e∈l,Bd e:=λe m=>(hl e m).bd;refine((Gp.v (λρ=>a2l h hl.ok) (λ_ _=>rfl) λ_ _ _=>rfl).RF λhw=>a36 hw h bd).X1 λ{ρ dq T σ s m v R}F ok hb r k=>?_;induction m using MV.casesOn with
 |tup ms=>exact Y1 h bd F (by have ok:Vf c ((N.tup (nA c.env.scope.names l)).gd (noStar l)):=ok;rw[h]at ok;exact ok) hb r k
 |_=>exact ar hb rfl
theorem Ww{ks:List (Option Expr)}:sV (.Dict ks l pos):=λc=>.gd λh=>by
 have h:=ao.mp h;rw[cj.mp h.1,cj.mp h.2];exact .v (λρ=>Zj) (λ_ _=>rfl) λ_ _ _=>rfl
noncomputable def UU:Option Expr→Prop
 |none=>True
 |some e=>sV e
theorem UU.ok{o:Option Expr}(h:UU o):OkO o:=by
 induction o with
 |none=>trivial
 |some _=>exact sV.ok h
theorem SW{lo hi st:Option Expr}(hl:UU lo)(hh:UU hi):sV (.Slice lo hi st pos):=λc=>.gd λh=>by
 rw[eO.mp h];exact .v (λρ=>Vt hl.ok hh.ok) (λ_ _=>rfl) λ_ _ _=>rfl
theorem a0i{as:Arguments}{sc:Scope}:sV (.Lambda as b sc pos):=λc=>.gd λh=>by
 have h1:=ao.mp h;have h2:=ao.mp h1.1;have h3:=ao.mp h2.1;have h4:=ao.mp h3.1;exact .v (λρ=>a2o h4.1 (of_decide_eq_true h4.2) ((bu _).mp h3.2) ((bu _).mp h2.2) (ao.mp h1.2).1 (ao.mp h1.2).2) (λ_ _=>rfl) λ_ _ _=>rfl
end
section
variable{e elt:Expr}{sc:Scope}{pos:Pos}{gs:List Comprehension}
theorem Ni:∀{e:Expr}{c:Cx}{s:Shared}{R:Unit→Shared→Prop}{I:Addr}{src:Src}{j:Nat}{v:Value},i' s.heap I src j→R () s→Wp c (letOwnedTupleGo e (.ref I) v) R s:=λ{e c s R I src j v}it h=>by
 cases e with
 |Tuple l n p=>exact OF it h
 |List l p=>exact OF (els:=l) (n:=0) (p:=p) it h
 |_=>exact wpAny_pure h
noncomputable def OkG:Comprehension→Prop
 |⟨t,i,fs,_⟩=>sV t∧sV i∧JD fs
theorem Fv(c:Cx):c.me (.ListComp elt gs sc pos)=.bad∨∃t i fs,gs=[⟨t,i,fs,0⟩]∧a9 i.ctorIdx 7=false∧Cy c.env.scope.names sc (nE (nc c.env.scope.names sc.names) t)∧c.me (.ListComp elt gs sc pos)=c.mc sc elt t i fs:=by
 match gs with
 |[]=>exact .inl rfl
 |⟨t,i,fs,k⟩::_::_=>exact .inl rfl
 |[⟨t,i,fs,k⟩]=>
  have e:c.me (.ListComp elt [⟨t,i,fs,k⟩] sc pos)=XE c.X (w c.X (nE (nc c.env.scope.names sc.names) elt)).1 (w c.X ((N.cons (nE (nc c.env.scope.names sc.names) t) (.cons (nE c.env.scope.names i) (nA (nc c.env.scope.names sc.names) fs))).gd (IK c.env.scope.names sc (nE (nc c.env.scope.names sc.names) t)&&(decide (k=0)&&!Nat.beq i.ctorIdx 7)))).2 sc.names:=rfl;rw[e];induction h:IK c.env.scope.names sc (nE (nc c.env.scope.names sc.names) t)&&(decide (k=0)&&!Nat.beq i.ctorIdx 7)with
  |false=>exact .inl rfl
  |true=>
   have h1:=ao.mp h;have h2:=ao.mp h1.2;exact .inr ⟨t,i,fs,by rw[of_decide_eq_true h2.1],(bu _).mp h2.2,IJ h1.1,rfl⟩
theorem Wx(he:sV elt)(hg:∀g∈gs,OkG g):sV (.ListComp elt gs sc pos):=λc=>by
 rcases Fv (elt:=elt) (gs:=gs) (sc:=sc) (pos:=pos) c with h|⟨t,i,fs,eg,hi,ok,h⟩
 ·rw[h];exact .bad
 ·rw[eg]at hg h⊢;have g:=hg _ (.head _);rw[h];exact .v (λρ=>Rx ⟨hi,g.2.1.ok,he.ok,g.2.2.ok,g.1.bd,Ni⟩ ok) (λ_ _=>rfl) λ_ _ _=>rfl
theorem mem_cons{α:Type}{P:α→Prop}{a:α}{l:List α}(h:P a)(hl:∀x∈l,P x):∀x∈a::l,P x:=λx m=>(aE.mp m).elim (λe=>rwl e h) (hl x)
theorem Bq(e:Expr):sV e:=by
 apply@Expr.rec sV (λ_=>True) OkG (λ_=>True) (λ_=>True) (λ_=>True) (λ_=>True) (λ_=>True) (λ_=>True) (λ_=>True) (λ_=>True) JD (λ_=>True) (λl=>∀g∈l,OkG g) UU (λ_=>True) (λ_=>True) (λ_=>True) (λ_=>True) (λ_=>True) (λ_=>True) (λ_=>True) (λ_=>True) (λ_=>True) (λ_=>True);all_goals first
  |(intros;exact trivial)
  |exact λop l pos h=>a0l h
  |exact λa op b pos ha hb=>a0m ha hb
  |exact λop a pos ha=>a26 ha
  |exact λa b sc pos _ _=>a0i
  |exact λt a b pos ht ha hb=>a27 ht ha hb
  |exact λks l pos _ _=>Ww
  |exact λe gs sc pos he hg=>Wx he hg
  |exact λa ops l pos ha hl=>a0k ha hl
  |exact λf l ks pos hf hl _=>Wy hf hl
  |exact λk n pos=>a0j
  |exact λo x pos ho=>Wz ho
  |exact λo i pos ho hi=>a0h ho hi
  |exact λx pos=>Wu
  |exact λl pos hl=>Wv hl
  |exact λl n pos hl=>a0g hl
  |exact λlo hi st pos hl hh _=>SW hl hh
  |exact λt i fs k ht hi YL=>⟨ht,hi,YL⟩
  |exact λ_ h=>absurd h aD
  |exact λa l h hl=>mem_cons h hl
  |exact λa h=>h
  |(intros;refine SV ?_;intro ns;rfl)
end
section
variable{c:Cx}{e t a b:Expr}{pos:Pos}{env:Env}{l vs:List Expr}{n:Nat}
theorem Oa(h:isTup e=some l):∃k p,e=.Tuple l k p:=by
 cases e with
 |Tuple l k p=>exact⟨k,p,by rw[←aA h]⟩
 |_=>exact ar h rfl
theorem Uz(h:B4 e=true):(∃elt gs sc p,e=.ListComp elt gs sc p)∨∀ns,nE ns e=.bad:=by
 cases e with
 |ListComp elt gs sc p=>exact .inl ⟨elt,gs,sc,p,rfl⟩
 |SetComp elt gs sc p=>exact .inr λ_=>rfl
 |DictComp a b gs sc p=>exact .inr λ_=>rfl
 |_=>exact absurd h aq
theorem Sa(h:B4 e=false):swapsWithSole [t] e n env=pure false:=by cases e<;>first|rfl|exact absurd h.symm aq
theorem a2L{elt:Expr}{gs:List Comprehension}{sc:Scope}{p:Pos}(h:S6 t=none):swapsWithSole [t] (.ListComp elt gs sc p) n env=pure false:=by cases t<;>first|rfl|exact ar rfl h
theorem Sd(h:isTup e=none):swappedStores [t] e env=pure none:=by
 cases t with
 |Tuple l k p=>cases e<;>first|rfl|exact ar rfl h
 |List l p=>cases e<;>first|rfl|exact ar rfl h
 |_=>rfl
theorem ZN(h:isTup t=none)(hl:a9 t.ctorIdx 24=false):swappedStores [t] e env=pure none:=by
 cases t with
 |Tuple l k p=>exact ar rfl h
 |List l p=>exact absurd hl.symm aq
 |_=>rfl
theorem WB{ns:aK}(h:ok2 ns l=true):∃a b,l=[a,b]∧WA ns a b=true:=by
 match l with
 |[a,b]=>exact⟨a,b,rfl,h⟩
 |a::b::d::r=>exact absurd h aq
 |[]=>exact absurd h aq
 |[a]=>exact absurd h aq
theorem M3{ns:aK}(h:WA ns a b=true):((S6 a=none∨∃x q,a=.Name x q∧ns.lookup x≠some .local)∨S6 b=none)∨∃x y q q',a=.Name x q∧b=.Name y q'∧q'.line=q.line∧ns.lookup x=some .local∧ns.lookup y=some .local∧x≠y:=by
 unfold WA at h;induction ea:S6 a with
 |none=>exact .inl (.inl (.inl rfl))
 |some p=>induction eb:S6 b with
  |none=>exact .inl (.inr rfl)
  |some q=>
   rw[ea,eb]at h;refine Cc (Nc ea) λu zh=>rU zh λe1 e2=>?_;rcases bK.mp h with h|h
   ·exact .inl (.inl (.inr ⟨p.1,u,e1,of_decide_eq_true h⟩))
   have h1:=ao.mp h;have h2:=ao.mp h1.1;have h3:=ao.mp h2.1;obtain⟨v,e3,e4⟩:=Nc eb;exact .inr ⟨p.1,q.1,u,v,e1,e3,e4.trans ((bR h3.1).trans e2.symm),of_decide_eq_true h3.2,of_decide_eq_true h2.2,of_decide_eq_true h1.2⟩
theorem IF(hw:c.own=true)(ht:a9 t.ctorIdx 22=false)(hsw:swapsWithSole [t] e pos.line c.env=pure false)(hss:swappedStores [t] e c.env=pure none):Sx c (exec (.Assign [t] e pos) c.env) λρ σ Q=>(c.me e).e ρ σ λv aO=>(c.me t).g v ρ aO λdq b0=>Q .next dq b0:=a41 hsw hss ht (Bq e).ok ((Bq t c).sg hw)
theorem Ss(hw:c.own=true)(ok:a28 c.env.scope.names t e=true):Sx c (exec (.Assign [t] e pos) c.env) λρ σ Q=>(c.me e).e ρ σ λv aO=>(c.me t).g v ρ aO λdq b0=>Q .next dq b0:=by
 intro ρ T σ s Q R F h k;have h:(c.me e).e ρ σ λv aO=>(c.me t).g v ρ aO λdq b0=>Q .next dq b0:=h;have h1:=ao.mp ok;have ht:=(bu _).mp h1.1;induction he:isTup e with
 |none=>induction hc:B4 e with
  |false=>exact IF hw ht (Sa hc) (Sd he) F h k
  |true=>
   rcases Uz hc with⟨elt,gs,sc,p,e1⟩|g
   ·rw[e1]at he h⊢;induction hn:S6 t with
    |none=>exact IF hw ht (a2L hn) (Sd he) F h k
    |some x=>
     refine Cc (Nc hn) λq zh=>rU zh λe2 _=>?_;rw[e2]at ht h⊢;rcases Fv (elt:=elt) (gs:=gs) (sc:=sc) (pos:=p) c with g|⟨tg,i,fs,eg,hi,ok,g⟩
     ·rw[g]at h;exact h.elim
     ·rw[eg]at h g⊢;rw[g]at h;exact Su hw ⟨hi,(Bq i).ok,(Bq elt).ok,λe _=>(Bq e).ok,(Bq tg).bd,Ni⟩ ok F h k
   ·unfold Cx.me at h;rw[g]at h;exact h.elim
 |some vs=>
  refine iA (Oa he) λk' p' e1=>?_;have h2:=h1.2;rw[he]at h2;rw[e1]at h⊢;induction et:isTup t with
  |none=>rw[et]at h2;exact IF hw ht (Sa rfl) (ZN et ((bu _).mp h2)) F h k
  |some ts=>
   rw[et]at h2;have h3:=ao.mp h2;have h4:=ao.mp h3.1;refine iA (WB h4.1) λa b zh=>rU zh λe2 h5=>?_;refine iA (Oa et) λk2 p e3=>?_;rw[e3,e2]at ht h⊢;rcases M3 h5 with h6|⟨x,y,q,q',ea,eb,hq,hx,hy,hn⟩
   ·exact IF hw ht (Sa rfl) (VV c.kind (of_decide_eq_true h4.2) h3.2 (h6.imp (λh6 n=>h6.elim HK λ⟨x,q,e,z⟩=>rwl e (P0 z)) id)) F h k
   ·rw[ea,eb]at h⊢;exact ZT hw (of_decide_eq_true h4.2) h3.2 hx hy hn hq (Bq _).ok F h k
end
noncomputable def I5:N→Bool
 |.nil|.bad|.expr _|.ret _|.vK|.pass=>true
 |.cons a r=>I5 a&&I5 r
 |_=>false
noncomputable def QQ(st:Stmt):Prop:=∀c:Cx,(c.own=true∨I5 (nS c.env.scope.names st)=true)→Sx c (exec st c.env) (w c.X (nS c.env.scope.names st)).1.s
noncomputable def Cx.mb(c:Cx)(l:List Stmt):List Wr:=(w c.X (nB c.env.scope.names l)).2
section
variable{c:Cx}{e t i:Expr}{pos:Pos}{l a b:List Stmt}{x:N}{st:Stmt}
theorem a2P(h:∀ns,nS ns st=.bad):QQ st:=λc _=>by rw[h];exact λ_ h=>h.elim
theorem V7{o:Bool}(h:o=true→Sx c (exec st c.env) (w c.X x).1.s):Sx c (exec st c.env) (w c.X (x.gd o)).1.s:=by
 induction o with
 |true=>exact h rfl
 |false=>exact λ_ h=>h.elim
theorem Yi{o:Bool}{x:N}(h:I5 (x.gd o)=true)(hx:I5 x=false):o=false:=by
 induction o with
 |true=>exact h.symm.trans hx
 |false=>rfl
theorem sB(l:List Stmt)(h:∀st∈l,QQ st)(c:Cx)(o:c.own=true∨I5 (nB c.env.scope.names l)=true):Sx c (execs l c.env) (bW (c.mb l)):=by
 induction l with
 |nil=>exact a4r
 |cons st r ih=>exact a1E (h st (.head _) c (o.imp_right λo=>(ao.mp o).1)) (ih (λs m=>h s (.tail _ m)) (o.imp_right λo=>(ao.mp o).2))
theorem a4V(ha:∀st∈a,QQ st)(hb:∀st∈b,QQ st):QQ (.If t a b pos):=λc o=>
 have hw:c.own=true:=o.elim id λh=>absurd h aq
 a40 (Bq t).ok (sB a ha c (.inl hw)) (sB b hb c (.inl hw))
theorem VS(ha:∀st∈a,QQ st):QQ (.While t a b pos):=λc o=>V7 λh=>by
 rw[cj.mp h]at o⊢;exact V9 (Bq t).ok (sB a ha c (.inl (o.elim id λh=>absurd h aq)))
theorem a2H(ha:∀st∈a,QQ st):QQ (.For t i a b pos):=λc o=>V7 λh=>by
 have h:=ao.mp h;have hw:c.own=true:=o.elim id λg=>absurd (Yi g rfl) (by rw[h.1,h.2];exact nofun)
 rw[cj.mp h.1];intro ρ T σ s Q R F g k;exact a2S (wa:=c.mb a) ((bu _).mp h.2) (.inl hw) (Bq i).ok (Bq t).bd Ni (λB=>sB a ha (c.wB B) (.inl hw)) F g k
theorem R9{l:List Expr}:QQ (.Assign l e pos):=by
 induction l using aF with
 |nil=>exact λc o{_ _ _ _ _ _}_ h _=>h.elim
 |cons t r=>
  exact λc o=>V7 (x:=N.assign (nE c.env.scope.names t) (nE c.env.scope.names e)) λh=>by
   have h:=ao.mp h;have hw:c.own=true:=o.elim id λg=>absurd (Yi (x:=N.assign (nE c.env.scope.names t) (nE c.env.scope.names e)) g rfl) (by rw[h.1,h.2];exact nofun)
   rw[cj.mp h.1];intro ρ T σ s Q R F g k;exact Ss hw h.2 F g k
theorem a5O(st:Stmt):QQ st:=by
 apply@Stmt.rec (λ_=>True) QQ (λ_=>True) (λ_=>True) (λ_=>True) (λ_=>True) (λ_=>True) (λ_=>True) (λ_=>True) (λ_=>True) (λ_=>True) (λ_=>True) (λ_=>True) (λ_=>True) (λ_=>True) (λ_=>True) (λl=>∀st∈l,QQ st) (λ_=>True) (λ_=>True) (λ_=>True) (λ_=>True) (λ_=>True) (λ_=>True) (λ_=>True) (λ_=>True);all_goals first
  |(intros;exact trivial)
  |exact λt a b pos _ ha hb=>a4V ha hb
  |exact λt a b pos _ ha _=>VS ha
  |exact λt i a b pos _ _ ha _=>a2H ha
  |exact λl e pos _ _=>R9
  |exact λe pos _ c _=>V7 λh=>ZW ((bu _).mp h) (Bq e).ok
  |exact λpos c _=>ZV
  |exact λ_ h=>absurd h aD
  |exact λa l h hl=>mem_cons h hl
  |(intro o;induction o with
   |none=>exact λpos _ c _=>ZU
   |some e=>exact λpos _ c _=>a2R (Bq e).ok)
  |(intros;refine a2P ?_;intro ns;rfl)
theorem allB(l:List Stmt)(o:c.own=true∨I5 (nB c.env.scope.names l)=true):Sx c (execs l c.env) (bW (c.mb l)):=sB l (λst _=>a5O st) c o
end
section
variable{α:Type}{x p:Str}
noncomputable def Ap(q:Str×Value)(slots:List (Str×Value)):List (Str×Value):=if(slots.lookup q.1).isNone then slots++[(q.1,q.2)]else slots
theorem Lr(x:Str):∀(qs slots:List (Str×Value)),(qs.foldl (λc q=>Ap q c) slots).lookup x=(slots.lookup x).or (qs.lookup x):=by
 intro zl;induction zl with
 |nil=>
  rintro slots;exact Option.or_none.symm
 |cons q qs ih=>
  rintro slots;rw[U2,ih];unfold Ap;induction h:slots.lookup q.1 with
  |none=>
   rw[if_pos (by rfl),List.lookup_append,Option.or_assoc]
   by_cases e:x=q.1
   ·rw[e,h,gh,gh];rfl
   ·rw[eP e,eP e];rfl
  |some v=>
   rw[if_neg (by nofun)]
   by_cases e:x=q.1
   ·rw[e,h];rfl
   ·rw[eP e]
theorem Rp(ps:List Str){us:List α}(j:Nat)(hj:j≤us.length)(h:x∈ps.take j):(ps.zip us).lookup x≠none:=by
 induction ps generalizing us j with
 |nil=>rw[Ia]at h;exact absurd h aD
 |cons p ps ih=>induction j using kQ with
  |zero=>exact absurd h aD
  |succ j=>induction us using aF with
   |nil=>exact absurd hj (oJ j)
   |cons u us=>
    by_cases e:x=p
    ·rw[qC,e,gh];exact L6 _
    ·rw[qC,eP e];exact ih j (fS hj) ((aE.mp h).resolve_left e)
theorem Rr(ps:List Str)(us:List α)(ds:List α)(j:Nat)(h1:ps.length=j+ds.length)(h2:j≤us.length)(h3:us.length≤ps.length):
  ((ps.zip us).lookup x).or (((ps.drop j).zip ds).lookup x)=(ps.zip (us++ds.drop (us.length-j))).lookup x:=by
 induction ps generalizing us ds j with
 |nil=>rw[zI];rfl
 |cons p ps ih=>induction us using aF with
  |nil=>induction j using kQ with
   |zero=>rfl
   |succ j=>exact absurd h2 (oJ j)
  |cons u us=>
   show(((p,u)::ps.zip us).lookup x).or _=((p,u)::ps.zip (us++ds.drop (us.length+1-j))).lookup x;induction j using kQ with
   |zero=>induction ds with
    |nil=>exact absurd h1 (cF _)
    |cons d ds=>
     show _=((p,u)::ps.zip (us++ds.drop us.length)).lookup x;by_cases e:x=p
     ·rw[e,gh,gh,gh];rfl
     ·exact(congr (congrArg _ (eP e)) (eP e)).trans ((ih us ds 0 (rW (h1.trans (cQ _))▸(cQ _).symm) (cy _) (fS h3)).trans (eP e).symm)
   |succ j=>
    rw[Nat.add_sub_add_right];by_cases e:x=p
    ·rw[e,gh,gh];rfl
    ·rw[eP e,eP e];exact ih us ds j (rW (h1.trans (Nat.succ_add _ _))) (fS h2) (fS h3)
end
theorem Nz{α β:Type}{f:α→β→Sem (ForInStep β)}{g:α→β→β}:∀{l:List α}(c:β),(∀x∈l,∀c,f x c=pure (.yield (g x c)))→forIn l c f=pure (l.foldl (λc x=>g x c) c):=by
 intro zl;induction zl with
 |nil=>
  rintro _ _;exact rfl
 |cons x l ih=>
  rintro c h;rw[U1,h x (.head _)];exact ih _ λy hy c=>h y (.tail _ hy) c
noncomputable def bound(ps:List Str)(g:Str→Option Value):List (Str×Value):=ps.filterMap λn=>(g n).map (n,·)
theorem MA{α:Type}{M:Model}{A:Around}{Q:α→Shared→Prop}{E:Value→Shared→Prop}{s:Shared}{c:Prop}[Decidable c]{t e:Sem α}(h:¬c)(k:wpAny M A e Q E s):wpAny M A (if c then t else e) Q E s:=by rw[if_neg h];exact k
theorem Pe{s:Shared}{fd:FuncData}{as:List Arg}{d:List Expr}{us ds:List Value}{r:Option (Array Value)}(hp:fd.params=⟨[],as,none,[],[],none,d⟩)
  (hd:∀(M:Model)(A:Around)(E:Value→Shared→Prop)(Q:Option (Array Value)→Shared→Prop),Q r s→wpAny M A (seqItems? fd.defaults) Q E s) (hr:(r.getD #[]).toList=ds)
  (hl:us.length≤as.length) (hdl:ds.length≤as.length) (hm:as.length≤us.length+ds.length):
  ∃g,(∀x,g x=((as.map (·.arg)).zip (us++ds.drop (us.length-(as.length-ds.length)))).lookup x)∧BindsTo s fd ⟨us,[]⟩ (bound (as.map (·.arg)) g):=by
 have hlen:(as.map (·.arg)).length=as.length:=ax ..;rw[←hlen]at hl hdl hm⊢;have hj:(as.map (·.arg)).length-ds.length≤us.length:=Nat.sub_le_of_le_add hm;refine⟨_,λx=>(Lr x (((as.map (·.arg)).drop ((as.map (·.arg)).length-ds.length)).zip ds) ((as.map (·.arg)).zip us)).trans (Rr (as.map (·.arg)) us ds _ (Nat.sub_add_cancel hdl).symm hj hl),λM A E Q hq=>?_⟩;have Gn:ds.drop (ds.length-(as.map (·.arg)).length)=ds:=by rw[Mk hdl];rfl
 rw[←Gn]at hq;have hq:=(congrArg (λl=>Q (bound l _) s) (ay (as.map (·.arg))).symm).mp hq;induction fd with|mk nm qn pa bo sc gl cl df kd do_ pm an co ct bi=>
 have hp:pa=⟨[],as,none,[],[],none,d⟩:=hp;subst hp;subst hr;refine wpAny_bind (wpAny_pure ?_);refine wpAny_bind (hd _ _ _ _ ?_);refine MA (λh=>Hm.mpr hl (of_decide_eq_true (ao.mp h).1)) ?_;refine MA (λh=>aq ((congrArg (λl:List Str=>!l.isEmpty) (List.filter_eq_nil_iff.mpr λx hx e=>Rp _ _ hj (rwr Gn hx) (eO.mp e))).symm.trans h)) ?_;refine wpAny_bind (wpAny_of_eq (Nz (g:=Ap) _ λq _ c=>by unfold Ap;cases h:(c.lookup q.1).isNone<;>simp[h]) ?_)
 refine wpAny_bind (wpAny_pure ?_);refine MA aq ?_;exact wpAny_pure hq
section
variable{x:Str}{u:Value}{g:Str→Option Value}{ko:Str→Option NameKind}
theorem sS{ps:List Str}{p:Str×Value}(h:p∈bound ps g):p.1∈ps∧g p.1=some p.2:=
 (kK.mp h).elim λn h=>(bZ.mp h.2).elim λv e=>by rw[←e.2];exact⟨h.1,e.1⟩
theorem Gd{p:Str}{ps:List Str}:bound (p::ps) g=bound ps g∨∃v,g p=some v∧bound (p::ps) g=(p,v)::bound ps g:=by
 induction e:g p with
 |none=>exact .inl (dB (by rw[e];rfl))
 |some v=>exact .inr ⟨v,rfl,cV (by rw[e];rfl)⟩
theorem NR(h:g x=some u)(hk:ko x=some .local)(ps:List Str)(m:Str→Option Value)(hm:x∈ps∨m x=some u):bindL ko (bound ps g) m x=some u:=by
 induction ps generalizing m with
 |nil=>exact hm.elim (λh=>absurd h aD) id
 |cons p ps ih=>
  rcases Gd (g:=g) (p:=p) (ps:=ps)with e|⟨v,ev,e⟩
  ·rw[e];refine ih m ?_;exact hm.imp_left (λhm=>(aE.mp hm).elim (λq=>by
    rw[←q]at e;have:(x,u)∈bound ps g:=rwr e (kK.mpr ⟨x,.head _,by rw[h];rfl⟩)
    exact(sS this).1) id)
  ·rw[e];refine ih _ ?_;by_cases q:x=p
   ·rw[←q,if_pos hk];exact .inr ((if_pos rfl).trans (by rw[←ev,←q,h]))
   ·refine hm.imp (λhm=>(aE.mp hm).resolve_left q) λhm=>?_;by_cases k:ko p=some .local
    ·rw[if_pos k];exact(if_neg q).trans hm
    ·rw[if_neg k];exact hm
theorem NS(h:g x=some u)(hk:ko x≠some .local)(ps:List Str)(m:Str→Option Value)(hm:x∈ps∨m x=some u):bindC ko (bound ps g) m x=some u:=by
 induction ps generalizing m with
 |nil=>exact hm.elim (λh=>absurd h aD) id
 |cons p ps ih=>
  rcases Gd (g:=g) (p:=p) (ps:=ps)with e|⟨v,ev,e⟩
  ·rw[e];refine ih m ?_;exact hm.imp_left (λhm=>(aE.mp hm).elim (λq=>by
    rw[←q]at e;have:(x,u)∈bound ps g:=rwr e (kK.mpr ⟨x,.head _,by rw[h];rfl⟩)
    exact(sS this).1) id)
  ·rw[e];refine ih _ ?_;by_cases q:x=p
   ·rw[←q,if_neg hk];exact .inr ((if_pos rfl).trans (by rw[←ev,←q,h]))
   ·refine hm.imp (λhm=>(aE.mp hm).resolve_left q) λhm=>?_;by_cases k:ko p=some .local
    ·rw[if_pos k];exact hm
    ·rw[if_neg k];exact(if_neg q).trans hm
theorem Ep{T:aR}{m:MV}(ps:List Str){vs:List MV}{us:List Value}(r:eQ T vs us)(h:cc (ps.zip vs) x=some m):∃u,(ps.zip us).lookup x=some u∧VR T m u∧x∈ps:=by
 induction ps generalizing vs us with
 |nil=>exact ar h rfl
 |cons p ps ih=>induction vs using aF with
  |nil=>exact ar h rfl
  |cons v vs=>
   refine iA r λu ZF zh=>oe zh λe a b=>?_;rw[e];rw[qC]at h⊢;by_cases q:x=p
   ·rw[q,fG]at h;rw[q,gh];exact⟨u,rfl,rwr (aA h) a,.head _⟩
   ·rw[dQ q]at h;rw[eP q];exact(ih b h).imp λu z=>⟨z.1,z.2.1,.tail _ z.2.2⟩
end
noncomputable def vX(names:aK)(binds:List (Str×MV)):Loc:=names.filterMap λp=>match p.2 with
 |.local=>some (p.1,cc binds p.1)
 |.cell=>some (p.1,cc binds p.1)
 |_=>none
noncomputable def a38(binds:List (Str×MV))(x:Str):Option NameKind→Option (Option MV)
 |some .local=>some (cc binds x)
 |some .cell=>some (cc binds x)
 |_=>none
theorem Jd(binds:List (Str×MV)):∀names:aK,pO names=true→∀x,cc (vX names binds) x=a38 binds x (names.lookup x):=by
 intro zl;induction zl with
 |nil=>
  rintro _ x;exact rfl
 |cons zx r ih=>
  obtain⟨y,k⟩:=zx;rintro h x;have ih:=ih (lj h).2 x;by_cases hx:x=y
  ·rw[hx,gh];rw[hx,HH h]at ih;induction k with
   |«local»=>exact fG
   |cell=>exact fG
   |_=>exact ih
  ·rw[eP hx,←ih];induction k with
   |«local»=>exact dQ hx
   |cell=>exact dQ hx
   |_=>rfl
theorem G1:∀(names:aK)(k:Nat)(acc:List (Str×Addr)){x:Str},(acc.lookup x).isSome=true→((cellsFrom k names acc).lookup x).isSome=true:=by
 intro zl;induction zl with
 |nil=>
  rintro _ _ _ h;exact h
 |cons zx r ih=>
  obtain⟨y,kd⟩:=zx;rintro k acc x h;unfold cellsFrom;split
  ·refine ih _ _ ?_;by_cases e:x=y
   ·rw[e,gh];rfl
   ·rw[eP e];exact h
  ·exact ih _ _ h
theorem cellsFrom_some:∀(names:aK)(k:Nat)(acc:List (Str×Addr)){x:Str},names.lookup x=some .cell→((cellsFrom k names acc).lookup x).isSome=true:=by
 intro zl;induction zl with
 |nil=>
  rintro _ _ _ h;exact ar h rfl
 |cons zx r ih=>
  obtain⟨y,kd⟩:=zx;rintro k acc x h;unfold cellsFrom;by_cases e:x=y
  ·rw[e,gh]at h;rw[aA h,if_pos (by rfl)]
   exact G1 r _ _ (by rw[e,gh];rfl)
  ·rw[eP e]at h;split
   ·exact ih _ _ h
   ·exact ih _ _ h
structure dK where
 ps:List Str
 dn:List MV
 ns:aK
 b:N
 fz:Bool
noncomputable def a39(d:dK):Bool:=pO d.ns&&(d.ns.all (λp=>decide (p.2≠.free))&&(d.ps.all (λx=>decide (d.ns.lookup x=some .local)||decide (d.ns.lookup x=some .cell))&&(!d.fz||I5 d.b)))
inductive a4C (G:GC) (f:Addr) (d:dK):Prop
 |mk (o:Obj) (fd:FuncData) (body:List Stmt) (as:List Arg) (de:List Expr) (e:G.T0 f=some o) (ed:o.data=.func fd) (eb:fd.body=.stmts body) (nb:nB d.ns body=d.b) (sn:fd.scope.names=d.ns) (sk:fd.scope.kind=.function)
  (co:fd.scope.isCoroutine=false) (ge:fd.scope.isGenerator=false) (cl:fd.closure=[]) (gl:fd.globals=mainGlobals) (bi:fd.builtins=builtinsNs) (pa:fd.params=⟨[],as,none,[],[],none,de⟩) (pn:as.map (·.arg)=d.ps)
  (cd:oH G.T0 fd.code fd.qualname) (df:(d.dn=[]∧fd.defaults=.none)∨∃P items,fd.defaults=.ref P∧TupAt G.T0 P items∧eQ G.T0 d.dn items) (lc:d.fz=true→Pm G fd.code (fd.qualname++".<locals>."++"<lambda>")) (ok:a39 d=true)
noncomputable abbrev ends(Q:bw):Fl→Loc→St→Prop:=λfl _ av=>Q (match fl with|.next=>.none|.ret v=>v) av
open Classical in
noncomputable def Nx(fz:Bool)(cs:List (Str×Addr))(h:Heap)(T:aR):aR:=λb=>if fz=true∧∃y,cs.lookup y=some b then h.get? b else T b
section
variable{G:GC}{n:Nat}{f:Addr}{d:dK}{vs:List MV}{σ:St}{Q:bw}
theorem QK{call:Cl}(hc:∀f vs σ Q,call f vs σ Q→oa G n f vs σ Q)(W:Y6 G)(I:a4C G f d)(hl:vs.length≤d.ps.length)(hdn:d.dn.length≤d.ps.length)(hm:d.ps.length≤vs.length+d.dn.length)
  (hw:wB (E5 call d.fz) d.b (vX d.ns (d.ps.zip (vs++d.dn.drop (vs.length-(d.ps.length-d.dn.length))))) σ (ends Q)):oa G (n+1) (.fn f) vs σ Q:=by
 intro A T B s fv us hr I0 rf rv;rw[rf.1];induction I with|mk o fd body as de e ed eb nb sn sk co ge cl gl bi pa pn cd df lc ok=>
 have up:∀{a o},G.T0 a=some o→s.heap.get? a=some o:=λe=>I0.t _ _ (I0.base _ _ e);have k1:=ao.mp ok;have k2:=ao.mp k1.2;have k3:=ao.mp k2.2;have hcd:s.heap.CodeRec fd.code fd.qualname:=cd.imp λc=>bj λoc=>bj λvs=>bj λt z=>⟨z.1,up z.2.1,z.2.2⟩;have hlen:=eQ.length vs rv;have a1i:A.depth<recursionLimit:=bc (l6 hr.2.1) (by decide)
 obtain⟨r,hds,a5p⟩:∃r:Option (Array Value),eQ T d.dn (r.getD #[]).toList∧∀(M:Model)(A:Around)(E:Value→Shared→Prop)(Q:Option (Array Value)→Shared→Prop),Q r s→wpAny M A (seqItems? fd.defaults) Q E s:=by
  rcases df with⟨z,y⟩|⟨P,items,y,⟨oP,kP,gP,cP,dP⟩,rr⟩
  ·exact⟨none,rwl z rfl,λM A E Q hq=>rwl y (wpAny_pure hq)⟩
  ·exact⟨some items.toArray,rr.up I0.base,λM A E Q hq=>rwl y (wpAny_seqItems (up gP) dP hq)⟩
 have hdl:=eQ.length d.dn hds;have pl:as.length=d.ps.length:=by rw[←pn,ax]
 obtain⟨g,hg,hb⟩:=Pe (s:=s) (us:=us) pa a5p rfl (by rw[pl,←hlen];exact hl) (by rw[pl,←hdl];exact hdn) (by rw[pl,←hlen,←hdl];exact hm)
 rw[pn,pl,←hdl,←hlen]at hg;rw[pn]at hb;have rb:=eQ.append (eQ.drop d.dn (vs.length-(d.ps.length-d.dn.length)) hds) vs rv;refine codeAny_call_function a1i (up e) ed co ge eb hcd (hb _ _ _ _ ?_);rw[cl];refine wpAny_newFunctionEnv_cells sk (λx hx=>?_) λenv he s' x=>?_
 ·rw[sn];exact(bK.mp (dC.mp k3.1 x.1 (sS hx).1)).imp of_decide_eq_true λh=>⟨of_decide_eq_true h,cellsFrom_some _ _ _ (of_decide_eq_true h)⟩
 have hk:=x.toInCall.keep;induction x.toInCall.same with|intro hh z=>induction z with|intro tk es=>
 have fresh:∀a,s.heap.objs.size≤a→s.heap.get? a=none:=λa=>Heap.get?_none_of_le;have heL:env.locals=s.heap.objs.size:=by rw[he];rfl
 have hen:env.scope.names=d.ns:=by rw[he];exact sn
 have ko:∀y,env.kindOf y=d.ns.lookup y:=λy=>congrArg (Mo y) hen;have above:∀y k,env.cells.lookup y=some k→s.heap.objs.size<k:=λy k e=>rwr heL (x.above y k (lookup_mem e));have hT:T.le (Nx d.fz env.cells s'.heap T):=λb o e=>by
  unfold Nx;split
  ·exact hk b o (I0.t b o e)
  ·exact e
 have hTn:∀b o,Nx d.fz env.cells s'.heap T b=some o→T b=some o∨s.heap.get? b=none∧s'.heap.get? b=some o:=λb o e=>by
  unfold Nx at e;split at e
  ·rename_i z;exact .inr ⟨z.2.elim λy h=>fresh b (u9 (above y b h)),e⟩
  ·exact .inl e
 have I1:Inv G (Nx d.fz env.cells s'.heap T) B σ s':=I0.grow hk hT hTn (by rw[es]) (by rw[es])
 have a3q:∀a,s.heap.objs.size≤a→(d.fz=true→∀y,env.cells.lookup y≠some a)→u6 G (Nx d.fz env.cells s'.heap T) B σ a:=λa ha hn=>
  have L:=I0.fresh (fresh a ha)
  ⟨(if_neg λz=>z.2.elim λy=>hn z.1 y).trans L.t,L.b,L.f,L.tab⟩
 have room:L0 n (A.deeper env):=⟨hr.1,by have:=hr.2.1;show A.depth+1+4*n+2≤600;lia,by have:=hr.2.2;show A.units+3+30*n+12≤6000;lia⟩
 have TS:env.scope.kind=.function:=by rw[he];exact sk
 have hgl:env.globals=mainGlobals:=by rw[he];exact gl
 have hbi:env.builtins=builtinsNs:=by rw[he];exact bi
 have hlc:d.fz=true→Pm G env.code (env.qual++"<lambda>"):=λh=>by rw[he];exact lc h
 let c:Cx:=⟨G,W,n,call,hc,A.deeper env,room,B,env,!d.fz,d.fz,TS,hgl,hbi,λh=>by rw[h];rfl,hlc,λ_ x' y k e1 e2=>name_of_addr x.apart (lookup_mem e1) (lookup_mem e2)⟩
 have F:FI c (vX d.ns (d.ps.zip (vs++d.dn.drop (vs.length-(d.ps.length-d.dn.length))))) (Nx d.fz env.cells s'.heap T) σ s':=by
  refine⟨I1,⟨_,x.toInCall.ns,λy=>?_⟩,a3q _ (cR heL.symm) (λ_ y e=>zM _ (Br (above y _ e) heL)),λh y k e=>?_,λh y k e=>?_⟩
  ·rw[Jd _ _ k1.1];show Slot _ env _ _ y _;have ky:=ko y;induction hny:d.ns.lookup y with
   |none=>rw[hny]at ky;exact sl3 (k:=none) ky (by decide)
   |some k=>
    rw[hny]at ky;induction k with
    |«local»=>
     refine .inl ⟨ky,?_⟩;induction hv:cc (d.ps.zip (vs++d.dn.drop (vs.length-(d.ps.length-d.dn.length)))) y with
     |none=>trivial
     |some mv=>exact(Ep d.ps rb hv).imp λu z=>⟨NR ((hg y).trans z.1) ky d.ps _ (.inl z.2.2),z.2.1.up hT⟩
    |cell=>
     have YN:(env.cells.lookup y).isSome=true:=by rw[he];exact cellsFrom_some fd.scope.names _ [] (by rw[sn];exact hny)
     refine Cc (jS.mp YN) λk hc=>?_;refine .inr ⟨.inl ky,k,hc,_,x.cell y k hc,?_⟩;induction hv:cc (d.ps.zip (vs++d.dn.drop (vs.length-(d.ps.length-d.dn.length)))) y with
     |none=>trivial
     |some mv=>exact(Ep d.ps rb hv).imp λu z=>⟨NS ((hg y).trans z.1) (λe=>absurd (ky.symm.trans e) (by decide)) d.ps _ (.inl z.2.2),z.2.1.up hT⟩
    |free=>exact absurd rfl (of_decide_eq_true (dC.mp k2.1 _ (lookup_mem hny)))
    |globalExplicit=>exact sl3 (k:=some .globalExplicit) ky (by decide)
    |globalImplicit=>exact sl3 (k:=some .globalImplicit) ky (by decide)
  ·have hz:d.fz=false:=(bu _).mp h;exact⟨⟨_,x.cell y k e⟩,a3q k (u9 (above y k e)) (λz=>(aq (hz.symm.trans z)).elim),λq=>zM _ (Br (above y k e) (q.trans heL))⟩
  ·have hz:d.fz=true:=(Bool.not_eq_false' _).mp h;exact(x.cell y k e).imp λo z=>.inl ((if_pos ⟨hz,y,e⟩).trans z.1)
 refine⟨?_,codeAny_func (wpAny_mono (allB (c:=c) (Q:=ends Q) body ?_ F ?_ ⟨λT' dq av s2 t F' q=>?_,λT' v m dq av s2 t rr I2 q=>?_⟩) (λ_ _ z=>z) λ_ _ z=>z.elim)⟩
 ·induction W.S5 with|mk oS es ep g1 hd ym hf=>exact⟨nsFind es,⟨oS,es,ep,hk _ _ (up g1),hd,ym,λ_=>rfl⟩,hf⟩
 ·show(!d.fz)=true∨I5 (nB env.scope.names body)=true;rw[hen,nb];induction hz:d.fz with
  |false=>exact .inl rfl
  |true=>have:=k3.2;rw[hz]at this;exact .inr this
 ·rw[←nb]at hw;show bW (w (E5 call d.fz) (nB env.scope.names body)).2 _ σ _;rw[hen];exact hw
 ·exact .mk .none T' .none av rfl (hT.trans t) rfl F'.1 q
 ·exact .mk v T' m av rfl (hT.trans t) rr I2 q
end
section
variable{α:Type}{x y:Str}{T:aR}{G:GC}{n:Nat}{σ:St}{Q:bw}
theorem Tw{l k:List (Str×α)}(h:cc l x=none):cc (l++k) x=cc k x:=by
 induction l with
 |nil=>rfl
 |cons p l ih=>
  by_cases e:x=p.1
  ·rw[show p=(p.1,p.2)from rfl,e,fG]at h;exact ar rfl h.symm.symm
  ·exact(dQ e).trans (ih ((dQ e).symm.trans h))
theorem Qc{l k:List (Str×α)}{v:α}(h:cc l x=some v):cc (l++k) x=some v:=by
 induction l with
 |nil=>exact ar h rfl
 |cons p l ih=>
  by_cases e:x=p.1
  ·rw[←h,show p=(p.1,p.2)from rfl,e];exact fG.trans fG.symm
  ·exact(dQ e).trans (ih ((dQ e).symm.trans h))
noncomputable def Hz(l:List (Str×MV)):Loc:=l.map λp=>(p.1,some p.2)
theorem Qb:∀l:List (Str×MV),cc (Hz l) x=(cc l x).map some:=by
 intro zl;induction zl with
 |nil=>
  exact rfl
 |cons p l ih=>
  exact if e:x=p.1 then by rw[e];exact fG.trans (congrArg (Y9 some) (fG (l:=l) (x:=p.1) (v:=p.2)).symm)else(dQ e).trans ((ih).trans (congrArg (Y9 some) (dQ (v:=p.2) e).symm))
theorem Rq{ps:List Str}{vs:List α}(e:cc (ps.zip vs) x=none)(h:ps.length≤vs.length):x∉ps:=by
 induction ps generalizing vs with
 |nil=>exact aD
 |cons p ps ih=>induction vs using aF with
  |nil=>exact absurd h (oJ _)
  |cons v vs=>exact λm=>if q:x=p then ar fG (q▸e)else ih ((dQ q).symm.trans e) (fS h) ((aE.mp m).resolve_left q)
theorem NI:∀{cs:List (Str×Addr)}{ns:List Str}{vs:List Value}{ms:List MV},pz T cs ns vs→eQ T ms vs→
  ns=cs.map (·.1)∧ns.length≤ms.length∧(∀{x k},cs.lookup x=some k→∃u,uk T k u)∧∀{x m},cc (ns.zip ms) x=some m→∃k u,cs.lookup x=some k∧uk T k u∧VR T m u:=by
 intro zl;induction zl with
 |nil=>
  rintro _ _ _ h _;exact⟨h.1,by rw[h.1];exact cy _,λe=>ar e rfl,λ{x m}e=>by rw[h.1]at e;exact ar e rfl⟩
 |cons p cs ih=>
  rintro ns vs ms h r;refine JM h λv Q4 Gy zh=>an4 zh λe1 e2 c h=>?_;rw[e2]at r;induction ms using aF with
  |nil=>exact(d7 _ _ r).elim
  |cons m ms=>
   refine iA r λu us zh=>oe zh λe3 r1 r2=>?_;rw[←(lT e3).2]at r2;rw[←(lT e3).1]at r1;have ih:=ih h r2;rw[e1];refine⟨congrArg _ ih.1,bU ih.2.1,λ{x k}e=>?_,λ{x m'}e=>?_⟩
   ·by_cases q:x=p.1
    ·rw[show p=(p.1,p.2)from rfl,q,gh]at e;exact⟨v,rwr (aA e) c⟩
    ·rw[show p=(p.1,p.2)from rfl,eP q]at e;exact ih.2.2.1 e
   ·rw[qC]at e;rw[show p=(p.1,p.2)from rfl];by_cases q:x=p.1
    ·rw[q,fG]at e;rw[q,gh];exact⟨_,v,rfl,c,rwr (aA e) r1⟩
    ·rw[dQ q]at e;rw[eP q];exact ih.2.2.2 e
theorem Sy{u:Value}{g:Str→Option Value}{ps:List Str}(h:g x=some u)(hx:x∈ps):(bound ps g).reverse.lookup x=some u:=by
 have m:(x,u)∈(bound ps g).reverse:=hZ.mpr (kK.mpr ⟨x,hx,by rw[h];rfl⟩)
 have a:∀p∈(bound ps g).reverse,p.1=x→p.2=u:=λp hp e=>by have:=(sS (hZ.mp hp)).2;rw[e,h]at this;exact(aA this).symm
 generalize(bound ps g).reverse=l at m a;induction l with
 |nil=>exact absurd m aD
 |cons p l ih=>
  rw[show p=(p.1,p.2)from rfl];by_cases q:x=p.1
  ·rw[q,gh,a p (.head _) q.symm]
  ·rw[eP q];exact ih ((aE.mp m).resolve_left λe=>q (congrArg Gq e)) λp hp=>a p (.tail _ hp)
theorem QJ{ps:List Str}{b:N}{ns:List Str}{ms vs:List MV}{call:Cl}(hc:∀f vs σ Q,call f vs σ Q→oa G n f vs σ Q)(W:Y6 G)(hl:vs.length=ps.length)(hw:wE (E5 call false) b (Hz (ps.zip vs++ns.zip ms)) σ Q):oa G (n+1) (.Fw ps b ns ms) vs σ Q:=by
 intro A T B s fv us hr I0 rf rv;refine rf.elim λf rf=>rf.elim λo rf=>rf.elim λfd rf=>rf.elim λcs rf=>rf.elim λws rf=>?_;have e:=rf.2.1;have ed:=rf.2.2.1;have cd:=rf.2.2.2.2.1;have YN:=rf.2.2.2.2.2.1;have hws:=rf.2.2.2.2.2.2;rw[rf.1];induction rf.2.2.2.1 with|mk as body names more pa pn eb nb sc gl cl bi df ok hfr=>
 have k1:=ao.mp ok;have k2:=ao.mp k1.1;have ck:=NI YN hws;have hps:∀{y},y∈ps→names.lookup y=some .local:=λm=>of_decide_eq_true (dC.mp k1.2 _ m);have hnm:∀{y k},names.lookup y=some k→k≠.cell∧(k=.local→y∈ps):=λe=>have h:=ao.mp (dC.mp k2.2 _ (lookup_mem e));⟨of_decide_eq_true h.1,λq=>(bK.mp h.2).elim (λh=>absurd q (of_decide_eq_true h)) λh=>List.contains_iff_mem.mp h⟩;have hcd:s.heap.CodeRec fd.code fd.qualname:=cd.imp λc=>bj λoc=>bj λvs=>bj λt z=>⟨z.1,I0.t _ _ z.2.1,z.2.2⟩;have hlen:=eQ.length vs rv;have a1i:A.depth<recursionLimit:=bc (l6 hr.2.1) (by decide)
 have pl:as.length=ps.length:=by rw[←pn,ax]
 have lu:us.length=ps.length:=hlen.symm.trans hl;obtain⟨g,hg,hb⟩:=Pe (s:=s) (us:=us) (ds:=[]) (r:=none) pa (λM A E Q hq=>rwl df (wpAny_pure hq)) rfl (by rw[pl,lu];exact cM _) (cy _) (by rw[pl,lu];exact cM _)
 rw[pn,zI,ay]at hg;rw[pn]at hb;refine kla_callFunE a1i (I0.t _ _ e) ed (by rw[sc]) (by rw[sc]) eb hcd (hb _ _ _ _ ?_)
 have sk:fd.scope.kind=.function:=by rw[sc]
 refine wpAny_newFunctionEnv (λx hx=>?_) (λx hx=>?_) (λh' hns W7=>?_) sk
 ·rw[sc]at hx;exact(hnm (rA k2.1 x hx)).1
 ·rw[sc];exact hps (sS hx).1
 rw[sc,gl,cl,bi];have old:∀b o,s.heap.get? b=some o→h'.get? b=some o:=λb o e=>W7.extBut b o (cb (Heap.lt_size e)) (Heap.get?_push_of_some _ e);generalize hE:newEnv _ _ _ _ _ _ _ _ _=env;have heL:env.locals=s.heap.objs.size:=by rw[←hE];rfl
 have hen:env.scope.names=names:=by rw[←hE];rfl
 have Qn:env.cells=cs:=by rw[←hE];rfl
 have TS:env.scope.kind=.function:=by rw[←hE];rfl
 have hgl:env.globals=mainGlobals:=by rw[←hE];rfl
 have hbi:env.builtins=builtinsNs:=by rw[←hE];rfl
 have ko:∀y,env.kindOf y=names.lookup y:=λy=>congrArg (Mo y) hen;have room:L0 n (A.deeper env):=⟨hr.1,by have:=hr.2.1;show A.depth+1+4*n+2≤600;lia,by have:=hr.2.2;show A.units+3+30*n+12≤6000;lia⟩
 let c:Cx:=⟨G,W,n,call,hc,A.deeper env,room,B,env,false,false,TS,hgl,hbi,λ_=>rfl,λh=>absurd h aq,λh=>absurd h aq⟩
 have F:FI c (Hz (ps.zip vs++ns.zip ms)) T σ {s with heap:=h',toks:=s.toks+(bound ps g).length}:=by
  have L:=I0.fresh (dT s.heap);refine⟨I0.grow old (.refl T) (λ_ _=>.inl) rfl rfl,⟨_,rwl heL hns,λy=>?_⟩,rwl heL (⟨L.t,L.b,L.f,L.tab⟩),λh=>absurd h aq,λ_ y k e=>(ck.2.2.1 (rwr Qn e)).elim λu z=>z.imp λo z=>.inl z.1⟩;rw[Qb];show Slot _ env _ _ y _;have ky:=ko y;induction h1:cc (ps.zip vs) y with
  |some m=>
   refine Cc (Ep ps rv h1) λu zh=>oe zh λh2 h3 h4=>?_;rw[Qc h1];exact .inl ⟨ky.trans (hps h4),u,Sy ((hg y).trans h2) h4,h3⟩
  |none=>
   have np:=Rq h1 (cR hl.symm);rw[Tw h1];induction h2:cc (ns.zip ms) y with
   |some m=>
    refine iA (ck.2.2.2 h2) λk u zh=>oe zh λh3 h4 h5=>?_;have hf:names.lookup y=some .free:=rA k2.1 (y,.free) ((B9 _ _ (show y∈Am names from rwr hfr (dv.mpr ⟨_,lookup_mem h3,rfl⟩))).resolve_left aD);exact .inr ⟨.inr (ky.trans hf),k,rwl Qn h3,some u,h4.imp λo z=>⟨old _ _ (I0.t _ _ z.1),z.2⟩,u,rfl,h5⟩
   |none=>
    have nn:=Rq h2 ck.2.1;refine⟨λq=>np ((hnm (ky.symm.trans q)).2 rfl),λq=>(hnm (ky.symm.trans q)).1 rfl,λq=>nn ?_⟩;rw[ck.1,hfr];exact Ld _ _ (.inr (lookup_mem (ky.symm.trans q)))
 refine⟨?_,kla_codeExpr (wpAny_mono ((Bq body c).se (Q:=Q) _ F ?_ λT' m v av s' t r F' q=>?_) (λ_ _ z=>z) λ_ _ z=>z.elim)⟩
 ·induction W.S5 with|mk oS es ep g1 hd ym hf=>exact⟨nsFind es,⟨oS,es,ep,old _ _ (I0.t _ _ (I0.base _ _ g1)),hd,ym,λ_=>rfl⟩,hf⟩
 ·show(w (E5 call false) (nE env.scope.names body)).1.e _ σ _;rw[hen,nb];exact hw
 ·exact .mk v T' m av rfl t r F'.1 q
end
section
open _root_.Mine.Internal.N renaming cons->c,nil->o,name->v,attr->t,assign->g,call->k,con->n,cmp->m,bin->b,ifs->i,expr->e,ret->r,sub->s,tup->p,list->l,bop->q,comp->f,a1q->y,Zs->u,ife->h,slice->d,un->j
open _root_.PySem.NameKind renaming«local»->L,globalImplicit->G,free->F,cell->H
open _root_.PySem.Const renaming int->x,bool->z
noncomputable def JN:N:=
 (c (g (t (v aj) Eu) (v Eu))
 (c (g (t (v aj) Mx) (v Mx))
 o))
noncomputable def oz:N:=
 (c (i (t (v ae) jk) (c .bad
 o) o)
 o)
noncomputable def xh:N:=
 (c (i (m (b (k (t (v ae) rx) o) .Add (v zZ)) [.Gt] (c (v Hv) o)) (c .bad
 o) o)
 o)
noncomputable def Cu:N:=
 (c (g (p (c (v cz) (c (v bI) o))) (p (c (k (v uv) (c (v au) (c (v aH) o))) (c (k (v qN) (c (v au) (c (v aH) o))) o))))
 (c (i (q .Or (c (m (v cz) [.Lt] (c (t (v ae) vB) o)) (c (m (v bI) [.Gt] (c (t (v ae) Dk) o)) o))) (c .bad
 o) o)
 (c (r (p (c (v cz) (c (v bI) o))))
 o)))
noncomputable def tX:N:=
 (c (y (v cI) (k (v c8) (c (t (v ae) ip) o)) (c (e (k (t (v cI) ux) (c (v ae) (c (v au) (c (v aH) o)))))
 o))
 o)
noncomputable def rL:N:=
 (c (e (k (t (v ae) Il) (c (n (z true)) o)))
 (c (y (v cI) (k (v c8) (c (t (v ae) ip) o)) (c (e (k (t (v cI) pK) (c (v ae) (c (v au) (c (v aH) (c (v oW) o))))))
 o))
 o))
noncomputable def zC:N:=
 (c (i (m (t (v ae) jK) [.IsNot] (c (n .none) o)) (c (e (k (t (t (v ae) jK) JZ) (c (v ae) (c (v au) (c (v aH) o)))))
 o) o)
 (c (g (v iT) (k (t (t (v ae) vl) gE) (c (b (v au) .Sub (n (x 1))) (c (b (v aH) .Sub (n (x 1))) o))))
 (c (g (t (v ae) Dk) (b (t (v ae) Dk) .Sub (b (v aH) .Sub (v au))))
 (c (i (m (t (v ae) x_point) [.Gt] (c (v au) o)) (c (g (t (v ae) x_point) (k (v qN) (c (v au) (c (b (t (v ae) x_point) .Sub (b (v aH) .Sub (v au))) o))))
 o) o)
 (c (r (v iT))
 o)))))
noncomputable def xH:N:=
 (c (i (m (t (v ae) jK) [.IsNot] (c (n .none) o)) (c (e (k (t (t (v ae) jK) Io) (c (v ae) (c (v bF) (c (k (v cA) (c (v ba) o)) o)))))
 o) o)
 (c (e (k (t (t (v ae) vl) ee) (c (b (v bF) .Sub (n (x 1))) (c (v ba) o))))
 (c (g (t (v ae) Dk) (b (t (v ae) Dk) .Add (k (v cA) (c (v ba) o))))
 (c (i (m (t (v ae) x_point) [.Gt] (c (v bF) o)) (c (g (t (v ae) x_point) (b (t (v ae) x_point) .Add (k (v cA) (c (v ba) o))))
 o) o)
 o))))
noncomputable def zH:N:=
 (c (i (m (t (v ae) bg) [.IsNot] (c (n .none) o)) (c (e (k (t (t (v ae) bg) CE) (c (b (v au) .Sub (n (x 1))) (c (b (v aH) .Sub (n (x 1))) o))))
 o) o)
 (c (i (m (t (v ae) j8) [.IsNot] (c (n .none) o)) (c (e (k (t (t (v ae) j8) CE) (c (b (v au) .Sub (n (x 1))) (c (b (v aH) .Sub (n (x 1))) o))))
 o) o)
 o))
noncomputable def xI:N:=
 (c (i (m (t (v ae) bg) [.IsNot] (c (n .none) o)) (c (e (k (t (t (v ae) bg) CG) (c (b (v bF) .Sub (n (x 1))) (c (v bE) o))))
 o) o)
 (c (i (m (t (v ae) j8) [.IsNot] (c (n .none) o)) (c (e (k (t (t (v ae) j8) CG) (c (b (v bF) .Sub (n (x 1))) (c (v bE) (c (v bA) o)))))
 o) o)
 o))
noncomputable def sT:N:=
 (c (e (k (v eM) (c (v ae) o)))
 (c (e (k (v kC) (c (v ae) (c (v bF) (c (v bF) o)))))
 (c (i (m (k (v cA) (c (v ba) o)) [.Eq] (c (n (x 0)) o)) (c .vK
 o) o)
 (c (e (k (v qM) (c (v ae) (c (k (v cA) (c (v ba) o)) o))))
 (c (e (k (v gx) (c (v ae) (c (v bF) (c (v bF) o)))))
 (c (e (k (v xt) (c (v ae) (c (v bF) (c (v ba) o)))))
 (c (i (v gB) (c (g (t (v ae) x_point) (b (v bF) .Add (k (v cA) (c (v ba) o))))
 o) o)
 (c (e (k (t (t (v ae) dy) Mv) (c (v bF) (c (b (v bF) .Add (k (v cA) (c (v ba) o))) (c (v bA) o)))))
 (c (e (k (v xx) (c (v ae) (c (v bF) (c (k (v cA) (c (v ba) o)) (c (v bA) o))))))
 (c (e (k (v iP) (c (v ae) (c (v bF) (c (b (v bF) .Add (k (v cA) (c (v ba) o))) (c (n (x 0)) o))))))
 o))))))))))
noncomputable def rt:N:=
 (c (e (k (v zU) (c (v ae) (c (v bF) (c (v ba) (c (v bA) (c (n (z false)) o)))))))
 o)
noncomputable def xi:N:=
 (c (e (k (v zU) (c (v ae) (c (t (v ae) x_point) (c (v ba) (c (v bA) (c (n (z true)) o)))))))
 o)
noncomputable def Bn:N:=
 (c (e (k (v eM) (c (v ae) o)))
 (c (g (p (c (v cz) (c (v bI) o))) (k (v kC) (c (v ae) (c (v au) (c (v aH) o)))))
 (c (i (m (v cz) [.Eq] (c (v bI) o)) (c (r (l o))
 o) o)
 (c (e (k (v gx) (c (v ae) (c (v cz) (c (v bI) o)))))
 (c (g (v iT) (k (v s8) (c (v ae) (c (v cz) (c (v bI) o)))))
 (c (e (k (t (t (v ae) dy) Py) (c (v cz) (c (v bI) o))))
 (c (e (k (v te) (c (v ae) (c (v cz) (c (v bI) o)))))
 (c (e (k (v iP) (c (v ae) (c (v cz) (c (v cz) (c (b (v bI) .Sub (v cz)) o))))))
 (c (r (v iT))
 o)))))))))
noncomputable def mP:N:=
 (c (e (k (v eM) (c (v ae) o)))
 (c (g (p (c (v cz) (c (v bI) o))) (k (v kC) (c (v ae) (c (v au) (c (v aH) o)))))
 (c (i (m (v cz) [.Eq] (c (v bI) o)) (c (e (k (v qR) (c (v ae) (c (v cz) (c (v ba) o)))))
 (c (r (l o))
 o)) o)
 (c (i (m (k (v cA) (c (v ba) o)) [.Eq] (c (n (x 0)) o)) (c (r (k (v gE) (c (v ae) (c (v cz) (c (v bI) o)))))
 o) o)
 (c (e (k (v qM) (c (v ae) (c (b (k (v cA) (c (v ba) o)) .Sub (b (v bI) .Sub (v cz))) o))))
 (c (g (v x_point) (t (v ae) x_point))
 (c (e (k (v gx) (c (v ae) (c (v cz) (c (v bI) o)))))
 (c (g (v iT) (k (v s8) (c (v ae) (c (v cz) (c (v bI) o)))))
 (c (e (k (v xt) (c (v ae) (c (v cz) (c (v ba) o)))))
 (c (i (m (v x_point) [.GtE] (c (v bI) o)) (c (g (t (v ae) x_point) (b (b (v x_point) .Add (k (v cA) (c (v ba) o))) .Sub (b (v bI) .Sub (v cz))))
 o) o)
 (c (e (k (t (t (v ae) dy) Mt) (c (v cz) (c (v bI) (c (k (v cA) (c (v ba) o)) o)))))
 (c (e (k (v xx) (c (v ae) (c (v bI) (c (k (v cA) (c (v ba) o)) (c (n (z true)) o))))))
 (c (e (k (v te) (c (v ae) (c (v cz) (c (v bI) o)))))
 (c (i (m (v aX) [.IsNot] (c (n .none) o)) (c (e (k (t (t (v ae) bg) yR) (c (v aX) o)))
 o) o)
 (c (e (k (v iP) (c (v ae) (c (v cz) (c (b (v cz) .Add (k (v cA) (c (v ba) o))) (c (b (v bI) .Sub (v cz)) o))))))
 (c (r (v iT))
 o))))))))))))))))
noncomputable def a1D:N:=
 (c (i (q .Or (c (k (v kX) (c (v gZ) (c (v EA) o))) (c (k (v kX) (c (v dg) (c (v EA) o))) o))) (c (r (q .And (c (k (v kX) (c (v gZ) (c (v EA) o))) (c (k (v kX) (c (v dg) (c (v EA) o))) (c (m (v gZ) [.Eq] (c (v dg) o)) o)))))
 o) o)
 (c (r (m (v gZ) [.Eq] (c (v dg) o)))
 o))
noncomputable def ud:N:=
 (c (y (v x_at) (k (v kT) (c (k (v cA) (c (v aI) o)) o)) (c (i (m (s (s (v aI) (v x_at)) (n (x 0))) [.Eq] (c (v aG) o)) (c (r (v x_at))
 o) o)
 o))
 (c (r (j .USub (n (x 1))))
 o))
noncomputable def xg:N:=
 (c (g (v x_at) (k (v gA) (c (v aI) (c (v aG) o))))
 (c (r (h (m (v x_at) [.GtE] (c (n (x 0)) o)) (p (c (s (s (v aI) (v x_at)) (n (x 1))) o)) (n .none)))
 o))
noncomputable def ua:N:=
 (c (g (v x_at) (k (v gA) (c (v aI) (c (v aG) o))))
 (c (i (m (v x_at) [.Lt] (c (n (x 0)) o)) (c (r (b (v aI) .Add (l (c (p (c (v aG) (c (v cX) o))) o))))
 o) o)
 (c (r (b (b (s (v aI) (d (n .none) (v x_at))) .Add (l (c (p (c (v aG) (c (v cX) o))) o))) .Add (s (v aI) (d (b (v x_at) .Add (n (x 1))) (n .none)))))
 o)))
noncomputable def ou:N:=
 (c (r (f (v vx) (c (v vx) (c (v aI) (c (m (s (v vx) (n (x 0))) [.NotEq] (c (v aG) o)) o))) [(kZ,L),(vx,L),(aG,F)]))
 o)
noncomputable def uh:N:=
 (c (g (v x_at) (k (v gA) (c (v aI) (c (v aG) o))))
 (c (r (q .And (c (m (v x_at) [.GtE] (c (n (x 0)) o)) (c (k (v Vs) (c (s (s (v aI) (v x_at)) (n (x 1))) (c (v cX) o))) o))))
 o))
noncomputable def t7:N:=
 (c (i (m (k (v cA) (c (v gZ) o)) [.NotEq] (c (k (v cA) (c (v dg) o)) o)) (c (r (n (z false)))
 o) o)
 (c (y (p (c (v aG) (c (v cX) o))) (v gZ) (c (i (j .Not (k (v jD) (c (v dg) (c (v aG) (c (v cX) o))))) (c (r (n (z false)))
 o) o)
 o))
 (c (r (n (z true)))
 o)))
noncomputable def ow:N:=
 (c (r (f (v vx) (c (v vx) (c (v aI) (c (m (s (v vx) (n (x 0))) [.NotIn] (c (v eU) o)) o))) [(kZ,L),(vx,L),(eU,F)]))
 o)
noncomputable def jt:N:=
 (c (g (v bG) (l o))
 (c (y (p (c (v aG) (c (v cX) o))) (v gZ) (c (i (j .Not (k (v jD) (c (v dg) (c (v aG) (c (v cX) o))))) (c (e (k (t (v bG) d4) (c (v aG) o)))
 o) o)
 o))
 (c (y (p (c (v aG) (c (v cX) o))) (v dg) (c (i (m (k (v gA) (c (v gZ) (c (v aG) o))) [.Lt] (c (n (x 0)) o)) (c (e (k (t (v bG) d4) (c (v aG) o)))
 o) o)
 o))
 (c (r (k (v r0) (c (v bG) o)))
 o))))
noncomputable def uc:N:=
 (c (i (m (t (v ae) bg) [.Is] (c (n .none) o)) (c (r (h (m (v au) [.Lt] (c (v aH) o)) (l (c (p (c (v au) (c (v aH) (c (l o) o)))) o)) (l o)))
 o) o)
 (c (r (f (p (c (b (v cz) .Add (n (x 1))) (c (b (v bI) .Add (n (x 1))) (c (v aI) o)))) (c (p (c (v cz) (c (v bI) (c (v aI) o)))) (c (k (t (t (v ae) bg) vt) (c (b (v au) .Sub (n (x 1))) (c (b (v aH) .Sub (n (x 1))) o))) o)) [(kZ,L),(cz,L),(bI,L),(aI,L)]))
 o))
noncomputable def qo:N:=
 (c (g (v au) (t (v ae) x_point))
 (c (e (k (v ee) (c (v ae) (c (t (v fK) ba) o))))
 (c (i (q .And (c (m (t (v ae) bg) [.IsNot] (c (n .none) o)) (c (m (k (v cA) (c (t (v fK) ba) o)) [.Gt] (c (n (x 0)) o)) o))) (c (g (v aX) (l (c (p (c (b (v au) .Sub (n (x 1))) (c (b (b (v au) .Sub (n (x 1))) .Add (k (v cA) (c (t (v fK) ba) o))) (c (l o) o)))) o)))
 (c (g (v aX) (b (v aX) .Add (f (p (c (b (b (v au) .Sub (n (x 1))) .Add (v cz)) (c (b (b (v au) .Sub (n (x 1))) .Add (v bI)) (c (k (v c8) (c (v aI) o)) o)))) (c (p (c (v cz) (c (v bI) (c (v aI) o)))) (c (t (v fK) iS) o)) [(kZ,L),(cz,L),(bI,L),(aI,L),(c8,G),(au,F)])))
 (c (e (k (t (t (v ae) bg) yR) (c (v aX) o)))
 o))) o)
 o)))
noncomputable def zG:N:=
 (c (g (v bG) (k (v kE) (c (v aI) (c (v aG) o))))
 (c (i (q .Or (c (m (v bG) [.Is] (c (n .none) o)) (c (m (v f6) [.Is] (c (n .none) o)) o))) (c (r (q .And (c (m (v bG) [.Is] (c (n .none) o)) (c (m (v f6) [.Is] (c (n .none) o)) o))))
 o) o)
 (c (r (k (v Vs) (c (s (v bG) (n (x 0))) (c (s (v f6) (n (x 0))) o))))
 o)))
noncomputable def jr:N:=
 (c (g (p (c (v cz) (c (v bI) o))) (k (v kC) (c (v ae) (c (v au) (c (v aH) o)))))
 (c (e (k (v eM) (c (v ae) o)))
 (c (i (m (t (v ae) bg) [.Is] (c (n .none) o)) (c (r (n (z false)))
 o) o)
 (c (g (v cf) (l o))
 (c (y (p (c (v dO) (c (v dh) (c (v aI) o)))) (k (v zV) (c (v ae) (c (v cz) (c (v bI) o)))) (c (i (j .Not (k (v Ez) (c (v gw) (c (v aI) (c (v aG) o))))) (c (g (v x_fresh) (h (m (v gw) [.Is] (c (n .none) o)) (k (v uo) (c (v aI) (c (v aG) o))) (k (v jC) (c (v aI) (c (v aG) (c (s (v gw) (n (x 0))) o))))))
 (c (e (k (t (v cf) d4) (c (p (c (v dO) (c (v dh) (c (v aI) (c (v x_fresh) o))))) o)))
 o)) o)
 o))
 (c (i (m (k (v cA) (c (v cf) o)) [.Eq] (c (n (x 0)) o)) (c (r (n (z false)))
 o) o)
 (c (e (k (v gx) (c (v ae) (c (v cz) (c (v bI) o)))))
 (c (y (p (c (v dO) (c (v dh) (c (v aI) (c (v x_fresh) o))))) (v cf) (c (i (m (t (v ae) jK) [.IsNot] (c (n .none) o)) (c (e (k (t (t (v ae) jK) pI) (c (v ae) (c (v dO) (c (v dh) (c (v aG) (c (k (v kE) (c (v aI) (c (v aG) o))) o)))))))
 o) o)
 o))
 (c (e (k (t (t (v ae) bg) yR) (c (f (p (c (b (v dO) .Sub (n (x 1))) (c (b (v dh) .Sub (n (x 1))) (c (v x_fresh) o)))) (c (p (c (v dO) (c (v dh) (c (v aI) (c (v x_fresh) o))))) (c (v cf) o)) [(kZ,L),(dO,L),(dh,L),(aI,L),(x_fresh,L)]) o)))
 (c (e (k (t (v ae) Il) (c (n (z false)) o)))
 (c (y (v cI) (k (v c8) (c (t (v ae) ip) o)) (c (e (k (t (v cI) pK) (c (v ae) (c (v cz) (c (v bI) (c (b (v bI) .Sub (v cz)) o))))))
 o))
 (c (r (n (z true)))
 o))))))))))))
noncomputable def jM:N:=
 (c (g (t (v aj) aX) (l o))
 (c (g (t (v aj) xy) (n (x 0)))
 (c (g (t (v aj) tc) (n (z true)))
 (c (g (t (v aj) g8) (n .none))
 (c (g (t (v aj) kU) (n .none))
 o)))))
noncomputable def mQ:N:=
 (c (r (b (t (v aj) xy) .Add (k (v cA) (c (t (v aj) aX) o))))
 o)
noncomputable def gj:N:=
 (c (r (q .Or (c (m (k (v cA) (c (t (v aj) aX) o)) [.Eq] (c (n (x 0)) o)) (c (m (s (t (v aj) aX) (j .USub (n (x 1)))) [.Eq] (c (v gO) o)) o))))
 o)
noncomputable def jL:N:=
 (c (i (j .Not (k (t (v aj) r7) o)) (c (e (k (t (t (v aj) aX) d4) (c (v gO) o)))
 o) o)
 o)
noncomputable def iW:N:=
 (c (i (q .And (c (j .Not (v bz)) (c (m (v fU) [.NotEq] (c (t (v aj) kU) o)) o))) (c (e (k (t (t (v aj) aX) d4) (c (p (c (n (.str dN)) (c (v fU) o))) o)))
 (c (g (t (v aj) kU) (v fU))
 o)) o)
 o)
noncomputable def iX:N:=
 (c (g (v td) (k (t (v aj) r7) o))
 (c (e (k (t (v aj) zX) (c (v bz) (c (v fU) o))))
 (c (i (q .And (c (v td) (c (m (t (v aj) g8) [.IsNot] (c (n .none) o)) (c (m (t (v aj) g8) [.NotEq] (c (v au) o)) o)))) (c (e (k (t (t (v aj) aX) d4) (c (p (c (n (.str x_point)) (c (t (v aj) g8) o))) o)))
 o) o)
 o)))
noncomputable def iB:N:=
 (c (i (q .Or (c (j .Not (t (v aj) tc)) (c (m (v bE) [.Eq] (c (n (x 0)) o)) o))) (c .vK
 o) o)
 (c (e (k (t (v aj) zY) (c (v au) (c (v bz) (c (v fU) o)))))
 (c (g (v dh) (h (m (k (v cA) (c (t (v aj) aX) o)) [.Gt] (c (n (x 0)) o)) (s (t (v aj) aX) (j .USub (n (x 1)))) (v gO)))
 (c (i (q .And (c (m (s (v dh) (n (x 0))) [.Eq] (c (n (.str ee)) o)) (c (m (s (v dh) (n (x 2))) [.Eq] (c (v au) o)) o))) (c (g (s (t (v aj) aX) (j .USub (n (x 1)))) (p (c (n (.str ee)) (c (s (v dh) (n (x 1))) (c (b (v au) .Add (v bE)) o)))))
 o) (c (e (k (t (t (v aj) aX) d4) (c (p (c (n (.str ee)) (c (v au) (c (b (v au) .Add (v bE)) o)))) o)))
 o))
 o))))
noncomputable def iC:N:=
 (c (i (q .Or (c (j .Not (t (v aj) tc)) (c (m (k (v cA) (c (t (v fK) ba) o)) [.Eq] (c (n (x 0)) o)) o))) (c .vK
 o) o)
 (c (e (k (t (v aj) zY) (c (v au) (c (v bz) (c (v fU) o)))))
 (c (y (p (c (v aL) (c (v eh) o))) (v dy) (c (i (m (v eh) [.NotEq] (c (n (x 0)) o)) (c (e (k (t (t (v aj) aX) d4) (c (p (c (n (.str aL)) (c (v aL) (c (v eh) o)))) o)))
 o) o)
 o))
 (c (e (k (t (t (v aj) aX) d4) (c (p (c (n (.str gE)) (c (v au) (c (v fK) (c (m (v x_point) [.Eq] (c (b (v au) .Add (k (v cA) (c (t (v fK) ba) o))) o)) o))))) o)))
 o))))
noncomputable def gU:N:=
 (c (i (q .And (c (t (v aj) tc) (c (m (v au) [.Lt] (c (v aH) o)) o))) (c (e (k (t (v aj) zX) (c (v bz) (c (v fU) o))))
 (c (e (k (t (t (v aj) aX) d4) (c (p (c (n (.str j7)) (c (v au) (c (v aH) (c (v aG) (c (v f6) o)))))) o)))
 o)) o)
 o)
noncomputable def fL:N:=
 (c (g (v vy) (p (c (n (.str dN)) (c (v f6) o))))
 (c (g (t (v aj) aX) (f (h (m (v dW) [.Eq] (c (v vy) o)) (p (c (n (.str dN)) (c (v x_fresh) o))) (v dW)) (c (v dW) (c (t (v aj) aX) o)) [(kZ,L),(dW,L),(x_fresh,F),(vy,F)]))
 o))
noncomputable def lJ:N:=
 (c (i (q .Or (c (m (v bF) [.Lt] (c (v au) o)) (c (m (v bF) [.Gt] (c (v aH) o)) o))) (c (r (n (x 0)))
 o) o)
 (c (r (h (v kY) (b (v aH) .Sub (v bF)) (b (v au) .Sub (v bF))))
 o))
noncomputable def qm:N:=
 (c (i (q .Or (c (m (v au) [.Lt] (c (t (v ae) vB) o)) (c (m (v aH) [.Gt] (c (t (v ae) Dk) o)) o))) (c .bad
 o) o)
 o)
noncomputable def oA:N:=
 (c (g (v bG) (l o))
 (c (u (q .And (c (m (v x_at) [.Gt] (c (n (x 0)) o)) (c (m (s (s (v aX) (b (v x_at) .Sub (n (x 1)))) (n (x 0))) [.Eq] (c (n (.str aL)) o)) o))) (c (g (v x_at) (b (v x_at) .Sub (n (x 1))))
 (c (e (k (t (v bG) d4) (c (s (v aX) (v x_at)) o)))
 o)))
 (c (r (v bG))
 o)))
noncomputable def rJ:N:=
 (c (e (k (v g9) (c (v ae) (c (s (v dW) (n (x 1))) (c (s (v dW) (n (x 2))) o)))))
 (c (e (k (t (v ae) Ip) (c (s (v dW) (n (x 1))) o)))
 (c (e (k (v gE) (c (v ae) (c (s (v dW) (n (x 1))) (c (s (v dW) (n (x 2))) o)))))
 o)))
noncomputable def gT:N:=
 (c (e (k (v g9) (c (v ae) (c (s (v dW) (n (x 1))) (c (s (v dW) (n (x 1))) o)))))
 (c (g (v s7) (l o))
 (c (y (p (c (v Er) (c (v aL) (c (v eh) o)))) (v dX) (c (i (q .And (c (m (t (v aL) aG) [.In] (c (t (t (v ae) dy) aX) o)) (c (m (t (v aL) bT) [.Eq] (c (s (v dW) (n (x 1))) o)) o))) (c (e (k (t (v s7) d4) (c (p (c (v aL) (c (v eh) o))) o)))
 o) o)
 o))
 (c (e (k (t (v ae) Ip) (c (s (v dW) (n (x 1))) o)))
 (c (e (k (v vz) (c (v ae) (c (s (v dW) (n (x 2))) o))))
 (c (i (j .Not (s (v dW) (n (x 3)))) (c (e (k (t (v ae) Ip) (c (s (v dW) (n (x 1))) o)))
 o) o)
 (c (y (p (c (v aL) (c (v eh) o))) (v s7) (c (g (t (v aL) bT) (k (v uv) (c (k (v qN) (c (b (t (v aL) bT) .Sub (v eh)) (c (n (x 1)) o))) (c (b (k (t (v ae) rx) o) .Add (n (x 1))) o))))
 o))
 o)))))))
noncomputable def zB:N:=
 (c (g (v dW) (s (v aX) (b (v x_at) .Sub (n (x 1)))))
 (c (g (v x_at) (b (v x_at) .Sub (n (x 1))))
 (c (i (m (s (v dW) (n (x 0))) [.Eq] (c (n (.str ee)) o)) (c (e (k (v yf) (c (v ae) (c (v dW) o))))
 o) (c (i (m (s (v dW) (n (x 0))) [.Eq] (c (n (.str gE)) o)) (c (g (v dX) (k (v uw) (c (v aX) (c (v x_at) o))))
 (c (e (k (v yg) (c (v ae) (c (v dW) (c (v dX) o)))))
 (c (g (v x_at) (b (v x_at) .Sub (k (v cA) (c (v dX) o))))
 o))) (c (i (m (s (v dW) (n (x 0))) [.Eq] (c (n (.str x_point)) o)) (c (e (k (t (v ae) Ip) (c (s (v dW) (n (x 1))) o)))
 o) (c (i (m (s (v dW) (n (x 0))) [.Eq] (c (n (.str j7)) o)) (c (e (k (v g9) (c (v ae) (c (s (v dW) (n (x 1))) (c (s (v dW) (n (x 2))) o)))))
 (c (e (k (v vn) (c (v ae) (c (s (v dW) (n (x 1))) (c (s (v dW) (n (x 2))) (c (s (v dW) (n (x 3))) (c (s (v dW) (n (x 4))) o)))))))
 o)) (c (i (q .And (c (m (s (v dW) (n (x 0))) [.Eq] (c (n (.str dN)) o)) (c (m (s (v dW) (n (x 1))) [.Eq] (c (t (v ae) d9) o)) o))) (c (e (k (t (v ae) vo) (c (n (z false)) o)))
 (c (i (m (t (v ae) jK) [.IsNot] (c (n .none) o)) (c (e (k (t (t (t (v ae) jK) c8) yQ) (c (s (v dW) (n (x 1))) (c (t (v ae) d9) o))))
 o) o)
 o)) o)
 o))
 o))
 o))
 o))
 (c (r (v x_at))
 o))))
noncomputable def ke:N:=
 (c (u (q .And (c (m (v x_at) [.Gt] (c (n (x 0)) o)) (c (m (s (v aX) (b (v x_at) .Sub (n (x 1)))) [.Eq] (c (v gO) o)) o))) (c (g (v x_at) (b (v x_at) .Sub (n (x 1))))
 o))
 (c (r (v x_at))
 o))
noncomputable def tV:N:=
 (c (g (v x_at) (k (v pL) (c (v aX) (c (v x_at) o))))
 (c (u (q .And (c (m (v x_at) [.Gt] (c (n (x 0)) o)) (c (m (s (v aX) (b (v x_at) .Sub (n (x 1)))) [.NotEq] (c (v gO) o)) o))) (c (g (v x_at) (k (v Es) (c (v ae) (c (v aX) (c (v x_at) o)))))
 o))
 (c (r (v x_at))
 o)))
noncomputable def kj:N:=
 (c (g (t (v aj) gN) (v gN))
 (c (g (t (v aj) fo) (b (k (v c8) (c (v ba) o)) .Add (b (l (c (n (x 0)) o)) .Mult (v gN))))
 (c (g (t (v aj) bM) (k (v cA) (c (v ba) o)))
 (c (g (t (v aj) cJ) (b (k (v cA) (c (v ba) o)) .Add (v gN)))
 o))))
noncomputable def qx:N:=
 (c (r (b (b (k (v cA) (c (t (v aj) fo) o)) .Sub (t (v aj) cJ)) .Add (t (v aj) bM)))
 o)
noncomputable def xn:N:=
 (c (i (m (v x_at) [.Lt] (c (t (v aj) bM) o)) (c (r (s (t (v aj) fo) (v x_at)))
 o) o)
 (c (r (s (t (v aj) fo) (b (b (v x_at) .Sub (t (v aj) bM)) .Add (t (v aj) cJ))))
 o))
noncomputable def oF:N:=
 (c (g (v xv) (b (t (v aj) cJ) .Sub (t (v aj) bM)))
 (c (i (m (v aH) [.LtE] (c (t (v aj) bM) o)) (c (r (s (t (v aj) fo) (d (v au) (v aH))))
 o) o)
 (c (i (m (v au) [.GtE] (c (t (v aj) bM) o)) (c (r (s (t (v aj) fo) (d (b (v au) .Add (v xv)) (b (v aH) .Add (v xv)))))
 o) o)
 (c (r (b (s (t (v aj) fo) (d (v au) (t (v aj) bM))) .Add (s (t (v aj) fo) (d (t (v aj) cJ) (b (v aH) .Add (v xv))))))
 o))))
noncomputable def kh:N:=
 (c (i (m (v x_at) [.Lt] (c (t (v aj) bM) o)) (c (g (v f5) (s (t (v aj) fo) (d (v x_at) (t (v aj) bM))))
 (c (g (s (t (v aj) fo) (d (b (t (v aj) cJ) .Sub (k (v cA) (c (v f5) o))) (t (v aj) cJ))) (v f5))
 (c (g (t (v aj) cJ) (b (t (v aj) cJ) .Sub (k (v cA) (c (v f5) o))))
 o))) (c (g (v f5) (s (t (v aj) fo) (d (t (v aj) cJ) (b (b (t (v aj) cJ) .Add (v x_at)) .Sub (t (v aj) bM)))))
 (c (g (s (t (v aj) fo) (d (t (v aj) bM) (b (t (v aj) bM) .Add (k (v cA) (c (v f5) o))))) (v f5))
 (c (g (t (v aj) cJ) (b (t (v aj) cJ) .Add (k (v cA) (c (v f5) o))))
 o))))
 (c (g (t (v aj) bM) (v x_at))
 o))
noncomputable def jO:N:=
 (c (g (v Bx) (b (v gw) .Sub (b (t (v aj) cJ) .Sub (t (v aj) bM))))
 (c (i (m (v Bx) [.Gt] (c (n (x 0)) o)) (c (g (s (t (v aj) fo) (d (t (v aj) cJ) (t (v aj) cJ))) (b (l (c (n (x 0)) o)) .Mult (b (v Bx) .Add (t (v aj) gN))))
 (c (g (t (v aj) cJ) (b (b (t (v aj) cJ) .Add (v Bx)) .Add (t (v aj) gN)))
 o)) o)
 o))
noncomputable def mT:N:=
 (c (e (k (t (v aj) JY) (c (k (v cA) (c (v ba) o)) o)))
 (c (e (k (t (v aj) yS) (c (v x_at) o)))
 (c (g (s (t (v aj) fo) (d (v x_at) (b (v x_at) .Add (k (v cA) (c (v ba) o))))) (v ba))
 (c (g (t (v aj) bM) (b (v x_at) .Add (k (v cA) (c (v ba) o))))
 o))))
noncomputable def mU:N:=
 (c (g (v iT) (k (t (v aj) ba) (c (v au) (c (v aH) o))))
 (c (i (m (v aH) [.Lt] (c (t (v aj) bM) o)) (c (e (k (t (v aj) yS) (c (v aH) o)))
 o) o)
 (c (i (m (v au) [.Gt] (c (t (v aj) bM) o)) (c (e (k (t (v aj) yS) (c (v au) o)))
 o) o)
 (c (g (t (v aj) cJ) (b (b (t (v aj) cJ) .Add (v aH)) .Sub (t (v aj) bM)))
 (c (g (t (v aj) bM) (v au))
 (c (r (v iT))
 o))))))
noncomputable def yL:N:=
 (c (g (s (t (v aj) fo) (h (m (v x_at) [.Lt] (c (t (v aj) bM) o)) (v x_at) (b (b (v x_at) .Sub (t (v aj) bM)) .Add (t (v aj) cJ)))) (v x_code))
 o)
noncomputable def lP:N:=
 (c (g (t (v aj) aG) (v aG))
 (c (g (t (v aj) iy) (v iy))
 (c (g (t (v aj) ae) (n .none))
 (c (g (t (v aj) bT) (n (x 0)))
 o))))
noncomputable def kg:N:=
 (c (g (t (v aj) aX) .Uw)
 o)
noncomputable def jd:N:=
 (c (r (k (v r0) (c (t (v aj) aX) o)))
 o)
noncomputable def rO:N:=
 (c (g (s (t (v aj) aX) (t (v aL) aG)) (v aL))
 (c (g (t (v aL) bT) (v bT))
 o))
noncomputable def xm:N:=
 (c (i (m (t (v aL) aG) [.In] (c (t (v aj) aX) o)) (c (e (k (t (t (v aj) aX) Rv) (c (t (v aL) aG) o)))
 o) o)
 o)
noncomputable def mS:N:=
 (c (g (v bG) (l o))
 (c (y (v aG) (k (t (v aj) eU) o) (c (i (m (v au) [.LtE,.LtE] (c (t (s (t (v aj) aX) (v aG)) bT) (c (v aH) o))) (c (e (k (t (v bG) d4) (c (s (t (v aj) aX) (v aG)) o)))
 o) o)
 o))
 (c (r (v bG))
 o)))
noncomputable def iE:N:=
 (c (y (v aG) (k (t (v aj) eU) o) (c (g (v aL) (s (t (v aj) aX) (v aG)))
 (c (i (q .Or (c (m (t (v aL) bT) [.Gt] (c (v au) o)) (c (q .And (c (m (t (v aL) bT) [.Eq] (c (v au) o)) (c (q .Or (c (v jl) (c (t (v aL) iy) o))) o))) o))) (c (g (t (v aL) bT) (b (b (t (v aL) bT) .Add (v aH)) .Sub (v au)))
 o) o)
 o)))
 o)
noncomputable def lO:N:=
 (c (y (v aG) (k (t (v aj) eU) o) (c (g (v aL) (s (t (v aj) aX) (v aG)))
 (c (i (m (t (v aL) bT) [.Gt] (c (v aH) o)) (c (g (t (v aL) bT) (b (t (v aL) bT) .Sub (b (v aH) .Sub (v au))))
 o) (c (i (m (t (v aL) bT) [.Gt] (c (v au) o)) (c (g (t (v aL) bT) (v au))
 o) o)
 o))
 o)))
 o)
noncomputable def kf:N:=
 (c (y (v aG) (k (t (v aj) eU) o) (c (g (v aL) (s (t (v aj) aX) (v aG)))
 (c (i (m (t (v aL) bT) [.GtE] (c (v aH) o)) (c (g (t (v aL) bT) (b (b (t (v aL) bT) .Add (v bE)) .Sub (b (v aH) .Sub (v au))))
 o) (c (i (m (t (v aL) bT) [.Gt] (c (v au) o)) (c (g (t (v aL) bT) (v au))
 o) o)
 o))
 o)))
 o)
noncomputable def je:N:=
 (c (g (t (v aj) aG) (v aG))
 (c (g (t (v aj) s9) (v s9))
 (c (g (t (v aj) vl) (k (v Hw) (c (l o) (c (v gN) o))))
 (c (g (t (v aj) dy) (k (v Hu) o))
 (c (g (t (v aj) x_point) (n (x 1)))
 (c (g (t (v aj) vB) (n (x 1)))
 (c (g (t (v aj) Dk) (n (x 1)))
 (c (g (t (v aj) Mu) (n .none))
 (c (g (t (v aj) By) (n (z true)))
 (c (g (t (v aj) jk) (n (z false)))
 (c (g (t (v aj) kR) (n (x 1)))
 (c (g (t (v aj) mX) (n (x 1)))
 (c (g (t (v aj) d9) (n (x 1)))
 (c (g (t (v aj) ip) (l o))
 (c (g (t (v aj) jK) (n .none))
 (c (g (t (v aj) bg) (n .none))
 (c (g (t (v aj) j8) (n .none))
 (c (g (t (v aj) Ey) (n .none))
 (c (g (t (v aj) Et) (n .none))
 (c (g (t (v aj) Mw) (n .none))
 o))))))))))))))))))))
noncomputable def xo:N:=
 (c (r (t (v aj) vB))
 o)
noncomputable def Bo:N:=
 (c (r (t (v aj) Dk))
 o)
noncomputable def rP:N:=
 (c (r (k (t (t (v aj) vl) rx) o))
 o)
noncomputable def qz:N:=
 (c (r (k (t (t (v aj) vl) ba) (c (b (v au) .Sub (n (x 1))) (c (b (v aH) .Sub (n (x 1))) o))))
 o)
noncomputable def rQ:N:=
 (c (g (t (v aj) x_point) (k (v uv) (c (k (v qN) (c (v bF) (c (t (v aj) vB) o))) (c (t (v aj) Dk) o))))
 (c (r (t (v aj) x_point))
 o))
noncomputable def yM:N:=
 (c (r (t (v aj) kR))
 o)
noncomputable def jw:N:=
 (c (r (m (t (v aj) d9) [.Lt] (c (t (v aj) kR) o)))
 o)
noncomputable def i9:N:=
 (c (i (j .Not (v xw)) (c (g (t (v aj) d9) (t (v aj) kR))
 o) (c (i (j .Not (k (t (v aj) bz) o)) (c (g (t (v aj) kR) (b (t (v aj) kR) .Add (n (x 1))))
 o) o)
 o))
 o)
noncomputable def qy:N:=
 (c (g (t (v aj) kR) (b (t (v aj) kR) .Add (n (x 1))))
 (c (i (v qT) (c (g (t (v aj) mX) (t (v aj) kR))
 o) o)
 o))
noncomputable def jN:N:=
 (c (g (t (v aj) cx) (v cx))
 (c (g (t (v aj) aI) (v aI))
 (c (g (t (v aj) cW) (n .none))
 (c (g (t (v aj) dF) (n .none))
 (c (g (t (v aj) bV) (n .none))
 o)))))
noncomputable def hJ:N:=
 (c (g (t (v aj) mE) (h (m (v kW) [.Gt] (c (n (x 0)) o)) (k (v mH) (c (v kW) (c (v aI) o))) (n .none)))
 o)
noncomputable def tW:N:=
 (c (r (h (m (v aB) [.Is] (c (n .none) o)) (n (x 0)) (t (v aB) cx)))
 o)
noncomputable def ue:N:=
 (c (r (b (b (t (v aB) cx) .Sub (k (v cT) (c (t (v aB) cW) o))) .Sub (k (v cT) (c (t (v aB) dF) o))))
 o)
noncomputable def rK:N:=
 (c (r (k (v cT) (c (t (v aY) mE) o)))
 o)
noncomputable def qk:N:=
 (c (g (v bV) (t (v aB) bV))
 (c (i (m (v dg) [.IsNot] (c (n .none) o)) (c (g (t (v dg) bV) (v bV))
 o) o)
 (c (i (m (v bV) [.Is] (c (n .none) o)) (c (g (t (v aY) mE) (v dg))
 o) (c (i (m (t (v bV) cW) [.Is] (c (v aB) o)) (c (g (t (v bV) cW) (v dg))
 o) (c (g (t (v bV) dF) (v dg))
 o))
 o))
 o)))
noncomputable def tZ:N:=
 (c (g (t (v aB) cW) (v cH))
 (c (i (m (v cH) [.IsNot] (c (n .none) o)) (c (g (t (v cH) bV) (v aB))
 o) o)
 o))
noncomputable def rp:N:=
 (c (g (t (v aB) dF) (v cH))
 (c (i (m (v cH) [.IsNot] (c (n .none) o)) (c (g (t (v cH) bV) (v aB))
 o) o)
 o))
noncomputable def qi:N:=
 (c (g (v cH) (t (v aB) cW))
 (c (e (k (v fV) (c (v aY) (c (v aB) (c (v cH) o)))))
 (c (g (v cx) (t (v aB) cx))
 (c (g (t (v aB) cx) (b (b (t (v aB) cx) .Sub (t (v cH) cx)) .Add (k (v cT) (c (t (v cH) dF) o))))
 (c (e (k (v gM) (c (v aB) (c (t (v cH) dF) o))))
 (c (e (k (v kB) (c (v cH) (c (v aB) o))))
 (c (g (t (v cH) cx) (v cx))
 (c (r (v cH))
 o))))))))
noncomputable def rM:N:=
 (c (g (v cH) (t (v aB) dF))
 (c (e (k (v fV) (c (v aY) (c (v aB) (c (v cH) o)))))
 (c (g (v cx) (t (v aB) cx))
 (c (g (t (v aB) cx) (b (b (t (v aB) cx) .Sub (t (v cH) cx)) .Add (k (v cT) (c (t (v cH) cW) o))))
 (c (e (k (v kB) (c (v aB) (c (t (v cH) cW) o))))
 (c (e (k (v gM) (c (v cH) (c (v aB) o))))
 (c (g (t (v cH) cx) (v cx))
 (c (r (v cH))
 o))))))))
noncomputable def kb:N:=
 (c (g (v cH) (t (v aB) cW))
 (c (g (v eY) (b (k (v cT) (c (v cH) o)) .Sub (k (v cT) (c (t (v aB) dF) o))))
 (c (i (m (v eY) [.LtE] (c (n (x 0)) o)) (c (r (n (z false)))
 o) o)
 (c (r (m (k (v Ht) (c (b (k (v cT) (c (t (v cH) cW) o)) .Sub (b (b (t (v aB) cx) .Sub (t (v cH) cx)) .Add (k (v cT) (c (t (v cH) dF) o)))) o)) [.Lt] (c (v eY) o)))
 o))))
noncomputable def lL:N:=
 (c (g (v cH) (t (v aB) dF))
 (c (g (v eY) (b (k (v cT) (c (v cH) o)) .Sub (k (v cT) (c (t (v aB) cW) o))))
 (c (i (m (v eY) [.LtE] (c (n (x 0)) o)) (c (r (n (z false)))
 o) o)
 (c (r (m (k (v Ht) (c (b (k (v cT) (c (t (v cH) dF) o)) .Sub (b (b (t (v aB) cx) .Sub (t (v cH) cx)) .Add (k (v cT) (c (t (v cH) cW) o)))) o)) [.Lt] (c (v eY) o)))
 o))))
noncomputable def Gg:N:=
 (c (g (v eF) (l (c (v aB) o)))
 (c (g (v rZ) (v aB))
 (c (u (m (k (v cA) (c (v eF) o)) [.Gt] (c (n (x 0)) o)) (c (g (v eZ) (k (t (v eF) Rv) o))
 (c (i (k (v pH) (c (v eZ) o)) (c (g (v cH) (k (v vu) (c (v aY) (c (v eZ) o))))
 (c (g (v rZ) (h (m (v eZ) [.Is] (c (v rZ) o)) (v cH) (v rZ)))
 (c (e (k (t (v eF) z0) (c (l (c (v cH) (c (v eZ) o))) o)))
 o))) (c (i (k (v qP) (c (v eZ) o)) (c (g (v cH) (k (v yh) (c (v aY) (c (v eZ) o))))
 (c (g (v rZ) (h (m (v eZ) [.Is] (c (v rZ) o)) (v cH) (v rZ)))
 (c (e (k (t (v eF) z0) (c (l (c (v cH) (c (v eZ) o))) o)))
 o))) o)
 o))
 o)))
 (c (r (v rZ))
 o))))
noncomputable def xc:N:=
 (c (u (m (v aB) [.IsNot] (c (n .none) o)) (c (g (v aB) (t (k (v J0) (c (v aY) (c (v aB) o))) bV))
 o))
 o)
noncomputable def xk:N:=
 (c (u (m (v aB) [.IsNot] (c (n .none) o)) (c (g (t (v aB) cx) (b (t (v aB) cx) .Add (v bE)))
 (c (g (v aB) (t (v aB) bV))
 o)))
 o)
noncomputable def oB:N:=
 (c (g (v aB) (t (v aY) mE))
 (c (g (v aT) (n (x 0)))
 (c (u (n (z true)) (c (g (v ja) (k (v cT) (c (t (v aB) cW) o)))
 (c (g (v vy) (k (v cY) (c (v aB) o)))
 (c (i (m (v x_at) [.Lt] (c (b (v aT) .Add (v ja)) o)) (c (g (v aB) (t (v aB) cW))
 o) (c (i (m (v x_at) [.Lt] (c (b (b (v aT) .Add (v ja)) .Add (v vy)) o)) (c (r (p (c (v aB) (c (b (v aT) .Add (v ja)) o))))
 o) (c (g (v aT) (b (b (v aT) .Add (v ja)) .Add (v vy)))
 (c (g (v aB) (t (v aB) dF))
 o)))
 o))
 o))))
 o)))
noncomputable def zF:N:=
 (c (u (m (t (v aB) cW) [.IsNot] (c (n .none) o)) (c (g (v aB) (t (v aB) cW))
 o))
 (c (r (v aB))
 o))
noncomputable def xd:N:=
 (c (u (m (t (v aB) dF) [.IsNot] (c (n .none) o)) (c (g (v aB) (t (v aB) dF))
 o))
 (c (r (v aB))
 o))
noncomputable def xj:N:=
 (c (i (m (t (v aB) dF) [.IsNot] (c (n .none) o)) (c (r (k (v mF) (c (t (v aB) dF) o)))
 o) o)
 (c (u (q .And (c (m (t (v aB) bV) [.IsNot] (c (n .none) o)) (c (m (t (t (v aB) bV) dF) [.Is] (c (v aB) o)) o))) (c (g (v aB) (t (v aB) bV))
 o))
 (c (r (t (v aB) bV))
 o)))
noncomputable def xf:N:=
 (c (i (m (t (v aB) cW) [.IsNot] (c (n .none) o)) (c (r (k (v qK) (c (t (v aB) cW) o)))
 o) o)
 (c (u (q .And (c (m (t (v aB) bV) [.IsNot] (c (n .none) o)) (c (m (t (t (v aB) bV) cW) [.Is] (c (v aB) o)) o))) (c (g (v aB) (t (v aB) bV))
 o))
 (c (r (t (v aB) bV))
 o)))
noncomputable def t9:N:=
 (c (i (m (t (v aB) dF) [.Is] (c (n .none) o)) (c (e (k (v kB) (c (v aB) (c (v x_fresh) o))))
 o) (c (g (v aB) (k (v mF) (c (t (v aB) dF) o)))
 (c (e (k (v gM) (c (v aB) (c (v x_fresh) o))))
 o)))
 (c (e (k (v fN) (c (t (v x_fresh) bV) (c (t (v x_fresh) cx) o))))
 (c (e (k (v gy) (c (v aY) (c (t (v x_fresh) bV) o))))
 o)))
noncomputable def xe:N:=
 (c (g (v jU) (k (v qL) (c (v aB) o)))
 (c (i (m (v jU) [.IsNot] (c (n .none) o)) (c (e (k (v jB) (c (v aY) (c (v jU) (c (v x_fresh) o)))))
 (c .vK
 o)) o)
 (c (e (k (v gM) (c (v aB) (c (v x_fresh) o))))
 (c (e (k (v fN) (c (v aB) (c (t (v x_fresh) cx) o))))
 (c (e (k (v gy) (c (v aY) (c (v aB) o))))
 o)))))
noncomputable def zD:N:=
 (c (i (j .Not (m (n (x 0)) [.Lt,.Lt] (c (v x_at) (c (k (v fM) (c (v aY) o)) o)))) (c .vK
 o) o)
 (c (g (p (c (v aB) (c (v aT) o))) (k (v cE) (c (v aY) (c (v x_at) o))))
 (c (i (m (v aT) [.Eq] (c (v x_at) o)) (c .vK
 o) o)
 (c (g (v Ew) (b (k (v cY) (c (v aB) o)) .Sub (b (v x_at) .Sub (v aT))))
 (c (e (k (v fN) (c (v aB) (c (b (n (x 0)) .Sub (v Ew)) o))))
 (c (e (k (v jB) (c (v aY) (c (v aB) (c (k (v mH) (c (v Ew) (c (t (v aB) aI) o))) o)))))
 o))))))
noncomputable def oE:N:=
 (c (e (k (v fN) (c (t (v aB) bV) (c (b (n (x 0)) .Sub (k (v cY) (c (v aB) o))) o))))
 (c (g (v tf) (t (v aB) bV))
 (c (i (q .Or (c (m (t (v aB) cW) [.Is] (c (n .none) o)) (c (m (t (v aB) dF) [.Is] (c (n .none) o)) o))) (c (g (v cH) (h (m (t (v aB) dF) [.Is] (c (n .none) o)) (t (v aB) cW) (t (v aB) dF)))
 (c (e (k (v fV) (c (v aY) (c (v aB) (c (v cH) o)))))
 (c (e (k (v gy) (c (v aY) (c (v tf) o))))
 (c .vK
 o)))) o)
 (c (g (v f5) (t (v aB) cW))
 (c (g (v eZ) (k (v mF) (c (t (v aB) dF) o)))
 (c (e (k (v fV) (c (v aY) (c (v aB) (c (t (v aB) dF) o)))))
 (c (e (k (v gM) (c (v eZ) (c (v f5) o))))
 (c (u (m (v eZ) [.IsNot] (c (v tf) o)) (c (g (t (v eZ) cx) (b (t (v eZ) cx) .Add (t (v f5) cx)))
 (c (g (v eZ) (t (v eZ) bV))
 o)))
 (c (e (k (v gy) (c (v aY) (c (t (v f5) bV) o))))
 o)))))))))
noncomputable def lN:N:=
 (c (i (m (v bE) [.Eq] (c (n (x 0)) o)) (c .vK
 o) o)
 (c (g (v x_fresh) (k (v mH) (c (v bE) (c (v aI) o))))
 (c (i (m (t (v aY) mE) [.Is] (c (n .none) o)) (c (g (t (v aY) mE) (v x_fresh))
 (c .vK
 o)) o)
 (c (e (k (v jj) (c (v aY) (c (v x_at) o))))
 (c (i (m (v x_at) [.Eq] (c (k (v fM) (c (v aY) o)) o)) (c (e (k (v jB) (c (v aY) (c (k (v qK) (c (t (v aY) mE) o)) (c (v x_fresh) o)))))
 o) (c (e (k (v CH) (c (v aY) (c (s (k (v cE) (c (v aY) (c (v x_at) o))) (n (x 0))) (c (v x_fresh) o)))))
 o))
 o)))))
noncomputable def qt:N:=
 (c (i (m (v aT) [.GtE] (c (v aH) o)) (c .vK
 o) o)
 (c (e (k (v jj) (c (v aY) (c (v aT) o))))
 (c (e (k (v jj) (c (v aY) (c (v aH) o))))
 (c (g (v cW) (b (v aH) .Sub (v aT)))
 (c (u (m (v cW) [.Gt] (c (n (x 0)) o)) (c (g (v aB) (s (k (v cE) (c (v aY) (c (v aT) o))) (n (x 0))))
 (c (g (v cW) (b (v cW) .Sub (k (v cY) (c (v aB) o))))
 (c (e (k (v j0) (c (v aY) (c (v aB) o))))
 o))))
 o)))))
noncomputable def ju:N:=
 (c (g (t (v aj) aY) (k (v vE) (c (v kW) (c (l o) o))))
 o)
noncomputable def nY:N:=
 (c (e (k (v jZ) (c (v aj) (c (v x_at) (c (v bE) (c (v aI) o))))))
 o)
noncomputable def oU:N:=
 (c (e (k (v kS) (c (v aj) (c (v aT) (c (v aH) o)))))
 o)
noncomputable def iZ:N:=
 (c (e (k (v jZ) (c (v aj) (c (v x_at) (c (v bE) (c (l o) o))))))
 o)
noncomputable def iY:N:=
 (c (e (k (v kS) (c (v aj) (c (v x_at) (c (v aH) o)))))
 o)
noncomputable def gV:N:=
 (c (r (k (v dx) (c (v aj) (c (v aT) (c (v aH) o)))))
 o)
noncomputable def gL:N:=
 (c (r (k (v gz) (c (v aj) (c (v aX) o))))
 o)
noncomputable def m7:N:=
 (c (i (m (v aT) [.GtE] (c (v aH) o)) (c (r (l o))
 o) o)
 (c (e (k (v jj) (c (t (v bg) aY) (c (v aT) o))))
 (c (e (k (v jj) (c (t (v bg) aY) (c (v aH) o))))
 (c (g (v aB) (s (k (v cE) (c (t (v bg) aY) (c (v aT) o))) (n (x 0))))
 (c (g (v bG) (l o))
 (c (g (v cW) (b (v aH) .Sub (v aT)))
 (c (u (m (v cW) [.Gt] (c (n (x 0)) o)) (c (e (k (t (v bG) d4) (c (v aB) o)))
 (c (g (v cW) (b (v cW) .Sub (k (v cY) (c (v aB) o))))
 (c (g (v aB) (k (v qS) (c (v aB) o)))
 o))))
 (c (r (v bG))
 o))))))))
noncomputable def Cw:N:=
 (c (i (j .Not (m (n (x 0)) [.Lt,.Lt] (c (v x_at) (c (k (v fM) (c (t (v bg) aY) o)) o)))) (c .vK
 o) o)
 (c (g (p (c (v aB) (c (v aT) o))) (k (v cE) (c (t (v bg) aY) (c (v x_at) o))))
 (c (i (m (v aT) [.NotEq] (c (v x_at) o)) (c .vK
 o) o)
 (c (g (v ja) (k (v qL) (c (v aB) o)))
 (c (i (k (v oV) (c (t (v ja) aI) (c (t (v aB) aI) o))) (c (g (v bE) (k (v cY) (c (v aB) o)))
 (c (e (k (v j0) (c (t (v bg) aY) (c (v aB) o))))
 (c (e (k (v fN) (c (v ja) (c (v bE) o))))
 (c (e (k (v gy) (c (t (v bg) aY) (c (v ja) o))))
 o)))) o)
 o)))))
noncomputable def ug:N:=
 (c (g (v x_at) (v aT))
 (c (u (q .And (c (m (v x_at) [.LtE] (c (v aH) o)) (c (m (v x_at) [.Lt] (c (k (v fM) (c (t (v bg) aY) o)) o)) o))) (c (g (p (c (v aB) (c (v dO) o))) (k (v cE) (c (t (v bg) aY) (c (v x_at) o))))
 (c (g (v dh) (b (v dO) .Add (k (v cY) (c (v aB) o))))
 (c (e (k (v kF) (c (v bg) (c (v dO) o))))
 (c (g (v x_at) (v dh))
 o)))))
 (c (e (k (v kF) (c (v bg) (c (v aH) o))))
 o)))
noncomputable def qj:N:=
 (c (g (v cf) (n (z false)))
 (c (y (v aB) (k (v mW) (c (v bg) (c (v aT) (c (v aH) o)))) (c (i (j .Not (k (v jD) (c (t (v aB) aI) (c (v aG) (c (v cX) o))))) (c (g (t (v aB) aI) (k (v jC) (c (t (v aB) aI) (c (v aG) (c (v cX) o)))))
 (c (g (v cf) (n (z true)))
 o)) o)
 o))
 (c (e (k (v oY) (c (v bg) (c (v aT) (c (v aH) o)))))
 (c (r (v cf))
 o))))
noncomputable def mO:N:=
 (c (g (v cf) (n (z false)))
 (c (y (v aB) (k (v mW) (c (v bg) (c (v aT) (c (v aH) o)))) (c (i (j .Not (k (v oV) (c (v aI) (c (t (v aB) aI) o)))) (c (g (t (v aB) aI) (k (v c8) (c (v aI) o)))
 (c (g (v cf) (n (z true)))
 o)) o)
 o))
 (c (e (k (v oY) (c (v bg) (c (v aT) (c (v aH) o)))))
 (c (r (v cf))
 o))))
noncomputable def qh:N:=
 (c (g (v bG) (l o))
 (c (i (m (v aT) [.GtE] (c (v aH) o)) (c (r (v bG))
 o) o)
 (c (g (p (c (v aB) (c (v dO) o))) (k (v cE) (c (t (v bg) aY) (c (v aT) o))))
 (c (u (q .And (c (m (v aB) [.IsNot] (c (n .none) o)) (c (m (v dO) [.Lt] (c (v aH) o)) o))) (c (g (v dh) (b (v dO) .Add (k (v cY) (c (v aB) o))))
 (c (e (k (t (v bG) d4) (c (p (c (k (v qN) (c (v dO) (c (v aT) o))) (c (k (v uv) (c (v dh) (c (v aH) o))) (c (t (v aB) aI) o)))) o)))
 (c (g (v dO) (v dh))
 (c (g (v aB) (k (v qS) (c (v aB) o)))
 o)))))
 (c (r (v bG))
 o)))))
noncomputable def zE:N:=
 (c (g (v cf) (n (z false)))
 (c (y (p (c (v aT) (c (v aH) (c (v aI) o)))) (v aX) (c (i (k (v r4) (c (v bg) (c (v aT) (c (v aH) (c (v aI) o))))) (c (g (v cf) (n (z true)))
 o) o)
 o))
 (c (r (v cf))
 o)))
noncomputable def ot:N:=
 (c (e (k (v qQ) (c (t (v bg) aY) (c (v x_at) (c (v bE) (c (k (v c8) (c (v aI) o)) o))))))
 (c (e (k (v kF) (c (v bg) (c (b (v x_at) .Add (v bE)) o))))
 (c (e (k (v kF) (c (v bg) (c (v x_at) o))))
 o)))
noncomputable def qg:N:=
 (c (e (k (v vA) (c (t (v bg) aY) (c (v aT) (c (v aH) o)))))
 (c (e (k (v kF) (c (v bg) (c (v aT) o))))
 o))
noncomputable def uf:N:=
 (c (g (p (c (v cz) (c (v bI) o))) (p (c (k (v uv) (c (v au) (c (v aH) o))) (c (k (v qN) (c (v au) (c (v aH) o))) o))))
 (c (i (q .Or (c (m (v cz) [.Lt] (c (t (v ae) vB) o)) (c (m (v bI) [.Gt] (c (t (v ae) Dk) o)) o))) (c .bad
 o) o)
 (c (r (p (c (v cz) (c (v bI) o))))
 o)))
noncomputable def xb:N:=
 (c (i (m (t (v ae) jK) [.Is] (c (n .none) o)) (c .vK
 o) o)
 (c (y (v aG) (k (v gF) (c (v zW) (c (v J3) o))) (c (e (k (t (t (v ae) jK) pI) (c (v ae) (c (b (v aT) .Add (n (x 1))) (c (b (v aH) .Add (n (x 1))) (c (v aG) (c (k (v kE) (c (v zW) (c (v aG) o))) o)))))))
 o))
 o))
noncomputable def iV:N:=
 (c (i (t (v ae) jk) (c .bad
 o) o)
 o)
noncomputable def nX:N:=
 (c (g (p (c (v cz) (c (v bI) o))) (k (v oX) (c (v ae) (c (v au) (c (v aH) o)))))
 (c (g (v aX) (l o))
 (c (y (p (c (v aT) (c (v dh) (c (v aI) o)))) (k (v dx) (c (t (v ae) bg) (c (b (v cz) .Sub (n (x 1))) (c (b (v bI) .Sub (n (x 1))) o)))) (c (g (v x_fresh) (k (v vk) (c (v aI) o)))
 (c (i (m (k (v cA) (c (k (v gF) (c (v aI) (c (v x_fresh) o))) o)) [.Gt] (c (n (x 0)) o)) (c (e (k (t (v aX) d4) (c (p (c (v aT) (c (v dh) (c (v aI) (c (v x_fresh) o))))) o)))
 o) o)
 o)))
 (c (i (m (k (v cA) (c (v aX) o)) [.Eq] (c (n (x 0)) o)) (c (r (n (z false)))
 o) o)
 (c (e (k (v fZ) (c (v ae) o)))
 (c (y (v cI) (k (v c8) (c (t (v ae) ip) o)) (c (e (k (t (v cI) ux) (c (v ae) (c (v cz) (c (v bI) o)))))
 o))
 (c (y (p (c (v aT) (c (v dh) (c (v aI) (c (v x_fresh) o))))) (v aX) (c (e (k (v CD) (c (v ae) (c (v aT) (c (v dh) (c (v aI) (c (v x_fresh) o)))))))
 o))
 (c (e (k (v gz) (c (t (v ae) bg) (c (f (p (c (v aT) (c (v dh) (c (v x_fresh) o)))) (c (p (c (v aT) (c (v dh) (c (v aI) (c (v x_fresh) o))))) (c (v aX) o)) [(kZ,L),(aT,L),(dh,L),(aI,L),(x_fresh,L)]) o))))
 (c (e (k (t (v ae) Il) (c (n (z false)) o)))
 (c (y (v cI) (k (v c8) (c (t (v ae) ip) o)) (c (e (k (t (v cI) pK) (c (v ae) (c (v cz) (c (v bI) (c (b (v bI) .Sub (v cz)) o))))))
 o))
 (c (r (n (z true)))
 o)))))))))))
noncomputable def UO:N:=
 (c (r (k (v kA) (c (v ae) (c (v au) (c (v aH) (c (.lam [aI] (k (v jC) (c (v aI) (c (v aG) (c (v cX) o)))) [(aI,L),(aG,F),(cX,F),(jC,G)]) o))))))
 o)
noncomputable def Cv:N:=
 (c (e (k (v oX) (c (v ae) (c (v au) (c (v aH) o)))))
 (c (e (k (v fZ) (c (v ae) o)))
 (c (r (k (v kA) (c (v ae) (c (v au) (c (v aH) (c (.lam [zW] (k (v c8) (c (v aI) o)) [(zW,L),(aI,F),(c8,G)]) o))))))
 o)))
noncomputable def Gh:N:=
 (c (r (k (v kA) (c (v ae) (c (v au) (c (v aH) (c (.lam [aI] (k (v uu) (c (v aI) (c (v eU) o))) [(aI,L),(eU,F),(uu,G)]) o))))))
 o)
noncomputable def tY:N:=
 (c (i (q .And (c (m (t (v aL) ae) [.IsNot] (c (n .none) o)) (c (m (t (v aL) ae) [.IsNot] (c (v ae) o)) o))) (c (e (k (t (t (t (v aL) ae) dy) Ze) (c (v aL) o)))
 o) o)
 (c (g (t (v aL) ae) (v ae))
 (c (i (m (v ae) [.Is] (c (n .none) o)) (c (g (t (v aL) bT) (n (x 0)))
 o) (c (e (k (t (t (v ae) dy) Ru) (c (v aL) (c (k (v uv) (c (k (v qN) (c (v bF) (c (n (x 1)) o))) (c (b (k (t (v ae) rx) o) .Add (n (x 1))) o))) o))))
 o))
 o)))
noncomputable def mR:N:=
 (c (g (t (v aj) ba) (v ba))
 (c (g (t (v aj) iS) (v iS))
 o))
noncomputable def jv:N:=
 (c (g (t (v aj) c8) (k (v EB) o))
 o)
noncomputable def iD:N:=
 (c (e (k (t (t (v aj) c8) Gv) (c (v au) (c (v bE) (c (t (v ae) x_point) (c (k (t (v ae) bz) o) (c (t (v ae) d9) o)))))))
 o)
noncomputable def i8:N:=
 (c (i (j .Not (t (t (v aj) c8) tc)) (c .vK
 o) o)
 (c (g (v aX) (h (m (t (v ae) bg) [.Is] (c (n .none) o)) (l o) (k (t (t (v ae) bg) vt) (c (b (v au) .Sub (n (x 1))) (c (b (v aH) .Sub (n (x 1))) o)))))
 (c (g (v iS) (f (p (c (b (b (v cz) .Sub (v au)) .Add (n (x 1))) (c (b (b (v bI) .Sub (v au)) .Add (n (x 1))) (c (v aI) o)))) (c (p (c (v cz) (c (v bI) (c (v aI) o)))) (c (v aX) (c (m (k (v cA) (c (v aI) o)) [.Gt] (c (n (x 0)) o)) o))) [(kZ,L),(cz,L),(bI,L),(aI,L),(cA,G),(au,F)]))
 (c (g (v dy) (l o))
 (c (y (v aL) (k (t (t (v ae) dy) Rt) (c (v au) (c (v aH) o))) (c (e (k (t (v dy) d4) (c (p (c (v aL) (c (k (v qO) (c (t (v aL) bT) (c (v au) (c (v aH) (c (t (v aL) iy) o))))) o))) o)))
 o))
 (c (g (v fK) (k (v N6) (c (k (t (v ae) ba) (c (v au) (c (v aH) o))) (c (v iS) o))))
 (c (e (k (t (t (v aj) c8) Gw) (c (v au) (c (v fK) (c (t (v ae) x_point) (c (v dy) (c (k (t (v ae) bz) o) (c (t (v ae) d9) o))))))))
 o)))))))
noncomputable def fA:N:=
 (c (e (k (t (t (v aj) c8) Dl) (c (v au) (c (v aH) (c (v aG) (c (v f6) (c (k (t (v ae) bz) o) (c (t (v ae) d9) o))))))))
 o)
noncomputable def xl:N:=
 (c (g (s (v di) (n (x 1))) (b (s (v di) (n (x 1))) .Add (n (x 1))))
 (c (i (m (s (v di) (n (x 1))) [.LtE] (c (k (v cA) (c (s (v di) (n (x 0))) o)) o)) (c (r (b (s (s (v di) (n (x 0))) (b (s (v di) (n (x 1))) .Sub (n (x 1)))) .Mod (v bE)))
 o) o)
 (c (r (b (b (b (b (b (b (s (v di) (n (x 1))) .Mult (s (v di) (n (x 1)))) .Mult (n (x 43))) .Add (b (n (x 17)) .Mult (s (v di) (n (x 1))))) .Add (b (n (x 3)) .Mult (k (v cA) (c (s (v di) (n (x 0))) o)))) .FloorDiv (n (x 4))) .Mod (v bE)))
 o)))
noncomputable def qu:N:=
 (c (g (v au) (b (n (x 1)) .Add (k (v dA) (c (v di) (c (b (k (t (v ae) rx) o) .Add (n (x 1))) o)))))
 (c (r (p (c (v au) (c (b (v au) .Add (k (v dA) (c (v di) (c (b (b (k (t (v ae) rx) o) .Add (n (x 2))) .Sub (v au)) o)))) o))))
 o))
noncomputable def ui:N:=
 (c (g (v bG) (l o))
 (c (y (p (c (v aT) (c (v aH) (c (v aI) o)))) (k (v dx) (c (t (v ae) bg) (c (n (x 0)) (c (k (t (v ae) rx) o) o)))) (c (e (k (t (v bG) z0) (c (b (l (c (k (v r0) (c (v aI) o)) o)) .Mult (b (v aH) .Sub (v aT))) o)))
 o))
 (c (r (p (c (k (t (v ae) ba) (c (n (x 1)) (c (b (k (t (v ae) rx) o) .Add (n (x 1))) o))) (c (v bG) (c (f (t (v gZ) bT) (c (v gZ) (c (v fj) o)) [(kZ,L),(gZ,L)]) o)))))
 o)))
noncomputable def qw:N:=
 (c (g (p (c (v zR) (c (p (c (v au) (c (v aH) o))) o))) (p (c (k (v dA) (c (v di) (c (n (x 6)) o))) (c (k (v lh) (c (v di) (c (v ae) o))) o))))
 (c (g (v ba) (f (b (v x_fresh) .Add (v x_at)) (c (v x_at) (c (k (v kT) (c (b (n (x 1)) .Add (k (v dA) (c (v di) (c (n (x 2)) o)))) o)) o)) [(kZ,L),(x_at,L),(x_fresh,F)]))
 (c (i (m (v zR) [.Eq] (c (n (x 0)) o)) (c (e (k (v qR) (c (v ae) (c (v au) (c (v ba) o)))))
 o) (c (i (m (v zR) [.Eq] (c (n (x 1)) o)) (c (e (k (v gE) (c (v ae) (c (v au) (c (v aH) o)))))
 o) (c (i (m (v zR) [.Eq] (c (n (x 2)) o)) (c (e (k (v Hq) (c (v ae) (c (v au) (c (v aH) (c (v ba) o))))))
 o) (c (i (m (v zR) [.Eq] (c (n (x 3)) o)) (c (e (k (v Ru) (c (v ae) (c (v au) (c (v aH) (c (b (n (x 1)) .Add (k (v dA) (c (v di) (c (n (x 2)) o)))) (c (v x_fresh) o)))))))
 o) (c (i (m (v zR) [.Eq] (c (n (x 4)) o)) (c (e (k (v Hr) (c (v ae) (c (v au) (c (v aH) (c (s (l (c (p (c (n (x 2)) (c (v x_fresh) o))) o)) (d (n .none) (k (v dA) (c (v di) (c (n (x 2)) o))))) o))))))
 o) (c (e (k (v J2) (c (v ae) (c (v au) (c (v aH) (c (s (l (c (n (x 1)) (c (n (x 2)) o))) (d (n .none) (b (n (x 1)) .Add (k (v dA) (c (v di) (c (n (x 2)) o)))))) o))))))
 o))
 o))
 o))
 o))
 o))
 o)))
noncomputable def rN:N:=
 (c (g (p (c (v fO) (c (v bG) o))) (p (c (t (t (v ae) jK) c8) (c (l o) o))))
 (c (g (v eF) (k (v c8) (c (t (v fO) aX) o)))
 (c (g (v bF) (k (v cA) (c (v eF) o)))
 (c (y (v mG) (k (v kT) (c (v bE) o)) (c (g (v bF) (k (v zS) (c (v ae) (c (v eF) (c (v bF) o)))))
 (c (e (k (t (v fO) fW) o))
 (c (e (k (t (v bG) d4) (c (p (c (k (v jE) (c (v ae) (c (v fj) o))) (c (k (t (v ae) bz) o) o))) o)))
 o))))
 (c (r (v bG))
 o)))))
noncomputable def fw:N:=
 (c (g (p (c (v di) (c (v ae) o))) (p (c (l (c (f (k (v Ht) (c (v My) o)) (c (v My) (c (s (v vp) (d (n .none) (n (x 63)))) o)) [(kZ,L),(My,L),(Ht,G)]) (c (n (x 0)) o))) (c (k (v J5) (c (n (x 1)) (c (n (.str x_a)) o))) o))))
 (c (e (k (v ee) (c (v ae) (c (k (v c8) (c (k (v kT) (c (b (n (x 1)) .Add (k (v dA) (c (v di) (c (n (x 8)) o)))) o)) o)) o))))
 (c (g (t (v ae) bg) (k (v CI) (c (k (t (v ae) rx) o) o)))
 (c (y (v aG) (k (v kT) (c (k (v dA) (c (v di) (c (n (x 3)) o))) o)) (c (g (p (c (v au) (c (v aH) o))) (k (v lh) (c (v di) (c (v ae) o))))
 (c (e (k (v vv) (c (t (v ae) bg) (c (b (v au) .Sub (n (x 1))) (c (b (v aH) .Sub (n (x 1))) (c (b (n (x 1)) .Add (v aG)) (c (b (n (x 7)) .Add (k (v dA) (c (v di) (c (n (x 2)) o)))) o)))))))
 o)))
 (c (g (v fj) (l (c (k (v EC) (c (n (x 1)) (c (m (k (v dA) (c (v di) (c (n (x 2)) o))) [.Eq] (c (n (x 1)) o)) o))) (c (k (v EC) (c (n (x 2)) (c (n (z true)) o))) o))))
 (c (y (v gZ) (v fj) (c (e (k (v zT) (c (v gZ) (c (v ae) (c (b (n (x 1)) .Add (k (v dA) (c (v di) (c (b (k (t (v ae) rx) o) .Add (n (x 1))) o)))) o)))))
 o))
 (c (e (k (t (v ae) vo) (c (n (z false)) o)))
 (c (g (t (v ae) jK) (k (v CJ) o))
 (c (g (p (c (v jT) (c (v fO) o))) (p (c (l (c (k (v jE) (c (v ae) (c (v fj) o))) o)) (c (t (t (v ae) jK) c8) o))))
 (c (y (v mG) (k (v kT) (c (b (n (x 1)) .Add (k (v dA) (c (v di) (c (n (x 5)) o)))) o)) (c (g (v jU) (k (t (v fO) N5) o))
 (c (e (k (v vC) (c (v di) (c (v ae) (c (b (b (n (x 20)) .Mult (v mG)) .Add (n (x 20))) o)))))
 (c (i (m (k (t (v fO) N5) o) [.Gt] (c (v jU) o)) (c (e (k (t (v fO) fW) o))
 (c (e (k (t (v jT) d4) (c (k (v jE) (c (v ae) (c (v fj) o))) o)))
 o)) (c (i (m (k (v jE) (c (v ae) (c (v fj) o))) [.NotEq] (c (s (v jT) (j .USub (n (x 1)))) o)) (c (r (n (z false)))
 o) o)
 o))
 o))))
 (c (g (v bE) (b (k (v cA) (c (v jT) o)) .Sub (n (x 1))))
 (c (g (v J4) (f (p (c (s (v jT) (b (b (v bE) .Sub (n (x 1))) .Sub (v mG))) (c (m (v mG) [.Lt] (c (b (v bE) .Sub (n (x 1))) o)) o))) (c (v mG) (c (k (v kT) (c (v bE) o)) o)) [(kZ,L),(mG,L),(bE,F),(jT,F)]))
 (c (i (m (k (v ry) (c (v ae) (c (v fj) (c (v bE) o)))) [.NotEq] (c (v J4) o)) (c (r (n (z false)))
 o) o)
 (c (g (v pJ) (f (s (v xu) (d (n .none) (n (x 2)))) (c (p (c (v xu) (c (v xw) o))) (c (k (v ry) (c (v ae) (c (v fj) (c (v bE) o)))) o)) [(kZ,L),(xu,L),(xw,L)]))
 (c (r (m (v pJ) [.Eq] (c (f (s (v xu) (d (n .none) (n (x 2)))) (c (v xu) (c (s (v jT) (d (n (x 1)) (n .none))) o)) [(kZ,L),(xu,L)]) o)))
 o)))))))))))))))
noncomputable def BP:aK:=[(ae,L),(jF,G)]
noncomputable def uH:dK:=⟨[ae],[],BP,oz,false⟩
noncomputable def IW:aK:=[(ae,L),(zZ,L),(Hv,G),(jF,G)]
noncomputable def CZ:dK:=⟨[ae,zZ],[],IW,xh,false⟩
noncomputable def M7:aK:=[(ae,L),(au,L),(aH,L),(cz,L),(bI,L),(uv,G),(qN,G),(jF,G)]
noncomputable def HV:dK:=⟨[ae,au,aH],[],M7,Cu,false⟩
noncomputable def GI:aK:=[(ae,L),(au,L),(aH,L),(cI,L),(c8,G)]
noncomputable def Ar:dK:=⟨[ae,au,aH],[],GI,tX,false⟩
noncomputable def ES:aK:=[(ae,L),(au,L),(aH,L),(oW,L),(cI,L),(c8,G)]
noncomputable def yr:dK:=⟨[ae,au,aH,oW],[],ES,rL,false⟩
noncomputable def KI:aK:=[(ae,L),(au,L),(aH,L),(iT,L),(qN,G)]
noncomputable def Fm:dK:=⟨[ae,au,aH],[],KI,zC,false⟩
noncomputable def M5:aK:=[(ae,L),(bF,L),(ba,L),(cA,G)]
noncomputable def HU:dK:=⟨[ae,bF,ba],[],M5,xH,false⟩
noncomputable def KQ:aK:=[(ae,L),(au,L),(aH,L)]
noncomputable def Fu:dK:=⟨[ae,au,aH],[],KQ,zH,false⟩
noncomputable def Na:aK:=[(ae,L),(bF,L),(bE,L),(bA,L)]
noncomputable def HY:dK:=⟨[ae,bF,bE,bA],[],Na,xI,false⟩
noncomputable def PU:aK:=[(ae,L),(bF,L),(ba,L),(bA,L),(gB,L),(eM,G),(kC,G),(cA,G),(qM,G),(gx,G),(xt,G),(xx,G),(iP,G)]
noncomputable def Lx:dK:=⟨[ae,bF,ba,bA,gB],[],PU,sT,false⟩
noncomputable def IX:aK:=[(ae,L),(bF,L),(ba,L),(bA,L),(zU,G)]
noncomputable def wu:dK:=⟨[ae,bF,ba,bA],[((.bool false))],IX,rt,false⟩
noncomputable def PV:aK:=[(ae,L),(ba,L),(bA,L),(zU,G)]
noncomputable def Ft:dK:=⟨[ae,ba,bA],[((.bool false))],PV,xi,false⟩
noncomputable def PW:aK:=[(ae,L),(au,L),(aH,L),(cz,L),(bI,L),(iT,L),(eM,G),(kC,G),(gx,G),(s8,G),(te,G),(iP,G)]
noncomputable def Ly:dK:=⟨[ae,au,aH],[],PW,Bn,false⟩
noncomputable def M6:aK:=[(ae,L),(au,L),(aH,L),(ba,L),(aX,L),(cz,L),(bI,L),(x_point,L),(iT,L),(eM,G),(kC,G),(qR,G),(cA,G),(gE,G),(qM,G),(gx,G),(s8,G),(xt,G),(xx,G),(te,G),(iP,G)]
noncomputable def Ce:dK:=⟨[ae,au,aH,ba,aX],[(.none)],M6,mP,false⟩
noncomputable def a29:aK:=[(gZ,L),(dg,L),(kX,G),(EA,G)]
noncomputable def a4h:dK:=⟨[gZ,dg],[],a29,a1D,false⟩
noncomputable def GP:aK:=[(aI,L),(aG,L),(x_at,L),(kT,G),(cA,G)]
noncomputable def Az:dK:=⟨[aI,aG],[],GP,ud,false⟩
noncomputable def IV:aK:=[(aI,L),(aG,L),(x_at,L),(gA,G)]
noncomputable def CY:dK:=⟨[aI,aG],[],IV,xg,false⟩
noncomputable def GN:aK:=[(aI,L),(aG,L),(cX,L),(x_at,L),(gA,G)]
noncomputable def Aw:dK:=⟨[aI,aG,cX],[],GN,ua,false⟩
noncomputable def BN:aK:=[(aI,L),(aG,H)]
noncomputable def uF:dK:=⟨[aI,aG],[],BN,ou,false⟩
noncomputable def GU:aK:=[(aI,L),(aG,L),(cX,L),(x_at,L),(gA,G),(Vs,G)]
noncomputable def AE:dK:=⟨[aI,aG,cX],[],GU,uh,false⟩
noncomputable def GK:aK:=[(gZ,L),(dg,L),(aG,L),(cX,L),(cA,G),(jD,G)]
noncomputable def Au:dK:=⟨[gZ,dg],[],GK,t7,false⟩
noncomputable def BO:aK:=[(aI,L),(eU,H)]
noncomputable def uG:dK:=⟨[aI,eU],[],BO,ow,false⟩
noncomputable def uO:aK:=[(gZ,L),(dg,L),(bG,L),(aG,L),(cX,L),(jD,G),(gA,G),(r0,G)]
noncomputable def nK:dK:=⟨[gZ,dg],[],uO,jt,false⟩
noncomputable def GO:aK:=[(ae,L),(au,L),(aH,L)]
noncomputable def Ay:dK:=⟨[ae,au,aH],[],GO,uc,false⟩
noncomputable def Du:aK:=[(ae,L),(fK,L),(au,H),(aX,L),(ee,G),(cA,G)]
noncomputable def wk:dK:=⟨[ae,fK],[],Du,qo,false⟩
noncomputable def KP:aK:=[(f6,L),(aI,L),(aG,L),(bG,L),(kE,G),(Vs,G)]
noncomputable def Fs:dK:=⟨[f6,aI,aG],[],KP,zG,false⟩
noncomputable def Dn:aK:=[(ae,L),(au,L),(aH,L),(aG,L),(gw,L),(cz,L),(bI,L),(cf,L),(dO,L),(dh,L),(aI,L),(x_fresh,L),(cI,L),(kC,G),(eM,G),(zV,G),(Ez,G),(uo,G),(jC,G),(cA,G),(gx,G),(kE,G),(c8,G)]
noncomputable def v7:dK:=⟨[ae,au,aH,aG,gw],[],Dn,jr,false⟩
noncomputable def vQ:aK:=[(aj,L)]
noncomputable def oN:dK:=⟨[aj],[],vQ,jM,false⟩
noncomputable def Ab:aK:=[(aj,L),(cA,G)]
noncomputable def sE:dK:=⟨[aj],[],Ab,mQ,false⟩
noncomputable def pP:aK:=[(aj,L),(cA,G),(gO,G)]
noncomputable def jH:dK:=⟨[aj],[],pP,gj,false⟩
noncomputable def vP:aK:=[(aj,L),(gO,G)]
noncomputable def oL:dK:=⟨[aj],[],vP,jL,false⟩
noncomputable def tC:aK:=[(aj,L),(bz,L),(fU,L)]
noncomputable def mh:dK:=⟨[aj,bz,fU],[],tC,iW,false⟩
noncomputable def tD:aK:=[(aj,L),(au,L),(bz,L),(fU,L),(td,L)]
noncomputable def mj:dK:=⟨[aj,au,bz,fU],[],tD,iX,false⟩
noncomputable def r9:aK:=[(aj,L),(au,L),(bE,L),(x_point,L),(bz,L),(fU,L),(dh,L),(cA,G),(gO,G)]
noncomputable def lq:dK:=⟨[aj,au,bE,x_point,bz,fU],[],r9,iB,false⟩
noncomputable def sd:aK:=[(aj,L),(au,L),(fK,L),(x_point,L),(dy,L),(bz,L),(fU,L),(aL,L),(eh,L),(cA,G)]
noncomputable def lz:dK:=⟨[aj,au,fK,x_point,dy,bz,fU],[],sd,iC,false⟩
noncomputable def qD:aK:=[(aj,L),(au,L),(aH,L),(aG,L),(f6,L),(bz,L),(fU,L)]
noncomputable def jX:dK:=⟨[aj,au,aH,aG,f6,bz,fU],[],qD,gU,false⟩
noncomputable def oj:aK:=[(aj,L),(f6,L),(x_fresh,H),(vy,H)]
noncomputable def jb:dK:=⟨[aj,f6,x_fresh],[],oj,fL,false⟩
noncomputable def y5:aK:=[(bF,L),(au,L),(aH,L),(kY,L)]
noncomputable def qY:dK:=⟨[bF,au,aH,kY],[],y5,lJ,false⟩
noncomputable def Dt:aK:=[(ae,L),(au,L),(aH,L),(jF,G)]
noncomputable def wj:dK:=⟨[ae,au,aH],[],Dt,qm,false⟩
noncomputable def BQ:aK:=[(aX,L),(x_at,L),(bG,L)]
noncomputable def uI:dK:=⟨[aX,x_at],[],BQ,oA,false⟩
noncomputable def EO:aK:=[(ae,L),(dW,L),(g9,G),(gE,G)]
noncomputable def yo:dK:=⟨[ae,dW],[],EO,rJ,false⟩
noncomputable def EP:aK:=[(ae,L),(dW,L),(dX,L),(s7,L),(Er,L),(aL,L),(eh,L),(g9,G),(vz,G),(uv,G),(qN,G)]
noncomputable def yp:dK:=⟨[ae,dW,dX],[],EP,gT,false⟩
noncomputable def KG:aK:=[(ae,L),(aX,L),(x_at,L),(dW,L),(dX,L),(yf,G),(uw,G),(yg,G),(cA,G),(g9,G),(vn,G)]
noncomputable def Fj:dK:=⟨[ae,aX,x_at],[],KG,zB,false⟩
noncomputable def xS:aK:=[(aX,L),(x_at,L),(gO,G)]
noncomputable def pV:dK:=⟨[aX,x_at],[],xS,ke,false⟩
noncomputable def GH:aK:=[(ae,L),(aX,L),(x_at,L),(pL,G),(gO,G),(Es,G)]
noncomputable def Aq:dK:=⟨[ae,aX,x_at],[],GH,tV,false⟩
noncomputable def xX:aK:=[(aj,L),(ba,L),(gN,L),(c8,G),(cA,G)]
noncomputable def p8:dK:=⟨[aj,ba,gN],[],xX,kj,false⟩
noncomputable def Dz:aK:=[(aj,L),(cA,G)]
noncomputable def wG:dK:=⟨[aj],[],Dz,qx,false⟩
noncomputable def DA:aK:=[(aj,L),(x_at,L)]
noncomputable def wH:dK:=⟨[aj,x_at],[],DA,xn,false⟩
noncomputable def BU:aK:=[(aj,L),(au,L),(aH,L),(xv,L)]
noncomputable def uL:dK:=⟨[aj,au,aH],[],BU,oF,false⟩
noncomputable def xW:aK:=[(aj,L),(x_at,L),(f5,L),(cA,G)]
noncomputable def pZ:dK:=⟨[aj,x_at],[],xW,kh,false⟩
noncomputable def vT:aK:=[(aj,L),(gw,L),(Bx,L)]
noncomputable def oR:dK:=⟨[aj,gw],[],vT,jO,false⟩
noncomputable def Ae:aK:=[(aj,L),(x_at,L),(ba,L),(cA,G)]
noncomputable def sH:dK:=⟨[aj,x_at,ba],[],Ae,mT,false⟩
noncomputable def Af:aK:=[(aj,L),(au,L),(aH,L),(iT,L)]
noncomputable def sI:dK:=⟨[aj,au,aH],[],Af,mU,false⟩
noncomputable def EX:aK:=[(aj,L),(x_at,L),(x_code,L)]
noncomputable def yw:dK:=⟨[aj,x_at,x_code],[],EX,yL,false⟩
noncomputable def za:aK:=[(aj,L),(aG,L),(iy,L)]
noncomputable def rg:dK:=⟨[aj,aG,iy],[],za,lP,false⟩
noncomputable def xV:aK:=[(aj,L)]
noncomputable def pY:dK:=⟨[aj],[],xV,kg,false⟩
noncomputable def y8:aK:=[(aj,L),(r0,G)]
noncomputable def q8:dK:=⟨[aj],[],y8,jd,false⟩
noncomputable def EW:aK:=[(aj,L),(aL,L),(bT,L)]
noncomputable def yv:dK:=⟨[aj,aL,bT],[],EW,rO,false⟩
noncomputable def Dy:aK:=[(aj,L),(aL,L)]
noncomputable def wF:dK:=⟨[aj,aL],[],Dy,xm,false⟩
noncomputable def Ad:aK:=[(aj,L),(au,L),(aH,L),(bG,L),(aG,L)]
noncomputable def sG:dK:=⟨[aj,au,aH],[],Ad,mS,false⟩
noncomputable def xU:aK:=[(aj,L),(au,L),(aH,L),(jl,L),(aG,L),(aL,L)]
noncomputable def pX:dK:=⟨[aj,au,aH,jl],[],xU,iE,false⟩
noncomputable def y9:aK:=[(aj,L),(au,L),(aH,L),(aG,L),(aL,L)]
noncomputable def q9:dK:=⟨[aj,au,aH],[],y9,lO,false⟩
noncomputable def xT:aK:=[(aj,L),(au,L),(aH,L),(bE,L),(aG,L),(aL,L)]
noncomputable def pW:dK:=⟨[aj,au,aH,bE],[],xT,kf,false⟩
noncomputable def zb:aK:=[(aj,L),(aG,L),(s9,L),(gN,L),(Hw,G),(Hu,G)]
noncomputable def lF:dK:=⟨[aj,aG,s9,gN],[((.int 8))],zb,je,false⟩
noncomputable def DD:aK:=[(aj,L)]
noncomputable def wK:dK:=⟨[aj],[],DD,xo,false⟩
noncomputable def GW:aK:=[(aj,L)]
noncomputable def AG:dK:=⟨[aj],[],GW,Bo,false⟩
noncomputable def EZ:aK:=[(aj,L)]
noncomputable def yy:dK:=⟨[aj],[],EZ,rP,false⟩
noncomputable def DC:aK:=[(aj,L),(au,L),(aH,L)]
noncomputable def wJ:dK:=⟨[aj,au,aH],[],DC,qz,false⟩
noncomputable def E0:aK:=[(aj,L),(bF,L),(uv,G),(qN,G)]
noncomputable def yz:dK:=⟨[aj,bF],[],E0,rQ,false⟩
noncomputable def EY:aK:=[(aj,L)]
noncomputable def yx:dK:=⟨[aj],[],EY,yM,false⟩
noncomputable def uT:aK:=[(aj,L)]
noncomputable def nU:dK:=⟨[aj],[],uT,jw,false⟩
noncomputable def tH:aK:=[(aj,L),(xw,L)]
noncomputable def my:dK:=⟨[aj,xw],[],tH,i9,false⟩
noncomputable def DB:aK:=[(aj,L),(qT,L)]
noncomputable def wI:dK:=⟨[aj,qT],[],DB,qy,false⟩
noncomputable def vS:aK:=[(aj,L),(cx,L),(aI,L)]
noncomputable def oQ:dK:=⟨[aj,cx,aI],[],vS,jN,false⟩
noncomputable def rB:aK:=[(aj,L),(kW,L),(aI,L),(mH,G)]
noncomputable def kI:dK:=⟨[aj,kW,aI],[],rB,hJ,false⟩
noncomputable def KH:aK:=[(aB,L)]
noncomputable def Fk:dK:=⟨[aB],[],KH,tW,false⟩
noncomputable def GQ:aK:=[(aB,L),(cT,G)]
noncomputable def AA:dK:=⟨[aB],[],GQ,ue,false⟩
noncomputable def ER:aK:=[(aY,L),(cT,G)]
noncomputable def yq:dK:=⟨[aY],[],ER,rK,false⟩
noncomputable def Ds:aK:=[(aY,L),(aB,L),(dg,L),(bV,L)]
noncomputable def wd:dK:=⟨[aY,aB,dg],[],Ds,qk,false⟩
noncomputable def KL:aK:=[(aB,L),(cH,L)]
noncomputable def Fo:dK:=⟨[aB,cH],[],KL,tZ,false⟩
noncomputable def IQ:aK:=[(aB,L),(cH,L)]
noncomputable def CT:dK:=⟨[aB,cH],[],IQ,rp,false⟩
noncomputable def Dq:aK:=[(aY,L),(aB,L),(cH,L),(cx,L),(fV,G),(cT,G),(gM,G),(kB,G)]
noncomputable def v9:dK:=⟨[aY,aB],[],Dq,qi,false⟩
noncomputable def ET:aK:=[(aY,L),(aB,L),(cH,L),(cx,L),(fV,G),(cT,G),(kB,G),(gM,G)]
noncomputable def ys:dK:=⟨[aY,aB],[],ET,rM,false⟩
noncomputable def xR:aK:=[(aB,L),(cH,L),(eY,L),(cT,G),(Ht,G)]
noncomputable def pU:dK:=⟨[aB],[],xR,kb,false⟩
noncomputable def y6:aK:=[(aB,L),(cH,L),(eY,L),(cT,G),(Ht,G)]
noncomputable def qZ:dK:=⟨[aB],[],y6,lL,false⟩
noncomputable def PS:aK:=[(aY,L),(aB,L),(eF,L),(rZ,L),(eZ,L),(cH,L),(cA,G),(pH,G),(vu,G),(qP,G),(yh,G)]
noncomputable def Lv:dK:=⟨[aY,aB],[],PS,Gg,false⟩
noncomputable def IP:aK:=[(aY,L),(aB,L),(J0,G)]
noncomputable def CS:dK:=⟨[aY,aB],[],IP,xc,false⟩
noncomputable def IZ:aK:=[(aB,L),(bE,L)]
noncomputable def C1:dK:=⟨[aB,bE],[],IZ,xk,false⟩
noncomputable def BR:aK:=[(aY,L),(x_at,L),(aB,L),(aT,L),(ja,L),(vy,L),(cT,G),(cY,G)]
noncomputable def uJ:dK:=⟨[aY,x_at],[],BR,oB,false⟩
noncomputable def KO:aK:=[(aB,L)]
noncomputable def Fq:dK:=⟨[aB],[],KO,zF,false⟩
noncomputable def IS:aK:=[(aB,L)]
noncomputable def CU:dK:=⟨[aB],[],IS,xd,false⟩
noncomputable def IY:aK:=[(aB,L),(mF,G)]
noncomputable def C0:dK:=⟨[aB],[],IY,xj,false⟩
noncomputable def IU:aK:=[(aB,L),(qK,G)]
noncomputable def CX:dK:=⟨[aB],[],IU,xf,false⟩
noncomputable def GL:aK:=[(aY,L),(aB,L),(x_fresh,L),(kB,G),(mF,G),(gM,G),(fN,G),(gy,G)]
noncomputable def Av:dK:=⟨[aY,aB,x_fresh],[],GL,t9,false⟩
noncomputable def IT:aK:=[(aY,L),(aB,L),(x_fresh,L),(jU,L),(qL,G),(jB,G),(gM,G),(fN,G),(gy,G)]
noncomputable def CV:dK:=⟨[aY,aB,x_fresh],[],IT,xe,false⟩
noncomputable def KJ:aK:=[(aY,L),(x_at,L),(aB,L),(aT,L),(Ew,L),(fM,G),(cE,G),(cY,G),(fN,G),(jB,G),(mH,G)]
noncomputable def Fn:dK:=⟨[aY,x_at],[],KJ,zD,false⟩
noncomputable def BS:aK:=[(aY,L),(aB,L),(tf,L),(cH,L),(f5,L),(eZ,L),(fN,G),(cY,G),(fV,G),(gy,G),(mF,G),(gM,G)]
noncomputable def uK:dK:=⟨[aY,aB],[],BS,oE,false⟩
noncomputable def y7:aK:=[(aY,L),(x_at,L),(bE,L),(aI,L),(x_fresh,L),(mH,G),(jj,G),(fM,G),(jB,G),(qK,G),(CH,G),(cE,G)]
noncomputable def q7:dK:=⟨[aY,x_at,bE,aI],[],y7,lN,false⟩
noncomputable def Dv:aK:=[(aY,L),(aT,L),(aH,L),(cW,L),(aB,L),(jj,G),(cE,G),(cY,G),(j0,G)]
noncomputable def wx:dK:=⟨[aY,aT,aH],[],Dv,qt,false⟩
noncomputable def uR:aK:=[(aj,L),(kW,L),(vE,G)]
noncomputable def nN:dK:=⟨[aj,kW],[],uR,ju,false⟩
noncomputable def uQ:aK:=[(aj,L),(x_at,L),(bE,L),(aI,L),(jZ,G)]
noncomputable def nM:dK:=⟨[aj,x_at,bE,aI],[],uQ,nY,false⟩
noncomputable def vR:aK:=[(aj,L),(aT,L),(aH,L),(kS,G)]
noncomputable def oO:dK:=⟨[aj,aT,aH],[],vR,oU,false⟩
noncomputable def tF:aK:=[(aj,L),(x_at,L),(bE,L),(jZ,G)]
noncomputable def mw:dK:=⟨[aj,x_at,bE],[],tF,iZ,false⟩
noncomputable def tE:aK:=[(aj,L),(x_at,L),(aH,L),(kS,G)]
noncomputable def mn:dK:=⟨[aj,x_at,aH],[],tE,iY,false⟩
noncomputable def qE:aK:=[(aj,L),(aT,L),(aH,L),(dx,G)]
noncomputable def jY:dK:=⟨[aj,aT,aH],[],qE,gV,false⟩
noncomputable def uP:aK:=[(aj,L),(aX,L),(gz,G)]
noncomputable def nL:dK:=⟨[aj,aX],[],uP,gL,false⟩
noncomputable def EU:aK:=[(bg,L),(aT,L),(aH,L),(aB,L),(bG,L),(cW,L),(jj,G),(cE,G),(cY,G),(qS,G)]
noncomputable def yt:dK:=⟨[bg,aT,aH],[],EU,m7,false⟩
noncomputable def M9:aK:=[(bg,L),(x_at,L),(aB,L),(aT,L),(ja,L),(bE,L),(fM,G),(cE,G),(qL,G),(oV,G),(cY,G),(j0,G),(fN,G),(gy,G)]
noncomputable def HX:dK:=⟨[bg,x_at],[],M9,Cw,false⟩
noncomputable def GS:aK:=[(bg,L),(aT,L),(aH,L),(x_at,L),(aB,L),(dO,L),(dh,L),(fM,G),(cE,G),(cY,G),(kF,G)]
noncomputable def AD:dK:=⟨[bg,aT,aH],[],GS,ug,false⟩
noncomputable def Dr:aK:=[(bg,L),(aT,L),(aH,L),(aG,L),(cX,L),(cf,L),(aB,L),(mW,G),(jD,G),(jC,G),(oY,G)]
noncomputable def wc:dK:=⟨[bg,aT,aH,aG,cX],[],Dr,qj,false⟩
noncomputable def Aa:aK:=[(bg,L),(aT,L),(aH,L),(aI,L),(cf,L),(aB,L),(mW,G),(oV,G),(c8,G),(oY,G)]
noncomputable def sC:dK:=⟨[bg,aT,aH,aI],[],Aa,mO,false⟩
noncomputable def Dp:aK:=[(bg,L),(aT,L),(aH,L),(bG,L),(aB,L),(dO,L),(dh,L),(cE,G),(cY,G),(qN,G),(uv,G),(qS,G)]
noncomputable def v8:dK:=⟨[bg,aT,aH],[],Dp,qh,false⟩
noncomputable def KN:aK:=[(bg,L),(aX,L),(cf,L),(aT,L),(aH,L),(aI,L),(r4,G)]
noncomputable def Fp:dK:=⟨[bg,aX],[],KN,zE,false⟩
noncomputable def BM:aK:=[(bg,L),(x_at,L),(bE,L),(aI,L),(qQ,G),(c8,G),(kF,G)]
noncomputable def uE:dK:=⟨[bg,x_at,bE,aI],[],BM,ot,false⟩
noncomputable def Dm:aK:=[(bg,L),(aT,L),(aH,L),(vA,G),(kF,G)]
noncomputable def vZ:dK:=⟨[bg,aT,aH],[],Dm,qg,false⟩
noncomputable def GR:aK:=[(ae,L),(au,L),(aH,L),(cz,L),(bI,L),(uv,G),(qN,G),(jF,G)]
noncomputable def AB:dK:=⟨[ae,au,aH],[],GR,uf,false⟩
noncomputable def IM:aK:=[(ae,L),(aT,L),(aH,L),(zW,L),(J3,L),(aG,L),(gF,G),(kE,G)]
noncomputable def CR:dK:=⟨[ae,aT,aH,zW,J3],[],IM,xb,false⟩
noncomputable def tB:aK:=[(ae,L),(jF,G)]
noncomputable def l9:dK:=⟨[ae],[],tB,iV,false⟩
noncomputable def IL:aK:=[(ae,L),(au,L),(aH,L),(vk,L),(cz,L),(bI,L),(aX,L),(aT,L),(dh,L),(aI,L),(x_fresh,L),(cI,L),(oX,G),(dx,G),(cA,G),(gF,G),(fZ,G),(c8,G),(CD,G),(gz,G)]
noncomputable def CQ:dK:=⟨[ae,au,aH,vk],[],IL,nX,false⟩
noncomputable def a0n:aK:=[(ae,L),(au,L),(aH,L),(aG,H),(cX,H),(kA,G)]
noncomputable def YU:dK:=⟨[ae,au,aH,aG,cX],[],a0n,UO,true⟩
noncomputable def M8:aK:=[(ae,L),(au,L),(aH,L),(aI,H),(oX,G),(fZ,G),(kA,G)]
noncomputable def HW:dK:=⟨[ae,au,aH,aI],[],M8,Cv,true⟩
noncomputable def PT:aK:=[(ae,L),(au,L),(aH,L),(eU,H),(kA,G)]
noncomputable def Lw:dK:=⟨[ae,au,aH,eU],[],PT,Gh,true⟩
noncomputable def GJ:aK:=[(aL,L),(ae,L),(bF,L),(uv,G),(qN,G)]
noncomputable def As:dK:=⟨[aL,ae,bF],[],GJ,tY,false⟩
noncomputable def Ac:aK:=[(aj,L),(ba,L),(iS,L)]
noncomputable def sF:dK:=⟨[aj,ba,iS],[],Ac,mR,false⟩
noncomputable def uS:aK:=[(aj,L),(EB,G)]
noncomputable def nQ:dK:=⟨[aj],[],uS,jv,false⟩
noncomputable def sf:aK:=[(aj,L),(ae,L),(au,L),(bE,L)]
noncomputable def lE:dK:=⟨[aj,ae,au,bE],[],sf,iD,false⟩
noncomputable def tG:aK:=[(aj,L),(ae,L),(au,H),(aH,L),(aX,L),(iS,L),(dy,L),(aL,L),(fK,L),(qO,G),(N6,G)]
noncomputable def mx:dK:=⟨[aj,ae,au,aH],[],tG,i8,false⟩
noncomputable def nh:aK:=[(aj,L),(ae,L),(au,L),(aH,L),(aG,L),(f6,L)]
noncomputable def iI:dK:=⟨[aj,ae,au,aH,aG,f6],[],nh,fA,false⟩
noncomputable def I4:aK:=[(di,L),(bE,L),(cA,G)]
noncomputable def C2:dK:=⟨[di,bE],[],I4,xl,false⟩
noncomputable def Dw:aK:=[(di,L),(ae,L),(au,L),(dA,G)]
noncomputable def wz:dK:=⟨[di,ae],[],Dw,qu,false⟩
noncomputable def GV:aK:=[(ae,L),(fj,L),(bG,L),(aT,L),(aH,L),(aI,L),(dx,G),(r0,G)]
noncomputable def AF:dK:=⟨[ae,fj],[],GV,ui,false⟩
noncomputable def Dx:aK:=[(di,L),(ae,L),(x_fresh,H),(zR,L),(au,L),(aH,L),(ba,L),(dA,G),(lh,G),(kT,G),(qR,G),(gE,G),(Hq,G),(Ru,G),(Hr,G),(J2,G)]
noncomputable def wD:dK:=⟨[di,ae,x_fresh],[],Dx,qw,false⟩
noncomputable def EV:aK:=[(ae,L),(fj,L),(bE,L),(fO,L),(bG,L),(eF,L),(bF,L),(mG,L),(c8,G),(cA,G),(kT,G),(zS,G),(jE,G)]
noncomputable def yu:dK:=⟨[ae,fj,bE],[],EV,rN,false⟩
noncomputable def a0o:aK:=[(vp,L),(di,L),(ae,L),(aG,L),(au,L),(aH,L),(fj,L),(gZ,L),(jT,H),(fO,L),(mG,L),(jU,L),(bE,H),(J4,L),(pJ,L),(J5,G),(ee,G),(c8,G),(kT,G),(dA,G),(CI,G),(lh,G),(vv,G),(EC,G),(zT,G),(CJ,G),(jE,G),(vC,G),(cA,G),(ry,G)]
noncomputable def YV:dK:=⟨[vp],[],a0o,fw,false⟩
end
noncomputable def fnI:List (Nat×List (Nat×dK)):=[(0,[(48,uH),(55,CZ),(62,HV)]),(1,[(69,Ar),(76,yr),(83,Fm),(90,HU),(97,Fu),(104,HY),(111,Lx),(119,wu),(127,Ft)]),(2,[(134,Ly),(142,Ce),(149,a4h),(156,Az),(163,CY),(170,Aw),(175,uF),(182,AE),(189,Au)]),(3,[(194,uG),(201,nK),(206,Ay),(211,wk),(218,Fs),(223,v7),(238,oN),(245,sE),(252,jH)]),(4,[(259,oL),(273,mh),(280,mj),(287,lq),(294,lz),(301,jX),(306,jb)]),(5,[(327,qY),(334,wj),(341,uI),(348,yo),(355,yp),(362,Fj),(369,pV),(376,Aq)]),(6,[(390,p8),(397,wG),(404,wH),(411,uL),(418,pZ),(425,oR),(432,sH),(439,sI),(446,yw)]),(8,[(516,rg),(556,pY),(563,q8),(570,yv)]),(9,[(577,wF),(584,sG),(591,pX),(598,q9),(605,pW),(627,lF)]),(10,[(648,wK),(655,AG),(662,yy),(676,wJ),(683,yz),(690,yx),(697,nU)]),(11,[(704,my),(711,wI),(730,oQ),(751,kI),(765,Fk)]),(12,[(772,AA),(779,yq),(786,wd),(793,Fo),(800,CT),(807,v9),(814,ys),(821,pU),(828,qZ)]),(13,[(835,Lv),(842,CS),(849,C1),(856,uJ),(863,Fq),(870,CU),(877,C0),(884,CX),(891,Av)]),(14,[(898,CV),(905,Fn),(912,uK),(919,q7),(926,wx),(940,nN),(947,nM),(954,oO)]),(15,[(961,mw),(968,mn),(975,jY),(982,nL),(996,yt),(1003,HX),(1010,AD),(1017,wc)]),(16,[(1024,sC),(1031,v8),(1038,Fp),(1045,uE),(1052,vZ),(1059,AB),(1066,CR),(1073,l9),(1078,CQ),(1085,YU)]),(17,[(1092,HW),(1099,Lw),(1106,As),(1120,sF),(1141,nQ),(1148,lE)]),(18,[(1153,mx),(1160,iI),(1174,C2),(1181,wz),(1186,AF),(1191,wD),(1198,yu),(1203,YV)])]
noncomputable def fnT(a:Addr):Option dK:=(zc fnI (Rj a 64)).bind λl=>zc l a
noncomputable def rkI:List (Nat×List (Nat×Nat)):=[(0,[(48,1),(55,2),(62,1)]),(1,[(69,0),(76,1),(83,6),(90,4),(97,9),(104,9),(111,10),(119,11),(127,11)]),(2,[(134,10),(142,12),(149,0),(156,0),(163,1),(170,1),(175,0),(182,1),(189,2)]),(3,[(194,0),(201,2),(206,5),(211,12),(218,2),(223,10),(238,0),(245,0),(252,0)]),(4,[(259,1),(273,0),(280,1),(287,2),(294,2),(301,1),(306,0)]),(5,[(327,0),(334,1),(341,0),(348,11),(355,13),(362,14),(369,0),(376,15)]),(6,[(390,0),(397,0),(404,0),(411,0),(418,0),(425,0),(432,1),(439,1),(446,0)]),(8,[(516,0),(556,0),(563,0),(570,0)]),(9,[(577,0),(584,1),(591,1),(598,1),(605,1),(627,1)]),(10,[(648,0),(655,0),(662,1),(676,1),(683,0),(690,0),(697,0)]),(11,[(704,1),(711,0),(730,0),(751,1),(765,0)]),(12,[(772,1),(779,1),(786,0),(793,0),(800,0),(807,1),(814,1),(821,1),(828,1)]),(13,[(835,2),(842,3),(849,0),(856,2),(863,0),(870,0),(877,1),(884,1),(891,4)]),(14,[(898,5),(905,5),(912,4),(919,6),(926,6),(940,2),(947,8),(954,8)]),(15,[(961,8),(968,8),(975,4),(982,9),(996,6),(1003,5),(1010,6),(1017,7)]),(16,[(1024,7),(1031,3),(1038,8),(1045,7),(1052,7),(1059,1),(1066,3),(1073,1),(1078,9),(1085,10)]),(17,[(1092,10),(1099,10),(1106,2),(1120,0),(1141,1),(1148,3)]),(18,[(1153,5),(1160,2),(1174,0),(1181,2),(1186,4),(1191,13),(1198,16),(1203,17)])]
noncomputable def rkT(a:Addr):Nat:=((zc rkI (Rj a 64)).bind λl=>zc l a).getD 0
noncomputable def rkL:Nat:=2
noncomputable def fits(d:dK)(vs:List MV):Bool:=va vs.length d.ps.length&&(va d.dn.length d.ps.length&&va d.ps.length (vs.length+d.dn.length))
noncomputable def a42(c:Cl)(d:dK)(vs:List MV)(σ:St)(Q:bw):Prop:=br (fits d vs) (wB (E5 c d.fz) d.b (vX d.ns (d.ps.zip (vs++d.dn.drop (vs.length-(d.ps.length-d.dn.length))))) σ (ends Q)) False
noncomputable def cl1(c:Cl)(f:MV)(vs:List MV)(σ:St)(Q:bw):Prop:=match f with
 |.fn a=>gv (fnT a) λd=>a42 c d vs σ Q
 |.Fw ps b ns ms=>br (a9 vs.length ps.length) (wE (E5 c false) b (Hz (ps.zip vs++ns.zip ms)) σ Q) False
 |_=>False
noncomputable def UW(Q' Q:bw):Prop:=∀m av,Q' m av→∃τ,(∀a mo,τ a=some mo→av a=some mo)∧Q m τ
noncomputable def U6:MV→Nat
 |.fn a=>rkT a
 |.Fw _ _ _ _=>rkL
 |_=>0
noncomputable def D:Nat→Cl
 |0=>λ_ _ _ _=>False
 |n+1=>λf vs σ Q=>bif a9 (U6 f) n then∃Q',cl1 (D n) f vs σ Q'∧UW Q' Q else D n f vs σ Q
noncomputable abbrev X(r:Nat)(fz:Bool:=false):Ctx:=E5 (D r) fz
section
variable{f:MV}{vs:List MV}{σ:St}{Q Q':bw}
theorem UW.refl(Q:bw):UW Q Q:=λ_ σ q=>⟨σ,λ_ _=>id,q⟩
theorem D.up{r:Nat}(h:ai (U6 f) r=true)(k:∃Q',cl1 (D (U6 f)) f vs σ Q'∧UW Q' Q):D r f vs σ Q:=by
 induction r with
 |zero=>exact absurd h aq
 |succ n ih=>
  show cond (a9 (U6 f) n) _ _;induction e:a9 (U6 f) n with
  |true=>rw[←bR e];exact k
  |false=>exact ih (Ml (Nat.lt_of_le_of_ne (fS (bh h)) (lZ e)))
theorem D.less{r:Nat}(h:D r f vs σ Q')(l:UW Q' Q):D r f vs σ Q:=by
 induction r with
 |zero=>exact h
 |succ n ih=>
  have h:cond (a9 (U6 f) n) _ _:=h;show cond (a9 (U6 f) n) _ _;induction e:a9 (U6 f) n with
  |true=>rw[e]at h;exact h.imp λQ'' k=>⟨k.1,λm av q=>(k.2 m av q).elim λτ z=>(l m τ z.2).imp λτ' y=>⟨λa mo w=>z.1 a mo (y.1 a mo w),y.2⟩⟩
  |false=>rw[e]at h;exact ih h
theorem D.fn{r:Nat}{a:Addr}{d:dK}(hr:ai (rkT a) r=true)(e:fnT a=some d)(hf:fits d vs=true)(h:wB (E5 (D (rkT a)) d.fz) d.b (vX d.ns (d.ps.zip (vs++d.dn.drop (vs.length-(d.ps.length-d.dn.length))))) σ (ends Q)):D r (.fn a) vs σ Q:=
 D.up hr ⟨Q,by show gv (fnT a) _;rw[e];show br (fits d vs) _ _;rw[hf];exact h,.refl Q⟩
theorem D.lam{r:Nat}{ps ns:List Str}{b:N}{ms:List MV}(hr:ai rkL r=true)(e:a9 vs.length ps.length=true)(h:wE (X rkL) b (Hz (ps.zip vs++ns.zip ms)) σ Q):D r (.Fw ps b ns ms) vs σ Q:=
 D.up hr ⟨Q,by show br (a9 vs.length ps.length) _ _;rw[e];exact h,.refl Q⟩
structure Text(G:GC):Prop extends Y6 G where
 fn:∀a d,fnT a=some d→a4C G a d
theorem Y0{c:Bool}{A:Prop}(h:br c A False):c=true∧A:=by
 induction c with
 |true=>exact⟨rfl,h⟩
 |false=>exact h.elim
theorem XY{G:GC}(X:Text G)(n:Nat)(f:MV)(vs:List MV)(σ:St)(Q:bw)(h:D n f vs σ Q):oa G n f vs σ Q:=by
 induction n generalizing f vs σ Q with
 |zero=>exact h.elim
 |succ n ih=>
  have h:cond (a9 (U6 f) n) _ _:=h;induction e:a9 (U6 f) n with
  |false=>rw[e]at h;exact(ih f vs σ Q h).up (iF n)
  |true=>
   rw[e]at h;refine h.elim λQ' h=>oa.less (Q:=Q') ?_ h.2;cases f with
   |fn a=>
    refine gv.cases (show gv (fnT a) _ from h.1) λd hd h=>?_;have b:=Y0 h;have b1:=ao.mp b.1;have b2:=ao.mp b1.2;exact QK ih X.toY6 (X.fn a d hd) (bh b1.1) (bh b2.1) (bh b2.2) b.2
   |Fw ps b ns ms=>
    have b:=Y0 (show br (a9 vs.length ps.length) _ _ from h.1);exact QJ ih X.toY6 (bR b.1) b.2
   |_=>exact h.1.elim
end
section
variable{r:Nat}{σ:St}{Q:bw}
theorem zo{v0:MV}(hr:ai 1 r=true)(h:wB (X 1) oz [(ae,some v0)] σ (ends Q)):D r (.fn 48) [v0] σ Q:=D.fn (d:=uH) hr rfl rfl h
theorem FG{v0 v1:MV}(hr:ai 2 r=true)(h:wB (X 2) xh [(ae,some v0),(zZ,some v1)] σ (ends Q)):D r (.fn 55) [v0,v1] σ Q:=D.fn (d:=CZ) hr rfl rfl h
theorem Ji{v0 v1 v2:MV}(hr:ai 1 r=true)(h:wB (X 1) Cu [(ae,some v0),(au,some v1),(aH,some v2),(cz,none),(bI,none)] σ (ends Q)):D r (.fn 62) [v0,v1,v2] σ Q:=D.fn (d:=HV) hr rfl rfl h
theorem DN{v0 v1 v2:MV}(hr:ai 0 r=true)(h:wB (X 0) tX [(ae,some v0),(au,some v1),(aH,some v2),(cI,none)] σ (ends Q)):D r (.fn 69) [v0,v1,v2] σ Q:=D.fn (d:=Ar) hr rfl rfl h
theorem Cj{v0 v1 v2 v3:MV}(hr:ai 1 r=true)(h:wB (X 1) rL [(ae,some v0),(au,some v1),(aH,some v2),(oW,some v3),(cI,none)] σ (ends Q)):D r (.fn 76) [v0,v1,v2,v3] σ Q:=D.fn (d:=yr) hr rfl rfl h
theorem G3{v0 v1 v2:MV}(hr:ai 6 r=true)(h:wB (X 6) zC [(ae,some v0),(au,some v1),(aH,some v2),(iT,none)] σ (ends Q)):D r (.fn 83) [v0,v1,v2] σ Q:=D.fn (d:=Fm) hr rfl rfl h
theorem AJ{v0 v1 v2:MV}(hr:ai 4 r=true)(h:wB (X 4) xH [(ae,some v0),(bF,some v1),(ba,some v2)] σ (ends Q)):D r (.fn 90) [v0,v1,v2] σ Q:=D.fn (d:=HU) hr rfl rfl h
theorem G'{v0 v1 v2:MV}(hr:ai 9 r=true)(h:wB (X 9) zH [(ae,some v0),(au,some v1),(aH,some v2)] σ (ends Q)):D r (.fn 97) [v0,v1,v2] σ Q:=D.fn (d:=Fu) hr rfl rfl h
theorem AU{v0 v1 v2 v3:MV}(hr:ai 9 r=true)(h:wB (X 9) xI [(ae,some v0),(bF,some v1),(bE,some v2),(bA,some v3)] σ (ends Q)):D r (.fn 104) [v0,v1,v2,v3] σ Q:=D.fn (d:=HY) hr rfl rfl h
theorem C4{v0 v1 v2 v3 v4:MV}(hr:ai 10 r=true)(h:wB (X 10) sT [(ae,some v0),(bF,some v1),(ba,some v2),(bA,some v3),(gB,some v4)] σ (ends Q)):D r (.fn 111) [v0,v1,v2,v3,v4] σ Q:=D.fn (d:=Lx) hr rfl rfl h
theorem Cm{v0 v1 v2:MV}(hr:ai 11 r=true)(h:wB (X 11) rt [(ae,some v0),(bF,some v1),(ba,some v2),(bA,some ((.bool false)))] σ (ends Q)):D r (.fn 119) [v0,v1,v2] σ Q:=D.fn (d:=wu) hr rfl rfl h
theorem UE{v0 v1 v2 v3:MV}(hr:ai 11 r=true)(h:wB (X 11) rt [(ae,some v0),(bF,some v1),(ba,some v2),(bA,some v3)] σ (ends Q)):D r (.fn 119) [v0,v1,v2,v3] σ Q:=D.fn (d:=wu) hr rfl rfl h
theorem yD{v0 v1:MV}(hr:ai 11 r=true)(h:wB (X 11) xi [(ae,some v0),(ba,some v1),(bA,some ((.bool false)))] σ (ends Q)):D r (.fn 127) [v0,v1] σ Q:=D.fn (d:=Ft) hr rfl rfl h
theorem YX{v0 v1 v2:MV}(hr:ai 11 r=true)(h:wB (X 11) xi [(ae,some v0),(ba,some v1),(bA,some v2)] σ (ends Q)):D r (.fn 127) [v0,v1,v2] σ Q:=D.fn (d:=Ft) hr rfl rfl h
theorem C5{v0 v1 v2:MV}(hr:ai 10 r=true)(h:wB (X 10) Bn [(ae,some v0),(au,some v1),(aH,some v2),(cz,none),(bI,none),(iT,none)] σ (ends Q)):D r (.fn 134) [v0,v1,v2] σ Q:=D.fn (d:=Ly) hr rfl rfl h
theorem wQ{v0 v1 v2 v3:MV}(hr:ai 12 r=true)(h:wB (X 12) mP [(ae,some v0),(au,some v1),(aH,some v2),(ba,some v3),(aX,some (.none)),(cz,none),(bI,none),(x_point,none),(iT,none)] σ (ends Q)):D r (.fn 142) [v0,v1,v2,v3] σ Q:=D.fn (d:=Ce) hr rfl rfl h
theorem XJ{v0 v1 v2 v3 v4:MV}(hr:ai 12 r=true)(h:wB (X 12) mP [(ae,some v0),(au,some v1),(aH,some v2),(ba,some v3),(aX,some v4),(cz,none),(bI,none),(x_point,none),(iT,none)] σ (ends Q)):D r (.fn 142) [v0,v1,v2,v3,v4] σ Q:=D.fn (d:=Ce) hr rfl rfl h
theorem XK{v0 v1:MV}(hr:ai 0 r=true)(h:wB (X 0) a1D [(gZ,some v0),(dg,some v1)] σ (ends Q)):D r (.fn 149) [v0,v1] σ Q:=D.fn (d:=a4h) hr rfl rfl h
theorem DU{v0 v1:MV}(hr:ai 0 r=true)(h:wB (X 0) ud [(aI,some v0),(aG,some v1),(x_at,none)] σ (ends Q)):D r (.fn 156) [v0,v1] σ Q:=D.fn (d:=Az) hr rfl rfl h
theorem FF{v0 v1:MV}(hr:ai 1 r=true)(h:wB (X 1) xg [(aI,some v0),(aG,some v1),(x_at,none)] σ (ends Q)):D r (.fn 163) [v0,v1] σ Q:=D.fn (d:=CY) hr rfl rfl h
theorem DS{v0 v1 v2:MV}(hr:ai 1 r=true)(h:wB (X 1) ua [(aI,some v0),(aG,some v1),(cX,some v2),(x_at,none)] σ (ends Q)):D r (.fn 170) [v0,v1,v2] σ Q:=D.fn (d:=Aw) hr rfl rfl h
theorem zk{v0 v1:MV}(hr:ai 0 r=true)(h:wB (X 0) ou [(aI,some v0),(aG,some v1)] σ (ends Q)):D r (.fn 175) [v0,v1] σ Q:=D.fn (d:=uF) hr rfl rfl h
theorem DY{v0 v1 v2:MV}(hr:ai 1 r=true)(h:wB (X 1) uh [(aI,some v0),(aG,some v1),(cX,some v2),(x_at,none)] σ (ends Q)):D r (.fn 182) [v0,v1,v2] σ Q:=D.fn (d:=AE) hr rfl rfl h
theorem DP{v0 v1:MV}(hr:ai 2 r=true)(h:wB (X 2) t7 [(gZ,some v0),(dg,some v1),(aG,none),(cX,none)] σ (ends Q)):D r (.fn 189) [v0,v1] σ Q:=D.fn (d:=Au) hr rfl rfl h
theorem zm{v0 v1:MV}(hr:ai 0 r=true)(h:wB (X 0) ow [(aI,some v0),(eU,some v1)] σ (ends Q)):D r (.fn 194) [v0,v1] σ Q:=D.fn (d:=uG) hr rfl rfl h
theorem sM{v0 v1:MV}(hr:ai 2 r=true)(h:wB (X 2) jt [(gZ,some v0),(dg,some v1),(bG,none),(aG,none),(cX,none)] σ (ends Q)):D r (.fn 201) [v0,v1] σ Q:=D.fn (d:=nK) hr rfl rfl h
theorem DT{v0 v1 v2:MV}(hr:ai 5 r=true)(h:wB (X 5) uc [(ae,some v0),(au,some v1),(aH,some v2)] σ (ends Q)):D r (.fn 206) [v0,v1,v2] σ Q:=D.fn (d:=Ay) hr rfl rfl h
theorem AS{v0 v1:MV}(hr:ai 12 r=true)(h:wB (X 12) qo [(ae,some v0),(fK,some v1),(au,none),(aX,none)] σ (ends Q)):D r (.fn 211) [v0,v1] σ Q:=D.fn (d:=wk) hr rfl rfl h
theorem G9{v0 v1 v2:MV}(hr:ai 2 r=true)(h:wB (X 2) zG [(f6,some v0),(aI,some v1),(aG,some v2),(bG,none)] σ (ends Q)):D r (.fn 218) [v0,v1,v2] σ Q:=D.fn (d:=Fs) hr rfl rfl h
theorem AM{v0 v1 v2 v3 v4:MV}(hr:ai 10 r=true)(h:wB (X 10) jr [(ae,some v0),(au,some v1),(aH,some v2),(aG,some v3),(gw,some v4),(cz,none),(bI,none),(cf,none),(dO,none),(dh,none),(aI,none),(x_fresh,none),(cI,none)] σ (ends Q)):D r (.fn 223) [v0,v1,v2,v3,v4] σ Q:=D.fn (d:=v7) hr rfl rfl h
theorem tM{v0:MV}(hr:ai 0 r=true)(h:wB (X 0) jM [(aj,some v0)] σ (ends Q)):D r (.fn 238) [v0] σ Q:=D.fn (d:=oN) hr rfl rfl h
theorem x4{v0:MV}(hr:ai 0 r=true)(h:wB (X 0) mQ [(aj,some v0)] σ (ends Q)):D r (.fn 245) [v0] σ Q:=D.fn (d:=sE) hr rfl rfl h
theorem oo{v0:MV}(hr:ai 0 r=true)(h:wB (X 0) gj [(aj,some v0)] σ (ends Q)):D r (.fn 252) [v0] σ Q:=D.fn (d:=jH) hr rfl rfl h
theorem tL{v0:MV}(hr:ai 1 r=true)(h:wB (X 1) jL [(aj,some v0)] σ (ends Q)):D r (.fn 259) [v0] σ Q:=D.fn (d:=oL) hr rfl rfl h
theorem rD{v0 v1 v2:MV}(hr:ai 0 r=true)(h:wB (X 0) iW [(aj,some v0),(bz,some v1),(fU,some v2)] σ (ends Q)):D r (.fn 273) [v0,v1,v2] σ Q:=D.fn (d:=mh) hr rfl rfl h
theorem rE{v0 v1 v2 v3:MV}(hr:ai 1 r=true)(h:wB (X 1) iX [(aj,some v0),(au,some v1),(bz,some v2),(fU,some v3),(td,none)] σ (ends Q)):D r (.fn 280) [v0,v1,v2,v3] σ Q:=D.fn (d:=mj) hr rfl rfl h
theorem qG{v0 v1 v2 v3 v4 v5:MV}(hr:ai 2 r=true)(h:wB (X 2) iB [(aj,some v0),(au,some v1),(bE,some v2),(x_point,some v3),(bz,some v4),(fU,some v5),(dh,none)] σ (ends Q)):D r (.fn 287) [v0,v1,v2,v3,v4,v5] σ Q:=D.fn (d:=lq) hr rfl rfl h
theorem qH{v0 v1 v2 v3 v4 v5 v6:MV}(hr:ai 2 r=true)(h:wB (X 2) iC [(aj,some v0),(au,some v1),(fK,some v2),(x_point,some v3),(dy,some v4),(bz,some v5),(fU,some v6),(aL,none),(eh,none)] σ (ends Q)):D r (.fn 294) [v0,v1,v2,v3,v4,v5,v6] σ Q:=D.fn (d:=lz) hr rfl rfl h
theorem pe{v0 v1 v2 v3 v4 v5 v6:MV}(hr:ai 1 r=true)(h:wB (X 1) gU [(aj,some v0),(au,some v1),(aH,some v2),(aG,some v3),(f6,some v4),(bz,some v5),(fU,some v6)] σ (ends Q)):D r (.fn 301) [v0,v1,v2,v3,v4,v5,v6] σ Q:=D.fn (d:=jX) hr rfl rfl h
theorem mM{v0 v1 v2:MV}(hr:ai 0 r=true)(h:wB (X 0) fL [(aj,some v0),(f6,some v1),(x_fresh,some v2),(vy,none)] σ (ends Q)):D r (.fn 306) [v0,v1,v2] σ Q:=D.fn (d:=jb) hr rfl rfl h
theorem wR{v0 v1 v2 v3:MV}(hr:ai 0 r=true)(h:wB (X 0) lJ [(bF,some v0),(au,some v1),(aH,some v2),(kY,some v3)] σ (ends Q)):D r (.fn 327) [v0,v1,v2,v3] σ Q:=D.fn (d:=qY) hr rfl rfl h
theorem AR{v0 v1 v2:MV}(hr:ai 1 r=true)(h:wB (X 1) qm [(ae,some v0),(au,some v1),(aH,some v2)] σ (ends Q)):D r (.fn 334) [v0,v1,v2] σ Q:=D.fn (d:=wj) hr rfl rfl h
theorem zp{v0 v1:MV}(hr:ai 0 r=true)(h:wB (X 0) oA [(aX,some v0),(x_at,some v1),(bG,none)] σ (ends Q)):D r (.fn 341) [v0,v1] σ Q:=D.fn (d:=uI) hr rfl rfl h
theorem Cf{v0 v1:MV}(hr:ai 11 r=true)(h:wB (X 11) rJ [(ae,some v0),(dW,some v1)] σ (ends Q)):D r (.fn 348) [v0,v1] σ Q:=D.fn (d:=yo) hr rfl rfl h
theorem Cg{v0 v1 v2:MV}(hr:ai 13 r=true)(h:wB (X 13) gT [(ae,some v0),(dW,some v1),(dX,some v2),(s7,none),(Er,none),(aL,none),(eh,none)] σ (ends Q)):D r (.fn 355) [v0,v1,v2] σ Q:=D.fn (d:=yp) hr rfl rfl h
theorem G2{v0 v1 v2:MV}(hr:ai 14 r=true)(h:wB (X 14) zB [(ae,some v0),(aX,some v1),(x_at,some v2),(dW,none),(dX,none)] σ (ends Q)):D r (.fn 362) [v0,v1,v2] σ Q:=D.fn (d:=Fj) hr rfl rfl h
theorem uX{v0 v1:MV}(hr:ai 0 r=true)(h:wB (X 0) ke [(aX,some v0),(x_at,some v1)] σ (ends Q)):D r (.fn 369) [v0,v1] σ Q:=D.fn (d:=pV) hr rfl rfl h
theorem DM{v0 v1 v2:MV}(hr:ai 15 r=true)(h:wB (X 15) tV [(ae,some v0),(aX,some v1),(x_at,some v2)] σ (ends Q)):D r (.fn 376) [v0,v1,v2] σ Q:=D.fn (d:=Aq) hr rfl rfl h
theorem u4{v0 v1 v2:MV}(hr:ai 0 r=true)(h:wB (X 0) kj [(aj,some v0),(ba,some v1),(gN,some v2)] σ (ends Q)):D r (.fn 390) [v0,v1,v2] σ Q:=D.fn (d:=p8) hr rfl rfl h
theorem A7{v0:MV}(hr:ai 0 r=true)(h:wB (X 0) qx [(aj,some v0)] σ (ends Q)):D r (.fn 397) [v0] σ Q:=D.fn (d:=wG) hr rfl rfl h
theorem Pa{v0 v1:MV}(hr:ai 0 r=true)(h:wB (X 0) xn [(aj,some v0),(x_at,some v1)] σ (ends Q)):D r (.fn 404) [v0,v1] σ Q:=D.fn (d:=wH) hr rfl rfl h
theorem zt{v0 v1 v2:MV}(hr:ai 0 r=true)(h:wB (X 0) oF [(aj,some v0),(au,some v1),(aH,some v2),(xv,none)] σ (ends Q)):D r (.fn 411) [v0,v1,v2] σ Q:=D.fn (d:=uL) hr rfl rfl h
theorem u0{v0 v1:MV}(hr:ai 0 r=true)(h:wB (X 0) kh [(aj,some v0),(x_at,some v1),(f5,none)] σ (ends Q)):D r (.fn 418) [v0,v1] σ Q:=D.fn (d:=pZ) hr rfl rfl h
theorem tO{v0 v1:MV}(hr:ai 0 r=true)(h:wB (X 0) jO [(aj,some v0),(gw,some v1),(Bx,none)] σ (ends Q)):D r (.fn 425) [v0,v1] σ Q:=D.fn (d:=oR) hr rfl rfl h
theorem x9{v0 v1 v2:MV}(hr:ai 1 r=true)(h:wB (X 1) mT [(aj,some v0),(x_at,some v1),(ba,some v2)] σ (ends Q)):D r (.fn 432) [v0,v1,v2] σ Q:=D.fn (d:=sH) hr rfl rfl h
theorem ya{v0 v1 v2:MV}(hr:ai 1 r=true)(h:wB (X 1) mU [(aj,some v0),(au,some v1),(aH,some v2),(iT,none)] σ (ends Q)):D r (.fn 439) [v0,v1,v2] σ Q:=D.fn (d:=sI) hr rfl rfl h
theorem QH{v0 v1 v2:MV}(hr:ai 0 r=true)(h:wB (X 0) yL [(aj,some v0),(x_at,some v1),(x_code,some v2)] σ (ends Q)):D r (.fn 446) [v0,v1,v2] σ Q:=D.fn (d:=yw) hr rfl rfl h
theorem wX{v0 v1 v2:MV}(hr:ai 0 r=true)(h:wB (X 0) lP [(aj,some v0),(aG,some v1),(iy,some v2)] σ (ends Q)):D r (.fn 516) [v0,v1,v2] σ Q:=D.fn (d:=rg) hr rfl rfl h
theorem uZ{v0:MV}(hr:ai 0 r=true)(h:wB (X 0) kg [(aj,some v0)] σ (ends Q)):D r (.fn 556) [v0] σ Q:=D.fn (d:=pY) hr rfl rfl h
theorem nV{v0:MV}(hr:ai 0 r=true)(h:wB (X 0) jd [(aj,some v0)] σ (ends Q)):D r (.fn 563) [v0] σ Q:=D.fn (d:=q8) hr rfl rfl h
theorem Co{v0 v1 v2:MV}(hr:ai 0 r=true)(h:wB (X 0) rO [(aj,some v0),(aL,some v1),(bT,some v2)] σ (ends Q)):D r (.fn 570) [v0,v1,v2] σ Q:=D.fn (d:=yv) hr rfl rfl h
theorem O'{v0 v1:MV}(hr:ai 0 r=true)(h:wB (X 0) xm [(aj,some v0),(aL,some v1)] σ (ends Q)):D r (.fn 577) [v0,v1] σ Q:=D.fn (d:=wF) hr rfl rfl h
theorem x7{v0 v1 v2:MV}(hr:ai 1 r=true)(h:wB (X 1) mS [(aj,some v0),(au,some v1),(aH,some v2),(bG,none),(aG,none)] σ (ends Q)):D r (.fn 584) [v0,v1,v2] σ Q:=D.fn (d:=sG) hr rfl rfl h
theorem mz{v0 v1 v2 v3:MV}(hr:ai 1 r=true)(h:wB (X 1) iE [(aj,some v0),(au,some v1),(aH,some v2),(jl,some v3),(aG,none),(aL,none)] σ (ends Q)):D r (.fn 591) [v0,v1,v2,v3] σ Q:=D.fn (d:=pX) hr rfl rfl h
theorem wW{v0 v1 v2:MV}(hr:ai 1 r=true)(h:wB (X 1) lO [(aj,some v0),(au,some v1),(aH,some v2),(aG,none),(aL,none)] σ (ends Q)):D r (.fn 598) [v0,v1,v2] σ Q:=D.fn (d:=q9) hr rfl rfl h
theorem uY{v0 v1 v2 v3:MV}(hr:ai 1 r=true)(h:wB (X 1) kf [(aj,some v0),(au,some v1),(aH,some v2),(bE,some v3),(aG,none),(aL,none)] σ (ends Q)):D r (.fn 605) [v0,v1,v2,v3] σ Q:=D.fn (d:=pW) hr rfl rfl h
theorem tQ{v0 v1 v2:MV}(hr:ai 1 r=true)(h:wB (X 1) je [(aj,some v0),(aG,some v1),(s9,some v2),(gN,some ((.int 8)))] σ (ends Q)):D r (.fn 627) [v0,v1,v2] σ Q:=D.fn (d:=lF) hr rfl rfl h
theorem LD{v0 v1 v2 v3:MV}(hr:ai 1 r=true)(h:wB (X 1) je [(aj,some v0),(aG,some v1),(s9,some v2),(gN,some v3)] σ (ends Q)):D r (.fn 627) [v0,v1,v2,v3] σ Q:=D.fn (d:=lF) hr rfl rfl h
theorem Pb{v0:MV}(hr:ai 0 r=true)(h:wB (X 0) xo [(aj,some v0)] σ (ends Q)):D r (.fn 648) [v0] σ Q:=D.fn (d:=wK) hr rfl rfl h
theorem Rh{v0:MV}(hr:ai 0 r=true)(h:wB (X 0) Bo [(aj,some v0)] σ (ends Q)):D r (.fn 655) [v0] σ Q:=D.fn (d:=AG) hr rfl rfl h
theorem Cp{v0:MV}(hr:ai 1 r=true)(h:wB (X 1) rP [(aj,some v0)] σ (ends Q)):D r (.fn 662) [v0] σ Q:=D.fn (d:=yy) hr rfl rfl h
theorem A9{v0 v1 v2:MV}(hr:ai 1 r=true)(h:wB (X 1) qz [(aj,some v0),(au,some v1),(aH,some v2)] σ (ends Q)):D r (.fn 676) [v0,v1,v2] σ Q:=D.fn (d:=wJ) hr rfl rfl h
theorem Cq{v0 v1:MV}(hr:ai 0 r=true)(h:wB (X 0) rQ [(aj,some v0),(bF,some v1)] σ (ends Q)):D r (.fn 683) [v0,v1] σ Q:=D.fn (d:=yz) hr rfl rfl h
theorem QI{v0:MV}(hr:ai 0 r=true)(h:wB (X 0) yM [(aj,some v0)] σ (ends Q)):D r (.fn 690) [v0] σ Q:=D.fn (d:=yx) hr rfl rfl h
theorem sP{v0:MV}(hr:ai 0 r=true)(h:wB (X 0) jw [(aj,some v0)] σ (ends Q)):D r (.fn 697) [v0] σ Q:=D.fn (d:=nU) hr rfl rfl h
theorem rI{v0 v1:MV}(hr:ai 1 r=true)(h:wB (X 1) i9 [(aj,some v0),(xw,some v1)] σ (ends Q)):D r (.fn 704) [v0,v1] σ Q:=D.fn (d:=my) hr rfl rfl h
theorem A8{v0 v1:MV}(hr:ai 0 r=true)(h:wB (X 0) qy [(aj,some v0),(qT,some v1)] σ (ends Q)):D r (.fn 711) [v0,v1] σ Q:=D.fn (d:=wI) hr rfl rfl h
theorem tN{v0 v1 v2:MV}(hr:ai 0 r=true)(h:wB (X 0) jN [(aj,some v0),(cx,some v1),(aI,some v2)] σ (ends Q)):D r (.fn 730) [v0,v1,v2] σ Q:=D.fn (d:=oQ) hr rfl rfl h
theorem qc{v0 v1 v2:MV}(hr:ai 1 r=true)(h:wB (X 1) hJ [(aj,some v0),(kW,some v1),(aI,some v2)] σ (ends Q)):D r (.fn 751) [v0,v1,v2] σ Q:=D.fn (d:=kI) hr rfl rfl h
theorem yB{v0:MV}(hr:ai 0 r=true)(h:wB (X 0) tW [(aB,some v0)] σ (ends Q)):D r (.fn 765) [v0] σ Q:=D.fn (d:=Fk) hr rfl rfl h
theorem DV{v0:MV}(hr:ai 1 r=true)(h:wB (X 1) ue [(aB,some v0)] σ (ends Q)):D r (.fn 772) [v0] σ Q:=D.fn (d:=AA) hr rfl rfl h
theorem Ci{v0:MV}(hr:ai 1 r=true)(h:wB (X 1) rK [(aY,some v0)] σ (ends Q)):D r (.fn 779) [v0] σ Q:=D.fn (d:=yq) hr rfl rfl h
theorem AQ{v0 v1 v2:MV}(hr:ai 0 r=true)(h:wB (X 0) qk [(aY,some v0),(aB,some v1),(dg,some v2),(bV,none)] σ (ends Q)):D r (.fn 786) [v0,v1,v2] σ Q:=D.fn (d:=wd) hr rfl rfl h
theorem yC{v0 v1:MV}(hr:ai 0 r=true)(h:wB (X 0) tZ [(aB,some v0),(cH,some v1)] σ (ends Q)):D r (.fn 793) [v0,v1] σ Q:=D.fn (d:=Fo) hr rfl rfl h
theorem wO{v0 v1:MV}(hr:ai 0 r=true)(h:wB (X 0) rp [(aB,some v0),(cH,some v1)] σ (ends Q)):D r (.fn 800) [v0,v1] σ Q:=D.fn (d:=CT) hr rfl rfl h
theorem AO{v0 v1:MV}(hr:ai 1 r=true)(h:wB (X 1) qi [(aY,some v0),(aB,some v1),(cH,none),(cx,none)] σ (ends Q)):D r (.fn 807) [v0,v1] σ Q:=D.fn (d:=v9) hr rfl rfl h
theorem Ck{v0 v1:MV}(hr:ai 1 r=true)(h:wB (X 1) rM [(aY,some v0),(aB,some v1),(cH,none),(cx,none)] σ (ends Q)):D r (.fn 814) [v0,v1] σ Q:=D.fn (d:=ys) hr rfl rfl h
theorem uW{v0:MV}(hr:ai 1 r=true)(h:wB (X 1) kb [(aB,some v0),(cH,none),(eY,none)] σ (ends Q)):D r (.fn 821) [v0] σ Q:=D.fn (d:=pU) hr rfl rfl h
theorem wU{v0:MV}(hr:ai 1 r=true)(h:wB (X 1) lL [(aB,some v0),(cH,none),(eY,none)] σ (ends Q)):D r (.fn 828) [v0] σ Q:=D.fn (d:=qZ) hr rfl rfl h
theorem LB{v0 v1:MV}(hr:ai 2 r=true)(h:wB (X 2) Gg [(aY,some v0),(aB,some v1),(eF,none),(rZ,none),(eZ,none),(cH,none)] σ (ends Q)):D r (.fn 835) [v0,v1] σ Q:=D.fn (d:=Lv) hr rfl rfl h
theorem FA{v0 v1:MV}(hr:ai 3 r=true)(h:wB (X 3) xc [(aY,some v0),(aB,some v1)] σ (ends Q)):D r (.fn 842) [v0,v1] σ Q:=D.fn (d:=CS) hr rfl rfl h
theorem FJ{v0 v1:MV}(hr:ai 0 r=true)(h:wB (X 0) xk [(aB,some v0),(bE,some v1)] σ (ends Q)):D r (.fn 849) [v0,v1] σ Q:=D.fn (d:=C1) hr rfl rfl h
theorem zq{v0 v1:MV}(hr:ai 2 r=true)(h:wB (X 2) oB [(aY,some v0),(x_at,some v1),(aB,none),(aT,none),(ja,none),(vy,none)] σ (ends Q)):D r (.fn 856) [v0,v1] σ Q:=D.fn (d:=uJ) hr rfl rfl h
theorem G8{v0:MV}(hr:ai 0 r=true)(h:wB (X 0) zF [(aB,some v0)] σ (ends Q)):D r (.fn 863) [v0] σ Q:=D.fn (d:=Fq) hr rfl rfl h
theorem FC{v0:MV}(hr:ai 0 r=true)(h:wB (X 0) xd [(aB,some v0)] σ (ends Q)):D r (.fn 870) [v0] σ Q:=D.fn (d:=CU) hr rfl rfl h
theorem FH{v0:MV}(hr:ai 1 r=true)(h:wB (X 1) xj [(aB,some v0)] σ (ends Q)):D r (.fn 877) [v0] σ Q:=D.fn (d:=C0) hr rfl rfl h
theorem FE{v0:MV}(hr:ai 1 r=true)(h:wB (X 1) xf [(aB,some v0)] σ (ends Q)):D r (.fn 884) [v0] σ Q:=D.fn (d:=CX) hr rfl rfl h
theorem DQ{v0 v1 v2:MV}(hr:ai 4 r=true)(h:wB (X 4) t9 [(aY,some v0),(aB,some v1),(x_fresh,some v2)] σ (ends Q)):D r (.fn 891) [v0,v1,v2] σ Q:=D.fn (d:=Av) hr rfl rfl h
theorem FD{v0 v1 v2:MV}(hr:ai 5 r=true)(h:wB (X 5) xe [(aY,some v0),(aB,some v1),(x_fresh,some v2),(jU,none)] σ (ends Q)):D r (.fn 898) [v0,v1,v2] σ Q:=D.fn (d:=CV) hr rfl rfl h
theorem G4{v0 v1:MV}(hr:ai 5 r=true)(h:wB (X 5) zD [(aY,some v0),(x_at,some v1),(aB,none),(aT,none),(Ew,none)] σ (ends Q)):D r (.fn 905) [v0,v1] σ Q:=D.fn (d:=Fn) hr rfl rfl h
theorem zr{v0 v1:MV}(hr:ai 4 r=true)(h:wB (X 4) oE [(aY,some v0),(aB,some v1),(tf,none),(cH,none),(f5,none),(eZ,none)] σ (ends Q)):D r (.fn 912) [v0,v1] σ Q:=D.fn (d:=uK) hr rfl rfl h
theorem wV{v0 v1 v2 v3:MV}(hr:ai 6 r=true)(h:wB (X 6) lN [(aY,some v0),(x_at,some v1),(bE,some v2),(aI,some v3),(x_fresh,none)] σ (ends Q)):D r (.fn 919) [v0,v1,v2,v3] σ Q:=D.fn (d:=q7) hr rfl rfl h
theorem AX{v0 v1 v2:MV}(hr:ai 6 r=true)(h:wB (X 6) qt [(aY,some v0),(aT,some v1),(aH,some v2),(cW,none),(aB,none)] σ (ends Q)):D r (.fn 926) [v0,v1,v2] σ Q:=D.fn (d:=wx) hr rfl rfl h
theorem sN{v0 v1:MV}(hr:ai 2 r=true)(h:wB (X 2) ju [(aj,some v0),(kW,some v1)] σ (ends Q)):D r (.fn 940) [v0,v1] σ Q:=D.fn (d:=nN) hr rfl rfl h
theorem H0{v0 v1 v2 v3:MV}(hr:ai 8 r=true)(h:wB (X 8) nY [(aj,some v0),(x_at,some v1),(bE,some v2),(aI,some v3)] σ (ends Q)):D r (.fn 947) [v0,v1,v2,v3] σ Q:=D.fn (d:=nM) hr rfl rfl h
theorem Jl{v0 v1 v2:MV}(hr:ai 8 r=true)(h:wB (X 8) oU [(aj,some v0),(aT,some v1),(aH,some v2)] σ (ends Q)):D r (.fn 954) [v0,v1,v2] σ Q:=D.fn (d:=oO) hr rfl rfl h
theorem rG{v0 v1 v2:MV}(hr:ai 8 r=true)(h:wB (X 8) iZ [(aj,some v0),(x_at,some v1),(bE,some v2)] σ (ends Q)):D r (.fn 961) [v0,v1,v2] σ Q:=D.fn (d:=mw) hr rfl rfl h
theorem rF{v0 v1 v2:MV}(hr:ai 8 r=true)(h:wB (X 8) iY [(aj,some v0),(x_at,some v1),(aH,some v2)] σ (ends Q)):D r (.fn 968) [v0,v1,v2] σ Q:=D.fn (d:=mn) hr rfl rfl h
theorem pg{v0 v1 v2:MV}(hr:ai 4 r=true)(h:wB (X 4) gV [(aj,some v0),(aT,some v1),(aH,some v2)] σ (ends Q)):D r (.fn 975) [v0,v1,v2] σ Q:=D.fn (d:=jY) hr rfl rfl h
theorem kJ{v0 v1:MV}(hr:ai 9 r=true)(h:wB (X 9) gL [(aj,some v0),(aX,some v1)] σ (ends Q)):D r (.fn 982) [v0,v1] σ Q:=D.fn (d:=nL) hr rfl rfl h
theorem sL{v0 v1 v2:MV}(hr:ai 6 r=true)(h:wB (X 6) m7 [(bg,some v0),(aT,some v1),(aH,some v2),(aB,none),(bG,none),(cW,none)] σ (ends Q)):D r (.fn 996) [v0,v1,v2] σ Q:=D.fn (d:=yt) hr rfl rfl h
theorem Jk{v0 v1:MV}(hr:ai 5 r=true)(h:wB (X 5) Cw [(bg,some v0),(x_at,some v1),(aB,none),(aT,none),(ja,none),(bE,none)] σ (ends Q)):D r (.fn 1003) [v0,v1] σ Q:=D.fn (d:=HX) hr rfl rfl h
theorem DX{v0 v1 v2:MV}(hr:ai 6 r=true)(h:wB (X 6) ug [(bg,some v0),(aT,some v1),(aH,some v2),(x_at,none),(aB,none),(dO,none),(dh,none)] σ (ends Q)):D r (.fn 1010) [v0,v1,v2] σ Q:=D.fn (d:=AD) hr rfl rfl h
theorem AP{v0 v1 v2 v3 v4:MV}(hr:ai 7 r=true)(h:wB (X 7) qj [(bg,some v0),(aT,some v1),(aH,some v2),(aG,some v3),(cX,some v4),(cf,none),(aB,none)] σ (ends Q)):D r (.fn 1017) [v0,v1,v2,v3,v4] σ Q:=D.fn (d:=wc) hr rfl rfl h
theorem xZ{v0 v1 v2 v3:MV}(hr:ai 7 r=true)(h:wB (X 7) mO [(bg,some v0),(aT,some v1),(aH,some v2),(aI,some v3),(cf,none),(aB,none)] σ (ends Q)):D r (.fn 1024) [v0,v1,v2,v3] σ Q:=D.fn (d:=sC) hr rfl rfl h
theorem AN{v0 v1 v2:MV}(hr:ai 3 r=true)(h:wB (X 3) qh [(bg,some v0),(aT,some v1),(aH,some v2),(bG,none),(aB,none),(dO,none),(dh,none)] σ (ends Q)):D r (.fn 1031) [v0,v1,v2] σ Q:=D.fn (d:=v8) hr rfl rfl h
theorem G5{v0 v1:MV}(hr:ai 8 r=true)(h:wB (X 8) zE [(bg,some v0),(aX,some v1),(cf,none),(aT,none),(aH,none),(aI,none)] σ (ends Q)):D r (.fn 1038) [v0,v1] σ Q:=D.fn (d:=Fp) hr rfl rfl h
theorem zi{v0 v1 v2 v3:MV}(hr:ai 7 r=true)(h:wB (X 7) ot [(bg,some v0),(x_at,some v1),(bE,some v2),(aI,some v3)] σ (ends Q)):D r (.fn 1045) [v0,v1,v2,v3] σ Q:=D.fn (d:=uE) hr rfl rfl h
theorem AL{v0 v1 v2:MV}(hr:ai 7 r=true)(h:wB (X 7) qg [(bg,some v0),(aT,some v1),(aH,some v2)] σ (ends Q)):D r (.fn 1052) [v0,v1,v2] σ Q:=D.fn (d:=vZ) hr rfl rfl h
theorem DW{v0 v1 v2:MV}(hr:ai 1 r=true)(h:wB (X 1) uf [(ae,some v0),(au,some v1),(aH,some v2),(cz,none),(bI,none)] σ (ends Q)):D r (.fn 1059) [v0,v1,v2] σ Q:=D.fn (d:=AB) hr rfl rfl h
theorem Fz{v0 v1 v2 v3 v4:MV}(hr:ai 3 r=true)(h:wB (X 3) xb [(ae,some v0),(aT,some v1),(aH,some v2),(zW,some v3),(J3,some v4),(aG,none)] σ (ends Q)):D r (.fn 1066) [v0,v1,v2,v3,v4] σ Q:=D.fn (d:=CR) hr rfl rfl h
theorem rC{v0:MV}(hr:ai 1 r=true)(h:wB (X 1) iV [(ae,some v0)] σ (ends Q)):D r (.fn 1073) [v0] σ Q:=D.fn (d:=l9) hr rfl rfl h
theorem Fy{v0 v1 v2 v3:MV}(hr:ai 9 r=true)(h:wB (X 9) nX [(ae,some v0),(au,some v1),(aH,some v2),(vk,some v3),(cz,none),(bI,none),(aX,none),(aT,none),(dh,none),(aI,none),(x_fresh,none),(cI,none)] σ (ends Q)):D r (.fn 1078) [v0,v1,v2,v3] σ Q:=D.fn (d:=CQ) hr rfl rfl h
theorem UC{v0 v1 v2 v3 v4:MV}(hr:ai 10 r=true)(h:wB (X 10 true) UO [(ae,some v0),(au,some v1),(aH,some v2),(aG,some v3),(cX,some v4)] σ (ends Q)):D r (.fn 1085) [v0,v1,v2,v3,v4] σ Q:=D.fn (d:=YU) hr rfl rfl h
theorem Jj{v0 v1 v2 v3:MV}(hr:ai 10 r=true)(h:wB (X 10 true) Cv [(ae,some v0),(au,some v1),(aH,some v2),(aI,some v3)] σ (ends Q)):D r (.fn 1092) [v0,v1,v2,v3] σ Q:=D.fn (d:=HW) hr rfl rfl h
theorem LC{v0 v1 v2 v3:MV}(hr:ai 10 r=true)(h:wB (X 10 true) Gh [(ae,some v0),(au,some v1),(aH,some v2),(eU,some v3)] σ (ends Q)):D r (.fn 1099) [v0,v1,v2,v3] σ Q:=D.fn (d:=Lw) hr rfl rfl h
theorem DO{v0 v1 v2:MV}(hr:ai 2 r=true)(h:wB (X 2) tY [(aL,some v0),(ae,some v1),(bF,some v2)] σ (ends Q)):D r (.fn 1106) [v0,v1,v2] σ Q:=D.fn (d:=As) hr rfl rfl h
theorem x5{v0 v1 v2:MV}(hr:ai 0 r=true)(h:wB (X 0) mR [(aj,some v0),(ba,some v1),(iS,some v2)] σ (ends Q)):D r (.fn 1120) [v0,v1,v2] σ Q:=D.fn (d:=sF) hr rfl rfl h
theorem sO{v0:MV}(hr:ai 1 r=true)(h:wB (X 1) jv [(aj,some v0)] σ (ends Q)):D r (.fn 1141) [v0] σ Q:=D.fn (d:=nQ) hr rfl rfl h
theorem qI{v0 v1 v2 v3:MV}(hr:ai 3 r=true)(h:wB (X 3) iD [(aj,some v0),(ae,some v1),(au,some v2),(bE,some v3)] σ (ends Q)):D r (.fn 1148) [v0,v1,v2,v3] σ Q:=D.fn (d:=lE) hr rfl rfl h
theorem rH{v0 v1 v2 v3:MV}(hr:ai 5 r=true)(h:wB (X 5) i8 [(aj,some v0),(ae,some v1),(au,some v2),(aH,some v3),(aX,none),(iS,none),(dy,none),(aL,none),(fK,none)] σ (ends Q)):D r (.fn 1153) [v0,v1,v2,v3] σ Q:=D.fn (d:=mx) hr rfl rfl h
theorem lW{v0 v1 v2 v3 v4 v5:MV}(hr:ai 2 r=true)(h:wB (X 2) fA [(aj,some v0),(ae,some v1),(au,some v2),(aH,some v3),(aG,some v4),(f6,some v5)] σ (ends Q)):D r (.fn 1160) [v0,v1,v2,v3,v4,v5] σ Q:=D.fn (d:=iI) hr rfl rfl h
theorem FK{v0 v1:MV}(hr:ai 0 r=true)(h:wB (X 0) xl [(di,some v0),(bE,some v1)] σ (ends Q)):D r (.fn 1174) [v0,v1] σ Q:=D.fn (d:=C2) hr rfl rfl h
theorem AY{v0 v1:MV}(hr:ai 2 r=true)(h:wB (X 2) qu [(di,some v0),(ae,some v1),(au,none)] σ (ends Q)):D r (.fn 1181) [v0,v1] σ Q:=D.fn (d:=wz) hr rfl rfl h
theorem DZ{v0 v1:MV}(hr:ai 4 r=true)(h:wB (X 4) ui [(ae,some v0),(fj,some v1),(bG,none),(aT,none),(aH,none),(aI,none)] σ (ends Q)):D r (.fn 1186) [v0,v1] σ Q:=D.fn (d:=AF) hr rfl rfl h
theorem AZ{v0 v1 v2:MV}(hr:ai 13 r=true)(h:wB (X 13) qw [(di,some v0),(ae,some v1),(x_fresh,some v2),(zR,none),(au,none),(aH,none),(ba,none)] σ (ends Q)):D r (.fn 1191) [v0,v1,v2] σ Q:=D.fn (d:=wD) hr rfl rfl h
theorem Cn{v0 v1 v2:MV}(hr:ai 16 r=true)(h:wB (X 16) rN [(ae,some v0),(fj,some v1),(bE,some v2),(fO,none),(bG,none),(eF,none),(bF,none),(mG,none)] σ (ends Q)):D r (.fn 1198) [v0,v1,v2] σ Q:=D.fn (d:=yu) hr rfl rfl h
theorem UD{v0:MV}(hr:ai 17 r=true)(h:wB (X 17) fw [(vp,some v0),(di,none),(ae,none),(aG,none),(au,none),(aH,none),(fj,none),(gZ,none),(jT,none),(fO,none),(mG,none),(jU,none),(bE,none),(J4,none),(pJ,none)] σ (ends Q)):D r (.fn 1203) [v0] σ Q:=D.fn (d:=YV) hr rfl rfl h
end
noncomputable def sb(a b:Str):Bool:=a9 (no a) (no b)
theorem Sr{a b:Str}(h:sb a b=true):a=b:=Nb (bR h)
noncomputable def E'(a:Nat):Bool:=a9 a 1080||(a9 a 1087||a9 a 1094)
noncomputable def tabs:List (Addr×Str):=[(1080,"put.<locals>.<lambda>"),(1087,"put_all.<locals>.<lambda>"),(1094,"remove.<locals>.<lambda>")]
noncomputable def LZ(g:aR):aR:=λa=>bif E' a then none else g a
noncomputable def cL:List Addr:=[38,316,463,498,540,608,714,733,754,985,1123,1163]
noncomputable def iL:List (Nat×Nat):=[(316,238),(463,390),(540,516),(608,556),(714,627),(733,730),(754,751),(985,940),(1123,1120),(1163,1141)]
noncomputable def a3c:List Addr:=cL++([37,315,462,497,539,607,713,732,753,984,1122,1162,1084,1091,1098]++(iL.map (·.2)++mI.flatMap λp=>p.2.map (·.2)))
noncomputable def Kof(T:aR)(l:List Addr):Frag:=l.filterMap λa=>(T a).map (a,·)
noncomputable abbrev Kg(g:aR):Frag:=Kof (LZ g) a3c
theorem JF{T:aR}{a:Addr}{o:Obj}:∀{l:List Addr},(Kof T l).lookup a=some o→T a=some o
 |[],h=>ar h rfl
 |b::r,h=>by
  unfold Kof at h;induction e:T b with
  |none=>rw[dB (by rw[e];rfl)]at h;exact JF h
  |some o'=>
   rw[cV (b:=(b,o')) (by rw[e];rfl),Di]at h
   induction q:a==b with
   |true=>rw[q]at h;rw[beq_iff_eq.mp q,e];exact h
   |false=>rw[q]at h;exact JF h
noncomputable def YS:Data→Option FuncData
 |.func fd=>some fd
 |_=>none
noncomputable def O1:Data→Option (List Value)
 |.fields vs=>some vs.toList
 |_=>none
noncomputable def YT:Data→Option (List DictEntry)
 |.dict es _=>some es.toList
 |_=>none
noncomputable def a2N:Data→Option (List Value)
 |.seq vs _=>some vs.toList
 |_=>none
noncomputable def SO:Data→Bool
 |.plain=>true
 |_=>false
noncomputable def PN:Value→Option Addr
 |.ref a=>some a
 |_=>none
noncomputable def Gz:Value→Option Str
 |.str s _=>some s
 |_=>none
noncomputable def a2B:Value→Tok
 |.int _ t=>t
 |.str _ t=>t
 |_=>default
theorem z7{v:Value}{a:Addr}(h:PN v=some a):v=.ref a:=by cases v<;>first|exact ar h rfl|exact congrArg _ (aA h)
theorem ID{v:Value}{s:Str}(h:Gz v=some s):∃t,v=.str s t:=by cases v<;>first|exact ar h rfl|exact⟨_,congrArg (Value.str · _) (aA h)⟩
theorem Ue{d:Data}{fd:FuncData}(h:YS d=some fd):d=.func fd:=by cases d<;>first|exact ar h rfl|exact congrArg _ (aA h)
theorem NC{d:Data}{vs:List Value}(h:O1 d=some vs):d=.fields vs.toArray:=by cases d<;>first|exact ar h rfl|exact congrArg (λv:List Value=>Data.fields v.toArray) (aA h)
theorem Lq{d:Data}{es:List DictEntry}(h:YT d=some es):∃n,d=.dict es.toArray n:=by cases d<;>first|exact ar h rfl|exact⟨_,congrArg (λv:List DictEntry=>Data.dict v.toArray _) (aA h)⟩
theorem V5{d:Data}{vs:List Value}(h:a2N d=some vs):∃n,d=.seq vs.toArray n:=by cases d<;>first|exact ar h rfl|exact⟨_,congrArg (λv:List Value=>Data.seq v.toArray _) (aA h)⟩
theorem PQ{d:Data}(h:SO d=true):d=.plain:=by cases d<;>first|rfl|exact absurd h aq
theorem bind_eq{α β:Type}{o:Option α}{f:α→Option β}{y:β}(h:o.bind f=some y):∃x,o=some x∧f x=some y:=dG.mp h
noncomputable def fnOf(T:aR)(a:Addr):Option FuncData:=(T a).bind λo=>YS o.data
noncomputable def a4a(T:aR)(a:Addr):Option (List Value):=(T a).bind λo=>O1 o.data
noncomputable def WE(T:aR)(a:Addr):Option (List DictEntry):=(T a).bind λo=>YT o.data
noncomputable def RU(T:aR)(a:Addr):Option (List Value):=(T a).bind λo=>bif o.cls==.type "tuple"then a2N o.data else none
noncomputable abbrev dictAt(T:aR)(a:Addr):List DictEntry:=(WE T a).getD []
noncomputable abbrev isF(T:aR)(a:Addr):Bool:=(fnOf T a).isSome
theorem O0{T:aR}{a:Addr}{fd:FuncData}(h:fnOf T a=some fd):∃o,T a=some o∧o.data=.func fd:=(bind_eq h).imp λ_ e=>⟨e.1,Ue e.2⟩
theorem Nq{T:aR}{a:Addr}(h:isF T a=true):FnAt T a:=(jS.mp h).elim λfd e=>(O0 e).imp λ_ e=>⟨fd,e⟩
theorem Kd{T:aR}{a:Addr}{vs:List Value}(h:RU T a=some vs):TupAt T a vs:=(bind_eq h).elim λo e=>by
 induction q:o.cls==.type "tuple"with
 |true=>rw[q]at e;exact(V5 e.2).elim λn z=>⟨o,n,e.1,beq_iff_eq.mp q,z⟩
 |false=>rw[q]at e;exact ar e.2 rfl
noncomputable def kNo(e:DictEntry):Nat:=(Gz e.key).elim 0 no
noncomputable def vf(T:aR)(m:MV)(v:Value):Bool:=match m with
 |.none=>v==.none
 |.bool b=>v==.bool b
 |.int i=>v==.int i (a2B v)
 |.str s=>v==.str s (a2B v)
 |.fn a=>v==.ref a&&isF T a
 |.cls a=>v==.ref a
 |.bi s=>v==.builtin s&&(withoutEnding? s "#data").isNone
 |.ty s=>v==.type s
 |_=>false
noncomputable def vfL(T:aR):List MV→List Value→Bool
 |[],vs=>vs.isEmpty
 |m::l,vs=>vs.head?.any (vf T m)&&vfL T l vs.tail
noncomputable def vb(T:aR)(m:MV)(v:Value):Bool:=vf T m v||(match m with
 |.tup l=>(PN v).any λa=>(RU T a).any (vfL T l)
 |_=>false)
theorem iJ{a b:Bool}(h:(a&&b)=true):a=true∧b=true:=ao.mp h
theorem km{α:Type}{o:Option α}{p:α→Bool}(h:o.any p=true):∃x,o=some x∧p x=true:=(Option.any_eq_true _ _).mp h
theorem RP{T:aR}{m:MV}{v:Value}(h:vf T m v=true):VR T m v:=by
 induction m using MV.casesOn with
 |none=>exact beq_iff_eq.mp h
 |bool b=>exact beq_iff_eq.mp h
 |int i=>exact⟨_,beq_iff_eq.mp h⟩
 |str s=>exact⟨_,beq_iff_eq.mp h⟩
 |fn a=>exact(iJ h).imp beq_iff_eq.mp Nq
 |cls a=>exact beq_iff_eq.mp h
 |bi s=>exact(iJ h).imp_left beq_iff_eq.mp
 |ty s=>exact beq_iff_eq.mp h
 |_=>exact absurd h aq
theorem ME{T:aR}:∀{l:List MV}{vs:List Value},vfL T l vs=true→eQ T l vs
 |[],_,h=>cj.mp h
 |m::l,vs,h=>(km (iJ h).1).elim λv e=>⟨v,vs.tail,(List.head?_eq_some_iff.mp e.1).elim λ_ z=>by rw[z];rfl,RP e.2,ME (iJ h).2⟩
theorem a2y{T:aR}{m:MV}{v:Value}(h:vb T m v=true):VR T m v:=(bK.mp h).elim RP λh=>by
 induction m using MV.casesOn with
 |tup l=>exact(km h).elim λa e=>(km e.2).elim λvs k=>⟨a,vs,z7 e.1,Kd k.1,ME k.2⟩
 |_=>exact absurd h aq
noncomputable def dec:Nat→Nat→List Nat
 |0,_=>[]
 |n+1,k=>bif a9 k 0 then[]else(Nat.sub (Nat.mod k 128) 1)::dec n (Rj k 128)
noncomputable def Xy(k:Nat):Str:=⟨(dec 64 (Rj k 2)).toArray⟩
noncomputable def isNs(T:aR)(a:Addr):Bool:=(WE T a).any λes=>es.all λe=>(Gz e.key).isSome
noncomputable def O2(T:aR)(e:DictEntry):Bool:=(zc gI (kNo e)).all λv=>vb T v e.val
noncomputable def Yz(K:Frag)(f:Addr):Bool:=typeIn K (.ref f)==some (.type "function")
noncomputable def yk(es:List DictEntry)(x:Str):Option Value:=(es.find? λe=>e.key.isStr x).map (·.val)
noncomputable def a3I(T:aR)(b:Addr):Bool:=!(a9 b builtinsNs||(a9 b mainGlobals||E' b))&&(T b).any λo=>o.cls==.type "module"&&(o.dict==some builtinsNs&&SO o.data)
noncomputable def a3e(T:aR)(K:Frag)(C:Addr)(p:Nat×Addr):Bool:=
 a9 (no (Xy p.1)) p.1&&(findIn K (.ref C) (Xy p.1)==some (some (.ref p.2))&&(Yz K p.2&&((Cb C).all (λx=>!sb (Xy p.1) x)&&isF T p.2)))
noncomputable def a3J(T:aR)(K:Frag)(p:Nat×Nat):Bool:=
 makesIn K p.1&&(findIn K (.ref p.1) "__init__"==some (some (.ref p.2))&&(Yz K p.2&&(O7 K p.1&&(isF T p.2&&keepIn K (.ref p.1)))))
noncomputable def O6(T:aR)(cd:Value)(q:Str):Bool:=(PN cd).any λc=>(a4a T c).any λvs=>vs[1]?.any λv=>(Gz v).any λq'=>sb q' q
noncomputable def dfB(T:aR)(dn:List MV)(df:Value):Bool:=(df==.none&&dn.isEmpty)||(PN df).any λP=>(RU T P).any (vfL T dn)
noncomputable def a3u(K:Frag)(code:Value)(q:Str):Bool:=(PN code).any λcd=>tabs.any λt=>codeHdIn K cd t.1&&sb t.2 q
noncomputable def paB(a:Arguments):Bool:=a.posonlyargs.isEmpty&&(a.vararg.isNone&&(a.kwonlyargs.isEmpty&&(a.kw_defaults.isEmpty&&a.kwarg.isNone)))
noncomputable def fdB(T:aR)(K:Frag)(d:dK)(fd:FuncData):Bool:=
 decide (fd.scope.kind=.function)&&(!fd.scope.isCoroutine&&(!fd.scope.isGenerator&&(fd.closure.isEmpty&&(a9 fd.globals mainGlobals&&(a9 fd.builtins builtinsNs&&(paB fd.params&&(O6 T fd.code fd.qualname&&(dfB T d.dn fd.defaults&&
  (!d.fz||a3u K fd.code (fd.qualname++".<locals>."++"<lambda>"))))))))))
noncomputable def fnB(T:aR)(K:Frag)(a:Addr)(d:dK):Bool:=(fnOf T a).any (fdB T K d)
noncomputable def MM:FuncBody→Option (List Stmt)
 |.stmts b=>some b
 |_=>none
theorem PB{x:FuncBody}{b:List Stmt}(h:MM x=some b):x=.stmts b:=by cases x<;>first|exact ar h rfl|exact congrArg _ (aA h)
noncomputable def fnN(T:aR)(a:Addr)(ns:aK):Option (aK×(List Str×N)):=(fnOf T a).bind λfd=>(MM fd.body).map λb=>(fd.scope.names,(fd.params.args.map (·.arg),nB ns b))
noncomputable def a1v(T:aR)(K:Frag):List Bool:=[
 (WE T sysModules).isSome,
 isNs T cStatics,
 ((dictAt T cStatics).all λe=>!e.key.isStr "sys.recursionlimit"),
 isNs T mainGlobals,
 isNs T builtinsNs,
 (dictAt T mainGlobals).all (O2 T),
 (dictAt T builtinsNs).all (O2 T),
 (gI.all λp=>(dictAt T mainGlobals).any (λe=>a9 (kNo e) p.1)||(dictAt T builtinsNs).any λe=>a9 (kNo e) p.1),
 (cL.all λC=>va (Cb C).length 1000&&(Cb C).all λx=>findIn K (.ref C) x==some none),
 (mI.all λp=>p.2.all (a3e T K p.1)),
 iL.all (a3J T K),
 (fnI.all λp=>p.2.all λq=>fnB T K q.1 q.2),
 ((yk (dictAt T mainGlobals) "__builtins__").bind PN).any (a3I T),
 (yk (dictAt T mainGlobals) "law").any (vf T (.fn 1203)),
 (tabs.zipWith (λt c=>codeHdIn K c t.1) [1084,1091,1098]==[true,true,true])]
noncomputable def Lz(T:aR)(K:Frag):Prop:=(a1v T K).all id=true
theorem Lz.at{T:aR}{K:Frag}(X:Lz T K)(i:Nat){b:Bool}(e:(a1v T K)[i]?=some b):b=true:=dC.mp X b (List.mem_of_getElem? e)
noncomputable def a4k(g:aR):Bool:=(a1v (LZ g) (Kg g)).all id
noncomputable def Nd(g:aR):List (List (Option (aK×(List Str×N)))):=fnI.map λp=>p.2.map λq=>fnN (LZ g) q.1 q.2.ns
noncomputable def namesW:List (List (Option (aK×(List Str×N)))):=fnI.map λp=>p.2.map λq=>some (q.2.ns,(q.2.ps,q.2.b))
noncomputable def Kk(g:aR):List (Option Obj):=tabs.map λt=>g t.1
noncomputable def Kj:List (Option Obj):=tabs.map λ_=>some (tabObj #[])
theorem ny{α:Type}{k:Nat}{v:α}:∀{l:List (Nat×α)},zc l k=some v→(k,v)∈l
 |[],h=>ar h rfl
 |p::r,h=>by
  have h:(bif a9 k p.1 then some p.2 else zc r k)=some v:=h;induction e:a9 k p.1 with
  |true=>rw[e]at h;rw[bR e,←aA h];exact .head _
  |false=>rw[e]at h;exact .tail _ (ny h)
theorem ku{α:Type}{p:α→Bool}{l:List α}(h:l.all p=true)(a:α)(m:a∈l):p a=true:=dC.mp h a m
section
variable{T:aR}{a:Addr}
theorem strKeys{es:List DictEntry}(h:(es.all λe=>(Gz e.key).isSome)=true):StrKeys es.toArray:=λx m=>
 (jS.mp (ku h x (Rk.mp m))).elim λn e=>⟨n,ID e⟩
theorem Ak(h:isNs T a=true):∃o n,T a=some o∧o.data=.dict (dictAt T a).toArray n∧StrKeys (dictAt T a).toArray:=(km h).elim λes e=>(bind_eq e.1).elim λo z=>(Lq z.2).elim λn q=>by
 rw[show dictAt T a=es by unfold dictAt;rw[e.1];rfl]
 exact⟨o,n,z.1,q,strKeys e.2⟩
theorem nj(es:List DictEntry)(x:Str):nsFind es.toArray x=yk es x:=by
 unfold nsFind findBy yk;rw[←N4]
theorem Qf{e:DictEntry}{x:Str}(h:e.key.isStr x=true):Gz e.key=some x:=by
 cases q:e.key<;>rw[q]at h<;>first|exact absurd h aq|exact congrArg some (beq_iff_eq.mp h)
theorem isStr_of{v:Value}{x:Str}(h:Gz v=some x):v.isStr x=true:=(ID h).elim λt e=>by rw[e];exact beq_iff_eq.mpr rfl
theorem Lj{es:List DictEntry}{x:Str}{u:Value}(h:yk es x=some u):∃e∈es,e.val=u∧Gz e.key=some x:=
 (bZ.mp h).imp λe q=>⟨List.mem_of_find?_eq_some q.1,q.2,Qf (List.find?_some (p:=λe:DictEntry=>e.key.isStr x) q.1)⟩
theorem Ur{es:List DictEntry}{x:Str}{e:DictEntry}(m:e∈es)(h:Gz e.key=some x):∃u,yk es x=some u:=by
 unfold yk;induction q:es.find? λe=>e.key.isStr x with
 |some e'=>exact⟨_,rfl⟩
 |none=>exact absurd (isStr_of h) (List.find?_eq_none.mp q e m)
theorem a05{e:DictEntry}{x:Str}(k:∃n t,e.key=.str n t)(h:a9 (kNo e) (no x)=true):Gz e.key=some x:=k.elim λn z=>z.elim λt q=>by
 have h:=bR h;unfold kNo at h;rw[q]at h⊢;exact congrArg some (Nb h)
theorem Uq{es:List DictEntry}{x:Str}{u:Value}{v:MV}(h:es.all (O2 T)=true)(f:yk es x=some u)(g:Uc x=some v):VR T v u:=(Lj f).elim λe m=>by
 have q:=ku h e m.1;unfold O2 kNo at q;rw[m.2.2]at q;have q:(Uc x).all (λv=>vb T v e.val)=true:=q;rw[g,m.2.1]at q;exact a2y q
theorem Pk{es:List DictEntry}{x:Str}(k:StrKeys es.toArray)(h:(es.any λe=>a9 (kNo e) (no x))=true):∃u,yk es x=some u:=(Rm.mp h).elim λe m=>Ur m.1 (a05 (k e (Rk.mpr m.1)) m.2)
end
theorem YZ{C:Addr}{x:Str}(h:x∈Cb C):C∈cL:=by
 unfold Cb at h;generalize hl:zc _ C=o at h;induction o with
 |none=>cases h
 |some l=>exact pB (f:=(·.1)) (ny hl)
theorem R4:∀q∈tabs,∀t∈tabs,q.1=t.1→q.2=t.2:=by
 unfold tabs;decide+kernel
theorem MG:∀q∈tabs,E' q.1=true:=by
 unfold tabs;decide+kernel
theorem QE{T:aR}{cd:Value}{q:Str}(h:O6 T cd q=true):oH T cd q:=
 (km h).elim λc e=>(km e.2).elim λvs k=>(km k.2).elim λv m=>(km m.2).elim λq' n=>(ID n.1).elim λt r=>(bind_eq k.1).elim λo z=>
  ⟨c,o,_,t,z7 e.1,z.1,NC z.2,(L9 ..).trans (m.1.trans (by rw[r,Sr n.2]))⟩
theorem a0f{p:Arguments}(h:paB p=true):p=⟨[],p.args,none,[],[],none,p.defaults⟩:=by
 have h1:=iJ h;have h2:=iJ h1.2;have h3:=iJ h2.2;have h4:=iJ h3.2;cases p
 congr
 ·exact cj.mp h1.1
 ·exact eO.mp h2.1
 ·exact cj.mp h3.1
 ·exact cj.mp h4.1
 ·exact eO.mp h4.2
theorem a4g{T:aR}{dn:List MV}{df:Value}(h:dfB T dn df=true):(dn=[]∧df=.none)∨∃P items,df=.ref P∧TupAt T P items∧eQ T dn items:=
 (bK.mp h).imp (λh=>⟨cj.mp (iJ h).2,beq_iff_eq.mp (iJ h).1⟩) λh=>(km h).imp λP e=>(km e.2).imp λvs k=>⟨z7 e.1,Kd k.1,ME k.2⟩
theorem Uj:fnI.all (λp=>p.2.all λq=>a39 q.2)=true:=by kernel_rfl
theorem Xk{a:Addr}{d:dK}(h:fnT a=some d):∃p∈fnI,(a,d)∈p.2:=(bind_eq h).elim λ_ e=>⟨_,ny e.1,ny e.2⟩
section
variable{g:aR}{w:World}{os:OsState}
noncomputable abbrev GG(g:aR)(w:World)(os:OsState):GC:=⟨w,LZ g,os,tabs,Kg g⟩
theorem Y4{h:Heap}(k:(LZ g).le h.get?):(Kg g).In h:=λa o e=>k a o (JF e)
theorem a0U{cd:Value}{q:Str}(X:Lz (LZ g) (Kg g))(h:a3u (Kg g) cd q=true):Pm (GG g w os) cd q:=(km h).elim λc e=>(Rm.mp e.2).elim λt m=>by
 have z:=iJ m.2;have y:=Sr z.2;refine⟨c,t.1,z7 e.1,⟨rwr y m.1,λq' m' e'=>(R4 q' m' t m.1 e').trans y⟩,λh k=>⟨codeHd_of_K (Y4 k) z.1,?_⟩⟩;refine(Ak (X.at 3 rfl)).elim λo ns=>ns.elim λn ns=>⟨_,⟨o,_,n,k _ _ ns.1,ns.2.1,ns.2.2,λ_=>rfl⟩,?_⟩;refine(km (X.at 12 rfl)).elim λb f=>(bind_eq f.1).elim λv f1=>(km (iJ f.2).2).elim λob r=>?_;have n1:=Mp.mp ((bu _).mp (iJ f.2).1);have n2:=Mp.mp n1.2;have r1:=iJ r.2;have r2:=iJ r1.2;have ne:∀{x y:Nat},a9 x y=false→x≠y:=λe q=>lZ e q;exact⟨b,ob,(nj _ _).trans (f1.1.trans (congrArg some (z7 f1.2))),ne n1.1,ne n2.1,λq=>aq (n2.2.symm.trans (rwl q (MG t m.1))),k _ _ r.1,beq_iff_eq.mp r1.1,beq_iff_eq.mp r2.1,PQ r2.2⟩
theorem a1m(X:Lz (LZ g) (Kg g)):Y6 (GG g w os)where
 kin:=λa o e=>JF e
 a2K:=λe=>aq (by have:=X.at 0 rfl;unfold WE at this;rw[show LZ g sysModules=none from e]at this;exact this)
 S5:=(Ak (X.at 1 rfl)).elim λo ns=>ns.elim λn ns=>⟨o,_,n,ns.1,ns.2.1,ns.2.2,(nj _ _).trans (gS (p:=True) λu f=>(Lj f).elim λe m=>by
  have q:=ku (X.at 2 rfl) e m.1;rw[isStr_of m.2.2]at q;exact absurd q aq)⟩
 Ua:=(Ak (X.at 3 rfl)).elim λo ns=>ns.elim λn ns=>(Ak (X.at 4 rfl)).elim λo' Q4=>Q4.elim λn' Q4=>⟨o,_,n,ns.1,ns.2.1,ns.2.2,⟨o',_,n',Q4.1,Q4.2.1,Q4.2.2,λx v gv=>by
  rw[nj,nj];induction f:yk (dictAt (LZ g) mainGlobals) x with
  |some u=>exact .inl ⟨u,rfl,Uq (X.at 5 rfl) f gv⟩
  |none=>
   refine .inr ⟨rfl,?_⟩;have m:=ku (X.at 7 rfl) _ (ny gv);exact(bK.mp m).elim (λm=>(Pk ns.2.2 m).elim λu q=>ar q f) λm=>(Pk Q4.2.2 m).imp λu q=>⟨q,Uq (X.at 6 rfl) q gv⟩⟩⟩
 few:=λC=>by
  induction e:Cb C with
  |nil=>exact cy _
  |cons x r=>
   have z:=ku (X.at 8 rfl) C (YZ (x:=x) (by rw[e];exact .head _))
   exact rwr e (bh (iJ z).1)
 fld:=λC x h=>by
  have z:=ku (X.at 8 rfl) C (YZ h);exact beq_iff_eq.mp (ku (iJ z).2 x h)
 mth:=λC m f h=>by
  unfold Tn at h;induction e:zc mI C with
  |none=>rw[e]at h;exact ar h rfl
  |some l=>
   rw[e]at h;have k:=ku (X.at 9 rfl) _ (ny e);have k:=iJ (ku k _ (ny h));have k2:=iJ k.2;have k3:=iJ k2.2;have k4:=iJ k3.2;have q:Xy (no m)=m:=Sr k.1;have k1:=k2.1;have k5:=k4.1;dsimp only at k1 k5;rw[q]at k1 k5;refine⟨beq_iff_eq.mp k1,beq_iff_eq.mp k3.1,λz=>?_,Nq k4.2⟩;have k5:=ku k5 _ z;rw[show sb m m=true from a1U _]at k5;exact aq k5
 ini:=λC f h=>by
  have k:=iJ (ku (X.at 10 rfl) _ (ny (l:=iL) h));have k2:=iJ k.2;have k3:=iJ k2.2;have k4:=iJ k3.2;have k5:=iJ k4.2;exact⟨k.1,beq_iff_eq.mp k2.1,beq_iff_eq.mp k3.1,k4.1,Nq k5.1,k5.2⟩
theorem VQ(X:Lz (LZ g) (Kg g))(N:Nd g=namesW):Text (GG g w os)where
 toY6:=a1m X
 fn:=λa d h=>(Xk h).elim λp m=>by
  have N:=Bw.mp (Bw.mp N p m.1) _ m.2;have k:=ku (X.at 11 rfl) p m.1;have k:=ku k _ m.2;refine(km k).elim λfd k=>(O0 k.1).elim λo e=>?_;have N:(MM fd.body).map (λb=>(fd.scope.names,(fd.params.args.map (·.arg),nB d.ns b)))=some (d.ns,(d.ps,d.b)):=by
   unfold fnN at N;rw[k.1]at N;exact N
  refine(bZ.mp N).elim λbody N=>?_;have N2:=fJ N.2;have N3:=fJ N2.2;have k1:=iJ k.2;have k2:=iJ k1.2;have k3:=iJ k2.2;have k4:=iJ k3.2;have k5:=iJ k4.2;have k6:=iJ k5.2;have k7:=iJ k6.2;have k8:=iJ k7.2;have k9:=iJ k8.2;exact .mk o fd body _ _ e.1 e.2 (PB N.1) N3.2 N2.1 (of_decide_eq_true k1.1) ((bu _).mp k2.1) ((bu _).mp k3.1) (cj.mp k4.1) (bR k5.1) (bR k6.1) (a0f k7.1) N3.1 (QE k8.1) (a4g k9.1)
   (λz=>a0U X ((bK.mp k9.2).elim (λq=>absurd (((bu _).mp q).symm.trans z) aq) id)) (ku (ku Uj p m.1) _ m.2)
end
end Mine.Internal
set_option maxRecDepth 100000
namespace Mine.Internal
open PySem PySem.W PySem.W.Fast PyProof.Rows
noncomputable def goT(f:SharedT→Thread→Option (SharedT×Thread))(ok:Thread→Bool)(n:Nat):SharedT→Thread→Option SharedT:=
 Nat.rec (motive:=λ_=>SharedT→Thread→Option SharedT) (λ_ _=>none) (λ_ ih s t=>match through t with
  |true=>some s
  |false=>match ok t with
   |false=>none
   |true=>match f s t with
    |some x=>ih x.1 x.2
    |none=>none) n
theorem T9{tb:String→Option Builtin}{p:Program}{w:World}{S1:Nat}{ann:Option Value}:∀{n:Nat}{s s':SharedT}{t:Thread},
  goT (stepT (denote tb) p w) (stepOk S1 ann) n s t=some s'→topRun tb p w S1 ann n s.abs t=some s'.abs
 |0,_,_,_,h=>by cases h
 |n+1,s,s',t,h=>by
  unfold topRun;have h:(match through t with
   |true=>some s
   |false=>match stepOk S1 ann t with
    |false=>none
    |true=>match stepT (denote tb) p w s t with
     |some x=>goT (stepT (denote tb) p w) (stepOk S1 ann) n x.1 x.2
     |none=>none)=some s':=h
  cases ht:through t with
  |true=>rw[ht]at h;cases h;rfl
  |false=>
   rw[ht]at h;cases hk:stepOk S1 ann t with
   |false=>rw[hk]at h;cases h
   |true=>
    rw[hk]at h;cases hs:stepT (denote tb) p w s t with
    |none=>rw[hs]at h;cases h
    |some r=>obtain⟨a4W,a5Y⟩:=r;rw[hs]at h;rw[stepT_spec hs];exact T9 h
noncomputable def a4p(P:Params):BT:=[boot_o_0,boot_o_1,boot_o_2,boot_o_3,boot_o_4,boot_o_5,boot_o_6,boot_o_7,boot_o_8,boot_o_9,boot_o_10].zipIdx.foldl (λt x=>t.ins x.2 (x.1 P)) .nil
noncomputable def S0(w:World)(os:OsState):SharedT:=⟨a4p w.params,11,{},#[],boot_drawn,boot_toks,os⟩
theorem a1K(w:World)(os:OsState):(S0 w os).abs=⟨boot_heap w.params,#[],boot_drawn,boot_toks,os⟩:=by kernel_rfl
noncomputable def ann:Option Value:=some (.ref 6)
noncomputable def ZX(w:World)(os:OsState):Option SharedT:=goT (tw10156331382660048174 (tw11892475500146522536 tw14364793385576792824) pw w) (tw6613529449190102663 11 ann) 8000 (S0 w os) (topStub pw)
end Mine.Internal
set_option maxRecDepth 100000
namespace Mine.Internal
open PySem PySem.W PySem.W.Fast PyProof.Rows
noncomputable def S8:Str:="law"
noncomputable def qv:Program:={pw with main:={pw.main with body:=pw.main.body.drop 115}}
noncomputable def lo:List Str:=pw.boundNames.filter λn=>!(n==S8)
noncomputable def tests(P:Params)(s:Shared):Bool:=staticsOk (importedModules pw.main.body) (boot_heap P) s.heap&&namesBound pw s.heap&&gensDone s&&laidKept (boot_heap P) s.heap
noncomputable def R3(t:BT)(n:Nat)(a:Nat):Option Obj:=match ai a n with
 |true=>(match t.get a with|some o=>alive o|none=>none)
 |false=>none
theorem MF{S:SharedT}{a:Nat}{o:Obj}(h:R3 S.tree S.n a=some o):S.abs.heap.get? a=some o:=by
 unfold R3 at h;cases e:ai a S.n with
 |false=>rw[e]at h;cases h
 |true=>
  rw[e]at h;cases g:S.tree.get a with
  |none=>rw[g]at h;cases h
  |some o'=>rw[g]at h;exact(abs_get (bh e) g).trans h
theorem a2U(w:World)(os:OsState):(ZX w os).map (λS=>(tests w.params S.abs,tw4187177175401517315 qv lo (importedModules pw.main.body) (λ_=>true) true S.abs))=some (true,openGood qv lo):=by kernel_rfl
theorem a2T(w:World)(os:OsState):(ZX w os).map (λS=>(a4k (R3 S.tree S.n),(Nd (R3 S.tree S.n),Kk (R3 S.tree S.n))))=some (true,(namesW,Kj)):=by kernel_rfl
theorem XQ(P:Params):((boot_heap P).isNs mainGlobals,(boot_heap P).objs.size,(boot_heap P).nsMap mainGlobals "__annotations__")=(true,11,ann):=by kernel_rfl
theorem Wa(w:World)(os:OsState):ZX w os=goT (stepT (denote treeTable) pw w) (stepOk 11 ann) 8000 (S0 w os) (topStub pw):=by
 rw[te10156331382660048174,te11892475500146522536,te14364793385576792824,te6613529449190102663];rfl
noncomputable def JB(h:Heap):Prop:=∃g:aR,a4k g=true∧Nd g=namesW∧Kk g=Kj∧g.le h.get?
theorem Sv(w:World)(os:OsState):∃s,topRun treeTable pw w 11 ann 8000 ⟨boot_heap w.params,#[],boot_drawn,boot_toks,os⟩ (topStub pw)=some s∧tests w.params s=true∧
  openSeen qv lo (importedModules pw.main.body) (λ_=>true) true s=openGood qv lo∧JB s.heap:=by
 obtain⟨S,e,h⟩:=bZ.mp (a2U w os);obtain⟨S',e',h'⟩:=bZ.mp (a2T w os);induction aA (e.symm.trans e');obtain⟨h1,h2⟩:=fJ h;obtain⟨h3,hn⟩:=fJ h';obtain⟨hn,ht⟩:=fJ hn;have r:=T9 ((Wa w os).symm.trans e);rw[a1K]at r;exact⟨S.abs,r,h1,by rw[te4187177175401517315];exact h2,_,h3,hn,ht,λ_ _=>MF⟩
end Mine.Internal
set_option maxRecDepth 100000
namespace Mine.Internal
open PySem PySem.W PySem.W.Fast PyProof.Rows
theorem SS{α β:Type}{x:Option α}{f:α→Option β}{v:α}{u:β}(h:x=some v)(k:f v=some u):x.bind f=some u:=by rw[h];exact k
theorem Wq{α β:Type}{x:Option α}{f:α→β}{v:α}{u:β}(h:x=some v)(k:f v=u):x.map f=some u:=by rw[h];exact congrArg some k
theorem op1:opening pw=plainProg pw.main.scope.names:=by kernel_rfl
theorem op2(s:Shared):fenceModules? pw s=some s:=by kernel_rfl
theorem op3(w:World):(fencedOpening treeTable pw w 8000).map (λs=>(s.heap,s.gens,s.drawn,s.toks))=some (boot_heap w.params,Array.mk [],boot_drawn,boot_toks):=boot_open (p:=pw) (N:=8000) op1 (by kernel_rfl) op2 w
theorem a4T(w:World)(os:OsState):∃s,topFrom treeTable pw w 8000 ⟨boot_heap w.params,#[],boot_drawn,boot_toks,os⟩=some s∧
  openSeen qv lo (importedModules pw.main.body) (λ_=>true) true s=openGood qv lo∧JB s.heap:=by
 obtain⟨s,r,h1,h2,h3⟩:=Sv w os;obtain⟨b1,b2⟩:=fJ (XQ w.params);obtain⟨b2,b3⟩:=fJ b2;refine⟨s,?_,h2,h3⟩;unfold topFrom;dsimp only;rw[b1,b2,b3,r];unfold tests at h1;dsimp only[Option.bind];rw[h1];rfl
open Classical in
theorem left:LeftO pw qv lo (λ_=>true) (λs=>(decide (JB s.heap))) (λ_=>true) 8000:=by
 intro w;obtain⟨⟨h,gs,d,k,os⟩,e,e'⟩:=bZ.mp (op3 w);obtain⟨rfl,e'⟩:=fJ e';obtain⟨rfl,e'⟩:=fJ e';obtain⟨rfl,rfl⟩:=fJ e';obtain⟨s,t,h2,h3⟩:=a4T w os;exact Wq (SS e t) (lQ h2 (decide_eq_true h3))
noncomputable abbrev Q3:OpenLaw:=XZ
theorem XS{a b:Bool}(h:a=true)(k:b=true):(a&&b)=true:=ao.mpr ⟨h,k⟩
set_option maxHeartbeats 0 in
theorem a4Z:Q3.wellSaid=true:=by
 rewrite[te9446332074065402090];unfold tw9446332074065402090
 iterate 18 with_reducible refine XS ?_ ?_
 unfold tw17960256430627541270
 iterate 2 with_reducible refine XS ?_ ?_
 unfold tw2436336058641802641
 iterate 13 with_reducible refine XS ?_ ?_
 unfold tw12908688711261696721
 iterate 5 with_reducible refine XS ?_ ?_
 all_goals as_aux_lemma=>kernel_rfl
end Mine.Internal
set_option maxRecDepth 100000
namespace Mine.Internal
open PySem PySem.W PySem.W.Fast PyProof.Rows
theorem JB.up{h h':Heap}(x:JB h)(k:∀b o,h.get? b=some o→h'.get? b=some o):JB h':=let⟨g,a,n,t,b⟩:=x;⟨g,a,n,t,λc o e=>k c o (b c o e)⟩
noncomputable def BF:OpenRow:=Q3.row
theorem O4:(defOf qv S8).isSome=true:=by kernel_rfl
noncomputable def dk:DefRec×List (Str×Expr):=(defOf qv S8).get O4
theorem a3Z:defOf qv S8=some (dk.1,dk.2):=(Option.some_get O4).symm
theorem hp:BF.prog.theDef BF.name=some (dk.1.params,dk.1.body,dk.1.scope):=by kernel_rfl
theorem hk:kwWritten? dk.1.params.kwonlyargs dk.1.params.kw_defaults=some dk.2:=by kernel_rfl
theorem hok:(chainsOk qv&&opensWell BF.prog&&(frees BF.toRowW&&BF.within.isEmpty))=true:=by kernel_rfl
theorem Vb:BF.prog.tablesWhole=true:=by kernel_rfl
theorem hb:BF.prog.bare:=⟨rfl,rfl,rfl,rfl,rfl,Vb⟩
theorem hw:BF.toRowW.promised:=⟨[.list []],by kernel_rfl,by kernel_rfl⟩
open Classical in
theorem a0T(call:WalkO qv lo (λ_ _=>True) (λ_ h=>JB h) BF.toRowW dk.1 dk.2 λf vs=>a1Q f vs):Q3.Holds:=
 holds_law a4Z λk1=>holds_open (r:=BF) (q:=qv) (loose:=lo) (Xt:=λ_=>true) (XP:=λ_ _=>True) (YP:=λ_ h=>JB h) (N:=8000) left (λw s e=>of_decide_eq_true e) (λ_ _ _ x k=>x.up k)
  (λ_ _=>trivial) (λ_ _ _ _ _=>trivial) a3Z hp hk (λs _=>recFacts_nil rfl) rfl k1 hok hb hw call
noncomputable def Tf(x:Str):List Str→Bool
 |[]=>false
 |y::r=>sm x y||Tf x r
theorem Te{x:Str}{l:List Str}(h:Tf x l=true):x∈l:=by
 induction l with
 |nil=>exact absurd h aq
 |cons y r ih=>
  exact if e:x=y then rwr e (.head _)else .tail _ (ih (by
   have h:(sm x y||Tf x r)=true:=h;rw[Kx e]at h;exact h))
noncomputable abbrev VK:=MV→Loc→St→Prop
noncomputable abbrev TK:=Bool→Loc→St→Prop
noncomputable abbrev AK:=List MV→Loc→St→Prop
noncomputable abbrev WK:=Way→Loc→St→Prop
noncomputable abbrev LK:=Loc→St→Prop
noncomputable abbrev BK:=Fl→Loc→St→Prop
noncomputable abbrev at_{α:Type}(k:α→Loc→St→Prop)(ρ:Loc):α→St→Prop:=λv σ=>k v ρ σ
noncomputable abbrev nx(k:BK):LK:=λρ σ=>k .next ρ σ
section
variable(X:Ctx)
noncomputable abbrev sq(N:LK)(k:BK):BK:=λfl ρ σ=>match fl with
 |.next=>N ρ σ
 |.ret v=>k (.ret v) ρ σ
noncomputable abbrev sqb(r:N)(k:BK):BK:=λfl ρ σ=>match fl with
 |.next=>wB X r ρ σ k
 |.ret v=>k (.ret v) ρ σ
noncomputable abbrev blk(r:N)(k:BK):LK:=λρ σ=>wB X r ρ σ k
noncomputable def tru(v:MV)(k:TK)(ρ:Loc)(σ:St):Prop:=ze v λb=>k b ρ σ
noncomputable def UN(o:Option Loc)(K:LK)(σ:St):Prop:=∃dq,o=some dq∧K dq σ
noncomputable def ka(op:CmpOp)(u v:MV)(k:TK)(ρ:Loc)(σ:St):Prop:=a0M X op u v σ λr=>k r ρ σ
noncomputable abbrev ZC(v:MV)(m:Str)(σ:St)(Q:Way→St→Prop):Prop:=WT X v m σ λw=>Q w σ
noncomputable abbrev a3K(a:Addr)(Q:bw):bw:=λr av=>r=.none∧Q (.ref a) av
noncomputable abbrev a04(op:Operator)(u:MV)(k:VK):VK:=λv ρ σ=>BY op u v σ (at_ k ρ)
noncomputable abbrev a03(op:Operator)(b:N)(k:VK):VK:=λu ρ σ=>wE X b ρ σ (at_ (a04 op u k) ρ)
noncomputable abbrev a5e(op:UnaryOp)(k:VK):VK:=λu ρ σ=>mUn op u σ (at_ k ρ)
noncomputable abbrev K6(k:TK):VK:=λv ρ σ=>tru v k ρ σ
noncomputable abbrev a3x(k:VK):TK:=λb ρ σ=>k (.bool b) ρ σ
noncomputable abbrev a3z(a b:N)(k:VK):TK:=λc ρ σ=>br c (wE X a ρ σ (at_ k ρ)) (wE X b ρ σ (at_ k ρ))
noncomputable abbrev a3E(ops:List CmpOp)(l:N)(k:TK):VK:=λu ρ σ=>wCh X u ops l ρ σ (at_ k ρ)
noncomputable abbrev a02(op:CmpOp)(u:MV)(k:TK):VK:=λv ρ σ=>ka X op u v k ρ σ
noncomputable abbrev a3D(v:MV)(os:List CmpOp)(r:N)(k:TK):TK:=λb ρ σ=>br b (wCh X v os r ρ σ (at_ k ρ)) (k false ρ σ)
noncomputable abbrev a3C(op:CmpOp)(u:MV)(os:List CmpOp)(r:N)(k:TK):VK:=λv ρ σ=>ka X op u v (a3D X v os r k) ρ σ
noncomputable abbrev Yw(w:Way)(k:VK):AK:=λvs ρ σ=>P6 X w vs σ (at_ k ρ)
noncomputable abbrev k_go(as:N)(k:VK):WK:=λw ρ σ=>wA X as ρ σ (at_ (Yw X w k) ρ)
noncomputable abbrev Yu(k:WK):VK:=λv ρ σ=>k (.val v) ρ σ
noncomputable abbrev Yt(m:Str)(k:WK):VK:=λv ρ σ=>ZC X v m σ (at_ k ρ)
noncomputable abbrev TF(x:Str)(k:VK):VK:=λv ρ σ=>K3 v x σ (at_ k ρ)
noncomputable abbrev a0X(v:MV)(k:VK):VK:=λi ρ σ=>l8 v i σ (at_ k ρ)
noncomputable abbrev k_sub(i:N)(k:VK):VK:=λv ρ σ=>wE X i ρ σ (at_ (a0X v k) ρ)
noncomputable abbrev a3y(i:MV)(k:VK):VK:=λj ρ σ=>k (.MR i j) ρ σ
noncomputable abbrev a5f(hi:N)(k:VK):VK:=λi ρ σ=>wE X hi ρ σ (at_ (a3y i k) ρ)
noncomputable abbrev a00(k:VK):AK:=λvs ρ σ=>vs.length≤lim∧fe vs σ (at_ k ρ)
noncomputable abbrev a3w(k:VK):AK:=λvs ρ σ=>vs.length≤lim∧k (.tup vs) ρ σ
noncomputable abbrev TG(v:MV)(k:AK):AK:=λvs ρ σ=>k (v::vs) ρ σ
noncomputable abbrev a3G(r:N)(k:AK):VK:=λv ρ σ=>wA X r ρ σ (at_ (TG v k) ρ)
noncomputable abbrev a3F(d:Bool)(v:MV)(l:N)(k:VK):TK:=λb ρ σ=>br (fl d b) (wBo X d l ρ σ (at_ k ρ)) (k v ρ σ)
noncomputable abbrev a5j(d:Bool)(l:N)(k:VK):VK:=λv ρ σ=>tru v (a3F X d v l k) ρ σ
noncomputable abbrev k_not(k:TK):TK:=λb ρ σ=>k (!b) ρ σ
noncomputable abbrev a5i(d:Bool)(l:N)(k:TK):TK:=λb ρ σ=>br (fl d b) (wBt X d l ρ σ (at_ k ρ)) (k d ρ σ)
noncomputable abbrev a0W(a b:N)(k:TK):TK:=λc ρ σ=>br c (wT X a ρ σ (at_ k ρ)) (wT X b ρ σ (at_ k ρ))
noncomputable abbrev a0Z(x:Str)(u:MV)(K:LK):VK:=λov ρ σ=>so X ov x u σ (K ρ)
noncomputable abbrev W2(ov u:MV)(K:LK):VK:=λiv ρ σ=>pS ov iv u σ (K ρ)
noncomputable abbrev a0Y(i:N)(u:MV)(K:LK):VK:=λov ρ σ=>wE X i ρ σ (at_ (W2 ov u K) ρ)
noncomputable abbrev Np(k:BK):VK:=λ_ ρ σ=>k .next ρ σ
noncomputable abbrev Yx(t:N)(k:BK):VK:=λv ρ σ=>wAs X t v ρ σ (nx k)
noncomputable abbrev a3A(a b:N)(k:BK):TK:=λc ρ σ=>br c (wB X a ρ σ k) (wB X b ρ σ k)
noncomputable abbrev Yv(k:BK):VK:=λv ρ σ=>k (.ret v) ρ σ
noncomputable abbrev a5d(a:N)(P:LK)(k:BK):TK:=λc ρ σ=>br c (wB X a ρ σ (sq P k)) (k .next ρ σ)
noncomputable def FW(a t:N)(s:Src)(items:List MV)(ρ:Loc)(σ:St)(k:BK):Prop:=Ug (bW (w X a).2) (w X t).1.b s items ρ σ k
noncomputable abbrev stK(s:Src)(R:LK):LK:=λρ σ=>s.oi σ∧R ρ σ
noncomputable abbrev fwK(a t:N)(s:Src)(vs:List MV)(k:BK):LK:=λρ σ=>FW X a t s vs ρ σ k
noncomputable def Xj(a t:N)(o:Option Src)(ρ:Loc)(σ:St)(k:BK):Prop:=∃s,o=some s∧FW X a t s s.all ρ σ k
noncomputable abbrev a3B(a t:N)(k:BK):VK:=λv ρ σ=>Xj X a t (EG v σ) ρ σ k
noncomputable def CW(e t fs:N)(ρ:Loc)(s:Src)(items acc:List MV)(σ:St)(Q:List MV→St→Prop):Prop:=
 turns (λu av K=>∃dq,(w X t).1.b u ρ=some dq∧ifW (w X fs).2 dq av λb b0=>br b ((w X e).1.e dq b0 λr zQ=>K (some r) zQ) (K none b0)) s items acc σ Q
noncomputable abbrev kcl(k:VK)(ρ:Loc):List MV→St→Prop:=λl σ=>fe l σ (at_ k ρ)
noncomputable abbrev a5g(T:Option MV→St→Prop):VK:=λr ρ σ=>T (some r) σ
noncomputable abbrev a5h(e:N)(T:Option MV→St→Prop):TK:=λb ρ σ=>br b (wE X e ρ σ (at_ (a5g T) ρ)) (T none σ)
noncomputable abbrev W3(e fs:N)(T:Option MV→St→Prop):LK:=λρ σ=>ZE X fs ρ σ (at_ (a5h X e T) ρ)
noncomputable def XF(e t fs:N)(dq:Loc)(o:Option Src)(ρ:Loc)(σ:St)(k:VK):Prop:=∃s,o=some s∧CW X e t fs dq s s.all [] σ (kcl k ρ)
noncomputable abbrev a01(e t fs:N)(names:aK)(k:VK):VK:=λv ρ σ=>XF X e t fs (jc names ρ) (EG v σ) ρ σ k
end
section
variable{X:Ctx}{ρ:Loc}{σ:St}
theorem VB{k}(q:k .none ρ σ):wE X (.con .none) ρ σ (at_ k ρ):=q
theorem VE{b k}(q:k (.bool b) ρ σ):wE X (.con (.bool b)) ρ σ (at_ k ρ):=q
theorem Zw{i k}(q:k (.int i) ρ σ):wE X (.con (.int i)) ρ σ (at_ k ρ):=q
theorem MC{s k}(q:k (.str s) ρ σ):wE X (.con (.str s)) ρ σ (at_ k ρ):=q
theorem Km{x v k}(h:cc ρ x=some (some v))(q:k v ρ σ):wE X (.name x) ρ σ (at_ k ρ):=by show nmW X x ρ _;unfold nmW;rw[h];exact q
theorem X6{x v k}(h:cc ρ x=none)(g:X.glob x=some v)(q:k v ρ σ):wE X (.name x) ρ σ (at_ k ρ):=by show nmW X x ρ _;unfold nmW;rw[h];show gv (X.glob x) _;rw[g];exact q
theorem R7{x v k}(h:cc ρ x=some (some v))(q:tru v k ρ σ):wT X (.name x) ρ σ (at_ k ρ):=Km (k:=K6 k) h q
theorem ZM{x v k}(h:cc ρ x=some (some v))(q:k (.val v) ρ σ):wC X (.name x) ρ σ (at_ k ρ):=Km (k:=Yu k) h q
theorem R8{x v k}(h:cc ρ x=none)(g:X.glob x=some v)(q:k (.val v) ρ σ):wC X (.name x) ρ σ (at_ k ρ):=X6 (k:=Yu k) h g q
theorem a2F{x v K}(h:(cc ρ x).isSome=true)(q:K (iH ρ x (some v)) σ):wAs X (.name x) v ρ σ K:=by
 show gv (cc ρ x) _;induction e:cc ρ x with
 |none=>rw[e]at h;exact absurd h aq
 |some ov=>exact q
theorem a2E{l vs K dq}(h:a4q X l vs ρ=some dq)(q:K dq σ):wAs X (.tup l) (.tup vs) ρ σ K:=⟨dq,h,q⟩
theorem ZA{l k}(q:wBo X false l ρ σ (at_ k ρ)):wE X (.bop .And l) ρ σ (at_ k ρ):=q
theorem a2x{l k}(q:wBo X true l ρ σ (at_ k ρ)):wE X (.bop .Or l) ρ σ (at_ k ρ):=q
theorem VH{d e k}(q:wE X e ρ σ (at_ k ρ)):wBo X d (.cons e .nil) ρ σ (at_ k ρ):=q
theorem RL{d e f r k}(q:wE X e ρ σ (at_ (a5j X d (.cons f r) k) ρ)):wBo X d (.cons e (.cons f r)) ρ σ (at_ k ρ):=q
theorem Zz{a op b k}(q:wE X a ρ σ (at_ (a03 X op b k) ρ)):wE X (.bin a op b) ρ σ (at_ k ρ):=q
theorem a2w{op a k}(q:wE X a ρ σ (at_ (a5e op k) ρ)):wE X (.un op a) ρ σ (at_ k ρ):=q
theorem WL{i:Int}{Q}(q:Q (.int (-i)) σ):mUn .USub (.int i) σ Q:=q
theorem WJ{b:Bool}{Q}(q:Q (.bool (!b)) σ):mUn .Not (.bool b) σ Q:=q
theorem Zx{t a b k}(q:wT X t ρ σ (at_ (a3z X a b k) ρ)):wE X (.ife t a b) ρ σ (at_ k ρ):=q
theorem Zy{a ops l k}(q:wE X a ρ σ (at_ (a3E X ops l (a3x k)) ρ)):wE X (.cmp a ops l) ρ σ (at_ k ρ):=q
theorem Iv{u op e k}(q:wE X e ρ σ (at_ (a02 X op u k) ρ)):wCh X u [op] (.cons e .nil) ρ σ (at_ k ρ):=q
theorem VF{u op op2 os e r k}(q:wE X e ρ σ (at_ (a3C X op u (op2::os) r k) ρ)):wCh X u (op::op2::os) (.cons e r) ρ σ (at_ k ρ):=q
theorem Iu{f as k}(q:wC X f ρ σ (at_ (k_go X as k) ρ)):wE X (.call f as) ρ σ (at_ k ρ):=q
theorem N8{o m k}(q:wE X o ρ σ (at_ (Yt X m k) ρ)):wC X (.attr o m) ρ σ (at_ k ρ):=q
theorem N7{o x k}(q:wE X o ρ σ (at_ (TF x k) ρ)):wE X (.attr o x) ρ σ (at_ k ρ):=q
theorem Zv{o i k}(q:wE X o ρ σ (at_ (k_sub X i k) ρ)):wE X (.sub o i) ρ σ (at_ k ρ):=q
theorem RI{lo hi k}(q:wE X lo ρ σ (at_ (a5f X hi k) ρ)):wE X (.slice lo hi) ρ σ (at_ k ρ):=q
theorem VC{l k}(q:wA X l ρ σ (at_ (a00 k) ρ)):wE X (.list l) ρ σ (at_ k ρ):=q
theorem Zu{l k}(q:wA X l ρ σ (at_ (a3w k) ρ)):wE X (.tup l) ρ σ (at_ k ρ):=q
theorem RJ{k}(q:∀c,σ c=none→at_ k ρ (.ref c) (upd σ c (.dict []))):wE X .Uw ρ σ (at_ k ρ):=q
theorem VD{e t i fs names k}(q:wE X i ρ σ (at_ (a01 X e t fs names k) ρ)):wE X (.comp e (.cons t (.cons i fs)) names) ρ σ (at_ k ρ):=q
theorem ZD{k}(q:k [] ρ σ):wA X .nil ρ σ (at_ k ρ):=q
theorem N9{e r k}(q:wE X e ρ σ (at_ (a3G X r k) ρ)):wA X (.cons e r) ρ σ (at_ k ρ):=q
theorem Zl{a k}(q:wT X a ρ σ (at_ (k_not k) ρ)):wT X (.un .Not a) ρ σ (at_ k ρ):=q
theorem Zp{l k}(q:wBt X false l ρ σ (at_ k ρ)):wT X (.bop .And l) ρ σ (at_ k ρ):=q
theorem a2r{l k}(q:wBt X true l ρ σ (at_ k ρ)):wT X (.bop .Or l) ρ σ (at_ k ρ):=q
theorem VG{d k}(q:k (!d) ρ σ):wBt X d .nil ρ σ (at_ k ρ):=q
theorem RK{d e r k}(q:wT X e ρ σ (at_ (a5i X d r k) ρ)):wBt X d (.cons e r) ρ σ (at_ k ρ):=q
theorem Zm{t a b k}(q:wT X t ρ σ (at_ (a0W X a b k) ρ)):wT X (.ife t a b) ρ σ (at_ k ρ):=q
theorem Zo{a ops l k}(q:wE X a ρ σ (at_ (a3E X ops l k) ρ)):wT X (.cmp a ops l) ρ σ (at_ k ρ):=q
theorem Zn{c k}(q:wE X (.con c) ρ σ (at_ (K6 k) ρ)):wT X (.con c) ρ σ (at_ k ρ):=q
theorem Vx{f as k}(q:wC X f ρ σ (at_ (k_go X as (K6 k)) ρ)):wT X (.call f as) ρ σ (at_ k ρ):=q
theorem Vy{o x k}(q:wE X o ρ σ (at_ (TF x (K6 k)) ρ)):wT X (.attr o x) ρ σ (at_ k ρ):=q
theorem Zk{o i k}(q:wE X o ρ σ (at_ (k_sub X i (K6 k)) ρ)):wT X (.sub o i) ρ σ (at_ k ρ):=q
theorem RH{k}(q:k true ρ σ):ZE X .nil ρ σ (at_ k ρ):=q
theorem RG{e k}(q:wT X e ρ σ (at_ k ρ)):ZE X (.cons e .nil) ρ σ (at_ k ρ):=q
theorem RM{o x v K}(q:wE X o ρ σ (at_ (a0Z X x v K) ρ)):wAs X (.attr o x) v ρ σ K:=q
theorem VI{o i v K}(q:wE X o ρ σ (at_ (a0Y X i v K) ρ)):wAs X (.sub o i) v ρ σ K:=q
theorem Iq{e k}(q:wE X e ρ σ (at_ (Np k) ρ)):wS X (.expr e) ρ σ k:=q
theorem Hx{t e k}(q:wE X e ρ σ (at_ (Yx X t k) ρ)):wS X (.assign t e) ρ σ k:=q
theorem RC{t a b k}(q:wT X t ρ σ (at_ (a3A X a b k) ρ)):wS X (.ifs t a b) ρ σ k:=q
theorem Rz{e k}(q:wE X e ρ σ (at_ (Yv k) ρ)):wS X (.ret e) ρ σ k:=q
theorem Vz{k}(q:k (.ret .none) ρ σ):wS X .vK ρ σ k:=q
theorem VA{k}(q:k .next ρ σ):wS X .pass ρ σ k:=q
theorem yT{k}(q:k .next ρ σ):wB X .nil ρ σ k:=q
theorem th{s r k}(q:wS X s ρ σ (sqb X r k)):wB X (.cons s r) ρ σ k:=q
theorem dS{t a k}(h:∀P:LK,(∀dq av,wT X t dq av (at_ (a5d X a P k) dq)→P dq av)→P ρ σ):wS X (.Zs t a) ρ σ k:=h
theorem Qv{t i a k}(h:wE X i ρ σ (at_ (a3B X a t k) ρ)):wS X (.a1q t i a) ρ σ k:=h
theorem a4N{a t s v vs k}(q:UN (yJ X t v ρ) (blk X a (sq (stK s (fwK X a t s vs k)) k)) σ):FW X a t s (v::vs) ρ σ k:=q
theorem a4L{a t s k}(I:List MV→Loc→St→Prop){items:List MV}(h0:I items ρ σ)
  (TQ:∀v vs ρ σ(R:LK),I (v::vs) ρ σ→(∀m8 aO,I vs m8 aO→R m8 aO)→UN (yJ X t v ρ) (blk X a (sq (stK s R) k)) σ)
  (a1h:∀ρ σ,I [] ρ σ→k .next ρ σ):FW X a t s items ρ σ k:=by
 induction items generalizing ρ σ with
 |nil=>exact a1h ρ σ h0
 |cons v vs ih=>exact TQ v vs ρ σ _ h0 λm8 aO h=>ih h
noncomputable abbrev ctK(X:Ctx)(e t fs:N)(ρ:Loc)(s:Src)(vs acc:List MV)(Q:List MV→St→Prop):Option MV→St→Prop:=λr av=>s.oi av∧match r with
 |some u=>acc.length<lim∧CW X e t fs ρ s vs (acc++[u]) av Q
 |none=>CW X e t fs ρ s vs acc av Q
theorem Pq{e t fs ρ s v vs acc σ Q}(q:UN (yJ X t v ρ) (W3 X e fs (ctK X e t fs ρ s vs acc Q)) σ):CW X e t fs ρ s (v::vs) acc σ Q:=q
theorem Pp{β:Type}{e t fs s Q}(V:β→MV)(g:β→Option MV)(hs:s.oi σ):∀(rows:List β)(acc:List MV),(∀r∈rows,∀T:Option MV→St→Prop,T (g r) σ→UN (yJ X t (V r) ρ) (W3 X e fs T) σ)→acc.length+rows.length≤lim→
  Q (acc++rows.filterMap g) σ→CW X e t fs ρ s (rows.map V) acc σ Q:=by
 intro zl;induction zl with
 |nil=>
  rintro acc _ _ h;rw[List.filterMap_nil,ay]at h;exact h
 |cons r rs ih=>
  rintro acc hf hl h;rw[dm];refine Pq ?_;refine hf r (.head _) _ ?_;rw[cg,Nat.add_succ]at hl;have hf':∀r∈rs,_:=λw hw=>hf w (.tail _ hw);induction e1:g r with
  |none=>rw[dB e1]at h;exact⟨hs,ih acc hf' (l5 hl) h⟩
  |some u=>rw[cV e1]at h;exact⟨hs,bc (bq _ _) hl,ih (acc++[u]) hf' (by rw[aa,kM];exact hl) (by rw[af];exact h)⟩
theorem rR{β:Type}{e t fs s Q}(V:β→MV)(g:β→MV)(hs:s.oi σ)(rows:List β)(acc:List MV)(hf:∀r∈rows,∀T:Option MV→St→Prop,T (some (g r)) σ→UN (yJ X t (V r) ρ) (W3 X e fs T) σ)(hl:acc.length+rows.length≤lim)
  (h:Q (acc++rows.map g) σ):CW X e t fs ρ s (rows.map V) acc σ Q:=
 Pp V (λv=>some (g v)) hs rows acc hf hl (by rw[show rows.filterMap (λv=>some (g v))=rows.map g from congrFun List.filterMap_eq_map rows];exact h)
theorem a0H{i j:Int}{Q}(q:Q (.int (i+j)) σ):BY .Add (.int i) (.int j) σ Q:=q
theorem a0E{i j:Int}{Q}(q:Q (.int (i-j)) σ):BY .Sub (.int i) (.int j) σ Q:=q
theorem OB{b k}(q:k b ρ σ):tru (.bool b) k ρ σ:=q
theorem WM{k}(q:k false ρ σ):tru .none k ρ σ:=q
theorem a3g{i j:Int}{k}(q:k (decide (i<j)) ρ σ):ka X .Lt (.int i) (.int j) k ρ σ:=q
theorem a3h{i j:Int}{k}(q:k (decide (i≤j)) ρ σ):ka X .LtE (.int i) (.int j) k ρ σ:=q
theorem a3i{i j:Int}{k}(q:k (decide (j<i)) ρ σ):ka X .Gt (.int i) (.int j) k ρ σ:=q
theorem a3j{i j:Int}{k}(q:k (decide (j≤i)) ρ σ):ka X .GtE (.int i) (.int j) k ρ σ:=q
theorem mc_eq{i j:Int}{k}(q:k (decide (i=j)) ρ σ):ka X .Eq (.int i) (.int j) k ρ σ:=q
theorem Ym{i j:Int}{k}(q:k (!decide (i=j)) ρ σ):ka X .NotEq (.int i) (.int j) k ρ σ:=q
theorem a0x{k}(q:k true ρ σ):ka X .Is .none .none k ρ σ:=q
theorem a0v{x:Addr}{k}(q:k false ρ σ):ka X .Is (.ref x) .none k ρ σ:=q
theorem a0w{x:Addr}{k}(q:k false ρ σ):ka X .Is .none (.ref x) k ρ σ:=q
theorem a0u{l k}(q:k false ρ σ):ka X .Is (.tup l) .none k ρ σ:=q
theorem Tc{k}(q:k false ρ σ):ka X .IsNot .none .none k ρ σ:=q
theorem a0A{x:Addr}{k}(q:k true ρ σ):ka X .IsNot (.ref x) .none k ρ σ:=q
theorem a0B{x:Addr}{k}(q:k true ρ σ):ka X .IsNot .none (.ref x) k ρ σ:=q
theorem a0z{l k}(q:k true ρ σ):ka X .IsNot (.tup l) .none k ρ σ:=q
theorem WQ{f vs Q}(q:Aj X f vs σ Q):P6 X (.val f) vs σ Q:=q
theorem Th{c:Cl}{z a vs Q}(q:c (.fn a) vs σ Q):Aj (E5 c z) (.fn a) vs σ Q:=q
theorem Ti{s vs Q}(q:fF s vs σ Q):Aj X (.bi s) vs σ Q:=q
theorem Tg{s vs Q}(q:K1 s vs σ Q):Aj X (.ty s) vs σ Q:=q
theorem P1{c:Cl}{z C i vs Q}(e:TP C=some i)(q:∀a,σ a=none→c (.fn i) (.ref a::vs) (upd σ a (.inst C [])) (a3K a Q)):Aj (E5 c z) (.cls C) vs σ Q:=by show gv (TP C) _;rw[e];exact q
theorem P2{c:Cl}{z ps b ns ms vs Q}(q:c (.Fw ps b ns ms) vs σ Q):Aj (E5 c z) (.Fw ps b ns ms) vs σ Q:=q
theorem a0F{i j:Int}{Q}(q:Q (.int (if j<i then j else i)) σ):fF "min" [.int i,.int j] σ Q:=q
theorem a0G{i j:Int}{Q}(q:Q (.int (if i<j then j else i)) σ):fF "max" [.int i,.int j] σ Q:=q
theorem a0C{c:Cl}{z f self vs Q}(q:c (.fn f) (self::vs) σ Q):P6 (E5 c z) (.fn f self) vs σ Q:=q
end
noncomputable def Off(σ av:St)(F:List Addr):Prop:=∀x,x∉F→av x=σ x
noncomputable def oG(σ av:St)(F:List Addr):Prop:=∀x,x∉F→σ x≠none→av x=σ x
theorem oG.refl(σ:St)(F:List Addr):oG σ σ F:=λ_ _ _=>rfl
theorem Off.g{σ av:St}{F:List Addr}(h:Off σ av F):oG σ av F:=λx hx _=>h x hx
theorem oG.trans{σ av gm:St}{F F':List Addr}(h:oG σ av F)(k:oG av gm F')(hs:∀x∈F',x∈F∨σ x=none):oG σ gm F:=λx hx hn=>
 have e:=h x hx hn
 (k x (λe=>(hs x e).elim hx hn) (λq=>hn (e.symm.trans q))).trans e
theorem oG.upd{σ av:St}{F:List Addr}(h:oG σ av F){c:Addr}{o:MO}(hc:c∈F∨σ c=none):oG σ (upd av c o) F:=λx hx hn=>
 (aC λ(e:x=c)=>hc.elim (λm=>hx (rwr e.symm m)) λq=>hn (rwr e.symm q)).trans (h x hx hn)
theorem NQ{A B:Prop}(q:B):br (!true) A B:=q
theorem a1C{A B:Prop}(q:A):br (!false) A B:=q
theorem H7{A B:Prop}(q:A):br true A B:=q
theorem Pd{A B:Prop}(q:B):br false A B:=q
section
variable{p:Prop}[Decidable p]{A B:Prop}
theorem pk(h:p)(q:A):br (decide p) A B:=by rw[decide_eq_true h];exact q
theorem px(h:¬p)(q:B):br (decide p) A B:=by rw[decide_eq_false h];exact q
theorem gi(x:p→A)(y:¬p→B):br (decide p) A B:=if h:p then pk h (x h)else px h (y h)
theorem a4o(h:p)(q:B):br (!decide p) A B:=by rw[decide_eq_true h];exact q
theorem yI(h:¬p)(q:A):br (!decide p) A B:=by rw[decide_eq_false h];exact q
theorem oT(x:p→B)(y:¬p→A):br (!decide p) A B:=if h:p then a4o h (x h)else yI h (y h)
theorem a5G(h:p)(q:A):br (!!decide p) A B:=by rw[decide_eq_true h];exact q
theorem a5H(h:¬p)(q:B):br (!!decide p) A B:=by rw[decide_eq_false h];exact q
theorem a5I{c:Bool}(x:c=true→A)(y:c=false→B):br c A B:=by
 induction c with
 |true=>exact x rfl
 |false=>exact y rfl
theorem a5X{c:Bool}(x:c=true→B)(y:c=false→A):br (!c) A B:=by
 induction c with
 |true=>exact x rfl
 |false=>exact y rfl
end
theorem RQ{σ:St}{a b:Addr}{o o':MO}(n:a≠b)(h:σ a=some o'):upd σ b o a=some o':=(aC n).trans h
theorem rz{σ:St}{a c:Addr}{o o':MO}(hc:σ c=none)(h:σ a=some o'):upd σ c o a=some o':=RQ (λe=>ar h (rwl e hc)) h
theorem ZG{σ:St}{a b:Addr}{o o':MO}(n:b≠a)(h:σ a=some o'):upd σ b o a=some o':=(aC n.symm).trans h
theorem aZ{σ:St}{a:Addr}{o:MO}(h:σ a=some o):σ a≠none:=gH h
theorem fb{σ:St}{a:Addr}{o:MO}(z:Addr)(h:σ z≠none):upd σ a o z≠none:=λq=>if e:z=a then ar (ak σ a o) (e▸q)else h ((aC e).symm.trans q)
section
variable{X:Ctx}{ρ:Loc}{σ:St}{a b C:Addr}{fs:List (Str×MV)}{l k:List MV}{Q:bw}
theorem Nk{kl ki kd}(h:σ a=some (.inst C fs))(q:ki C fs):look σ a kl ki kd:=by unfold look;rw[h];exact q
theorem hH{kl ki kd}(h:σ a=some (.list l))(q:kl l):look σ a kl ki kd:=by unfold look;rw[h];exact q
theorem I9{kl ki kd}{l:List (Int×MV)}(h:σ a=some (.dict l))(q:kd l):look σ a kl ki kd:=by unfold look;rw[h];exact q
theorem SH{x v}(h:σ a=some (.inst C fs))(e:cc fs x=some v)(q:Q v σ):K3 (.ref a) x σ Q:=Nk (ki:=λ_ fs=>gv (cc fs x) λu=>Q u σ) h (by rw[e];exact q)
theorem tA{c:Cl}{z:Bool}{x u Rf}{K:St→Prop}(h:σ a=some (.inst C fs))(hm:Tf x (Cb C)=true)(e:iH fs x u=Rf)(q:K (upd σ a (.inst C Rf))):so (E5 c z) (.ref a) x u σ K:=
 Nk (ki:=λC fs=>(E5 c z).fld C x∧K (upd σ a (.inst C (iH fs x u)))) h ⟨Te hm,rwr e.symm q⟩
theorem yX{c:Cl}{z:Bool}{x u Rf}{K:St→Prop}(h:σ a=some (.inst C fs))(hm:Tf x (Cb C)=true)(e:iH fs x u=Rf)(q:∀av,av a=some (.inst C Rf)→(∀z,z≠a→av z=σ z)→(∀z,σ z≠none→av z≠none)→K av):so (E5 c z) (.ref a) x u σ K:=
 tA h hm e (q _ (ak ..) (λ_ h=>aC h) fb)
theorem a2X{c:Cl}{z m f}{K:Way→St→Prop}(h:σ a=some (.inst C fs))(e:Tn C m=some f)(q:K (.fn f (.ref a)) σ):ZC (E5 c z) (.ref a) m σ K:=Nk (ki:=λC _=>gv (Tn C m) λf=>K (.fn f (.ref a)) σ) h (by rw[e];exact q)
theorem SF{i j:Str}{k:TK}(q:k (sm i j) ρ σ):ka X .Eq (.str i) (.str j) k ρ σ:=by
 show k (decide (i=j)) ρ σ;by_cases e:i=j
 ·rw[decide_eq_true e];rw[e,Ed]at q;exact q
 ·rw[decide_eq_false e];rw[Kx e]at q;exact q
theorem Z7{i j:Str}{k:TK}(h:sm i j=true)(q:k true ρ σ):ka X .Eq (.str i) (.str j) k ρ σ:=SF (rwr h.symm q)
theorem SE{i j:Str}{k:TK}(h:sm i j=false)(q:k false ρ σ):ka X .Eq (.str i) (.str j) k ρ σ:=SF (rwr h.symm q)
theorem a2C{vs:List MV}{P:Prop}(h:va vs.length lim=true)(q:P):vs.length≤lim∧P:=⟨bh h,q⟩
theorem a43{o o':MO}{k:TK}(x:σ a=some o)(y:σ b=some o')(q:k (decide (a=b)) ρ σ):ka X .Is (.ref a) (.ref b) k ρ σ:=⟨gH x,gH y,q⟩
theorem SG{o o':MO}{k:TK}(x:σ a=some o)(y:σ b=some o')(q:k (!decide (a=b)) ρ σ):ka X .IsNot (.ref a) (.ref b) k ρ σ:=⟨gH x,gH y,q⟩
theorem a45{o:Option Loc}{dq:Loc}{K:LK}(h:o=some dq)(q:K dq σ):UN o K σ:=⟨_,h,q⟩
theorem Oq(q:Q (.ref a) σ):a3K a Q .none σ:=⟨rfl,q⟩
theorem a0b{z t i k}(q:FW X i t (.items (oZ z)) (oZ z) ρ σ k):Xj X i t (EG (.PK z) σ) ρ σ k:=⟨_,rfl,q⟩
theorem Wk{z e t fs dq k}(q:CW X e t fs dq (.items (oZ z)) (oZ z) [] σ (kcl k ρ)):XF X e t fs dq (EG (.PK z) σ) ρ σ k:=⟨_,rfl,q⟩
theorem a5U{s t i k}(q:FW X i t s s.all ρ σ k):Xj X i t (some s) ρ σ k:=⟨_,rfl,q⟩
theorem a44{e t fs dq s k}(q:CW X e t fs dq s s.all [] σ (kcl k ρ)):XF X e t fs dq (some s) ρ σ k:=⟨_,rfl,q⟩
theorem X8(h:σ a=some (.list l)):EG (.ref a) σ=some (.list a l):=by show(match σ a with|some (.list l)=>some (Src.list a l)|_=>none)=_;rw[h]
theorem a0c{t i k}(h:σ a=some (.list l))(q:FW X i t (.list a l) l ρ σ k):Xj X i t (EG (.ref a) σ) ρ σ k:=⟨_,X8 h,q⟩
theorem Wl{e t fs dq k}(h:σ a=some (.list l))(q:CW X e t fs dq (.list a l) l [] σ (kcl k ρ)):XF X e t fs dq (EG (.ref a) σ) ρ σ k:=⟨_,X8 h,q⟩
theorem Yc(h:σ a=some (.list l))(q:Q (.int l.length) σ):fF "len" [.ref a] σ Q:=hH (kl:=λl=>Q (.int l.length) σ) h q
theorem ON{j m:Nat}(h:j<m):xY j m=some j:=by
 unfold xY;rw[if_pos (bJ j),if_pos (cB.mpr h),cS]
theorem yY{v:MV}{i:Int}{j:Nat}(hi:xY i l.length=some j)(e:l[j]?=some v)(q:Q v σ):qV l i σ Q:=by
 unfold qV;rw[hi];show gv l[j]? _;rw[e];exact q
theorem Kz{v:MV}{j:Nat}(h:l.length≤100)(e:l[j]?=some v)(q:Q v σ):l8 (.tup l) (.int j) σ Q:=⟨h,yY (ON (gk.mp e).1) e q⟩
theorem j9{v:MV}{j:Nat}(h:σ a=some (.list l))(e:l[j]?=some v)(q:Q v σ):l8 (.ref a) (.int j) σ Q:=hH (kl:=λl=>qV l j σ Q) h (yY (ON (gk.mp e).1) e q)
theorem MW{v:MV}(h:l.length≤90)(q:Q v σ):l8 (.tup (v::l)) (.int 0) σ Q:=Kz (j:=0) (ah (bN h 1) (by decide)) rfl q
theorem Z4{v v0:MV}(h:l.length≤90)(q:Q v σ):l8 (.tup (v0::v::l)) (.int 1) σ Q:=Kz (j:=1) (ah (bN h 2) (by decide)) rfl q
theorem Z3{v v0 v1:MV}(h:l.length≤90)(q:Q v σ):l8 (.tup (v0::v1::v::l)) (.int 2) σ Q:=Kz (j:=2) (ah (bN h 3) (by decide)) rfl q
theorem Z2{v v0 v1 v2:MV}(h:l.length≤90)(q:Q v σ):l8 (.tup (v0::v1::v2::v::l)) (.int 3) σ Q:=Kz (j:=3) (ah (bN h 4) (by decide)) rfl q
theorem Z1{v v0 v1 v2 v3:MV}(h:l.length≤90)(q:Q v σ):l8 (.tup (v0::v1::v2::v3::v::l)) (.int 4) σ Q:=Kz (j:=4) (ah (bN h 5) (by decide)) rfl q
theorem TO{n:Nat}:xY (-1) (n+1)=some n:=by
 unfold xY;rw[if_neg (by decide),if_pos (by lia)]
 exact congrArg some (by lia)
theorem MX{v:MV}(h:σ a=some (.list (l++[v])))(q:Q v σ):l8 (.ref a) (.int (-1)) σ Q:=
 hH (kl:=λl=>qV l (-1) σ Q) h (yY (j:=l.length) (by rw[aa];exact TO) List.getElem?_concat_length q)
theorem Z0{m:Str}{K:Way→St→Prop}(h:σ a=some (.list l))(q:Nj m a λw=>K w σ):ZC X (.ref a) m σ K:=by
 refine hH h ?_;assumption
theorem Qa{K}(q:K (.app a)):Nj d4 a K:=q
theorem P9{K}(q:K (.ext a)):Nj z0 a K:=q
theorem a0P{K}(q:K (.pop a)):Nj Rv a K:=q
theorem a2Z{v:MV}(h:σ a=some (.list (l++[v])))(q:Q v (upd σ a (.list l))):P6 X (.pop a) [] σ Q:=
 hH (kl:=λl=>[]=[]∧gv l.getLast? λv=>Q v (upd σ a (.list l.dropLast))) h ⟨rfl,by rw[jz,List.dropLast_concat];exact q⟩
theorem dY{v:MV}(h:σ a=some (.list l))(hl:l.length<lim)(q:Q .none (upd σ a (.list (l++[v])))):P6 X (.app a) [v] σ Q:=hH (kl:=λl=>l.length<lim∧Q .none (upd σ a (.list (l++[v])))) h ⟨hl,q⟩
theorem vN(h:σ a=some (.list l))(h':σ b=some (.list k))(hl:l.length+k.length≤lim)(hn:a≠b)(q:Q .none (upd σ a (.list (l++k)))):P6 X (.ext a) [.ref b] σ Q:=
 hH h (hH (kl:=λk=>(l.length+k.length≤lim∧a≠b)∧Q .none (upd σ a (.list (l++k)))) h' ⟨⟨hl,hn⟩,q⟩)
end
theorem cZ(σ:St)(a:Addr)(o o':MO):upd (upd σ a o) a o'=upd σ a o':=funext λb=>if h:b=a then by rw[h,ak,ak]else by rw[aC h,aC h,aC h]
theorem bB{a b n:Nat}(h:ai a n=true)(k:va b a=true):ai b n=true:=Ml (bc (bh k) (bh h))
theorem We{a b:Addr}(h:MV.ref a=MV.ref b):a=b:=congrArg (λv=>match v with|.ref a=>a|_=>0) h
theorem a4K{a b:Int}(h:MV.int a=MV.int b):a=b:=congrArg (λv=>match v with|.int a=>a|_=>0) h
theorem a3s{a b:List MV}(h:MO.list a=MO.list b):a=b:=congrArg (λv=>match v with|.list a=>a|_=>[]) h
noncomputable def kd(o:MO):Nat:=match o with
 |.inst C _=>C+2
 |.list _=>0
 |.dict _=>1
 |.Lc _=>2
theorem bS{σ:St}{x y:Addr}{o o':MO}(h:σ x=some o)(h':σ y=some o')(k:a9 (kd o) (kd o')=false):x≠y:=λe=>
 aq (k.symm.trans ((congrArg (λz=>a9 (kd o) (kd z)) (aA (h'.symm.trans ((congrArg σ e).symm.trans h)))).trans (a1U _)))
theorem Yj{σ:St}{x:Addr}{o o':MO}(h:σ x=some o)(h':σ x=some o')(k:a9 (kd o) (kd o')=false){p:Prop}:p:=absurd rfl (bS h h' k)
noncomputable def nr(t:Int)(p l r q:MV):List (Str×MV):=[(cx,.int t),(aI,p),(cW,l),(dF,r),(bV,q)]
noncomputable abbrev node(t:Int)(p l r q:MV):MO:=.inst 733 (nr t p l r q)
section
variable(t:Int)(p l r q v:MV)
theorem a50:cc (nr t p l r q) cx=some (.int t):=rfl
theorem a53:cc (nr t p l r q) aI=some p:=rfl
theorem a54:cc (nr t p l r q) cW=some l:=rfl
theorem a51:cc (nr t p l r q) dF=some r:=rfl
theorem a52:cc (nr t p l r q) bV=some q:=rfl
theorem S2(u:Int):iH (nr t p l r q) cx (.int u)=nr u p l r q:=rfl
theorem a49:iH (nr t p l r q) aI v=nr t v l r q:=rfl
theorem a5a:iH (nr t p l r q) cW v=nr t p v r q:=rfl
theorem a47:iH (nr t p l r q) dF v=nr t p l v q:=rfl
theorem a48:iH (nr t p l r q) bV v=nr t p l r v:=rfl
end
inductive T where
 |leaf|nd (a:Addr) (n:Int) (p:MV) (l r:T)
noncomputable abbrev T.val:T→MV
 |.leaf=>.none
 |.nd a ..=>.ref a
theorem T.a2z:T.leaf.val=.none:=rfl
theorem T.a4R(a n p l r):(T.nd a n p l r).val=.ref a:=rfl
noncomputable def T.dJ:T→Int
 |.leaf=>0
 |.nd _ n _ l r=>n+(l.dJ+r.dJ)
noncomputable def T.size:T→Nat
 |.leaf=>0
 |.nd _ _ _ l r=>l.size+r.size+1
noncomputable abbrev eE:=List (Addr×Int×MV)
noncomputable def T.flat:T→eE
 |.leaf=>[]
 |.nd a n p l r=>l.flat++(a,n,p)::r.flat
noncomputable abbrev Ix:=Addr→Int
noncomputable def cC(σ:St)(ix:Ix):(Int→Prop)→MV→T→Prop
 |_,_,.leaf=>True
 |I,par,.nd a n p l r=>σ a=some (node (n+(l.dJ+r.dJ)) p l.val r.val par)∧I (ix a)∧cC σ ix (λi=>I i∧i<ix a) (.ref a) l∧cC σ ix (λi=>I i∧ix a<i) (.ref a) r
theorem cC.frame{σ av:St}{ix:Ix}{t:T}{I:Int→Prop}{par:MV}(H:cC σ ix I par t)(h:∀z,I (ix z)→av z=σ z):cC av ix I par t:=by
 induction t generalizing I par with
 |leaf=>trivial
 |nd a _ _ _ _ il ir=>exact⟨(h a H.2.1).trans H.1,H.2.1,il H.2.2.1 λz hz=>h z hz.1,ir H.2.2.2 λz hz=>h z hz.1⟩
theorem cC.sub{σ:St}{ix:Ix}{t:T}{I J:Int→Prop}{par:MV}(H:cC σ ix I par t)(h:∀i,I i→J i):cC σ ix J par t:=by
 induction t generalizing I J par with
 |leaf=>trivial
 |nd a _ _ _ _ il ir=>exact⟨H.1,h _ H.2.1,il H.2.2.1 λi hi=>⟨h i hi.1,hi.2⟩,ir H.2.2.2 λi hi=>⟨h i hi.1,hi.2⟩⟩
noncomputable def Pn(σ:St)(v:MV)(t:Int):Prop:=(v=.none∧t=0)∨∃a p l r q,v=.ref a∧σ a=some (node t p l r q)
theorem cC.Of{σ:St}{ix:Ix}{I:Int→Prop}{par:MV}{t:T}(h:cC σ ix I par t):Pn σ t.val t.dJ:=by
 induction t using T.casesOn with
 |leaf=>exact .inl ⟨rfl,rfl⟩
 |nd a _ p _ _=>exact .inr ⟨a,p,_,_,_,rfl,h.1⟩
noncomputable def yV(σ:St)(t:T)(par:MV):St:=match t with
 |.leaf=>σ
 |.nd a n p l r=>upd σ a (node (n+(l.dJ+r.dJ)) p l.val r.val par)
theorem sj{ix:Ix}{I:Int→Prop}{a z:Addr}(h:I (ix a))(k:¬I (ix z)):z≠a:=λe=>k (rwl e h)
theorem cC.ZR{σ τ:St}{ix:Ix}{I:Int→Prop}{par par':MV}{z:Addr}{t:T}(h:cC τ ix I par t)(k:¬I (ix z)):yV σ t par' z=σ z:=by
 induction t using T.casesOn with
 |leaf=>rfl
 |nd=>exact aC (sj h.2.1 k)
theorem cC.yV{σ:St}{ix:Ix}{I:Int→Prop}{par par':MV}{t:T}(h:cC σ ix I par t):cC (yV σ t par') ix I par' t:=by
 induction t using T.casesOn with
 |leaf=>trivial
 |nd=>exact⟨ak ..,h.2.1,h.2.2.1.frame λz hz=>aC λe=>aP _ (e▸hz.2),h.2.2.2.frame λz hz=>aC λe=>aP _ (e▸hz.2)⟩
inductive C where
 |top|side (d:Bool) (a:Addr) (n:Int) (p:MV) (s:T) (c:C)
noncomputable abbrev C.par:C→MV
 |.top=>.none
 |.side _ a ..=>.ref a
noncomputable def C.iU:C→T→T
 |.top,t=>t
 |.side true a n p s c,t=>c.iU (.nd a n p t s)
 |.side false a n p s c,t=>c.iU (.nd a n p s t)
noncomputable def C.L:C→eE
 |.top=>[]
 |.side true _ _ _ _ c=>c.L
 |.side false a n p s c=>c.L++s.flat++[(a,n,p)]
noncomputable def C.R:C→eE
 |.top=>[]
 |.side true a n p s c=>(a,n,p)::s.flat++c.R
 |.side false _ _ _ _ c=>c.R
theorem C.dz(c:C)(t:T):(c.iU t).flat=c.L++t.flat++c.R:=by
 induction c generalizing t with
 |top=>exact(ay t.flat).symm
 |side d a n p s c ih=>induction d with
  |true=>exact(ih (.nd a n p t s)).trans (by rw[show(T.nd a n p t s).flat=t.flat++(a,n,p)::s.flat from rfl,af,af];exact(af c.L t.flat _).symm)
  |false=>exact(ih (.nd a n p s t)).trans (by
   show c.L++(s.flat++(a,n,p)::t.flat)++c.R=c.L++s.flat++[(a,n,p)]++t.flat++c.R;rw[af (c.L++s.flat),af c.L s.flat];rfl)
noncomputable def WW(d:Bool)(i j:Int):Prop:=bif d then i<j else j<i
noncomputable def C.In(ix:Ix):C→Int→Prop
 |.top,i=>0<i
 |.side d a _ _ _ c,i=>c.In ix i∧WW d i (ix a)
theorem C.cn{ix:Ix}{c:C}{i:Int}(h:c.In ix i):0<i:=by
 induction c with
 |top=>exact h
 |side _ _ _ _ _ c ih=>exact ih h.1
noncomputable def Oy(d:Bool)(t:Int)(p v w q:MV):MO:=node t p (bif d then v else w) (bif d then w else v) q
noncomputable def d8(σ:St)(ix:Ix)(tr:Addr):C→MV→Int→Prop
 |.top,v,_=>σ tr=some (.inst 754 [(mE,v)])∧¬0<ix tr
 |.side d a n p s c,v,h=>σ a=some (Oy d (n+(bif d then h+s.dJ else s.dJ+h)) p v s.val c.par)∧c.In ix (ix a)∧cC σ ix (λi=>c.In ix i∧WW (!d) i (ix a)) (.ref a) s∧
  d8 σ ix tr c (.ref a) (n+(bif d then h+s.dJ else s.dJ+h))
theorem vU{d:Bool}{i:Int}(h:WW d i i):False:=by cases d<;>exact aP _ h
theorem I8{d:Bool}{i j:Int}(h:WW (!d) i j)(k:WW d i j):False:=by cases d<;>exact dI h k
theorem d8.frame{σ av:St}{ix:Ix}{tr:Addr}{c:C}{v:MV}{h:Int}(H:d8 σ ix tr c v h)(k:∀z,0<ix z→¬c.In ix (ix z)→av z=σ z)(e:av tr=σ tr):d8 av ix tr c v h:=by
 induction c generalizing v h with
 |top=>exact⟨e.trans H.1,H.2⟩
 |side _ a _ _ _ c ih=>exact⟨(k a (C.cn H.2.1) λk=>vU k.2).trans H.1,H.2.1,H.2.2.1.frame λz hz=>k z (C.cn hz.1) λk=>I8 hz.2 k.2,ih H.2.2.2 λz p hz=>k z p λk=>hz k.1⟩
theorem d8.GF{σ:St}{ix:Ix}{tr:Addr}{c:C}{v:MV}{h:Int}(H:d8 σ ix tr c v h){z}(k:0<ix z):z≠tr:=by
 induction c generalizing v h with
 |top=>exact λe=>H.2 (rwr e k)
 |side _ _ _ _ _ _ ih=>exact ih H.2.2.2
theorem d8.put{σ:St}{ix:Ix}{tr b:Addr}{d:Bool}{c:C}{v v' q:MV}{h m:Int}{r:T}(x:d8 σ ix tr (.side d b m q r c) v h):
  d8 (upd σ b (Oy d (m+(bif d then h+r.dJ else r.dJ+h)) q v' r.val c.par)) ix tr (.side d b m q r c) v' h:=
 ⟨ak ..,x.2.1,x.2.2.1.frame λ_ hz=>aC λe=>vU (e▸hz.2),x.2.2.2.frame (λ_ _ k=>aC (sj x.2.1 k)) (aC (x.2.2.2.GF (C.cn x.2.1)).symm)⟩
theorem d8.nb{ix:Ix}{b z:Addr}{d:Bool}{c:C}{q:MV}{m:Int}{r:T}(h:C.In ix (.side d b m q r c) (ix z)):z≠b:=λe=>vU (e▸h.2)
theorem d8.tr{σ:St}{ix:Ix}{tr:Addr}{c:C}{v:MV}{h:Int}(H:d8 σ ix tr c v h):∃v',σ tr=some (.inst 754 [(mE,v')]):=by
 induction c generalizing v h with
 |top=>exact⟨v,H.1⟩
 |side _ _ _ _ _ _ ih=>exact ih H.2.2.2
structure At(σ:St)(ix:Ix)(tr:Addr)(c:C)(t:T):Prop where
 ctx:d8 σ ix tr c t.val t.dJ
 tree:cC σ ix (c.In ix) c.par t
theorem At.up{σ:St}{ix:Ix}{tr:Addr}{c:C}{t:T}(H:At σ ix tr c t):At σ ix tr .top (c.iU t):=by
 induction c generalizing t with
 |top=>exact H
 |side d a n p s c ih=>induction H with|mk h k=>induction d with
  |true=>exact ih (t:=.nd a n p t s) ⟨h.2.2.2,h.1,h.2.1,k,h.2.2.1⟩
  |false=>exact ih (t:=.nd a n p s t) ⟨h.2.2.2,h.1,h.2.1,h.2.2.1,k⟩
theorem At.left{σ:St}{ix:Ix}{tr a:Addr}{c:C}{n:Int}{p:MV}{l r:T}(h:At σ ix tr c (.nd a n p l r)):At σ ix tr (.side true a n p r c) l:=⟨⟨h.2.1,h.2.2.1,h.2.2.2.2,h.1⟩,h.2.2.2.1⟩
theorem At.right{σ:St}{ix:Ix}{tr a:Addr}{c:C}{n:Int}{p:MV}{l r:T}(h:At σ ix tr c (.nd a n p l r)):At σ ix tr (.side false a n p l c) r:=⟨⟨h.2.1,h.2.2.1,h.2.2.2.1,h.1⟩,h.2.2.2.2⟩
theorem At.down{σ:St}{ix:Ix}{tr:Addr}{c:C}{t:T}(h:At σ ix tr .top (c.iU t)):At σ ix tr c t:=by
 induction c generalizing t with
 |top=>exact h
 |side d a n p s c ih=>induction d with
  |true=>exact(ih (t:=.nd a n p t s) h).left
  |false=>exact(ih (t:=.nd a n p s t) h).right
theorem At.frame{σ av:St}{ix:Ix}{tr:Addr}{c:C}{t:T}(h:At σ ix tr c t)(hs:∀z,0<ix z→av z=σ z)(e:av tr=σ tr):At av ix tr c t:=
 ⟨h.ctx.frame (λz p _=>hs z p) e,h.tree.frame λz p=>hs z (C.cn p)⟩
structure Ch(ix:Ix)(tr:Addr)(σ av:St):Prop where
 off:∀z,z≠tr→¬0<ix z→av z=σ z
 lv:∀z,σ z≠none→av z≠none
theorem Ch.refl(ix:Ix)(tr:Addr)(σ:St):Ch ix tr σ σ:=⟨λ_ _ _=>rfl,λ_ h=>h⟩
theorem Ch.trans{ix:Ix}{tr:Addr}{σ av gm:St}(h:Ch ix tr σ av)(k:Ch ix tr av gm):Ch ix tr σ gm:=⟨λz a b=>(k.off z a b).trans (h.off z a b),λz a=>k.lv z (h.lv z a)⟩
theorem Ch.nd{ix:Ix}{tr a:Addr}{σ:St}{o:MO}(h:0<ix a):Ch ix tr σ (upd σ a o):=⟨λ_ _ k=>aC λe=>k (rwl e h),fb⟩
theorem Ch.tr{ix:Ix}{tr:Addr}{σ:St}{o:MO}:Ch ix tr σ (upd σ tr o):=⟨λ_ k _=>aC k,fb⟩
theorem Ch.par{ix:Ix}{tr:Addr}{σ τ:St}{I:Int→Prop}{par par':MV}(hI:∀i,I i→0<i){t:T}(h:cC τ ix I par t):Ch ix tr σ (yV σ t par'):=by
 induction t using T.casesOn with
 |leaf=>exact Ch.refl _ _ _
 |nd=>exact Ch.nd (hI _ h.2.1)
section
variable{be:Nat}{σ:St}{Q:bw}
theorem FO{a:Addr}{t:Int}{p l r q:MV}(aV:ai 0 be=true)(h:σ a=some (node t p l r q))(hq:Q (.int t) σ):D be (.fn 765) [.ref a] σ Q:=by
 refine yB aV ?_;dsimp only[tW];k_go;exact hq
theorem eC{v:MV}{t:Int}(aV:ai 0 be=true)(h:Pn σ v t)(hq:Q (.int t) σ):D be (.fn 765) [v] σ Q:=by
 rcases h with⟨rfl,rfl⟩|⟨a,p,l,r,q,rfl,h⟩
 ·refine yB aV ?_;dsimp only[tW];k_go;exact hq
 ·exact FO (by first|exact aV|rfl|exact bB aV rfl) h hq
theorem Jr{a:Addr}{t tl tr:Int}{p l r q:MV}(aV:ai 1 be=true)(h:σ a=some (node t p l r q))(hl:Pn σ l tl)(hr:Pn σ r tr)(hq:Q (.int (t-tl-tr)) σ):D be (.fn 772) [.ref a] σ Q:=by
 refine DV aV ?_;dsimp only[ue];k_go;refine eC (by first|exact aV|rfl|exact bB aV rfl) hl ?_
 k_go;refine eC (by first|exact aV|rfl|exact bB aV rfl) hr ?_
 k_go;exact hq
theorem zu{a:Addr}{t:Int}{p l r q par:MV}{s:T}{ix:Ix}{I:Int→Prop}(aV:ai 0 be=true)(h:σ a=some (node t p l r q))(hs:cC σ ix I par s)(ha:¬I (ix a))
  (hq:∀av,av a=some (node t p s.val r q)→cC av ix I (.ref a) s→(∀z,z≠a→¬I (ix z)→av z=σ z)→(∀z,σ z≠none→av z≠none)→Q .none av):D be (.fn 793) [.ref a,s.val] σ Q:=by
 have OQ:cC (upd σ a (node t p s.val r q)) ix I par s:=hs.frame λz hz=>aC λe=>ha (rwr e hz);refine yC aV ?_;dsimp only[tZ];k_go;induction s using T.casesOn with
 |leaf=>
  k_go;exact hq _ (ak ..) trivial (λz hz _=>aC hz) fb
 |nd b u pp x y=>
  have hb:upd σ a (node t p (.ref b) r q) b=_:=OQ.1;k_go;exact hq _ ((aC (sj OQ.2.1 ha)).trans (ak ..)) OQ.yV (λz hz k=>(aC (sj OQ.2.1 k)).trans (aC hz)) λz hz=>fb z (fb z hz)
theorem C6{a:Addr}{t:Int}{p l r q par:MV}{s:T}{ix:Ix}{I:Int→Prop}(aV:ai 0 be=true)(h:σ a=some (node t p l r q))(hs:cC σ ix I par s)(ha:¬I (ix a))
  (hq:∀av,av a=some (node t p l s.val q)→cC av ix I (.ref a) s→(∀z,z≠a→¬I (ix z)→av z=σ z)→(∀z,σ z≠none→av z≠none)→Q .none av):D be (.fn 800) [.ref a,s.val] σ Q:=by
 have OQ:cC (upd σ a (node t p l s.val q)) ix I par s:=hs.frame λz hz=>aC λe=>ha (rwr e hz);refine wO aV ?_;dsimp only[rp];k_go;induction s using T.casesOn with
 |leaf=>
  k_go;exact hq _ (ak ..) trivial (λz hz _=>aC hz) fb
 |nd b u pp x y=>
  have hb:upd σ a (node t p l (.ref b) q) b=_:=OQ.1;k_go;exact hq _ ((aC (sj OQ.2.1 ha)).trans (ak ..)) OQ.yV (λz hz k=>(aC (sj OQ.2.1 k)).trans (aC hz)) λz hz=>fb z (fb z hz)
theorem lG{tr a:Addr}{c:C}{t h:Int}{p l r par:MV}{s:T}{ix:Ix}{I:Int→Prop}(aV:ai 0 be=true)
  (hc:d8 σ ix tr c (.ref a) h) (ha:σ a=some (node t p l r c.par)) (hs:cC σ ix I par s) (hI:∀i,I i→c.In ix i) (ia:c.In ix (ix a)) (na:¬I (ix a))
  (hq:∀av,d8 av ix tr c s.val h→cC av ix I c.par s→(∀z,c.In ix (ix z)→¬I (ix z)→av z=σ z)→Ch ix tr σ av→Q .none av):D be (.fn 786) [.ref tr,.ref a,s.val] σ Q:=by
 refine AQ aV ?_;have key:∀τ,d8 τ ix tr c (.ref a) h→τ a=some (node t p l r c.par)→cC τ ix I c.par s→(∀z,c.In ix (ix z)→¬I (ix z)→τ z=σ z)→Ch ix tr σ τ→
   wB (X 0) (.cons (.ifs (.cmp (.name bV) [.Is] (.cons (.con .none) .nil)) (.cons (.assign (.attr (.name aY) mE) (.name dg))
   .nil) (.cons (.ifs (.cmp (.attr (.name bV) cW) [.Is] (.cons (.name aB) .nil)) (.cons (.assign (.attr (.name bV) cW) (.name dg))
   .nil) (.cons (.assign (.attr (.name bV) dF) (.name dg))
   .nil)) .nil)) .nil) [(aY,some (.ref tr)),(aB,some (.ref a)),(dg,some s.val),(bV,some c.par)] τ (ends Q):=by
  intro τ hc ha hs off ch;induction c using C.casesOn with
  |top=>
   have h1:τ tr=_:=hc.1;dsimp[C.par];k_go;exact hq _ ⟨ak ..,hc.2⟩ (hs.frame λz hz=>aC (hc.GF (C.cn (hI _ hz)))) (λz hz k=>(aC (hc.GF (C.cn hz))).trans (off z hz k)) (ch.trans Ch.tr)
  |side d b m q r' c=>
   have fin:∀v,v=s.val→Q .none (upd τ b (Oy d (m+(bif d then h+r'.dJ else r'.dJ+h)) q v r'.val c.par)):=λv e=>e▸
    hq _ hc.put (hs.frame λz hz=>aC (d8.nb (hI _ hz))) (λz hz k=>(aC (d8.nb hz)).trans (off z hz k)) (ch.trans (Ch.nd (C.cn hc.2.1)))
   dsimp[C.par];cases d with
   |true=>
    have hb:τ b=some (node (m+(h+r'.dJ)) q (.ref a) r'.val c.par):=hc.1;k_go;refine pk rfl ?_;k_go;exact fin _ rfl
   |false=>
    have hb:τ b=some (node (m+(r'.dJ+h)) q r'.val (.ref a) c.par):=hc.1;k_go;induction r' using T.casesOn with
    |leaf=>
     k_go;exact fin _ rfl
    |nd e k z x y=>
     have he:τ e=_:=hc.2.2.1.1;k_go;refine px (λh=>I8 hc.2.2.1.2.1.2 (rwl h ia.2)) ?_;k_go;exact fin _ rfl
 dsimp only[qk];k_go;induction s using T.casesOn with
 |leaf=>
  k_go;exact key σ hc ha trivial (λ_ _ _=>rfl) (Ch.refl _ _ _)
 |nd b m q x y=>
  have hb:σ b=_:=hs.1;k_go;exact key _ (hc.frame (λ_ _ k=>aC (sj (hI _ hs.2.1) k)) (aC (hc.GF (C.cn (hI _ hs.2.1))).symm)) ((aC (sj hs.2.1 na)).trans ha) hs.yV (λ_ _ k=>aC (sj hs.2.1 k)) (Ch.nd (C.cn (hI _ hs.2.1)))
end
theorem J8{σ:St}{a:Addr}{o o':MO}(h:o=o'):upd σ a o a=some o':=by rw[ak,h]
theorem pR{t t':Int}{p l r q:MV}(h:t=t'):node t p l r q=node t' p l r q:=by rw[h]
theorem d8.dJ{σ:St}{ix:Ix}{tr:Addr}{c:C}{v:MV}{h h':Int}(x:d8 σ ix tr c v h)(e:h=h'):d8 σ ix tr c v h':=e▸x
theorem ar1(m s r y:Int):m+(s+r)-s+y=m+(y+r):=by lia
theorem ar2(m k x y r:Int):m+(k+(x+y)+r)=k+(x+(m+(y+r))):=by lia
theorem ar3(m s r y:Int):m+(r+s)-s+y=m+(r+y):=by lia
theorem ar4(m k x y r:Int):m+(r+(k+(x+y)))=k+(m+(r+x)+y):=by lia
section
variable{be:Nat}{σ:St}{Q:bw}{ix:Ix}{tr a b:Addr}{c:C}{m k:Int}{p q:MV}{x y r l:T}
theorem FT(aV:ai 1 be=true)(hA:At σ ix tr c (.nd a m p (.nd b k q x y) r))
  (hq:∀av,At av ix tr c (.nd b k q x (.nd a m p y r))→Ch ix tr σ av→Q (.ref b) av):D be (.fn 807) [.ref tr,.ref a] σ Q:=by
 have hc:=hA.ctx;have ha:=hA.tree.1;have ia:=hA.tree.2.1;have hB:=hA.tree.2.2.1;have hr:=hA.tree.2.2.2;have Nr:c.In ix (ix b):=hB.2.1.1;have W0:ix b<ix a:=hB.2.1.2;refine AO aV ?_;dsimp only[qi];k_in;refine lG (s:=.nd b k q x y) (by first|exact aV|rfl|exact bB aV rfl) hc ha hB (λi h=>h.1) ia (λh=>aP _ h.2) λdE tK hB1 o1 ch1=>?_
 have Fd:=hB1.1;have hx1:=hB1.2.2.1;have hy1:=hB1.2.2.2;have B8:=(o1 a ia λh=>aP _ h.2).trans ha;have hr1:=hr.frame λz hz=>o1 z hz.1 λh=>dI h.2 hz.2;k_in;refine eC (by first|exact aV|rfl|exact bB aV rfl) hy1.Of ?_
 k_in;refine yX B8 rfl (S2 _ _ _ _ _ _) λdp Vc o2 lv2=>?_;have Vc:dp a=some (node (m+(y.dJ+r.dJ)) p (.ref b) r.val c.par):=Vc.trans (congrArg some (pR (ar1 m (k+(x.dJ+y.dJ)) r.dJ y.dJ)));have TZ:=(o2 b λe=>aP _ (e▸W0)).trans Fd;have XI:Ch ix tr σ dp:=ch1.trans ⟨λz _ h2=>o2 z λe=>h2 (e▸C.cn ia),lv2⟩;k_in;refine zu (by first|exact aV|rfl|exact bB aV rfl) Vc (hy1.frame λz hz=>o2 z λe=>aP _ (e▸hz.1.2)) (λh=>aP _ h.1.2) λjJ Xf hy3 o3 lv3=>?_
 have nb:¬((c.In ix (ix b)∧ix b<ix a)∧ix b<ix b):=λh=>aP _ h.2;have hb3:=(o3 b (λe=>aP _ (e▸W0)) nb).trans TZ;have WD:∀z,z≠a→¬((c.In ix (ix z)∧ix z<ix a)∧ix b<ix z)→jJ z=dE z:=λz h h'=>(o3 z h h').trans (o2 z h);have hx3:=hx1.frame λz hz=>WD z (λe=>aP _ (e▸hz.1.2)) λh=>dI h.2 hz.2;have hr3:=hr1.frame λz hz=>WD z (λe=>aP _ (e▸hz.2)) λh=>dI h.1.2 hz.2;have hc3:=tK.frame (λz _ hz=>WD z (λe=>hz (e▸ia)) λh=>hz h.1.1) (WD tr (tK.GF (C.cn ia)).symm λh=>tK.GF (C.cn h.1.1) rfl);have hT:cC jJ ix (λi=>c.In ix i∧ix b<i) c.par (.nd a m p y r):=⟨Xf,⟨ia,W0⟩,hy3.sub λi h=>⟨⟨h.1.1,h.2⟩,h.1.2⟩,hr3.sub λi h=>⟨⟨h.1,fT W0 h.2⟩,h.2⟩⟩;have XH:Ch ix tr σ jJ:=XI.trans ⟨λz _ h2=>o3 z (λe=>h2 (e▸C.cn ia)) λh=>h2 (C.cn h.1.1),lv3⟩;k_in;refine C6 (s:=.nd a m p y r) (by first|exact aV|rfl|exact bB aV rfl) hb3 hT (λh=>aP _ h.2) λvh hb4 OX o4 lv4=>?_
 have hx4:=hx3.frame λz hz=>o4 z (λe=>aP _ (e▸hz.2)) λh=>dI h.2 hz.2;have hc4:=hc3.frame (λz _ hz=>o4 z (λe=>hz (e▸Nr)) λh=>hz h.1) (o4 tr (tK.GF (C.cn Nr)).symm λh=>tK.GF (C.cn h.1) rfl);have e:m+(k+(x.dJ+y.dJ)+r.dJ)=k+(x.dJ+(m+(y.dJ+r.dJ))):=ar2 m k x.dJ y.dJ r.dJ;k_go;refine hq _ ⟨(hc4.dJ e).frame (λz _ hz=>aC λe=>hz (e▸Nr)) (aC (tK.GF (C.cn Nr)).symm),J8 (pR e),Nr,(hx4.frame λz hz=>aC λe=>aP _ (e▸hz.2)).sub λi h=>⟨h.1.1,h.2⟩,
  OX.frame λz hz=>aC λe=>aP _ (e▸hz.2)⟩ (XH.trans (Ch.trans ⟨λz _ h2=>o4 z (λe=>h2 (e▸C.cn Nr)) λh=>h2 (C.cn h.1),lv4⟩ (Ch.nd (C.cn Nr))))
theorem Hd(aV:ai 1 be=true)(hA:At σ ix tr c (.nd a m p l (.nd b k q x y)))
  (hq:∀av,At av ix tr c (.nd b k q (.nd a m p l x) y)→Ch ix tr σ av→Q (.ref b) av):D be (.fn 814) [.ref tr,.ref a] σ Q:=by
 have hc:=hA.ctx;have ha:=hA.tree.1;have ia:=hA.tree.2.1;have hB:=hA.tree.2.2.2;have hl:=hA.tree.2.2.1;have Nr:c.In ix (ix b):=hB.2.1.1;have W0:ix a<ix b:=hB.2.1.2;refine Ck aV ?_;dsimp only[rM];k_in;refine lG (s:=.nd b k q x y) (by first|exact aV|rfl|exact bB aV rfl) hc ha hB (λi h=>h.1) ia (λh=>aP _ h.2) λdE tK hB1 o1 ch1=>?_
 have Fd:=hB1.1;have hx1:=hB1.2.2.1;have hy1:=hB1.2.2.2;have B8:=(o1 a ia λh=>aP _ h.2).trans ha;have hl1:=hl.frame λz hz=>o1 z hz.1 λh=>dI h.2 hz.2;k_in;refine eC (by first|exact aV|rfl|exact bB aV rfl) hx1.Of ?_
 k_in;refine yX B8 rfl (S2 _ _ _ _ _ _) λdp Vc o2 lv2=>?_;have Vc:dp a=some (node (m+(l.dJ+x.dJ)) p l.val (.ref b) c.par):=Vc.trans (congrArg some (pR (ar3 m (k+(x.dJ+y.dJ)) l.dJ x.dJ)));have TZ:=(o2 b λe=>aP _ (e▸W0)).trans Fd;have XI:Ch ix tr σ dp:=ch1.trans ⟨λz _ h2=>o2 z λe=>h2 (e▸C.cn ia),lv2⟩;k_in;refine C6 (by first|exact aV|rfl|exact bB aV rfl) Vc (hx1.frame λz hz=>o2 z λe=>aP _ (e▸hz.1.2)) (λh=>aP _ h.1.2) λjJ Xf hx3 o3 lv3=>?_
 have nb:¬((c.In ix (ix b)∧ix a<ix b)∧ix b<ix b):=λh=>aP _ h.2;have hb3:=(o3 b (λe=>aP _ (e▸W0)) nb).trans TZ;have WD:∀z,z≠a→¬((c.In ix (ix z)∧ix a<ix z)∧ix z<ix b)→jJ z=dE z:=λz h h'=>(o3 z h h').trans (o2 z h);have hy3:=hy1.frame λz hz=>WD z (λe=>aP _ (e▸hz.1.2)) λh=>dI h.2 hz.2;have hl3:=hl1.frame λz hz=>WD z (λe=>aP _ (e▸hz.2)) λh=>dI h.1.2 hz.2;have hc3:=tK.frame (λz _ hz=>WD z (λe=>hz (e▸ia)) λh=>hz h.1.1) (WD tr (tK.GF (C.cn ia)).symm λh=>tK.GF (C.cn h.1.1) rfl);have hT:cC jJ ix (λi=>c.In ix i∧i<ix b) c.par (.nd a m p l x):=⟨Xf,⟨ia,W0⟩,hl3.sub λi h=>⟨⟨h.1,fT h.2 W0⟩,h.2⟩,hx3.sub λi h=>⟨⟨h.1.1,h.2⟩,h.1.2⟩⟩;have XH:Ch ix tr σ jJ:=XI.trans ⟨λz _ h2=>o3 z (λe=>h2 (e▸C.cn ia)) λh=>h2 (C.cn h.1.1),lv3⟩;k_in;refine zu (s:=.nd a m p l x) (by first|exact aV|rfl|exact bB aV rfl) hb3 hT (λh=>aP _ h.2) λvh hb4 OX o4 lv4=>?_
 have hy4:=hy3.frame λz hz=>o4 z (λe=>aP _ (e▸hz.2)) λh=>dI h.2 hz.2;have hc4:=hc3.frame (λz _ hz=>o4 z (λe=>hz (e▸Nr)) λh=>hz h.1) (o4 tr (tK.GF (C.cn Nr)).symm λh=>tK.GF (C.cn h.1) rfl);have e:m+(l.dJ+(k+(x.dJ+y.dJ)))=k+(m+(l.dJ+x.dJ)+y.dJ):=ar4 m k x.dJ y.dJ l.dJ;k_go;refine hq _ ⟨(hc4.dJ e).frame (λz _ hz=>aC λe=>hz (e▸Nr)) (aC (tK.GF (C.cn Nr)).symm),J8 (pR e),Nr,OX.frame λz hz=>aC λe=>aP _ (e▸hz.2),
  (hy4.frame λz hz=>aC λe=>aP _ (e▸hz.2)).sub λi h=>⟨h.1.1,h.2⟩⟩ (XH.trans (Ch.trans ⟨λz _ h2=>o4 z (λe=>h2 (e▸C.cn Nr)) λh=>h2 (C.cn h.1),lv4⟩ (Ch.nd (C.cn Nr))))
end
noncomputable def T.nn(t:T):Prop:=∀e∈t.flat,0≤e.2.1
theorem T.nn.l{a n p l r}(h:(T.nd a n p l r).nn):l.nn:=λe he=>h e (aN _ he)
theorem T.nn.r{a n p l r}(h:(T.nd a n p l r).nn):r.nn:=λe he=>h e (az _ (.tail _ he))
theorem T.nn.a{a n p l r}(h:(T.nd a n p l r).nn):0≤n:=h (a,n,p) (az _ (.head _))
theorem T.nn.dJ{t:T}(h:t.nn):0≤t.dJ:=by
 induction t with
 |leaf=>exact dU _
 |nd _ _ _ _ _ i j=>exact Hp h.a (Hp (i h.l) (j h.r))
noncomputable def sumF:eE→Int
 |[]=>0
 |e::L=>e.2.1+sumF L
theorem Ko:sumF []=0:=rfl
theorem eG(e)(L:eE):sumF (e::L)=e.2.1+sumF L:=rfl
theorem bX:∀(L K:eE),sumF (L++K)=sumF L+sumF K:=by
 intro zl;induction zl with
 |nil=>
  rintro K;exact(qB _).symm
 |cons e L ih=>
  rintro K;rw[bH,eG,eG,ih K,sU]
theorem T.vG(t:T):t.dJ=sumF t.flat:=by
 induction t with
 |leaf=>rfl
 |nd a n p l r i j=>rw[show(T.nd a n p l r).flat=l.flat++(a,n,p)::r.flat from rfl,bX,eG,←i,←j];exact Int.add_left_comm _ _ _
theorem T.fP(t:T):t.size=t.flat.length:=by
 induction t with
 |leaf=>rfl
 |nd a n p l r i j=>rw[show(T.nd a n p l r).flat=l.flat++(a,n,p)::r.flat from rfl,aa,cg,←i,←j];rfl
theorem ar5(l m k x y r:Int)(h:(if x-(m+(l+r)-l+y)<0 then-(x-(m+(l+r)-l+y))else x-(m+(l+r)-l+y))<l-r):(x-(m+(y+r))).natAbs<(l-r).natAbs:=by omega
theorem ar6(l m x y r:Int)(h:(if y-(m+(l+r)-r+x)<0 then-(y-(m+(l+r)-r+x))else y-(m+(l+r)-r+x))<r-l):(m+(l+x)-y).natAbs<(l-r).natAbs:=by omega
section
variable{be:Nat}{σ:St}{Q:bw}{ix:Ix}{I:Int→Prop}{a:Addr}{m:Int}{p par:MV}{l r:T}
theorem zw(aV:ai 1 be=true)(ht:cC σ ix I par (.nd a m p l r))(hn:0≤r.dJ)
  (hq:∀z:Bool,(z=true→∃b k q x y,l=.nd b k q x y∧((x.dJ-(m+(y.dJ+r.dJ))).natAbs<(l.dJ-r.dJ).natAbs))→Q (.bool z) σ):D be (.fn 821) [.ref a] σ Q:=by
 have ha:=ht.1;refine uW aV ?_;dsimp only[kb];k_in;refine eC (by first|exact aV|rfl|exact bB aV rfl) ht.2.2.1.Of ?_
 k_in;refine eC (by first|exact aV|rfl|exact bB aV rfl) ht.2.2.2.Of ?_
 k_in;refine gi (λh=>hq false λe=>absurd e aq) λh=>?_;induction l using T.casesOn with
 |leaf=>exact absurd (show(0:Int)-r.dJ≤0 by omega) h
 |nd b k q x y=>
  have hb:=ht.2.2.1.1;k_in;refine eC (by first|exact aV|rfl|exact bB aV rfl) ht.2.2.1.2.2.1.Of ?_
  k_in;refine eC (by first|exact aV|rfl|exact bB aV rfl) ht.2.2.1.2.2.2.Of ?_
  k_in;exact hq _ λhz=>⟨b,k,q,x,y,rfl,ar5 (k+(x.dJ+y.dJ)) m k x.dJ y.dJ r.dJ (of_decide_eq_true hz)⟩
theorem Bi(aV:ai 1 be=true)(ht:cC σ ix I par (.nd a m p l r))(hn:0≤l.dJ)
  (hq:∀z:Bool,(z=true→∃b k q x y,r=.nd b k q x y∧((m+(l.dJ+x.dJ)-y.dJ).natAbs<(l.dJ-r.dJ).natAbs))→Q (.bool z) σ):D be (.fn 828) [.ref a] σ Q:=by
 have ha:=ht.1;refine wU aV ?_;dsimp only[lL];k_in;refine eC (by first|exact aV|rfl|exact bB aV rfl) ht.2.2.2.Of ?_
 k_in;refine eC (by first|exact aV|rfl|exact bB aV rfl) ht.2.2.1.Of ?_
 k_in;refine gi (λh=>hq false λe=>absurd e aq) λh=>?_;induction r using T.casesOn with
 |leaf=>exact absurd (show(0:Int)-l.dJ≤0 by omega) h
 |nd b k q x y=>
  have hb:=ht.2.2.2.1;k_in;refine eC (by first|exact aV|rfl|exact bB aV rfl) ht.2.2.2.2.2.2.Of ?_
  k_in;refine eC (by first|exact aV|rfl|exact bB aV rfl) ht.2.2.2.2.2.1.Of ?_
  k_in;exact hq _ λhz=>⟨b,k,q,x,y,rfl,ar6 l.dJ m x.dJ y.dJ (k+(x.dJ+y.dJ)) (of_decide_eq_true hz)⟩
end
noncomputable def T.dif:T→Nat
 |.leaf=>0
 |.nd _ _ _ l r=>(l.dJ-r.dJ).natAbs
structure Mi(ix:Ix)(tr:Addr)(σ av:St):Prop where
 off:∀z,z≠tr→¬0<ix z→σ z≠none→av z=σ z
 lv:∀z,σ z≠none→av z≠none
theorem Ch.g{ix:Ix}{tr:Addr}{σ av:St}(h:Ch ix tr σ av):Mi ix tr σ av:=⟨λz a b _=>h.off z a b,h.lv⟩
theorem Mi.trans{ix:Ix}{tr:Addr}{σ av gm:St}(h:Mi ix tr σ av)(k:Mi ix tr av gm):Mi ix tr σ gm:=⟨λz a b d=>(k.off z a b (h.lv z d)).trans (h.off z a b d),λz a=>k.lv z (h.lv z a)⟩
theorem Mi.new{ix:Ix}{tr w:Addr}{σ av:St}{o:MO}(h:Mi ix tr σ av)(hw:σ w=none):Mi ix tr σ (upd av w o):=⟨λz a b d=>(aC λe=>d ((congrArg σ e).trans hw)).trans (h.off z a b d),λz a=>fb z (h.lv z a)⟩
theorem Mi.none{ix:Ix}{tr w:Addr}{σ av:St}(h:Mi ix tr σ av)(hw:av w=.none):σ w=.none:=eJ λk=>h.lv w k hw
noncomputable def iG(σ av:St):St:=λz=>match σ z with
 |none=>none
 |some _=>av z
theorem hG{σ av:St}{z:Addr}(h:σ z≠none):iG σ av z=av z:=by
 unfold iG;induction e:σ z with
 |none=>exact absurd e h
 |some o=>rfl
theorem RV{σ av:St}{z:Addr}{o:MO}(h:iG σ av z=some o):av z=some o:=by
 unfold iG at h;induction e:σ z with
 |none=>rw[e]at h;cases h
 |some o=>rw[e]at h;exact h
theorem Mi.trim{ix:Ix}{tr:Addr}{σ av:St}(h:Mi ix tr σ av):Ch ix tr σ (iG σ av):=⟨λz a b=>by
 induction e:σ z with
 |none=>unfold iG;rw[e]
 |some o=>rw[hG (aZ e),h.off z a b (aZ e),e],λz a=>by rw[hG a];exact h.lv z a⟩
theorem D.iG{be:Nat}{f:MV}{vs:List MV}{σ:St}{Q:bw}(h:D be f vs σ λm av=>Q m (iG σ av)):D be f vs σ Q:=
 D.less h λ_ av q=>⟨Mine.Internal.iG σ av,λ_ _=>RV,q⟩
noncomputable def T1(d:Bool)(b:Addr)(k:Int)(q:MV)(o s:T):T:=bif d then .nd b k q s o else .nd b k q o s
theorem At.side{σ:St}{ix:Ix}{tr b:Addr}{c:C}{k:Int}{q:MV}{o s:T}{d:Bool}(h:At σ ix tr c (T1 d b k q o s)):At σ ix tr (.side d b k q o c) s:=by
 induction d with
 |true=>exact h.left
 |false=>exact h.right
theorem At.Iy{σ:St}{ix:Ix}{tr b:Addr}{c:C}{k:Int}{q:MV}{o s:T}{d:Bool}(H:At σ ix tr (.side d b k q o c) s):At σ ix tr c (T1 d b k q o s):=by
 induction H with|mk h t=>induction d with
 |true=>exact⟨h.2.2.2,h.1,h.2.1,t,h.2.2.1⟩
 |false=>exact⟨h.2.2.2,h.1,h.2.1,h.2.2.1,t⟩
theorem En{d:Bool}{b:Addr}{k:Int}{q:MV}{o s s':T}(h:s'.flat=s.flat):(T1 d b k q o s').flat=(T1 d b k q o s).flat:=by
 cases d
 ·exact congrArg (λL=>o.flat++(b,k,q)::L) h
 ·exact congrArg (λL=>L++(b,k,q)::o.flat) h
theorem NV{d:Bool}{b:Addr}{k:Int}{q:MV}{o s:T}:(T1 d b k q o s).val=.ref b:=by cases d<;>rfl
theorem XU{d:Bool}{b:Addr}{k:Int}{q:MV}{o s:T}:(T1 d b k q o s).size=o.size+s.size+1:=by
 cases d
 ·rfl
 ·exact congrArg (·+1) (jQ _ _)
theorem At.pos{σ:St}{ix:Ix}{tr:Addr}{c:C}{t:T}{a:Addr}(h:At σ ix tr c t)(e:t.val=.ref a):0<ix a:=by
 induction t using T.casesOn with
 |leaf=>cases e
 |nd b n p l r=>cases e;exact C.cn h.tree.2.1
theorem a4M{a b l:Nat}(h:a+(b+1)≤l)(h0:0<b):a+2≤l:=by lia
theorem sz1{x y z N:Nat}(h:x+y+1=z)(k:z≤N+1):y≤N:=by lia
theorem sz2{r x y z l:Nat}(h:x+y+1=z)(k:r+z≤l):r+1+y≤l:=by lia
theorem a1J{d:Bool}{b:Addr}{k:Int}{q:MV}{o s:T}{e}(h:e∈s.flat):e∈(T1 d b k q o s).flat:=by
 cases d
 ·exact az _ (.tail _ h)
 ·exact aN _ h
theorem len_pos(l:List MV)(v:MV):(0:Int)<((l++[v]).length:Int):=by rw[aa];exact Int.natCast_pos.mpr (gX _)
theorem Ei{x y r:T}{d b:Addr}{m k:Int}{p q:MV}:(T.nd b k q x (.nd d m p y r)).flat=(T.nd d m p (.nd b k q x y) r).flat:=by
 simp only[T.flat,af,bH]
theorem szr{r x y z l:Nat}(h:r+(x+y+1+z+1)≤l):r+2≤l:=by lia
theorem szl{r x y z l:Nat}(h:r+(z+(x+y+1)+1)≤l):r+2≤l:=by lia
section
variable{be:Nat}{σ:St}{Q:bw}{ix:Ix}{tr a:Addr}{c:C}{t:T}
set_option maxHeartbeats 1000000 in
theorem UH(aV:ai 2 be=true)(hA:At σ ix tr c t)(hv:t.val=.ref a)(hnn:t.nn)(hs:t.size≤100000)(hl:∀z,0<ix z→σ z≠none)
  (hq:∀t' av,At av ix tr c t'→t'.flat=t.flat→Ch ix tr σ av→Q t'.val av):D be (.fn 835) [.ref tr,.ref a] σ Q:=by
 refine D.iG (LB aV ?_);have YC:σ tr≠none:=hA.ctx.tr.elim λ_ e=>aZ e;dsimp only[Gg];k_in;intro w hw;have nw:∀z,0<ix z→z≠w:=λz p e=>hl z p ((congrArg σ e).trans hw);have ntw:tr≠w:=λe=>YC ((congrArg σ e).trans hw);have iw:¬0<ix w:=λp=>nw w p rfl;k_in;refine dS λP hP=>?_;have key:∀N D:Nat,∀(c:C)(t:T)(d τ:Addr)(dE:St)(rest:List MV)(h s:Option MV),t.size≤N→t.dif=D→t.val=.ref d→At dE ix tr c t→t.nn→rest.length+t.size≤lim→
   dE w=some (.list (rest++[.ref d]))→Mi ix tr σ dE→0<ix τ→(d≠τ→¬c.In ix (ix τ))→
   (∀t' dp τ' h' s',At dp ix tr c t'→t'.flat=t.flat→dp w=some (.list rest)→Mi ix tr σ dp→(d=τ→t'.val=.ref τ')→(d≠τ→τ'=τ)→
    P [(aY,some (.ref tr)),(aB,some (.ref a)),(eF,some (.ref w)),(rZ,some (.ref τ')),(eZ,h'),(cH,s')] dp)→
   P [(aY,some (.ref tr)),(aB,some (.ref a)),(eF,some (.ref w)),(rZ,some (.ref τ)),(eZ,h),(cH,s)] dE:=by
  intro N;induction N with
  |zero=>
   intro D c t d τ dE rest h s h1 _ h2;induction t using T.casesOn with
   |leaf=>exact MV.noConfusion h2
   |nd=>exact absurd h1 (oJ _)
  |succ N ihN=>
   intro D;induction D using Vh with
   |ind D ihD=>
    intro c t d τ dE rest hv sv xD hD hvd hA hnn Ql YB hR hτ a06 hk;have fin:∀(dd:Bool)(b:Addr)(k:Int)(q:MV)(o S:T)(Pw v:Addr)(vh:St)(h s:Option MV),At vh ix tr c (T1 dd b k q o S)→S.val=.ref d→(T1 dd b k q o S).flat=t.flat→(∀S':T,S'.dJ=S.dJ→(T1 dd b k q o S').dif<D)→
      Mi ix tr σ vh→(d=τ→Pw=b)→(d≠τ→Pw=τ)→vh v=none→
      P [(aY,some (.ref tr)),(aB,some (.ref a)),(eF,some (.ref w)),(rZ,some (.ref Pw)),(eZ,h),(cH,s)] (upd (upd vh v (.list [.ref b,.ref d])) w (.list (rest++[.ref b,.ref d]))):=by
     intro dd b k q o S Pw v vh h s YQ hS hf DK hR4 e1 e2 hv4;have nn4:(T1 dd b k q o S).nn:=λe he=>hnn e (rwr hf he);have sz:o.size+S.size+1=t.size:=XU.symm.trans (by rw[T.fP,hf,←T.fP])
     have id:C.In ix (.side dd b k q o c) (ix d):=by
      induction S using T.casesOn with
      |leaf=>exact MV.noConfusion hS
      |nd=>exact rwr (We hS) YQ.side.tree.2.1
     have a3L:0<ix Pw:=if e:d=τ then rwl (e1 e) (YQ.pos NV)else rwl (e2 e) hτ;have hd1:d≠Pw:=λe=>if e':d=τ then vU (((e1 e').symm.trans e.symm)▸id.2)else e' (e.trans (e2 e'));have hv0:=hR4.none hv4;have YQ:At (upd (upd vh v (.list [.ref b,.ref d])) w (.list (rest++[.ref b,.ref d]))) ix tr c (T1 dd b k q o S):=
      YQ.frame (λz p=>(aC (nw z p)).trans (aC ((λz p e=>hl z p ((congrArg σ e).trans hv0)) z p))) ((aC ntw).trans (aC λe=>YC ((congrArg σ e).trans hv0)))
     refine ihN _ (.side dd b k q o c) S d Pw _ (rest++[.ref b]) _ _ (sz1 sz xD) rfl hS YQ.side (λe he=>nn4 e (a1J he)) (by rw[aa];exact sz2 sz Ql) (by rw[ak,af];rfl) ((hR4.new hv0).new hw) a3L
      (λ_=>if e:d=τ then rwr (e1 e) (λh=>vU h.2)else rwl (e2 e) (λh=>a06 e h.1)) λt' qJ τ' h' s' hA5 U' hw5 hR5 _ t2=>?_
     rw[t2 hd1];exact ihD _ (DK t' (by rw[T.vG,U',←T.vG])) c (T1 dd b k q o t') b Pw qJ rest h' s' (by rw[T.fP,En U',hf,←T.fP];exact xD) rfl NV hA5.Iy (λe he=>nn4 e (rwr (En U') he)) (by rw[T.fP,En U',hf,←T.fP];exact Ql) hw5 hR5 a3L
      (λe=>if e':d=τ then absurd (e1 e').symm e else rwl (e2 e') (a06 e')) λt'' pE a4O h'' s'' hA7 hf7 hw7 hR7 t3 t4=>
       hk t'' pE a4O h'' s'' hA7 (hf7.trans ((En U').trans hf)) hw7 hR7 (λe=>t3 (e1 e).symm) λe=>(t4 λx=>a06 e (rwr ((x.trans (e2 e))) YQ.side.ctx.2.1)).trans (e2 e)
    induction t using T.casesOn with
    |leaf=>cases hvd
    |nd d' m p l r=>
    cases hvd;apply hP;k_in;refine pk (len_pos rest _) ?_;k_in;have Rd:At (upd dE w (.list rest)) ix tr c (.nd d m p l r):=hA.frame (λz p=>aC (nw z p)) (aC ntw);have hR2:=hR.new (o:=.list rest) hw;have OO:upd dE w (.list rest) w=some (.list rest):=ak ..;revert Rd hR2 OO;generalize upd dE w (.list rest)=dp;intro Rd hR2 OO;refine zw (by first|exact aV|rfl|exact bB aV rfl) Rd.tree hnn.r.dJ λz hz=>?_
    cases z with
    |true=>
     refine ex5 (hz rfl) λb k q x y zh=>rU zh λzr5 DK=>?_;subst zr5;k_in;refine FT (by first|exact aV|rfl|exact bB aV rfl) Rd λjJ hA3 XH=>?_
     have hd3:=hA3.tree.2.2.2.1;have hR3:=hR2.trans XH.g;have U9:=(XH.off w ntw.symm iw).trans OO;refine Cc (Eo.mp (hR3.lv τ (hl τ hτ))) λo a5m=>?_;have lt:∀S':T,S'.dJ=(T.nd d m p y r).dJ→(T1 false b k q x S').dif<D:=λS' e=>hD▸(show(x.dJ-S'.dJ).natAbs<_ from rwl e DK);k_in;refine gi (λe=>?_) λe=>?_
     ·k_in;intro v he;k_in;refine vN (rz he U9) (ak ..) (szr Ql) (λe=>aZ U9 (rwl e he)) ?_;exact fin false b k q x (.nd d m p y r) b v jJ _ _ hA3 rfl Ei lt hR3 (λ_=>rfl) (λh=>absurd e h) he
     ·k_in;intro v he;k_in;refine vN (rz he U9) (ak ..) (szr Ql) (λe=>aZ U9 (rwl e he)) ?_;exact fin false b k q x (.nd d m p y r) τ v jJ _ _ hA3 rfl Ei lt hR3 (λh=>absurd h e) (λ_=>rfl) he
    |false=>
     k_in;refine Bi (by first|exact aV|rfl|exact bB aV rfl) Rd.tree hnn.l.dJ λz hz=>?_
     cases z with
     |true=>
      refine ex5 (hz rfl) λb k q x y zh=>rU zh λzr5 DK=>?_;subst zr5;k_in;refine Hd (by first|exact aV|rfl|exact bB aV rfl) Rd λjJ hA3 XH=>?_
      have hd3:=hA3.tree.2.2.1.1;have hR3:=hR2.trans XH.g;have U9:=(XH.off w ntw.symm iw).trans OO;obtain⟨o,a5m⟩:=Eo.mp (hR3.lv τ (hl τ hτ));have lt:∀S':T,S'.dJ=(T.nd d m p l x).dJ→(T1 true b k q y S').dif<D:=λS' e=>hD▸(show(S'.dJ-y.dJ).natAbs<_ from rwl e DK);k_in;refine gi (λe=>?_) λe=>?_
      ·k_in;intro v he;k_in;refine vN (rz he U9) (ak ..) (szl Ql) (λe=>aZ U9 (rwl e he)) ?_;exact fin true b k q y (.nd d m p l x) b v jJ _ _ hA3 rfl Ei.symm lt hR3 (λ_=>rfl) (λh=>absurd e h) he
      ·k_in;intro v he;k_in;refine vN (rz he U9) (ak ..) (szl Ql) (λe=>aZ U9 (rwl e he)) ?_;exact fin true b k q y (.nd d m p l x) τ v jJ _ _ hA3 rfl Ei.symm lt hR3 (λh=>absurd h e) (λ_=>rfl) he
     |false=>
      k_in;exact hk (.nd d m p l r) dp τ _ _ Rd rfl OO hR2 (λe=>congrArg MV.ref e) λ_=>rfl
 refine key _ _ c t a a _ [] _ _ hs rfl hv (hA.frame (λz p=>aC (nw z p)) (aC ntw)) hnn (ah (c9 hs 0) (bh rfl)) (ak ..) (Mi.new ⟨λ_ _ _ _=>rfl,λ_ h=>h⟩ hw) (hA.pos hv) (λh=>absurd rfl h) λt' dp τ' h' s' Rd hf OO hR2 e1 _=>?_;apply hP;k_in;refine px (aP _) ?_;k_in;rw[←e1 rfl];exact hq t' _ (Rd.frame (λz p=>hG (hl z p)) (hG YC)) hf hR2.trim
end
theorem SN{c:C}{t:T}{e}(h:e∈t.flat):e∈(c.iU t).flat:=by rw[C.dz];exact aN _ (az _ h)
theorem PO{c:C}{t:T}:t.size≤(c.iU t).size:=by rw[T.fP,T.fP,C.dz,aa,aa];lia
theorem Wn{c:C}{t t':T}(h:t'.flat=t.flat):(c.iU t').flat=(c.iU t).flat:=by rw[C.dz,C.dz,h]
theorem Wo{d:Bool}{b:Addr}{k:Int}{q:MV}{o s:T}{c:C}:(C.side d b k q o c).iU s=c.iU (T1 d b k q o s):=by cases d<;>rfl
theorem a2A{d:Bool}{k h s m:Int}:k+(bif d then h+s else s+h)+m=k+(bif d then h+m+s else s+(h+m)):=by cases d<;>(dsimp only[cond];lia)
theorem ar7(m l r:Int):m+(l+r)-l-r=m:=by lia
theorem ar8(s l m r:Int)(h:a<s+(m+(l+r))):a<s+l+m+r:=by lia
section
variable{be:Nat}{σ:St}{Q:bw}{ix:Ix}{tr:Addr}{c:C}{t:T}
theorem wZ(aV:ai 3 be=true)(hA:At σ ix tr c t)(hnn:(c.iU t).nn)(hs:(c.iU t).size≤100000)(hl:∀z,0<ix z→σ z≠none)
  (hq:∀t' av,At av ix tr .top t'→t'.flat=(c.iU t).flat→Ch ix tr σ av→Q .none av):D be (.fn 842) [.ref tr,c.par] σ Q:=by
 refine FA aV ?_;dsimp only[xc];k_in;refine dS λP hP=>?_;have key:∀(c':C)(t':T)(av:St),At av ix tr c' t'→(c'.iU t').flat=(c.iU t).flat→Ch ix tr σ av→P [(aY,some (.ref tr)),(aB,some c'.par)] av:=by
  intro c';induction c' with
  |top=>
   intro t' av JL hf ch;apply hP;dsimp[C.par];exact hq t' av JL hf ch
  |side d b k q s c2 ih=>
   intro t' av JL hf ch;rw[Wo]at hf;apply hP;dsimp[C.par];refine UH (by first|exact aV|rfl|exact bB aV rfl) JL.Iy NV (λe he=>hnn e (rwr hf (SN he))) (ah PO (by rw[T.fP,hf,←T.fP];exact hs)) (λz p=>ch.lv z (hl z p)) λt2 dp Rd Mf XI=>?_
   induction t2 using T.casesOn with
   |leaf=>cases d<;>exact absurd (congrArg bl Mf).symm (by simp[T1,T.flat])
   |nd e k2 q2 x y=>
    have he:=Rd.tree.1;k_in;exact ih _ dp Rd ((Wn Mf).trans hf) (ch.trans XI)
 exact key c t σ hA rfl (Ch.refl _ _ _)
theorem xa{v:MV}{h m:Int}(aV:ai 0 be=true)(hc:d8 σ ix tr c v h)
  (hq:∀av,d8 av ix tr c v (h+m)→(∀z,(0<ix z→c.In ix (ix z))→av z=σ z)→(∀z,σ z≠none→av z≠none)→Q .none av):D be (.fn 849) [c.par,.int m] σ Q:=by
 refine FJ aV ?_;dsimp only[xk];k_in;refine dS λP hP=>?_;have key:∀(c:C)(v:MV)(h:Int)(σ:St),d8 σ ix tr c v h→
   (∀av,d8 av ix tr c v (h+m)→(∀z,(0<ix z→c.In ix (ix z))→av z=σ z)→(∀z,σ z≠none→av z≠none)→P [(aB,some .none),(bE,some (.int m))] av)→
   P [(aB,some c.par),(bE,some (.int m))] σ:=by
  intro c;induction c with
  |top=>exact λv h σ hc hk=>hk σ hc (λ_ _=>rfl) λ_ h=>h
  |side d b k q s c ih=>
   intro v h σ hc hk;have hb:σ b=some (.inst 733 (nr (k+(bif d then h+s.dJ else s.dJ+h)) q (bif d then v else s.val) (bif d then s.val else v) c.par)):=hc.1;have ib:=hc.2.1;apply hP;dsimp[C.par];k_in;refine yX hb rfl (S2 _ _ _ _ _ _) λdp TZ o2 lv2=>?_;k_in;refine ih (.ref b) _ dp (hc.2.2.2.frame (λz _ k=>o2 z (sj ib k)) (o2 tr (hc.2.2.2.GF (C.cn ib)).symm)) λav h1 o3 lv3=>?_;have nb:∀z,(0<ix z→c.In ix (ix z))→z≠b→av z=σ z:=λz h e=>(o3 z h).trans (o2 z e);refine hk av ⟨(o3 b λ_=>ib).trans (TZ.trans (by rw[←a2A];rfl)),ib,hc.2.2.1.frame λz hz=>nb z (λ_=>hz.1) λe=>vU (e▸hz.2),h1.dJ a2A⟩ (λz hz=>nb z (λp=>(hz p).1) λe=>vU (e▸(hz (rwl e (C.cn ib))).2)) λz hz=>lv3 z (lv2 z hz)
 refine key c v h σ hc λav h1 h2 h3=>?_;apply hP;k_in;exact hq av h1 h2 h3
theorem YY{a:Addr}{m:Int}{p par:MV}{l r:T}{I:Int→Prop}(aV:ai 1 be=true)(ht:cC σ ix I par (.nd a m p l r))(hq:Q (.int m) σ):D be (.fn 772) [.ref a] σ Q:=
 Jr (by first|exact aV|rfl|exact bB aV rfl) ht.1 ht.2.2.1.Of ht.2.2.2.Of (by rw[ar7];exact hq)
theorem D5{at_:Int}(aV:ai 2 be=true)(hA:At σ ix tr .top t)(h0:0≤at_)(h1:at_<t.dJ)
  (hq:∀(c:C)(a:Addr)(m:Int)(p:MV)(l r:T),c.iU (.nd a m p l r)=t→sumF (c.L++l.flat)≤at_→at_<sumF (c.L++l.flat)+m→Q (.tup [.ref a,.int (sumF (c.L++l.flat))]) σ):
  D be (.fn 856) [.ref tr,.int at_] σ Q:=by
 have YC:=hA.ctx.1;refine zq aV ?_;dsimp only[oB];k_in;refine dS λP hP=>?_;have key:∀(t':T)(c:C)(g o:Option MV),At σ ix tr c t'→c.iU t'=t→sumF c.L≤at_→at_<sumF c.L+t'.dJ→
   P [(aY,some (.ref tr)),(x_at,some (.int at_)),(aB,some t'.val),(aT,some (.int (sumF c.L))),(ja,g),(vy,o)] σ:=by
  intro t';induction t' with
  |leaf=>exact λc g o _ _ h3 h4=>absurd h4 (by rw[T.dJ,fh];exact dc.mpr h3)
  |nd a m p l r ihl ihr=>
   intro c g o JL h2 h3 h4;have ha:=JL.tree.1;have e2:sumF c.L+l.dJ=sumF (c.L++l.flat):=by rw[bX,←T.vG]
   apply hP;k_in;refine eC (by first|exact aV|rfl|exact bB aV rfl) JL.tree.2.2.1.Of ?_
   k_in;refine YY (by first|exact aV|rfl|exact bB aV rfl) JL.tree ?_
   k_in;refine gi (λh=>?_) λh=>?_
   ·k_in;exact ihl (.side true a m p r c) _ _ JL.left h2 h3 h
   ·k_in;refine gi (λh'=>?_) λh'=>?_
    ·k_in;rw[e2]at h h'⊢;exact hq c a m p l r h2 (dc.mp h) h'
    ·have e3:sumF c.L+l.dJ+m=sumF (C.side false a m p l c).L:=by rw[e2,C.L,bX (c.L++l.flat)];exact congrArg _ (fh m).symm
     k_in;rw[e3]at h'⊢;exact ihr (.side false a m p l c) _ _ JL.right h2 (dc.mp h') (by rw[←e3];exact ar8 _ _ _ _ h4)
 exact key t .top _ _ hA rfl h0 (by rw[C.L,Ko,qB];exact h1)
end
noncomputable def sy:eE→MV
 |[]=>.none
 |e::_=>.ref e.1
noncomputable def yl(L:eE):MV:=sy L.reverse
theorem T.Xm{a:Addr}{n:Int}{p:MV}{l r:T}:(T.nd a n p l r).flat≠[]:=zO _ (d7 _ _)
theorem T.Li{t:T}(h:t.flat=[]):t=.leaf:=by
 induction t using T.casesOn with
 |leaf=>rfl
 |nd=>exact absurd h T.Xm
theorem a1Z{L M N:eE}(h:L≠[]):sy (L++M)=sy (L++N):=by
 induction L using aF with
 |nil=>exact absurd rfl h
 |cons e L=>rfl
noncomputable abbrev JC:=List (Addr×Int×MV×T)
noncomputable def CK:JC→T→T
 |[],t=>t
 |(a,k,q,y)::P,t=>CK P (.nd a k q t y)
noncomputable def toC(c:C):JC→C
 |[]=>c
 |(a,k,q,y)::P=>.side true a k q y (toC c P)
theorem toC_plug:∀(P:JC)(c:C)(t:T),(toC c P).iU t=c.iU (CK P t):=by
 intro zl;induction zl with
 |nil=>
  rintro _ _;exact rfl
 |cons zx P ih=>
  obtain⟨_,_,_,_⟩:=zx;rintro c _;exact ih c _
theorem toC_L{c:C}{P:JC}:(toC c P).L=c.L:=by
 induction P with
 |nil=>rfl
 |cons _ _ ih=>exact ih
section
variable{be:Nat}{σ:St}{Q:bw}{ix:Ix}{tr:Addr}{c:C}{t:T}
theorem C9{I:Int→Prop}{par:MV}(aV:ai 0 be=true)(ht:cC σ ix I par t)(hl:t≠.leaf)(hq:∀P b m p r,CK P (.nd b m p .leaf r)=t→Q (.ref b) σ):D be (.fn 863) [t.val] σ Q:=by
 refine G8 aV ?_;dsimp only[zF];k_in;refine dS λP hP=>?_;have key:∀(t':T)(p:JC)(I:Int→Prop)(par:MV),cC σ ix I par t'→t'≠.leaf→CK p t'=t→P [(aB,some t'.val)] σ:=by
  intro t';induction t' with
  |leaf=>exact λp _ _ _ h=>absurd rfl h
  |nd a m p l r ihl ihr=>
   intro pa I par h1 _ h3;have ha:=h1.1;apply hP;k_in;induction l using T.casesOn with
   |leaf=>
    k_in;exact hq pa a m p r h3
   |nd b k q x y=>
    k_in;exact ihl ((a,m,p,r)::pa) _ _ h1.2.2.1 (λe=>T.noConfusion e) h3
 exact key t [] I par ht hl rfl
theorem FZ(aV:ai 0 be=true)(hA:At σ ix tr c t)(hl:t≠.leaf)
  (hq:∀(c':C)(b:Addr)(m:Int)(p:MV)(r:T),At σ ix tr c' (.nd b m p .leaf r)→c'.iU (.nd b m p .leaf r)=c.iU t→c'.L=c.L→Q (.ref b) σ):D be (.fn 863) [t.val] σ Q:=
 C9 (by first|exact aV|rfl|exact bB aV rfl) hA.tree hl λP b m p r e=>by
  have h:=(toC_plug P c (.nd b m p .leaf r)).trans (congrArg c.iU e);exact hq (toC c P) b m p r (At.down (rwl h hA.up)) h toC_L
theorem C7(aV:ai 0 be=true)(hA:At σ ix tr c t)(hl:t≠.leaf)
  (hq:∀(c':C)(b:Addr)(m:Int)(p:MV)(l:T),c'.iU (.nd b m p l .leaf)=c.iU t→c'.R=c.R→Q (.ref b) σ):D be (.fn 870) [t.val] σ Q:=by
 refine FC aV ?_;dsimp only[xd];k_in;refine dS λP hP=>?_;have key:∀(t':T)(c':C),At σ ix tr c' t'→t'≠.leaf→c'.iU t'=c.iU t→c'.R=c.R→P [(aB,some t'.val)] σ:=by
  intro t';induction t' with
  |leaf=>exact λc' _ h=>absurd rfl h
  |nd a m p l r ihl ihr=>
   intro c' h1 _ h3 h4;have ha:=h1.tree.1;apply hP;k_in;induction r using T.casesOn with
   |leaf=>
    k_in;exact hq c' a m p l h3 h4
   |nd b k q x y=>
    k_in;exact ihr (.side false a m p l c') h1.right (λe=>T.noConfusion e) h3 h4
 exact key t c hA hl rfl rfl
theorem LR{a:Addr}{m:Int}{p:MV}{l r:T}(aV:ai 1 be=true)(hA:At σ ix tr c (.nd a m p l r))(hq:Q (sy (r.flat++c.R)) σ):D be (.fn 877) [.ref a] σ Q:=by
 have ha:=hA.tree.1;refine FH aV ?_;dsimp only[xj];k_in;induction r using T.casesOn with
 |nd b k q x y=>
  k_in;refine FZ (t:=.nd b k q x y) (by first|exact aV|rfl|exact bB aV rfl) hA.right (λe=>T.noConfusion e) λc' b' m' p' r' _ h1 h2=>?_
  have e:=congrArg T.flat h1;rw[C.dz,C.dz,h2,af,af]at e;have e:(b',m',p')::(r'.flat++c'.R)=(T.nd b k q x y).flat++c.R:=kN e;rw[←e]at hq;k_in;exact hq
 |leaf=>
  k_in;refine dS λP hP=>?_;have key:∀(c':C)(t':T)(b:Addr),At σ ix tr c' t'→t'.val=.ref b→sy c'.R=sy c.R→P [(aB,some (.ref b))] σ:=by
   intro c';induction c' with
   |top=>
    intro t' b h1 h2 h3;induction t' using T.casesOn with
    |leaf=>cases h2
    |nd b' k q x y=>
     cases h2;have hb:=h1.tree.1;apply hP;k_in;rw[←show sy c.R=sy ((T.leaf).flat++c.R)from rfl,←h3]at hq;dsimp[C.par];k_in;exact hq
   |side d e k q s c2 ih=>
    intro t' b h1 h2 h3;induction t' using T.casesOn with
    |leaf=>cases h2
    |nd b' k' q' x y=>
     cases h2;have hb:σ b=some (node (k'+(x.dJ+y.dJ)) q' x.val y.val (.ref e)):=h1.tree.1;apply hP;k_in;cases d with
     |true=>
      have he:σ e=some (node _ q (.ref b) s.val c2.par):=h1.ctx.1;have hq:Q (.ref e) σ:=rwr ((show sy c.R=.ref e from h3.symm)) hq;k_in;induction s using T.casesOn with
      |leaf=>
       k_in;exact hq
      |nd f k3 q3 x3 y3=>
       have hf:=h1.ctx.2.2.1.1;k_in;refine px (λh=>I8 h1.ctx.2.2.1.2.1.2 (rwl h h1.tree.2.1.2)) ?_;k_in;exact hq
     |false=>
      have he:σ e=some (node _ q s.val (.ref b) c2.par):=h1.ctx.1;k_in;refine pk rfl ?_;k_in;exact ih (.nd e k q s (.nd b k' q' x y)) e (At.Iy (d:=false) h1) rfl h3
  exact key c (.nd a m p l .leaf) a hA rfl rfl
theorem C8{a:Addr}{m:Int}{p:MV}{l r:T}(aV:ai 1 be=true)(hA:At σ ix tr c (.nd a m p l r))(hq:Q (yl (c.L++l.flat)) σ):D be (.fn 884) [.ref a] σ Q:=by
 have ha:=hA.tree.1;refine FE aV ?_;dsimp only[xf];k_in;induction l using T.casesOn with
 |nd b k q x y=>
  k_in;refine C7 (t:=.nd b k q x y) (by first|exact aV|rfl|exact bB aV rfl) hA.left (λe=>T.noConfusion e) λc' b' m' p' r' h1 h2=>?_
  have e:=congrArg T.flat h1;rw[C.dz,C.dz,h2]at e;have e:c'.L++(T.nd b' m' p' r' .leaf).flat=c.L++(T.nd b k q x y).flat:=Ie e;rw[←e,yl,T.flat,T.flat,bD,bD]at hq;k_in;exact hq
 |leaf=>
  k_in;refine dS λP hP=>?_;have key:∀(c':C)(t':T)(b:Addr),At σ ix tr c' t'→t'.val=.ref b→yl c'.L=yl c.L→P [(aB,some (.ref b))] σ:=by
   intro c';induction c' with
   |top=>
    intro t' b h1 h2 h3;induction t' using T.casesOn with
    |leaf=>cases h2
    |nd b' k q x y=>
     cases h2;have hb:=h1.tree.1;apply hP;k_in;rw[T.flat,ay,←h3]at hq;dsimp[C.par];k_in;exact hq
   |side d e k q s c2 ih=>
    intro t' b h1 h2 h3;induction t' using T.casesOn with
    |leaf=>cases h2
    |nd b' k' q' x y=>
     cases h2;have hb:σ b=some (node (k'+(x.dJ+y.dJ)) q' x.val y.val (.ref e)):=h1.tree.1;apply hP;k_in;cases d with
     |false=>
      have he:σ e=some (node _ q s.val (.ref b) c2.par):=h1.ctx.1;rw[T.flat,ay,←h3,yl,C.L,bD]at hq;have hq:Q (.ref e) σ:=hq;k_in;induction s using T.casesOn with
      |leaf=>
       k_in;exact hq
      |nd f k3 q3 x3 y3=>
       have hf:=h1.ctx.2.2.1.1;k_in;refine px (λh=>I8 h1.ctx.2.2.1.2.1.2 (rwl h h1.tree.2.1.2)) ?_;k_in;exact hq
     |true=>
      have he:σ e=some (node _ q (.ref b) s.val c2.par):=h1.ctx.1;k_in;refine pk rfl ?_;k_in;exact ih (.nd e k q (.nd b k' q' x y) s) e (At.Iy (d:=true) h1) rfl h3
  exact key c (.nd a m p .leaf r) a hA rfl rfl
end
noncomputable def TL(σ:St)(tr:Addr)(L:eE):Prop:=∃ix t,At σ ix tr .top t∧t.flat=L∧∀z,0<ix z→z∈L.map (·.1)
noncomputable abbrev foot(tr:Addr)(L:eE):List Addr:=tr::L.map (·.1)
theorem cC.each{σ:St}{ix:Ix}{t:T}{I:Int→Prop}{par:MV}(H:cC σ ix I par t)(z)(h:z∈t.flat.map (·.1)):I (ix z)∧∃m p l r q,σ z=some (node m p l r q):=by
 induction t generalizing I par with
 |leaf=>exact absurd h aD
 |nd a n p l r il ir=>
  rw[show(T.nd a n p l r).flat=l.flat++_ from rfl,aJ]at h;exact(aU.mp h).elim (λh=>⟨(il H.2.2.1 h).1.1,(il H.2.2.1 h).2⟩) λh=>(aE.mp h).elim (λe=>rwl e (⟨H.2.1,_,_,_,_,_,H.1⟩)) λh=>⟨(ir H.2.2.2 h).1.1,(ir H.2.2.2 h).2⟩
theorem cC.nodup{σ:St}{ix:Ix}{t:T}{I:Int→Prop}{par:MV}(H:cC σ ix I par t):(t.flat.map (·.1)).Nodup:=by
 induction t generalizing I par with
 |leaf=>exact .nil
 |nd a n p l r il ir=>
  rw[show(T.nd a n p l r).flat=l.flat++_ from rfl,aJ];refine QU.mpr ⟨il H.2.2.1,dw.mpr ⟨λh=>aP _ (H.2.2.2.each _ h).1.2,ir H.2.2.2⟩,λx hx y hy e=>?_⟩;have lx:=(H.2.2.1.each x hx).1.2;exact(aE.mp hy).elim (λh=>aP _ ((e.trans h)▸lx)) λh=>dI (e▸lx) (H.2.2.2.each y h).1.2
theorem TL.each{σ:St}{tr:Addr}{L:eE}(h:TL σ tr L):∀z,z∈L.map (·.1)→z≠tr∧∃m p l r q,σ z=some (node m p l r q):=by
 refine iA h λix t zh=>oe zh λhA Ik _=>?_;subst Ik;exact λz hz=>⟨hA.ctx.GF (hA.tree.each z hz).1,(hA.tree.each z hz).2⟩
theorem TL.nodup{σ:St}{tr:Addr}{L:eE}(h:TL σ tr L):(foot tr L).Nodup:=by
 refine iA (id h) λix t zh=>oe zh λhA Ik _=>?_;subst Ik;exact dw.mpr ⟨λhz=>(h.each tr hz).1 rfl,hA.tree.nodup⟩
theorem TL.frame{σ av:St}{tr:Addr}{L:eE}(h:TL σ tr L)(hs:∀x∈foot tr L,av x=σ x):TL av tr L:=by
 refine iA h λix t zh=>oe zh λhA hf hc=>?_;exact⟨ix,t,hA.frame (λz p=>hs z (.tail _ (hc z p))) (hs tr (.head _)),hf,hc⟩
theorem TL.live{σ:St}{tr:Addr}{L:eE}(h:TL σ tr L):∀x∈foot tr L,σ x≠none:=by
 intro x hx;rcases aE.mp hx with rfl|hx
 ·refine iA h λix t zh=>rU zh λhA _=>?_;obtain⟨v,e⟩:=hA.ctx.tr;exact aZ e
 ·obtain⟨_,_,_,_,_,_,e⟩:=h.each x hx;exact aZ e
theorem T.zip{a:Addr}{m:Int}{p:MV}(t:T)(c:C)(A B:eE)(h:t.flat=A++(a,m,p)::B):∃(c':C)(l r:T),c'.iU (.nd a m p l r)=c.iU t∧c'.L++l.flat=c.L++A∧r.flat++c'.R=B++c.R:=by
 induction t generalizing c A B with
 |leaf=>exact absurd h.symm (zO _ (d7 _ _))
 |nd b k q l r il ir=>
  rcases eT.mp h with⟨D,h1,h2⟩|⟨D,h1,h2⟩
  ·induction D using aF with
   |nil=>
    injection h2 with h2 h3
    cases h2;exact⟨c,l,r,rfl,by rw[h1,ay],by rw[h3]⟩
   |cons d D=>
    injection h2 with h2 h3
    refine JM (ir (.side false b k q l c) D B h3) λc' l' r' zh=>oe zh λe1 e2 e3=>?_;exact⟨c',l',r',e1,by rw[e2,h1,←h2];show c.L++l.flat++[(b,k,q)]++D=_;rw[af,af];rfl,e3⟩
  ·induction D using aF with
   |nil=>
    injection h2 with h2 h3
    cases h2;exact⟨c,l,r,rfl,by rw[h1,ay],by rw[h3]⟩
   |cons d D=>
    injection h2 with h2 h3
    cases h2;refine JM (il (.side true b k q r c) A D h1) λc' l' r' zh=>oe zh λe1 e2 e3=>?_;have h3:B=D++((b,k,q)::r.flat):=h3;exact⟨c',l',r',e1,e2,by rw[e3,h3];exact(af D _ _).symm⟩
structure Zip(σ:St)(tr a:Addr)(m:Int)(p:MV)(A B:eE)(ix:Ix)(c:C)(l r:T):Prop where
 at_:At σ ix tr c (.nd a m p l r)
 L:c.L++l.flat=A
 R:r.flat++c.R=B
 Mh:∀z,0<ix z→z∈(A++(a,m,p)::B).map (·.1)
 lv:∀z,0<ix z→σ z≠none
theorem TL.zip{σ:St}{tr a:Addr}{m:Int}{p:MV}{A B:eE}(h:TL σ tr (A++(a,m,p)::B)):∃ix c l r,Zip σ tr a m p A B ix c l r:=by
 refine iA (id h) λix t zh=>oe zh λhA hf hc=>?_;refine JM (T.zip t .top A B hf) λc l r zh=>oe zh λe1 e2 e3=>?_;exact⟨ix,c,l,r,At.down (rwl e1 hA),e2.trans (cN _),e3.trans (ay _),hc,λz p=>h.live z (.tail _ (hc z p))⟩
theorem Zip.iU{σ:St}{tr a:Addr}{m:Int}{p:MV}{A B:eE}{ix:Ix}{c:C}{l r:T}(h:Zip σ tr a m p A B ix c l r):(c.iU (.nd a m p l r)).flat=A++(a,m,p)::B:=by
 rw[C.dz,←h.L,←h.R,T.flat];simp only[af,bH]
theorem RS{d:Bool}{i j e:Int}(h:WW d i j)(h1:-1≤e)(h2:e≤1):WW d (2*i+e) (2*j):=by
 cases d<;>(dsimp only[WW,cond]at h⊢;lia)
theorem two_pos{i e:Int}(h:0<i)(h1:-1≤e):0<2*i+e:=by lia
theorem J'{i j:Int}(h:i<j):2*i<2*j:=by lia
noncomputable def Re(ix BZ:Ix):Prop:=∀z,0<ix z→BZ z=2*ix z
theorem cC.re{σ:St}{ix BZ:Ix}(hr:Re ix BZ){t:T}{I J:Int→Prop}{par:MV}(H:cC σ ix I par t)(hp:∀i,I i→0<i)(hj:∀i,I i→J (2*i)):cC σ BZ J par t:=by
 induction t generalizing I J par with
 |leaf=>trivial
 |nd a n p l r il ir=>
  have e:=hr a (hp _ H.2.1);refine⟨H.1,rwl e (hj _ H.2.1),il H.2.2.1 (λi hi=>hp i hi.1) λi hi=>⟨hj i hi.1,?_⟩,ir H.2.2.2 (λi hi=>hp i hi.1) λi hi=>⟨hj i hi.1,?_⟩⟩
  ·rw[e];exact J' hi.2
  ·rw[e];exact J' hi.2
theorem C.Y5{σ:St}{ix BZ:Ix}{tr:Addr}(hr:Re ix BZ){e:Int}(h1:-1≤e)(h2:e≤1){c:C}{v:MV}{h i:Int}(H:d8 σ ix tr c v h)(k:c.In ix i):c.In BZ (2*i+e):=by
 induction c generalizing v h with
 |top=>exact two_pos k h1
 |side d a _ _ _ c ih=>exact⟨ih H.2.2.2 k.1,rwl (hr a (C.cn H.2.1)) (RS k.2 h1 h2)⟩
theorem d8.re{σ:St}{ix BZ:Ix}{tr:Addr}(hr:Re ix BZ)(ht:¬0<BZ tr){c:C}{v:MV}{h:Int}(H:d8 σ ix tr c v h):d8 σ BZ tr c v h:=by
 induction c generalizing v h with
 |top=>exact⟨H.1,ht⟩
 |side d a n p s c ih=>
  have e:=hr a (C.cn H.2.1);have z:∀i,c.In ix i→c.In BZ (2*i):=λi k=>rwr (fh (2*i)) (C.Y5 hr (by decide) (by decide) H.2.2.2 k)
  refine⟨H.1,rwl e (z _ H.2.1),H.2.2.1.re hr (λi hi=>C.cn hi.1) λi hi=>⟨z i hi.1,?_⟩,ih H.2.2.2⟩;rw[e];exact fh (2*i)▸RS hi.2 (by decide) (by decide)
noncomputable def nnF(L:eE):Prop:=∀e∈L,0≤e.2.1
theorem a1l{σ:St}{ix:Ix}{tr b f:Addr}{d:Bool}{c:C}{k:Int}{q:MV}{o:T}{mo:MO}(hA:At σ ix tr c (T1 d b k q o .leaf))(nf:∀z,0<ix z→z≠f)(ht:tr≠f):
  d8 (upd (upd σ b (Oy d (k+(bif d then 0+o.dJ else o.dJ+0)) q (.ref f) o.val c.par)) f mo) ix tr (.side d b k q o c) (.ref f) 0:=
 (d8.put hA.side.ctx).frame (λz p _=>aC (nf z p)) (aC ht)
theorem C.a5P{d:Bool}{b:Addr}{k:Int}{q:MV}{o:T}{c:C}{e:Addr×Int×MV}:(C.side d b k q o c).L++e::(C.side d b k q o c).R=c.L++(bif d then e::(b,k,q)::o.flat else o.flat++(b,k,q)::[e])++c.R:=by
 cases d<;>simp[C.L,C.R]
section
variable{be:Nat}{σ:St}{Q:bw}{tr a f:Addr}{w:Int}{pl:MV}
theorem Bb{t:Int}{p l r q:MV}(aV:ai 0 be=true)(h:σ a=some (node t p l r q))(hf:σ f=some (node w pl .none .none .none))(na:f≠a)
  (hq:Q .none (upd (upd σ a (node t p (.ref f) r q)) f (node w pl .none .none (.ref a)))):D be (.fn 793) [.ref a,.ref f] σ Q:=by
 refine yC aV ?_;dsimp only[tZ];k_go;exact hq
theorem Hc{t:Int}{p l r q:MV}(aV:ai 0 be=true)(h:σ a=some (node t p l r q))(hf:σ f=some (node w pl .none .none .none))(na:f≠a)
  (hq:Q .none (upd (upd σ a (node t p l (.ref f) q)) f (node w pl .none .none (.ref a)))):D be (.fn 800) [.ref a,.ref f] σ Q:=by
 refine wO aV ?_;dsimp only[rp];k_go;exact hq
theorem attach{ix:Ix}{c:C}{d:Bool}{b:Addr}{k:Int}{q:MV}{o:T}{K:bw}(aV:ai 3 be=true)(hc:d8 σ ix tr (.side d b k q o c) (.ref f) 0)(hf:σ f=some (node w pl .none .none (.ref b)))
  (Mh:∀z,0<ix z→z∈((C.side d b k q o c).L++(f,w,pl)::(C.side d b k q o c).R).map (·.1)) (lv:∀z,0<ix z→σ z≠none) (nf:∀z,0<ix z→z≠f) (ht:tr≠f)
  (nn:nnF ((C.side d b k q o c).L++(f,w,pl)::(C.side d b k q o c).R)) (hs:((C.side d b k q o c).L++(f,w,pl)::(C.side d b k q o c).R).length≤100000)
  (hq:∀av,TL av tr ((C.side d b k q o c).L++(f,w,pl)::(C.side d b k q o c).R)→(∀z,z≠tr→z≠f→¬0<ix z→av z=σ z)→Q .none av)
  (hk:∀dp,dp f=some (node w pl .none .none (.ref b))→D be (.fn 842) [.ref tr,.ref b] dp Q→K .none dp):D be (.fn 849) [.ref b,.int w] σ K:=by
 refine xa (c:=.side d b k q o c) (by first|exact aV|rfl|exact bB aV rfl) hc λdp mL o2 lv2=>?_
 have Mf:=(o2 f λp=>absurd p (λp=>nf f p rfl)).trans hf;refine hk dp Mf ?_;have ib:=hc.2.1
 let BZ:Ix:=λz=>if z=f then 2*ix b+(bif d then-1 else 1)else 2*ix z
 have re:Re ix BZ:=λz p=>if_neg (nf z p);have ef:BZ f=2*ix b+(bif d then-1 else 1):=if_pos rfl;have e1:((-1:Int)≤bif d then-1 else 1)∧((bif d then-1 else 1:Int)≤1):=by cases d<;>decide
 have nt:¬0<BZ tr:=by
  rw[show BZ tr=2*ix tr from if_neg ht];exact λp=>hc.GF (z:=tr) (by lia) rfl
 have hin:C.In BZ (.side d b k q o c) (BZ f):=by
  rw[ef];refine⟨C.Y5 re e1.1 e1.2 hc.2.2.2 ib,?_⟩;rw[re b (C.cn ib)];cases d<;>(dsimp only[WW,cond];lia)
 have e0:(T.nd f w pl .leaf .leaf).dJ=0+w:=by show w+(0+0)=0+w;lia
 have hA:At dp BZ tr (.side d b k q o c) (.nd f w pl .leaf .leaf):=⟨(mL.re re nt).dJ e0.symm,by rw[Mf];exact congrArg some (pR (by show w=w+(0+0);lia)),hin,trivial,trivial⟩
 have en:((C.side d b k q o c).iU (.nd f w pl .leaf .leaf)).flat=(C.side d b k q o c).L++(f,w,pl)::(C.side d b k q o c).R:=by rw[C.dz];simp only[T.flat,af,bH,cN]
 have p2:∀z,z≠f→0<BZ z→0<ix z:=λz h p=>by
  rw[show BZ z=2*ix z from if_neg h]at p;lia
 refine wZ (by first|exact aV|rfl|exact bB aV rfl) hA (by unfold T.nn;rw[en];exact nn) (by rw[T.fP,en];exact hs) (λz p=>?_) λt' av JL hf' ch=>?_
 ·by_cases h:z=f
  ·rw[h];exact aZ Mf
  ·exact lv2 z (lv z (p2 z h p))
 ·refine hq av ⟨BZ,t',JL,hf'.trans en,λz p=>?_⟩ λz h1 h2 h3=>(ch.off z h1 λp=>h3 (p2 z h2 p)).trans (o2 z λp=>absurd p h3);by_cases h:z=f
  ·rw[h,aJ];exact az _ (.head _)
  ·exact Mh z (p2 z h p)
theorem tR{A B:eE}{m:Int}{p:MV}(aV:ai 4 be=true)(hT:TL σ tr (A++(a,m,p)::B))(hf:σ f=some (node w pl .none .none .none))
  (hn:f∉foot tr (A++(a,m,p)::B)) (nn:nnF (A++(a,m,p)::(f,w,pl)::B)) (hs:(A++(a,m,p)::(f,w,pl)::B).length≤100000)
  (hq:∀av,TL av tr (A++(a,m,p)::(f,w,pl)::B)→Off σ av (f::foot tr (A++(a,m,p)::B))→Q .none av):D be (.fn 891) [.ref tr,.ref a,.ref f] σ Q:=by
 refine Jf hT.zip λix c l r hz=>?_;have hA:=hz.at_;have ha:=hA.tree.1;have ht:tr≠f:=λe=>hn (rwr e (.head _));have nf:∀z,0<ix z→z≠f:=λz p e=>hn (.tail _ (rwr e (hz.Mh z p)));have Mh:∀z,0<ix z→z∈(A++(a,m,p)::(f,w,pl)::B).map (·.1):=λz p=>by
  have:=hz.Mh z p;rw[aJ,dm]at this⊢;rcases aU.mp this with h|h
  ·exact aN _ h
  ·exact az _ (match h with|.head _=>.head _|.tail _ h=>.tail _ (.tail _ h))
 have off:∀z,z∉f::foot tr (A++(a,m,p)::B)→z≠tr∧z≠f∧¬0<ix z:=λz h=>⟨λe=>h (.tail _ (rwr e (.head _))),λe=>h (rwr e (.head _)),λp=>h (.tail _ (.tail _ (hz.Mh z p)))⟩;refine DQ aV ?_;dsimp only[t9];k_in;induction r using T.casesOn with
 |leaf=>
  have eL:(C.side false a m p l c).L++(f,w,pl)::(C.side false a m p l c).R=A++(a,m,p)::(f,w,pl)::B:=by
   rw[←hz.L,←hz.R];simp only[C.L,C.R,T.flat,af,bH,cN]
  have na:f≠a:=(nf a (C.cn hA.tree.2.1)).symm;k_in;refine Hc (by first|exact aV|rfl|exact bB aV rfl) ha hf na ?_
  have hf1:upd (upd σ a (node (m+(l.dJ+0)) p l.val (.ref f) c.par)) f (node w pl .none .none (.ref a)) f=some (node w pl .none .none (.ref a)):=ak ..;k_in;refine attach (Q:=λ_ av=>Q .none av) (by first|exact aV|rfl|exact bB aV rfl) (a1l (d:=false) (mo:=node w pl .none .none (.ref a)) hA nf ht) hf1 (rwl eL Mh) (λz p=>fb z (fb z (hz.lv z p))) nf ht (rwl eL nn) (rwl eL hs) (λav h1 h2=>hq av (rwr eL h1) λz h=>?_) λdp Mf call=>?_
  ·refine oe (off z h) λz1 z2 z3=>?_;exact(h2 z z1 z2 z3).trans ((aC z2).trans (aC (sj (C.cn hA.tree.2.1) z3)))
  ·k_in;exact call
 |nd d k0 q0 x y=>
  k_in;refine FZ (t:=.nd d k0 q0 x y) (by first|exact aV|rfl|exact bB aV rfl) hA.right (λe=>T.noConfusion e) λc' b k q r' JL e1 e2=>?_
  have eL:(C.side true b k q r' c').L++(f,w,pl)::(C.side true b k q r' c').R=A++(a,m,p)::(f,w,pl)::B:=by
   have e:=congrArg T.flat e1;rw[C.dz,C.dz,e2,af,af]at e;have e:(b,k,q)::(r'.flat++c'.R)=(T.nd d k0 q0 x y).flat++c.R:=kN e;rw[←hz.L,←hz.R,←e,C.L,C.R,e2,C.L];simp only[af,bH,cN]
  k_in;refine Bb (by first|exact aV|rfl|exact bB aV rfl) JL.tree.1 hf ((nf b (C.cn JL.tree.2.1)).symm) ?_
  k_in;refine attach (Q:=λ_ av=>Q .none av) (by first|exact aV|rfl|exact bB aV rfl) (a1l (d:=true) (mo:=node w pl .none .none (.ref b)) JL nf ht) (ak ..) (rwl eL Mh) (λz p=>fb z (fb z (hz.lv z p))) nf ht (rwl eL nn) (rwl eL hs) (λav h1 h2=>hq av (rwr eL h1) λz h=>?_) λdp Mf call=>?_
  ·refine oe (off z h) λz1 z2 z3=>?_;exact(h2 z z1 z2 z3).trans ((aC z2).trans (aC (sj (C.cn JL.tree.2.1) z3)))
  ·k_in;exact call
end
structure Kp(σ av:St)(F F':List Addr):Prop where
 off:oG σ av F
 new:∀x∈F',x∈F∨σ x=none
theorem Kp.refl(σ:St)(F:List Addr):Kp σ σ F F:=⟨oG.refl _ _,λ_ h=>.inl h⟩
theorem Kp.trans{σ av gm:St}{F F' F'':List Addr}(h:Kp σ av F F')(k:Kp av gm F' F''):Kp σ gm F F'':=
 ⟨h.off.trans k.off h.new,λx hx=>(k.new x hx).elim (h.new x) λh1=>if hF:x∈F then .inl hF else if hn:σ x=none then .inr hn else absurd ((h.off x hF hn).symm.trans h1) hn⟩
theorem Kp.keep{σ av:St}{F F':List Addr}(h:Kp σ av F F'){x:Addr}{o:MO}(hx:x∉F)(e:σ x=some o):av x=some o:=(h.off x hx (aZ e)).trans e
theorem Kp.fresh{σ:St}{c:Addr}{o:MO}{F:List Addr}(h:σ c=none):Kp σ (upd σ c o) F F:=⟨(oG.refl _ _).upd (.inr h),λ_ h=>.inl h⟩
noncomputable def fQ(L:eE):Prop:=∀e∈L,0<e.2.1
theorem fQ.nn{L:eE}(h:fQ L):nnF L:=λe he=>bp (h e he)
theorem fQ.len{L:eE}(h:fQ L):(L.length:Int)≤sumF L:=by
 induction L with
 |nil=>exact dU _
 |cons e L ih=>
  have h1:=h e (.head _);have h2:=ih λx hx=>h x (.tail _ hx);rw[eG,cg];lia
theorem bY{A B:eE}:fQ (A++B)↔fQ A∧fQ B:=
 ⟨λh=>⟨λe he=>h e (aN _ he),λe he=>h e (az _ he)⟩,λh e he=>(aU.mp he).elim (h.1 e) (h.2 e)⟩
theorem fp{e}{B:eE}:fQ (e::B)↔0<e.2.1∧fQ B:=
 ⟨λh=>⟨h e (.head _),λx hx=>h x (.tail _ hx)⟩,λh x hx=>match hx with|.head _=>h.1|.tail _ hx=>h.2 x hx⟩
noncomputable def cs:eE→List MV
 |[]=>[]
 |e::L=>aM e.2.1.toNat e.2.2++cs L
theorem a5D:cs []=[]:=rfl
theorem mY(e)(L:eE):cs (e::L)=aM e.2.1.toNat e.2.2++cs L:=rfl
theorem sJ:∀(L K:eE),cs (L++K)=cs L++cs K:=by
 intro zl;induction zl with
 |nil=>
  rintro _;exact rfl
 |cons e L ih=>
  rintro K;rw[bH,mY,mY,ih K,af]
theorem pF{L:eE}(h:nnF L):((cs L).length:Int)=sumF L:=by
 induction L with
 |nil=>rfl
 |cons e L ih=>rw[mY,aa,bP,eG,←ih λx hx=>h x (.tail _ hx),fH,bL (h e (.head _))]
noncomputable def Cut(b:Int)(L:eE):Prop:=∃A B,L=A++B∧sumF A=b
section
variable{be:Nat}{σ:St}{Q:bw}{tr a f:Addr}{w:Int}{pl:MV}
theorem oq{t:Int}{p:MV}(aV:ai 0 be=true)(hq:Q .none (upd σ a (node t p .none .none .none))):D be (.fn 730) [.ref a,.int t,p] (upd σ a (.inst 733 [])) Q:=by
 refine tN aV ?_;dsimp only[jN];k_go;simp only[cZ];exact hq
theorem m3{L:eE}(aV:ai 1 be=true)(hT:TL σ tr L)(hq:Q (.int (sumF L)) σ):D be (.fn 779) [.ref tr] σ Q:=by
 refine iA hT λix t zh=>oe zh λhA Ik _=>?_;subst Ik;have YC:=hA.ctx.1;refine Ci aV ?_;dsimp only[rK];k_in;refine eC (by first|exact aV|rfl|exact bB aV rfl) hA.tree.Of ?_
 rw[T.vG];exact hq
theorem LQ{A B:eE}{m:Int}{p:MV}(aV:ai 5 be=true)(hT:TL σ tr (A++(a,m,p)::B))(hf:σ f=some (node w pl .none .none .none))
  (hn:f∉foot tr (A++(a,m,p)::B)) (nn:nnF (A++(f,w,pl)::(a,m,p)::B)) (hs:(A++(f,w,pl)::(a,m,p)::B).length≤100000)
  (hq:∀av,TL av tr (A++(f,w,pl)::(a,m,p)::B)→Off σ av (f::foot tr (A++(a,m,p)::B))→Q .none av):D be (.fn 898) [.ref tr,.ref a,.ref f] σ Q:=by
 refine Jf hT.zip λix c l r hz=>?_;have hA:=hz.at_;refine FD aV ?_;dsimp only[xe];k_in;refine C8 (by first|exact aV|rfl|exact bB aV rfl) hA ?_
 rw[hz.L];rcases vg A with rfl|⟨A',⟨b,k,q⟩,rfl⟩
 ·have hl:l=.leaf:=T.Li (eI.mp hz.L).2;subst hl;have ht:tr≠f:=λe=>hn (rwr e (.head _));have nf:∀z,0<ix z→z≠f:=λz p e=>hn (.tail _ (rwr e (hz.Mh z p)));have eL:(C.side true a m p r c).L++(f,w,pl)::(C.side true a m p r c).R=(f,w,pl)::(a,m,p)::B:=by
   rw[C.L,C.R,(eI.mp hz.L).1,←hz.R];rfl
  k_in;refine Tc ?_;k_in;refine Bb (by first|exact aV|rfl|exact bB aV rfl) hA.tree.1 hf ((nf a (C.cn hA.tree.2.1)).symm) ?_
  k_in;refine attach (Q:=λ_ av=>Q .none av) (by first|exact aV|rfl|exact bB aV rfl) (a1l (d:=true) (mo:=node w pl .none .none (.ref a)) hA nf ht) (ak ..) (rwl eL (λz p=>.tail _ (hz.Mh z p))) (λz p=>fb z (fb z (hz.lv z p))) nf ht (rwl eL nn) (rwl eL hs) (λav h1 h2=>hq av (rwr eL h1) λz h=>?_) λdp Mf call=>?_
  ·have z2:z≠f:=λe=>h (rwl e (.head _));have z3:¬0<ix z:=λp=>h (.tail _ (.tail _ (hz.Mh z p)));exact(h2 z (λe=>h (.tail _ (rwl e (.head _)))) z2 z3).trans ((aC z2).trans (aC (sj (C.cn hA.tree.2.1) z3)))
  ·k_in;exact call
 ·have e2:∀M,A'.concat (b,k,q)++M=A'++(b,k,q)::M:=λM=>by rw[mV,af];rfl
  rw[e2]at hT hn nn hs hq;have e1:yl (A'.concat (b,k,q))=.ref b:=by rw[yl,mV,bD];rfl
  rw[e1];k_in;exact tR (by first|exact aV|rfl|exact bB aV rfl) hT hf hn nn hs λav h3 h4=>hq av (e2 _▸h3) (rwl (e2 _) h4)
end
theorem TL.node{σ:St}{tr a:Addr}{A B:eE}{m:Int}{p:MV}(h:TL σ tr (A++(a,m,p)::B)):∃t l r q,σ a=some (node t p l r q):=
 Jf h.zip λ_ _ _ _ hz=>⟨_,_,_,_,hz.at_.tree.1⟩
theorem ar9(m o z:Int):m+(0-(m-(z-o)))=z-o:=by lia
theorem a4u(k l r m:Int):m+(bif true then l+k+r else r+(l+k))=m+k+(bif true then l+r else r+l):=by dsimp only[cond];lia
section
variable{be:Nat}{σ:St}{Q:bw}{tr a:Addr}
theorem zy{A B:eE}{m:Int}{p:MV}(aV:ai 1 be=true)(hT:TL σ tr (A++(a,m,p)::B))(hq:Q (.int m) σ):D be (.fn 772) [.ref a] σ Q:=
 Jf hT.zip λ_ _ _ _ hz=>YY (by first|exact aV|rfl|exact bB aV rfl) hz.at_.tree hq
theorem H6{A B:eE}{m k:Int}{p:MV}(aV:ai 0 be=true)(hT:TL σ tr (A++(a,m,p)::B))
  (hq:∀av,TL av tr (A++(a,m+k,p)::B)→Off σ av (foot tr (A++(a,m,p)::B))→Q .none av):D be (.fn 849) [.ref a,.int k] σ Q:=by
 refine Jf hT.zip λix c l r hz=>?_;refine xa (c:=.side true a m p r c) (by first|exact aV|rfl|exact bB aV rfl) hz.at_.left.ctx λav h3 h4 lv=>?_
 have hA:At av ix tr (.side true a (m+k) p r c) l:=⟨⟨h3.1.trans (by rw[a4u]),h3.2.1,h3.2.2.1,h3.2.2.2.dJ (a4u ..)⟩,hz.at_.left.tree.frame λz h=>h4 z λ_=>h⟩
 have hA:=hA.up;have em:(A++(a,m+k,p)::B).map (·.1)=(A++(a,m,p)::B).map (·.1):=by rw[aJ,aJ];rfl
 refine hq av ⟨ix,_,hA,by rw[C.dz,←hz.L,←hz.R,C.L,C.R];simp only[T.flat,af,bH],λz p=>rwl em (hz.Mh z p)⟩ λz h=>h4 z λp=>absurd (.tail _ (hz.Mh z p)) h
theorem tU{L:eE}{at_:Int}(aV:ai 2 be=true)(hT:TL σ tr L)(h0:0≤at_)(h1:at_<sumF L)
  (hq:∀(A B:eE)(a:Addr)(m:Int)(p:MV),L=A++(a,m,p)::B→sumF A≤at_→at_<sumF A+m→Q (.tup [.ref a,.int (sumF A)]) σ):
  D be (.fn 856) [.ref tr,.int at_] σ Q:=by
 refine iA hT λix t zh=>oe zh λhA Ik _=>?_;subst Ik;refine D5 (by first|exact aV|rfl|exact bB aV rfl) hA h0 (by rw[T.vG];exact h1) λc a m p l r h2 h3 h4=>hq (c.L++l.flat) (r.flat++c.R) a m p ?_ h3 h4
 rw[←h2,C.dz,T.flat];simp only[af,bH]
theorem Ux(L:eE):Cut 0 L:=⟨[],L,rfl,rfl⟩
theorem XC(L:eE):Cut (sumF L) L:=⟨L,[],(ay L).symm,rfl⟩
theorem QB{A B:eE}{e:Addr×Int×MV}{b:Int}(h:Cut b (A++e::B)):(∃A1 A2,A=A1++A2∧sumF A1=b)∨(∃B1 B2,B=B1++B2∧sumF A+(e.2.1+sumF B1)=b):=by
 refine iA h λA' B' zh=>rU zh λh1 h2=>?_;rcases eT.mp h1 with⟨D,h3,h4⟩|⟨D,h3,h4⟩
 ·induction D using aF with
  |nil=>exact .inl ⟨A,[],(ay A).symm,by rw[←h2,h3,ay]⟩
  |cons d D=>
   injection h4 with h4 h5
   exact .inr ⟨D,B',h5,by rw[←h2,h3,h4,bX,eG]⟩
 ·exact .inl ⟨A',D,h3,h2⟩
theorem Je{tr a:Addr}{A B:eE}{m m':Int}{p p':MV}:foot tr (A++(a,m,p)::B)=foot tr (A++(a,m',p')::B):=by simp only[foot,aJ,dm]
theorem Ui{tr a f z:Addr}{A B:eE}{m m' w:Int}{p p' pl:MV}(h:z∈foot tr (A++(a,m,p)::(f,w,pl)::B)):z=f∨z∈foot tr (A++(a,m',p')::B):=by
 simp only[foot,aJ,dm,aE,aU]at h⊢;rcases h with h|h|h|h|h
 ·exact .inr (.inl h)
 ·exact .inr (.inr (.inl h))
 ·exact .inr (.inr (.inr (.inl h)))
 ·exact .inl h
 ·exact .inr (.inr (.inr (.inr h)))
theorem SM{A B:eE}{e e1 e2:Addr×Int×MV}(h:fQ (A++e::B))(h1:0<e1.2.1)(h2:0<e2.2.1):fQ (A++e1::e2::B):=
 bY.mpr ⟨(bY.mp h).1,fp.mpr ⟨h1,fp.mpr ⟨h2,(fp.mp (bY.mp h).2).2⟩⟩⟩
theorem Oc{A B:eE}{e e1 e2:Addr×Int×MV}(h:e1.2.1+e2.2.1=e.2.1):sumF (A++e1::e2::B)=sumF (A++e::B):=by
 rw[bX,bX,eG,eG,eG,←sU e1.2.1,h]
theorem a1G(x m:Int):x+(m-x)=m:=by lia
theorem a5N{m s z:Int}(h:z<s+m):0<m-(z-s):=by lia
theorem a5M{m x:Int}(h:0<x)(k:0<m-x):m.toNat=x.toNat+(m-x).toNat:=by
 rw[←JH (bp h) (bp k),a1G]
theorem a5L(s x m b:Int):s+(x+(m-x+b))=s+(m+b):=by lia
theorem a0Q{L:eE}(h:fQ L)(hs:sumF L≤10000):L.length≤100000:=by have:=h.len;lia
theorem qd{L:eE}{at_:Int}(aV:ai 5 be=true)(hT:TL σ tr L)(hp:fQ L)(hs:sumF L≤10000)(h0:0≤at_)(h1:at_≤sumF L)
  (hq:∀L' av,TL av tr L'→fQ L'→cs L'=cs L→Cut at_ L'→(∀b,Cut b L→Cut b L')→Kp σ av (foot tr L) (foot tr L')→Q .none av):
  D be (.fn 905) [.ref tr,.int at_] σ Q:=by
 have same:Cut at_ L→Q .none σ:=λhc=>hq L σ hT hp rfl hc (λ_ h=>h) (Kp.refl _ _);refine G4 aV ?_;dsimp only[zD];k_in;refine gi (λh2=>?_) λh2=>?_
 ·k_in;refine m3 (by first|exact aV|rfl|exact bB aV rfl) hT ?_
  k_in;refine oT (p:=at_<sumF L) (λh3=>?_) λh3=>?_
  ·k_in;refine tU (by first|exact aV|rfl|exact bB aV rfl) hT h0 h3 λA B a m p hL h4 h5=>?_
   subst hL;k_in;refine gi (λh6=>?_) λh6=>?_
   ·k_in;exact same ⟨A,(a,m,p)::B,rfl,h6⟩
   ·k_in;refine zy (by first|exact aV|rfl|exact bB aV rfl) hT ?_
    k_in;refine H6 (by first|exact aV|rfl|exact bB aV rfl) hT λdE OY o1=>?_
    rw[ar9]at OY;refine Jf OY.node λt1 l1 r1 q1 B8=>?_;k_in;intro f hf;refine oq (by first|exact aV|rfl|exact bB aV rfl) (Oq ?_)
    have Xe:f∉foot tr (A++(a,at_-sumF A,p)::B):=λh=>OY.live f h hf;have q1:0<at_-sumF A:=CA (yc.mpr ⟨h4,h6⟩);have q2:0<m-(at_-sumF A):=a5N h5;have vV:=SM (e1:=(a,at_-sumF A,p)) (e2:=(f,m-(at_-sumF A),p)) hp q1 q2;k_in;refine tR (by first|exact aV|rfl|exact bB aV rfl) (OY.frame (av:=upd dE f (node (m-(at_-sumF A)) p .none .none .none)) λz hz=>aC λe=>Xe (rwr e hz)) (ak ..) Xe vV.nn (a0Q vV (rwl (Oc (a1G _ _)) hs)) λav Vd o3=>hq _ av Vd vV ?_ ?_ (λb hb=>?_) ⟨λz hz hn=>?_,λz hz=>?_⟩
    ·have e2:=a5M q1 q2;rw[sJ,sJ,mY,mY,mY,←af (aM _ _),mB,←e2]
    ·exact⟨A++[(a,at_-sumF A,p)],(f,m-(at_-sumF A),p)::B,by rw[af];rfl,by rw[bX,eG,Ko];exact(congrArg _ (fh _)).trans (a1G _ _)⟩
    ·rcases QB hb with⟨A1,A2,e,h7⟩|⟨B1,B2,e,h7⟩
     ·exact⟨A1,A2++(a,at_-sumF A,p)::(f,m-(at_-sumF A),p)::B,by rw[←af,←e],h7⟩
     ·have h7:sumF A+(m+sumF B1)=b:=h7;exact⟨A++(a,at_-sumF A,p)::(f,m-(at_-sumF A),p)::B1,B2,by rw[e,af];rfl,by rw[←h7,bX,eG,eG];exact a5L _ _ _ _⟩
    ·have hzf:z≠f:=λe=>hn (e▸(o1 f (rwl Je Xe)).symm.trans hf);exact(o3 z λh=>(aE.mp h).elim hzf λh=>hz (rwl Je h)).trans ((aC hzf).trans (o1 z hz))
    ·rcases Ui hz with h|h
     ·exact .inr (h▸(o1 f (rwr Je Xe)).symm.trans hf)
     ·exact .inl h
  ·k_in;exact same (rwl (kL h1 (dc.mp h3)) (XC L))
 ·k_in;exact same (rwl (kL (dc.mp h2) h0) (Ux L))
end
theorem cC.on{σ:St}{ix BZ:Ix}{t:T}{I:Int→Prop}{par:MV}(H:cC σ ix I par t)(h:∀z∈t.flat.map (·.1),BZ z=ix z):cC σ BZ I par t:=by
 induction t generalizing I par with
 |leaf=>trivial
 |nd a n p l r il ir=>
  rw[show(T.nd a n p l r).flat=l.flat++_ from rfl,aJ]at h;have e:BZ a=ix a:=h a (az _ (.head _));refine⟨H.1,rwl e H.2.1,?_,?_⟩
  ·rw[e];exact il H.2.2.1 λz hz=>h z (aN _ hz)
  ·rw[e];exact ir H.2.2.2 λz hz=>h z (az _ (.tail _ hz))
theorem TL.of{σ:St}{ix:Ix}{tr:Addr}{t:T}(h:At σ ix tr .top t):TL σ tr t.flat:=by
 have n:tr∉t.flat.map (·.1):=λk=>h.ctx.2 (h.tree.each tr k).1;refine⟨λz=>if z∈t.flat.map (·.1)then ix z else 0,t,⟨⟨h.ctx.1,?_⟩,h.tree.on λz hz=>if_pos hz⟩,rfl,λz p=>eJ λk=>?_⟩
 ·show¬0<(if tr∈t.flat.map (·.1)then ix tr else 0);rw[if_neg n];exact aP _
 ·have p:0<(if z∈t.flat.map (·.1)then ix z else 0):=p;rw[if_neg k]at p;exact aP _ p
noncomputable def Sp(σ:St)(ix:Ix)(c:C):JC→MV→Int→Prop
 |[],_,_=>True
 |(b,k,q,y)::P,v,h=>σ b=some (node (k+(h+y.dJ)) q v y.val (toC c P).par)∧(toC c P).In ix (ix b)∧cC σ ix (λi=>(toC c P).In ix i∧ix b<i) (.ref b) y∧Sp σ ix c P (.ref b) (k+(h+y.dJ))
noncomputable def spV:JC→MV→MV
 |[],v=>v
 |(b,_,_,_)::P,_=>spV P (.ref b)
noncomputable def ZP:JC→Int→Int
 |[],h=>h
 |(_,k,_,y)::P,h=>ZP P (k+(h+y.dJ))
theorem Sp.ctx{σ:St}{ix:Ix}{tr:Addr}{c:C}{P:JC}{v:MV}{h:Int}(H:Sp σ ix c P v h)(k:d8 σ ix tr c (spV P v) (ZP P h)):d8 σ ix tr (toC c P) v h:=by
 induction P generalizing v h with
 |nil=>exact k
 |cons p P ih=>exact⟨H.1,H.2.1,H.2.2.1,ih H.2.2.2 k⟩
theorem Sp.of{σ:St}{ix:Ix}{c:C}:∀(P:JC)(t:T),cC σ ix (c.In ix) c.par (CK P t)→Sp σ ix c P t.val t.dJ∧cC σ ix ((toC c P).In ix) (toC c P).par t:=by
 intro zl;induction zl with
 |nil=>
  rintro _ h;exact⟨trivial,h⟩
 |cons zx P ih=>
  obtain⟨b,k,q,y⟩:=zx;rintro t h;have z:=ih (.nd b k q t y) h;exact⟨⟨z.2.1,z.2.2.1,z.2.2.2.2,z.1⟩,z.2.2.2.1⟩
theorem Sp.frame{σ av:St}{ix:Ix}{c:C}{P:JC}{v:MV}{h:Int}(H:Sp σ ix c P v h)(k:∀z,c.In ix (ix z)→¬(toC c P).In ix (ix z)→av z=σ z):Sp av ix c P v h:=by
 induction P generalizing v h with
 |nil=>trivial
 |cons p P ih=>exact⟨(k p.1 (toC_in H.2.1) λx=>vU x.2).trans H.1,H.2.1,H.2.2.1.frame λz hz=>k z (toC_in hz.1) λx=>dI x.2 hz.2,ih H.2.2.2 λz a b=>k z a λx=>b x.1⟩
where
 toC_in {ix:Ix} {c:C}:∀{P:JC}{i:Int},(toC c P).In ix i→c.In ix i
 |[],_,h=>h
 |(_,_,_,_)::P,_,h=>toC_in (P:=P) h.1
theorem V2{m:Int}{P:JC}{h:Int}:ZP P (h+m)=ZP P h+m:=by
 induction P generalizing h with
 |nil=>rfl
 |cons p P ih=>exact(congrArg (ZP P) (show p.2.1+(h+m+p.2.2.2.dJ)=p.2.1+(h+p.2.2.2.dJ)+m by lia)).trans ih
theorem V1{P:JC}{t:T}:ZP P t.dJ=(CK P t).dJ:=by
 induction P generalizing t with
 |nil=>rfl
 |cons _ _ ih=>exact ih (t:=.nd ..)
theorem V0{P:JC}{t:T}:spV P t.val=(CK P t).val:=by
 induction P generalizing t with
 |nil=>rfl
 |cons _ _ ih=>exact ih (t:=.nd ..)
theorem MZ{P:JC}{t:T}{z}(h:z∈t.flat.map (·.1)∨(∃e∈P,e.1=z)):z∈(CK P t).flat.map (·.1):=by
 induction P generalizing t with
 |nil=>exact h.elim id λh=>h.elim λ_ h=>absurd h.1 aD
 |cons p P ih=>
  refine ih (t:=.nd p.1 p.2.1 p.2.2.1 t p.2.2.2) ?_;rw[show(T.nd p.1 p.2.1 p.2.2.1 t p.2.2.2).flat=t.flat++_ from rfl,aJ];exact h.elim (λh=>.inl (aN _ h)) λh=>h.elim λe h=>(aE.mp h.1).elim (λq=>.inl (az _ (by rw[←h.2,q];exact .head _))) λq=>.inr ⟨e,q,h.2⟩
theorem toC_In{ix:Ix}{c:C}{i:Int}(hi:c.In ix i):∀{P:JC},(∀e∈P,i<ix e.1)→(toC c P).In ix i:=by
 intro zl;induction zl with
 |nil=>
  rintro _;exact hi
 |cons zx P ih=>
  obtain⟨b,k,q,y⟩:=zx;rintro h;exact⟨ih λe he=>h e (.tail _ he),h (b,k,q,y) (.head _)⟩
theorem toC_ne{ix:Ix}{c:C}{z:Addr}{P:JC}(h:(toC c P).In ix (ix z))(e)(he:e∈P):z≠e.1:=by
 induction P with
 |nil=>exact absurd he aD
 |cons p P ih=>exact(aE.mp he).elim (λh2=>by rw[h2];exact d8.nb h) (ih h.1)
theorem W4{X:Ctx}{ix:Ix}{tr e:Addr}{c:C}{σ:St}{v:MV}{h:Int}{o:MO}{k:TK}{ρ:Loc}(he:σ e=some o)(ie:c.In ix (ix e))(hc:d8 σ ix tr c v h)(hK:k true ρ σ):ka X .IsNot (.ref e) c.par k ρ σ:=by
 induction c using C.casesOn with
 |top=>exact hK
 |side=>exact SG he hc.1 (by rw[decide_eq_false (d8.nb ie)];exact hK)
theorem TJ{X:Ctx}{ix:Ix}{tr:Addr}{c:C}{σ:St}{v:MV}{h:Int}{k:TK}{ρ:Loc}(hc:d8 σ ix tr c v h)(hK:k false ρ σ):ka X .IsNot c.par c.par k ρ σ:=by
 induction c using C.casesOn with
 |top=>exact hK
 |side=>exact SG hc.1 hc.1 (by rw[decide_eq_true rfl];exact hK)
theorem a4t(k h y m:Int):k+(h+y)+m=k+(h+m+y):=by lia
section
variable{be:Nat}{σ:St}{Q:bw}{tr a:Addr}
set_option maxHeartbeats 1000000 in
theorem uM{A B:eE}{m:Int}{p:MV}(aV:ai 4 be=true)(hT:TL σ tr (A++(a,m,p)::B))(nn:nnF (A++(a,m,p)::B))(hs:(A++(a,m,p)::B).length≤100000)
  (hq:∀av,TL av tr (A++B)→Off σ av (foot tr (A++(a,m,p)::B))→Q .none av):D be (.fn 912) [.ref tr,.ref a] σ Q:=by
 refine Jf hT.zip λix c l r hz=>?_;have hA:=hz.at_;have ht:=hA.tree;have ha:=ht.1;have ia:=ht.2.1;have fin:∀(c':C)(t:T)(dE:St),At dE ix tr c' t→(c'.iU t).flat=A++B→Ch ix tr σ dE→D 4 (.fn 842) [.ref tr,c'.par] dE λ_ av=>Q .none av:=λc' t dE hA ef ch=>
  wZ (by first|exact aV|rfl|exact bB aV rfl) hA (by unfold T.nn;rw[ef];exact(λe he=>nn e ((aU.mp he).elim (aN _) λh=>az _ (.tail _ h)))) (by rw[T.fP,ef];exact(by rw[aa]at hs⊢;exact ah (c9 (iF _) _) hs)) (λz p=>ch.lv z (hz.lv z p)) λt' av JL hf ch'=>
   hq av (rwr ((hf.trans ef)) (TL.of JL)) λz h=>(ch.trans ch').off z (λe=>h (rwr e (.head _))) λp=>h (.tail _ (hz.Mh z p))
 refine zr aV ?_;dsimp only[oE];k_in;refine zy (by first|exact aV|rfl|exact bB aV rfl) hT ?_
 k_in;refine xa (by first|exact aV|rfl|exact bB aV rfl) hA.ctx λdE tK o1 lv1=>?_
 have ht1:=ht.frame λz h=>o1 z λ_=>h;have B8:=ht1.1;have tK:=tK.dJ (show m+(l.dJ+r.dJ)+(0-m)=l.dJ+r.dJ by omega)
 have ch1:Ch ix tr σ dE:=⟨λz _ h=>o1 z λp=>absurd p h,lv1⟩;k_in;have one:∀(s:T)(I:Int→Prop)(par:MV),cC dE ix I par s→(∀i,I i→c.In ix i)→¬I (ix a)→s.dJ=l.dJ+r.dJ→s.flat=l.flat++r.flat→
   ∀Q':bw,(∀aO,(D 4 (.fn 842) [.ref tr,c.par] aO λ_ av=>Q .none av)→Q' .none aO)→D 4 (.fn 786) [.ref tr,.ref a,s.val] dE Q':=λs I par OQ hI na e1 e2 Q' hQ=>
  lG (by first|exact aV|rfl|exact bB aV rfl) tK B8 OQ hI ia na λdp mL zg _ XI=>hQ dp (fin c s dp ⟨mL.dJ e1.symm,zg.sub hI⟩ (by rw[C.dz,e2,←hz.L,←hz.R];simp only[af]) (ch1.trans XI))
 induction l using T.casesOn with
 |leaf=>
  have:=one r _ _ ht1.2.2.2 (λ_ h=>h.1) (λh=>aP _ h.2) (qB _).symm rfl;induction r using T.casesOn with
  |leaf=>k_in;refine this _ λ_ h=>?_;k_in;exact h
  |nd d k q x y=>k_in;refine this _ λ_ h=>?_;k_in;exact h
 |nd d k q x y=>
  induction r using T.casesOn with
  |leaf=>
   have:=one (.nd d k q x y) _ _ ht1.2.2.1 (λ_ h=>h.1) (λh=>aP _ h.2) (fh _).symm (ay _).symm;k_in;refine this _ λ_ h=>?_;k_in;exact h
  |nd d2 k2 q2 x2 y2=>
   have hr1:=ht1.2.2.2;k_in;refine C9 (t:=.nd d2 k2 q2 x2 y2) (by first|exact aV|rfl|exact bB aV rfl) hr1 (λe=>T.noConfusion e) λP b k3 q3 y3 hP=>?_
   k_in;refine lG (s:=.nd d2 k2 q2 x2 y2) (by first|exact aV|rfl|exact bB aV rfl) tK B8 hr1 (λ_ h=>h.1) ia (λh=>aP _ h.2) λdp mL TR o2 XI=>?_
   have gt:∀z,z∈(T.nd b k3 q3 .leaf y3).flat.map (·.1)∨(∃e∈P,e.1=z)→c.In ix (ix z)∧ix a<ix z:=λz h=>(TR.each z (rwr hP (MZ h))).1;have gb:=gt b (.inl (.head _));have gP:∀e∈P,ix a<ix e.1:=λe he=>(gt _ (.inr ⟨e,he,rfl⟩)).2;have hS:=Sp.of P (.nd b k3 q3 .leaf y3) (rwl hP (TR.sub λ_ h=>h.1));k_in;refine zu (s:=.nd d k q x y) (by first|exact aV|rfl|exact bB aV rfl) hS.2.1 (ht1.2.2.1.frame λz hz=>o2 z hz.1 λh=>dI h.2 hz.2) (λh=>dI h.2 gb.2) λjJ hb3 hl3 o3 lv3=>?_
   have hS3:Sp jJ ix c ((b,k3,q3,y3)::P) (.ref d) 0:=⟨hb3,hS.2.2.1,hS.2.2.2.2.frame λz hz=>o3 z (λe=>aP _ (e▸hz.2)) λh=>dI h.2 (fT gb.2 hz.2),
    hS.1.frame λz h1 h2=>o3 z (λe=>h2 (rwl e hS.2.2.1)) λh=>h2 (toC_In h1 λe he=>fT h.2 (gP e he))⟩
   k_in;refine dS λR hR=>?_;have key:∀(P:JC)(v:MV)(h:Int)(av:St),(∀e∈P,ix a<ix e.1)→Sp av ix c P v h→d8 av ix tr c (.ref d2) ((T.nd d k q x y).dJ+(T.nd d2 k2 q2 x2 y2).dJ)→av d=some (node (k+(x.dJ+y.dJ)) q x.val y.val (.ref b))→
     (∀gm,Sp gm ix c P v (h+(k+(x.dJ+y.dJ)))→(∀z,(∀e∈P,z≠e.1)→gm z=av z)→(∀z,av z≠none→gm z≠none)→d8 gm ix tr c (.ref d2) ((T.nd d k q x y).dJ+(T.nd d2 k2 q2 x2 y2).dJ)→
      R [(aY,some (.ref tr)),(aB,some (.ref a)),(tf,some c.par),(cH,none),(f5,some (.ref d)),(eZ,some c.par)] gm)→
     R [(aY,some (.ref tr)),(aB,some (.ref a)),(tf,some c.par),(cH,none),(f5,some (.ref d)),(eZ,some (toC c P).par)] av:=by
    intro P;induction P with
    |nil=>exact λv h av _ _ hc _ hk=>hk av trivial (λ_ _=>rfl) (λ_ h=>h) hc
    |cons f P ih=>
     obtain⟨e,k4,q4,y4⟩:=f;intro v h av hg ⟨he,ie,hy,hS⟩ hc hd hk;have ie':=Sp.frame.toC_in ie;show R [_,_,_,_,_,(eZ,some (.ref e))] av;apply hR;k_in;refine W4 he ie' hc ?_;k_in;refine yX he rfl (S2 _ _ _ _ _ _) λqJ he5 o5 lv5=>?_;k_in;refine ih (.ref e) _ qJ (λf hf=>hg f (.tail _ hf)) (hS.frame λz _ h=>o5 z λx=>h (rwl x ie)) (hc.frame (λz _ h=>o5 z λx=>h (rwl x ie')) (o5 tr (hc.GF (C.cn ie')).symm)) ((o5 d λx=>dI hl3.2.1.2 (rwl x (hg _ (.head _)))).trans hd) λpE hS6 o6 lv6 OV=>?_;exact hk pE ⟨(o6 e (toC_ne ie)).trans (he5.trans (congrArg some (pR (a4t ..)))),ie,hy.frame λz hz=>(o6 z (toC_ne hz.1)).trans (o5 z λx=>aP _ (x▸hz.2)),rwr ((a4t k4 h y4.dJ (k+(x.dJ+y.dJ)))) hS6⟩
      (λz hz=>(o6 z λf hf=>hz f (.tail _ hf)).trans (o5 z (hz _ (.head _)))) (λz hz=>lv6 z (lv5 z hz)) OV
   refine key ((b,k3,q3,y3)::P) (.ref d) 0 jJ (λe he=>(aE.mp he).elim (λh=>by rw[h];exact gb.2) (gP e)) hS3 (mL.frame (λz _ h=>o3 z (λe=>h (rwl e gb.1)) λk=>h k.1) (o3 tr (mL.GF (C.cn gb.1)).symm λk=>mL.GF (C.cn k.1) rfl)) hl3.1 λvh hS4 o4 lv4 hc4=>?_
   apply hR;k_in;refine TJ hc4 ?_;have nd4:∀z,ix z<ix a→∀e∈(b,k3,q3,y3)::P,z≠e.1:=λz hz e he h=>dI hz (rwl h ((aE.mp he).elim (λh=>by rw[h];exact gb.2) (gP e)))
   have hl4:=hl3.frame λz hz=>o4 z (nd4 z hz.2);have hd4:=hl4.1;k_in;have eH:ZP ((b,k3,q3,y3)::P) (0+(k+(x.dJ+y.dJ)))=(T.nd d k q x y).dJ+(T.nd d2 k2 q2 x2 y2).dJ:=by
    rw[V2,a1W,←hP,←V1];rfl
   have eV:spV ((b,k3,q3,y3)::P) (.ref d)=(T.nd d2 k2 q2 x2 y2).val:=by rw[←hP,←V0];rfl
   have YQ:At vh ix tr (toC c ((b,k3,q3,y3)::P)) (.nd d k q x y):=⟨(hS4.ctx (by rw[eH,eV];exact hc4)).dJ (qB _),hl4.sub λi h=>toC_In h.1 λe he=>fT h.2 ((aE.mp he).elim (λh=>by rw[h];exact gb.2) (gP e))⟩
   refine fin (toC c ((b,k3,q3,y3)::P)) (.nd d k q x y) vh YQ ?_ (((ch1.trans XI).trans ⟨λz _ h=>o3 z (λe=>h (rwl e (C.cn gb.1))) λk=>h (C.cn k.1),lv3⟩).trans ⟨λz _ h=>o4 z λe he x=>h (C.cn (c:=c) (rwl x ((aE.mp he).elim (λh=>by rw[h];exact gb.1) λh=>(gt _ (.inr ⟨e,h,rfl⟩)).1))),lv4⟩)
   have e1:=congrArg T.flat ((toC_plug ((b,k3,q3,y3)::P) c .leaf).trans (congrArg c.iU hP));rw[C.dz,C.dz,toC_L,af,af]at e1;have e1:(toC c ((b,k3,q3,y3)::P)).R=(T.nd d2 k2 q2 x2 y2).flat++c.R:=kN e1;rw[C.dz,toC_L,e1,←hz.L,←hz.R]
end
theorem fQ.vI:∀{A:eE},fQ A→0≤sumF A:=by
 intro zl;induction zl with
 |nil=>
  rintro _;exact dU _
 |cons e A ih=>
  rintro h;exact Hp (bp (h e (.head _))) (ih λx hx=>h x (.tail _ hx))
theorem fQ.sub{A B:eE}(h:fQ B)(k:∀e∈A,e∈B):fQ A:=λe he=>h e (k e he)
theorem vY{A B A' B':eE}{e e':Addr×Int×MV}(h:A++e::B=A'++e'::B')(hp:fQ (A++e::B))(h1:sumF A'≤sumF A)(h2:sumF A<sumF A'+e'.2.1):A=A'∧e=e'∧B=B':=by
 rcases eT.mp h with⟨D,h3,h4⟩|⟨D,h3,h4⟩
 ·induction D using aF with
  |nil=>
   injection h4 with h4 h5
   exact⟨by rw[h3,ay],h4,h5⟩
  |cons d D=>
   injection h4 with h4 h5
   have h6:fQ (d::D):=hp.sub λx hx=>az _ (by rw[h4,h5];exact(aE.mp hx).elim (λh=>rwr h (.head _)) λh=>.tail _ (aN _ h))
   have h7:=h6 d (.head _);have h8:=(h6.sub λx hx=>.tail _ hx:fQ D).vI;rw[h3,bX,eG]at h1;lia
 ·induction D using aF with
  |nil=>
   injection h4 with h4 h5
   exact⟨by rw[h3,ay],h4.symm,h5.symm⟩
  |cons d D=>
   injection h4 with h4 h5
   have h8:=(hp.sub λx hx=>aN _ (by rw[h3];exact az _ (.tail _ hx)):fQ D).vI
   rw[h3,bX,eG,←h4]at h2;lia
theorem TL.a2V{σ:St}{tr:Addr}{L:eE}(h:TL σ tr L):∃v,σ tr=some (.inst 754 [(mE,v)])∧(L=[]→v=.none)∧(L≠[]→∃a,v=.ref a):=by
 obtain⟨ix,t,hA,rfl,_⟩:=h;refine⟨t.val,hA.ctx.1,λh=>rwl (T.Li h) rfl,λh=>?_⟩;induction t using T.casesOn with
 |leaf=>exact absurd rfl h
 |nd a=>exact⟨a,rfl⟩
theorem TL.single{σ:St}{tr f:Addr}{m:Int}{p:MV}(h1:σ tr=some (.inst 754 [(mE,.ref f)]))(h2:σ f=some (Mine.Internal.node m p .none .none .none))(h3:f≠tr):TL σ tr [(f,m,p)]:=by
 have e1:(λz=>if z=f then(1:Int)else 0) f=1:=if_pos rfl;have e0:(λz=>if z=f then(1:Int)else 0) tr=0:=if_neg h3.symm;exact TL.of (ix:=λz=>if z=f then 1 else 0) (t:=.nd f m p .leaf .leaf) ⟨⟨h1,by rw[e0];exact aP _⟩,h2.trans (congrArg some (pR (fh m).symm)),by rw[e1];exact Int.zero_lt_one,trivial,trivial⟩
theorem ND{L L':eE}(h:cs L'=cs L)(p':fQ L')(p:fQ L):sumF L'=sumF L:=by rw[←pF p'.nn,←pF p.nn,h]
theorem Lh{tr f z w:Addr}{A B:eE}{m:Int}{p:MV}(h:z∈foot tr (A++(f,m,p)::B)):z=f∨z∈foot tr (A++B):=by
 simp only[foot,aJ,dm,aE,aU]at h⊢;rcases h with h|h|h|h
 ·exact .inr (.inl h)
 ·exact .inr (.inr (.inl h))
 ·exact .inl h
 ·exact .inr (.inr (.inr h))
theorem Uh{tr f z:Addr}{A B:eE}{m:Int}{p:MV}(h:z∈foot tr (A++B)):z∈foot tr (A++(f,m,p)::B):=by
 simp only[foot,aJ,dm,aE,aU]at h⊢;exact h.imp id λh=>h.imp id .inr
theorem HG{A B:eE}{e:Addr×Int×MV}(h:fQ (A++B))(h1:0<e.2.1):fQ (A++e::B):=bY.mpr ⟨(bY.mp h).1,fp.mpr ⟨h1,(bY.mp h).2⟩⟩
theorem a0S{A B:eE}{e:Addr×Int×MV}(h:fQ (A++B))(hs:sumF (A++B)≤10000):(A++e::B).length≤100000:=by
 have:=h.len;rw[aa]at this;rw[aa,cg];lia
section
variable{be:Nat}{σ:St}{Q:bw}{tr a:Addr}
theorem Bj{L:eE}{at_ w:Int}{pl:MV}(aV:ai 6 be=true)(hT:TL σ tr L)(hp:fQ L)(hs:sumF L≤10000)(h0:0≤at_)(h1:at_≤sumF L)(hw:0<w)
  (hq:∀(A B:eE)(f:Addr)av,TL av tr (A++(f,w,pl)::B)→fQ (A++B)→cs (A++B)=cs L→sumF A=at_→Kp σ av (foot tr L) (foot tr (A++(f,w,pl)::B))→Q .none av):
  D be (.fn 919) [.ref tr,.int at_,.int w,pl] σ Q:=by
 refine wV aV ?_;dsimp only[lN];k_in;refine px (λe=>aP _ (e▸hw)) ?_;k_in;intro f hf;refine oq (by first|exact aV|rfl|exact bB aV rfl) (Oq ?_)
 have Xe:f∉foot tr L:=λh=>hT.live f h hf;have OY:=hT.frame (av:=upd σ f (node w pl .none .none .none)) λz hz=>aC λe=>Xe (rwr e hz);have hf1:upd σ f (node w pl .none .none .none) f=some (node w pl .none .none .none):=ak ..;have HQ:Kp σ (upd σ f (node w pl .none .none .none)) (foot tr L) (foot tr L):=Kp.fresh hf;revert OY hf1 HQ;generalize upd σ f (node w pl .none .none .none)=dE;intro OY hf1 HQ;obtain⟨v,hr,hr1,TR⟩:=OY.a2V;k_in;by_cases hL:L=[]
 ·subst hL;have:=hr1 rfl;subst this;k_go;have nF:f≠tr:=λe=>Xe (rwr e (.head _));exact hq [] [] f _ (TL.single (ak ..) ((aC nF).trans hf1) nF) (λ_ h=>absurd h aD) rfl (kL h0 h1) ⟨HQ.off.upd (.inl (.head _)),λx hx=>(Lh (w:=tr) (A:=[]) (B:=[]) hx).elim (λe=>.inr (rwl e hf)) .inl⟩
 ·obtain⟨a,rfl⟩:=TR hL;k_in;refine qd (by first|exact aV|rfl|exact bB aV rfl) OY hp hs h0 h1 λL1 dp Mg vV mL a5w _ ym=>?_
  have Mf:dp f=some (node w pl .none .none .none):=ym.keep Xe hf1;have a3X:f∉foot tr L1:=λh=>(ym.new f h).elim Xe λh=>by rw[hf1]at h;cases h
  have hk:=HQ.trans ym;have DH:=ND mL vV hp;have zg:sumF L1≤10000:=rwl DH hs;have a3P:∀A B,L1=A++B→∀jJ,Off dp jJ (f::foot tr L1)→Kp σ jJ (foot tr L) (foot tr (A++(f,w,pl)::B)):=λA B e jJ o3=>
   ⟨hk.off.trans o3.g λx hx=>(aE.mp hx).elim (λh=>.inr (rwl h hf)) (hk.new x),λx hx=>(Lh (w:=tr) hx).elim (λh=>.inr (rwl h hf)) λh=>hk.new x (rwl e h)⟩
  k_in;refine m3 (by first|exact aV|rfl|exact bB aV rfl) Mg ?_
  k_in;refine gi (λh2=>?_) λh2=>?_
  ·refine iA (id Mg) λix t zh=>oe zh λhA hfl hcv=>?_;have YC:=hA.ctx.1;have nF:t≠.leaf:=λe=>by
    have e0:cs L1=[]:=by rw[←hfl,e];rfl
    have h5:=hp.len;rw[←pF hp.nn,←mL,e0]at h5;exact hL (List.length_eq_zero_iff.mp (Nat.le_zero.mp (cK.mp h5)))
   k_in;refine C7 (c:=.top) (by first|exact aV|rfl|exact bB aV rfl) hA nF λc' b m p l e1 e2=>?_
   have eL:L1=(c'.L++l.flat)++(b,m,p)::[]:=by
    have:=congrArg T.flat e1;rw[C.dz,e2]at this;rw[←hfl,←show(C.top.iU t).flat=t.flat from rfl,←this];simp only[T.flat,C.R,af,ay]
   have e3:(c'.L++l.flat)++(b,m,p)::(f,w,pl)::[]=L1++(f,w,pl)::[]:=by rw[eL,af (c'.L++l.flat)];rfl
   have hp3:fQ (L1++[]):=rwr ((ay L1).symm) vV;k_in;exact tR (by first|exact aV|rfl|exact bB aV rfl) (rwr eL Mg) Mf (rwr eL a3X) (rwl e3 ((HG hp3 hw).nn)) (e3▸a0S hp3 (rwr ((ay L1).symm) zg)) λjJ OX o3=>
    hq L1 [] f jJ (rwr e3 OX) hp3 (by rw[ay];exact mL) h2.symm (a3P _ _ (ay L1).symm jJ (rwl eL o3))
  ·k_in;refine tU (by first|exact aV|rfl|exact bB aV rfl) Mg h0 (by lia) λA B a m p hL1 h4 h5=>?_
   refine iA a5w λA0 B0 zh=>rU zh λe0 es=>?_;have hAB:sumF A=at_:=by
    induction B0 using aF with
    |nil=>exact absurd (by rw[e0,ay];exact es.symm) h2
    |cons e B0=>
     refine oe (vY (e0.symm.trans hL1) (rwr e0 vV) (rwr es.symm h4) (rwr es.symm h5)) λzr0 _ _=>?_;subst zr0;exact es
   subst hL1;k_in;exact LQ (by first|exact aV|rfl|exact bB aV rfl) Mg Mf a3X (HG vV hw).nn (a0S vV zg) λjJ OX o3=>hq A ((a,m,p)::B) f jJ OX vV mL hAB (a3P _ _ rfl jJ o3)
theorem yb{t:Int}{p:MV}(aV:ai 1 be=true)(h:σ a=none)(ht:0<t)
  (hq:∀f av,TL av a [(f,t,p)]→Kp σ av [] (foot a [(f,t,p)])→Q .none av):
  D be (.fn 751) [.ref a,.int t,p] (upd σ a (.inst 754 [])) Q:=by
 refine qc aV ?_;dsimp only[hJ];k_in;refine pk ht ?_;k_in;intro f hf;have hfa:f≠a:=λe=>by rw[e,ak]at hf;cases hf
 refine oq (by first|exact aV|rfl|exact bB aV rfl) (Oq ?_)
 have ha:upd (upd σ a (.inst 754 [])) f (node t p .none .none .none) a=some (.inst 754 []):=(aC hfa.symm).trans (ak ..);have a3W:σ f=none:=(aC hfa).symm.trans hf;k_go;exact hq f _ (TL.single (ak ..) ((aC hfa).trans (ak ..)) hfa) ⟨(((oG.refl σ []).upd (.inr h)).upd (.inr a3W)).upd (.inr h),λx hx=>.inr ((aE.mp hx).elim (λe=>rwl e h) λhx=>rwl (aQ.mp hx) a3W)⟩
end
theorem RT{L:eE}{b e:Int}(hp:fQ L)(hb:Cut b L)(he:Cut e L)(h:b<e):∃A M B,L=A++(M++B)∧sumF A=b∧sumF M=e-b:=by
 refine iA hb λA B' zh=>rU zh λe1 e2=>?_;refine iA he λA' B zh=>rU zh λe3 e4=>?_;rw[e1]at e3;rcases eT.mp e3 with⟨D,h5,h6⟩|⟨D,h5,h6⟩
 ·exact⟨A,D,B,by rw[e1,h6],e2,by rw[h5,bX]at e4;lia⟩
 ·have:=(hp.sub λx hx=>by rw[e1,h5,af];exact az _ (aN _ hx):fQ D).vI
  rw[h5,bX]at e2;lia
theorem a5K(m s:Int):m+s-m=s:=by lia
section
variable{be:Nat}{σ:St}{Q:bw}{tr:Addr}
theorem F8{L:eE}{b e:Int}(aV:ai 6 be=true)(hT:TL σ tr L)(hp:fQ L)(hs:sumF L≤10000)(h0:0≤b)(h1:b<e)(h2:e≤sumF L)
  (hq:∀(A M B:eE)av,TL av tr (A++B)→fQ (A++(M++B))→cs (A++(M++B))=cs L→sumF A=b→sumF M=e-b→Kp σ av (foot tr L) (foot tr (A++B))→Q .none av):
  D be (.fn 926) [.ref tr,.int b,.int e] σ Q:=by
 refine AX aV ?_;dsimp only[qt];k_in;refine px (Bs.mpr h1) ?_;k_in;refine qd (by first|exact aV|rfl|exact bB aV rfl) hT hp hs h0 (aS (bp h1) h2) λL1 dE OY GX tK TV _ HQ=>?_
 have Fb:=ND tK GX hp;k_in;refine qd (by first|exact aV|rfl|exact bB aV rfl) OY GX (rwl Fb hs) (aS h0 (bp h1)) (rwl Fb h2) λL2 dp Mg vV mL TU hold ym=>?_
 refine JM (RT vV (hold b TV) TU h1) λA M B zh=>oe zh λIk hA hM=>?_;subst Ik;k_in;refine dS λP hP=>?_;have key:∀(M1:eE)(jJ:St)(nv:Option MV),(∀e∈M1,e∈M)→sumF (A++(M1++B))≤10000→TL jJ tr (A++(M1++B))→Kp σ jJ (foot tr L) (foot tr (A++(M1++B)))→
   P [(aY,some (.ref tr)),(aT,some (.int b)),(aH,some (.int e)),(cW,some (.int (sumF M1))),(aB,nv)] jJ:=by
  intro M1;induction M1 with
  |nil=>
   intro jJ nv _ _ Vd Q9;apply hP;k_in;refine px (aP _) ?_;k_in;exact hq A M B jJ Vd vV (mL.trans tK) hA hM Q9
  |cons x M1 ih=>
   intro jJ nv hin W8 Vd Q9;obtain⟨a,m,p⟩:=x;have hpx:fQ (A++(a,m,p)::(M1++B)):=vV.sub λy hy=>(aU.mp hy).elim (aN _) λhy=>az _ ((aE.mp hy).elim (λh=>aN _ (hin _ (rwr h (.head _)))) λhy=>
    (aU.mp hy).elim (λh=>aN _ (hin _ (.tail _ h))) λh=>az _ h)
   have hm:0<m:=hpx (a,m,p) (az _ (.head _));have es:sumF (A++(a,m,p)::(M1++B))=b+(m+sumF (M1++B)):=by rw[bX,eG,hA]
   apply hP;k_in;refine pk (pC hm (hpx.sub λy hy=>az _ (.tail _ (aN _ hy))).vI) ?_;k_in;refine tU (by first|exact aV|rfl|exact bB aV rfl) Vd h0 (rwl es (Int.lt_add_of_pos_right _ (pC hm (hpx.sub λy hy=>az _ (.tail _ hy)).vI))) λA' B' a' m' p' e1 h5 h6=>?_
   refine oe (vY e1 hpx (rwl hA h5) (rwl hA h6)) λzr0 e2 Gu=>?_;subst zr0;subst Gu;cases e2;k_in;refine zy (by first|exact aV|rfl|exact bB aV rfl) Vd ?_
   k_in;have hs4:sumF (A++(M1++B))≤10000:=aS (by rw[bH,es,bX,hA];exact zJ (Int.le_add_of_nonneg_left (bp hm)) _) W8
   refine uM (by first|exact aV|rfl|exact bB aV rfl) Vd hpx.nn (a0S (hpx.sub λy hy=>(aU.mp hy).elim (aN _) λhy=>az _ (.tail _ hy)) hs4) λvh OX o4=>?_
   rw[show sumF ((a,m,p)::M1)-m=sumF M1 by rw[eG,a5K]]
   k_in;exact ih vh _ (λe he=>hin e (.tail _ he)) hs4 OX (Q9.trans ⟨o4.g,λz hz=>.inl (Uh hz)⟩)
 rw[←hM];exact key M dp none (λ_ h=>h) (rwl ((ND mL vV GX).trans Fb) hs) Mg (HQ.trans ym)
end
section
variable{X:Ctx}{σ:St}{ρ:Loc}{Q:bw}{a b:Addr}{l k:List MV}
theorem tx{n:Int}(h0:0≤n)(h1:n≤lim)(q:Q (.PK n) σ):K1 "range" [.int n] σ Q:=⟨⟨h0,h1⟩,q⟩
theorem jm(h:σ a=some (.list l))(q:fe l σ Q):K1 "list" [.ref a] σ Q:=.inl (hH (kl:=λl=>fe l σ Q) h q)
theorem BH(h:σ a=some (.list l))(h':σ b=some (.list k))(hl:l.length+k.length≤lim)(q:fe (l++k) σ Q):BY .Add (.ref a) (.ref b) σ Q:=
 hH (kl:=λl=>look σ b (λk=>l.length+k.length≤lim∧fe (l++k) σ Q) KU jg) h (hH (kl:=λk=>l.length+k.length≤lim∧fe (l++k) σ Q) h' ⟨hl,q⟩)
theorem HC{lo hi:MV}{i j:Nat}(h:σ a=some (.list l))(h1:lo? lo=some i)(h2:hi? hi l.length=some j)(q:fe (AH l i j) σ Q):l8 (.ref a) (.MR lo hi) σ Q:=
 show E7 σ a _ from by
  unfold E7;rw[h];show gv (lo? lo) _;rw[h1];show gv (hi? hi l.length) _;rw[h2];exact q
theorem a0d{lo hi:MV}{i j:Nat}(h:σ a=some (.Lc l))(h1:lo? lo=some i)(h2:hi? hi l.length=some j)(q:fe (AH l i j) σ Q):l8 (.ref a) (.MR lo hi) σ Q:=
 show E7 σ a _ from by
  unfold E7;rw[h];show gv (lo? lo) _;rw[h1];show gv (hi? hi l.length) _;rw[h2];exact q
theorem Yd{i:Int}(q:Q (.bool false) σ):fF "isinstance" [.int i,.ty "bool"] σ Q:=by
 unfold fF;rw[show("isinstance"=="len")=false by decide,show("isinstance"=="abs")=false by decide,show("isinstance"=="min")=false by decide,show("isinstance"=="max")=false by decide,show("isinstance"=="isinstance")=true by decide]
 exact⟨show("bool"=="bool")=true by decide,q⟩
theorem Ja{i:Nat}(h:i<1000000):lo? (.int i)=some i:=by
 unfold lo?;exact(if_pos ⟨bJ i,by lia⟩).trans (congrArg some (cS i))
theorem B6{i n:Nat}(h:i<1000000):hi? (.int i) n=some i:=by
 unfold hi?;exact(if_pos ⟨bJ i,by lia⟩).trans (congrArg some (cS i))
theorem OZ{c t k s}{n:Nat}(I:Nat→Loc→St→Prop)(h0:I 0 ρ σ)(TQ:∀i ρ σ(R:LK),i<n→I i ρ σ→(∀m8 aO,I (i+1) m8 aO→R m8 aO)→UN (yJ X t (.int i) ρ) (blk X c (sq (stK s R) k)) σ)
  (a1h:∀ρ σ,I n ρ σ→k .next ρ σ):FW X c t s (oZ n) ρ σ k:=by
 have key:∀(m i:Nat){ρ σ},i+m=n→I i ρ σ→FW X c t s ((Mm i m).map λ(j:Nat)=>MV.int j) ρ σ k:=λm=>by
  induction m with
  |zero=>exact λi ρ σ e h=>a1h _ _ (rwr e h)
  |succ m ih=>exact λi ρ σ e h=>TQ i ρ σ _ (rwr e (Nat.lt_add_of_pos_right (gX m))) h λm8 aO h'=>ih (i+1) (by rw[zN,jQ 1];exact e) h'
 have:=key n 0 (cQ n) h0;rw[←xM]at this;exact this
end
noncomputable abbrev jx:=List (Int×Int)
noncomputable abbrev pv(p:Int×Int):MV:=.tup [.int p.1,.int p.2]
noncomputable abbrev yi(pl:jx):MO:=.list (pl.map pv)
theorem a24{pl:jx}{i:Nat}(h:i<pl.length):(pl.map pv)[i]?=some (pv pl[i]):=by rw[lR,j5 h];rfl
section
variable{be:Nat}{σ:St}{Q:bw}{q:Addr}{pl:jx}{k w:Int}
theorem LS{i j:Int}(aV:ai 0 be=true)(hq:Q (.bool (decide (i=j))) σ):D be (.fn 149) [.int i,.int j] σ Q:=by
 refine XK aV ?_;dsimp only[a1D];k_in;refine Yd ?_;k_in;refine Yd ?_;k_in;exact hq
theorem ph(aV:ai 0 be=true)(h:σ q=some (yi pl))(hl:pl.length≤100)(h0:(∀e∈pl,e.1≠k)→Q (.int (-1)) σ)(h1:∀A v B,pl=A++(k,v)::B→(∀e∈A,e.1≠k)→Q (.int A.length) σ):D be (.fn 156) [.ref q,.int k] σ Q:=by
 refine DU aV ?_;dsimp only[ud];k_in;refine tx (bJ _) (by rw[ax];exact cK.mpr (ah hl (by decide))) ?_
 k_in;rw[ax];refine OZ (λi ρ av=>av=σ∧(∃v,ρ=[(aI,some (.ref q)),(aG,some (.int k)),(x_at,v)])∧∀e∈pl.take i,e.1≠k) ⟨rfl,⟨none,rfl⟩,λ_ h=>absurd h aD⟩ (λi ρ av R hi hI hR=>?_) λρ av hI=>?_
 ·cases hI.1;induction hI.2.1 with|intro v e=>
  cases e;k_in;refine j9 h (a24 hi) ?_;k_in;refine gi (λe1=>?_) λe1=>?_
  ·k_in;have:=h1 (pl.take i) pl[i].2 (pl.drop (i+1)) (by rw[←e1];exact(by rw[←Hn hi,cw])) hI.2.2
   rw[eX,eS (u9 hi)]at this;exact this
  ·k_in;refine⟨trivial,hR _ _ ⟨rfl,⟨_,rfl⟩,λp hp=>?_⟩⟩;rw[List.take_succ_eq_append_getElem hi]at hp;exact(aU.mp hp).elim (hI.2.2 p) λm=>rwl (aQ.mp m) e1
 ·cases hI.1;induction hI.2.1 with|intro v e=>
  cases e;k_in;exact h0 λp hp=>hI.2.2 p (by rw[sW];exact hp)
noncomputable def lk:jx→Int→Option Int
 |[],_=>none
 |(a,v)::r,k=>if a=k then some v else lk r k
noncomputable def uy:jx→Int→Int→jx
 |[],k,v=>[(k,v)]
 |(a,u)::r,k,v=>if a=k then(k,v)::r else(a,u)::uy r k v
theorem Eg:∀{pl:jx},(∀e∈pl,e.1≠k)→lk pl k=none∧uy pl k w=pl++[(k,w)]:=by
 intro zl;induction zl with
 |nil=>
  rintro _;exact⟨rfl,rfl⟩
 |cons zx r ih=>
  obtain⟨a,u⟩:=zx;rintro h;exact have ih:=ih λe m=>h e (.tail _ m);⟨(if_neg (h _ (.head _))).trans ih.1,(if_neg (h _ (.head _))).trans (congrArg _ ih.2)⟩
theorem Ef{v:Int}{B:jx}:∀{A:jx},(∀e∈A,e.1≠k)→lk (A++(k,v)::B) k=some v∧uy (A++(k,v)::B) k w=A++(k,w)::B:=by
 intro zl;induction zl with
 |nil=>
  rintro _;exact⟨if_pos rfl,if_pos rfl⟩
 |cons zx r ih=>
  obtain⟨a,u⟩:=zx;rintro h;exact have ih:=ih λe m=>h e (.tail _ m);⟨(if_neg (h _ (.head _))).trans ih.1,(if_neg (h _ (.head _))).trans (congrArg _ ih.2)⟩
end
section
variable{be:Nat}{σ:St}{Q:bw}{q r:Addr}{pl:jx}{k w:Int}
noncomputable abbrev GB:Option Int→MV
 |none=>.none
 |some v=>.tup [.int v]
theorem SQ{A B:jx}{e:Int×Int}:((A++e::B).map pv)[A.length]?=some (pv e):=by rw[lR,Gs (cM _),a1R];rfl
theorem not_neg(n:Nat):¬(n:Int)<0:=dc.mpr (bJ n)
theorem w7(aV:ai 1 be=true)(h:σ q=some (yi pl))(hl:pl.length≤100)(hq:Q (GB (lk pl k)) σ):D be (.fn 163) [.ref q,.int k] σ Q:=by
 refine FF aV ?_;dsimp only[xg];k_in;refine ph rfl h hl (λh0=>?_) λA v B e h1=>?_
 ·rw[(Eg (w:=0) h0).1]at hq;k_in;refine px (by decide) ?_
  k_in;exact hq
 ·rw[e]at h hq;rw[(Ef (w:=0) h1).1]at hq;k_in;refine pk (bJ _) ?_;k_in;refine j9 h SQ ?_;k_in;exact hq
theorem tT(aV:ai 1 be=true)(h:σ q=some (yi pl))(hl:pl.length≤100)(hq:Q (.bool (decide (lk pl k=some w))) σ):D be (.fn 182) [.ref q,.int k,.int w] σ Q:=by
 refine DY aV ?_;dsimp only[uh];k_in;refine ph rfl h hl (λh0=>?_) λA v B e h1=>?_
 ·rw[(Eg (w:=0) h0).1]at hq;k_in;refine px (by decide) ?_
  k_in;exact hq
 ·rw[e]at h hq;rw[(Ef (w:=0) h1).1]at hq;k_in;refine pk (bJ _) ?_;k_in;refine j9 h SQ ?_;k_in;refine LS rfl ?_;k_in;rw[show decide (v=w)=decide (some v=some w)from decide_eq_decide.mpr ⟨congrArg some,aA⟩];exact hq
end
noncomputable def Le(σ av:St):Prop:=∀a mo,σ a=some mo→av a=some mo
theorem Le.refl(σ:St):Le σ σ:=λ_ _=>id
theorem Le.new{σ av:St}{c:Addr}{o:MO}(h:Le σ av)(hc:av c=none):Le σ (upd av c o):=λa mo e=>(aC λ(q:a=c)=>ar (h a mo e) (rwl q hc)).trans (h a mo e)
theorem Le.none{σ av:St}{c:Addr}(h:Le σ av)(hc:av c=none):σ c=none:=gS (p:=True) λo e=>ar (h c o e) hc
theorem Le.put{σ av:St}{c:Addr}{o:MO}(h:Le σ av)(e:av c=some o):Le (upd σ c o) av:=λa mo w=>if q:a=c then by rw[q]at w⊢;rw[ak]at w;exact rwr w e else h a mo ((aC q).symm.trans w)
section
variable{be:Nat}{σ:St}{Q:bw}{f:MV}{vs:List MV}{o:MO}
theorem D.fresh(h:D be f vs σ λm av=>∃d,m=.ref d∧σ d=none∧av d=some o∧Le σ av)(hq:∀d,σ d=none→Q (.ref d) (upd σ d o)):D be f vs σ Q:=
 D.less h λm av q=>q.elim λd z=>⟨upd σ d o,z.2.2.2.put z.2.2.1,rwl z.1 (hq d z.2.1)⟩
theorem D.pure{v:MV}(h:D be f vs σ λm av=>m=v∧Le σ av)(hq:Q v σ):D be f vs σ Q:=D.less h λm av z=>⟨σ,z.2,rwl z.1 hq⟩
end
section
variable{be:Nat}{σ:St}{Q:bw}{q r:Addr}{pl:jx}{k w:Int}
theorem WX{i:Nat}(h:i+1<1000000):lo? (.int (i+1))=some (i+1):=Ja (i:=i+1) h
theorem a1t{A B:List MV}:AH (A++B) 0 A.length=A:=by unfold AH;rw[xK,Vl]
theorem a1u{A B:List MV}{x:MV}:AH (A++x::B) (A.length+1) (A++x::B).length=B:=by
 unfold AH;rw[sW,List.append_cons,List.drop_left' (by rw[aa];rfl)]
theorem tS(aV:ai 1 be=true)(h:σ q=some (yi pl))(hl:pl.length≤100)(hq:∀c,σ c=none→Q (.ref c) (upd σ c (yi (uy pl k w)))):D be (.fn 170) [.ref q,.int k,.int w] σ Q:=by
 refine D.fresh (DS aV ?_) hq;dsimp only[ua];k_in;refine ph rfl h hl (λh0=>?_) λA v B e h1=>?_
 ·rw[(Eg h0).2];k_in;refine pk (by decide) ?_
  k_in;intro c hc;k_in;refine BH (rz hc h) (ak ..) (by rw[ax];exact ah (bU hl) (by decide)) λd hd=>?_
  have l1:=(Le.refl σ).new (o:=.list [pv (k,w)]) hc;exact⟨d,rfl,l1.none hd,(ak ..).trans (congrArg (λl=>some (MO.list l)) (aJ (f:=pv) (l₁:=pl) (l₂:=[(k,w)])).symm),l1.new hd⟩
 ·rw[e]at h hl⊢;rw[(Ef h1).2];have lA:A.length+1≤100:=by rw[aa,cg]at hl;exact ah (c9 (ve 1 _) _) hl
  have la:A.length+1<1000000:=bc lA (by decide)
  have h:σ q=some (.list (A.map pv++pv (k,v)::B.map pv)):=h.trans (congrArg (λl=>some (MO.list l)) aJ);have le:(A.map pv).length=A.length:=ax ..;have e1:AH (A.map pv++pv (k,v)::B.map pv) 0 A.length=A.map pv:=by rw[←le];exact a1t
  have e2:AH (A.map pv++pv (k,v)::B.map pv) (A.length+1) (A.map pv++pv (k,v)::B.map pv).length=B.map pv:=(congrArg (λz=>AH _ (z+1) _) le.symm).trans a1u;k_in;refine px (not_neg _) ?_;k_in;refine HC h (i:=0) (j:=A.length) rfl (B6 (Ri la)) ?_;rw[e1];intro c hc;k_in;intro d hd;k_in;refine BH (rz hd (ak ..)) (ak ..) (by rw[le];exact ah lA (by decide)) λe he=>?_
  have l3:=(((Le.refl σ).new (o:=.list (A.map pv)) hc).new (o:=.list [pv (k,w)]) hd).new (o:=.list (A.map pv++[pv (k,w)])) he;k_in;refine HC (l3 _ _ h) (i:=A.length+1) (WX la) rfl ?_;rw[e2];intro g hg;k_in;refine BH (rz hg (ak ..)) (ak ..) (by rw[aa,le];exact ah (ik lA (by rw[ax];rw[aa,cg]at hl;exact ah (ah (iF _) (ve _ _)) hl)) (by decide)) λt ht=>?_
  have l4:=l3.new (o:=.list (B.map pv)) hg;exact⟨t,rfl,l4.none ht,(ak ..).trans (congrArg (λl=>some (MO.list l)) (by rw[af,aJ];rfl)),l4.new ht⟩
end
section
variable{X:Ctx}{ρ:Loc}{σ:St}
theorem ll{β:Type}{a t s k}(V:β→MV)(I:List β→Loc→St→Prop):∀{rows:List β}{ρ σ},I rows ρ σ→
  (∀v vs ρ σ(R:LK),I (v::vs) ρ σ→(∀m8 aO,I vs m8 aO→R m8 aO)→UN (yJ X t (V v) ρ) (blk X a (sq (stK s R) k)) σ)→(∀ρ σ,I [] ρ σ→k .next ρ σ)→FW X a t s (rows.map V) ρ σ k:=by
 intro zl;induction zl with
 |nil=>
  rintro _ _ h _ he;exact he _ _ h
 |cons v vs ih=>
  rintro _ _ h hs he;exact hs v vs _ _ _ h λm8 aO h=>ih h hs he
theorem Wj{b:Addr}{js:List Int}{i:Int}{k:TK}(h:σ b=some (.list (js.map .int)))(q:k (!decide (i∈js)) ρ σ):ka X .NotIn (.int i) (.ref b) k ρ σ:=
 hH (kl:=λl=>∃js:List Int,l=js.map .int∧k (!decide (i∈js)) ρ σ) h ⟨js,rfl,q⟩
end
noncomputable def GA(p:Int→Prop)[DecidablePred p](pl:jx):jx:=pl.filter λe=>!decide (p e.1)
theorem Ol{p:Int→Prop}[DecidablePred p]:∀pl:jx,(pl.filterMap λe=>if p e.1 then none else some (pv e))=(GA p pl).map pv:=by
 intro zl;induction zl with
 |nil=>
  exact rfl
 |cons e r ih=>
  unfold GA;by_cases h:p e.1
  ·rw[dB (f:=λe=>if p e.1 then none else some (pv e)) (if_pos h),sY (by rw[decide_eq_true h];exact aq)];exact ih
  ·rw[cV (f:=λe=>if p e.1 then none else some (pv e)) (if_neg h),h9 (by rw[decide_eq_false h];rfl)];exact congrArg _ (ih)
noncomputable def EJ(a b:jx):Bool:=decide (a.length=b.length)&&a.all λe=>decide (lk b e.1=some e.2)
section
variable{be:Nat}{σ:St}{Q:bw}{q r:Addr}{pl a b:jx}{k:Int}
theorem D1(aV:ai 0 be=true)(h:σ q=some (yi pl))(hl:pl.length≤100)(hq:∀c,σ c=none→Q (.ref c) (upd σ c (yi (GA (·=k) pl)))):D be (.fn 175) [.ref q,.int k] σ Q:=by
 refine zk aV ?_;dsimp only[ou];k_in;refine Pp pv (λe=>if e.1=k then none else some (pv e)) (s:=.list q (pl.map pv)) h pl [] (λe _ T hT=>?_) (by rw[bQ,cQ];exact ah hl (by decide)) ?_
 ·k_in;refine oT (λh1=>?_) λh1=>?_
  ·rw[if_pos h1]at hT;exact hT
  ·rw[if_neg h1]at hT;k_in;exact hT
 ·rw[cN,show(pl.filterMap λe=>if e.1=k then none else some (pv e))=(GA (·=k) pl).map pv from Ol (p:=(·=k)) pl];exact hq
theorem D2{js:List Int}(aV:ai 0 be=true)(h:σ q=some (yi pl))(h':σ r=some (.list (js.map .int)))(hl:pl.length≤100)(hq:∀c,σ c=none→Q (.ref c) (upd σ c (yi (GA (·∈js) pl)))):D be (.fn 194) [.ref q,.ref r] σ Q:=by
 refine zm aV ?_;dsimp only[ow];k_in;refine Pp pv (λe=>if e.1∈js then none else some (pv e)) (s:=.list q (pl.map pv)) h pl [] (λe _ T hT=>?_) (by rw[bQ,cQ];exact ah hl (by decide)) ?_
 ·k_in;refine Wj h' ?_;refine oT (λh1=>?_) λh1=>?_
  ·rw[if_pos h1]at hT;exact hT
  ·rw[if_neg h1]at hT;k_in;exact hT
 ·rw[cN,show(pl.filterMap λe=>if e.1∈js then none else some (pv e))=(GA (·∈js) pl).map pv from Ol (p:=(·∈js)) pl];exact hq
theorem Bc(aV:ai 2 be=true)(h:σ q=some (yi a))(h':σ r=some (yi b))(hl:b.length≤100)(hq:Q (.bool (EJ a b)) σ):D be (.fn 189) [.ref q,.ref r] σ Q:=by
 refine DP aV ?_;dsimp only[t7];k_in;rw[ax,ax];refine oT (λe0=>?_) λe0=>?_
 ·have el:=cO e0;k_in;refine ll pv (λB ρ av=>av=σ∧(∃n v,ρ=[(gZ,some (.ref q)),(dg,some (.ref r)),(aG,n),(cX,v)])∧B.all (λe=>decide (lk b e.1=some e.2))=EJ a b) ⟨rfl,⟨none,none,rfl⟩,by unfold EJ;rw[decide_eq_true el];rfl⟩ (λe rs ρ av R hI hR=>?_) λρ av hI=>?_
  ·cases hI.1;induction hI.2.1 with|intro n e1=>induction e1 with|intro v e1=>
   cases e1;have hs:=hI.2.2;k_in;refine tT rfl h' hl ?_;k_in;refine oT (λe1=>?_) λe1=>?_
   ·rw[Ih,decide_eq_true e1]at hs;k_in;exact⟨h,hR _ _ ⟨rfl,⟨_,_,rfl⟩,hs⟩⟩
   ·rw[Ih,decide_eq_false e1]at hs;rw[←hs]at hq;k_in;exact hq
  ·cases hI.1;induction hI.2.1 with|intro n e1=>induction e1 with|intro v e1=>
   cases e1;rw[←hI.2.2]at hq;k_in;exact hq
 ·rw[show EJ a b=false by unfold EJ;rw[decide_eq_false λe=>e0 (congrArg Int.ofNat e)];rfl]at hq
  k_in;exact hq
end
section
variable{X:Ctx}{σ:St}{Q:bw}{a:Addr}
theorem LX{v:MV}(q:Ee v σ Q):fF "sorted" [v] σ Q:=by
 unfold fF;rw[show("sorted"=="len")=false by decide,show("sorted"=="abs")=false by decide,show("sorted"=="min")=false by decide,show("sorted"=="max")=false by decide,show("sorted"=="isinstance")=false by decide,show("sorted"=="sorted")=true by decide]
 exact q
theorem Wi{js:List Int}(h:σ a=some (.list (js.map .int)))(hl:js.length≤2)(q:fe ((sortI js).map .int) σ Q):fF "sorted" [.ref a] σ Q:=
 LX (by refine hH h ?_;exact .inl ⟨js,rfl,hl,q⟩)
end
structure Good(pl:jx):Prop where
 k:∀e∈pl,e.1=1∨e.1=2
 n:(pl.map (·.1)).Nodup
noncomputable def chg(a b:jx):List Int:=(if lk b 1=lk a 1 then[]else[1])++(if lk b 2=lk a 2 then[]else[2])
theorem Sg:∀{F:List Int},F.Nodup→(∀x∈F,x=1∨x=2)→sortI F=(if 1∈F then[1]else[])++(if 2∈F then[2]else[])∧F.length≤2
 |[],_,_=>⟨rfl,by decide⟩
 |[x],_,h=>by rcases h x (.head _)with e|e<;>(rw[e];decide)
 |[x,y],n,h=>by
  rcases h x (.head _)with e|e<;>rcases h y (.tail _ (.head _))with e'|e'<;>rw[e,e']at n⊢<;>first|decide|exact absurd n (by decide)
 |x::y::z::r,n,h=>by
  have h1:=h x (.head _);have h2:=h y (.tail _ (.head _));have h3:=h z (.tail _ (.tail _ (.head _)));have n1:=dw.mp n;have e1:x≠y:=λe=>n1.1 (rwr e (.head _));have e2:x≠z:=λe=>n1.1 (rwr e (.tail _ (.head _)));have e3:y≠z:=λe=>(dw.mp n1.2).1 (rwr e (.head _));lia
theorem Nl{k v:Int}{pl:jx}(h:lk pl k=some v):(k,v)∈pl:=by
 induction pl with
 |nil=>exact ar h rfl
 |cons p r ih=>induction p with|mk a u=>
  have h:ite (a=k) (some u) (lk r k)=some v:=h;by_cases e:a=k
  ·rw[if_pos e]at h;rw[←e,←aA h];exact .head _
  ·rw[if_neg e]at h;exact .tail _ (ih h)
theorem Nf{k v:Int}{pl:jx}(n:(pl.map (·.1)).Nodup)(h:(k,v)∈pl):lk pl k=some v:=by
 induction pl with
 |nil=>exact absurd h aD
 |cons p r ih=>induction p with|mk a u=>
  have n:=dw.mp n;show ite (a=k) (some u) (lk r k)=some v;rcases aE.mp h with e|m
  ·rw[←(fJ e).1,←(fJ e).2];exact if_pos rfl
  ·rw[if_neg λe=>n.1 (dv.mpr ⟨(k,v),m,e.symm⟩)];exact ih n.2 m
noncomputable def qF(b:jx)(a:jx):List Int:=(a.filter λe=>!decide (lk b e.1=some e.2)).map (·.1)
noncomputable def uU(a:jx)(b:jx):List Int:=(b.filter λe=>decide (lk a e.1=none)).map (·.1)
theorem Xw{a rs:jx}{e:Int×Int}(h:¬lk a e.1=some e.2):qF a (e::rs)=e.1::qF a rs:=by unfold qF;rw[sZ,if_pos (by rw[decide_eq_false h];rfl)];rfl
theorem Uv{a rs:jx}{e:Int×Int}(h:lk a e.1=some e.2):qF a (e::rs)=qF a rs:=by unfold qF;rw[sZ,if_neg (by rw[decide_eq_true h];exact aq)]
theorem Xv{a rs:jx}{e:Int×Int}(h:lk a e.1=none):uU a (e::rs)=e.1::uU a rs:=by unfold uU;rw[sZ,if_pos (decide_eq_true h)];rfl
theorem Uu{a rs:jx}{e:Int×Int}(h:lk a e.1≠none):uU a (e::rs)=uU a rs:=by unfold uU;rw[sZ,if_neg λq=>h (of_decide_eq_true q)]
theorem Lp{a b:jx}{k:Int}(n:(a.map (·.1)).Nodup):k∈qF b a↔lk a k≠none∧lk b k≠lk a k:=by
 unfold qF;constructor
 ·intro h;refine(dv.mp h).elim λe xP=>xP.elim λm q=>?_;refine(iR.mp m).elim λm1 m2=>?_;have:=Nf n m1;rw[←q,this];exact⟨L6 _,of_decide_eq_false ((bu _).mp m2)⟩
 ·intro h2;refine(gQ h2.1).elim λv e=>?_;have h2:=h2.2;exact dv.mpr ⟨(k,v),iR.mpr ⟨Nl e,by rw[e]at h2;exact(bu _).mpr (decide_eq_false h2)⟩,rfl⟩
theorem Lo{a b:jx}{k:Int}(n:(b.map (·.1)).Nodup):k∈uU a b↔lk a k=none∧lk b k≠none:=by
 unfold uU;constructor
 ·intro h;refine(dv.mp h).elim λe xP=>xP.elim λm q=>?_;refine(iR.mp m).elim λm1 m2=>?_;rw[←q];exact⟨of_decide_eq_true m2,gH (Nf n m1)⟩
 ·intro h;refine(gQ h.2).elim λv e=>?_;exact dv.mpr ⟨(k,v),iR.mpr ⟨Nl e,decide_eq_true h.1⟩,rfl⟩
theorem Xu{a b:jx}{k:Int}(ha:Good a)(hb:Good b):k∈qF b a++uU a b↔¬lk b k=lk a k:=by
 rw[aU,Lp ha.n,Lo hb.n];constructor
 ·exact λh=>h.elim (·.2) λh e=>h.2 (e.trans h.1)
 ·exact λh=>if e:lk a k=none then .inr ⟨e,λq=>h (q.trans e.symm)⟩else .inl ⟨e,h⟩
theorem a1w{a b:jx}(ha:Good a)(hb:Good b):sortI (qF b a++uU a b)=chg a b∧(qF b a++uU a b).length≤2:=by
 have n1:(qF b a).Nodup:=ha.n.sublist (yP.map _);have n2:(uU a b).Nodup:=hb.n.sublist (yP.map _);have h:=Sg (QU.mpr ⟨n1,n2,λx h1 y h2 e=>((Lp ha.n).mp h1).1 (rwl e (((Lo hb.n).mp h2).1))⟩) λx m=>(aU.mp m).elim
  (λm=>(dv.mp m).elim λe q=>rwr q.2 (ha.k e (iR.mp q.1).1)) λm=>(dv.mp m).elim λe q=>rwr q.2 (hb.k e (iR.mp q.1).1)
 refine⟨h.1.trans ?_,h.2⟩;unfold chg;simp only[Xu ha hb,ite_not]
section
variable{be:Nat}{σ:St}{Q:bw}{q r:Addr}{pl a b:jx}{k:Int}{w:Option Int}
theorem NM(aV:ai 2 be=true)(h:σ q=some (yi pl))(hl:pl.length≤100)(hq:Q (.bool (decide (lk pl k=w))) σ):D be (.fn 218) [GB w,.ref q,.int k] σ Q:=by
 refine G9 aV ?_;dsimp only[zG];k_in;refine w7 rfl h hl ?_;induction e:lk pl k with
 |none=>
  rw[e]at hq;induction w with
  |none=>k_in;exact hq
  |some w=>k_in;exact hq
 |some u=>
  rw[e]at hq;induction w with
  |none=>k_in;exact hq
  |some w=>
   k_in;refine LS rfl ?_;k_in;rw[show decide (u=w)=decide (some u=some w)from decide_eq_decide.mpr ⟨congrArg some,aA⟩];exact hq
theorem nW(aV:ai 2 be=true)(h:σ q=some (yi a))(h':σ r=some (yi b))(ha:Good a)(hb:Good b)(la:a.length≤100)(lb:b.length≤100)(hq:∀c,σ c=none→Q (.ref c) (upd σ c (.list ((chg a b).map .int)))):D be (.fn 201) [.ref q,.ref r] σ Q:=by
 refine D.fresh (sM aV ?_) hq;dsimp only[jt];k_in;intro c hc;have hs:=a1w ha hb;have hl:∀{l m r:List Int},l++m=r→r.length≤2→l.length<lim:=λe h=>by rw[←e,aa]at h;exact bc (ah (bq _ _) h) (by decide)
 have ap:∀(l:List Int)(x:Int),l.map MV.int++[.int x]=(l++[x]).map .int:=λl x=>(aJ (l₂:=[x])).symm;have q1:∀l:List Int,upd σ c (.list (l.map .int)) q=some (yi a):=λl=>rz hc h;have r1:∀l:List Int,upd σ c (.list (l.map .int)) r=some (yi b):=λl=>rz hc h';k_in;refine ll pv (λrest ρ av=>∃l:List Int,av=upd σ c (.list (l.map .int))∧(∃n v,ρ=[(gZ,some (.ref q)),(dg,some (.ref r)),(bG,some (.ref c)),(aG,n),(cX,v)])∧l++qF b rest=qF b a) ⟨[],rfl,⟨none,none,rfl⟩,rfl⟩ (λe rs ρ av R hI hR=>?_) λρ av hI=>?_
 ·induction hI with|intro l hI=>
  cases hI.1;induction hI.2.1 with|intro n e1=>induction e1 with|intro v e1=>
  cases e1;have hd:=hI.2.2;k_in;refine tT rfl (r1 l) lb ?_;k_in;refine oT (λe1=>?_) λe1=>?_
  ·k_in;refine⟨q1 l,hR _ _ ⟨l,rfl,⟨_,_,rfl⟩,?_⟩⟩;rw[←hd,Uv e1]
  ·have hd:(l++[e.1])++qF b rs=qF b a:=by
    rw[←hd,af,Xw e1];rfl
   k_in;refine dY (ak ..) (by rw[ax];exact hl (m:=qF b (e::rs)++uU a b) (by rw[←af,hI.2.2]) hs.2) ?_
   k_in;rw[cZ,ap];exact⟨q1 _,hR _ _ ⟨_,rfl,⟨_,_,rfl⟩,hd⟩⟩
 ·induction hI with|intro l hI=>
  cases hI.1;induction hI.2.1 with|intro n e1=>induction e1 with|intro v e1=>
  cases e1;rw[show l=qF b a from(ay l).symm.trans hI.2.2];k_in;refine ll pv (λrest ρ av=>∃l:List Int,av=upd σ c (.list (l.map .int))∧(∃n v,ρ=[(gZ,some (.ref q)),(dg,some (.ref r)),(bG,some (.ref c)),(aG,n),(cX,v)])∧l++uU a rest=qF b a++uU a b) ⟨qF b a,rfl,⟨_,_,rfl⟩,rfl⟩ (λe rs ρ av R hI hR=>?_) λρ av hI=>?_
  ·induction hI with|intro l hI=>
   cases hI.1;induction hI.2.1 with|intro n e1=>induction e1 with|intro v e1=>
   cases e1;have hd:=hI.2.2;k_in;refine ph rfl (q1 l) la (λh0=>?_) λA v B ea h1=>?_
   ·have hd:(l++[e.1])++uU a rs=qF b a++uU a b:=by
     rw[←hd,af,Xv (Eg (w:=0) h0).1];rfl
    k_in;refine pk (by decide) ?_
    k_in;refine dY (ak ..) (by rw[ax];exact hl hI.2.2 hs.2) ?_
    k_in;rw[cZ,ap];exact⟨r1 _,hR _ _ ⟨_,rfl,⟨_,_,rfl⟩,hd⟩⟩
   ·k_in;refine px (not_neg _) ?_;k_in;refine⟨r1 l,hR _ _ ⟨l,rfl,⟨_,_,rfl⟩,?_⟩⟩;rw[←hd,Uu (ea▸gH (Ef (w:=0) h1).1)]
  ·induction hI with|intro l hI=>
   cases hI.1;induction hI.2.1 with|intro n e1=>induction e1 with|intro v e1=>
   cases e1;rw[show l=qF b a++uU a b from(ay l).symm.trans hI.2.2];k_in;refine Wi (ak ..) hs.2 ?_;rw[hs.1];intro d hd;exact⟨d,rfl,((Le.refl σ).new hc).none hd,ak ..,((Le.refl σ).new hc).new hd⟩
end
theorem Le.trans{ι σ τ:St}(h:Le ι σ)(k:Le σ τ):Le ι τ:=λa o e=>k a o (h a o e)
theorem Le.upd{ι σ:St}(h:Le ι σ)(a:Addr)(o:MO):Le (upd ι a o) (Mine.Internal.upd σ a o):=λb o' e=>if q:b=a then by rw[q,ak]at e⊢;exact e else by rw[aC q]at e⊢;exact h b o' e
theorem Le.side{ι σ:St}(h:Le ι σ){a:Addr}(o:MO)(e:ι a=JQ):Le ι (Mine.Internal.upd σ a o):=λb o' q=>(aC λ(p:b=a)=>ar (p:=False) q (rwl p e)).trans (h b o' q)
theorem Kp.back{σ av:St}{F F':List Addr}(h:Kp σ av F F'){x:Addr}(hx:x∉F)(e:av x=none):σ x=none:=gS (p:=True) λo q=>ar (h.keep hx q) e
theorem Kp.addr{σ av:St}{F F':List Addr}(h:Kp σ av F F'){x:Addr}(e:av x=none):x∈F∨σ x=none:=(rT (x∈F)).imp id λhx=>h.back hx e
structure Ev(ι σ:St)(F:List Addr)(bx av:St)(F':List Addr):Prop where
 le:Le ι bx
 kp:Kp σ av F F'
 new:∀a,bx a≠none→ι a≠none∨a∈F∨σ a=none
theorem Ev.refl(ι σ:St)(F:List Addr):Ev ι σ F ι σ F:=⟨Le.refl _,Kp.refl _ _,λ_ h=>.inl h⟩
theorem Ev.trans{ι σ bx av Dj gm:St}{F F' F'':List Addr}(h:Ev ι σ F bx av F')(k:Ev bx av F' Dj gm F''):Ev ι σ F Dj gm F'':=
 ⟨h.le.trans k.le,h.kp.trans k.kp,λa ha=>(k.new a ha).elim (h.new a) λh1=>.inr (h1.elim (h.kp.new a) h.kp.addr)⟩
theorem Kp.ev{ι σ av:St}{F F':List Addr}(h:Kp σ av F F'):Ev ι σ F ι av F':=⟨Le.refl _,h,λ_ h=>.inl h⟩
noncomputable abbrev PM:=Option Int×Option Int
noncomputable def view(pl:jx):PM:=(lk pl 1,lk pl 2)
noncomputable def rdP:List MV→jx
 |.tup [.int a,.int v]::r=>(a,v)::rdP r
 |_=>[]
theorem Wf:∀pl:jx,rdP (pl.map pv)=pl:=by
 intro zl;induction zl with
 |nil=>
  exact rfl
 |cons e r ih=>
  exact congrArg (e::·) (ih)
noncomputable def vw(ι:St)(m:MV):PM:=match m with
 |.ref q=>(match ι q with
  |some (.list l)=>view (rdP l)
  |_=>(none,none))
 |_=>(none,none)
structure uj(ι:St)(q:Addr)(pl:jx):Prop where
 at_:ι q=some (yi pl)
 good:Good pl
 len:pl.length≤100
theorem uj.view{ι:St}{q:Addr}{pl:jx}(h:uj ι q pl):vw ι (.ref q)=Mine.Internal.view pl:=by
 show(match ι q with|some (.list l)=>Mine.Internal.view (rdP l)|_=>(none,none))=_
 rw[h.at_];exact congrArg Mine.Internal.view (Wf pl)
theorem uj.mono{ι bx:St}{q:Addr}{pl:jx}(h:uj ι q pl)(k:Le ι bx):uj bx q pl:=⟨k _ _ h.at_,h.good,h.len⟩
noncomputable def xJ(ι:St)(m:MV):Prop:=∃q pl,m=.ref q∧uj ι q pl
theorem xJ.mono{ι bx:St}{m:MV}(h:xJ ι m)(k:Le ι bx):xJ bx m:=h.imp λ_=>bj λ_=>cD λh=>h.mono k
noncomputable def Vw(ι:St)(L:eE):List PM:=(cs L).map (vw ι)
theorem NF{L:eE}{m:MV}(h:m∈cs L):∃e∈L,e.2.2=m:=by
 induction L with
 |nil=>exact absurd h aD
 |cons e L ih=>exact(aU.mp (show m∈aM e.2.1.toNat e.2.2++cs L from h)).elim (λh=>⟨e,.head _,(List.eq_of_mem_replicate h).symm⟩) λh=>(ih h).imp λx z=>⟨.tail _ z.1,z.2⟩
theorem a0D{L:eE}{e:Addr×Int×MV}(h:e∈L)(p:0<e.2.1):e.2.2∈cs L:=by
 induction L with
 |nil=>exact absurd h aD
 |cons a L ih=>
  show _∈aM a.2.1.toNat a.2.2++cs L;exact(aE.mp h).elim (λq=>aN _ (rwr q (Pu.mpr ⟨λz=>absurd (Int.toNat_eq_zero.mp z) (Bs.mpr p),rfl⟩))) λh=>az _ (ih h)
structure PI(ι σ:St)(tp tr:Addr)(L:eE):Prop where
 sub:Le ι σ
 tp:ι tp=some (.inst 985 [(aY,.ref tr)])
 tl:TL σ tr L
 pos:fQ L
 Rg:∀x∈foot tr L,ι x=none
 pl:∀e∈L,xJ ι e.2.2
theorem ti{ι bx:St}{m:MV}(h:xJ ι m)(k:Le ι bx):vw bx m=vw ι m:=h.elim λq h=>h.elim λpl h=>by rw[h.1,h.2.view,(h.2.mono k).view]
theorem PI.vw{ι bx σ:St}{tp tr:Addr}{L:eE}(h:PI ι σ tp tr L)(k:Le ι bx):Vw bx L=Vw ι L:=
 NX λm hm=>(NF hm).elim λe z=>rwr z.2 (ti (h.pl e z.1) k)
theorem PI.off{ι σ:St}{tp tr x:Addr}{o:MO}{L:eE}(h:PI ι σ tp tr L)(e:ι x=some o):x∉foot tr L:=λhf=>ar e (h.Rg x hf)
theorem PI.step{ι σ av:St}{tp tr:Addr}{L L':eE}(h:PI ι σ tp tr L)(h1:TL av tr L')(h2:fQ L')(h3:Kp σ av (foot tr L) (foot tr L'))(h4:∀e∈L',xJ ι e.2.2):PI ι av tp tr L':=
 ⟨λa o e=>h3.keep (h.off e) (h.sub a o e),h.tp,h1,h2,λx hx=>(h3.new x hx).elim (h.Rg x) h.sub.none,h4⟩
theorem PI.Ov{ι σ:St}{tp tr:Addr}{L L':eE}(h:PI ι σ tp tr L)(hp:fQ L')(e:cs L'=cs L):∀e∈L',xJ ι e.2.2:=λx hx=>
 (NF (L:=L) (m:=x.2.2) (by rw[←e];exact a0D hx (hp x hx))).elim λy z=>rwr z.2 (h.pl y z.1)
theorem PI.size{ι σ:St}{tp tr:Addr}{L:eE}(h:PI ι σ tp tr L)(hs:sumF L≤10000):L.length≤100000:=by
 have:=h.pos.len;lia
section
variable{be:Nat}{σ ι:St}{Q:bw}{tr tp a:Addr}{A B L:eE}{m:Int}{p:MV}
theorem Jp(aV:ai 3 be=true)(hT:TL σ tr (A++(a,m,p)::B))(nn:nnF (A++(a,m,p)::B))(hs:(A++(a,m,p)::B).length≤100000)
  (hq:∀av,TL av tr (A++(a,m,p)::B)→Off σ av (foot tr (A++(a,m,p)::B))→Q .none av):D be (.fn 842) [.ref tr,.ref a] σ Q:=by
 refine Jf hT.zip λix c l r hz=>?_;have ef:((C.side true a m p r c).iU l).flat=A++(a,m,p)::B:=by rw[C.iU,C.dz,←hz.L,←hz.R,T.flat];simp only[af,bH]
 exact wZ aV hz.at_.left (by unfold T.nn;rw[ef];exact nn) (by rw[T.fP,ef];exact hs) hz.lv λt' av h3 h4 ch=>hq av (rwr ((h4.trans ef)) (TL.of h3)) λz h=>ch.off z (λe=>h (rwr e (.head _))) λp=>h (.tail _ (hz.Mh z p))
theorem H5(aV:ai 1 be=true)(hT:TL σ tr (A++(a,m,p)::B))(hq:Q (sy B) σ):D be (.fn 877) [.ref a] σ Q:=
 Jf hT.zip λ_ _ _ _ hz=>LR aV hz.at_ (rwl hz.R hq)
theorem XN(aV:ai 1 be=true)(hT:TL σ tr (A++(a,m,p)::B))(hq:Q (yl A) σ):D be (.fn 884) [.ref a] σ Q:=
 Jf hT.zip λ_ _ _ _ hz=>C8 aV hz.at_ (rwl hz.L hq)
end
theorem Good.sz{pl:jx}(h:Good pl):pl.length≤2:=by
 have:=(Sg h.n λx m=>(dv.mp m).elim λe q=>rwr q.2 (h.k e q.1)).2;rwa [ax]at this
noncomputable def has(o:Option Int):Nat:=match o with
 |none=>0
 |some _=>1
theorem vW:∀{pl:jx},Good pl→pl.length=has (lk pl 1)+has (lk pl 2)
 |[],_=>rfl
 |[(a,u)],h=>(h.k _ (.head _)).elim (λe=>by rw[show a=1 from e];rfl) λe=>by rw[show a=2 from e];rfl
 |[(a,u),(b,v)],h=>by
  have n:a≠b:=λe=>(dw.mp h.n).1 (rwr e (.head _));rcases h.k _ (.head _)with e|e<;>rcases h.k _ (.tail _ (.head _))with e'|e'<;>rw[show a=_ from e,show b=_ from e']at n⊢<;>first|rfl|exact absurd rfl n
 |_::_::_::r,h=>absurd h.sz (by simp)
theorem T7{a b:jx}{k:Int}(n:(a.map (·.1)).Nodup)(h:∀e∈a,lk b e.1=some e.2):has (lk a k)≤has (lk b k)∧(has (lk a k)=has (lk b k)→lk a k=lk b k):=by
 induction e:lk a k with
 |none=>exact⟨cy _,λq=>by induction e2:lk b k with|none=>rfl|some v=>rw[e2]at q;exact absurd q (cF 0).symm⟩
 |some v=>rw[h _ (Nl e)];exact⟨cM _,λ_=>rfl⟩
theorem EI{a b:jx}(ha:Good a)(hb:Good b):EJ a b=decide (view a=view b):=by
 have go:EJ a b=true↔view a=view b:=by
  constructor
  ·intro h;have h:=ao.mp h;have hl:=of_decide_eq_true h.1;have al:∀e∈a,lk b e.1=some e.2:=λe m=>of_decide_eq_true (dC.mp h.2 e m);have h1:=T7 (k:=1) ha.n al;have h2:=T7 (k:=2) ha.n al;rw[vW ha,vW hb]at hl;exact lQ (h1.2 (by lia)) (h2.2 (by lia))
  ·intro h;have e1:lk a 1=lk b 1:=congrArg Gq h;have e2:lk a 2=lk b 2:=congrArg Mj h;refine ao.mpr ⟨decide_eq_true (by rw[vW ha,vW hb,e1,e2]),dC.mpr λe m=>decide_eq_true ?_⟩
   rw[←Nf ha.n m];exact(ha.k e m).elim (λq=>by rw[q,e1]) λq=>by rw[q,e2]
 by_cases h:view a=view b
 ·rw[decide_eq_true h];exact go.mpr h
 ·rw[decide_eq_false h];exact QZ.mpr λq=>h (go.mp q)
theorem Ca{tr a b z:Addr}{A B:eE}{k m k':Int}{p q q':MV}(h:z∈foot tr (A++(b,k',q')::B)):z∈foot tr (A++(b,k,q)::(a,m,p)::B):=by
 simp only[foot,aJ,dm,aE,aU]at h⊢;exact h.imp id λh=>h.imp id λh=>h.imp id .inr
theorem Sz{A B:eE}{a b:Addr}{k m:Int}{p q:MV}{ι:St}(hk:0<k)(hm:0<m)(e:vw ι p=vw ι q):Vw ι (A++(b,k+m,q)::B)=Vw ι (A++(b,k,q)::(a,m,p)::B):=by
 have h:(k+m).toNat=k.toNat+m.toNat:=JH (bp hk) (bp hm);unfold Vw;rw[sJ,sJ,mY,mY,mY];simp only[aJ,d3];rw[h,←mB,e,af]
theorem KV(A:eE):A=[]∨∃A' b k q,A=A'++[(b,k,q)]:=(vg A).imp id λh=>iA h λA' z e=>⟨A',z.1,z.2.1,z.2.2,e.trans (mV ..)⟩
theorem Nm{A:eE}{b:Addr}{k:Int}{q:MV}:yl (A++[(b,k,q)])=.ref b:=by rw[yl,bD];rfl
theorem jV{A B:eE}{e:Addr×Int×MV}:A++[e]++B=A++e::B:=af ..
theorem TH{A B:eE}{e e1 e2:Addr×Int×MV}{n:Nat}(h:(A++e1::e2::B).length≤n):(A++e::B).length≤n:=by
 rw[aa]at h⊢;exact ah (c9 (bU (iF _)) _) h
theorem Off.trans{σ av gm:St}{F F':List Addr}(h:Off σ av F)(k:Off av gm F')(hs:∀x∈F',x∈F):Off σ gm F:=λx hx=>(k x λe=>hx (hs x e)).trans (h x hx)
section
variable{be:Nat}{σ ι:St}{Q:bw}{tr tp:Addr}{L:eE}
theorem sQ{at_:Int}(aV:ai 5 be=true)(h:PI ι σ tp tr L)(hs:sumF L≤10000)
  (hq:∀av L',PI ι av tp tr L'→Vw ι L'=Vw ι L→sumF L'=sumF L→Kp σ av (foot tr L) (foot tr L')→Q .none av):D be (.fn 1003) [.ref tp,.int at_] σ Q:=by
 refine Jk aV ?_;dsimp only[Cw];have same:Q .none σ:=hq σ L h rfl rfl (Kp.refl _ _);have OP:=h.sub _ _ h.tp;k_in;refine gi (λh2=>?_) λ_=>?_
 ·k_in;refine m3 rfl h.tl ?_;k_in;refine oT (λh3=>?_) λ_=>?_
  ·k_in;refine tU rfl h.tl (bp h2) h3 λA B a m p hL h4 h5=>?_;subst hL;k_in;refine oT (λh6=>?_) λ_=>?_
   ·k_in;refine XN rfl h.tl ?_;rcases KV A with rfl|⟨A',b,k,q,rfl⟩
    ·exact absurd h6 (CB h2)
    rw[Nm];have hT:=h.tl;rw[jV]at h hs hq;refine Jf hT.node λt1 l1 r1 q1 ha=>?_;refine Jf h.tl.node λt2 l2 r2 q2 hb=>?_;have mb:(b,k,q)∈A'++(b,k,q)::(a,m,p)::B:=az _ (.head _);have ma:(a,m,p)∈A'++(b,k,q)::(a,m,p)::B:=az _ (.tail _ (.head _));refine iA (h.pl _ ma) λqa pla zh=>rU zh λGu ga=>?_;subst Gu;obtain⟨qb,plb,rfl,gb⟩:=h.pl _ mb;k_in;refine Bc rfl (h.sub _ _ gb.at_) (h.sub _ _ ga.at_) ga.len ?_;rw[EI gb.good ga.good];k_in;refine gi (λh7=>?_) λ_=>?_
    ·k_in;refine zy rfl hT ?_;k_in;refine uM rfl hT (by rw[jV];exact h.pos.nn) (by rw[jV];exact h.size hs) λdE Vd o1=>?_
     rw[jV]at Vd o1;k_in;refine H6 rfl Vd λdp OX o2=>?_;have o12:=Off.trans o1 o2 λz hz=>Ca hz;have a09:=o12 tp (h.off h.tp);rw[OP]at a09;k_in;have pb:=h.pos _ mb;have pa:=h.pos _ ma;have hp5:fQ (A'++(b,k+m,.ref qb)::B):=have y:=(bY.mp h.pos).2;bY.mpr ⟨(bY.mp h.pos).1,fp.mpr ⟨Int.add_pos pb pa,(fp.mp (fp.mp y).2).2⟩⟩;refine Jp rfl OX hp5.nn (TH (h.size hs)) λjJ hT5 o3=>?_;have kp:Kp σ jJ (foot tr (A'++(b,k,.ref qb)::(a,m,.ref qa)::B)) (foot tr (A'++(b,k+m,.ref qb)::B)):=⟨(Off.trans o12 o3 λz hz=>Ca hz).g,λz hz=>.inl (Ca hz)⟩;k_in;exact hq jJ _ (h.step hT5 hp5 kp λe he=>(aU.mp he).elim (λx=>h.pl e (aN _ x)) λx=>(aE.mp x).elim (λx=>rwl x (⟨qb,plb,rfl,gb⟩)) λx=>h.pl e (az _ (.tail _ (.tail _ x))))
      (Sz pb pa (by rw[ga.view,gb.view,h7])) (Oc rfl).symm kp
    ·k_in;exact same
   ·k_in;exact same
  ·k_in;exact same
 ·k_in;exact same
end
theorem PI.z4{ι σ:St}{tp tr:Addr}{L:eE}(h:PI ι σ tp tr L):σ tp=some (.inst 985 [(aY,.ref tr)]):=h.sub _ _ h.tp
theorem PI.side{ι σ:St}{tp tr:Addr}{L:eE}(h:PI ι σ tp tr L){c:Addr}{o:MO}(hc:σ c=none):PI ι (upd σ c o) tp tr L:=
 ⟨h.sub.side o (h.sub.none hc),h.tp,h.tl.frame λx hx=>aC λe=>h.tl.live x hx (rwl e hc),h.pos,h.Rg,h.pl⟩
theorem PI.a5T{ι σ:St}{tp tr:Addr}{L:eE}(h:PI ι σ tp tr L){c:Addr}{o:MO}(hc:ι c=none)(hf:c∉foot tr L):PI ι (upd σ c o) tp tr L:=
 ⟨h.sub.side o hc,h.tp,h.tl.frame λx hx=>aC λe=>hf (rwr e hx),h.pos,h.Rg,h.pl⟩
section
variable{be:Nat}{σ ι:St}{Q:bw}{tr tp:Addr}{L:eE}
theorem pj{b e:Int}(aV:ai 6 be=true)(h:PI ι σ tp tr L)(hs:sumF L≤10000)(h0:0≤b)
  (hq:∀av L',PI ι av tp tr L'→Vw ι L'=Vw ι L→sumF L'=sumF L→Kp σ av (foot tr L) (foot tr L')→Q .none av):D be (.fn 1010) [.ref tp,.int b,.int e] σ Q:=by
 refine DX aV ?_;dsimp only[ug];k_in;refine dS λP hP=>?_;have key:∀(N:Nat)(a:Int)(dE:St)(L1:eE)(nv fv lv:Option MV),(sumF L-a).toNat=N→0≤a→PI ι dE tp tr L1→Vw ι L1=Vw ι L→sumF L1=sumF L→Kp σ dE (foot tr L) (foot tr L1)→
   P [(bg,some (.ref tp)),(aT,some (.int b)),(aH,some (.int e)),(x_at,some (.int a)),(aB,nv),(dO,fv),(dh,lv)] dE:=by
  intro N;induction N using Vh with
  |ind N ih=>
  intro a dE L1 nv fv lv hN ha h1 hv DH hk;have OQ:sumF L1≤10000:=rwl DH hs;have fin:D 6 (.fn 1003) [.ref tp,.int e] dE λ_ av=>Q .none av:=
   sQ rfl h1 OQ λdp L2 h2 Qh zg ym=>hq dp L2 h2 (Qh.trans hv) (zg.trans DH) (hk.trans ym)
  have OP:=h1.z4;apply hP;k_in;refine gi (λh3=>?_) λ_=>?_
  ·k_in;refine m3 rfl h1.tl ?_;k_in;refine gi (λh2=>?_) λ_=>?_
   ·k_in;refine tU rfl h1.tl ha h2 λA B c m p hL h4 h5=>?_;have hm:0<m:=h1.pos (c,m,p) (rwl hL (az _ (.head _)));k_in;refine zy rfl (hL▸h1.tl) ?_;k_in;refine sQ rfl h1 OQ λdp L2 h2 Qh zg ym=>?_;k_in;refine ih _ ?_ _ dp L2 _ _ _ rfl ?_ h2 (Qh.trans hv) (zg.trans DH) (hk.trans ym)
    ·clear ih;lia
    ·lia
   ·k_in;exact fin
  ·k_in;exact fin
 exact key _ b σ L _ _ _ rfl h0 h rfl rfl (Kp.refl _ _)
end
theorem IC{L L':eE}(h:fQ L)(h':fQ L')(e:cs L'=cs L):sumF L'=sumF L:=by rw[←pF h'.nn,←pF h.nn,e]
theorem XA{L:eE}{b e:Int}(hp:fQ L)(h1:Cut b L)(h2:Cut e L)(h:b≤e):∃A M B,L=A++M++B∧sumF A=b∧sumF M=e-b:=by
 refine iA h1 λA B' zh=>rU zh λe1 e2=>?_;refine iA h2 λA' B zh=>rU zh λe3 e4=>?_;rcases eT.mp (e1.symm.trans e3)with⟨D,h5,h6⟩|⟨D,h5,h6⟩
 ·refine⟨A,D,B,by rw[e1,h6,af],e2,?_⟩
  rw[h5,bX]at e4;lia
 ·have hD:0≤sumF D:=fQ.vI (hp.sub λx hx=>by rw[e1,h5];exact aN _ (az _ hx))
  rw[h5,bX]at e2;exact⟨A',[],B,by rw[ay,e3],by lia,by show(0:Int)=_;lia⟩
section
variable{be:Nat}{σ ι:St}{Q:bw}{tr tp:Addr}{L:eE}
theorem yG{b e:Int}(aV:ai 6 be=true)(h:PI ι σ tp tr L)(hs:sumF L≤10000)(h0:0≤b)(h1:b<e)(h2:e≤sumF L)
  (hq:∀c av A M B,PI ι av tp tr (A++M++B)→sumF A=b→sumF M=e-b→Vw ι (A++M++B)=Vw ι L→Kp σ av (foot tr L) (c::foot tr (A++M++B))→ι c=none→c∉foot tr (A++M++B)→av c=some (.list (M.map λe=>.ref e.1))→Q (.ref c) av):
  D be (.fn 996) [.ref tp,.int b,.int e] σ Q:=by
 refine sL aV ?_;dsimp only[m7];have OP:=h.z4;k_in;refine px (Bs.mpr h1) ?_;k_in;refine qd rfl h.tl h.pos hs h0 (aS (bp h1) h2) λL1 dE OY GX tK TV _ HQ=>?_;have i1:=h.step OY GX HQ (h.Ov GX tK);have Fb:=IC h.pos GX tK;have a58:=i1.z4;k_in;refine qd rfl OY GX (rwl Fb hs) (aS h0 (bp h1)) (rwl Fb h2) λL2 dp Mg vV mL TU hold ym=>?_;have i2:=i1.step Mg vV ym (i1.Ov vV mL);have a3M:=IC GX vV mL;have a09:=i2.z4;have hk:=HQ.trans ym;have hv:Vw ι L2=Vw ι L:=congrArg (Gr _) (mL.trans tK);refine JM (XA vV (hold b TV) TU (bp h1)) λA M B zh=>oe zh λIk hA hM=>?_;subst Ik;k_in;refine tU rfl Mg h0 (by lia) λA' B' a' m' p' e1 h5 h6=>?_
 have hn:MV.ref a'=sy (M++B):=by
  induction M using aF with
  |nil=>exact absurd hM (CB (CA h1))
  |cons x M=>
   rw[af]at e1 vV;have:=fp.mp (bY.mp vV).2;exact congrArg (λe:Addr×Int×MV=>MV.ref e.1) (vY e1 vV (rwr hA.symm h5) (rwr hA.symm h6)).2.1.symm
 k_in;intro c hc;have hcf:c∉foot tr (A++M++B):=λhf=>Mg.live c hf hc;have Q9:∀o,Kp σ (upd dp c o) (foot tr L) (c::foot tr (A++M++B)):=λo=>
  ⟨hk.off.upd (hk.addr hc),λx hx=>(aE.mp hx).elim (λe=>rwl e (hk.addr hc)) (hk.new x)⟩
 have hlen:=i2.size (a3M▸rwl Fb hs);k_in;refine dS λP hP=>?_;have key:∀(R D:eE)(nv:MV)(s:Int),M=D++R→nv=sy (R++B)→s=sumF R→
   P [(bg,some (.ref tp)),(aT,some (.int b)),(aH,some (.int e)),(aB,some nv),(bG,some (.ref c)),(cW,some (.int s))] (upd dp c (.list (D.map λe=>.ref e.1))):=by
  intro R;induction R with
  |nil=>
   intro D nv s hD hnv Me;have hD:M=D:=hD.trans (ay _);subst hD Me;apply hP;k_in;refine px (aP 0) ?_;k_in;exact hq c _ A M B (i2.side hc) hA hM hv (Q9 _) (i2.sub.none hc) hcf (ak ..)
  |cons y R ih=>
   obtain⟨a',m',p'⟩:=y;intro D nv s hD hnv Me;have hnv:nv=.ref a':=hnv;have Me:s=m'+sumF R:=Me;subst hnv Me;have eL:A++M++B=(A++D)++(a',m',p')::(R++B):=by rw[hD];simp only[af,bH]
   have hp3:=fp.mp (bY.mp (rwr eL vV)).2;have OX:∀o,TL (upd dp c o) tr ((A++D)++(a',m',p')::(R++B)):=λo=>eL▸(Mg.frame λx hx=>aC λe=>hcf (rwr e hx));have hlen:=eL▸hlen;apply hP;k_in;refine pk (pC hp3.1 ((bY.mp hp3.2).1.vI)) ?_;k_in;refine dY (ak ..) ?_ ?_
   ·rw[aa,aa]at hlen;rw[ax];exact bc (ah (ah (ve _ _) (bq _ _)) hlen) (by decide)
   rw[cZ];k_in;refine zy rfl (OX _) ?_;k_in;refine H5 rfl (OX _) ?_;k_in;have:=ih (D++[(a',m',p')]) _ (m'+sumF R-m') (hD.trans jV.symm) rfl (by lia)
   rw[aJ]at this;exact this
 exact key M [] _ _ rfl hn hM.symm
end
theorem iQ(ι:St)(A B:eE):Vw ι (A++B)=Vw ι A++Vw ι B:=by rw[Vw,sJ,aJ];rfl
theorem Em(ι:St)(e:Addr×Int×MV)(B:eE):Vw ι (e::B)=aM e.2.1.toNat (vw ι e.2.2)++Vw ι B:=by rw[Vw,mY,aJ,d3];rfl
theorem JA(ι:St)(e:Addr×Int×MV)(A:eE):Vw ι (A++[e])=Vw ι A++aM e.2.1.toNat (vw ι e.2.2):=by rw[iQ,Em];exact congrArg _ (ay _)
theorem kz{ι:St}{L:eE}(h:fQ L):((Vw ι L).length:Int)=sumF L:=by rw[←pF h.nn,Vw,ax]
theorem Pl{ι bx:St}{L:eE}(h:∀e∈L,xJ ι e.2.2)(k:Le ι bx):Vw bx L=Vw ι L:=
 NX λm hm=>(NF hm).elim λe z=>rwr z.2 (ti (h e z.1) k)
theorem TL.a4Y{σ:St}{tr a:Addr}{A B:eE}{m:Int}{p:MV}(h:TL σ tr (A++(a,m,p)::B)):∃t l r q,σ a=some (Mine.Internal.node t p l r q)∧∀p',TL (upd σ a (Mine.Internal.node t p' l r q)) tr (A++(a,m,p')::B):=by
 refine h.zip.elim λix xP=>xP.elim λc JX=>JX.elim λl JW=>JW.elim λr hz=>?_;have ht:=hz.at_.tree;have em:∀p',(A++(a,m,p')::B).map (·.1)=(A++(a,m,p)::B).map (·.1):=λp'=>by rw[aJ,aJ];rfl
 refine⟨_,_,_,_,ht.1,λp'=>?_⟩;have hA:At (upd σ a (Mine.Internal.node (m+(l.dJ+r.dJ)) p' l.val r.val c.par)) ix tr c (.nd a m p' l r):=
  ⟨hz.at_.ctx.frame (λz _ n=>aC λe=>n (rwl e ht.2.1)) (aC (hz.at_.ctx.GF (C.cn ht.2.1)).symm),ak ..,ht.2.1,ht.2.2.1.frame λz hz=>aC λe=>aP _ (e▸hz.2),ht.2.2.2.frame λz hz=>aC λe=>aP _ (e▸hz.2)⟩
 exact⟨ix,_,hA.up,by rw[C.dz,←hz.L,←hz.R,T.flat];simp only[af,bH],λz p=>rwl (em p') (hz.Mh z p)⟩
theorem PI.Y3{ι σ:St}{tp tr:Addr}{L:eE}(h:PI ι σ tp tr L){c:Addr}{o:MO}(hc:σ c=none):PI (upd ι c o) (upd σ c o) tp tr L:=by
 have hi:=h.sub.none hc;have ne:∀x∈foot tr L,x≠c:=λx hx e=>h.tl.live x hx (rwl e hc);exact⟨h.sub.upd c o,(aC λe:tp=c=>ar h.tp (rwl e hi)).trans h.tp,h.tl.frame λx hx=>aC (ne x hx),h.pos,
  λx hx=>(aC (ne x hx)).trans (h.Rg x hx),λe he=>(h.pl e he).mono ((Le.refl _).new hi)⟩
theorem Lg{tr a:Addr}{A B:eE}{m:Int}{p p':MV}:foot tr (A++(a,m,p')::B)=foot tr (A++(a,m,p)::B):=by unfold foot;rw[aJ,aJ];rfl
theorem PI.V3{ι σ:St}{tp tr a:Addr}{A B:eE}{m:Int}{p:MV}(h:PI ι σ tp tr (A++(a,m,p)::B)):∃t l r q,σ a=some (Mine.Internal.node t p l r q)∧∀p',xJ ι p'→PI ι (upd σ a (Mine.Internal.node t p' l r q)) tp tr (A++(a,m,p')::B):=by
 refine h.tl.a4Y.elim λt xP=>xP.elim λl JX=>JX.elim λr JW=>JW.elim λq Vq=>Vq.elim λe k=>?_;refine⟨t,l,r,q,e,λp' hp=>⟨h.sub.side _ (h.Rg a (.tail _ (pB (f:=(·.1)) (a:=(a,m,p)) (az _ (.head _))))),h.tp,k p',?_,rwr Lg h.Rg,λx hx=>?_⟩⟩
 ·have hp:=bY.mp h.pos;have hq:=fp.mp hp.2;exact bY.mpr ⟨hp.1,fp.mpr ⟨hq.1,hq.2⟩⟩
 ·exact(aU.mp hx).elim (λhx=>h.pl x (aN _ hx)) λhx=>(aE.mp hx).elim (λe=>rwl e hp) λhx=>h.pl x (az _ (.tail _ hx))
theorem pN{α:Type}{A B:List α}{k:Nat}(h:A.length=k):(A++B).take k=A:=rwr h xK
theorem nH{α:Type}{A B:List α}{k:Nat}(h:A.length=k):(A++B).drop k=B:=rwr h xN
noncomputable def Oh(k v:Int)(p:PM):PM:=if k=1 then(some v,p.2)else(p.1,some v)
noncomputable def fX(f:PM→PM)(V:List PM)(b e:Int):List PM:=V.take b.toNat++((V.take e.toNat).drop b.toNat).map f++V.drop e.toNat
theorem KE{f:PM→PM}{V:List PM}{b:Int}:fX f V b b=V:=by
 unfold fX;rw[uN (NY ..)];exact(congrArg (·++_) (ay _)).trans (cw ..)
theorem z'{f:PM→PM}{A M B:List PM}{b e:Int}(hA:(A.length:Int)=b)(hM:(M.length:Int)=e-b):fX f (A++M++B) b e=A++M.map f++B:=by
 unfold fX;have e1:A.length=b.toNat:=by lia
 have e2:(A++M).length=e.toNat:=by rw[aa];lia
 rw[pN e2,nH e2,nH e1,af A,pN e1]
theorem Kp.wide{σ av:St}{F F':List Addr}(h:Kp σ av F F')(c:Addr):Kp σ av (c::F) F':=
 ⟨λx hx hn=>h.off x (λe=>hx (.tail _ e)) hn,λx hx=>(h.new x hx).imp (.tail _) id⟩
theorem xr{X:Ctx}{a t:N}{s:Src}{k:BK}{ρ:Loc}{σ:St}(q:k .next ρ σ):FW X a t s [] ρ σ k:=q
theorem vH{A:eE}{a:Addr}{m:Int}{p:MV}:sumF (A++[(a,m,p)])=sumF A+m:=by rw[bX];exact congrArg _ (fh m)
structure SP(f:PM→PM)(ι:St)(σ:St)(FL:List Addr)(tp tr c:Addr)(A M B:eE)(jA dp:St)(A2 R:eE):Prop where
 i:PI jA dp tp tr (A2++(R++B))
 v:Vw jA A2++(Vw ι R).map f=Vw ι A++(Vw ι M).map f
 s:sumF A2+sumF R=sumF A+sumF M
 ev:Ev ι σ FL jA dp (c::foot tr (A2++(R++B)))
 cl:dp c=some (.list (M.map λe=>.ref e.1))
 ic:jA c=none
 pl:∀e∈R++B,xJ ι e.2.2
section
variable{f:PM→PM}{ι σ jA dp:St}{FL:List Addr}{tp tr c a:Addr}{A M B A2 R:eE}{m:Int}{p:MV}
theorem SP.vw(h:SP f ι σ FL tp tr c A M B jA dp A2 ((a,m,p)::R)):Mine.Internal.vw ι p=Mine.Internal.vw jA p:=(ti (h.pl _ (.head _)) h.ev.le).symm
theorem SP.keep(h:SP f ι σ FL tp tr c A M B jA dp A2 ((a,m,p)::R))(e:f (Mine.Internal.vw jA p)=Mine.Internal.vw jA p):SP f ι σ FL tp tr c A M B jA dp (A2++[(a,m,p)]) R:=
 ⟨by rw[jV];exact h.i,by rw[JA,af,←h.v,Em,aJ,d3,h.vw,e],by rw[vH,←h.s,sU];rfl,by rw[jV];exact h.ev,h.cl,h.ic,λe he=>h.pl e (.tail _ he)⟩
theorem SP.set(h:SP f ι σ FL tp tr c A M B jA dp A2 ((a,m,p)::R)){d:Addr}{pl:jx}(hd:dp d=none)(g:Good pl)(gl:pl.length≤100)(e:f (Mine.Internal.vw jA p)=view pl):
  ∃t l r q,upd dp d (yi pl) a=some (Mine.Internal.node t p l r q)∧SP f ι σ FL tp tr c A M B (upd jA d (yi pl)) (upd (upd dp d (yi pl)) a (Mine.Internal.node t (.ref d) l r q)) (A2++[(a,m,.ref d)]) R:=by
 refine((h.i.Y3 (o:=yi pl) hd).V3).elim λt xP=>xP.elim λl JX=>JX.elim λr JW=>JW.elim λq Vq=>Vq.elim λha set=>?_;have gd:uj (upd jA d (yi pl)) d pl:=⟨ak ..,g,gl⟩;have hi:=h.i.sub.none hd;have hcd:c≠d:=λe=>ar h.cl (rwl e hd);have ef:foot tr (A2++[(a,m,.ref d)]++(R++B))=foot tr (A2++(a,m,p)::(R++B)):=by rw[jV,Lg]
 refine⟨t,l,r,q,ha,by rw[jV];exact set _ ⟨d,pl,rfl,gd⟩,?_,by rw[vH,←h.s,sU];rfl,?_,(aC (bS ((aC hcd).trans h.cl) ha rfl)).trans ((aC hcd).trans h.cl),(aC hcd).trans h.ic,λe he=>h.pl e (.tail _ he)⟩
 ·rw[JA,af,←h.v,Em,aJ,d3,h.vw,e,Pl (λe he=>h.i.pl e (aN _ he)) ((Le.refl _).new hi),show Mine.Internal.vw _ (.ref d)=view pl from gd.view]
 ·rw[ef];exact h.ev.trans ⟨(Le.refl _).new hi,⟨((oG.refl _ _).upd (.inr hd)).upd (.inl (.tail _ (.tail _ (pB (f:=(·.1)) (a:=(a,m,p)) (az _ (.head _)))))),λx hx=>.inl hx⟩,
   λx hx=>(rT (x=d)).elim (λe=>.inr (.inr (rwl e hd))) λe=>.inl λw=>hx ((aC e).trans w)⟩
theorem SP.start(h:PI ι dp tp tr (A++M++B))(k:Kp σ dp FL (c::foot tr (A++M++B)))(hc:dp c=some (.list (M.map λe=>.ref e.1)))(hic:ι c=none):SP f ι σ FL tp tr c A M B ι dp A M:=
 have e:=af A M B
 ⟨rwr e h,rfl,rfl,rwr e k.ev,hc,hic,λx hx=>h.pl x (rwl e (az _ hx))⟩
theorem SP.sum(h:SP f ι σ FL tp tr c A M B jA dp A2 []):sumF (A2++B)=sumF (A++M++B):=by
 rw[bX,bX,bX,←h.s];exact congrArg (·+_) (fh _).symm
theorem SP.fin(h:SP f ι σ FL tp tr c A M B jA dp A2 []){b e:Int}(hp:fQ (A++M++B))(hA:sumF A=b)(hM:sumF M=e-b):Vw jA (A2++B)=fX f (Vw ι (A++M++B)) b e:=by
 have p2:=bY.mp (bY.mp hp).1;have hv:Vw jA A2=_:=(ay _).symm.trans h.v;rw[iQ,iQ,iQ ι A M,z' ((kz p2.1).trans hA) ((kz p2.2).trans hM),hv,Pl (L:=B) h.pl h.ev.le]
end
section
variable{be:Nat}{σ ι:St}{Q:bw}{tr tp:Addr}{L:eE}
theorem w5{b e:Int}(aV:ai 6 be=true)(h:e≤b)(hq:fe [] σ Q):D be (.fn 996) [.ref tp,.int b,.int e] σ Q:=by
 refine sL aV ?_;dsimp only[m7];k_in;refine pk h ?_;k_in;exact hq
theorem Cr{b e:Int}{qv:Addr}{pl:jx}(aV:ai 7 be=true)(h:PI ι σ tp tr L)(hs:sumF L≤10000)(h0:0≤b)(h1:b≤e)(h2:e≤sumF L)(hpv:uj ι qv pl)
  (hq:∀cv bx av L',PI bx av tp tr L'→Vw bx L'=fX (λ_=>view pl) (Vw ι L) b e→sumF L'=sumF L→Ev ι σ (foot tr L) bx av (foot tr L')→Q (.bool cv) av):
  D be (.fn 1024) [.ref tp,.int b,.int e,.ref qv] σ Q:=by
 refine xZ aV ?_;dsimp only[mO];k_in;rcases QY h1 with hbe|rfl
 ·refine yG rfl h hs h0 hbe h2 λc dE A M B i1 hA hM hv HQ hic hcf tK=>?_;k_in;refine ll (λe:Addr×Int×MV=>MV.ref e.1) (λR ρ dp=>∃(jA:St)(A2:eE)(cv:Bool)(nv:Option MV),
   ρ=[(bg,some (.ref tp)),(aT,some (.int b)),(aH,some (.int e)),(aI,some (.ref qv)),(cf,some (.bool cv)),(aB,nv)]∧SP (λ_=>view pl) ι σ (foot tr L) tp tr c A M B jA dp A2 R)
   ⟨ι,A,false,none,rfl,.start i1 HQ tK hic⟩ (λx R ρ dp K hI hK=>?_) λρ dp hI=>?_
  ·obtain⟨a,m,p⟩:=x;obtain⟨jA,A2,cv,nv,rfl,sp⟩:=hI;refine sp.i.tl.node.elim λt xP=>xP.elim λl JX=>JX.elim λr JW=>JW.elim λq ha=>?_;refine iA (sp.i.pl (a,m,p) (az _ (.head _))) λqp plp zh=>rU zh λGu gp=>?_;subst Gu;have gv:=hpv.mono sp.ev.le;k_in;refine Bc rfl (sp.i.sub _ _ gv.at_) (sp.i.sub _ _ gp.at_) gp.len ?_;rw[EI gv.good gp.good];k_in;refine oT (λh7=>?_) λh7=>?_
   ·k_in;exact⟨sp.cl,hK _ _ ⟨jA,_,cv,_,rfl,sp.keep (h7.trans gp.view.symm)⟩⟩
   ·k_in;refine jm (sp.i.sub _ _ gv.at_) λd hd=>?_;refine(sp.set hd gv.good gv.len rfl).elim λt' xP=>xP.elim λl' JX=>JX.elim λr' JW=>JW.elim λq' Vq=>Vq.elim λha4 sp2=>?_;k_go;exact⟨sp2.cl,hK _ _ ⟨_,_,true,_,rfl,sp2⟩⟩
  ·obtain⟨jA,A2,cv,nv,rfl,sp⟩:=hI;k_in;have DH:sumF (A2++B)=sumF L:=by rw[sp.sum,←kz i1.pos,hv,kz h.pos]
   refine pj rfl (L:=A2++B) sp.i (rwl DH hs) h0 λav L' h3 h4 h5 h6=>?_;k_in;exact hq cv jA av L' h3 (by rw[h4,sp.fin i1.pos hA hM,hv]) (h5.trans DH) (sp.ev.trans (h6.wide c).ev)
 ·refine w5 rfl (dU _) λc hc=>?_;k_in;refine xr ?_;k_in;refine pj rfl (h.side hc) hs h0 λav L' h3 h4 h5 h6=>?_;k_in;exact hq false ι av L' h3 (h4.trans KE.symm) h5 (((Kp.fresh hc).trans h6).ev)
end
theorem Og{k w x:Int}:∀{pl:jx},x∈(uy pl k w).map (·.1)→x=k∨x∈pl.map (·.1):=by
 intro zl;induction zl with
 |nil=>
  rintro h;exact .inl (aQ.mp h)
 |cons zx r ih=>
  obtain⟨a,u⟩:=zx;rintro h;unfold uy at h;split at h
  ·rename_i e;exact .inr (rwl e h)
  ·exact(aE.mp h).elim (λe=>.inr (rwl e (.head _))) λh=>(ih h).imp id (.tail _)
theorem PF{k w:Int}:∀{pl:jx},(pl.map (·.1)).Nodup→((uy pl k w).map (·.1)).Nodup:=by
 intro zl;induction zl with
 |nil=>
  rintro _;exact dw.mpr ⟨aD,.nil⟩
 |cons zx r ih=>
  obtain⟨a,u⟩:=zx;rintro h;unfold uy;split
  ·rename_i e;exact rwr e h
  ·rename_i e
   have h:=dw.mp h;exact dw.mpr ⟨λm=>(Og m).elim e h.1,ih h.2⟩
theorem Tr{k w j:Int}{pl:jx}:lk (uy pl k w) j=if k=j then some w else lk pl j:=by
 induction pl with
 |nil=>rfl
 |cons p r ih=>induction p with|mk a u=>
  show lk (ite (a=k) _ _) j=_;by_cases e:a=k
  ·rw[if_pos e];by_cases q:k=j
   ·rw[if_pos q];exact if_pos q
   ·rw[if_neg q];exact(if_neg q).trans (if_neg (e▸q)).symm
  ·rw[if_neg e];by_cases q:a=j
   ·rw[if_neg λz=>e (q.trans z.symm)];exact(if_pos q).trans (if_pos q).symm
   ·exact(if_neg q).trans (ih.trans (by split<;>first|rfl|exact(if_neg q).symm))
theorem Good.set{pl:jx}(h:Good pl){k w:Int}(hk:k=1∨k=2):Good (uy pl k w):=
 ⟨λe m=>(Og (pB (f:=(·.1)) m)).elim (λq=>by rw[q];exact hk) λq=>(dv.mp q).elim λy z=>z.2▸h.k y z.1,PF h.n⟩
theorem J6{pl:jx}{k w:Int}(hk:k=1∨k=2):Oh k w (view pl)=view (uy pl k w):=by
 unfold view;rw[Tr,Tr];rcases hk with rfl|rfl<;>rfl
theorem MT{pl:jx}{k w:Int}(hk:k=1∨k=2)(h:lk pl k=some w):Oh k w (view pl)=view pl:=by
 unfold view;rcases hk with rfl|rfl<;>rw[h]<;>rfl
section
variable{be:Nat}{σ ι:St}{Q:bw}{tr tp:Addr}{L:eE}
theorem FV{b e k w:Int}(aV:ai 7 be=true)(h:PI ι σ tp tr L)(hs:sumF L≤10000)(h0:0≤b)(h1:b≤e)(h2:e≤sumF L)(a1e:k=1∨k=2)
  (hq:∀cv bx av L',PI bx av tp tr L'→Vw bx L'=fX (Oh k w) (Vw ι L) b e→sumF L'=sumF L→Ev ι σ (foot tr L) bx av (foot tr L')→Q (.bool cv) av):
  D be (.fn 1017) [.ref tp,.int b,.int e,.int k,.int w] σ Q:=by
 refine AP aV ?_;dsimp only[qj];k_in;rcases QY h1 with hbe|rfl
 ·refine yG rfl h hs h0 hbe h2 λc dE A M B i1 hA hM hv HQ hic hcf tK=>?_;k_in;refine ll (λe:Addr×Int×MV=>MV.ref e.1) (λR ρ dp=>∃(jA:St)(A2:eE)(cv:Bool)(nv:Option MV),
   ρ=[(bg,some (.ref tp)),(aT,some (.int b)),(aH,some (.int e)),(aG,some (.int k)),(cX,some (.int w)),(cf,some (.bool cv)),(aB,nv)]∧SP (Oh k w) ι σ (foot tr L) tp tr c A M B jA dp A2 R)
   ⟨ι,A,false,none,rfl,.start i1 HQ tK hic⟩ (λx R ρ dp K hI hK=>?_) λρ dp hI=>?_
  ·obtain⟨a,m,p⟩:=x;obtain⟨jA,A2,cv,nv,rfl,sp⟩:=hI;refine Jf sp.i.tl.node λt l r q ha=>?_;refine iA (sp.i.pl (a,m,p) (az _ (.head _))) λqp plp zh=>rU zh λGu gp=>?_;subst Gu;k_in;refine tT rfl (sp.i.sub _ _ gp.at_) gp.len ?_;k_in;refine oT (λh7=>?_) λh7=>?_
   ·k_in;exact⟨sp.cl,hK _ _ ⟨jA,_,cv,_,rfl,sp.keep (by rw[gp.view];exact MT a1e h7)⟩⟩
   ·k_in;refine tS rfl (sp.i.sub _ _ gp.at_) gp.len λd hd=>?_;have g:=gp.good.set (w:=w) a1e;obtain⟨t',l',r',q',ha4,sp2⟩:=sp.set hd g (ah g.sz (by decide)) (by rw[gp.view];exact J6 a1e)
    k_go;exact⟨sp2.cl,hK _ _ ⟨_,_,true,_,rfl,sp2⟩⟩
  ·obtain⟨jA,A2,cv,nv,rfl,sp⟩:=hI;k_in;have DH:sumF (A2++B)=sumF L:=by rw[sp.sum,←kz i1.pos,hv,kz h.pos]
   refine pj rfl (L:=A2++B) sp.i (rwl DH hs) h0 λav L' h3 h4 h5 h6=>?_;k_in;exact hq cv jA av L' h3 (by rw[h4,sp.fin i1.pos hA hM,hv]) (h5.trans DH) (sp.ev.trans (h6.wide c).ev)
 ·refine w5 rfl (dU _) λc hc=>?_;k_in;refine xr ?_;k_in;refine pj rfl (h.side hc) hs h0 λav L' h3 h4 h5 h6=>?_;k_in;exact hq false ι av L' h3 (h4.trans KE.symm) h5 (((Kp.fresh hc).trans h6).ev)
end
noncomputable abbrev Row:=Int×Int×MV
noncomputable def gR(r:Row):MV:=.tup [.int r.1,.int r.2.1,r.2.2]
noncomputable def iM:Int→List Row→Int→Prop
 |b,[],e=>b=e
 |b,r::rs,e=>r.1=b∧r.1<r.2.1∧iM r.2.1 rs e
noncomputable def expand(ι:St)(rows:List Row):List PM:=rows.flatMap λr=>aM (r.2.1-r.1).toNat (vw ι r.2.2)
theorem iM.snoc{b m e:Int}{rows:List Row}{p:MV}(h:iM b rows m)(k:m<e):iM b (rows++[(m,e,p)]) e:=by
 induction rows generalizing b with
 |nil=>exact⟨a2i h,k,rfl⟩
 |cons r rs ih=>exact⟨h.1,h.2.1,ih h.2.2⟩
theorem Sq{α:Type}(X:List α)(v:α)(m b e:Nat)(h:X.length<e):((X++aM m v).take e).drop b=(X.take e).drop b++aM (min (X.length+m) e-max X.length b) v:=by
 rw[List.take_append,List.drop_append,List.take_replicate,List.drop_replicate,eX];rw[od (u9 h)];refine(JR (u9 h)).elim λk e=>?_;rw[←e,um,Nat.add_min_add_left,Nat.min_comm k];refine congrArg (λn=>_++aM n v) ((u7 X.length b).elim (λhb=>?_) λhb=>?_)
 ·refine(JR hb).elim λt e=>?_;rw[U0 hb,←e,um,Nat.add_sub_add_left]
 ·rw[Vi hb,Mk hb,um,Nat.sub_zero]
theorem a3f(a b:Nat):((min a b:Nat):Int)=min (a:Int) b:=(u7 a b).elim (λh=>by rw[eS h,Vn (cK.mpr h)]) λh=>by rw[od h,U3 (cK.mpr h)]
theorem a3k(a b:Nat):((max a b:Nat):Int)=max (a:Int) b:=(u7 a b).elim (λh=>by rw[U0 h,Eb (cK.mpr h)]) λh=>by rw[Vi h,Int.max_eq_left (cK.mpr h)]
theorem a0I(x b:Int):(if x<b then b else x)=max x b:=by split<;>lia
theorem a0y(x e:Int):(if e<x then e else x)=min x e:=by split<;>lia
structure RB(ι:St)(b e:Int)(L D R:eE)(rows:List Row):Prop where
 eL:L=D++R
 at_:b<sumF D∨∃x R',R=x::R'∧b<sumF D+x.2.1
 ch:iM b rows (max b (min (sumF D) e))
 ex:expand ι rows=((Vw ι D).take e.toNat).drop b.toNat
 pl:∀r∈rows,xJ ι r.2.2
 n:rows.length≤D.length
theorem RB.step{ι:St}{b e:Int}{L D R:eE}{rows:List Row}{a:Addr}{m:Int}{p:MV}(h:RB ι b e L D ((a,m,p)::R) rows)(hp:fQ L)(xE:∀x∈L,xJ ι x.2.2)(h0:0≤b)(h1:b<e)(h6:sumF D<e):
  RB ι b e L (D++[(a,m,p)]) R (rows++[(max (sumF D) b,min (sumF D+m) e,p)]):=by
 have eL:=h.eL;have hpD:=bY.mp (rwr eL hp);have hm:0<m:=(fp.mp hpD.2).1;have hb:b<sumF D+m:=h.at_.elim (λhb=>by lia) λh=>iA h λx R' z=>by cases z.1;exact z.2
 have hlD:=kz (ι:=ι) hpD.1;have hsD:=hpD.1.vI;have f1:max b (min (sumF D) e)=max (sumF D) b:=by lia
 refine⟨eL.trans jV.symm,.inl (rwl vH hb),?_,?_,λr hr=>(aU.mp hr).elim (h.pl r) λhr=>aQ.mp hr▸xE (a,m,p) (rwl eL (az _ (.head _))),by rw[aa,aa];exact bU h.n⟩
 ·have xF:=f1▸h.ch;have f2:max b (min (sumF D+m) e)=min (sumF D+m) e:=by lia
  rw[vH,f2];exact xF.snoc (by lia)
 ·have hex:=h.ex;unfold expand at hex⊢;rw[hU,hex,JA,Sq _ _ _ _ _ (by lia)]
  refine congrArg _ ((ay _).trans ?_);refine congrArg (aM · _) ?_;show(min (sumF D+m) e-max (sumF D) b).toNat=min ((Vw ι D).length+m.toNat) e.toNat-max (Vw ι D).length b.toNat;rw[←Int.toNat_sub,a3f,a3k,fH,hlD,bL h0,bL (bp hm),bL (aS h0 (bp h1))]
theorem RB.fin{ι:St}{b e:Int}{L D R:eE}{rows:List Row}(h:RB ι b e L D R rows)(hp:fQ L)(h1:b<e)(h6:e≤sumF D):iM b rows e∧expand ι rows=((Vw ι L).take e.toNat).drop b.toNat:=by
 have eL:=h.eL;have hlD:=kz (ι:=ι) (bY.mp (rwr eL hp)).1;have f1:max b (min (sumF D) e)=e:=by lia
 refine⟨rwr f1 h.ch,?_⟩;rw[h.ex,eL,iQ,Ea (by lia)]
section
variable{be:Nat}{σ ι:St}{Q:bw}{tr tp:Addr}{L:eE}
theorem qe{b e:Int}(aV:ai 3 be=true)(h:PI ι σ tp tr L)(hs:sumF L≤10000)(h0:0≤b)(h1:b≤e)(h2:e≤sumF L)
  (hq:∀c rows,σ c=none→iM b rows e→expand ι rows=((Vw ι L).take e.toNat).drop b.toNat→(∀r∈rows,xJ ι r.2.2)→Q (.ref c) (upd σ c (.list (rows.map gR)))):
  D be (.fn 1031) [.ref tp,.int b,.int e] σ Q:=by
 refine AN aV ?_;dsimp only[qh];k_in;intro c hc;have i1:∀o,PI ι (upd σ c o) tp tr L:=λo=>h.side hc;have OP:=λo=>(i1 o).z4;k_in;refine gi (λh3=>?_) λh3=>?_
 ·have e3:=kL h1 h3;subst e3;k_in;exact hq c [] hc rfl (uN (NY ..)).symm λ_ h=>absurd h aD
 ·have h3:=Bs.mp h3;have OP:=OP (.list []);k_in;refine tU rfl (i1 _).tl h0 (iO h3 h2) λA B a m p hL h4 h5=>?_;k_in;refine dS λP hP=>?_;have key:∀(R D:eE)(rows:List Row)(lv:Option MV)(nv:MV)(s:Int),RB ι b e L D R rows→nv=sy R→s=sumF D→
    P [(bg,some (.ref tp)),(aT,some (.int b)),(aH,some (.int e)),(bG,some (.ref c)),(aB,some nv),(dO,some (.int s)),(dh,lv)] (upd σ c (.list (rows.map gR))):=by
   intro R;induction R with
   |nil=>
    intro D rows lv nv s rb hn Me;have hn:nv=.none:=hn;subst hn Me;apply hP;k_in;have f:=rb.fin h.pos h3 (by have:=rb.eL.trans (ay D);exact rwr this h2)
    exact hq c rows hc f.1 f.2 rb.pl
   |cons x R ih=>
    obtain⟨a',m',p'⟩:=x;intro D rows lv nv s rb hn Me;have hn:nv=.ref a':=hn;subst hn Me;apply hP;have eL:=rb.eL;have hT:∀o,TL (upd σ c o) tr (D++(a',m',p')::R):=λo=>rwr eL ((i1 o).tl);k_in;refine gi (λh6=>?_) λh6=>?_
    ·refine((hT (.list (rows.map gR))).node).elim λt xP=>xP.elim λl JX=>JX.elim λr JW=>JW.elim λq ha=>?_;k_in;refine zy rfl (hT _) ?_;k_in;have hl:=eL▸h.size hs;refine dY (ak ..) ?_ ?_
     ·rw[aa]at hl;rw[ax];exact bc (ah rb.n (ah (bq _ _) hl)) (by decide)
     rw[cZ,a0I,a0y];k_in;refine H5 rfl (hT _) ?_;k_in;have:=ih _ _ (some (.int (sumF D+m'))) _ _ (rb.step h.pos h.pl h0 h3 h6) rfl vH.symm;rw[aJ]at this;exact this
    ·k_in;have f:=rb.fin h.pos h3 (dc.mp h6);exact hq c rows hc f.1 f.2 rb.pl
  refine key ((a,m,p)::B) A [] none _ _ ⟨hL,.inr ⟨_,_,rfl,h5⟩,by show b=_;lia,?_,λ_ h=>absurd h aD,cy _⟩ rfl rfl
  have:=kz (ι:=ι) (bY.mp (rwr hL h.pos)).1;exact(uN (ah (og ..) (by lia))).symm
end
theorem TL.a0q{σ:St}{tr x:Addr}{L:eE}{l:List MV}(h:TL σ tr L)(e:σ x=some (.list l)):x∉foot tr L:=λhx=>by
 obtain⟨ix,t,hA,rfl,_⟩:=h;rcases aE.mp hx with rfl|hx
 ·obtain⟨_,w⟩:=hA.ctx.tr;exact Yj e w rfl
 ·refine ex5 ((hA.tree.each x hx).2) λ_ _ _ _ _ w=>?_;exact Yj e w rfl
noncomputable def ng(ι:St)(V:List PM)(rows:List Row):List PM:=rows.foldl (λV r=>fX (λ_=>vw ι r.2.2) V r.1 r.2.1) V
noncomputable def K9(V:List PM)(at_:Int)(k:Nat)(p:PM):List PM:=V.take at_.toNat++aM k p++V.drop at_.toNat
noncomputable def QA(V:List PM)(b e:Int):List PM:=V.take b.toNat++V.drop e.toNat
section
variable{be:Nat}{σ ι:St}{Q:bw}{tr tp:Addr}{L:eE}
theorem FU{rq:Addr}{rows:List Row}(aV:ai 8 be=true)(h:PI ι σ tp tr L)(hs:sumF L≤10000)(hr:σ rq=some (.list (rows.map gR)))
  (Fc:∀r∈rows,0≤r.1∧r.1≤r.2.1∧r.2.1≤sumF L∧xJ ι r.2.2)
  (hq:∀cv bx av L',PI bx av tp tr L'→Vw bx L'=ng ι (Vw ι L) rows→sumF L'=sumF L→Ev ι σ (foot tr L) bx av (foot tr L')→Q (.bool cv) av):
  D be (.fn 1038) [.ref tp,.ref rq] σ Q:=by
 refine G5 aV ?_;dsimp only[zE];k_in;refine ll gR (λR ρ dp=>∃(jA:St)(L2:eE)(cv:Bool)(v1 v2 v3:Option MV),
   ρ=[(bg,some (.ref tp)),(aX,some (.ref rq)),(cf,some (.bool cv)),(aT,v1),(aH,v2),(aI,v3)]∧
   PI jA dp tp tr L2∧ng ι (Vw jA L2) R=ng ι (Vw ι L) rows∧sumF L2=sumF L∧Ev ι σ (foot tr L) jA dp (foot tr L2)∧dp rq=some (.list (rows.map gR))∧∀r∈R,r∈rows)
   ⟨ι,L,false,none,none,none,rfl,h,rfl,rfl,Ev.refl _ _ _,hr,λ_ h=>h⟩ (λx R ρ dp K hI hK=>?_) λρ dp hI=>?_
 ·obtain⟨lo,hi,p⟩:=x;refine ex6 hI λjA L2 cv v1 v2 v3 zh=>an7 zh λzr6 i2 Qh zg ev2 TR sub=>?_;subst zr6;refine an4 (Fc _ (sub _ (.head _))) λg0 g1 g2 hp=>?_;refine iA hp λq pl zh=>rU zh λGu gp=>?_;subst Gu;k_in;refine Cr rfl i2 (rwr zg.symm hs) g0 g1 (rwr zg.symm g2) (gp.mono ev2.le) λcv' Md jJ L3 i3 hv3 W8 ev3=>?_;have hr3:=ev3.kp.keep (i2.tl.a0q TR) TR;have hv:ng ι (Vw Md L3) R=ng ι (Vw ι L) rows:=by rw[←Qh,hv3,←gp.view];rfl
  k_in;refine a5I (λe=>?_) λe=>?_
  ·k_in;exact⟨hr3,hK _ _ ⟨Md,L3,true,_,_,_,rfl,i3,hv,W8.trans zg,ev2.trans ev3,hr3,λr h=>sub r (.tail _ h)⟩⟩
  ·k_in;exact⟨hr3,hK _ _ ⟨Md,L3,cv,_,_,_,rfl,i3,hv,W8.trans zg,ev2.trans ev3,hr3,λr h=>sub r (.tail _ h)⟩⟩
 ·refine ex6 hI λjA L2 cv v1 v2 v3 zh=>an7 zh λzr6 i2 Qh zg ev2 TR sub=>?_;subst zr6;k_in;exact hq cv jA dp L2 i2 Qh zg ev2
theorem D0{a w:Int}{q:Addr}{pl:jx}(aV:ai 7 be=true)(h:PI ι σ tp tr L)(hs:sumF L≤5000)(h0:0≤a)(h1:a≤sumF L)(hw:0<w)(OO:w≤5000)
  (hq0:σ q=some (yi pl)) (g:Good pl)
  (hq:∀bx av L',PI bx av tp tr L'→Vw bx L'=K9 (Vw ι L) a w.toNat (view pl)→sumF L'=sumF L+w→Ev ι σ (foot tr L) bx av (foot tr L')→Q .none av):
  D be (.fn 1045) [.ref tp,.int a,.int w,.ref q] σ Q:=by
 refine zi aV ?_;dsimp only[ot];have OP:=h.z4;k_in;refine jm hq0 λd hd=>?_;have hi:=h.sub.none hd;have i1:=h.Y3 (o:=yi pl) hd;have hpd:uj (upd ι d (yi pl)) d pl:=⟨ak ..,g,ah g.sz (by decide)⟩
 k_in;refine Bj rfl i1.tl h.pos (aS hs (by decide)) h0 h1 hw λA B f dp Mg vV mL hA ym=>?_
 have YE:=i1.Ov vV mL;have hp:=bY.mp vV;have zg:sumF (A++(f,w,.ref d)::B)=sumF L+w:=by rw[←IC h.pos vV mL,bX,bX];show sumF A+(w+sumF B)=_;lia
 have ev2:Ev ι σ (foot tr L) (upd ι d (yi pl)) dp (foot tr (A++(f,w,.ref d)::B)):=
  ⟨(Le.refl _).new hi,(Kp.fresh hd).trans ym,λx hx=>(rT (x=d)).elim (λe=>.inr (.inr (rwl e hd))) λe=>.inl λw=>hx ((aC e).trans w)⟩
 have Qh:Vw (upd ι d (yi pl)) (A++(f,w,.ref d)::B)=K9 (Vw ι L) a w.toNat (view pl):=by
  have hl:=kz (ι:=upd ι d (yi pl)) hp.1;have hl:(Vw (upd ι d (yi pl)) A).length=a.toNat:=by lia
  have e1:Vw (upd ι d (yi pl)) (A++B)=Vw ι L:=(congrArg (Gr _) mL).trans (h.vw ((Le.refl _).new hi));unfold K9;rw[←e1,iQ,iQ,Em,show vw (upd ι d (yi pl)) (.ref d)=view pl from hpd.view,pN hl,nH hl,af]
 have W8:sumF (A++(f,w,.ref d)::B)≤10000:=rwl zg (Int.add_le_add hs OO);k_in;refine sQ rfl (i1.step Mg (bY.mpr ⟨hp.1,fp.mpr ⟨hw,hp.2⟩⟩) ym λx hx=>(aU.mp hx).elim (λhx=>YE x (aN _ hx)) λhx=>(aE.mp hx).elim (λe=>rwl e (⟨d,pl,rfl,hpd⟩)) λhx=>YE x (az _ hx)) W8 λjJ L3 i3 hv3 hs4 Q9=>?_;k_in;refine sQ rfl i3 (rwr hs4.symm W8) λvh L4 i4 hv4 hs5 hk4=>?_;k_in;exact hq _ vh L4 i4 (hv4.trans (hv3.trans Qh)) (hs5.trans (hs4.trans zg)) ((ev2.trans Q9.ev).trans hk4.ev)
theorem FQ{b e:Int}(aV:ai 7 be=true)(h:PI ι σ tp tr L)(hs:sumF L≤10000)(h0:0≤b)(h1:b<e)(h2:e≤sumF L)
  (hq:∀av L',PI ι av tp tr L'→Vw ι L'=QA (Vw ι L) b e→sumF L'=sumF L-(e-b)→Kp σ av (foot tr L) (foot tr L')→Q .none av):
  D be (.fn 1052) [.ref tp,.int b,.int e] σ Q:=by
 refine AL aV ?_;dsimp only[qg];have OP:=h.z4;k_in;refine F8 rfl h.tl h.pos hs h0 h1 h2 λA M B dp Mg vV mL hA hM ym=>?_;have pA:=bY.mp vV;have pM:=bY.mp pA.2;have xE:=h.Ov vV mL;have i2:=h.step Mg (bY.mpr ⟨pA.1,pM.2⟩) ym λx hx=>(aU.mp hx).elim (λhx=>xE x (aN _ hx)) λhx=>xE x (az _ (az _ hx));have DH:sumF A+(sumF M+sumF B)=sumF L:=by rw[←IC h.pos vV mL,bX,bX]
 have zg:sumF (A++B)=sumF L-(e-b):=by rw[bX];lia
 have Qh:Vw ι (A++B)=QA (Vw ι L) b e:=by
  have e1:Vw ι (A++(M++B))=Vw ι L:=congrArg (Gr _) mL;have l1:=kz (ι:=ι) pA.1;have l2:=kz (ι:=ι) pM.1;have l3:(Vw ι A++Vw ι M).length=e.toNat:=by rw[aa];lia
  have l4:(Vw ι A).length=b.toNat:=by lia
  unfold QA;rw[←e1,iQ,iQ,iQ,pN l4,←af,nH l3]
 have a09:=i2.z4;k_in;refine sQ rfl i2 (by lia) λjJ L3 i3 hv3 W8 Q9=>?_
 k_in;exact hq jJ L3 i3 (hv3.trans Qh) (W8.trans zg) (ym.trans Q9)
end
section
variable{be:Nat}{σ ι:St}{Q:bw}{tr tp:Addr}{L:eE}
theorem LN{a w:Int}(aV:ai 8 be=true)(h:PI ι σ tp tr L)(hs:sumF L≤5000)(h0:0≤a)(h1:a≤sumF L)(hw:0<w)(OO:w≤5000)
  (hq:∀bx av L',PI bx av tp tr L'→Vw bx L'=K9 (Vw ι L) a w.toNat (none,none)→sumF L'=sumF L+w→Ev ι σ (foot tr L) bx av (foot tr L')→Q .none av):
  D be (.fn 961) [.ref tp,.int a,.int w] σ Q:=by
 refine rG aV ?_;dsimp only[iZ];k_in;intro c hc;k_in;refine D0 (pl:=[]) rfl (h.side hc) hs h0 h1 hw OO (ak ..) ⟨λ_ h=>absurd h aD,.nil⟩ λbx av L' h1 h2 h3 h4=>?_;k_in;exact hq bx av L' h1 h2 h3 ⟨h4.le,(Kp.fresh hc).trans h4.kp,λx hx=>(h4.new x hx).imp id λh=>h.imp id λe=>(Kp.fresh (F:=[]) hc).back aD e⟩
theorem LL{b e:Int}(aV:ai 8 be=true)(h:PI ι σ tp tr L)(hs:sumF L≤10000)(h0:0≤b)(h1:b<e)(h2:e≤sumF L)
  (hq:∀av L',PI ι av tp tr L'→Vw ι L'=QA (Vw ι L) b e→sumF L'=sumF L-(e-b)→Kp σ av (foot tr L) (foot tr L')→Q .none av):
  D be (.fn 968) [.ref tp,.int b,.int e] σ Q:=by
 refine rF aV ?_;dsimp only[iY];k_in;exact FQ rfl h hs h0 h1 h2 hq
theorem rj{b e:Int}(aV:ai 4 be=true)(h:PI ι σ tp tr L)(hs:sumF L≤10000)(h0:0≤b)(h1:b≤e)(h2:e≤sumF L)
  (hq:∀c rows,σ c=none→iM b rows e→expand ι rows=((Vw ι L).take e.toNat).drop b.toNat→(∀r∈rows,xJ ι r.2.2)→Q (.ref c) (upd σ c (.list (rows.map gR)))):
  D be (.fn 975) [.ref tp,.int b,.int e] σ Q:=by
 refine pg aV ?_;dsimp only[gV];k_in;exact qe rfl h hs h0 h1 h2 hq
theorem Ve{rq:Addr}{rows:List Row}(aV:ai 9 be=true)(h:PI ι σ tp tr L)(hs:sumF L≤10000)(hr:σ rq=some (.list (rows.map gR)))
  (Fc:∀r∈rows,0≤r.1∧r.1≤r.2.1∧r.2.1≤sumF L∧xJ ι r.2.2)
  (hq:∀cv bx av L',PI bx av tp tr L'→Vw bx L'=ng ι (Vw ι L) rows→sumF L'=sumF L→Ev ι σ (foot tr L) bx av (foot tr L')→Q (.bool cv) av):
  D be (.fn 982) [.ref tp,.ref rq] σ Q:=by
 refine kJ aV ?_;dsimp only[gL];k_in;exact FU rfl h hs hr Fc hq
end
noncomputable abbrev dt(l:List Int):MO:=.list (l.map .int)
theorem a4j{α:Type}{A B C:List α}{i j:Nat}(h1:A.length=i)(h2:A.length+B.length=j):((A++B++C).take j).drop i=B:=by
 rw[pN (by rw[aa];exact h2),nH h1]
theorem BG{σ:St}{a:Addr}{l A M B:List Int}{i j:Int}{Q:bw}(h:σ a=some (dt l))(e:l=A++M++B)(hi:i=A.length)(hj:j=A.length+M.length)(bd:l.length≤50000)(q:fe (M.map .int) σ Q):
  l8 (.ref a) (.MR (.int i) (.int j)) σ Q:=by
 have hl:=congrArg bl e;rw[aa,aa]at hl;have hj:j=(A.length+M.length:Nat):=hj;subst hi hj;refine HC h (Ja (by lia)) (B6 (by lia)) ?_
 rw[e];show fe (((A++M++B).map MV.int).take _|>.drop _) σ Q;rw[aJ,aJ,a4j (by rw[ax]) (by rw[ax,ax])]
 exact q
structure g7(σ:St)(g cl:Addr)(P F S:List Int):Prop where
 g:σ g=some (.inst 463 [(gN,.int 8),(fo,.ref cl),(bM,.int P.length),(cJ,.int (P.length+F.length))])
 cl:σ cl=some (dt (P++F++S))
 bd:P.length+F.length+S.length≤2000
theorem g7.frame{σ av:St}{g cl:Addr}{P F S:List Int}(h:g7 σ g cl P F S)(h1:av g=σ g)(h2:av cl=σ cl):g7 av g cl P F S:=⟨h1.trans h.g,h2.trans h.cl,h.bd⟩
theorem g7.ne{σ:St}{g cl:Addr}{P F S:List Int}(h:g7 σ g cl P F S):g≠cl:=bS h.g h.cl rfl
theorem gG{A B C D:List Int}(e:A++B=C++D)(h:A.length≤C.length):∃E,C=A++E∧B=E++D:=by
 rcases eT.mp e with⟨E,h4,h5⟩|⟨E,h4,h5⟩
 ·exact⟨E,h4,h5⟩
 ·have:E=[]:=dr (by have:=congrArg bl h4;rw[aa]at this;lia)
  subst this;exact⟨[],by rw[ay,h4,ay],h5.symm⟩
section
variable{be:Nat}{σ:St}{Q:bw}{g cl:Addr}{P F S:List Int}
theorem NO(aV:ai 0 be=true)(h:g7 σ g cl P F S)(hq:Q (.int ((P++S).length)) σ):D be (.fn 397) [.ref g] σ Q:=by
 refine A7 aV ?_;dsimp only[qx];have hg:=h.g;have hc:=h.cl;k_in;have e:((((P++F++S).map MV.int).length:Nat):Int)-(P.length+F.length)+P.length=((P++S).length:Nat):=by
  rw[ax,aa,aa,aa];lia
 rw[e];k_in;exact hq
theorem Dd{A M B:List Int}{i j:Int}(aV:ai 0 be=true)(h:g7 σ g cl P F S)(e:P++S=A++M++B)(hi:i=A.length)(hj:j=A.length+M.length)
  (hq:∀c,σ c=none→Q (.ref c) (upd σ c (dt M))):D be (.fn 411) [.ref g,.int i,.int j] σ Q:=by
 refine D.fresh (zt aV ?_) hq;dsimp only[oF];have hg:=h.g;have hc:=h.cl;have hb:=h.bd;have hl:=congrArg bl e;rw[aa,aa,aa]at hl;have hbd:(P++F++S).length≤50000:=by rw[aa,aa];lia
 k_in;refine gi (λh1=>?_) λh1=>?_
 ·obtain⟨E,e1,e2⟩:=gG (A:=A++M) (B:=B) (C:=P) (D:=S) e.symm (by rw[aa];lia)
  k_in;refine BG (A:=A) (M:=M) (B:=E++F++S) hc (by rw[e1];simp only[af]) hi hj hbd λc hc=>?_
  k_in;exact⟨c,rfl,hc,ak ..,(Le.refl _).new hc⟩
 ·k_in;refine gi (λh2=>?_) λh2=>?_
  ·obtain⟨E,e1,e2⟩:=gG (A:=P) (B:=S) (C:=A) (D:=M++B) (by rw[e,af]) (by lia)
   k_in;refine BG (A:=P++F++E) (M:=M) (B:=B) hc (by rw[e2];simp only[af]) ?_ ?_ hbd λc hc=>?_
   ·rw[hi,e1,aa,aa,aa];lia
   ·rw[hj,e1,aa,aa,aa];lia
   k_in;exact⟨c,rfl,hc,ak ..,(Le.refl _).new hc⟩
  ·obtain⟨M1,e1,e2⟩:=gG (A:=A) (B:=M++B) (C:=P) (D:=S) (by rw[e,af]) (by lia)
   obtain⟨M2,e3,e4⟩:=gG (A:=M1) (B:=S) (C:=M) (D:=B) e2.symm (by have:=congrArg bl e1;rw[aa]at this;lia)
   k_in;refine BG (A:=A) (M:=M1) (B:=F++S) hc (by rw[e1];simp only[af]) hi (by rw[e1,aa];lia) hbd λc tK=>?_
   have YK:=(aC (o:=dt M1) λe:g=c=>ar hg (rwl e tK)).trans hg;k_in;refine BG (A:=P++F) (M:=M2) (B:=B) ((aC (o:=dt M1) λe:cl=c=>ar hc (rwl e tK)).trans hc) (by rw[e4];simp only[af]) (by rw[aa];lia) (by rw[hj,e3,e1];simp only[aa];lia) hbd λd hd=>?_
   k_in;have l1:=congrArg bl e3;rw[aa]at l1;refine BH ((aC (o:=dt M2) λe:c=d=>ar (ak σ c (dt M1)) ((congrArg (upd σ c (dt M1)) e).trans hd)).trans (ak σ c (dt M1))) (ak ..) (by rw[ax,ax];exact ah (show _≤2000 by lia) (by decide)) λk hk=>?_
   k_in;have le:=((Le.refl σ).new (o:=dt M1) tK).new (o:=dt M2) hd;exact⟨k,rfl,le.none hk,(ak ..).trans (by rw[e3,dt,aJ]),le.new hk⟩
end
theorem oG.iG{σ av:St}{F:List Addr}(h:oG σ av F)(hF:∀x∈F,σ x≠none):Off σ (Mine.Internal.iG σ av) F:=λx hx=>by
 induction e:σ x with
 |none=>unfold Mine.Internal.iG;rw[e]
 |some o=>rw[hG (aZ e),h x hx (aZ e),e]
theorem xB{σ:St}{a b:Addr}{l k A M B:List Int}{i j:Int}{K:St→Prop}(h:σ a=some (dt l))(h':σ b=some (dt k))(hab:a≠b)(e:l=A++M++B)(hi:i=A.length)(hj:j=A.length+M.length)
  (bd:l.length+k.length≤50000) (q:K (upd σ a (dt (A++k++B)))):pS (.ref a) (.MR (.int i) (.int j)) (.ref b) σ K:=by
 have hl:=congrArg bl e;rw[aa,aa]at hl;have hj:j=(A.length+M.length:Nat):=hj;subst hi hj;show look σ a _ _ _;refine hH h ?_;show look σ b _ _ _;refine hH h' ?_;rw+offsetCnstrs [Ja (by lia),B6 (by lia)]
 refine⟨⟨bq _ _,by rw[ax];lia,by rw[ax,ax];exact ah bd (by decide),hab⟩,?_⟩
 rw[dt,aJ,aJ]at q;rw[e,aJ,aJ];rw[af (A.map MV.int) (M.map MV.int),pN (ax ..),←af,nH (by rw[aa,ax,ax])]
 exact q
theorem Fe{cl:Addr}{a b a' b':Int}(h:a=a')(k:b=b'):some (MO.inst 463 [(gN,.int 8),(fo,.ref cl),(bM,.int a),(cJ,.int b)])=some (.inst 463 [(gN,.int 8),(fo,.ref cl),(bM,.int a'),(cJ,.int b')]):=by rw[h,k]
section
variable{be:Nat}{σ:St}{Q:bw}{g cl:Addr}{P F S:List Int}
theorem zz{P' S':List Int}{at_:Int}(aV:ai 0 be=true)(h:g7 σ g cl P F S)(e:P++S=P'++S')(ha:at_=P'.length)
  (hq:∀av F',g7 av g cl P' F' S'→F'.length=F.length→Off σ av [g,cl]→Q .none av):D be (.fn 418) [.ref g,.int at_] σ Q:=by
 refine D.iG (u0 aV ?_);dsimp only[kh];have hg:=h.g;have hc:=h.cl;have hb:=h.bd;have hl:=congrArg bl e;rw[aa,aa]at hl;have fin:∀(av:St)F',g7 av g cl P' F' S'→F'.length=F.length→oG σ av [g,cl]→Q .none (iG σ av):=λav F' h1 h2 o=>
  hq _ F' (h1.frame (hG (aZ hg)) (hG (aZ hc))) h2 (o.iG λx hx=>(aE.mp hx).elim (λe=>rwl e (aZ hg)) λhx=>rwl (aQ.mp hx) (aZ hc))
 have hbd:(P++F++S).length≤50000:=by rw[aa,aa];lia
 k_go;refine gi (λh1=>?_) λh1=>?_
 ·obtain⟨M,e1,e2⟩:=gG (A:=P') (B:=S') (C:=P) (D:=S) e.symm (by lia)
  have l1:=congrArg bl e1;rw[aa]at l1;k_go;refine BG (A:=P') (M:=M) (B:=F++S) hc (by rw[e1];simp only[af]) ha (by rw[e1,aa];rfl) hbd λc Rb=>?_
  have B7:cl≠c:=λe=>ar hc (rwl e Rb);have Xd:g≠c:=λe=>ar hg (rwl e Rb);have Ra:=(aC (o:=dt M) Xd).trans hg;k_go;have hlM:((M.map MV.int).length:Int)=M.length:=congrArg _ (ax ..);have e0:P'++(M++F).take F.length++(M++F).drop F.length=P'++(M++F):=by rw[af,cw]
  have lt:((M++F).take F.length).length=F.length:=by rw[eX,aa];lia
  have ld:((M++F).drop F.length).length=M.length:=by rw[d6,aa];lia
  refine xB (A:=P'++(M++F).take F.length) (M:=(M++F).drop F.length) (B:=S) ((aC B7).trans hc) (ak ..) B7 (by rw[e0,e1,af P' M]) ?_ ?_ (by rw[aa,aa];lia) ?_
  ·rw[aa,lt];lia
  ·rw[aa,lt,ld];lia
  have YK:=(aC (o:=dt (P'++(M++F).take F.length++M++S)) h.ne).trans Ra;have mL:=(aC (o:=dt (P'++(M++F).take F.length++M++S)) B7.symm).trans (ak σ c (dt M));k_go;refine fin _ ((M++F).take F.length) ⟨(ak ..).trans (Fe ha (by rw[lt];lia)),(aC h.ne.symm).trans ((aC h.ne.symm).trans ((ak ..).trans (by rw[e2,←af]))),by rw[lt];lia⟩ lt
   (((((oG.refl _ _).upd (.inr Rb)).upd (.inl (.tail _ (.head _)))).upd (.inl (.head _))).upd (.inl (.head _)))
 ·obtain⟨M,e1,e2⟩:=gG (A:=P) (B:=S) (C:=P') (D:=S') e (by lia)
  have l1:=congrArg bl e1;rw[aa]at l1;k_go;refine BG (A:=P++F) (M:=M) (B:=S') hc (by rw[e2];simp only[af]) (by rw[aa];rfl) (by rw[ha,e1,aa,aa];lia) hbd λc Rb=>?_
  have B7:cl≠c:=λe=>ar hc (rwl e Rb);have Xd:g≠c:=λe=>ar hg (rwl e Rb);have Ra:=(aC (o:=dt M) Xd).trans hg;have tK:=ak σ c (dt M);k_go;have hlM:((M.map MV.int).length:Int)=M.length:=congrArg _ (ax ..);have e0:P++(F++M).take M.length++((F++M).drop M.length++S')=P++(F++M)++S':=by
   rw[←af,af P,cw]
  have lt:((F++M).take M.length).length=M.length:=by rw[eX,aa];lia
  have ld:((F++M).drop M.length).length=F.length:=by rw[d6,aa];lia
  refine xB (A:=P) (M:=(F++M).take M.length) (B:=(F++M).drop M.length++S') ((aC B7).trans hc) (ak ..) B7 (by rw[e0,e2];simp only[af]) rfl ?_ (by rw[aa,aa];lia) ?_
  ·rw[lt];lia
  have YK:=(aC (o:=dt (P++M++((F++M).drop M.length++S'))) h.ne).trans Ra;have mL:=(aC (o:=dt (P++M++((F++M).drop M.length++S'))) B7.symm).trans (ak σ c (dt M));k_go;refine fin _ ((F++M).drop M.length) ⟨(ak ..).trans (Fe ha (by rw[ld];lia)),(aC h.ne.symm).trans ((aC h.ne.symm).trans ((ak ..).trans (by rw[e1,←af]))),by rw[ld];lia⟩ ld
   (((((oG.refl _ _).upd (.inr Rb)).upd (.inl (.tail _ (.head _)))).upd (.inl (.head _))).upd (.inl (.head _)))
end
theorem Tp(k:Nat):zf [.int 0] k=(aM k (0:Int)).map .int:=
 k.rec rfl λk ih=>congrArg (MV.int 0::·) ih
theorem a2Y{σ:St}{a:Addr}{l:List MV}{n:Int}{Q:bw}(h:σ a=some (.list l))(hl:l.length≤1)(h1:0≤n)(h2:n≤(2100:Nat))(q:fe (zf l n.toNat) σ Q):BY .Mult (.ref a) (.int n) σ Q:=
 hH (kl:=λl=>(l.length≤1∧-(2^40)<n∧n≤lim)∧fe (zf l n.toNat) σ Q) h ⟨⟨hl,iO (by decide) h1,aS h2 (cK.mpr (by decide))⟩,q⟩
section
variable{be:Nat}{σ:St}{Q:bw}{g cl:Addr}{P F S:List Int}
theorem LF{w:Nat}(aV:ai 0 be=true)(h:g7 σ g cl P F S)(hw:P.length+S.length+w+8≤2000)
  (hq:∀av F',g7 av g cl P F' S→w≤F'.length→Off σ av [g,cl]→Q .none av):D be (.fn 425) [.ref g,.int w] σ Q:=by
 refine D.iG (tO aV ?_);dsimp only[jO];have hg:=h.g;have hc:=h.cl;have hb:=h.bd;have fin:∀(av:St)F',g7 av g cl P F' S→w≤F'.length→oG σ av [g,cl]→Q .none (iG σ av):=λav F' h1 h2 o=>
  hq _ F' (h1.frame (hG (aZ hg)) (hG (aZ hc))) h2 (o.iG λx hx=>(aE.mp hx).elim (λe=>rwl e (aZ hg)) λhx=>rwl (aQ.mp hx) (aZ hc))
 k_go;refine gi (λh1=>?_) λh1=>?_
 ·k_go;intro c Rb;have B7:cl≠c:=λe=>ar hc (rwl e Rb);have Xd:g≠c:=λe=>ar hg (rwl e Rb);have Ra:=λo=>(aC (o:=o) Xd).trans hg;k_go;have hn:0<(w:Int)-(P.length+F.length-P.length)+8:=by lia
  refine a2Y (ak ..) (cM _) (bp hn) (by lia) ?_
  generalize hk:((w:Int)-(P.length+F.length-P.length)+8).toNat=k;have hk:(w:Int)-(P.length+F.length-P.length)+8=k:=by rw[←hk];exact(bL (bp hn)).symm
  intro d hd;rw[Tp];have a32:cl≠d:=λe=>ar ((aC B7).trans hc) (rwl e hd);have hgd:g≠d:=λe=>ar (Ra _) (rwl e hd);have YK:=(aC (o:=dt (aM k 0)) hgd).trans (Ra (.list [.int 0]));k_go;refine xB (A:=P++F) (M:=[]) (B:=S) ((aC a32).trans ((aC B7).trans hc)) (ak ..) a32 (by rw[ay]) (by rw[aa];rfl) (by rw[aa];exact(fh _).symm) (by rw[aa,aa,bP];lia) ?_
  have hg3:=(aC (o:=dt (P++F++aM k 0++S)) h.ne).trans YK;k_go;have lr:(F++aM k (0:Int)).length=F.length+k:=by rw[aa,bP]
  refine fin _ (F++aM k 0) ⟨(ak ..).trans (Fe rfl (by rw[lr];lia)),(aC h.ne.symm).trans ((ak ..).trans (by rw[←af P])),by rw[lr];lia⟩ (by rw[lr];lia)
   (((((oG.refl _ _).upd (.inr Rb)).upd (.inr ?_)).upd (.inl (.tail _ (.head _)))).upd (.inl (.head _)))
  exact((Le.refl σ).new (o:=.list [.int 0]) Rb).none hd
 ·k_go;exact fin σ F h (by lia) (oG.refl _ _)
end
section
variable{be:Nat}{σ:St}{Q:bw}{g cl:Addr}{P F S:List Int}
theorem Bk{q:Addr}{P' S' K:List Int}{at_:Int}(aV:ai 1 be=true)(h:g7 σ g cl P F S)(e:P++S=P'++S')(ha:at_=P'.length)(hk:σ q=some (dt K))(hqc:q≠cl)
  (hw:P.length+S.length+K.length+8≤2000)
  (hq:∀av F',g7 av g cl (P'++K) F' S'→Off σ av [g,cl]→Q .none av):D be (.fn 432) [.ref g,.int at_,.ref q] σ Q:=by
 refine x9 aV ?_;dsimp only[mT];have hg:=h.g;have hgq:q≠g:=bS hk hg rfl;have hn:q∉[g,cl]:=λm=>(aE.mp m).elim hgq λm=>hqc (aQ.mp m);have lK:(((K.map MV.int).length:Nat):Int)=K.length:=congrArg _ (ax ..);k_go;rw[lK];refine LF rfl h hw λdE F1 h1 YB o1=>?_;have Ra:=h1.g;k_go;refine zz rfl h1 e ha λdp F2 h2 hl2 o2=>?_;have ym:=(o2 q hn).trans ((o1 q hn).trans hk);have YK:=h2.g;have hb:=h2.bd;have lt:(F2.take K.length).length=K.length:=by rw[eX];lia
 have ld:(F2.drop K.length).length=F2.length-K.length:=d6 ..;k_go;refine xB (A:=P') (M:=F2.take K.length) (B:=F2.drop K.length++S') h2.cl ym hqc.symm (by rw[af P' _ (_++_),←af (F2.take _),cw,af]) ha (by rw[lt];lia) (by rw[aa,aa];lia) ?_
 have hg3:=(aC (o:=dt (P'++K++(F2.drop K.length++S'))) h2.ne).trans YK;have Q9:=(aC (o:=dt (P'++K++(F2.drop K.length++S'))) hqc).trans ym;k_go;have hl:=congrArg bl e;rw[aa,aa]at hl;have lk:(P'++K).length=P'.length+K.length:=aa ..;refine hq _ (F2.drop K.length) ⟨(ak ..).trans (Fe (by rw[lk];lia) (by rw[lk,ld];lia)),(aC h2.ne.symm).trans ((ak ..).trans (by rw[←af])),by rw[lk,ld];lia⟩ λz hz=>?_
 exact(aC λe:z=g=>hz (rwr e (.head _))).trans ((aC λe:z=cl=>hz (rwr e (.tail _ (.head _)))).trans ((o2 z hz).trans (o1 z hz)))
theorem Jt{A M B:List Int}{i j:Int}(aV:ai 1 be=true)(h:g7 σ g cl P F S)(e:P++S=A++M++B)(hi:i=A.length)(hj:j=A.length+M.length)
  (hq:∀c av F',σ c=none→g7 av g cl A F' B→av c=some (dt M)→Off σ av [c,g,cl]→Q (.ref c) av):D be (.fn 439) [.ref g,.int i,.int j] σ Q:=by
 refine ya aV ?_;dsimp only[mU];have hl:=congrArg bl e;rw[aa,aa,aa]at hl;have hg:=h.g;k_go;refine Dd rfl h e hi hj λc hc=>?_;have Xd:g≠c:=λe=>ar hg (rwl e hc);have B7:cl≠c:=λe=>ar h.cl (rwl e hc);have h1:g7 (upd σ c (dt M)) g cl P F S:=h.frame (aC Xd) (aC B7);have Ra:=h1.g;have fin:∀av P' F' S' M1 M2,g7 av g cl P' F' S'→P'=A++M1→S'=M2++B→M=M1++M2→Off (upd σ c (dt M)) av [g,cl]→∀x,x=(P'.length:Int)+F'.length+j-P'.length→
   ∀gm,gm=(upd av g (.inst 463 [(gN,.int 8),(fo,.ref cl),(bM,.int i),(cJ,.int x)]))→Q (.ref c) gm:=by
  intro av P' F' S' M1 M2 g1 e1 e2 e3 o1 x hx gm e5;subst e1 e2 e3 e5;have lm:(M1++F'++M2).length=M1.length+F'.length+M2.length:=by rw[aa,aa]
  have lM:(M1++M2).length=M1.length+M2.length:=aa ..;have lA:(A++M1).length=A.length+M1.length:=aa ..;have lB:(M2++B).length=M2.length+B.length:=aa ..;have bd:=g1.bd;refine hq c _ (M1++F'++M2) hc ⟨(ak ..).trans (Fe hi (by rw[hx,hj,lm,lM];lia)),(aC g1.ne.symm).trans (g1.cl.trans (by simp only[af])),by rw[lm];lia⟩ ?_ λz hz=>?_
  ·exact(aC Xd.symm).trans ((o1 c λm=>(aE.mp m).elim Xd.symm λm=>B7.symm (aQ.mp m)).trans (ak ..))
  ·exact(aC λe:z=g=>hz (rwr e (.tail _ (.head _)))).trans ((o1 z λm=>hz (.tail _ m)).trans (aC λe:z=c=>hz (rwr e (.head _))))
 k_go;refine gi (λh2=>?_) λh2=>?_
 ·k_go;refine zz (P':=A++M) (S':=B) rfl h1 e (by rw[hj,aa];rfl) λdp F2 g2 _ o2=>?_
  have YK:=g2.g;k_go;refine px (by rw[aa];lia) ?_
  k_go;exact fin dp (A++M) F2 B M [] g2 rfl rfl (ay _).symm o2 _ rfl _ (cZ ..)
 ·k_go;refine gi (λh3=>?_) λh3=>?_
  ·k_go;refine zz (P':=A) (S':=M++B) rfl h1 (by rw[e,af]) hi λdp F2 g2 _ o2=>?_
   have YK:=g2.g;k_go;exact fin dp A F2 (M++B) [] M g2 (ay _).symm rfl rfl o2 _ rfl _ (cZ ..)
  ·refine Cc (gG (A:=A) (B:=M++B) (C:=P) (D:=S) (by rw[e,af]) (by lia)) λM1 zh=>rU zh λe1 e2=>?_
   obtain⟨M2,e3,e4⟩:=gG (A:=M1) (B:=S) (C:=M) (D:=B) e2.symm (by have:=congrArg bl e1;rw[aa]at this;lia)
   k_go;exact fin _ P F S M1 M2 h1 e1 e4 e3 (λ_ _=>rfl) _ rfl _ (cZ ..)
end
noncomputable def Yn(i:Int)(a:Bool)(bb:MV)(p:Int):List (Str×MV):=[(aG,.int i),(iy,.bool a),(ae,bb),(bT,.int p)]
noncomputable abbrev eB(i:Int)(a:Bool)(bb:MV)(p:Int):MO:=.inst 540 (Yn i a bb p)
structure iK(σ:St)(ms md m1 m2:Addr)(a1 a2:Bool)(bb:MV)(p1 p2:Int):Prop where
 ms:σ ms=some (.inst 608 [(aX,.ref md)])
 md:σ md=some (.dict [(1,.ref m1),(2,.ref m2)])
 m1:σ m1=some (eB 1 a1 bb p1)
 m2:σ m2=some (eB 2 a2 bb p2)
noncomputable def om(s e:Int)(bf a:Bool)(p:Int):Int:=if s<p∨(p=s∧(bf=true∨a=true))then p+e-s else p
noncomputable def ig(s e p:Int):Int:=if e<p then p-(e-s)else if s<p then s else p
noncomputable def yW(s e k p:Int):Int:=if e≤p then p+k-(e-s)else if s<p then s else p
section
variable{σ:St}{ms md m1 m2:Addr}{a1 a2:Bool}{bb:MV}{p1 p2:Int}
theorem iK.frame{av:St}(h:iK σ ms md m1 m2 a1 a2 bb p1 p2)(e1:av ms=σ ms)(e2:av md=σ md)(e3:av m1=σ m1)(e4:av m2=σ m2):iK av ms md m1 m2 a1 a2 bb p1 p2:=
 ⟨e1.trans h.ms,e2.trans h.md,e3.trans h.m1,e4.trans h.m2⟩
theorem iK.n12(h:iK σ ms md m1 m2 a1 a2 bb p1 p2):m1≠m2:=λe=>by cases h.m1.symm.trans ((congrArg σ e).trans h.m2)
theorem iK.ns1(h:iK σ ms md m1 m2 a1 a2 bb p1 p2):ms≠m1:=bS h.ms h.m1 rfl
theorem iK.ns2(h:iK σ ms md m1 m2 a1 a2 bb p1 p2):ms≠m2:=bS h.ms h.m2 rfl
theorem iK.nd1(h:iK σ ms md m1 m2 a1 a2 bb p1 p2):md≠m1:=bS h.md h.m1 rfl
theorem iK.nd2(h:iK σ ms md m1 m2 a1 a2 bb p1 p2):md≠m2:=bS h.md h.m2 rfl
theorem Om{a:Addr}{l:List (Int×MV)}{Q:bw}(h:σ a=some (.dict l))(hl:l.length≤2)(q:fe ((sortI (l.map (·.1))).map .int) σ Q):Ee (.ref a) σ Q:=by
 show look σ a _ _ _;exact I9 h ⟨hl,q⟩
theorem z8{a:Addr}{l:List (Int×MV)}{u:MV}{k:Int}{Q:bw}(h:σ a=some (.dict l))(e:Cd l k=some u)(q:Q u σ):l8 (.ref a) (.int k) σ Q:=by
 show look σ a _ _ _;refine I9 h ?_;rw[e];exact q
end
section
variable{be:Nat}{σ:St}{Q:bw}{ms md m1 m2:Addr}{a1 a2:Bool}{bb:MV}{p1 p2:Int}
theorem xG(aV:ai 0 be=true)(h:σ ms=some (.inst 608 [(aX,.ref md)]))(h':σ md=some (.dict [(1,.ref m1),(2,.ref m2)]))
  (hq:∀c,σ c=none→Q (.ref c) (upd σ c (.list [.int 1,.int 2]))):D be (.fn 563) [.ref ms] σ Q:=by
 refine nV aV ?_;dsimp only[jd];k_in;refine Om h' (cM _) λc hc=>?_;k_in;exact hq c hc
end
section
variable{be:Nat}{σ:St}{Q:bw}{ms md m1 m2:Addr}{a1 a2:Bool}{bb:MV}{p1 p2:Int}
structure ML(σ av:St)(c ms md m1 m2:Addr)(a1 a2:Bool)(bb:MV)(p1 p2:Int)(f:Bool→Int→Int)(R:List Int):Prop where
 at_:iK av ms md m1 m2 a1 a2 bb (if 1∈R then p1 else f a1 p1) (if 2∈R then p2 else f a2 p2)
 cl:av c=some (.list [.int 1,.int 2])
 off:oG σ av [m1,m2]
theorem ML.start{f:Bool→Int→Int}{c:Addr}(h:iK σ ms md m1 m2 a1 a2 bb p1 p2)(hc:σ c=none):ML σ (upd σ c (.list [.int 1,.int 2])) c ms md m1 m2 a1 a2 bb p1 p2 f [1,2]:=by
 have ne:∀x,σ x≠none→x≠c:=λx hx e=>hx ((congrArg σ e).trans hc);exact⟨h.frame (aC (ne _ (aZ h.ms))) (aC (ne _ (aZ h.md))) (aC (ne _ (aZ h.m1))) (aC (ne _ (aZ h.m2))),ak ..,(oG.refl _ _).upd (.inr hc)⟩
theorem ML.step{av:St}{c:Addr}{f:Bool→Int→Int}{v:Int}{vs:List Int}(h:ML σ av c ms md m1 m2 a1 a2 bb p1 p2 f (v::vs))(hv:v=1∧vs=[2]∨v=2∧vs=[]):
  ∃m a p,Cd [(1,MV.ref m1),(2,.ref m2)] v=some (.ref m)∧av m=some (eB v a bb p)∧∀gm,gm m=some (eB v a bb (f a p))→(∀z,z≠m→gm z=av z)→ML σ gm c ms md m1 m2 a1 a2 bb p1 p2 f vs:=by
 have n:=h.at_.n12;have cm:∀{m i a p},av m=some (eB i a bb p)→c≠m:=λe=>bS h.cl e rfl;rcases hv with⟨rfl,rfl⟩|⟨rfl,rfl⟩
 ·exact⟨m1,a1,p1,rfl,h.at_.m1,λgm e o=>⟨⟨(o _ h.at_.ns1).trans h.at_.ms,(o _ h.at_.nd1).trans h.at_.md,e,(o _ n.symm).trans h.at_.m2⟩,(o _ (cm h.at_.m1)).trans h.cl,λx hx hn=>(o x λq=>hx (rwr q (.head _))).trans (h.off x hx hn)⟩⟩
 ·exact⟨m2,a2,p2,rfl,h.at_.m2,λgm e o=>⟨⟨(o _ h.at_.ns2).trans h.at_.ms,(o _ h.at_.nd2).trans h.at_.md,(o _ n).trans h.at_.m1,e⟩,(o _ (cm h.at_.m2)).trans h.cl,λx hx hn=>(o x λq=>hx (rwr q (.tail _ (.head _)))).trans (h.off x hx hn)⟩⟩
theorem ML.fin{av:St}{c:Addr}{f:Bool→Int→Int}(h:ML σ av c ms md m1 m2 a1 a2 bb p1 p2 f [])(h0:iK σ ms md m1 m2 a1 a2 bb p1 p2):iK (iG σ av) ms md m1 m2 a1 a2 bb (f a1 p1) (f a2 p2)∧Off σ (iG σ av) [m1,m2]:=
 ⟨h.at_.frame (hG (aZ h0.ms)) (hG (aZ h0.md)) (hG (aZ h0.m1)) (hG (aZ h0.m2)),h.off.iG λx hx=>(aE.mp hx).elim (λe=>rwl e (aZ h0.m1)) λhx=>rwl (aQ.mp hx) (aZ h0.m2)⟩
theorem Hh{s e:Int}{bf:Bool}(aV:ai 1 be=true)(h:iK σ ms md m1 m2 a1 a2 bb p1 p2)
  (hq:∀av,iK av ms md m1 m2 a1 a2 bb (om s e bf a1 p1) (om s e bf a2 p2)→Off σ av [m1,m2]→Q .none av):D be (.fn 591) [.ref ms,.int s,.int e,.bool bf] σ Q:=by
 refine D.iG (mz aV ?_);dsimp only[iE];have zK:=h.ms;k_go;refine xG rfl zK h.md λc hc=>?_;k_go;refine ll (rows:=[1,2]) MV.int (λR ρ av=>ML σ av c ms md m1 m2 a1 a2 bb p1 p2 (om s e bf) R∧(R=[1,2]∨R=[2]∨R=[])∧∃nv mv,ρ=[(aj,some (.ref ms)),(au,some (.int s)),(aH,some (.int e)),(jl,some (.bool bf)),(aG,nv),(aL,mv)])
  ⟨.start h hc,.inl rfl,none,none,rfl⟩ (λv vs ρ av K hI hK=>?_) λρ av hI=>?_
 ·obtain⟨ml,hR,nv,mv,rfl⟩:=hI;have hv:v=1∧vs=[2]∨v=2∧vs=[]:=by rcases hR with h|h|h<;>cases h<;>simp
  refine JM (ml.step hv) λm a p zh=>oe zh λhd hm fin=>?_;have JK:vs=[1,2]∨vs=[2]∨vs=[]:=hv.elim (λh=>.inr (.inl h.2)) λh=>.inr (.inr h.2);have zK:=ml.at_.ms;have keep:om s e bf a p=p→ML σ av c ms md m1 m2 a1 a2 bb p1 p2 (om s e bf) vs:=λq=>fin av (rwr q.symm hm) λ_ _=>rfl;k_go;refine z8 ml.at_.md hd ?_;k_go;have go:om s e bf a p=p+e-s→K _ _:=λq=>hK [(aj,some (.ref ms)),(au,some (.int s)),(aH,some (.int e)),(jl,some (.bool bf)),(aG,some (.int v)),(aL,some (.ref m))] (upd av m (eB v a bb (p+e-s))) ⟨fin _ (rwr q.symm (ak ..)) λ_=>aC,JK,_,_,rfl⟩;have XG:upd av m (eB v a bb (p+e-s)) c=some (.list [.int 1,.int 2]):=(aC (bS ml.cl hm rfl)).trans ml.cl;have no:om s e bf a p=p→K _ _:=λq=>hK [(aj,some (.ref ms)),(au,some (.int s)),(aH,some (.int e)),(jl,some (.bool bf)),(aG,some (.int v)),(aL,some (.ref m))] av ⟨keep q,JK,_,_,rfl⟩;refine oT (λc1=>?_) λc1=>?_
  ·k_go;exact⟨XG,go (if_pos (.inl c1))⟩
  ·k_go;refine gi (λc2=>?_) λc2=>?_
   ·k_go;cases bf
    ·cases a
     ·k_go;exact⟨ml.cl,no (if_neg λh=>h.elim c1 λh=>h.2.elim nofun nofun)⟩
     ·k_go;refine NQ ?_;k_go;exact⟨XG,go (if_pos (.inr ⟨c2,.inr rfl⟩))⟩
    ·k_go;refine NQ ?_;k_go;exact⟨XG,go (if_pos (.inr ⟨c2,.inl rfl⟩))⟩
   ·k_go;exact⟨ml.cl,no (if_neg λh=>h.elim c1 λh=>c2 h.1)⟩
 ·obtain⟨ml,_,nv,mv,rfl⟩:=hI;k_go;exact hq _ (ml.fin h).1 (ml.fin h).2
end
section
variable{be:Nat}{σ:St}{Q:bw}{ms md m1 m2:Addr}{a1 a2:Bool}{bb:MV}{p1 p2:Int}
theorem Js{s e:Int}(aV:ai 1 be=true)(h:iK σ ms md m1 m2 a1 a2 bb p1 p2)
  (hq:∀av,iK av ms md m1 m2 a1 a2 bb (ig s e p1) (ig s e p2)→Off σ av [m1,m2]→Q .none av):D be (.fn 598) [.ref ms,.int s,.int e] σ Q:=by
 refine D.iG (wW aV ?_);dsimp only[lO];have zK:=h.ms;k_go;refine xG rfl zK h.md λc hc=>?_;k_go;refine ll (rows:=[1,2]) MV.int (λR ρ av=>ML σ av c ms md m1 m2 a1 a2 bb p1 p2 (λ_=>ig s e) R∧(R=[1,2]∨R=[2]∨R=[])∧∃nv mv,ρ=[(aj,some (.ref ms)),(au,some (.int s)),(aH,some (.int e)),(aG,nv),(aL,mv)])
  ⟨.start h hc,.inl rfl,none,none,rfl⟩ (λv vs ρ av K hI hK=>?_) λρ av hI=>?_
 ·obtain⟨ml,hR,nv,mv,rfl⟩:=hI;have hv:v=1∧vs=[2]∨v=2∧vs=[]:=by rcases hR with h|h|h<;>cases h<;>simp
  refine JM (ml.step hv) λm a p zh=>oe zh λhd hm fin=>?_;have JK:vs=[1,2]∨vs=[2]∨vs=[]:=hv.elim (λh=>.inr (.inl h.2)) λh=>.inr (.inr h.2);have zK:=ml.at_.ms;k_go;refine z8 ml.at_.md hd ?_;k_go;have XG:=λx=>(aC (o:=eB v a bb x) (bS ml.cl hm rfl)).trans ml.cl;have go:=λx(q:ig s e p=x)=>hK [(aj,some (.ref ms)),(au,some (.int s)),(aH,some (.int e)),(aG,some (.int v)),(aL,some (.ref m))] (upd av m (eB v a bb x)) ⟨fin _ (rwr q.symm (ak ..)) λ_=>aC,JK,_,_,rfl⟩;refine gi (λc1=>?_) λc1=>?_
  ·k_go;exact⟨XG _,go _ (if_pos c1)⟩
  ·k_go;refine gi (λc2=>?_) λc2=>?_
   ·k_go;exact⟨XG _,go _ ((if_neg c1).trans (if_pos c2))⟩
   ·k_go;have q:ig s e p=p:=(if_neg c1).trans (if_neg c2);exact⟨ml.cl,hK _ _ ⟨fin av (rwr q.symm hm) λ_ _=>rfl,JK,_,_,rfl⟩⟩
 ·obtain⟨ml,_,nv,mv,rfl⟩:=hI;k_go;exact hq _ (ml.fin h).1 (ml.fin h).2
end
section
variable{be:Nat}{σ:St}{Q:bw}{ms md m1 m2:Addr}{a1 a2:Bool}{bb:MV}{p1 p2:Int}
theorem Hg{s e n:Int}(aV:ai 1 be=true)(h:iK σ ms md m1 m2 a1 a2 bb p1 p2)
  (hq:∀av,iK av ms md m1 m2 a1 a2 bb (yW s e n p1) (yW s e n p2)→Off σ av [m1,m2]→Q .none av):D be (.fn 605) [.ref ms,.int s,.int e,.int n] σ Q:=by
 refine D.iG (uY aV ?_);dsimp only[kf];have zK:=h.ms;k_go;refine xG rfl zK h.md λc hc=>?_;k_go;refine ll (rows:=[1,2]) MV.int (λR ρ av=>ML σ av c ms md m1 m2 a1 a2 bb p1 p2 (λ_=>yW s e n) R∧(R=[1,2]∨R=[2]∨R=[])∧∃nv mv,ρ=[(aj,some (.ref ms)),(au,some (.int s)),(aH,some (.int e)),(bE,some (.int n)),(aG,nv),(aL,mv)])
  ⟨.start h hc,.inl rfl,none,none,rfl⟩ (λv vs ρ av K hI hK=>?_) λρ av hI=>?_
 ·obtain⟨ml,hR,nv,mv,rfl⟩:=hI;have hv:v=1∧vs=[2]∨v=2∧vs=[]:=by rcases hR with h|h|h<;>cases h<;>simp
  refine JM (ml.step hv) λm a p zh=>oe zh λhd hm fin=>?_;have JK:vs=[1,2]∨vs=[2]∨vs=[]:=hv.elim (λh=>.inr (.inl h.2)) λh=>.inr (.inr h.2);have zK:=ml.at_.ms;k_go;refine z8 ml.at_.md hd ?_;k_go;have XG:=λx=>(aC (o:=eB v a bb x) (bS ml.cl hm rfl)).trans ml.cl;have go:=λx(q:yW s e n p=x)=>hK [(aj,some (.ref ms)),(au,some (.int s)),(aH,some (.int e)),(bE,some (.int n)),(aG,some (.int v)),(aL,some (.ref m))] (upd av m (eB v a bb x)) ⟨fin _ (rwr q.symm (ak ..)) λ_=>aC,JK,_,_,rfl⟩;refine gi (λc1=>?_) λc1=>?_
  ·k_go;exact⟨XG _,go _ (if_pos c1)⟩
  ·k_go;refine gi (λc2=>?_) λc2=>?_
   ·k_go;exact⟨XG _,go _ ((if_neg c1).trans (if_pos c2))⟩
   ·k_go;have q:yW s e n p=p:=(if_neg c1).trans (if_neg c2);exact⟨ml.cl,hK _ _ ⟨fin av (rwr q.symm hm) λ_ _=>rfl,JK,_,_,rfl⟩⟩
 ·obtain⟨ml,_,nv,mv,rfl⟩:=hI;k_go;exact hq _ (ml.fin h).1 (ml.fin h).2
end
noncomputable def wl(m:Addr)(s e p:Int):List MV:=if s≤p∧p≤e then[.ref m]else[]
theorem a2v(m:Addr)(s e p:Int):(wl m s e p).length≤1:=by unfold wl;split<;>simp
section
variable{be:Nat}{σ:St}{Q:bw}{ms md m1 m2:Addr}{a1 a2:Bool}{bb:MV}{p1 p2:Int}
structure WI(σ av:St)(f c:Addr)(l:List MV):Prop where
 fl:av f=some (.list l)
 cl:av c=some (.list [.int 1,.int 2])
 le:Le σ av
theorem UG{s e:Int}(aV:ai 1 be=true)(h:iK σ ms md m1 m2 a1 a2 bb p1 p2)
  (hq:∀c,σ c=none→Q (.ref c) (upd σ c (.list (wl m1 s e p1++wl m2 s e p2)))):D be (.fn 584) [.ref ms,.int s,.int e] σ Q:=by
 refine D.fresh (x7 aV ?_) hq;dsimp only[mS];have zK:=h.ms;have hmd:=h.md;k_go;intro f hf;have l0:=(Le.refl σ).new (o:=.list []) hf;k_go;refine xG rfl (l0 _ _ zK) (l0 _ _ hmd) λc hc=>?_;k_go;have hcf:f≠c:=λq=>ar (ak σ f (.list [])) ((congrArg _ q).trans hc);refine ll (rows:=[1,2]) MV.int (λR ρ av=>∃l,WI σ av f c l∧(R=[1,2]∧l=[]∨R=[2]∧l=wl m1 s e p1∨R=[]∧l=wl m1 s e p1++wl m2 s e p2)∧∃nv,ρ=[(aj,some (.ref ms)),(au,some (.int s)),(aH,some (.int e)),(bG,some (.ref f)),(aG,nv)])
  ⟨[],⟨(aC hcf).trans (ak ..),ak ..,l0.new hc⟩,.inl ⟨rfl,rfl⟩,none,rfl⟩ (λv vs ρ av K hI hK=>?_) λρ av hI=>?_
 ·obtain⟨l,w,hR,nv,rfl⟩:=hI;have hv:∃m a p,Cd [(1,MV.ref m1),(2,.ref m2)] v=some (.ref m)∧σ m=some (eB v a bb p)∧l.length≤5∧(vs=[2]∧l++wl m s e p=wl m1 s e p1∨vs=[]∧l++wl m s e p=wl m1 s e p1++wl m2 s e p2):=by
   rcases hR with⟨q,r⟩|⟨q,r⟩|⟨q,r⟩<;>cases q<;>cases r
   ·exact⟨m1,a1,p1,rfl,h.m1,cy _,.inl ⟨rfl,rfl⟩⟩
   ·exact⟨m2,a2,p2,rfl,h.m2,ah (a2v ..) (by decide),.inr ⟨rfl,rfl⟩⟩
  refine hv.elim λm xP=>xP.elim λa JX=>JX.elim λp JW=>JW.elim λhd Vq=>Vq.elim λhm zq5=>zq5.elim λhl JK=>?_;have zK:=w.le _ _ zK;have hmd:=w.le _ _ hmd;have hm:=w.le _ _ hm;have Mf:=w.fl;have go:∀gm x,x=l++wl m s e p→WI σ gm f c x→gm c=some (.list [.int 1,.int 2])∧K [(aj,some (.ref ms)),(au,some (.int s)),(aH,some (.int e)),(bG,some (.ref f)),(aG,some (.int v))] gm:=
   λgm x q w=>⟨w.cl,hK _ _ ⟨x,w,.inr (rwl q JK),_,rfl⟩⟩
  k_go;refine z8 hmd hd ?_;k_go;refine gi (λc1=>?_) λc1=>?_
  ·k_go;refine gi (λc2=>?_) λc2=>?_
   ·k_go;refine z8 hmd hd ?_;k_go;refine dY Mf (bc hl (by decide)) ?_
    k_go;exact go _ _ (congrArg _ (if_pos ⟨c1,c2⟩).symm) ⟨ak ..,(aC hcf.symm).trans w.cl,w.le.side _ hf⟩
   ·k_go;exact go _ _ (by rw[wl,if_neg λh=>c2 h.2,ay]) w
  ·k_go;exact go _ _ (by rw[wl,if_neg λh=>c1 h.1,ay]) w
 ·obtain⟨l,w,hR,nv,rfl⟩:=hI;k_go;exact⟨f,rfl,hf,by rcases hR with⟨q,_⟩|⟨q,_⟩|⟨_,q⟩;cases q;cases q;exact rwr q w.fl,w.le⟩
end
inductive UR where
 |bd|tu (t:Int)|ins (a b:Int)|del (a:Int) (pc:Addr) (f:Bool) (K:List Int) (W:List PM)|mk (i:Bool) (m:Addr) (d:Int)|prop (s e k:Int) (el:Option Int)
noncomputable def UR.hd(r:UR):Str:=match r with
 |.bd=>fW
 |.tu _=>dN
 |.ins _ _=>ee
 |.del _ _ _ _ _=>gE
 |.mk _ _ _=>aL
 |.prop _ _ _ _=>j7
noncomputable def UR.tl(r:UR):List MV:=match r with
 |.bd=>[]
 |.tu t=>[.int t]
 |.ins a b=>[.int a,.int b]
 |.del a pc f _ _=>[.int a,.ref pc,.bool f]
 |.mk _ m d=>[.ref m,.int d]
 |.prop s e k el=>[.int s,.int e,.int k,GB el]
noncomputable abbrev UR.val(r:UR):MV:=.tup (.str r.hd::r.tl)
noncomputable def UR.lV(r:UR):Bool:=match r with
 |.bd=>true
 |_=>false
noncomputable def UR.OK(r:UR):Bool:=match r with
 |.ins _ _=>true
 |_=>false
noncomputable abbrev uA(rows:List UR):MO:=.list (rows.map UR.val)
noncomputable def Hj(rows:List UR):Bool:=match rows.getLast? with
 |none=>true
 |some r=>r.lV
noncomputable def a46(o:Option Int):MV:=match o with
 |none=>.none
 |some i=>.int i
noncomputable def ulF(rl:Addr)(nt:Option Int):List (Str×MV):=[(aX,.ref rl),(xy,.int 0),(tc,.bool true),(g8,.none),(kU,a46 nt)]
noncomputable abbrev VM(rl:Addr)(nt:Option Int):MO:=.inst 316 (ulF rl nt)
noncomputable def nb(nt:Option Int)(md:Bool)(tick:Int):Bool:=match md,nt with
 |true,_=>false
 |false,none=>true
 |false,some t=>!decide (tick=t)
noncomputable def iu(rows:List UR)(nt:Option Int)(md:Bool)(tick:Int):List UR:=bif nb nt md tick then rows++[.tu tick]else rows
noncomputable def pQ(nt:Option Int)(md:Bool)(tick:Int):Option Int:=bif nb nt md tick then some tick else nt
theorem si(rows:List UR)(nt:Option Int)(md:Bool)(tick:Int):(iu rows nt md tick).length≤rows.length+1:=by
 unfold iu;cases nb nt md tick
 ·exact iF _
 ·exact cR (aa ..)
theorem UR.R2(r:UR):r.tl.length≤4:=by cases r<;>exact bh rfl
structure qA(σ:St)(ul rl:Addr)(rows:List UR)(nt:Option Int):Prop where
 ul:σ ul=some (VM rl nt)
 rl:σ rl=some (uA rows)
theorem Off.tr{σ av gm:St}{F:List Addr}(h:Off σ av F)(k:Off av gm F):Off σ gm F:=λx hx=>(k x hx).trans (h x hx)
theorem Off.put{σ:St}{F:List Addr}{a:Addr}{o:MO}(h:a∈F):Off σ (upd σ a o) F:=λx hx=>aC λe=>hx (rwl e h)
section
variable{σ:St}{ul rl:Addr}{rows:List UR}{nt:Option Int}{r:UR}
theorem qA.ne(h:qA σ ul rl rows nt):ul≠rl:=bS h.ul h.rl rfl
theorem qA.app(h:qA σ ul rl rows nt)(r:UR):qA (upd σ rl (.list (rows.map UR.val++[r.val]))) ul rl (rows++[r]) nt:=⟨(aC h.ne).trans h.ul,(ak ..).trans (congrArg (λl=>some (MO.list l)) (aJ (f:=UR.val) (l₂:=[r])).symm)⟩
theorem EK{R:List UR}(h:σ rl=some (uA (R++[r]))):σ rl=some (.list (R.map UR.val++[r.val])):=h.trans (congrArg (λl=>some (MO.list l)) aJ)
theorem Si:rows=[]∨∃R r,rows=R++[r]:=(vg rows).imp id λh=>iA h λR r e=>⟨R,r,e.trans mV⟩
end
section
variable{c:Cl}{z:Bool}{ρ:Loc}{σ:St}{K:TK}
theorem X9{a b:Str}(h:sm a b=false):a≠b:=λe=>aq (h.symm.trans (rwr e (Ed a)))
theorem a2M{d:PyData}(h:(d.canLay0&&va d.depth 64)=true):U5 d:=have h:=ao.mp h;⟨h.1,bh h.2⟩
theorem Fg{ne:Bool}{a b:MV}{d:PyData}(x:Dat σ a d)(y:Dat σ b d)(h:U5 d):eqR ne σ a b true:=.data d d x y h h (a4E d h.1).symm
theorem Ll{ne:Bool}{x y:Str}{l:List MV}(h:sm x y=false):eqR ne σ (.tup (.str x::l)) (.tup [.str y]) false:=.head x y l [] rfl rfl (X9 h) (.inl rfl) rfl
theorem Um(ne:Bool)(r:UR):eqR ne σ r.val (.tup [.str fW]) r.lV:=by
 induction r with
 |bd=>exact Fg (d:=.tuple [.str fW]) (.tup (.cons (.str _) .nil)) (.tup (.cons (.str _) .nil)) (a2M (by decide+kernel))
 |tu=>exact Ll (x:=dN) rfl
 |ins=>exact Ll (x:=ee) rfl
 |del=>exact Ll (x:=gE) rfl
 |mk=>exact Ll (x:=aL) rfl
 |prop=>exact Ll (x:=j7) rfl
theorem Ul{r:UR}(q:K r.lV ρ σ):ka (E5 c z) .Eq r.val (.tup [.str fW]) K ρ σ:=⟨_,Um false r,q⟩
theorem Yk{r:UR}(q:K (!r.lV) ρ σ):ka (E5 c z) .NotEq r.val (.tup [.str fW]) K ρ σ:=⟨_,Um true r,q⟩
theorem WR{X:Ctx}{i:Int}(q:K true ρ σ):ka X .NotEq (.int i) .none K ρ σ:=q
end
section
variable{be:Nat}{σ:St}{Q:bw}{ul rl:Addr}{rows:List UR}{nt:Option Int}{md:Bool}{tick:Int}
theorem sR(aV:ai 0 be=true)(h:qA σ ul rl rows nt)(hq:Q (.bool (Hj rows)) σ):D be (.fn 252) [.ref ul] σ Q:=by
 refine oo aV ?_;dsimp only[gj];have Nt:=h.ul;have OR:=h.rl;k_go;induction Si (rows:=rows)with
 |inl e=>
  subst e;k_go;exact hq
 |inr e=>
  refine iA e λR r Gu=>?_;subst Gu;have e:Hj (R++[r])=r.lV:=by unfold Hj;rw[jz]
  rw[e]at hq;refine yI (p:=(((R++[r]).map UR.val).length:Int)=0) (λq=>cF R.length (by rw[ax,aa]at q;exact cO q)) ?_
  k_go;refine MX (EK OR) ?_;k_go;refine Ul ?_;k_go;exact hq
theorem F9(aV:ai 1 be=true)(h:qA σ ul rl rows nt)(hl:rows.length≤900000)
  (hq:∀av,qA av ul rl (bif Hj rows then rows else rows++[.bd]) nt→Off σ av [ul,rl]→Q .none av):D be (.fn 259) [.ref ul] σ Q:=by
 refine tL aV ?_;dsimp only[jL];have Nt:=h.ul;have OR:=h.rl;k_go;refine sR rfl h ?_;k_go;cases e:Hj rows
 ·k_go;refine dY OR (by rw[ax];exact bc hl (by decide)) ?_
  k_go;exact hq _ (by rw[e];exact h.app .bd) (.put (.tail _ (.head _)))
 ·k_go;exact hq _ (by rw[e];exact h) λ_ _=>rfl
theorem Be(aV:ai 0 be=true)(h:qA σ ul rl rows nt)(hl:rows.length≤900000)
  (hq:∀av,qA av ul rl (iu rows nt md tick) (pQ nt md tick)→Off σ av [ul,rl]→Q .none av):D be (.fn 273) [.ref ul,.bool md,.int tick] σ Q:=by
 refine rD aV ?_;dsimp only[iW];have Nt:=h.ul;have OR:=h.rl;have go:nb nt md tick=true→Q .none (upd (upd σ rl (.list (rows.map UR.val++[(UR.tu tick).val]))) ul (VM rl (some tick))):=λe=>by
  refine hq _ ⟨(ak ..).trans ?_,(aC h.ne.symm).trans ((h.app (.tu tick)).rl.trans ?_)⟩ ((Off.put (.tail _ (.head _))).tr (.put (.head _)))
  ·unfold pQ;rw[e];rfl
  ·unfold iu;rw[e];rfl
 have no:nb nt md tick=false→Q .none σ:=λe=>hq _ (by unfold iu pQ;rw[e];exact h) λ_ _=>rfl
 have h1:=(h.app (.tu tick)).ul;have hb:(rows.map UR.val).length<lim:=by rw[ax];exact bc hl (by decide)
 k_go;cases md
 ·k_go;induction nt with
  |none=>
   refine WR ?_;k_go;refine dY OR hb ?_;k_go;exact go rfl
  |some t=>
   refine Ym ?_;refine oT (λe=>?_) λe=>?_
   ·k_go;exact no (congrArg not (decide_eq_true e))
   ·k_go;refine dY OR hb ?_;k_go;exact go (congrArg not (decide_eq_false e))
 ·k_go;exact no rfl
end
theorem lp{α β:Type}{X:Ctx}{b t:N}{s:Src}{k:BK}{a:α}{σ:St}(V:β→MV)(P:α→Loc)(I:List β→α→St→Prop){rows:List β}(h:I rows a σ)
  (hs:∀v vs a σ(R:LK),I (v::vs) a σ→(∀Jy aO,I vs Jy aO→R (P Jy) aO)→UN (yJ X t (V v) (P a)) (blk X b (sq (stK s R) k)) σ) (he:∀a σ,I [] a σ→k .next (P a) σ):FW X b t s (rows.map V) (P a) σ k:=
 ll V (λR ρ σ=>∃a,ρ=P a∧I R a σ) ⟨a,rfl,h⟩ (λv vs _ σ R z hR=>z.elim λa z=>rwl z.1 (hs v vs a σ R z.2 λJy aO h=>hR _ aO ⟨Jy,rfl,h⟩)) λ_ σ z=>z.elim λa z=>rwl z.1 (he a σ z.2)
noncomputable def DE(rows:List UR):Bool:=match rows.getLast? with
 |none=>true
 |some r=>!r.OK
theorem Ai{R:List UR}{r:UR}:DE (R++[r])=!r.OK:=by unfold DE;rw[jz]
theorem S7{rows:List UR}{nt:Option Int}{md:Bool}{tick:Int}(h:DE rows=true):DE (iu rows nt md tick)=true:=by
 unfold iu;cases nb nt md tick
 ·exact h
 ·exact Ai
theorem a30{r:UR}(h:(!r.OK)=true):sm r.hd ee=false:=by
 induction r with
 |ins=>exact absurd h aq
 |bd=>exact(rfl:sm fW ee=false)
 |tu=>exact(rfl:sm dN ee=false)
 |del=>exact(rfl:sm gE ee=false)
 |mk=>exact(rfl:sm aL ee=false)
 |prop=>exact(rfl:sm j7 ee=false)
noncomputable abbrev mdV(e:Bool×Addr×Int):MV:=.tup [.ref e.2.1,.int e.2.2]
noncomputable def jn:List (Bool×Addr×Int)→List UR
 |[]=>[]
 |e::r=>bif decide (e.2.2=0)then jn r else .mk e.1 e.2.1 e.2.2::jn r
noncomputable def iz(el fr:Int)(r:UR):UR:=match r with
 |.tu t=>bif decide (t=el)then .tu fr else .tu t
 |r=>r
noncomputable def Yy(el:Int)(r:UR):Bool:=match r with
 |.tu t=>decide (t=el)
 |_=>false
section
variable{c:Cl}{z:Bool}{ρ:Loc}{σ:St}{K:TK}
theorem Fh{x y:Str}{l k:List MV}(h:sm x y=false):eqR false σ (.tup (.str x::l)) (.tup (.str y::k)) false:=.head x y l k rfl rfl (X9 h) (.inr rfl) rfl
theorem X'(i:Int):U5 (.tuple [.str dN,.int i]):=⟨by
 simp only[PyData.canLay0,PyData.canLayAll0,Ij];decide+kernel,by simp only[PyData.depth,PyData.depthAll];decide⟩
theorem Xp(el:Int)(r:UR):eqR false σ r.val (.tup [.str dN,.int el]) (Yy el r):=by
 induction r with
 |tu t=>exact .data (.tuple [.str dN,.int t]) (.tuple [.str dN,.int el]) (.tup (.cons (.str _) (.cons (.int _) .nil))) (.tup (.cons (.str _) (.cons (.int _) .nil))) (X' t) (X' el) (by
  simp only[PyData.eqv,PyData.eqvAll,beq_self_eq_true,Bool.true_and,Ij];rfl)
 |bd=>exact Fh (x:=fW) rfl
 |ins=>exact Fh (x:=ee) rfl
 |del=>exact Fh (x:=gE) rfl
 |mk=>exact Fh (x:=aL) rfl
 |prop=>exact Fh (x:=j7) rfl
theorem a1s{el:Int}{r:UR}(q:K (Yy el r) ρ σ):ka (E5 c z) .Eq r.val (.tup [.str dN,.int el]) K ρ σ:=⟨_,Xp el r,q⟩
end
section
variable{be:Nat}{σ:St}{Q:bw}{ul rl:Addr}{rows:List UR}{nt:Option Int}{md:Bool}{tick:Int}
theorem Bf{s:Int}(aV:ai 1 be=true)(h:qA σ ul rl rows nt)(hl:rows.length≤900000)
  (hq:∀av,qA av ul rl (iu rows nt md tick) (pQ nt md tick)→Off σ av [ul,rl]→Q .none av):D be (.fn 280) [.ref ul,.int s,.bool md,.int tick] σ Q:=by
 refine rE aV ?_;dsimp only[iX];have Nt:=h.ul;k_go;refine sR rfl h ?_;k_go;refine Be rfl h hl λdE h1 o1=>?_;have a08:=h1.ul;k_go;cases Hj rows
 ·k_go;exact hq dE h1 o1
 ·k_go;exact hq dE h1 o1
theorem He{s k pt:Int}(aV:ai 2 be=true)(h:qA σ ul rl rows nt)(hl:rows.length≤800000)(hk:k≠0)(hn:DE rows=true)
  (hq:∀av,qA av ul rl (iu rows nt md tick++[.ins s (s+k)]) (pQ nt md tick)→Off σ av [ul,rl]→Q .none av):D be (.fn 287) [.ref ul,.int s,.int k,.int pt,.bool md,.int tick] σ Q:=by
 refine qG aV ?_;dsimp only[iB];have Nt:=h.ul;k_go;refine H7 ?_;k_go;refine yI hk ?_;k_go;refine Bf rfl h (ah hl (by decide)) λdE h1 o1=>?_
 have hn1:=S7 (nt:=nt) (md:=md) (tick:=tick) hn;have a08:=h1.ul;have Qi:=h1.rl;have fin:=hq _ (h1.app (.ins s (s+k))) (o1.tr (.put (.tail _ (.head _))));have hb:((iu rows nt md tick).map UR.val).length<lim:=by rw[ax];exact bc (ah (si rows nt md tick) (bU hl)) (by decide)
 generalize iu rows nt md tick=R at hn1 Qi fin hb;k_go;induction Si (rows:=R)with
 |inl e=>
  subst e;refine px (by decide) ?_
  k_go;refine dY Qi hb ?_;k_go;exact fin
 |inr e=>
  refine iA e λR r Gu=>?_;subst Gu;refine pk (by rw[ax,aa];exact cB.mpr (gX _)) ?_
  k_go;refine MX (EK Qi) ?_;k_go;refine MW (ah r.R2 (by decide)) ?_
  refine Iv ?_;refine MC ?_;refine SE (a30 (Ai.symm.trans hn1)) ?_;k_go;refine dY Qi hb ?_;k_go;exact fin
theorem D3{s e k:Int}{el:Option Int}(aV:ai 1 be=true)(h:qA σ ul rl rows nt)(hl:rows.length≤700000)(hse:s<e)
  (hq:∀av,qA av ul rl (iu rows nt md tick++[.prop s e k el]) (pQ nt md tick)→Off σ av [ul,rl]→Q .none av):D be (.fn 301) [.ref ul,.int s,.int e,.int k,GB el,.bool md,.int tick] σ Q:=by
 refine pe aV ?_;dsimp only[gU];have Nt:=h.ul;k_go;refine pk hse ?_;k_go;refine Be rfl h (ah hl (by decide)) λdE h1 o1=>?_
 have hl1:=si rows nt md tick;have a08:=h1.ul;have Qi:=h1.rl;k_go;refine dY Qi (by rw[ax];exact bc (ah hl1 (bU hl)) (by decide)) ?_
 k_go;exact hq _ (h1.app (.prop s e k el)) (o1.tr (.put (.tail _ (.head _))))
theorem Hf{pc kc kr mq:Addr}{s pt:Int}{K:List Int}{ms:List (Bool×Addr×Int)}{W:List PM}(aV:ai 2 be=true)(h:qA σ ul rl rows nt)(hl:rows.length≤700000)(hml:ms.length≤10)
  (hp:σ pc=some (.inst 1123 [(ba,.ref kc),(iS,.ref kr)])) (hk:σ kc=some (dt K)) (hK:K.length≠0) (hm:σ mq=some (.list (ms.map mdV))) (np:pc∉[ul,rl]) (nk:kc∉[ul,rl]) (nm:mq∉[ul,rl])
  (hq:∀av,qA av ul rl (iu rows nt md tick++jn ms++[.del s pc (decide (pt=s+K.length)) K W]) (pQ nt md tick)→Off σ av [ul,rl]→Q .none av):
  D be (.fn 294) [.ref ul,.int s,.ref pc,.int pt,.ref mq,.bool md,.int tick] σ Q:=by
 refine qH aV ?_;dsimp only[iC];have Nt:=h.ul;have lK:(((K.map MV.int).length:Nat):Int)=K.length:=congrArg _ (ax ..);k_go;refine H7 ?_;k_go;refine yI (λq=>hK (cO (lK.symm.trans q))) ?_;k_go;refine Bf rfl h (ah hl (by decide)) λdE h1 o1=>?_
 have hm1:=(o1 _ nm).trans hm;k_go;refine lp mdV (a:=(none,none,iu rows nt md tick)) (λa=>[(aj,some (.ref ul)),(au,some (.int s)),(fK,some (.ref pc)),(x_point,some (.int pt)),(dy,some (.ref mq)),(bz,some (.bool md)),(fU,some (.int tick)),(aL,a.1),(eh,a.2.1)])
  (λR(a:Option MV×Option MV×List UR)av=>qA av ul rl a.2.2 (pQ nt md tick)∧a.2.2++jn R=iu rows nt md tick++jn ms∧a.2.2.length+R.length≤700011∧Off σ av [ul,rl])
  ⟨h1,rfl,ik (ah (si rows nt md tick) (bU hl)) hml,o1⟩ (λv vs a dp R0 hI hR=>?_) λa dp hI=>?_
 ·have a07:=hI.1.ul;have a1a:=hI.1.rl;k_go;refine oT (λc=>?_) λc=>?_
  ·k_go;exact⟨((hI.2.2.2 _ nm).trans hm),hR (_,_,a.2.2) _ ⟨hI.1,rwr hI.2.1 (congrArg (a.2.2++·) (show jn vs=jn (v::vs) by unfold jn;rw[decide_eq_true c];cases vs<;>rfl)),l5 hI.2.2.1,hI.2.2.2⟩⟩
  ·k_go;refine dY a1a (by rw[ax];exact bc (ah (bq ..) hI.2.2.1) (by decide)) ?_
   k_go;have o3:=hI.2.2.2.tr (Off.put (a:=rl) (o:=.list (a.2.2.map UR.val++[(UR.mk v.1 v.2.1 v.2.2).val])) (.tail _ (.head _)));refine⟨(o3 _ nm).trans hm,hR (_,_,a.2.2++[UR.mk v.1 v.2.1 v.2.2]) _ ⟨hI.1.app (UR.mk v.1 v.2.1 v.2.2),?_,?_,o3⟩⟩
   ·rw[←hI.2.1,af];exact congrArg (a.2.2++·) (show _=jn (v::vs) by rw[jn,decide_eq_false c];rfl)
   ·rw[aa,zN,jQ [UR.mk v.1 v.2.1 v.2.2].length];exact hI.2.2.1
 ·have e2:=hI.2.1;rw[jn,ay]at e2;have a07:=hI.1.ul;have a1a:=hI.1.rl;have vV:=(hI.2.2.2 _ np).trans hp;have ym:=(hI.2.2.2 _ nk).trans hk;k_go;refine dY a1a (by rw[ax];exact bc (ah (bq ..) hI.2.2.1) (by decide)) ?_
  k_go;rw[lK];exact hq _ (rwr e2 (hI.1.app (.del s pc (decide (pt=s+K.length)) K W))) (hI.2.2.2.tr (.put (.tail _ (.head _))))
theorem XM{el fr:Int}(aV:ai 0 be=true)(h:qA σ ul rl rows nt)(hl:rows.length≤700000)
  (hq:∀c,σ c=none→Q .none (upd (upd σ c (uA (rows.map (iz el fr)))) ul (VM c nt))):D be (.fn 306) [.ref ul,.int el,.int fr] σ Q:=by
 refine mM aV ?_;dsimp only[fL];have Nt:=h.ul;have OR:=h.rl;k_go;refine rR (s:=.list rl (rows.map UR.val)) UR.val (λr=>(iz el fr r).val) OR rows [] (λr _ T hT=>?_) (by rw[bQ,cQ];exact ah hl (by decide)) ?_
 ·k_go;refine a1s ?_;induction r with
  |tu t=>
   refine gi (λc=>?_) λc=>?_
   ·k_go;rw[show iz el fr (.tu t)=.tu fr by rw[iz,decide_eq_true c];rfl]at hT
    exact hT
   ·k_go;rw[show iz el fr (.tu t)=.tu t by rw[iz,decide_eq_false c];rfl]at hT
    exact hT
  |_=>exact hT
 ·intro c hc;have a07:=(aC (o:=.list (rows.map λr=>(iz el fr r).val)) λe:ul=c=>ar Nt ((congrArg σ e).trans hc)).trans Nt;k_go;have:=hq c hc;rw[uA,jI]at this;exact this
end
noncomputable def a5F(g ms ls:Addr)(pt zv tk fY dZ:Int)(un pr:MV):List (Str×MV):=[(aG,.int 1),(s9,.str x_a),(vl,.ref g),(dy,.ref ms),(x_point,.int pt),(vB,.int 1),(Dk,.int zv),(Mu,.none),(By,.bool true),(jk,.bool false),(kR,.int tk),(mX,.int fY),(d9,.int dZ),(ip,.ref ls),(jK,un),(bg,pr),(j8,.none),(Ey,.none),(Et,.none),(Mw,.none)]
noncomputable abbrev lH(g ms ls:Addr)(pt zv tk fY dZ:Int)(un pr:MV):MO:=.inst 714 (a5F g ms ls pt zv tk fY dZ un pr)
noncomputable def p9(lo hi x:Int):Int:=if hi<(if x<lo then lo else x)then hi else(if x<lo then lo else x)
theorem Fx{lo hi x:Int}(h0:lo≤x)(h1:x≤hi):p9 lo hi x=x:=by
 unfold p9;rw[if_neg (dc.mpr h0),if_neg (dc.mpr h1)]
noncomputable def sA(s e:Int)(a:Bool)(p:Int):Int:=if p<s∨e<p then 0 else bif a then e-p else s-p
theorem Ta{s e:Int}(h:s≤e):(if e<s then e else s)=s:=if_neg (dc.mpr h)
theorem Tj{s e:Int}(h:s≤e):(if s<e then e else s)=e:=if c:s<e then if_pos c else(if_neg c).trans (kL h (dc.mp c))
section
variable{be:Nat}{σ:St}{Q:bw}{b g ms ls:Addr}{pt zv tk fY dZ:Int}{un pr:MV}
theorem Bh{p s e:Int}{a:Bool}(aV:ai 0 be=true)(hq:Q (.int (sA s e a p)) σ):D be (.fn 327) [.int p,.int s,.int e,.bool a] σ Q:=by
 refine wR aV ?_;dsimp only[lJ];have go:∀i,sA s e a p=i→Q (.int i) σ:=λi h=>rwr h hq;k_go;refine oT (λc=>?_) λc=>?_
 ·k_go;exact go _ (if_pos (.inl c))
 ·k_go;refine oT (λc2=>?_) λc2=>?_
  ·k_go;exact go _ (if_pos (.inr c2))
  ·have n:¬(p<s∨e<p):=λh=>h.elim c c2;cases a
   ·k_go;exact go _ (if_neg n)
   ·k_go;exact go _ (if_neg n)
theorem Jo{cl:Addr}{P F S:List Int}(aV:ai 1 be=true)(h:σ b=some (lH g ms ls pt zv tk fY dZ un pr))(hg:g7 σ g cl P F S)(hq:Q (.int (P++S).length) σ):D be (.fn 662) [.ref b] σ Q:=by
 refine Cp aV ?_;dsimp only[rP];have hg0:=hg.g;k_go;exact NO rfl hg hq
theorem LW{cl:Addr}{P F S A M B:List Int}{i j:Int}(aV:ai 1 be=true)(h:σ b=some (lH g ms ls pt zv tk fY dZ un pr))(hg:g7 σ g cl P F S)(e:P++S=A++M++B)(hi:i-1=A.length)(hj:j-1=A.length+M.length)
  (hq:∀c,σ c=none→Q (.ref c) (upd σ c (dt M))):D be (.fn 676) [.ref b,.int i,.int j] σ Q:=by
 refine A9 aV ?_;dsimp only[qz];have hg0:=hg.g;k_go;exact Dd rfl hg e hi hj hq
theorem a1x{p:Int}(aV:ai 0 be=true)(h:σ b=some (lH g ms ls pt zv tk fY dZ un pr))(hq:Q (.int (p9 1 zv p)) (upd σ b (lH g ms ls (p9 1 zv p) zv tk fY dZ un pr))):D be (.fn 683) [.ref b,.int p] σ Q:=by
 refine Cq aV ?_;dsimp only[rQ];k_go;exact hq
theorem m4(aV:ai 0 be=true)(h:σ b=some (lH g ms ls pt zv tk fY dZ un pr))(hq:Q (.bool (decide (dZ<tk))) σ):D be (.fn 697) [.ref b] σ Q:=by
 refine sP aV ?_;dsimp only[jw];k_go;exact hq
theorem w3(aV:ai 1 be=true)(h:σ b=some (lH g ms ls pt zv tk fY dZ un pr))(hq:Q .none (upd σ b (lH g ms ls pt zv tk fY tk un pr))):D be (.fn 704) [.ref b,.bool false] σ Q:=by
 refine rI aV ?_;dsimp only[i9];k_go;exact hq
theorem Pc{t:Bool}(aV:ai 0 be=true)(h:σ b=some (lH g ms ls pt zv tk fY dZ un pr))(hq:∀AI,Q .none (upd σ b (lH g ms ls pt zv (tk+1) AI dZ un pr))):D be (.fn 711) [.ref b,.bool t] σ Q:=by
 refine A8 aV ?_;dsimp only[qy];k_go;cases t
 ·k_go;exact hq fY
 ·k_go;rw[cZ];exact hq (tk+1)
theorem fy(aV:ai 1 be=true)(h:σ b=some (lH g ms ls pt zv tk fY dZ un pr))(hq:Q .none σ):D be (.fn 48) [.ref b] σ Q:=by
 refine zo aV ?_;dsimp only[oz];k_go;exact hq
theorem mA(aV:ai 1 be=true)(h:σ b=some (lH g ms ls pt zv tk fY dZ un pr))(hq:Q .none σ):D be (.fn 1073) [.ref b] σ Q:=by
 refine rC aV ?_;dsimp only[iV];k_go;exact hq
theorem w8{cl:Addr}{P F S:List Int}{k:Int}(aV:ai 2 be=true)(h:σ b=some (lH g ms ls pt zv tk fY dZ un pr))(hg:g7 σ g cl P F S)(hk:k≤100000)(hq:Q .none σ):D be (.fn 55) [.ref b,.int k] σ Q:=by
 refine FG aV ?_;dsimp only[xh];k_go;refine Jo rfl h hg ?_;have:=hg.bd;k_go;refine px ?_ ?_
 ·rw[aa];lia
 k_go;exact hq
theorem mN{s e:Int}(aV:ai 1 be=true)(h:σ b=some (lH g ms ls pt zv tk fY dZ un pr))(h0:1≤s)(h1:s≤e)(h2:e≤zv)(hq:Q (.tup [.int s,.int e]) σ):D be (.fn 62) [.ref b,.int s,.int e] σ Q:=by
 refine Ji aV ?_;dsimp only[Cu];k_go;rw[Ta h1,Tj h1];k_go;refine yI (dc.mpr h0) ?_;k_go;refine yI (dc.mpr h2) ?_;k_go;exact hq
theorem Bg{s e:Int}(aV:ai 1 be=true)(h:σ b=some (lH g ms ls pt zv tk fY dZ un pr))(h0:1≤s)(h1:s≤e)(h2:e≤zv)(hq:Q (.tup [.int s,.int e]) σ):D be (.fn 1059) [.ref b,.int s,.int e] σ Q:=by
 refine DW aV ?_;dsimp only[uf];k_go;rw[Ta h1,Tj h1];k_go;refine yI (dc.mpr h0) ?_;k_go;refine yI (dc.mpr h2) ?_;k_go;exact hq
theorem FX{s e:Int}(aV:ai 1 be=true)(h:σ b=some (lH g ms ls pt zv tk fY dZ un pr))(h0:1≤s)(h2:e≤zv)(hq:Q .none σ):D be (.fn 334) [.ref b,.int s,.int e] σ Q:=by
 refine AR aV ?_;dsimp only[qm];k_go;refine yI (dc.mpr h0) ?_;k_go;refine yI (dc.mpr h2) ?_;k_go;exact hq
theorem Ba{s e:Int}(aV:ai 0 be=true)(h:σ b=some (lH g ms ls pt zv tk fY dZ un pr))(hl:σ ls=some (.list []))(hq:Q .none σ):D be (.fn 69) [.ref b,.int s,.int e] σ Q:=by
 refine D.pure (DN aV ?_) hq;dsimp only[tX];k_go;refine jm hl λc hc=>?_;k_go;refine xr ?_;k_go;exact⟨rfl,(Le.refl _).new hc⟩
theorem yE{s e k:Int}(aV:ai 1 be=true)(h:σ b=some (lH g ms ls pt zv tk fY dZ un pr))(hl:σ ls=some (.list []))(hq:∀AI,Q .none (upd σ b (lH g ms ls pt zv (tk+1) AI dZ un pr))):D be (.fn 76) [.ref b,.int s,.int e,.int k] σ Q:=by
 refine D.less (Q':=λm av=>m=.none∧∃AI,Le (upd σ b (lH g ms ls pt zv (tk+1) AI dZ un pr)) av) (Cj aV ?_) λm av z=>z.2.elim λAI l=>⟨_,l,rwl z.1 (hq AI)⟩;dsimp only[rL];k_go;refine Pc rfl h λAI=>?_;k_go;refine jm ((aC (o:=lH g ms ls pt zv (tk+1) AI dZ un pr) (bS hl h rfl)).trans hl) λc hc=>?_;k_go;refine xr ?_;k_go;exact⟨rfl,AI,(Le.refl _).new hc⟩
end
structure BA where
 b:Addr
 g:Addr
 cl:Addr
 ms:Addr
 md:Addr
 m1:Addr
 m2:Addr
 ls:Addr
 rc:Addr
 ul:Addr
 tp:Addr
 tr:Addr
 a1:Bool
structure AV where
 K:List Int
 V:List PM
 p1:Int
 p2:Int
 tk:Int
 dZ:Int
 pt:Int
 rows:List UR
 nt:Option Int
noncomputable def AV.uz(x:AV)(K:List Int)(pt tk dZ:Int):AV:={x with K:=K,pt:=pt,tk:=tk,dZ:=dZ}
noncomputable def AV.setM(x:AV)(p1 p2:Int):AV:={x with p1:=p1,p2:=p2}
noncomputable def AV.xQ(x:AV)(rows:List UR)(nt:Option Int):AV:={x with rows:=rows,nt:=nt}
noncomputable def AV.MS(x:AV)(V:List PM):AV:={x with V:=V}
structure BI where
 rl:Addr
 P:List Int
 F:List Int
 S:List Int
 L:eE
 fY:Int
inductive XW (ι:St) (pc:Addr) (K:List Int) (W:List PM):Prop
 |mk (kc kr:Addr) (runs:List Row) (at_:ι pc=some (.inst 1123 [(ba,.ref kc),(iS,.ref kr)])) (kc:ι kc=some (dt K)) (kr:ι kr=some (.list (runs.map gR)))
  (ok:∀r∈runs,0≤r.1∧r.1≤r.2.1∧r.2.1≤(K.length:Int)∧xJ ι r.2.2) (v:ng ι (aM K.length (none,none)) runs=W) (n:runs.length≤20000)
noncomputable def jf(ι:St)(A:BA)(r:UR):Prop:=match r with
 |.del _ pc _ K W=>XW ι pc K W
 |.mk i m _=>m=bif i then A.m2 else A.m1
 |_=>True
theorem mK{ι bx:St}(k:Le ι bx)(runs:List Row)(V:List PM)(h:∀r∈runs,xJ ι r.2.2):ng bx V runs=ng ι V runs:=by
 induction runs generalizing V with
 |nil=>rfl
 |cons r rs ih=>
  show ng bx (fX (λ_=>vw bx r.2.2) V r.1 r.2.1) rs=ng ι (fX (λ_=>vw ι r.2.2) V r.1 r.2.1) rs;rw[ti (h r (.head _)) k];exact ih _ λx hx=>h x (.tail _ hx)
theorem jf.mono{ι bx:St}{A:BA}(k:Le ι bx){r:UR}(h:jf ι A r):jf bx A r:=by
 induction r with
 |del=>induction h with|mk kc kr runs a b c d e n=>exact .mk kc kr runs (k _ _ a) (k _ _ b) (k _ _ c) (λr hr=>have h:=d r hr;⟨h.1,h.2.1,h.2.2.1,h.2.2.2.mono k⟩) ((mK k _ _ λr hr=>(d r hr).2.2.2).trans e) n
 |_=>exact h
noncomputable abbrev mf(A:BA)(rl:Addr):List Addr:=[A.b,A.g,A.cl,A.m1,A.m2,A.ul,rl]
noncomputable abbrev BA.bO(A:BA)(n:Nat)(pt tk fY dZ:Int):MO:=lH A.g A.ms A.ls pt (n+1) tk fY dZ (.ref A.rc) (.ref A.tp)
structure Im(A:BA)(ι:St):Prop where
 ms:ι A.ms=some (.inst 608 [(aX,.ref A.md)])
 md:ι A.md=some (.dict [(1,.ref A.m1),(2,.ref A.m2)])
 ls:ι A.ls=some (.list [])
 rc:ι A.rc=some (.inst 1163 [(c8,.ref A.ul)])
theorem Im.mono{A:BA}{ι bx:St}(h:Im A ι)(k:Le ι bx):Im A bx:=⟨k _ _ h.ms,k _ _ h.md,k _ _ h.ls,k _ _ h.rc⟩
structure Buf(A:BA)(ι φ σ:St)(x:AV)(i:BI):Prop where
 b:σ A.b=some (A.bO x.K.length x.pt x.tk i.fY x.dZ)
 gap:g7 σ A.g A.cl i.P i.F i.S
 m1:σ A.m1=some (eB 1 A.a1 (.ref A.b) x.p1)
 m2:σ A.m2=some (eB 2 true (.ref A.b) x.p2)
 ul:qA σ A.ul i.rl x.rows x.nt
 pr:PI ι σ A.tp A.tr i.L
 im:Im A ι
 K:i.P++i.S=x.K
 V:Vw ι i.L=x.V
 rr:∀r∈x.rows,jf ι A r
 ne:A.cl≠i.rl
 no:∀y∈mf A i.rl,ι y=none∧φ y=none
 fr:Le φ σ
 fi:∀y,φ y≠none→ι y=none∧y∉foot A.tr i.L
noncomputable def B(A:BA)(ι φ σ:St)(x:AV):Prop:=∃i,Buf A ι φ σ x i
theorem Q6{x a b:Addr}(h:x≠a)(k:x≠b):x∉[a,b]:=λm=>(aE.mp m).elim h λm=>k (aQ.mp m)
theorem WG{x a b c:Addr}(h:x≠a)(k:x∉[b,c]):x∉[a,b,c]:=λm=>(aE.mp m).elim h k
section
variable{A:BA}{ι φ σ bx xO av:St}{x:AV}{i:BI}
theorem Buf.Q8(h:Buf A ι φ σ x i):iK σ A.ms A.md A.m1 A.m2 A.a1 true (.ref A.b) x.p1 x.p2:=⟨h.pr.sub _ _ h.im.ms,h.pr.sub _ _ h.im.md,h.m1,h.m2⟩
theorem Q5{α:Type}{o:Option α}(h:∀x,o=some x→False):o=none:=gS (p:=True) λx e=>(h x e).elim
theorem TL.kind{tr:Addr}{L:eE}(h:TL σ tr L){y:Addr}(hy:y∈foot tr L){o:MO}(e:σ y=some o):(a9 (kd o) 735||a9 (kd o) 756)=true:=
 (aE.mp hy).elim (λq=>by
  refine iA h λix t zh=>rU zh λhA _=>?_;refine Cc hA.ctx.tr λ_ w=>?_;rw[aA (e.symm.trans (rwl q w))];rfl) λhx=>by
  obtain⟨_,m,p,l,r,q,w⟩:=h.each y hx;rw[aA (e.symm.trans w)];rfl
theorem Buf.live(h:Buf A ι φ σ x i):∀y∈mf A i.rl,∃o,σ y=some o∧(a9 (kd o) 735||a9 (kd o) 756)=false:=λy m=>
 (aE.mp m).elim (λe=>rwl e (⟨_,h.b,rfl⟩)) λm=>(aE.mp m).elim (λe=>rwl e (⟨_,h.gap.g,rfl⟩)) λm=>(aE.mp m).elim (λe=>rwl e (⟨_,h.gap.cl,rfl⟩)) λm=>
 (aE.mp m).elim (λe=>rwl e (⟨_,h.m1,rfl⟩)) λm=>(aE.mp m).elim (λe=>rwl e (⟨_,h.m2,rfl⟩)) λm=>(aE.mp m).elim (λe=>rwl e (⟨_,h.ul.ul,rfl⟩)) λm=>
 rwl (aQ.mp m) (⟨_,h.ul.rl,rfl⟩)
theorem Buf.nf(h:Buf A ι φ σ x i){y:Addr}(m:y∈mf A i.rl):y∉foot A.tr i.L:=λhx=>(h.live y m).elim λ_ z=>aq (z.2.symm.trans (h.pr.tl.kind hx z.1))
theorem Buf.lv(h:Buf A ι φ σ x i){y:Addr}(m:y∈mf A i.rl):σ y≠none:=(h.live y m).elim λ_ z=>aZ z.1
theorem Buf.off(h:Buf A ι φ σ x i){C:List Addr}(o:Off σ av C)(hC:∀y∈C,y∈mf A i.rl):Le ι av∧Le φ av∧PI ι av A.tp A.tr i.L:=
 have l:Le ι av:=λa mo e=>(o a λm=>ar e (h.no a (hC a m)).1).trans (h.pr.sub a mo e)
 ⟨l,λa mo e=>(o a λm=>ar e (h.no a (hC a m)).2).trans (h.fr a mo e),l,h.pr.tp,h.pr.tl.frame λy hy=>o y λm=>h.nf (hC y m) hy,h.pr.pos,h.pr.Rg,h.pr.pl⟩
theorem Buf.uz(h:Buf A ι φ σ x i){K P F S:List Int}{pt tk dZ fY:Int}(o:Off σ av [A.b,A.g,A.cl])(hb:av A.b=some (A.bO K.length pt tk fY dZ))(hg:g7 av A.g A.cl P F S)(hK:P++S=K):
  B A ι φ av (x.uz K pt tk dZ):=
 have z:=h.off o λy m=>(aE.mp m).elim (λe=>rwl e (.head _)) λm=>(aE.mp m).elim (λe=>rwl e (.tail _ (.head _))) λm=>rwl (aQ.mp m) (.tail _ (.tail _ (.head _)));have k:∀{y w},σ y=some w→(a9 (kd w) 716||a9 (kd w) 465)=false→y≠A.cl→av y=some w:=λ{y w}e n c=>(o y (WG (λq=>aq (n.symm.trans (by rw[aA (e.symm.trans (rwl q h.b))];rfl))) (Q6 (λq=>aq (n.symm.trans (by rw[aA (e.symm.trans (rwl q h.gap.g))];rfl))) c))).trans e
 ⟨{i with P:=P,F:=F,S:=S,fY:=fY},hb,hg,k h.m1 rfl (bS h.m1 h.gap.cl rfl),k h.m2 rfl (bS h.m2 h.gap.cl rfl),⟨k h.ul.ul rfl (bS h.ul.ul h.gap.cl rfl),k h.ul.rl rfl h.ne.symm⟩,z.2.2,h.im,hK,h.V,h.rr,h.ne,h.no,z.2.1,h.fi⟩
theorem Buf.setB(h:Buf A ι φ σ x i)(pt tk dZ fY:Int):B A ι φ (upd σ A.b (A.bO x.K.length pt tk fY dZ)) (x.uz x.K pt tk dZ):=
 h.uz (.put (.head _)) (ak ..) (h.gap.frame (aC (bS h.gap.g h.b rfl)) (aC (bS h.gap.cl h.b rfl))) h.K
theorem Buf.setM(h:Buf A ι φ σ x i){p1 p2:Int}(o:Off σ av [A.m1,A.m2])(h1:av A.m1=some (eB 1 A.a1 (.ref A.b) p1))(h2:av A.m2=some (eB 2 true (.ref A.b) p2)):B A ι φ av (x.setM p1 p2):=
 have z:=h.off o λy m=>(aE.mp m).elim (λe=>rwl e (.tail _ (.tail _ (.tail _ (.head _))))) λm=>rwl (aQ.mp m) (.tail _ (.tail _ (.tail _ (.tail _ (.head _)))));have k:∀{y w},σ y=some w→a9 (kd w) 542=false→av y=some w:=λ{y w}e n=>(o y (Q6 (bS e h.m1 n) (bS e h.m2 n))).trans e
 ⟨i,k h.b rfl,⟨k h.gap.g rfl,k h.gap.cl rfl,h.gap.bd⟩,h1,h2,⟨k h.ul.ul rfl,k h.ul.rl rfl⟩,z.2.2,h.im,h.K,h.V,h.rr,h.ne,h.no,z.2.1,h.fi⟩
theorem Buf.xQ(h:Buf A ι φ σ x i){rows:List UR}{nt:Option Int}(o:Off σ av [A.ul,i.rl])(hu:qA av A.ul i.rl rows nt)(hr:∀r∈rows,jf ι A r):B A ι φ av (x.xQ rows nt):=
 have z:=h.off o λy m=>(aE.mp m).elim (λe=>rwl e (.tail _ (.tail _ (.tail _ (.tail _ (.tail _ (.head _))))))) λm=>rwr (aQ.mp m) (.tail _ (.tail _ (.tail _ (.tail _ (.tail _ (.tail _ (.head _)))))));have k:∀{y w},σ y=some w→a9 (kd w) 318=false→y≠i.rl→av y=some w:=λ{y w}e n c=>(o y (Q6 (bS e h.ul.ul n) c)).trans e
 ⟨i,k h.b rfl (bS h.b h.ul.rl rfl),⟨k h.gap.g rfl (bS h.gap.g h.ul.rl rfl),k h.gap.cl rfl h.ne,h.gap.bd⟩,k h.m1 rfl (bS h.m1 h.ul.rl rfl),k h.m2 rfl (bS h.m2 h.ul.rl rfl),hu,z.2.2,h.im,h.K,h.V,hr,h.ne,h.no,z.2.1,h.fi⟩
theorem Buf.ZQ(h:Buf A ι φ σ x i){L:eE}(hp:PI bx av A.tp A.tr L)(ev:Ev ι σ (foot A.tr i.L) bx av (foot A.tr L)):B A bx φ av (x.MS (Vw bx L)):=
 have k:∀{y w},y∈mf A i.rl→σ y=some w→av y=some w:=λm e=>ev.kp.keep (h.nf m) e;have n:∀{y},ι y=none→y∉foot A.tr i.L→σ y≠none→bx y=none:=λ{y}a b c=>Q5 λ_ e=>(ev.new y (aZ e)).elim (λq=>q a) λq=>q.elim (λm=>b m) c
 ⟨{i with L:=L},k (.head _) h.b,⟨k (.tail _ (.head _)) h.gap.g,k (.tail _ (.tail _ (.head _))) h.gap.cl,h.gap.bd⟩,k (.tail _ (.tail _ (.tail _ (.head _)))) h.m1,k (.tail _ (.tail _ (.tail _ (.tail _ (.head _))))) h.m2,
  ⟨k (.tail _ (.tail _ (.tail _ (.tail _ (.tail _ (.head _)))))) h.ul.ul,k (.tail _ (.tail _ (.tail _ (.tail _ (.tail _ (.tail _ (.head _))))))) h.ul.rl⟩,hp,h.im.mono ev.le,h.K,rfl,λr m=>(h.rr r m).mono ev.le,h.ne,
  λy m=>⟨n (h.no y m).1 (h.nf m) (h.lv m),(h.no y m).2⟩,λa mo e=>ev.kp.keep (h.fi a (aZ e)).2 (h.fr a mo e),
  λy q=>have z:=h.fi y q;have s:σ y≠none:=λe=>q (h.fr.none e);⟨n z.1 z.2 s,λm=>(ev.kp.new y m).elim z.2 s⟩⟩
theorem Buf.grow(h:Buf A ι φ σ x i)(l:∀y o,σ y=some o→φ y=none→av y=some o)(k:Le ι bx)(k':Le bx av)(f:Le xO av)(n1:∀y,bx y≠none→ι y≠none∨φ y≠none∨σ y=none)(n2:∀y,xO y≠none→(φ y≠none∨σ y=none)∧bx y=none):Buf A bx xO av x i:=
 have m:∀{y w},y∈mf A i.rl→σ y=some w→av y=some w:=λm e=>l _ _ e (h.no _ m).2;have ff:∀y∈foot A.tr i.L,φ y=none:=λy m=>Q5 λ_ e=>(h.fi y (aZ e)).2 m;have fs:∀y∈foot A.tr i.L,σ y≠none:=h.pr.tl.live;have fn:∀y,ι y=none→φ y=none→σ y≠none→bx y=none:=λy a b c=>Q5 λ_ e=>(n1 y (aZ e)).elim (λq=>q a) λq=>q.elim (λq=>q b) c
 ⟨m (.head _) h.b,⟨m (.tail _ (.head _)) h.gap.g,m (.tail _ (.tail _ (.head _))) h.gap.cl,h.gap.bd⟩,m (.tail _ (.tail _ (.tail _ (.head _)))) h.m1,m (.tail _ (.tail _ (.tail _ (.tail _ (.head _))))) h.m2,
  ⟨m (.tail _ (.tail _ (.tail _ (.tail _ (.tail _ (.head _)))))) h.ul.ul,m (.tail _ (.tail _ (.tail _ (.tail _ (.tail _ (.tail _ (.head _))))))) h.ul.rl⟩,
  ⟨k',k _ _ h.pr.tp,h.pr.tl.frame λy m=>(gQ (fs y m)).elim λo e=>(l y o e (ff y m)).trans e.symm,h.pr.pos,λy m=>fn y (h.pr.Rg y m) (ff y m) (fs y m),λe m=>(h.pr.pl e m).mono k⟩,h.im.mono k,h.K,(h.pr.vw k).trans h.V,λr m=>(h.rr r m).mono k,h.ne,
  λy m=>⟨fn y (h.no y m).1 (h.no y m).2 (h.lv m),Q5 λ_ e=>(n2 y (aZ e)).1.elim (λq=>q (h.no y m).2) (h.lv m)⟩,f,
  λy q=>⟨(n2 y q).2,λm=>(n2 y q).1.elim (λz=>z (ff y m)) (fs y m)⟩⟩
end
section
variable{A:BA}{ι φ σ bx xO av:St}{x:AV}{c:Addr}{o:MO}
theorem mJ{σ:St}{a y:Addr}{o:MO}(h:upd σ a o y≠none):y=a∨σ y≠none:=(rT (y=a)).imp id λn e=>h ((aC n).trans e)
theorem B.sub(h:B A ι φ σ x):Le ι σ:=h.elim λ_ h=>h.pr.sub
theorem B.fr(h:B A ι φ σ x):Le φ σ:=h.elim λ_ h=>h.fr
theorem B.le(h:B A ι φ σ x)(l:Le σ av):B A ι φ av x:=h.imp λ_ h=>h.grow (λy o e _=>l y o e) (.refl _) (h.pr.sub.trans l) (h.fr.trans l) (λ_=>.inl) λy q=>⟨.inl q,(h.fi y q).1⟩
theorem B.drop(h:B A ι φ σ x)(l:Le xO φ):B A ι xO σ x:=h.imp λ_ h=>h.grow (λ_ _ e _=>e) (.refl _) h.pr.sub (l.trans h.fr) (λ_=>.inl) λy q=>have q:φ y≠none:=λe=>q (l.none e);⟨.inl q,(h.fi y q).1⟩
theorem B.W6(h:B A ι φ σ x)(hc:σ c=none):B A (upd ι c o) φ (upd σ c o) x:=h.imp λ_ h=>
 h.grow (λy _ e _=>(Le.refl σ).new hc y _ e) ((Le.refl ι).new (h.pr.sub.none hc)) (h.pr.sub.upd c o) (h.fr.new hc) (λ_ q=>(mJ q).elim (λe=>.inr (.inr (rwl e hc))) .inl)
  λy q=>⟨.inl q,(aC λ(e:y=c)=>q ((congrArg φ e).trans (h.fr.none hc))).trans (h.fi y q).1⟩
theorem B.own(h:B A ι φ σ x)(hc:σ c=none):B A ι (upd φ c o) (upd σ c o) x:=h.imp λ_ h=>
 h.grow (λy _ e _=>(Le.refl σ).new hc y _ e) (.refl _) (h.pr.sub.new hc) (h.fr.upd c o) (λ_=>.inl)
  λy q=>(mJ q).elim (λe=>rwl e (⟨.inr hc,h.pr.sub.none hc⟩)) λq=>⟨.inl q,(h.fi y q).1⟩
theorem B.put(h:B A ι φ σ x)(hc:φ c≠none):B A ι (upd φ c o) (upd σ c o) x:=h.imp λ_ h=>
 h.grow (λy _ e n=>(aC λ(q:y=c)=>hc (rwr q n)).trans e) (.refl _) (h.pr.sub.side o (h.fi c hc).1) (h.fr.upd c o) (λ_=>.inl)
  λy q=>have q:φ y≠none:=(mJ q).elim (λe=>rwl e hc) id;⟨.inl q,(h.fi y q).1⟩
theorem B.fix(h:B A ι φ σ x)(hc:φ c=some o)(l:Le xO φ)(n:xO c=none):B A (upd ι c o) xO σ x:=h.imp λ_ h=>
 h.grow (λ_ _ e _=>e) ((Le.refl ι).new ((h.fi c (aZ hc)).1)) (h.pr.sub.put (h.fr _ _ hc)) (l.trans h.fr) (λ_ q=>(mJ q).elim (λe=>.inr (.inl (rwl e (aZ hc)))) .inl)
  λy q=>have z:φ y≠none:=λe=>q (l.none e);⟨.inl z,(aC λ(e:y=c)=>q ((congrArg xO e).trans n)).trans (h.fi y z).1⟩
end
noncomputable def AV.note(x:AV)(rs:List UR):AV:=x.xQ (iu x.rows x.nt (decide (x.dZ<x.tk)) x.dZ++rs) (pQ x.nt (decide (x.dZ<x.tk)) x.dZ)
noncomputable def sl{α:Type}(l:List α)(i j:Int):List α:=(l.take j.toNat).drop i.toNat
theorem jW{α:Type}(l:List α){i j:Int}(h1:i≤j):l=l.take i.toNat++sl l i j++l.drop j.toNat:=by
 have e:l.take i.toNat=(l.take j.toNat).take i.toNat:=by rw[Vj,eS (Int.toNat_le_toNat h1)]
 unfold sl;rw[e,cw,cw]
theorem fE{α:Type}{l:List α}{i:Int}(h0:0≤i)(h2:i≤l.length):((l.take i.toNat).length:Int)=i:=by
 rw[eX,eS (l7.mpr h2),bL h0]
theorem tz{α:Type}{l:List α}{i j:Int}(h0:0≤i)(h1:i≤j)(h2:j≤l.length):((sl l i j).length:Int)=j-i:=by
 have h:=fE (aS h0 h1) h2;unfold sl;rw[d6,Za (l7.mpr (rwr h.symm h1)),h,bL h0]
theorem BE{ι:St}{A:BA}{rows rs:List UR}{nt:Option Int}{md:Bool}{tick:Int}(h:∀r∈rows,jf ι A r)(k:∀r∈rs,jf ι A r):∀r∈iu rows nt md tick++rs,jf ι A r:=λr m=>
 (aU.mp m).elim (λm=>by
  unfold iu at m;cases e:nb nt md tick
  ·rw[e]at m;exact h r m
  ·rw[e]at m;exact(aU.mp m).elim (h r) λm=>rwl (aQ.mp m) trivial) (k r)
theorem BL{P:UR→Prop}{u:UR}(h:P u):∀r∈[u],P r:=λ_ m=>rwl (aQ.mp m) h
section
variable{be:Nat}{σ ι φ:St}{Q:bw}{A:BA}{x:AV}
theorem Jn{a k:Int}(aV:ai 3 be=true)(h:B A ι φ σ x)(hl:x.rows.length≤700000)(hk:k≠0)(hn:DE x.rows=true)
  (hq:∀av,B A ι φ av (x.note [.ins a (a+k)])→Q .none av):D be (.fn 1148) [.ref A.rc,.ref A.b,.int a,.int k] σ Q:=by
 refine h.elim λi h=>qI aV ?_;dsimp only[iD];have Qj:=h.pr.sub _ _ h.im.rc;have hb:=h.b;have Nt:=h.ul.ul;k_go;refine m4 rfl hb ?_;k_go;refine He rfl h.ul (ah hl (by decide)) hk hn λav u o=>?_
 k_go;exact hq av (h.xQ o u (BE h.rr (BL trivial)))
theorem qf{a e k:Int}{el:Option Int}(aV:ai 2 be=true)(h:B A ι φ σ x)(hl:x.rows.length≤700000)(hae:a<e)
  (hq:∀av,B A ι φ av (x.note [.prop a e k el])→Q .none av):D be (.fn 1160) [.ref A.rc,.ref A.b,.int a,.int e,.int k,GB el] σ Q:=by
 refine h.elim λi h=>lW aV ?_;dsimp only[fA];have Qj:=h.pr.sub _ _ h.im.rc;have hb:=h.b;have Nt:=h.ul.ul;k_go;refine m4 rfl hb ?_;k_go;refine D3 rfl h.ul hl hae λav u o=>?_;k_go;exact hq av (h.xQ o u (BE h.rr (BL trivial)))
theorem Jx{a kc kr:Addr}(aV:ai 0 be=true)(hq:Q .none (upd σ a (.inst 1123 [(ba,.ref kc),(iS,.ref kr)]))):
  D be (.fn 1120) [.ref a,.ref kc,.ref kr] (upd σ a (.inst 1123 [])) Q:=by
 refine x5 aV ?_;dsimp only[mR];k_go;rw[cZ,cZ];exact hq
end
noncomputable def Qt(ι:St)(a:Int)(r:Row):Option Row:=bif decide (vw ι r.2.2=(none,none))then none else some (r.1-a+1,r.2.1-a+1,r.2.2)
noncomputable abbrev rh(ι:St)(a:Int)(rows:List Row):List Row:=rows.filterMap (Qt ι a)
theorem iM.each:∀{rows:List Row}{b e:Int},iM b rows e→(rows.length:Int)≤e-b∧∀r∈rows,b≤r.1∧r.1<r.2.1∧r.2.1≤e:=by
 intro zl;induction zl with
 |nil=>
  rintro b e h;exact⟨CC (Vm.mpr (show b=e from h).symm).symm,λ_ h=>absurd h aD⟩
 |cons r rs ih=>
  rintro b e ⟨h1,h2,h3⟩;have ih:=ih h3;refine⟨by rw[cg];lia,λq m=>(aE.mp m).elim (λz=>rwl z (⟨CC h1.symm,h2,(Ho.mp (aS (bJ _) ih.1))⟩)) λm=>?_⟩
  have z:=ih.2 q m;exact⟨aS (rwr h1 (bp h2)) z.1,z.2⟩
theorem R1{b m e:Int}(h:b≤m)(k:m≤e):(e-b).toNat=(m-b).toNat+(e-m).toNat:=by
 rw[←JH (bk h) (bk k)];exact congrArg Int.toNat (by lia)
theorem SJ{ι:St}{a e:Int}{rows:List Row}{b:Int}{X:List PM}(h:iM b rows e)(hX:b-a+1=X.length):ng ι (X++aM (e-b).toNat (none,none)) (rh ι a rows)=X++expand ι rows:=by
 induction rows generalizing b X with
 |nil=>rw[show b=e from h,Int.sub_self];rfl
 |cons r rs ih=>
  have h1:=h.1;have h2:=h.2.1;have h3:=h.2.2;have l:r.2.1≤e:=Ho.mp (aS (bJ _) h3.each.1);have n1:((r.2.1-r.1).toNat:Int)=r.2.1-b:=by rw[bL (bk (bp h2)),h1]
  have e2:=R1 (bp h2) l;rw[h1]at e2 n1;have hl:∀v:PM,r.2.1-a+1=(X++aM (r.2.1-b).toNat v).length:=λv=>by rw[aa,bP,fH,n1,←hX];lia
  have ih:=λv=>ih (X:=X++aM (r.2.1-b).toNat v) h3 (hl v);rw[e2,←mB,←af,show expand ι (r::rs)=aM (r.2.1-b).toNat (vw ι r.2.2)++expand ι rs from rwr h1 rfl,←af];by_cases c:vw ι r.2.2=(none,none)
  ·rw[rh,dB (by unfold Qt;rw[decide_eq_true c];rfl),c]
   exact ih _
  ·rw[rh,cV (by unfold Qt;rw[decide_eq_false c];rfl)]
   show ng ι (fX (λ_=>vw ι r.2.2) _ (r.1-a+1) (r.2.1-a+1)) _=_;rw[z' (by rw[←hX,h1]) (by rw[bP,n1,h1];lia),d3]
   exact ih _
theorem Uy{ι:St}{a e:Int}{rows:List Row}(h:iM (a-1) rows (e-1))(hp:∀r∈rows,xJ ι r.2.2):∀r∈rh ι a rows,0≤r.1∧r.1≤r.2.1∧r.2.1≤e-a∧xJ ι r.2.2:=λr m=>by
 refine Cc (kK.mp m) λq zh=>rU zh λm e=>?_;have z:=h.each.2 q m;unfold Qt at e;cases c:decide (vw ι q.2.2=(none,none))
 ·rw[c]at e;rw[←aA e];exact⟨by show 0≤q.1-a+1;lia,by show q.1-a+1≤q.2.1-a+1;lia,by show q.2.1-a+1≤_;lia,hp q m⟩
 ·rw[c]at e;exact nomatch e
theorem La{pl:jx}(h:Good pl):0<pl.length↔view pl≠(none,none):=by
 rw[vW h];unfold view;cases lk pl 1<;>cases lk pl 2<;>simp[has]
noncomputable def wM(i:Bool)(m:Addr)(a1:Bool)(s e p:Int):List (Bool×Addr×Int):=if s≤p∧p≤e then[(i,m,sA s e a1 p)]else[]
noncomputable def AV.ws(A:BA)(a e:Int)(x:AV):List (Bool×Addr×Int):=wM false A.m1 A.a1 a e x.p1++wM true A.m2 true a e x.p2
theorem X3{i:Bool}{m:Addr}{a1:Bool}{s e p:Int}:wl m s e p=(wM i m a1 s e p).map λt=>.ref t.2.1:=by
 unfold wl wM;split<;>rfl
theorem Iw{i:Bool}{m:Addr}{a1:Bool}{s e p:Int}{t:Bool×Addr×Int}(h:t∈wM i m a1 s e p):t=(i,m,sA s e a1 p):=by
 unfold wM at h;by_cases c:s≤p∧p≤e
 ·rw[if_pos c]at h;exact aQ.mp h
 ·rw[if_neg c]at h;exact absurd h aD
theorem N'(i:Bool)(m:Addr)(a1:Bool)(s e p:Int):(wM i m a1 s e p).length≤1:=by
 unfold wM;split
 ·exact cM _
 ·exact cy _
theorem AV.RA{A:BA}{a e:Int}{x:AV}:(x.ws A a e).length≤2:=by
 unfold AV.ws;rw[aa];exact ik (N' ..) (N' ..)
theorem OC(ms):(jn ms).length≤ms.length:=by
 induction ms with
 |nil=>exact cM _
 |cons e r ih=>
  unfold jn;cases decide (e.2.2=0)
  ·exact bU ih
  ·exact ji ih
theorem KX{u:UR}{ms:List (Bool×Addr×Int)}(h:u∈jn ms):∃t∈ms,u=.mk t.1 t.2.1 t.2.2:=by
 induction ms with
 |nil=>exact absurd h aD
 |cons e r ih=>
  unfold jn at h;cases c:decide (e.2.2=0)
  ·rw[c]at h;exact(aE.mp h).elim (λq=>⟨e,.head _,q⟩) λh=>(ih h).imp λt z=>⟨.tail _ z.1,z.2⟩
  ·rw[c]at h;exact(ih h).imp λt z=>⟨.tail _ z.1,z.2⟩
theorem a2s{ι:St}{A:BA}{x:AV}{a e:Int}:∀r∈jn (x.ws A a e),jf ι A r:=λr m=>by
 obtain⟨t,mt,rfl⟩:=KX m;exact(aU.mp mt).elim (λm=>by rw[Iw m];rfl) λm=>by rw[Iw m];rfl
noncomputable def AV.cut(x:AV)(pc:Addr)(a e:Int):UR:=.del a pc (decide (x.pt=a+((sl x.K (a-1) (e-1)).length:Nat))) (sl x.K (a-1) (e-1)) (sl x.V (a-1) (e-1))
theorem Buf.nu{A:BA}{ι φ σ:St}{x:AV}{i:BI}(h:Buf A ι φ σ x i){y:Addr}(n:ι y≠none∨φ y≠none):y∉[A.ul,i.rl]:=λm=>
 have z:=h.no y (.tail _ (.tail _ (.tail _ (.tail _ (.tail _ m)))))
 n.elim (λq=>q z.1) λq=>q z.2
section
variable{be:Nat}{σ ι φ:St}{Q:bw}{A:BA}{x:AV}
theorem a2t{i:BI}{a e:Int}{t:Bool×Addr×Int}(h:Buf A ι φ σ x i)(m:t∈x.ws A a e):∃k v p,σ t.2.1=some (eB k v (.ref A.b) p)∧sA a e v p=t.2.2:=
 (aU.mp m).elim (λm=>rwl (Iw m) (⟨_,_,_,h.m1,rfl⟩)) λm=>rwl (Iw m) (⟨_,_,_,h.m2,rfl⟩)
theorem LM{a e:Int}(aV:ai 5 be=true)(h:B A ι φ σ x)(hl:x.rows.length≤600000)(hK:x.K.length≤2000)(hV:x.V.length=x.K.length)(h0:1≤a)(h1:a<e)(h2:e≤x.K.length+1)
  (hq:∀bx av pc,Le ι bx→B A bx φ av (x.note (jn (x.ws A a e)++[x.cut pc a e]))→Q .none av):D be (.fn 1153) [.ref A.rc,.ref A.b,.int a,.int e] σ Q:=by
 refine h.elim λi b=>rH aV ?_;dsimp only[i8];have Qj:=b.pr.sub _ _ b.im.rc;have hb:=b.b;have Nt:=b.ul.ul;have OP:=b.pr.z4;have OW:0≤a-1:=by lia
 have B8:a-1≤e-1:=by lia
 have Va:e-1≤x.K.length:=by lia
 have hs:sumF i.L=x.K.length:=by rw[←hV,←b.V];exact(kz b.pr.pos).symm
 have zg:sumF i.L≤10000:=by lia
 k_go;refine rj rfl b.pr zg OW B8 (rwr hs.symm Va) λc1 rows tK xF hex xE=>?_;have l1:=(Le.refl σ).new (o:=.list (rows.map gR)) tK;have OR:(rows.length:Int)≤e-1-(a-1):=xF.each.1;k_go;refine Pp gR (λr=>(Qt ι a r).map gR) (s:=.list c1 (rows.map gR)) (ak ..) rows [] (λr hr T hT=>?_) (ah (show _≤2000 by rw[bQ];lia) (by decide)) ?_
 ·obtain⟨lo,hi,p⟩:=r;refine iA (xE _ hr) λq pl zh=>rU zh λGu g=>?_;subst Gu;have hq1:=(b.pr.sub.trans l1) _ _ g.at_;unfold Qt at hT;rw[g.view]at hT;k_go;refine gi (λc=>?_) λc=>?_
  ·k_go;rw[decide_eq_false ((La g.good).mp (by rw[ax]at c;exact cB.mp c))]at hT
   exact hT
  ·k_go;rw[decide_eq_true (eJ λn=>c (by rw[ax];exact cB.mpr ((La g.good).mpr n)))]at hT
   exact hT
 rw[←List.map_filterMap,cN];intro c2 mL;have b2:=(h.le l1).W6 (o:=.list ((rh ι a rows).map gR)) mL;have k2:Le ι (upd ι c2 (.list ((rh ι a rows).map gR))):=(Le.refl ι).new ((h.le l1).sub.none mL);have TR:=ak ι c2 (.list ((rh ι a rows).map gR));generalize upd ι c2 _=jA at b2 k2 TR;generalize upd (upd σ c1 _) c2 _=dp at b2;k_go;intro mq hmq;have b3:=b2.own (o:=.list []) hmq;have fm:φ mq=none:=b2.fr.none hmq;generalize upd dp mq _=jJ at b3;induction b3 with|intro i3 b3=>
 have hb3:=b3.b;have a6j:=b3.Q8.ms;k_go;refine UG rfl b3.Q8 λwq hwq=>?_;rw[X3 (i:=false) (a1:=A.a1),X3 (i:=true) (a1:=true),←aJ];have b4:=B.W6 (o:=.list ((x.ws A a e).map λt=>.ref t.2.1)) ⟨i3,b3⟩ hwq;have k4:Le jA (upd jA wq (.list ((x.ws A a e).map λt=>.ref t.2.1))):=(Le.refl jA).new (b3.pr.sub.none hwq);have hw4:=ak jA wq (.list ((x.ws A a e).map λt=>.ref t.2.1));k_go;generalize upd jA wq _=Ec at b4 k4 hw4
 as_aux_lemma=>
 refine lp (λt:Bool×Addr×Int=>MV.ref t.2.1) (a:=(none,[])) (λa_=>[(aj,some (.ref A.rc)),(ae,some (.ref A.b)),(au,some (.int a)),(aH,some (.int e)),(aX,some (.ref c1)),(iS,some (.ref c2)),(dy,some (.ref mq)),(aL,a_.1),(fK,none)])
  (λR(a_:Option MV×List (Bool×Addr×Int))av=>B A Ec (upd φ mq (.list (a_.2.map mdV))) av x∧a_.2++R=x.ws A a e) ⟨b4,rfl⟩ (λt vs a_ qJ R0 hI hR=>?_) λa_ qJ hI=>?_
 ·induction hI.1 with|intro i5 b5=>
  have mt:t∈x.ws A a e:=rwr hI.2 (az _ (.head _));induction a2t b5 mt with|intro k z=>
  induction z with|intro v z=>
  induction z with|intro p z=>
  have hm:=z.1;have a5r:=b5.fr _ _ (ak ..);k_go;refine Bh rfl ?_;rw[z.2];k_go;refine dY a5r (by rw[ax];have:=congrArg bl hI.2;rw[aa]at this;exact bc (ah (bq ..) (rwl this x.RA)) (by decide)) ?_
  k_go;have b6:=B.put (o:=.list (a_.2.map mdV++[mdV t])) ⟨i5,b5⟩ (aZ (ak ..));exact⟨b6.sub _ _ hw4,hR (_,a_.2++[t]) _ ⟨by rw[aJ,←cZ φ mq];exact b6,by rw[af];exact hI.2⟩⟩
 ·have e5:=hI.2;rw[ay]at e5;induction hI.1 with|intro i5 b5=>
  have hb5:=b5.b;k_go;refine LW rfl hb5 b5.gap (b5.K.trans (jW x.K B8)) (fE OW (aS B8 Va)).symm (by rw[fE OW (aS B8 Va),tz OW B8 Va];lia) λkc YI=>?_
  have b6:=B.W6 (o:=dt (sl x.K (a-1) (e-1))) ⟨i5,b5⟩ YI;have k6:=k2.trans (k4.trans ((Le.refl Ec).new (o:=dt (sl x.K (a-1) (e-1))) (b5.pr.sub.none YI)));have hr6:=((Le.refl Ec).new (o:=dt (sl x.K (a-1) (e-1))) (b5.pr.sub.none YI)) _ _ (k4 _ _ TR);have hk6:=ak Ec kc (dt (sl x.K (a-1) (e-1)));generalize upd Ec kc _=kO at b6 k6 hr6 hk6;generalize upd qJ kc _=pE at b6;k_go;intro pc hpc;refine Jx rfl ?_;have b7:=b6.W6 (o:=.inst 1123 [(ba,.ref kc),(iS,.ref c2)]) hpc;have k7:Le kO (upd kO pc (.inst 1123 [(ba,.ref kc),(iS,.ref c2)])):=(Le.refl kO).new (b6.sub.none hpc);have YF:=ak kO pc (.inst 1123 [(ba,.ref kc),(iS,.ref c2)]);generalize upd kO pc _=Q1 at b7 k7 YF;generalize upd pE pc _=Mr at b7;induction b7 with|intro i7 b7=>
  have Qj:=b7.pr.sub _ _ b7.im.rc;have hb:=b7.b;have Nt:=b7.ul.ul;k_go;refine m4 rfl hb ?_;k_go;have k8:=k6.trans k7;have lM:(sl x.K (a-1) (e-1)).length=(e-a).toNat:=by have:=tz OW B8 Va;lia
  refine Hf (W:=sl x.V (a-1) (e-1)) rfl b7.ul (ah hl (by decide)) (ah (e5▸x.RA) (by decide)) (b7.pr.sub _ _ YF) (b7.pr.sub _ _ (k7 _ _ hk6)) (by rw[lM];lia) (b7.fr _ _ (ak ..))
   (b7.nu (.inl (aZ YF))) (b7.nu (.inl (aZ (k7 _ _ hk6)))) (b7.nu (.inr (aZ (ak ..)))) λMc u o=>?_
  k_go;have hpk:XW Q1 pc (sl x.K (a-1) (e-1)) (sl x.V (a-1) (e-1)):=.mk kc c2 (rh ι a rows) YF (k7 _ _ hk6) (k7 _ _ hr6)
   (λr m=>have z:=Uy xF xE r m;⟨z.1,z.2.1,by rw[tz OW B8 Va];lia,z.2.2.2.mono k8⟩)
   (by
    rw[mK k8 _ _ λr m=>(Uy xF xE r m).2.2.2,lM];have z:=SJ (ι:=ι) (X:=[]) xF (a:=a) (by rw[bQ];lia)
    rw[hex,cN,cN,b.V,show e-1-(a-1)=e-a by lia]at z
    exact z)
   (ah (Ic ..) (by lia))
  rw[e5]at u;rw[af]at u;exact hq Q1 Mc pc k8 (B.drop (xO:=φ) (b7.xQ o u (BE b7.rr λr m=>(aU.mp m).elim (a2s r) (BL (P:=jf Q1 A) (u:=x.cut pc a e) hpk r))) ((Le.refl φ).new fm))
end
section
variable{X:Ctx}{ρ:Loc}{σ:St}
theorem a2Q{x v r k}(h:cc ρ x=some (some v))(q:wA X r ρ σ (at_ (TG v k) ρ)):wA X (.cons (.name x) r) ρ σ (at_ k ρ):=N9 (Km h q)
theorem V8{f v as r K}(h:cc ρ f=none)(g:X.glob f=some v)(q:wA X as ρ σ (at_ (Yw X (.val v) (Np (sqb X r K))) ρ)):wB X (.cons (.expr (.call (.name f) as)) r) ρ σ K:=th (Iq (Iu (R8 h g q)))
theorem ZS{a C:Addr}{fs:List (Str×MV)}(hs:σ a=some (.inst C fs)){y v}(e:cc fs y=some v){x k}(h:cc ρ x=some (some (.ref a)))(q:k v ρ σ):wE X (.attr (.name x) y) ρ σ (at_ k ρ):=N7 (Km h (SH hs e q))
theorem Oi{o m as r K}(q:wE X o ρ σ (at_ (Yt X m (k_go X as (Np (sqb X r K)))) ρ)):wB X (.cons (.expr (.call (.attr o m) as)) r) ρ σ K:=th (Iq (Iu (N8 q)))
theorem Oj{t e r K}(q:wE X e ρ σ (at_ (Yx X t (sqb X r K)) ρ)):wB X (.cons (.assign t e) r) ρ σ K:=th (Hx q)
theorem V6{t a b r K}(q:wT X t ρ σ (at_ (a3A X a b (sqb X r K)) ρ)):wB X (.cons (.ifs t a b) r) ρ σ K:=th (RC q)
theorem a2O{e r K}(q:wE X e ρ σ (at_ (Yv (sqb X r K)) ρ)):wB X (.cons (.ret e) r) ρ σ K:=th (Rz q)
theorem a0a{a:Addr}{K:List Int}{Q:bw}(h:σ a=some (dt K))(q:Q (.int K.length) σ):fF "len" [.ref a] σ Q:=Yc h (by rw[ax];exact q)
end
theorem tJ{α:Type}{l K:List α}{n:Nat}:(l.take n++K++l.drop n).length=l.length+K.length:=by
 have e:=congrArg bl (cw n l);rw[aa]at e;rw[aa,aa,←e,kM]
theorem nJ{α:Type}{l:List α}{i:Int}(h0:0≤i)(h2:i≤l.length):((l.drop i.toNat).length:Int)=l.length-i:=by
 rw[d6,Za (l7.mpr h2),bL h0]
section
variable{σ ι φ:St}{Q:bw}{A:BA}{x:AV}{l:List MV}
theorem B.lU(h:B A ι φ σ x)(k:∀c bx av,Le ι bx→bx c=some (.list l)→B A bx φ av x→Q (.ref c) av):fe l σ Q:=λc hc=>k c _ _ ((Le.refl ι).new (h.sub.none hc)) (ak ..) (h.W6 hc)
theorem B.KW(h:B A ι φ σ x)(k:∀c av,φ c=none→B A ι (upd φ c (.list l)) av x→Q (.ref c) av):fe l σ Q:=λc hc=>k c _ (h.fr.none hc) (h.own hc)
end
noncomputable def AV.z5(x:AV)(a:Int)(K:List Int):AV:=(x.note [.ins a (a+(K.length:Nat))]).uz (x.K.take (a-1).toNat++K++x.K.drop (a-1).toNat) (if a<x.pt then x.pt+(K.length:Nat)else x.pt) x.tk x.dZ
noncomputable def AV.m9(x:AV)(A:BA)(pc:Addr)(a e:Int):AV:=(x.note (jn (x.ws A a e)++[x.cut pc a e])).uz (x.K.take (a-1).toNat++x.K.drop (e-1).toNat) (if a<x.pt then(if a<x.pt-(e-a)then x.pt-(e-a)else a)else x.pt) x.tk x.dZ
noncomputable def AV.VJ(x:AV)(a e:Int):AV:=x.MS (QA x.V (a-1) (e-1))
noncomputable def AV.vin(x:AV)(a k:Int):AV:=x.MS (K9 x.V (a-1) k.toNat (none,none))
theorem Buf.len{A:BA}{ι φ σ:St}{x:AV}{i:BI}(h:Buf A ι φ σ x i):i.P.length+i.S.length=x.K.length:=(aa ..).symm.trans (congrArg bl h.K)
theorem Off.wide{σ av:St}{F:List Addr}{a:Addr}(h:Off σ av F):Off σ av (a::F):=λx hx=>h x λm=>hx (.tail _ m)
theorem Buf.le{A:BA}{ι φ σ av:St}{x:AV}{i:BI}(h:Buf A ι φ σ x i)(l:Le σ av):Buf A ι φ av x i:=h.grow (λy o e _=>l y o e) (.refl _) (h.pr.sub.trans l) (h.fr.trans l) (λ_=>.inl) λy q=>⟨.inl q,(h.fi y q).1⟩
theorem Buf.MI{A:BA}{ι φ σ:St}{x:AV}{i:BI}(h:Buf A ι φ σ x i):sumF i.L=x.V.length:=(kz h.pr.pos).symm.trans (congrArg (λl=>(bl l:Int)) h.V)
theorem Buf.gb{A:BA}{ι φ σ:St}{x:AV}{i:BI}(h:Buf A ι φ σ x i):A.b∉[A.g,A.cl]:=Q6 (bS h.b h.gap.g rfl) (bS h.b h.gap.cl rfl)
section
variable{be:Nat}{σ ι φ:St}{Q:bw}{A:BA}{x:AV}
theorem H3{q:Addr}{a:Int}{K:List Int}(aV:ai 4 be=true)(h:B A ι φ σ x)(hl:x.rows.length≤600000)(hn:DE x.rows=true)(hk:ι q=some (dt K))(hK:K.length≠0)(h0:1≤a)(h1:a≤x.K.length+1)
  (xD:x.K.length+K.length+8≤2000) (hq:∀av,B A ι φ av (x.z5 a K)→Q .none av):D be (.fn 90) [.ref A.b,.int a,.ref q] σ Q:=by
 refine h.elim λi b=>AJ aV ?_;dsimp only[xH];have hb:=b.b;have Qj:=b.pr.sub _ _ b.im.rc;have hk0:=b.pr.sub _ _ hk;have ta:=fE (bk h0) (bt h1);have ez:(x.K.length:Int)+1+K.length=((x.z5 a K).K.length:Nat)+1:=by
  have e:(x.z5 a K).K.length=x.K.length+K.length:=by
   exact tJ
  rw[e,fH,Int.add_right_comm]
 k_go;refine Jn rfl h (ah hl (by decide)) (λe=>hK (cO e)) hn λdE h1=>?_
 induction h1 with|intro i1 b1=>
 have Fd:=b1.b;have Ra:=b1.gap.g;have HQ:=b1.pr.sub _ _ hk;have nq:q∉[A.g,A.cl]:=λm=>ar hk (b1.no q (.tail _ ((aE.mp m).elim (λe=>rwr e (.head _)) λm=>rwr (aQ.mp m) (.tail _ (.head _))))).1;have hqb:q≠A.b:=λe=>ar hk (b1.no q (rwl e (.head _))).1;k_go;refine Bk rfl b1.gap (b1.K.trans (cw ..).symm) ta.symm HQ (λe=>nq (rwr e (.tail _ (.head _)))) (by rw[b1.len];exact xD) λdp F2 g2 o2=>?_
 have TZ:=(o2 _ b1.gb).trans Fd;have ym:=(o2 _ nq).trans HQ;k_go;rw[show(AV.note x [.ins a (a+(K.length:Nat))]).K=x.K from rfl,ez];have fin:∀pt',pt'=(x.z5 a K).pt→Q .none (upd dp A.b (A.bO (x.z5 a K).K.length pt' x.tk i1.fY x.dZ)):=λpt' e=>by
  subst e;exact hq _ (b1.uz ((Off.wide o2).tr (.put (.head _))) (ak ..) (g2.frame (aC (bS Ra Fd rfl)) (aC (bS b1.gap.cl Fd rfl))) rfl)
 refine gi (λc=>?_) λc=>?_
 ·k_go;rw[cZ];exact fin _ (if_pos c).symm
 ·k_go;exact fin _ (if_neg c).symm
theorem FP{a e:Int}(aV:ai 6 be=true)(h:B A ι φ σ x)(hl:x.rows.length≤600000)(hK:x.K.length≤2000)(hV:x.V.length=x.K.length)(h0:1≤a)(h1:a<e)(h2:e≤x.K.length+1)
  (hq:∀bx av c pc,Le ι bx→B A bx φ av (x.m9 A pc a e)→Q (.ref c) av):D be (.fn 83) [.ref A.b,.int a,.int e] σ Q:=by
 refine h.elim λi b=>G3 aV ?_;dsimp only[zC];have hb:=b.b;have Qj:=b.pr.sub _ _ b.im.rc;have OW:0≤a-1:=bk h0;have B8:a-1≤e-1:=by lia
 have Va:e-1≤x.K.length:=bt h2;have lt:=fE OW (aS B8 Va);have ls:=tz OW B8 Va;k_go;refine LM rfl h hl hK hV h0 h1 h2 λBu dE pc k1 h1=>?_;have ez:(x.K.length:Int)+1-(e-a)=((x.m9 A pc a e).K.length:Nat)+1:=by
  show _=((x.K.take _++x.K.drop (e-1).toNat).length:Int)+1;rw[aa,fH,lt,nJ (aS OW B8) Va];lia
 induction h1 with|intro i1 b1=>
 have Fd:=b1.b;have Ra:=b1.gap.g;k_go;refine Jt rfl b1.gap (b1.K.trans (jW x.K B8)) lt.symm (by rw[lt,ls];lia) λc dp F2 hc g2 mL o2=>?_
 have TZ:=(o2 A.b (WG (λq=>ar Fd ((congrArg dE q).trans hc)) b1.gb)).trans Fd;have fin:∀pt',pt'=(x.m9 A pc a e).pt→Q (.ref c) (upd dp A.b (A.bO (x.m9 A pc a e).K.length pt' x.tk i1.fY x.dZ)):=λpt' q=>by
  subst q;have o3:Off (upd dE c (dt (sl x.K (a-1) (e-1)))) dp [A.g,A.cl]:=λz hz=>if q:z=c then by rw[q,mL,ak]else(o2 z (WG q hz)).trans (aC q).symm
  exact hq Bu _ c pc k1 ((b1.le ((Le.refl dE).new hc)).uz ((Off.wide o3).tr (.put (.head _))) (ak ..) (g2.frame (aC (bS Ra Fd rfl)) (aC (bS b1.gap.cl Fd rfl))) rfl)
 k_go;rw[show(AV.note x (jn (AV.ws A a e x)++[x.cut pc a e])).K=x.K from rfl,ez];refine gi (λc=>?_) λc=>?_
 ·k_go;rw[cZ];exact fin _ (if_pos c).symm
 ·k_go;exact fin _ (if_neg c).symm
theorem F7{a e:Int}(aV:ai 9 be=true)(h:B A ι φ σ x)(hs:x.V.length≤5000)(h0:1≤a)(h1:a<e)(h2:e≤x.V.length+1)
  (hq:∀av,B A ι φ av (x.VJ a e)→Q .none av):D be (.fn 97) [.ref A.b,.int a,.int e] σ Q:=by
 refine h.elim λi b=>G' aV ?_;dsimp only[zH];have hb:=b.b;have OP:=b.pr.z4;have es:=b.MI;k_go;refine LL rfl b.pr (rwr es.symm (cK.mpr (ah hs (by decide)))) (bk h0) (Int.sub_lt_sub_right h1 1) (rwr es.symm (bt h2)) λav L' p hv _ kp=>?_
 have b1:=b.ZQ p kp.ev;rw[hv,b.V]at b1;induction b1 with|intro i1 b1=>
 have Fd:=b1.b;k_go;exact hq av ⟨i1,b1⟩
theorem H4{a k:Int}{bf:Bool}(aV:ai 9 be=true)(h:B A ι φ σ x)(hs:x.V.length≤5000)(h0:1≤a)(h1:a≤x.V.length+1)(hk:0<k)(ym:k≤5000)
  (hq:∀bx av,Le ι bx→B A bx φ av (x.vin a k)→Q .none av):D be (.fn 104) [.ref A.b,.int a,.int k,.bool bf] σ Q:=by
 refine h.elim λi b=>AU aV ?_;dsimp only[xI];have hb:=b.b;have OP:=b.pr.z4;have es:=b.MI;k_go;refine LN rfl b.pr (rwr es.symm (cK.mpr hs)) (bk h0) (rwr es.symm (bt h1)) hk ym λbx av L' p hv _ ev=>?_;have b1:=b.ZQ p ev;rw[hv,b.V]at b1;induction b1 with|intro i1 b1=>
 have Fd:=b1.b;k_go;exact hq bx av ev.le ⟨i1,b1⟩
end
noncomputable def AV.mkI(x:AV)(A:BA)(s e:Int)(bf:Bool):AV:=x.setM (om s e bf A.a1 x.p1) (om s e bf true x.p2)
noncomputable def AV.mkD(x:AV)(s e:Int):AV:=x.setM (ig s e x.p1) (ig s e x.p2)
noncomputable def AV.mkR(x:AV)(s e k:Int):AV:=x.setM (yW s e k x.p1) (yW s e k x.p2)
noncomputable def AV.goto(x:AV)(p:Int):AV:=x.uz x.K p x.tk x.dZ
noncomputable def AV.EF(x:AV):AV:=x.uz x.K x.pt (x.tk+1) x.dZ
noncomputable def AV.D7(x:AV)(A:BA)(a:Int)(K:List Int)(bf XR:Bool):AV:=(((bif XR then(x.z5 a K).goto (a+(K.length:Nat))else x.z5 a K).mkI A a (a+(K.length:Nat)) bf).vin a (K.length:Nat)).EF
noncomputable def qU:Nat→N→N
 |0,b=>b
 |n+1,.cons _ r=>qU n r
 |_,b=>b
section
variable{be:Nat}{σ ι φ:St}{Q:bw}{A:BA}{x:AV}
theorem Jv{s e k:Int}(aV:ai 1 be=true)(h:B A ι φ σ x)(hq:∀av,B A ι φ av x.EF→Q .none av):D be (.fn 76) [.ref A.b,.int s,.int e,.int k] σ Q:=
 h.elim λ_ b=>yE aV b.b (b.pr.sub _ _ b.im.ls) λAI=>hq _ (b.setB x.pt (x.tk+1) x.dZ AI)
theorem Bm{s e:Int}(aV:ai 0 be=true)(h:B A ι φ σ x)(hq:Q .none σ):D be (.fn 69) [.ref A.b,.int s,.int e] σ Q:=
 h.elim λ_ b=>Ba aV b.b (b.pr.sub _ _ b.im.ls) hq
theorem a1z{s e:Int}{bf:Bool}(aV:ai 1 be=true)(h:B A ι φ σ x)(hq:∀av,B A ι φ av (x.mkI A s e bf)→Q .none av):D be (.fn 591) [.ref A.ms,.int s,.int e,.bool bf] σ Q:=
 h.elim λ_ b=>Hh aV b.Q8 λav m o=>hq av (b.setM o m.m1 m.m2)
theorem a1A{s e:Int}(aV:ai 1 be=true)(h:B A ι φ σ x)(hq:∀av,B A ι φ av (x.mkD s e)→Q .none av):D be (.fn 598) [.ref A.ms,.int s,.int e] σ Q:=
 h.elim λ_ b=>Js aV b.Q8 λav m o=>hq av (b.setM o m.m1 m.m2)
theorem a1y{s e k:Int}(aV:ai 1 be=true)(h:B A ι φ σ x)(hq:∀av,B A ι φ av (x.mkR s e k)→Q .none av):D be (.fn 605) [.ref A.ms,.int s,.int e,.int k] σ Q:=
 h.elim λ_ b=>Hg aV b.Q8 λav m o=>hq av (b.setM o m.m1 m.m2)
theorem B.at_(h:B A ι φ σ x):∃fY,σ A.b=some (A.bO x.K.length x.pt x.tk fY x.dZ)∧σ A.ms=some (.inst 608 [(aX,.ref A.md)]):=h.elim λi b=>⟨i.fY,b.b,b.Q8.ms⟩
theorem LP{q:Addr}{a:Int}{K:List Int}{bf XR:Bool}(aV:ai 10 be=true)(h:B A ι φ σ x)(hl:x.rows.length≤600000)(hn:DE x.rows=true)(hV:x.V.length=x.K.length)(hk:ι q=some (dt K))(hK:K.length≠0)
  (h0:1≤a) (h1:a≤x.K.length+1) (xD:x.K.length+K.length+8≤2000) (hq:∀bx av,Le ι bx→B A bx φ av (x.D7 A a K bf XR)→Q .none av):D be (.fn 111) [.ref A.b,.int a,.ref q,.bool bf,.bool XR] σ Q:=by
 refine h.elim λi b=>C4 aV ?_;have rest:∀dp,B A ι φ dp (bif XR then(x.z5 a K).goto (a+(K.length:Nat))else x.z5 a K)→wB (X 10) (qU 7 sT) [(ae,some (.ref A.b)),(bF,some (.int a)),(ba,some (.ref q)),(bA,some (.bool bf)),(gB,some (.bool XR))] dp (ends Q):=λdp h2=>by
  have e2:(bif XR then(x.z5 a K).goto (a+(K.length:Nat))else x.z5 a K).V.length=x.K.length:=by cases XR<;>exact hV
  dsimp only[sT,qU];have ym:=h2.sub _ _ hk;induction h2.at_ with|intro fY w=>
  have hb:=w.1;have zK:=w.2;k_go;refine a1z rfl h2 λjJ h3=>?_;have Q9:=h3.sub _ _ hk;k_go;refine H4 rfl h3 (ah (cR e2) (by lia)) h0 (by show a≤((AV.V _).length:Int)+1;rw[show(AV.V (AV.mkI _ A a (a+(K.length:Nat)) bf)).length=_ from e2];exact h1) (cB.mpr (iN hK)) (by lia) λEc vh k4 h4=>?_
  have hk4:=h4.sub _ _ (k4 _ _ hk);k_go;refine Jv rfl h4 λqJ h5=>?_;k_go;exact hq Ec qJ k4 h5
 dsimp only[sT];have hb:=b.b;have hk0:=h.sub _ _ hk;k_go;refine fy rfl hb ?_;k_go;refine mN rfl hb h0 (dU _) h1 ?_;k_go;refine px (λe=>hK (cO e)) ?_;k_go;refine w8 rfl hb b.gap (by lia) ?_
 k_go;refine Bm rfl h ?_;k_go;refine H3 rfl h hl hn hk hK h0 h1 xD λdE h1=>?_;have HQ:=h1.sub _ _ hk;induction h1 with|intro i1 b1=>
 refine V6 (R7 rfl (OB ?_));cases XR
 ·exact Pd (yT (rest dE ⟨i1,b1⟩))
 ·refine H7 (Oj ?_);k_in;exact tA b1.b rfl rfl (yT (rest _ (b1.setB (a+(K.length:Nat)) x.tk x.dZ i1.fY)))
theorem Dc{q:Addr}{a:Int}{K:List Int}(aV:ai 11 be=true)(h:B A ι φ σ x)(hl:x.rows.length≤600000)(hn:DE x.rows=true)(hV:x.V.length=x.K.length)(hk:ι q=some (dt K))(hK:K.length≠0)
  (h0:1≤a) (h1:a≤x.K.length+1) (xD:x.K.length+K.length+8≤2000) (hq:∀bx av,Le ι bx→B A bx φ av (x.D7 A a K false false)→Q .none av):D be (.fn 119) [.ref A.b,.int a,.ref q] σ Q:=by
 refine Cm aV ?_;dsimp only[rt];k_go;refine LP rfl h hl hn hV hk hK h0 h1 xD λbx av k h'=>?_;k_go;exact hq bx av k h'
theorem UK{q:Addr}{K:List Int}(aV:ai 11 be=true)(h:B A ι φ σ x)(hl:x.rows.length≤600000)(hn:DE x.rows=true)(hV:x.V.length=x.K.length)(hk:ι q=some (dt K))(hK:K.length≠0)
  (h0:1≤x.pt) (h1:x.pt≤x.K.length+1) (xD:x.K.length+K.length+8≤2000) (hq:∀bx av,Le ι bx→B A bx φ av (x.D7 A x.pt K false true)→Q .none av):D be (.fn 127) [.ref A.b,.ref q] σ Q:=by
 refine h.at_.elim λfY w=>yD aV ?_;dsimp only[xi];have hb:=w.1;k_go;refine LP rfl h hl hn hV hk hK h0 h1 xD λbx av k h'=>?_;k_go;exact hq bx av k h'
end
noncomputable def AV.Hk(x:AV)(A:BA)(pc:Addr)(a e:Int):AV:=(((x.m9 A pc a e).mkD a e).VJ a e).EF
section
variable{be:Nat}{σ ι φ:St}{Q:bw}{A:BA}{x:AV}
theorem LU{a e:Int}(aV:ai 10 be=true)(h:B A ι φ σ x)(hl:x.rows.length≤600000)(hK:x.K.length≤2000)(hV:x.V.length=x.K.length)(h0:1≤a)(h1:a<e)(h2:e≤x.K.length+1)
  (hq:∀c bx av pc,Le ι bx→B A bx φ av (x.Hk A pc a e)→Q (.ref c) av):D be (.fn 134) [.ref A.b,.int a,.int e] σ Q:=by
 refine h.at_.elim λfY w=>C5 aV ?_;dsimp only[Bn];have hb:=w.1;k_go;refine fy rfl hb ?_;k_go;refine mN rfl hb h0 (bp h1) h2 ?_;k_go;refine px (CB h1) ?_;k_go;refine Bm rfl h ?_;k_go;refine FP rfl h hl hK hV h0 h1 h2 λBu dE c pc k1 h3=>?_;induction h3.at_ with|intro fY w=>
 have hb:=w.1;have zK:=w.2;k_go;refine a1A rfl h3 λdp h4=>?_;k_go;have e4:((x.m9 A pc a e).mkD a e).V.length=x.K.length:=hV;refine F7 rfl h4 (by lia) h0 h1 (by rw[e4];exact h2) λjJ h5=>?_
 k_go;refine Jv rfl h5 λvh h6=>?_;k_go;exact hq c Bu vh pc k1 h6
theorem QO{a:Int}(aV:ai 10 be=true)(h:B A ι φ σ x)(h0:1≤a)(h2:a≤x.K.length+1)
  (hq:∀c av,B A ι φ av x→Q (.ref c) av):D be (.fn 134) [.ref A.b,.int a,.int a] σ Q:=by
 refine h.at_.elim λfY w=>C5 aV ?_;dsimp only[Bn];have hb:=w.1;k_go;refine fy rfl hb ?_;k_go;refine mN rfl hb h0 (dU _) h2 ?_;k_go;refine pk rfl ?_;k_go;intro c hc;k_go;exact hq c _ (h.le ((Le.refl σ).new hc))
end
noncomputable def AV.Jz(x:AV)(A:BA)(pc:Addr)(a e:Int)(K:List Int):AV:=
 ((((bif decide (e≤x.pt)then((x.m9 A pc a e).z5 a K).goto (x.pt+(K.length:Nat)-(e-a))else(x.m9 A pc a e).z5 a K).mkR a e (K.length:Nat)).vin e (K.length:Nat)).VJ a e).EF
theorem KR{x:AV}{rs:List UR}:(x.note rs).rows.length≤x.rows.length+1+rs.length:=by
 show(iu _ _ _ _++rs).length≤_;rw[aa];exact bN (si ..) _
theorem RW{x:AV}{A:BA}{pc:Addr}{a e:Int}(h0:1≤a)(h1:a<e)(h2:e≤x.K.length+1):((x.m9 A pc a e).K.length:Int)=x.K.length-(e-a):=by
 have h3:e-1≤x.K.length:=bt h2;show((x.K.take _++x.K.drop (e-1).toNat).length:Int)=_;rw[aa,fH,fE (bk h0) (by lia),nJ (by lia) h3]
 lia
theorem OA{R rs:List UR}{r:UR}(h:r.OK=false):DE (R++(rs++[r]))=true:=by
 rw[←af,Ai,h];rfl
section
variable{be:Nat}{σ ι φ:St}{Q:bw}{A:BA}{x:AV}
set_option maxHeartbeats 1000000 in
theorem QL{q:Addr}{a e:Int}{K:List Int}(aV:ai 12 be=true)(h:B A ι φ σ x)(hl:x.rows.length≤500000)(hV:x.V.length=x.K.length)(hk:ι q=some (dt K))(hK:K.length≠0)(h0:1≤a)(h1:a<e)(h2:e≤x.K.length+1)
  (xD:x.K.length+K.length+8≤2000) (hq:∀c bx av pc,Le ι bx→B A bx φ av (x.Jz A pc a e K)→Q (.ref c) av):D be (.fn 142) [.ref A.b,.int a,.int e,.ref q] σ Q:=by
 refine h.elim λi b=>wQ aV ?_;have rest:∀c pc Bu dp,Le ι Bu→B A Bu φ dp (bif decide (e≤x.pt)then((x.m9 A pc a e).z5 a K).goto (x.pt+(K.length:Nat)-(e-a))else(x.m9 A pc a e).z5 a K)→
   wB (X 12) (qU 10 mP) [(ae,some (.ref A.b)),(au,some (.int a)),(aH,some (.int e)),(ba,some (.ref q)),(aX,some .none),(cz,some (.int a)),(bI,some (.int e)),(x_point,some (.int x.pt)),(iT,some (.ref c))] dp (ends Q):=λc pc Bu dp k1 h2'=>by
  have e2:(bif decide (e≤x.pt)then((x.m9 A pc a e).z5 a K).goto (x.pt+(K.length:Nat)-(e-a))else(x.m9 A pc a e).z5 a K).V.length=x.K.length:=by cases decide (e≤x.pt)<;>exact hV
  dsimp only[mP,qU];have ym:=h2'.sub _ _ (k1 _ _ hk);induction h2'.at_ with|intro fY w=>
  have hb:=w.1;have zK:=w.2;k_go;refine a1y rfl h2' λjJ h3=>?_;have Q9:=h3.sub _ _ (k1 _ _ hk);k_go;refine H4 rfl h3 (ah (cR e2) (by lia)) (aS h0 (bp h1)) (by show e≤((AV.V _).length:Int)+1;rw[show(AV.V (AV.mkR _ a e (K.length:Nat))).length=_ from e2];exact h2) (cB.mpr (iN hK)) (by lia) λEc vh k4 h4=>?_
  have e4:(AV.V (AV.vin (AV.mkR (bif decide (e≤x.pt)then((x.m9 A pc a e).z5 a K).goto (x.pt+(K.length:Nat)-(e-a))else(x.m9 A pc a e).z5 a K) a e (K.length:Nat)) e (K.length:Nat))).length=x.K.length+K.length:=tJ.trans (by rw[bP,cS];exact congrArg (·+_) e2)
  k_go;refine F7 rfl h4 (by lia) h0 h1 (by rw[e4];lia) λqJ h5=>?_
  have hk5:=h5.sub _ _ (k4 _ _ (k1 _ _ hk));k_go;refine Jv rfl h5 λpE h6=>?_;k_go;exact hq c Ec pE pc (k1.trans k4) h6
 dsimp only[mP];have hb:=b.b;have hk0:=h.sub _ _ hk;k_go;refine fy rfl hb ?_;k_go;refine mN rfl hb h0 (bp h1) h2 ?_;k_go;refine px (CB h1) ?_;k_go;refine px (λe=>hK (cO e)) ?_;k_go;refine w8 rfl hb b.gap (by lia) ?_
 k_go;refine Bm rfl h ?_;k_go;refine FP rfl h (ah hl (by decide)) (by lia) hV h0 h1 h2 λBu dE c pc k1 h3=>?_
 have l3:=RW (x:=x) (A:=A) (pc:=pc) h0 h1 h2;have hl3:(x.m9 A pc a e).rows.length≤600000:=ah (KR (x:=x) (rs:=jn (x.ws A a e)++[x.cut pc a e])) (by rw[aa];have:=ah (OC _) (x.RA (A:=A) (a:=a) (e:=e));exact ah (ik (bU hl) (bN this 1)) (by decide))
 k_go;refine H3 rfl h3 hl3 (OA rfl) (k1 _ _ hk) hK h0 (by lia) (by lia) λdp h4=>?_
 have hk4:=h4.sub _ _ (k1 _ _ hk);induction h4 with|intro i4 b4=>
 refine V6 ?_;k_in;refine gi (λc1=>?_) λc1=>?_
 ·have r:=rest c pc Bu;rw[decide_eq_true c1]at r;refine Oj ?_;k_in;exact tA b4.b rfl rfl (yT (r _ k1 (b4.setB (x.pt+(K.length:Nat)-(e-a)) x.tk x.dZ i4.fY)))
 ·have r:=rest c pc Bu;rw[decide_eq_false c1]at r;exact yT (r dp k1 ⟨i4,b4⟩)
theorem NL{q:Addr}{a:Int}{K:List Int}(aV:ai 12 be=true)(h:B A ι φ σ x)(hl:x.rows.length≤500000)(hn:DE x.rows=true)(hV:x.V.length=x.K.length)(hk:ι q=some (dt K))(hK:K.length≠0)(h0:1≤a)(h2:a≤x.K.length+1)
  (xD:x.K.length+K.length+8≤2000) (hq:∀c bx av,Le ι bx→B A bx φ av (x.D7 A a K false false)→Q (.ref c) av):D be (.fn 142) [.ref A.b,.int a,.int a,.ref q] σ Q:=by
 refine h.at_.elim λfY w=>wQ aV ?_;dsimp only[mP];have hb:=w.1;k_go;refine fy rfl hb ?_;k_go;refine mN rfl hb h0 (dU _) h2 ?_;k_go;refine pk rfl ?_;k_go;refine Dc rfl h (ah hl (by decide)) hn hV hk hK h0 h2 xD λBu dE k1 h1=>?_
 k_go;intro c hc;k_go;exact hq c Bu _ k1 (h1.le ((Le.refl dE).new hc))
end
noncomputable abbrev nZ:=Int×Int×MV×MV
noncomputable abbrev vO(q:nZ):MV:=.tup [.int q.1,.int q.2.1,q.2.2.1,q.2.2.2]
noncomputable def uB(q:nZ):Row:=(q.1,q.2.1,q.2.2.2)
noncomputable def iq(k:Int)(w:Option Int)(p:PM):PM:=if k=1 then(w,p.2)else(p.1,w)
noncomputable def JJ(s e k:Int)(o n:Option Int):List UR:=if n=o then[]else[.prop s e k o]
noncomputable def pr(s e:Int)(o n:PM):List UR:=JJ s e 1 o.1 n.1++JJ s e 2 o.2 n.2
noncomputable abbrev pq(ι:St)(q:nZ):List UR:=pr (q.1+1) (q.2.1+1) (vw ι q.2.2.1) (vw ι q.2.2.2)
noncomputable def uV(r:UR)(V:List PM):List PM:=match r with
 |.prop s e k el=>fX (iq k el) V (s-1) (e-1)
 |_=>V
inductive QS (ι:St) (T:PM→PM):List Row→List nZ→Prop
 |nil:QS ι T [] []
 |same (D:List Row) (qs:List nZ) (r:Row) (h:QS ι T D qs) (e:T (vw ι r.2.2)=vw ι r.2.2):QS ι T (D++[r]) qs
 |turn (D:List Row) (qs:List nZ) (r:Row) (f:Addr) (fl:jx) (h:QS ι T D qs) (e:T (vw ι r.2.2)≠vw ι r.2.2) (p:uj ι f fl) (v:view fl=T (vw ι r.2.2)):QS ι T (D++[r]) (qs++[(r.1,r.2.1,r.2.2,.ref f)])
theorem QS.mono{ι bx:St}{T:PM→PM}(k:Le ι bx){D:List Row}{qs:List nZ}(h:QS ι T D qs):(∀r∈D,xJ ι r.2.2)→QS bx T D qs:=by
 induction h with
 |nil=>exact λ_=>.nil
 |same D qs r _ e ih=>exact λhp=>.same D qs r (ih λr m=>hp r (aN _ m)) (by rw[ti (hp r (az _ (.head _))) k];exact e)
 |turn D qs r f fl _ e p v ih=>
  intro hp;have q:=ti (hp r (az _ (.head _))) k;exact .turn D qs r f fl (ih λr m=>hp r (aN _ m)) (by rw[q];exact e) (p.mono k) (by rw[q];exact v)
theorem iM.Bz{r:Row}{D:List Row}{b e:Int}(h:iM b (D++[r]) e):iM b D r.1∧r.1<r.2.1∧r.2.1=e:=by
 induction D generalizing b with
 |nil=>exact⟨h.1.symm,h.2.1,h.2.2⟩
 |cons _ _ ih=>exact(ih h.2.2).imp (λz=>⟨h.1,h.2.1,z⟩) id
theorem iM.exp{ι:St}{D:List Row}{b e:Int}(h:iM b D e):((expand ι D).length:Int)=e-b:=by
 induction D generalizing b with
 |nil=>exact(Vm.mpr (show b=e from h).symm).symm
 |cons r D ih=>
  show((aM (r.2.1-r.1).toNat (vw ι r.2.2)++expand ι D).length:Int)=_;rw[aa,fH,bP,ih h.2.2,bL (bk (bp h.2.1)),h.1];lia
theorem qX{ι:St}{D:List Row}{r:Row}:expand ι (D++[r])=expand ι D++aM (r.2.1-r.1).toNat (vw ι r.2.2):=by
 unfold expand;rw[hU];exact congrArg (_++·) (ay _)
section
variable{s e k:Int}{o n:Option Int}{A Y:List PM}{m:Nat}{v:PM}
theorem EM{f:PM→PM}(hs:(A.length:Int)=s)(he:(m:Int)=e-s):fX f (A++aM m v++Y) s e=A++aM m (f v)++Y:=by
 rw[z' hs (by rw[bP];exact he),d3]
theorem KC(hs:(A.length:Int)=s-1)(he:(m:Int)=e-1-(s-1))(h:n=o→iq k o v=v):(JJ s e k o n).foldr uV (A++aM m v++Y)=A++aM m (iq k o v)++Y:=by
 unfold JJ;by_cases c:n=o
 ·rw[if_pos c,h c];rfl
 ·rw[if_neg c];exact EM hs he
end
theorem Wm{s e:Int}{o n:PM}{A Y:List PM}{m:Nat}(hs:(A.length:Int)=s-1)(he:(m:Int)=e-1-(s-1)):(pr s e o n).foldr uV (A++aM m n++Y)=A++aM m o++Y:=by
 unfold pr;rw[rS,KC hs he λc=>lQ rfl c.symm,KC hs he λc=>lQ c.symm rfl];rfl
theorem QS.put{ι:St}{T:PM→PM}{D:List Row}{qs:List nZ}(h:QS ι T D qs):∀{b e:Int}{X:List PM},iM b D e→(X.length:Int)=b→∀Y,ng ι (X++expand ι D++Y) (qs.map uB)=X++(expand ι D).map T++Y∧(qs.flatMap (pq ι)).foldr uV (X++(expand ι D).map T++Y)=X++expand ι D++Y:=by
 induction h with
 |nil=>exact λ_ _ _=>⟨rfl,rfl⟩
 |same D qs r _ e ih=>
  intro b e' X hc hX Y;rw[qX,aJ (f:=T),d3,e,←af X,←af X,af _ _ Y,af _ _ Y];exact(ih hc.Bz.1 hX (aM (r.2.1-r.1).toNat (vw ι r.2.2)++Y))
 |turn D qs r f fl _ e p v ih=>
  intro b e' X hc hX Y;have u:=hc.Bz;have hl:((r.2.1-r.1).toNat:Int)=r.2.1-r.1:=bL (bk (bp u.2.1));have hA:∀{W:List PM},W.length=(expand ι D).length→((X++W).length:Int)=r.1:=λ{W}q=>by rw[aa,fH,q,u.1.exp,hX];lia
  have z:=λv=>ih u.1 hX (aM (r.2.1-r.1).toNat v++Y);have ev:vw ι (.ref f)=T (vw ι r.2.2):=p.view.trans v;rw[qX,aJ (f:=T),d3,←af X,←af X];refine⟨?_,?_⟩
  ·rw[aJ,ng,QV];show fX (λ_=>vw ι (.ref f)) (ng ι _ (qs.map uB)) r.1 r.2.1=_;rw[af _ _ Y,(z _).1,←af,EM (hA (ax _)) hl,ev]
  ·rw[hU,rS];show(qs.flatMap (pq ι)).foldr uV ((pr (r.1+1) (r.2.1+1) (vw ι r.2.2) (vw ι (.ref f))++[]).foldr uV _)=_;rw[ay,ev,Wm (by rw[hA (ax _)];lia) (by rw[hl];lia),af _ _ Y,(z _).2,←af]
theorem QS.len{ι:St}{T:PM→PM}{D:List Row}{qs:List nZ}(h:QS ι T D qs):qs.length≤D.length:=by
 induction h with
 |nil=>exact cM _
 |same D qs r _ e ih=>rw[aa];exact ji ih
 |turn D qs r f fl _ e p v ih=>rw[aa,aa];exact bU ih
structure QF(ι:St)(T:PM→PM)(D:List Row)(b e:Int)(q:nZ):Prop where
 lo:b≤q.1
 lt:q.1<q.2.1
 hi:q.2.1≤e
 new:xJ ι q.2.2.2
 old:∃r∈D,q.2.2.1=r.2.2
 vw:vw ι q.2.2.2=T (vw ι q.2.2.1)
 ne:T (Mine.Internal.vw ι q.2.2.1)≠Mine.Internal.vw ι q.2.2.1
theorem QS.each{ι:St}{T:PM→PM}{D:List Row}{qs:List nZ}(h:QS ι T D qs):∀{b e:Int},iM b D e→∀q∈qs,QF ι T D b e q:=by
 have up:∀{D r b e q},iM b (D++[r]) e→QF ι T D b r.1 q→QF ι T (D++[r]) b e q:=λhc f=>⟨f.lo,f.lt,aS f.hi (rwr hc.Bz.2.2 (bp hc.Bz.2.1)),f.new,f.old.imp λ_ z=>⟨aN _ z.1,z.2⟩,f.vw,f.ne⟩;induction h with
 |nil=>exact λ_ _ m=>absurd m aD
 |same D qs r _ e ih=>exact λhc q m=>up hc (ih hc.Bz.1 q m)
 |turn D qs r f fl _ e p v ih=>
  intro b e' hc q m;have u:=hc.Bz;exact(aU.mp m).elim (λm=>up hc (ih u.1 q m)) λm=>rwl (aQ.mp m) (⟨Ho.mp (aS (bJ _) u.1.each.1),u.2.1,CC u.2.2,⟨f,fl,rfl,p⟩,⟨r,az _ (.head _),rfl⟩,p.view.trans v,e⟩)
noncomputable def AV.qW(x:AV)(ps:List UR):AV:=match ps with
 |[]=>x
 |p::r=>x.note (p::r)
theorem WH{nt:Option Int}{md:Bool}{t:Int}:nb (pQ nt md t) md t=false:=by
 induction md with
 |true=>rfl
 |false=>induction nt with
  |none=>exact congrArg not (decide_eq_true rfl)
  |some u=>
   have h:nb (some u) false t=!decide (t=u):=rfl;unfold pQ;rw[h];by_cases c:t=u
   ·rw[decide_eq_true c];exact h.trans (congrArg not (decide_eq_true c))
   ·rw[decide_eq_false c];exact congrArg not (decide_eq_true rfl)
theorem BV{x:AV}{us ZF:List UR}:(x.note us).note ZF=x.note (us++ZF):=by
 show(x.note us).xQ (iu _ _ _ _++ZF) (pQ _ _ _)=_;unfold iu pQ;rw[show nb (x.note us).nt (decide ((x.note us).dZ<(x.note us).tk)) (x.note us).dZ=false from WH];show x.xQ ((iu _ _ _ _++us)++ZF) _=_;rw[af];rfl
theorem E1{x:AV}{r:UR}{ps:List UR}:(x.qW ps).note [r]=x.qW (ps++[r]):=by
 induction ps using aF with
 |nil=>rfl
 |cons=>exact BV
theorem HI{x:AV}{ps:List UR}:(x.qW ps).rows.length≤x.rows.length+1+ps.length:=by
 induction ps using aF with
 |nil=>exact iF _
 |cons=>exact KR
noncomputable def upR(r:Row):Row:=(r.1+1,r.2.1+1,r.2.2)
noncomputable abbrev J9(q:nZ):MV:=.tup [.int (q.1+1),.int (q.2.1+1),q.2.2.1,q.2.2.2]
noncomputable def AV.yN(x:AV)(T:PM→PM)(a e:Int)(ps:List UR):AV:=((x.note ps).MS (fX T x.V (a-1) (e-1))).EF
noncomputable def D8(a e:Int)(ps:List UR):Prop:=∀r∈ps,∃s e' k el,r=.prop s e' k el∧a≤s∧s<e'∧e'≤e∧(k=1∨k=2)
section
variable{be:Nat}{σ ι φ:St}{Q:bw}{A:BA}{x:AV}
theorem De{rq:Addr}{rows:List Row}(aV:ai 8 be=true)(h:B A ι φ σ x)(hs:x.V.length≤10000)(hr:ι rq=some (.list (rows.map gR)))(Fc:∀r∈rows,0≤r.1∧r.1≤r.2.1∧r.2.1≤x.V.length∧xJ ι r.2.2)
  (hq:∀cv bx av,Le ι bx→B A bx φ av (x.MS (ng ι x.V rows))→Q (.bool cv) av):D be (.fn 1038) [.ref A.tp,.ref rq] σ Q:=
 h.elim λi b=>FU aV b.pr (rwl b.MI (cK.mpr hs)) (b.pr.sub _ _ hr) (rwl b.MI Fc) λcv bx av L' p hv _ ev=>hq cv bx av ev.le (by have z:=b.ZQ p ev;rw[hv,b.V]at z;exact z)
theorem Bl{rq:Addr}{rows:List Row}(aV:ai 9 be=true)(h:B A ι φ σ x)(hs:x.V.length≤10000)(hr:ι rq=some (.list (rows.map gR)))(Fc:∀r∈rows,0≤r.1∧r.1≤r.2.1∧r.2.1≤x.V.length∧xJ ι r.2.2)
  (hq:∀cv bx av,Le ι bx→B A bx φ av (x.MS (ng ι x.V rows))→Q (.bool cv) av):D be (.fn 982) [.ref A.tp,.ref rq] σ Q:=by
 refine kJ aV ?_;dsimp only[gL];k_go;exact De rfl h hs hr Fc hq
theorem LV{t:Bool}(aV:ai 0 be=true)(h:B A ι φ σ x)(hq:∀av,B A ι φ av x.EF→Q .none av):D be (.fn 711) [.ref A.b,.bool t] σ Q:=
 h.elim λ_ b=>Pc aV b.b λAI=>hq _ (b.setB x.pt (x.tk+1) x.dZ AI)
theorem Jq{a e:Int}(aV:ai 5 be=true)(h:B A ι φ σ x)(hK:x.V.length≤2000)(h0:1≤a)(h1:a≤e)(h2:e≤x.V.length+1)
  (hq:∀c bx av rows,Le ι bx→bx c=some (.list (rows.map λr=>gR (upR r)))→B A bx φ av x→iM (a-1) rows (e-1)→expand ι rows=sl x.V (a-1) (e-1)→(∀r∈rows,xJ ι r.2.2)→Q (.ref c) av):D be (.fn 206) [.ref A.b,.int a,.int e] σ Q:=by
 refine h.elim λi b=>DT aV ?_;dsimp only[uc];have hb:=b.b;have OP:=b.pr.z4;have es:=b.MI;k_go;refine rj rfl b.pr (rwr es.symm (cK.mpr (ah hK (by decide)))) (bk h0) (gY h1 1) (rwr es.symm (bt h2)) λc1 rows tK xF hex xE=>?_
 rw[b.V]at hex;have hl:=xF.each.1;k_go;refine rR (s:=.list c1 (rows.map gR)) gR (λr=>gR (upR r)) (ak ..) rows [] (λr _ T hT=>?_) (ah (show _≤2000 by rw[bQ];lia) (by decide)) ?_
 ·k_go;exact hT
 ·refine(h.le ((Le.refl σ).new tK)).lU λc bx av k hc b'=>?_;k_go;exact hq c bx av rows k hc b' xF hex xE
end
theorem E8{p:Int→Prop}[DecidablePred p]{j:Int}:∀{pl:jx},lk (GA p pl) j=if p j then none else lk pl j
 |[]=>by
  show none=_;by_cases c:p j
  ·rw[if_pos c]
  ·rw[if_neg c];rfl
 |(a,u)::r=>by
  have ih:=E8 (p:=p) (j:=j) (pl:=r);unfold GA at ih⊢;by_cases c:p a
  ·rw[sY (by show¬(!decide (p a))=true;rw[decide_eq_true c];exact aq),ih]
   by_cases d:p j
   ·rw[if_pos d,if_pos d]
   ·rw[if_neg d,if_neg d];exact(if_neg λe:a=j=>d (rwr e c)).symm
  ·rw[h9 (by show(!decide (p a))=true;rw[decide_eq_false c];rfl)]
   show(if a=j then some u else lk (List.filter _ r) j)=if p j then none else if a=j then some u else lk r j;rw[ih];by_cases d:a=j
   ·rw[if_pos d,if_pos d,if_neg λe=>c (rwl d e)]
   ·rw[if_neg d,if_neg d]
theorem Good.rem{pl:jx}(h:Good pl){p:Int→Prop}[DecidablePred p]:Good (GA p pl):=⟨λe m=>h.k e (iR.mp m).1,(yP.map _).nodup h.n⟩
theorem RO{pl:jx}{k:Int}(hk:k=1∨k=2):view (GA (·=k) pl)=iq k none (view pl):=by
 unfold view;rw[E8,E8];rcases hk with rfl|rfl<;>rfl
theorem J7{pl:jx}{k w:Int}(hk:k=1∨k=2):view (uy pl k w)=iq k (some w) (view pl):=(J6 hk).symm
theorem yZ{pl:jx}{k:Int}{w:Option Int}(hk:k=1∨k=2):iq k w (view pl)=view pl↔lk pl k=w:=by
 rcases hk with rfl|rfl
 ·exact⟨λh=>(congrArg Gq h).symm,λh=>lQ h.symm rfl⟩
 ·exact⟨λh=>(congrArg Mj h).symm,λh=>lQ rfl h.symm⟩
theorem a0e{ι:St}{k:Int}{w:Option Int}{q:nZ}{pl:jx}(hk:k=1∨k=2)(hv:vw ι q.2.2.1=view pl)(h2:vw ι q.2.2.2=iq k w (vw ι q.2.2.1))(h1:iq k w (vw ι q.2.2.1)≠vw ι q.2.2.1):pq ι q=[.prop (q.1+1) (q.2.1+1) k (lk pl k)]:=by
 rw[hv]at h1 h2;unfold pq pr;rw[h2,hv];have n:w≠lk pl k:=λe=>h1 ((yZ hk).mpr e.symm);rcases hk with rfl|rfl
 ·show JJ _ _ 1 (lk pl 1) w++JJ _ _ 2 (lk pl 2) (lk pl 2)=_;unfold JJ;rw[if_neg n,if_pos rfl];rfl
 ·show JJ _ _ 1 (lk pl 1) (lk pl 1)++JJ _ _ 2 (lk pl 2) w=_;unfold JJ;rw[if_neg n,if_pos rfl];rfl
theorem CO{ι bx:St}(k:Le ι bx):∀{rows:List Row},(∀r∈rows,xJ ι r.2.2)→expand bx rows=expand ι rows:=by
 intro zl;induction zl with
 |nil=>
  rintro _;exact rfl
 |cons r rs ih=>
  rintro h;show aM _ (vw bx r.2.2)++expand bx rs=aM _ (vw ι r.2.2)++expand ι rs;rw[ti (h r (.head _)) k,ih λr m=>h r (.tail _ m)]
theorem QS.turned{Vo ι:St}{T:PM→PM}{rows:List Row}{qs:List nZ}{V:List PM}{a e:Int}(h:QS ι T rows qs)(k:Le Vo ι)(hp:∀r∈rows,xJ Vo r.2.2)(xF:iM (a-1) rows (e-1))(hex:expand Vo rows=sl V (a-1) (e-1))(h0:1≤a)(h1:a≤e)(h2:e≤V.length+1):
  ng ι V (qs.map uB)=fX T V (a-1) (e-1)∧(qs.flatMap (pq ι)).foldr uV (fX T V (a-1) (e-1))=V:=by
 have z:=h.put xF (fE (l:=V) (bk h0) (aS (gY h1 1) (bt h2))) (V.drop (e-1).toNat);rw[CO k hp,hex,←jW V (gY h1 1)]at z;exact z
theorem An{α β:Type}{f:α→List β}(h:∀q,(f q).length≤2){qs:List α}:(qs.flatMap f).length≤2*qs.length:=by
 induction qs with
 |nil=>exact cM _
 |cons q qs ih=>
  rw[QW,aa,cg,L7,jQ];exact ik ih (h q)
theorem SK{s e k:Int}{o n:Option Int}:(JJ s e k o n).length≤1:=by
 unfold JJ;split
 ·exact cy _
 ·exact cM _
theorem HF{s e:Int}{o n:PM}:(pr s e o n).length≤2:=rwr ((aa ..).symm) (ik SK SK)
theorem Yg{s e:Int}{o n:PM}(h:n≠o):pr s e o n≠[]:=λz=>by
 have z:=eI.mp z;unfold JJ at z;have g:∀{a b:Option Int}{u:UR},(if a=b then[]else[u])=[]→a=b:=λ{a b u}z=>eJ λc=>d7 _ _ ((if_neg c).symm.trans z);exact h (lQ (g z.1) (g z.2))
theorem Ot{s e k:Int}{o n:Option Int}{r:UR}(h:r∈JJ s e k o n):r=.prop s e k o:=by
 unfold JJ at h;by_cases c:n=o
 ·rw[if_pos c]at h;exact absurd h aD
 ·rw[if_neg c]at h;exact aQ.mp h
theorem Ye{ι:St}{T:PM→PM}{rows:List Row}{qs:List nZ}{a e:Int}(h:∀q∈qs,QF ι T rows (a-1) (e-1) q):D8 a e (qs.flatMap (pq ι)):=λr m=>by
 obtain⟨q,mq,m⟩:=Rl.mp m;have f:=h q mq;have b:a≤q.1+1∧q.1+1<q.2.1+1∧q.2.1+1≤e:=⟨Int.le_add_of_sub_right_le f.lo,yd f.lt 1,Int.add_le_of_le_sub_right f.hi⟩;exact(aU.mp m).elim (λm=>⟨_,_,_,_,Ot m,b.1,b.2.1,b.2.2,.inl rfl⟩) λm=>⟨_,_,_,_,Ot m,b.1,b.2.1,b.2.2,.inr rfl⟩
theorem Yf{ι:St}{T:PM→PM}{rows:List Row}{qs:List nZ}{a e:Int}(h:∀q∈qs,QF ι T rows a e q)(n:qs≠[]):qs.flatMap (pq ι)≠[]:=by
 induction qs using aF with
 |nil=>exact absurd rfl n
 |cons q r=>
  have f:=h q (.head _);intro z;rw[QW]at z;exact Yg (λe=>f.ne (f.vw.symm.trans e)) (eI.mp z).1
theorem IG{ι:St}{T:PM→PM}{rows:List Row}{qs:List nZ}{a e:Int}{V:List PM}(h:∀q∈qs,QF ι T rows (a-1) (e-1) q)(h0:1≤a)(h2:e≤V.length+1):∀r∈qs.map uB,0≤r.1∧r.1≤r.2.1∧r.2.1≤V.length∧xJ ι r.2.2:=λr m=>by
 obtain⟨q,mq,rfl⟩:=dv.mp m;have f:=h q mq;exact⟨aS (bk h0) f.lo,bp f.lt,aS f.hi (bt h2),f.new⟩
theorem WS{T:PM→PM}{l:List PM}(h:l.map T=l)(v)(m:v∈l):T v=v:=by
 induction l with
 |nil=>exact absurd m aD
 |cons x l ih=>exact(aE.mp m).elim (λe=>rwl e ((lT h).1)) (ih (lT h).2)
theorem QS.O9{Vo ι:St}{T:PM→PM}{rows:List Row}{qs:List nZ}{V:List PM}{a e:Int}(h:QS ι T rows qs)(k:Le Vo ι)(hp:∀r∈rows,xJ Vo r.2.2)(xF:iM (a-1) rows (e-1))(hex:expand Vo rows=sl V (a-1) (e-1))(h1:a≤e)(n:qs≠[]):fX T V (a-1) (e-1)≠V:=λz=>by
 have z:V.take (a-1).toNat++(sl V (a-1) (e-1)).map T++V.drop (e-1).toNat=V.take (a-1).toNat++sl V (a-1) (e-1)++V.drop (e-1).toNat:=z.trans (jW V (gY h1 1));induction qs using aF with
 |nil=>exact n rfl
 |cons q r=>
  have f:=h.each xF q (.head _);obtain⟨r,m,e⟩:=f.old;refine f.ne ((WS (kN (Ie z))) _ ?_);rw[←hex,←CO k hp,e];have l:=(xF.each.2 r m).2.1;exact Rl.mpr ⟨r,m,Pu.mpr ⟨by lia,rfl⟩⟩
theorem KS{x:AV}:∀{ps:List UR},ps≠[]→x.qW ps=x.note ps:=by
 intro zl;induction zl with
 |nil=>
  rintro h;exact absurd rfl h
 |cons _ _ ih=>
  rintro _;exact rfl
theorem Ox{x:AV}:∀{ps:List UR},(x.qW ps).V=x.V:=by
 intro zl;induction zl with
 |nil=>
  exact rfl
 |cons _ _ ih=>
  exact rfl
theorem B.fi{A:BA}{ι φ σ:St}{x:AV}{c:Addr}(h:B A ι φ σ x)(hc:φ c≠none):ι c=none:=h.elim λ_ h=>(h.fi c hc).1
section
variable{be:Nat}{σ ι φ:St}{Q:bw}{A:BA}{x:AV}
set_option maxHeartbeats 2000000 in
theorem VZ{a e k:Int}{w:Option Int}{cq:Addr}{rows:List Row}{qs:List nZ}{Bt:St}{v1 v2 v3 v4:Option MV}(b5:B A Bt (upd φ cq (.list (qs.map J9))) σ x)(fc:φ cq=none)(k5:Le ι Bt)(hS:QS Bt (iq k w) rows qs)
  (xE:∀r∈rows,xJ ι r.2.2) (xF:iM (a-1) rows (e-1)) (hex:expand ι rows=sl x.V (a-1) (e-1)) (hl:x.rows.length≤500000) (hK:x.V.length≤2000) (h0:1≤a) (h1:a≤e) (h2:e≤x.V.length+1) (hk:k=1∨k=2)
  (q0:∀bx av,Le ι bx→B A bx φ av x→fX (iq k w) x.V (a-1) (e-1)=x.V→Q (.bool false) av)
  (q1:∀bx av ps,Le ι bx→B A bx φ av (x.yN (iq k w) a e ps)→D8 a e ps→fX (iq k w) x.V (a-1) (e-1)≠x.V→(ps.length:Int)≤2*(e-a)→ps.foldr uV (fX (iq k w) x.V (a-1) (e-1))=x.V→Q (.bool true) av):
  wB (X 10) (qU 5 jr) [(ae,some (.ref A.b)),(au,some (.int a)),(aH,some (.int e)),(aG,some (.int k)),(gw,some (GB w)),(cz,some (.int a)),(bI,some (.int e)),(cf,some (.ref cq)),(dO,v1),(dh,v2),(aI,v3),(x_fresh,v4),(cI,none)] σ (ends Q):=by
 dsimp only[jr,qU];have TX:=b5.fr _ _ (ak ..);k_go;refine gi (λc=>?_) λc=>?_
 ·k_go;have e0:qs=[]:=dr ((ax ..).symm.trans (cO c));have t:=(hS.turned k5 xE xF hex h0 h1 h2).1;rw[e0]at t;exact q0 _ σ k5 (b5.drop ((Le.refl φ).new fc)) t.symm
 ·have b6:=b5.fix (xO:=φ) (ak ..) ((Le.refl φ).new fc) fc;have k6:Le Bt (upd Bt cq (.list (qs.map J9))):=(Le.refl _).new (b5.fi (aZ (ak ..)));have OV:=ak Bt cq (.list (qs.map J9));have hS:=hS.mono k6 λr m=>(xE r m).mono k5;have k6:=k5.trans k6;generalize upd Bt cq _=kO at b6 k6 OV hS;have hE:=hS.each xF;have hT:=hS.turned k6 xE xF hex h0 h1 h2;have hP:=ah (An (f:=pq kO) (λ_=>HF) (qs:=qs)) (pG 2 hS.len);have OR:=xF.each.1;have nF:qs≠[]:=λz=>c (congrArg (λl:List nZ=>((l.map J9).length:Int)) z);k_go;refine Bm rfl b6 ?_;k_go;refine lp J9 (a:=((v1,v2,v3,v4),[])) (λa_:(Option MV×Option MV×Option MV×Option MV)×List nZ=>[(ae,some (.ref A.b)),(au,some (.int a)),(aH,some (.int e)),(aG,some (.int k)),(gw,some (GB w)),(cz,some (.int a)),(bI,some (.int e)),(cf,some (.ref cq)),(dO,a_.1.1),(dh,a_.1.2.1),(aI,a_.1.2.2.1),(x_fresh,a_.1.2.2.2),(cI,none)])
   (λR a_ av=>B A kO φ av (x.qW (a_.2.flatMap (pq kO)))∧a_.2++R=qs) ⟨b6,rfl⟩ (λq vs a_ Mr R0 hI hR=>?_) λa_ Mr hI=>?_
  ·have f:=hE q (rwr hI.2 (az _ (.head _)));obtain⟨lo,hi,p,f'⟩:=q;induction f.old with|intro r z=>
   induction xE r z.1 with|intro qa z2=>
   induction z2 with|intro pl z2=>
   have ep:p=.ref qa:=z.2.trans z2.1;subst ep;have g6:=z2.2.mono k6;have hlp:(x.qW (a_.2.flatMap (pq kO))).rows.length≤700000:=ah HI (by
    have z:=congrArg bl hI.2;rw[aa]at z;have y:=An (f:=pq kO) (λ_=>HF) (qs:=a_.2);have:=hS.len;lia)
   induction hI.1 with|intro i7 b7=>
   have hb7:=b7.b;have a6a:=b7.pr.sub _ _ b7.im.rc;k_go;refine w7 rfl (hI.1.sub _ _ g6.at_) g6.len ?_;k_go;refine qf rfl hI.1 hlp (yd f.lt 1) λMc b8=>?_;k_go;refine⟨b8.sub _ _ OV,hR ((_,_,_,_),a_.2++[(lo,hi,MV.ref qa,f')]) Mc ⟨?_,by rw[af];exact hI.2⟩⟩
   rw[E1]at b8;rw[hU,JS,a0e (k:=k) (w:=w) hk g6.view f.vw f.ne];exact b8
  ·have e7:=hI.2;rw[ay]at e7;have b7:=hI.1;rw[e7]at b7;induction b7 with|intro i7 b7=>
   have hb7:=b7.b;have a56:=b7.pr.z4;have hc7:=b7.pr.sub _ _ OV;k_go;refine rR (s:=.list cq (qs.map J9)) J9 (λq=>gR (uB q)) hc7 qs [] (λq _ T hT=>?_) (ah (show _≤2000 by rw[bQ];have:=hS.len;lia) (by decide)) ?_
   ·k_go;rw[dM,dM];exact hT
   refine B.lU ⟨i7,b7⟩ λrq ι8 Mc k8 hr8 b8=>?_;rw[show qs.map (λq=>gR (uB q))=(qs.map uB).map gR from(jI (f:=uB) (g:=gR) (l:=qs)).symm]at hr8;k_go;have eV:(x.qW (qs.flatMap (pq kO))).V=x.V:=Ox;refine Bl rfl b8 (by rw[eV];exact ah hK (by decide)) hr8 (by rw[eV];exact λr m=>have z:=IG hE h0 h2 r m;⟨z.1,z.2.1,z.2.2.1,z.2.2.2.mono k8⟩) λcv ι9 Zb k9 b9=>?_
   rw[eV,mK k8 _ _ λr m=>(IG hE h0 h2 r m).2.2.2,hT.1,KS (Yf hE nF)]at b9;induction b9.at_ with|intro fY w9=>
   have hb9:=w9.1;k_go;refine LV rfl b9 λMs JO=>?_;induction JO with|intro i10 JO=>
   have a34:=JO.b;k_go;refine jm (JO.pr.sub _ _ JO.im.ls) λc hc=>?_;k_go;refine xr ?_;k_go;exact q1 ι9 _ _ (k6.trans (k8.trans k9)) (B.le ⟨i10,JO⟩ ((Le.refl Ms).new hc)) (Ye hE) (hS.O9 k6 xE xF hex h1 nF) (by lia) hT.2
end
section
variable{be:Nat}{σ ι φ:St}{Q:bw}{A:BA}{x:AV}
set_option maxHeartbeats 2000000 in
theorem FR{a e k:Int}{w:Option Int}(aV:ai 10 be=true)(h:B A ι φ σ x)(hl:x.rows.length≤500000)(hK:x.K.length≤2000)(hV:x.V.length=x.K.length)(h0:1≤a)(h1:a≤e)(h2:e≤x.K.length+1)(hk:k=1∨k=2)
  (q0:∀bx av,Le ι bx→B A bx φ av x→fX (iq k w) x.V (a-1) (e-1)=x.V→Q (.bool false) av)
  (q1:∀bx av ps,Le ι bx→B A bx φ av (x.yN (iq k w) a e ps)→D8 a e ps→fX (iq k w) x.V (a-1) (e-1)≠x.V→(ps.length:Int)≤2*(e-a)→ps.foldr uV (fX (iq k w) x.V (a-1) (e-1))=x.V→Q (.bool true) av):
  D be (.fn 223) [.ref A.b,.int a,.int e,.int k,GB w] σ Q:=by
 refine h.at_.elim λfY hb=>AM aV ?_;dsimp only[jr];have hb:=hb.1;k_go;refine mN rfl hb h0 h1 h2 ?_;k_go;refine fy rfl hb ?_;k_go;refine h.KW λcq dE fc YR=>?_;k_go;refine Jq rfl YR (rwl hV hK) h0 h1 (rwl hV h2) λc2 jA dp rows k2 mL h3 xF hex xE=>?_;have a33:=h3.sub _ _ mL;have OR:=xF.each.1;k_go;refine lp (λr=>gR (upR r)) (a:=((none,none,none,none),([],[],jA))) (λa_:(Option MV×Option MV×Option MV×Option MV)×List nZ×List Row×St=>[(ae,some (.ref A.b)),(au,some (.int a)),(aH,some (.int e)),(aG,some (.int k)),(gw,some (GB w)),(cz,some (.int a)),(bI,some (.int e)),(cf,some (.ref cq)),(dO,a_.1.1),(dh,a_.1.2.1),(aI,a_.1.2.2.1),(x_fresh,a_.1.2.2.2),(cI,none)])
  (λR a_ av=>B A a_.2.2.2 (upd φ cq (.list (a_.2.1.map J9))) av x∧Le jA a_.2.2.2∧a_.2.2.1++R=rows∧QS a_.2.2.2 (iq k w) a_.2.2.1 a_.2.1) ⟨h3,.refl _,rfl,.nil⟩ (λr vs a_ qJ R0 hI hR=>?_) λa_ qJ hI=>?_
 ·have hm:r∈rows:=rwr hI.2.2.1 (az _ (.head _));obtain⟨lo,hi,p⟩:=r;refine iA (xE _ hm) λq pl zh=>rU zh λGu g=>?_;subst Gu;have b5:=hI.1;have g5:=g.mono (k2.trans hI.2.1);have hq5:=b5.sub _ _ g5.at_;have TX:=b5.fr _ _ (ak ..);have hv5:=g5.view;have eD:a_.2.2.1++[(lo,hi,.ref q)]++vs=rows:=by rw[af];exact hI.2.2.1
  have hlq:(a_.2.1.map J9).length<lim:=by
   have z:=congrArg bl eD;rw[aa,aa]at z;rw[ax];exact bc (show _≤2000 by have:=hI.2.2.2.len;lia) (by decide)
  k_go;refine NM rfl hq5 g.len ?_;k_go;refine oT (λc=>?_) λc=>?_
  ·k_go;exact⟨b5.sub _ _ (hI.2.1 _ _ mL),hR ((_,_,_,a_.1.2.2.2),(a_.2.1,a_.2.2.1++[(lo,hi,.ref q)],a_.2.2.2)) _ ⟨b5,hI.2.1,eD,.same _ _ _ hI.2.2.2 (by rw[hv5];exact(yZ hk).mpr c)⟩⟩
  ·have turn:∀f fl kO pE,Le a_.2.2.2 kO→uj kO f fl→view fl=iq k w (view pl)→B A kO (upd φ cq (.list (a_.2.1.map J9))) pE x→pE cq=some (.list (a_.2.1.map J9))∧((upd pE cq (.list (a_.2.1.map J9++[J9 (lo,hi,.ref q,.ref f)]))) c2=some (.list (rows.map λr=>gR (upR r)))∧R0 [(ae,some (.ref A.b)),(au,some (.int a)),(aH,some (.int e)),(aG,some (.int k)),(gw,some (GB w)),(cz,some (.int a)),(bI,some (.int e)),(cf,some (.ref cq)),(dO,some (.int (lo+1))),(dh,some (.int (hi+1))),(aI,some (.ref q)),(x_fresh,some (.ref f)),(cI,none)] (upd pE cq (.list (a_.2.1.map J9++[J9 (lo,hi,.ref q,.ref f)])))):=λf fl kO pE k6 gf vf b6=>by
    have b7:=b6.put (o:=.list (a_.2.1.map J9++[J9 (lo,hi,.ref q,.ref f)])) (aZ (ak ..));rw[cZ]at b7;refine⟨b6.fr _ _ (ak ..),b7.sub _ _ (k6 _ _ (hI.2.1 _ _ mL)),hR ((_,_,_,some (.ref f)),(a_.2.1++[(lo,hi,.ref q,.ref f)],a_.2.2.1++[(lo,hi,.ref q)],kO)) _ ⟨by rw[aJ];exact b7,hI.2.1.trans k6,eD,?_⟩⟩
    have v6:=(g5.mono k6).view;exact .turn _ _ (lo,hi,.ref q) f fl (hI.2.2.2.mono k6 λr m=>(xE r (rwr hI.2.2.1 (aN _ m))).mono (k2.trans hI.2.1)) (by rw[v6];exact λz=>c ((yZ hk).mp z)) gf (by rw[v6];exact vf)
   induction w with
   |none=>
    k_go;refine D1 rfl hq5 g.len (b5.lU λf kO pE k6 hf b6=>?_);have t:=turn f _ kO pE k6 ⟨hf,g.good.rem,ah (L8 ..) g.len⟩ (RO hk) b6;have a1j:=t.1;k_go;refine dY a1j hlq ?_;k_go;exact t.2
   |some u=>
    k_go;refine tS rfl hq5 g.len (b5.lU λf kO pE k6 hf b6=>?_);have t:=turn f _ kO pE k6 ⟨hf,g.good.set hk,ah (g.good.set hk).sz (by decide)⟩ (J7 hk) b6
    have a1j:=t.1;k_go;refine dY a1j hlq ?_;k_go;exact t.2
 ·have eD:=hI.2.2.1;rw[ay]at eD;exact VZ hI.1 fc (k2.trans hI.2.1) (eD▸hI.2.2.2) xE xF hex hl (rwl hV hK) h0 h1 (rwl hV h2) hk q0 q1
end
theorem MY{pl fl:jx}{s e:Int}:pr s e (view pl) (view fl)=(chg pl fl).map λk=>.prop s e k (lk pl k):=by
 have g:∀k,JJ s e k (lk pl k) (lk fl k)=(if lk fl k=lk pl k then[]else[k]).map λk=>.prop s e k (lk pl k):=λk=>by
  unfold JJ;by_cases c:lk fl k=lk pl k
  ·rw[if_pos c,if_pos c];rfl
  ·rw[if_neg c,if_neg c];rfl
 unfold chg;rw[aJ,←g,←g];rfl
theorem O8{pl fl:jx}:0<(chg pl fl).length↔view fl≠view pl:=by
 have e:=congrArg bl (MY (pl:=pl) (fl:=fl) (s:=0) (e:=0));rw[ax]at e;rw[←e];constructor
 ·intro h q;rw[q]at h;exact absurd h (by unfold pr JJ;rw[if_pos rfl,if_pos rfl];exact zM _)
 ·exact λh=>NZ.mpr (Yg h)
theorem a5E{pl fl:jx}:(chg pl fl).length≤2:=by
 have e:=congrArg bl (MY (pl:=pl) (fl:=fl) (s:=0) (e:=0));rw[ax]at e;exact rwr e HF
section
variable{be:Nat}{σ ι φ:St}{Q:bw}{A:BA}{x:AV}
theorem LH{lo hi:Int}{q f:Addr}{pl fl:jx}{ps:List UR}(aV:ai 3 be=true)(h:B A ι φ σ (x.qW ps))(hl:x.rows.length+ps.length≤600000)(hq:uj ι q pl)(hf:uj ι f fl)(DK:lo<hi)
  (k:∀av,B A ι φ av (x.qW (ps++pr (lo+1) (hi+1) (view pl) (view fl)))→Q .none av):D be (.fn 1066) [.ref A.b,.int lo,.int hi,.ref q,.ref f] σ Q:=by
 refine h.at_.elim λfY w=>Fz aV ?_;dsimp only[xb];have hb:=w.1;k_go;refine nW rfl (h.sub _ _ hq.at_) (h.sub _ _ hf.at_) hq.good hf.good hq.len hf.len (h.KW λc dE fc h1=>?_);have tK:=h1.fr _ _ (ak ..);k_go;refine lp MV.int (a:=(none,[])) (λa_:Option MV×List UR=>[(ae,some (.ref A.b)),(aT,some (.int lo)),(aH,some (.int hi)),(zW,some (.ref q)),(J3,some (.ref f)),(aG,a_.1)])
  (λR a_ av=>B A ι (upd φ c (.list ((chg pl fl).map .int))) av (x.qW (ps++a_.2))∧a_.2++(R.map λk=>.prop (lo+1) (hi+1) k (lk pl k))=pr (lo+1) (hi+1) (view pl) (view fl)) ⟨by rw[ay];exact h1,MY.symm⟩ (λv vs a_ dp R0 hI hR=>?_) λa_ dp hI=>?_
 ·have hq2:=hI.1.sub _ _ hq.at_;have hlp:(x.qW (ps++a_.2)).rows.length≤700000:=ah HI (by
   have z:=congrArg bl hI.2;have y:=HF (s:=lo+1) (e:=hi+1) (o:=view pl) (n:=view fl);rw[aa]at z⊢;lia)
  induction hI.1 with|intro i2 b2=>
  have TZ:=b2.b;have a6b:=b2.pr.sub _ _ b2.im.rc;k_go;refine w7 rfl hq2 hq.len ?_;k_go;refine qf rfl hI.1 hlp (yd DK 1) λjJ b3=>?_;k_go;rw[E1,af]at b3;exact⟨b3.fr _ _ (ak ..),hR (_,a_.2++[.prop (lo+1) (hi+1) v (lk pl v)]) jJ ⟨b3,by rw[af];exact hI.2⟩⟩
 ·have e:=hI.2;rw[List.map_nil,ay]at e;k_go;exact k dp (rwr e (hI.1.drop ((Le.refl φ).new fc)))
end
noncomputable def lTR(b:Addr)(a e:Int)(tv rq:MV)(v1 v2 v3 v4:Option MV):Loc:=[(ae,some (.ref b)),(au,some (.int a)),(aH,some (.int e)),(vk,some tv),(cz,some (.int a)),(bI,some (.int e)),(aX,some rq),(aT,v1),(dh,v2),(aI,v3),(x_fresh,v4),(cI,none)]
section
variable{be:Nat}{σ ι φ:St}{Q:bw}{A:BA}{x:AV}
set_option maxHeartbeats 2000000 in
theorem VP{T:PM→PM}{a e:Int}{tv:MV}{cq:Addr}{rows:List Row}{qs:List nZ}{Bt:St}{v1 v2 v3 v4:Option MV}(b5:B A Bt (upd φ cq (.list (qs.map vO))) σ x)(fc:φ cq=none)(k5:Le ι Bt)(hS:QS Bt T rows qs)
  (xE:∀r∈rows,xJ ι r.2.2) (xF:iM (a-1) rows (e-1)) (hex:expand ι rows=sl x.V (a-1) (e-1)) (hl:x.rows.length≤500000) (hK:x.V.length≤2000) (h0:1≤a) (h1:a≤e) (h2:e≤x.V.length+1)
  (q0:∀bx av,Le ι bx→B A bx φ av x→fX T x.V (a-1) (e-1)=x.V→Q (.bool false) av)
  (q1:∀bx av ps,Le ι bx→B A bx φ av (x.yN T a e ps)→D8 a e ps→fX T x.V (a-1) (e-1)≠x.V→(ps.length:Int)≤2*(e-a)→ps.foldr uV (fX T x.V (a-1) (e-1))=x.V→Q (.bool true) av):
  wB (X 9) (qU 3 nX) (lTR A.b a e tv (.ref cq) v1 v2 v3 v4) σ (ends Q):=by
 dsimp only[nX,qU];have TX:=b5.fr _ _ (ak ..);k_go;refine gi (λc=>?_) λc=>?_
 ·k_go;have e0:qs=[]:=dr ((ax ..).symm.trans (cO c));have t:=(hS.turned k5 xE xF hex h0 h1 h2).1;rw[e0]at t;exact q0 _ σ k5 (b5.drop ((Le.refl φ).new fc)) t.symm
 ·have b6:=b5.fix (xO:=φ) (ak ..) ((Le.refl φ).new fc) fc;have k6:Le Bt (upd Bt cq (.list (qs.map vO))):=(Le.refl _).new (b5.fi (aZ (ak ..)));have OV:=ak Bt cq (.list (qs.map vO));have hS:=hS.mono k6 λr m=>(xE r m).mono k5;have k6:=k5.trans k6;generalize upd Bt cq _=kO at b6 k6 OV hS;have hE:=hS.each xF;have hT:=hS.turned k6 xE xF hex h0 h1 h2;have hP:=ah (An (f:=pq kO) (λ_=>HF) (qs:=qs)) (pG 2 hS.len);have OR:=xF.each.1;have nF:qs≠[]:=λz=>c (congrArg (λl:List nZ=>((l.map vO).length:Int)) z);induction b6 with|intro i6 b6=>
  have Vb:=b6.b;have hls:=b6.pr.sub _ _ b6.im.ls;k_go;refine mA rfl Vb ?_;k_go;refine jm hls λc hc=>?_;k_go;refine xr ?_;have b6:=B.le ⟨i6,b6⟩ ((Le.refl σ).new (o:=.list []) hc);have a5y:=b6.sub _ _ OV;generalize upd σ c _=pE at b6 a5y;k_go;refine lp vO (a:=((v1,v2,v3,v4),[])) (λa_:(Option MV×Option MV×Option MV×Option MV)×List nZ=>lTR A.b a e tv (.ref cq) a_.1.1 a_.1.2.1 a_.1.2.2.1 a_.1.2.2.2)
   (λR a_ av=>B A kO φ av (x.qW (a_.2.flatMap (pq kO)))∧a_.2++R=qs) ⟨b6,rfl⟩ (λq vs a_ Mr R0 hI hR=>?_) λa_ Mr hI=>?_
  ·have f:=hE q (rwr hI.2 (az _ (.head _)));obtain⟨lo,hi,p,f'⟩:=q;induction f.old with|intro r z=>
   induction xE r z.1 with|intro qa z2=>
   induction z2 with|intro pl z2=>
   have ep:p=.ref qa:=z.2.trans z2.1;subst ep;have g6:=z2.2.mono k6;induction f.new with|intro fa z3=>
   induction z3 with|intro fl z3=>
   have ef:f'=.ref fa:=z3.1;subst ef;have hlp:x.rows.length+(a_.2.flatMap (pq kO)).length≤600000:=by
    have z:=congrArg bl hI.2;rw[aa]at z;have y:=An (f:=pq kO) (λ_=>HF) (qs:=a_.2);have:=hS.len;lia
   k_go;refine LH rfl hI.1 hlp g6 z3.2 f.lt λMc b8=>?_;k_go;refine⟨b8.sub _ _ OV,hR ((_,_,_,_),a_.2++[(lo,hi,MV.ref qa,MV.ref fa)]) Mc ⟨?_,by rw[af];exact hI.2⟩⟩
   rw[hU,JS,show pq kO (lo,hi,MV.ref qa,MV.ref fa)=pr (lo+1) (hi+1) (view pl) (view fl)from congr (congrArg (pr (lo+1) (hi+1)) g6.view) z3.2.view];exact b8
  ·have e7:=hI.2;rw[ay]at e7;have b7:=hI.1;rw[e7]at b7;induction b7 with|intro i7 b7=>
   have hb7:=b7.b;have hc7:=b7.pr.sub _ _ OV;k_go;refine rR (s:=.list cq (qs.map vO)) vO (λq=>gR (uB q)) hc7 qs [] (λq _ T hT=>?_) (ah (show _≤2000 by rw[bQ];have:=hS.len;lia) (by decide)) ?_
   ·k_go;exact hT
   refine B.lU ⟨i7,b7⟩ λrq ι8 Mc k8 hr8 b8=>?_;rw[show qs.map (λq=>gR (uB q))=(qs.map uB).map gR from(jI (f:=uB) (g:=gR) (l:=qs)).symm]at hr8;k_go;have eV:(x.qW (qs.flatMap (pq kO))).V=x.V:=Ox;refine De rfl b8 (by rw[eV];exact ah hK (by decide)) hr8 (by rw[eV];exact λr m=>have z:=IG hE h0 h2 r m;⟨z.1,z.2.1,z.2.2.1,z.2.2.2.mono k8⟩) λcv ι9 Zb k9 b9=>?_
   rw[eV,mK k8 _ _ λr m=>(IG hE h0 h2 r m).2.2.2,hT.1,KS (Yf hE nF)]at b9;induction b9.at_ with|intro fY w9=>
   have hb9:=w9.1;k_go;refine LV rfl b9 λMs JO=>?_;induction JO with|intro i10 JO=>
   have a34:=JO.b;k_go;refine jm (JO.pr.sub _ _ JO.im.ls) λc hc=>?_;k_go;refine xr ?_;k_go;exact q1 ι9 _ _ (k6.trans (k8.trans k9)) (B.le ⟨i10,JO⟩ ((Le.refl Ms).new hc)) (Ye hE) (hS.O9 k6 xE xF hex h1 nF) (by lia) hT.2
end
section
variable{be:Nat}{σ ι φ:St}{Q:bw}{A:BA}{x:AV}
set_option maxHeartbeats 2000000 in
theorem wY{T:PM→PM}{a e:Int}{ps ns:List Str}{bd:N}{ms:List MV}(aV:ai 9 be=true)(h:B A ι φ σ x)(hl:x.rows.length≤500000)(hK:x.K.length≤2000)(hV:x.V.length=x.K.length)(h0:1≤a)(h1:a≤e)(h2:e≤x.K.length+1)
  (ht:∀{q pl bx xO av Q'},Le ι bx→uj bx q pl→B A bx xO av x→(∀f fl Dj gm,Le bx Dj→uj Dj f fl→view fl=T (view pl)→B A Dj xO gm x→Q' (.ref f) gm)→D 9 (.Fw ps bd ns ms) [.ref q] av Q')
  (q0:∀bx av,Le ι bx→B A bx φ av x→fX T x.V (a-1) (e-1)=x.V→Q (.bool false) av)
  (q1:∀bx av ps,Le ι bx→B A bx φ av (x.yN T a e ps)→D8 a e ps→fX T x.V (a-1) (e-1)≠x.V→(ps.length:Int)≤2*(e-a)→ps.foldr uV (fX T x.V (a-1) (e-1))=x.V→Q (.bool true) av):
  D be (.fn 1078) [.ref A.b,.int a,.int e,.Fw ps bd ns ms] σ Q:=by
 refine h.at_.elim λfY hb=>Fy aV ?_;dsimp only[nX];k_go;refine Bg rfl hb.1 h0 h1 h2 ?_;k_go;refine h.KW λcq dE fc YR=>?_;induction YR with|intro i1 b1=>
 have Fd:=b1.b;have es:=b1.MI;k_go;refine qe rfl b1.pr (es.symm▸cK.mpr (rwl hV (ah hK (by decide)))) (bk h0) (gY h1 1) (es.symm▸rwl hV (bt h2)) λc2 rows mL xF hex xE=>?_
 rw[b1.V]at hex;have b2:=B.W6 (o:=.list (rows.map gR)) ⟨i1,b1⟩ mL;have k2:Le ι (upd ι c2 (.list (rows.map gR))):=(Le.refl ι).new (b1.pr.sub.none mL);have mL:=ak ι c2 (.list (rows.map gR));generalize upd ι c2 _=jA at b2 k2 mL;generalize upd dE c2 _=dp at b2;have a33:=b2.sub _ _ mL;have OR:=xF.each.1;k_go;refine lp gR (a:=((none,none,none,none),([],[],jA))) (λa_:(Option MV×Option MV×Option MV×Option MV)×List nZ×List Row×St=>lTR A.b a e (.Fw ps bd ns ms) (.ref cq) a_.1.1 a_.1.2.1 a_.1.2.2.1 a_.1.2.2.2)
  (λR a_ av=>B A a_.2.2.2 (upd φ cq (.list (a_.2.1.map vO))) av x∧Le jA a_.2.2.2∧a_.2.2.1++R=rows∧QS a_.2.2.2 T a_.2.2.1 a_.2.1) ⟨b2,.refl _,rfl,.nil⟩ (λr vs a_ qJ R0 hI hR=>?_) λa_ qJ hI=>?_
 ·have hm:r∈rows:=rwr hI.2.2.1 (az _ (.head _));obtain⟨lo,hi,p⟩:=r;refine iA (xE _ hm) λq pl zh=>rU zh λGu g=>?_;subst Gu;have g5:=g.mono (k2.trans hI.2.1);have hv5:=g5.view;have eD:a_.2.2.1++[(lo,hi,.ref q)]++vs=rows:=by rw[af];exact hI.2.2.1
  have hlq:(a_.2.1.map vO).length<lim:=by
   have z:=congrArg bl eD;rw[aa,aa]at z;rw[ax];exact bc (show _≤2000 by have:=hI.2.2.2.len;lia) (by decide)
  k_go;refine ht (k2.trans hI.2.1) g5 hI.1 λf fl kO pE k6 gf vf b6=>?_;have hQ:=hI.2.2.2.mono k6 λr m=>(xE r (rwr hI.2.2.1 (aN _ m))).mono (k2.trans hI.2.1);have v6:=(g5.mono k6).view;k_go;refine nW rfl (b6.sub _ _ (k6 _ _ g5.at_)) (b6.sub _ _ gf.at_) g.good gf.good g.len gf.len λc3 hc3=>?_;have b7:=b6.le ((Le.refl pE).new (o:=.list ((chg pl fl).map .int)) hc3);have TX:=b7.fr _ _ (ak ..);k_go;refine gi (λc=>?_) λc=>?_
  ·k_go;refine dY TX hlq ?_;k_go;have b8:=b7.put (o:=.list (a_.2.1.map vO++[vO (lo,hi,.ref q,.ref f)])) (aZ (ak ..));rw[cZ]at b8;exact⟨b8.sub _ _ (k6 _ _ (hI.2.1 _ _ mL)),hR ((_,_,_,some (.ref f)),(a_.2.1++[(lo,hi,MV.ref q,MV.ref f)],a_.2.2.1++[(lo,hi,MV.ref q)],kO)) _ ⟨by rw[aJ];exact b8,hI.2.1.trans k6,eD,
    .turn _ _ (lo,hi,.ref q) f fl hQ (by rw[v6,←vf];exact O8.mp (cB.mp c)) gf (by rw[v6];exact vf)⟩⟩
  ·k_go;exact⟨b7.sub _ _ (k6 _ _ (hI.2.1 _ _ mL)),hR ((_,_,_,some (.ref f)),(a_.2.1,a_.2.2.1++[(lo,hi,MV.ref q)],kO)) _ ⟨b7,hI.2.1.trans k6,eD,.same _ _ _ hQ (by rw[v6,←vf];exact eJ λn=>c (cB.mpr (O8.mpr n)))⟩⟩
 ·have eD:=hI.2.2.1;rw[ay]at eD;exact VP hI.1 fc (k2.trans hI.2.1) (eD▸hI.2.2.2) xE xF hex hl (rwl hV hK) h0 h1 (rwl hV h2) q0 q1
end
theorem MD{X:Ctx}{ρ:Loc}{σ:St}{ps:List Str}{b:N}{ns:aK}{vs:List MV}{k:VK}(hl:X.lam)(hg:Lb ρ (Am ns)=some vs)(q:k (.Fw ps b (Am ns) vs) ρ σ):wE X (.lam ps b ns) ρ σ (at_ k ρ):=
 ⟨hl,by rw[hg];exact q⟩
theorem D.a0V{r:Nat}{ps ns:List Str}{b:N}{ms vs:List MV}{σ:St}{Q:bw}{ρ:Loc}(hr:ai rkL r=true)(e:a9 vs.length ps.length=true)(hρ:Hz (ps.zip vs++ns.zip ms)=ρ)(h:wE (X rkL) b ρ σ (at_ (λv _ σ=>Q v σ) ρ)):D r (.Fw ps b ns ms) vs σ Q:=by
 subst hρ;exact D.lam hr e h
noncomputable def ZZ(js:List Int)(p:PM):PM:=(if 1∈js then none else p.1,if 2∈js then none else p.2)
section
variable{be:Nat}{σ ι φ:St}{Q:bw}{A:BA}{x:AV}
noncomputable abbrev Dg(A:BA)(ι φ:St)(x:AV)(T:PM→PM)(a e:Int)(Q:bw):Prop:=(∀bx av,Le ι bx→B A bx φ av x→fX T x.V (a-1) (e-1)=x.V→Q (.bool false) av)∧
 ∀bx av ps,Le ι bx→B A bx φ av (x.yN T a e ps)→D8 a e ps→fX T x.V (a-1) (e-1)≠x.V→(ps.length:Int)≤2*(e-a)→ps.foldr uV (fX T x.V (a-1) (e-1))=x.V→Q (.bool true) av
theorem a4m{a e k v:Int}(aV:ai 10 be=true)(h:B A ι φ σ x)(hl:x.rows.length≤500000)(hK:x.K.length≤2000)(hV:x.V.length=x.K.length)(h0:1≤a)(h1:a≤e)(h2:e≤x.K.length+1)(hk:k=1∨k=2)
  (q:Dg A ι φ x (iq k (some v)) a e Q):D be (.fn 1085) [.ref A.b,.int a,.int e,.int k,.int v] σ Q:=by
 refine UC aV ?_;dsimp only[UO];k_go;refine MD rfl rfl ?_;k_go;refine wY (T:=iq k (some v)) rfl h hl hK hV h0 h1 h2 (λ{q pl bx xO av Q'}k' g b q'=>?_) (λbx av k' b e=>?_) λbx av ps k' b o n l f=>?_
 ·refine D.a0V (ρ:=[(aI,some (.ref q)),(cX,some (.int v)),(aG,some (.int k))]) rfl rfl rfl ?_;k_go;exact tS rfl (b.sub _ _ g.at_) g.len (b.lU λf kO pE k6 hf b6=>q' f _ kO pE k6 ⟨hf,g.good.set hk,ah (g.good.set hk).sz (by decide)⟩ (J7 hk) b6)
 ·k_go;exact q.1 bx av k' b e
 ·k_go;exact q.2 bx av ps k' b o n l f
theorem QM{a e:Int}{p0:Addr}{pl0:jx}(aV:ai 10 be=true)(h:B A ι φ σ x)(hp:uj ι p0 pl0)(hl:x.rows.length≤500000)(hK:x.K.length≤2000)(hV:x.V.length=x.K.length)(h0:1≤a)(h1:a≤e)(h2:e≤x.K.length+1)
  (q:Dg A ι φ x (λ_=>view pl0) a e Q):D be (.fn 1092) [.ref A.b,.int a,.int e,.ref p0] σ Q:=by
 refine h.at_.elim λfY hb=>Jj aV ?_;dsimp only[Cv];have hb:=hb.1;k_go;refine Bg rfl hb h0 h1 h2 ?_;k_go;refine mA rfl hb ?_;k_go;refine MD rfl rfl ?_;k_go;refine wY (T:=λ_=>view pl0) rfl h hl hK hV h0 h1 h2 (λ{q pl bx xO av Q'}k' g b q'=>?_) (λbx av k' b e=>?_) λbx av ps k' b o n l f=>?_
 ·refine D.a0V (ρ:=[(zW,some (.ref q)),(aI,some (.ref p0))]) rfl rfl rfl ?_;k_go;exact jm (b.sub _ _ (hp.mono k').at_) (b.lU λf kO pE k6 hf b6=>q' f pl0 kO pE k6 ⟨hf,hp.good,hp.len⟩ rfl b6)
 ·k_go;exact q.1 bx av k' b e
 ·k_go;exact q.2 bx av ps k' b o n l f
theorem UI{a e:Int}{nq:Addr}{js:List Int}(aV:ai 10 be=true)(h:B A ι φ σ x)(hn:ι nq=some (.list (js.map .int)))(hl:x.rows.length≤500000)(hK:x.K.length≤2000)(hV:x.V.length=x.K.length)(h0:1≤a)(h1:a≤e)(h2:e≤x.K.length+1)
  (q:Dg A ι φ x (ZZ js) a e Q):D be (.fn 1099) [.ref A.b,.int a,.int e,.ref nq] σ Q:=by
 refine LC aV ?_;dsimp only[Gh];k_go;refine MD rfl rfl ?_;k_go;refine wY (T:=ZZ js) rfl h hl hK hV h0 h1 h2 (λ{q pl bx xO av Q'}k' g b q'=>?_) (λbx av k' b e=>?_) λbx av ps k' b o n l f=>?_
 ·refine D.a0V (ρ:=[(aI,some (.ref q)),(eU,some (.ref nq))]) rfl rfl rfl ?_;k_go;refine D2 rfl (b.sub _ _ g.at_) (b.sub _ _ (k' _ _ hn)) g.len (b.lU λf kO pE k6 hf b6=>q' f _ kO pE k6 ⟨hf,g.good.rem,ah (L8 ..) g.len⟩ ?_ b6);unfold view ZZ;rw[E8,E8]
 ·k_go;exact q.1 bx av k' b e
 ·k_go;exact q.2 bx av ps k' b o n l f
end
theorem a1P{X:Ctx}{ρ:Loc}{β:Type}{e t fs:N}{s:Src}{Q:List MV→St→Prop}(V:β→MV)(I:List β→List MV→St→Prop)(hI:∀{vs acc σ},I vs acc σ→s.oi σ∧acc.length≤lim)
  (hs:∀v vs acc σ(T:Option MV→St→Prop),I (v::vs) acc σ→(∀u av,I vs (acc++[u]) av→T (some u) av)→UN (yJ X t (V v) ρ) (W3 X e fs T) σ) (he:∀acc σ,I [] acc σ→Q acc σ)
  {rows:List β} {acc:List MV} {σ:St} (h:I rows acc σ):CW X e t fs ρ s (rows.map V) acc σ Q:=by
 induction rows generalizing acc σ with
 |nil=>exact he acc σ h
 |cons v vs ih=>exact Pq (hs v vs acc σ _ h λu av h'=>⟨(hI h').1,Nat.lt_of_succ_le (by have:=(hI h').2;rw[aa]at this;exact this),ih h'⟩)
theorem M0{f:PM→PM}{X M Y:List PM}{off lo hi:Int}(hX:(X.length:Int)=off)(h0:0≤lo)(h1:lo≤hi)(h2:hi≤M.length):fX f (X++M++Y) (off+lo) (off+hi)=X++fX f M lo hi++Y:=by
 have e:=jW M h1;have la:=fE h0 (aS h1 h2);rw[show X++M++Y=(X++M.take lo.toNat)++sl M lo hi++(M.drop hi.toNat++Y)from(congrArg (λZ=>X++Z++Y) e).trans (by simp only[af]),z' (by rw[aa,fH,hX,la]) (by rw[tz h0 h1 h2];lia)]
 show _=X++(M.take lo.toNat++(sl M lo hi).map f++M.drop hi.toNat)++Y;simp only[af]
theorem EN{f:PM→PM}{M:List PM}{lo hi:Int}(h0:0≤lo)(h1:lo≤hi)(h2:hi≤M.length):(fX f M lo hi).length=M.length:=by
 have e:=congrArg bl (jW M h1);show(M.take lo.toNat++(sl M lo hi).map f++M.drop hi.toNat).length=_;rw[e,aa,aa,aa,aa,ax]
theorem SI{ι:St}{rows:List Row}{M:List PM}(h:∀r∈rows,0≤r.1∧r.1≤r.2.1∧r.2.1≤(M.length:Int)):(ng ι M rows).length=M.length:=by
 induction rows generalizing M with
 |nil=>rfl
 |cons r rs ih=>
  have z:=h r (.head _);have e:=EN (f:=λ_=>vw ι r.2.2) z.1 z.2.1 z.2.2;exact(ih λq m=>rwr e.symm (h q (.tail _ m))).trans e
theorem HD{ι:St}{V:List PM}{rows:List Row}{r:Row}:ng ι V (rows++[r])=fX (λ_=>vw ι r.2.2) (ng ι V rows) r.1 r.2.1:=QV ..
noncomputable def AV.gW(x:AV)(A:BA)(K:List Int)(W:List PM):AV:=(x.D7 A x.pt K false true).MS (x.V.take (x.pt-1).toNat++W++x.V.drop (x.pt-1).toNat)
structure ShI(ι:St)(off:Int)(X M Y:List PM)(D ds:List Row):Prop where
 eq:ng ι (X++M++Y) ds=X++ng ι M D++Y
 each:∀r∈ds,off≤r.1∧r.1≤r.2.1∧r.2.1≤off+M.length∧xJ ι r.2.2
 pl:∀r∈D,0≤r.1∧r.1≤r.2.1∧r.2.1≤(M.length:Int)∧xJ ι r.2.2
 n:ds.length=D.length
theorem ShI.mono{ι bx:St}{off:Int}{X M Y:List PM}{D ds:List Row}(h:ShI ι off X M Y D ds)(k:Le ι bx):ShI bx off X M Y D ds:=
 ⟨by rw[mK k _ _ λr m=>(h.each r m).2.2.2,mK k _ _ λr m=>(h.pl r m).2.2.2];exact h.eq,λr m=>have z:=h.each r m;⟨z.1,z.2.1,z.2.2.1,z.2.2.2.mono k⟩,λr m=>have z:=h.pl r m;⟨z.1,z.2.1,z.2.2.1,z.2.2.2.mono k⟩,h.n⟩
theorem ShI.snoc{ι:St}{off:Int}{X M Y:List PM}{D ds:List Row}{lo hi:Int}{p:MV}{f:Addr}{fl:jx}(h:ShI ι off X M Y D ds)(hX:(X.length:Int)=off)(z:0≤lo∧lo≤hi∧hi≤(M.length:Int)∧xJ ι p)(g:uj ι f fl)(v:view fl=vw ι p):ShI ι off X M Y (D++[(lo,hi,p)]) (ds++[(off+lo,off+hi,.ref f)]):=
 ⟨by
  have hl:=SI (ι:=ι) (rows:=D) (M:=M) λr m=>have z:=h.pl r m;⟨z.1,z.2.1,z.2.2.1⟩;rw[HD,HD,h.eq];show fX (λ_=>vw ι (.ref f)) _ (off+lo) (off+hi)=X++fX (λ_=>vw ι p) _ lo hi++Y;rw[M0 hX z.1 z.2.1 (rwr hl.symm z.2.2.1),g.view,v],
 λr m=>(aU.mp m).elim (h.each r) λm=>rwl (aQ.mp m) (⟨by show off≤off+lo;lia,zJ z.2.1 _,zJ z.2.2.1 _,f,fl,rfl,g⟩),
 λr m=>(aU.mp m).elim (h.pl r) λm=>rwl (aQ.mp m) z,by rw[aa,aa,h.n];rfl⟩
section
variable{be:Nat}{σ ι φ:St}{Q:bw}{A:BA}{x:AV}
set_option maxHeartbeats 2000000 in
theorem F0{pc:Addr}{K:List Int}{W:List PM}(aV:ai 12 be=true)(h:B A ι φ σ x)(hl:x.rows.length≤600000)(hn:DE x.rows=true)(hV:x.V.length=x.K.length)(hp:XW ι pc K W)(hK:K.length≠0)
  (h0:1≤x.pt) (h1:x.pt≤x.K.length+1) (xD:x.K.length+K.length+8≤2000) (hq:∀bx av,Le ι bx→B A bx φ av (x.gW A K W)→Q .none av):D be (.fn 211) [.ref A.b,.ref pc] σ Q:=by
 induction hp with|mk kc kr runs hpc YI hkr ok v n=>
 refine h.at_.elim λfY w=>AS aV ?_;dsimp only[qo];have hb:=w.1;have a6g:=h.sub _ _ hpc;k_go;refine UK rfl h hl hn hV YI hK h0 h1 xD λBu dE k1 b1=>?_;have a6f:=b1.sub _ _ (k1 _ _ hpc);have a6n:=b1.sub _ _ (k1 _ _ YI);induction b1.at_ with|intro a6r w1=>
 have Fd:=w1.1;have OW:=bk h0;have lt:=fE OW (hV▸bt h1);have e1:(x.D7 A x.pt K false true).V=x.V.take (x.pt-1).toNat++aM K.length (none,none)++x.V.drop (x.pt-1).toNat:=by
  show K9 x.V (x.pt-1) ((K.length:Nat):Int).toNat (none,none)=_;rw[cS];rfl
 k_go;refine pk (cB.mpr (iN hK)) ?_;k_go;refine b1.lU λc0 jA dp k2 hc0 b2=>?_;k_go;refine b2.lU λrq Md jJ k3 hrq b3=>?_;have a6e:=b3.sub _ _ (k3 _ _ (k2 _ _ (k1 _ _ hpc)));have k13:=k1.trans (k2.trans k3);have a6m:=b3.sub _ _ (k13 _ _ hkr);have hz:uj Md c0 []:=⟨k3 _ _ hc0,⟨λ_ h=>absurd h aD,.nil⟩,cy _⟩;k_go;refine a1P (s:=.list kr (runs.map gR)) gR (λR acc av=>∃bx ds D,acc=ds.map gR∧Le Md bx∧B A bx φ av (x.D7 A x.pt K false true)∧D++R=runs∧ShI bx (x.pt-1) (x.V.take (x.pt-1).toNat) (aM K.length (none,none)) (x.V.drop (x.pt-1).toNat) D ds)
  (λ{vs acc av}hI=>?_) (λr vs acc av T hI hT=>?_) (λacc av hI=>?_) ⟨Md,[],[],rfl,.refl _,b3,rfl,(⟨rfl,λ_ h=>absurd h aD,λ_ h=>absurd h aD,rfl⟩)⟩
 ·refine JM hI λbx ds D zh=>an5 zh λIk k b e i=>?_;subst Ik;exact⟨b.sub _ _ (k _ _ (k13 _ _ hkr)),by rw[ax,i.n];exact ah (e▸aa ..▸bq ..) (ah n (by decide))⟩
 ·obtain⟨bx,ds,D,rfl,k,b,e,i⟩:=hI;have z:=ok r (e▸az _ (.head _));obtain⟨lo,hi,p⟩:=r;obtain⟨z1,z2,z3,q,pl,rfl,g⟩:=z;have g':=g.mono (k13.trans k);k_go;refine jm (b.sub _ _ g'.at_) (b.lU λf Ec vh k4 hf b4=>?_);k_go;refine hT _ vh ⟨Ec,ds++[(x.pt-1+lo,x.pt-1+hi,.ref f)],D++[(lo,hi,.ref q)],by rw[aJ];rfl,k.trans k4,b4,by rw[af];exact e,?_⟩
  have g4:=g'.mono k4;exact(i.mono k4).snoc lt ⟨z1,z2,by rw[bP];exact z3,q,pl,rfl,g4⟩ ⟨hf,g.good,g.len⟩ g4.view.symm
 ·obtain⟨bx,ds,D,rfl,k,b,e,i⟩:=hI;rw[ay]at e;subst e;refine b.lU λc5 Bt qJ k5 hc5 b5=>?_;have k35:=k.trans k5;k_go;refine BH (b5.sub _ _ (k35 _ _ hrq)) (b5.sub _ _ hc5) (by rw[ax,i.n];exact ah (c9 n 1) (by decide)) (b5.lU λc6 kO pE k6 OV b6=>?_)
  have a6d:=b6.sub _ _ (k6 _ _ (k35 _ _ (k13 _ _ hpc)));induction b6.at_ with|intro a6o w6=>
  have Vb:=w6.1;induction b6 with|intro i6 b6=>
  have a57:=b6.pr.z4;k_go;have i6':=i.mono (k5.trans k6);have z6:vw kO (.ref c0)=(none,none):=(hz.mono (k35.trans k6)).view;have hl1:(x.D7 A x.pt K false true).V.length=x.V.length+K.length:=by rw[e1,tJ,bP]
  refine Bl (rows:=(x.pt-1,x.pt-1+(K.length:Nat),.ref c0)::ds) rfl ⟨i6,b6⟩ (by rw[hl1];lia) OV (λr m=>?_) λcv Q1 Mr k7 b7=>?_
  ·rw[hl1];refine(aE.mp m).elim (λq=>q▸⟨OW,Int.le_add_of_nonneg_right (bJ _),?_,c0,[],rfl,hz.mono (k35.trans k6)⟩) λm=>?_
   ·show x.pt-1+(K.length:Nat)≤_;lia
   ·have z:=i6'.each r m;rw[bP]at z;exact⟨aS OW z.1,z.2.1,by lia,z.2.2.2⟩
  ·k_go;refine hq Q1 Mr (k13.trans (k35.trans (k6.trans k7))) ?_;have e2:ng kO (x.D7 A x.pt K false true).V ((x.pt-1,x.pt-1+(K.length:Nat),.ref c0)::ds)=x.V.take (x.pt-1).toNat++W++x.V.drop (x.pt-1).toNat:=by
    rw[e1];show ng kO (fX (λ_=>vw kO (.ref c0)) _ (x.pt-1) (x.pt-1+(K.length:Nat))) ds=_;rw[EM lt (by lia),z6,i6'.eq,mK (k13.trans (k35.trans k6)) _ _ λr m=>(ok r m).2.2.2,v]
   rw[e2]at b7;exact b7
end
noncomputable def BA.Yl(A:BA)(i:Bool):Addr:=bif i then A.m2 else A.m1
noncomputable def AV.mp(x:AV)(i:Bool):Int:=bif i then x.p2 else x.p1
noncomputable def AV.Sl(x:AV)(i:Bool)(p:Int):AV:=bif i then x.setM x.p1 p else x.setM p x.p2
noncomputable abbrev zd(A:BA)(e:Bool×Int):MV:=.tup [.str aL,.ref (A.Yl e.1),.int e.2]
noncomputable abbrev mkV(A:BA)(e:Bool×Int):MV:=.tup [.ref (A.Yl e.1),.int e.2]
noncomputable def AV.Qx(x:AV)(e:Bool×Int):AV:=x.Sl e.1 (p9 1 (x.K.length+1) (x.mp e.1-e.2))
noncomputable def AV.Qw(x:AV)(ms:List (Bool×Int)):AV:=ms.foldl AV.Qx x
noncomputable def tm(a:Int)(x:AV)(ms:List (Bool×Int)):List (Bool×Int):=ms.filter λe=>decide (x.mp e.1=a)
noncomputable def AV.vF(x:AV)(A:BA)(a:Int)(K:List Int)(W:List PM)(f:Bool)(ms:List (Bool×Int)):AV:=
 (bif f then(x.goto a).gW A K W else((x.goto a).gW A K W).goto a).Qw (tm a x ms)
noncomputable def lUD(b:Addr)(row mr vq:MV)(v1 v2 v3:Option MV):Loc:=[(ae,some (.ref b)),(dW,some row),(dX,some mr),(s7,some vq),(Er,v1),(aL,v2),(eh,v3)]
theorem a20{X:Ctx}{ρ:Loc}{σ:St}{a:Addr}{l:List (Int×MV)}{i:Int}{k:TK}(h:σ a=some (.dict l))(q:k (Cd l i).isSome ρ σ):ka X .In (.int i) (.ref a) k ρ σ:=by
 show look σ a _ _ _;exact I9 h q
section
variable{be:Nat}{σ ι φ:St}{Q:bw}{A:BA}{x:AV}
theorem B.mkA(h:B A ι φ σ x)(i:Bool):∃n v,σ (A.Yl i)=some (eB n v (.ref A.b) (x.mp i))∧(Cd [(1,MV.ref A.m1),(2,.ref A.m2)] n).isSome=true∧∀p,B A ι φ (upd σ (A.Yl i) (eB n v (.ref A.b) p)) (x.Sl i p):=
 h.elim λ_ b=>by
 induction i with
 |true=>exact⟨2,true,b.m2,rfl,λ_=>b.setM (.put (.tail _ (.head _))) ((aC b.Q8.n12).trans b.m1) (ak ..)⟩
 |false=>exact⟨1,A.a1,b.m1,rfl,λ_=>b.setM (.put (.head _)) (ak ..) ((aC b.Q8.n12.symm).trans b.m2)⟩
theorem Jw{p:Int}(aV:ai 0 be=true)(h:B A ι φ σ x)(h0:1≤p)(h1:p≤x.K.length+1)(hq:∀av,B A ι φ av (x.goto p)→Q (.int p) av):D be (.fn 683) [.ref A.b,.int p] σ Q:=
 h.elim λi b=>a1x aV b.b (by rw[Fx h0 h1];exact hq _ (b.setB p x.tk x.dZ i.fY))
theorem NP{s e:Int}(aV:ai 1 be=true)(h:B A ι φ σ x)(h0:1≤s)(h2:e≤x.K.length+1)(hq:Q .none σ):D be (.fn 334) [.ref A.b,.int s,.int e] σ Q:=h.elim λ_ b=>FX aV b.b h0 h2 hq
theorem El(aV:ai 1 be=true)(h:B A ι φ σ x)(hq:Q (.int x.K.length) σ):D be (.fn 662) [.ref A.b] σ Q:=h.elim λ_ b=>Jo aV b.b b.gap (rwl b.K hq)
theorem Ha{a b:Int}{w:Str}(aV:ai 11 be=true)(h:B A ι φ σ x)(hl:x.rows.length≤600000)(hK:x.K.length≤2000)(hV:x.V.length=x.K.length)(h0:1≤a)(h1:a<b)(h2:b≤x.K.length+1)
  (hq:∀bx av pc,Le ι bx→B A bx φ av ((x.goto a).Hk A pc a b)→Q .none av):D be (.fn 348) [.ref A.b,.tup [.str w,.int a,.int b]] σ Q:=by
 refine h.at_.elim λfY hb=>Cf aV ?_;dsimp only[rJ];have hb:=hb.1;k_go;refine NP rfl h h0 h2 ?_;k_go;refine Jw rfl h h0 (bp (iO h1 h2)) λdE b1=>?_;k_go;refine LU rfl b1 hl hK hV h0 h1 h2 λc jA dp pc k2 b2=>?_;k_go;exact hq jA dp pc k2 b2
theorem VN{vq:Addr}{row mr:MV}{v1 v2 v3:Option MV}{vs:List (Bool×Int)}(h:B A ι (upd φ vq (.list (vs.map (mkV A)))) σ x)(fc:φ vq=none)(hq:∀av,B A ι φ av (x.Qw vs)→Q .none av):wB (X 13) (qU 6 gT) (lUD A.b row mr (.ref vq) v1 v2 v3) σ (ends Q):=by
 dsimp only[gT,qU];have hv:=h.fr _ _ (ak ..);k_go;refine lp (mkV A) (a:=((v2,v3),x)) (λa_:(Option MV×Option MV)×AV=>lUD A.b row mr (.ref vq) v1 a_.1.1 a_.1.2) (λR a_ av=>B A ι (upd φ vq (.list (vs.map (mkV A)))) av a_.2∧a_.2.Qw R=x.Qw vs) ⟨h,rfl⟩ (λe R a_ dE R0 hI hR=>?_) λa_ dE hI=>?_
 ·induction hI.1.mkA e.1 with|intro n z=>
  induction z with|intro v z=>
  have hm:=z.1;have b1:=hI.1;induction b1 with|intro i1 b1=>
  have Fd:=b1.b;k_go;refine El rfl hI.1 ?_;k_go;have b2:=z.2.2 (p9 1 (a_.2.K.length+1) (a_.2.mp e.1-e.2));exact⟨b2.fr _ _ (ak ..),hR ((_,_),a_.2.Qx e) _ ⟨b2,hI.2⟩⟩
 ·k_go;exact hq dE (rwr hI.2 (hI.1.drop ((Le.refl φ).new fc)))
end
noncomputable def Bv:List UR→List (Bool×Int)
 |.mk i _ d::r=>(i,d)::Bv r
 |_=>[]
noncomputable def UR.B3(r:UR):Bool:=match r with
 |.mk _ _ _=>true
 |_=>false
theorem a31(r:UR):sm r.hd aL=r.B3:=by
 induction r with
 |bd=>exact(rfl:sm fW aL=false)
 |tu=>exact(rfl:sm dN aL=false)
 |ins=>exact(rfl:sm ee aL=false)
 |del=>exact(rfl:sm gE aL=false)
 |mk=>exact(rfl:sm aL aL=true)
 |prop=>exact(rfl:sm j7 aL=false)
theorem a0t{r:UR}{R:List UR}(h:r.B3=false):Bv (r::R)=[]:=by
 induction r with
 |mk=>exact absurd h.symm aq
 |_=>rfl
theorem S9:∀R:List UR,(Bv R).length≤R.length:=by
 intro zl;induction zl with
 |nil=>
  exact cM _
 |cons r R ih=>
  induction r with
  |mk i m d=>exact bU (ih)
  |_=>exact cy _
theorem EL{σ:St}{wq:Addr}{R tl:List UR}{r:UR}{i:Int}{Q:bw}(h:σ wq=some (uA (R.reverse++r::tl)))(e:i=R.length)(q:Q r.val σ):l8 (.ref wq) (.int i) σ Q:=by
 rw[e];exact j9 (j:=R.length) h (by rw[lR,Gs (cR (c7 ..)),c7,a1R];rfl) q
section
variable{be:Nat}{σ ι φ:St}{Q:bw}{A:BA}{x:AV}
theorem D4{wq:Addr}{rest tl:List UR}(aV:ai 0 be=true)(h:B A ι φ σ x)(hw:ι wq=some (uA (rest.reverse++tl)))(hl:rest.length≤900000)(ok:∀r∈rest,jf ι A r)
  (hq:∀c bx av,Le ι bx→bx c=some (.list ((Bv rest).map (zd A)))→B A bx φ av x→Q (.ref c) av):D be (.fn 341) [.ref wq,.int rest.length] σ Q:=by
 refine zp aV ?_;dsimp only[oA];k_go;refine h.KW λc dE fc h1=>?_;k_go;refine dS λP hP=>?_;have key:∀(R D:List _)(Kh:List UR)(av:St),B A ι (upd φ c (.list (D.map (zd A)))) av x→D++Bv R=Bv rest→rest.reverse++tl=R.reverse++Kh→(∀r∈R,jf ι A r)→D.length+R.length≤900000→P [(aX,some (.ref wq)),(x_at,some (.int R.length)),(bG,some (.ref c))] av:=by
  intro R;have fin:∀(D:List (Bool×Int))(av:St),B A ι (upd φ c (.list (D.map (zd A)))) av x→D=Bv rest→Q (.ref c) av:=λD av b e=>by
   rw[e]at b;exact hq c _ av ((Le.refl ι).new (b.fi (aZ (ak ..)))) (ak ..) (b.fix (ak ..) ((Le.refl φ).new fc) fc)
  induction R with
  |nil=>
   intro D Kh av b e1 e2 U7 ln;apply hP;k_go;exact fin D av b (by rw[←e1];exact(ay _).symm)
  |cons r R ih=>
   intro D Kh av b e1 e2 U7 ln;have hw':=b.sub _ _ hw;have hc':=b.fr _ _ (ak ..);rw[e2,cG,af]at hw';have e4:(((r::R).length:Nat):Int)-1=R.length:=dM (R.length:Int) 1;apply hP;k_go;refine pk (cB.mpr (gX _)) ?_;k_go;refine EL hw' e4 ?_;refine MW (ah r.R2 (by decide)) (Iv (MC (SF ?_)))
   rw+offsetCnstrs [a31];induction r with
   |mk i m d=>
    have em:m=A.Yl i:=U7 _ (.head _);subst em;refine H7 ?_;k_go;refine EL hw' e4 ?_;k_go;refine dY hc' (by rw[ax];exact bc (ah (bq ..) ln) (by decide)) ?_
    k_go;rw[e4];have b2:=b.put (o:=.list (D.map (zd A)++[zd A (i,d)])) (aZ (ak ..));rw[cZ]at b2;exact ih (D++[(i,d)]) _ _ (by rw[aJ];exact b2) (by rw[af];exact e1) (by rw[e2,cG,af]) (λr m=>U7 r (.tail _ m)) (by rw[aa,zN,jQ [(i,d)].length];exact ln)
   |_=>
    refine Pd ?_;k_go;exact fin D av b (by rw[←e1];exact(ay _).symm)
 exact key rest [] tl dE h1 rfl rfl ok (by rw[bQ,cQ];exact hl)
end
section
variable{be:Nat}{σ ι φ:St}{Q:bw}{A:BA}{x:AV}
set_option maxHeartbeats 1000000 in
theorem Hb{a:Int}{w:Str}{pc mq:Addr}{K:List Int}{W:List PM}{f:Bool}{ms:List (Bool×Int)}(aV:ai 13 be=true)(h:B A ι φ σ x)(hl:x.rows.length≤600000)(hn:DE x.rows=true)(hV:x.V.length=x.K.length)(hp:XW ι pc K W)(hK:K.length≠0)
  (h0:1≤a) (h1:a≤x.K.length+1) (xD:x.K.length+K.length+8≤2000) (hm:ι mq=some (.list (ms.map (zd A)))) (hml:ms.length≤100000) (hq:∀bx av,Le ι bx→B A bx φ av (x.vF A a K W f ms)→Q .none av):
  D be (.fn 355) [.ref A.b,.tup [.str w,.int a,.ref pc,.bool f],.ref mq] σ Q:=by
 refine h.at_.elim λfY hb=>Cg aV ?_;show wB (X 13) gT [(ae,_),(dW,_),(dX,_),(s7,_),(Er,_),(aL,_),(eh,_)] σ _;dsimp only[gT];have hb:=hb.1;k_go;refine NP rfl h h0 h1 ?_;k_go;refine h.KW λvq dE fc YR=>?_;have hm1:=YR.sub _ _ hm;k_go;refine lp (zd A) (a:=((none,none,none),[])) (λa_:(Option MV×Option MV×Option MV)×List (Bool×Int)=>lUD A.b (.tup [.str w,.int a,.ref pc,.bool f]) (.ref mq) (.ref vq) a_.1.1 a_.1.2.1 a_.1.2.2)
  (λR a_ av=>B A ι (upd φ vq (.list (a_.2.map (mkV A)))) av x∧a_.2++tm a x R=tm a x ms∧a_.2.length+R.length≤100000) ⟨YR,rfl,by rw[bQ,cQ];exact hml⟩ (λe vs a_ dp R0 hI hR=>?_) λa_ dp hI=>?_
 ·induction hI.1.mkA e.1 with|intro n z=>
  induction z with|intro v z=>
  have hmk:=z.1;induction hI.1 with|intro i2 b2=>
  have TZ:=b2.b;have Xb:=b2.Q8.ms;have Qh:=b2.fr _ _ (ak ..);have ln:a_.2.length+(vs.length+1)≤100000:=hI.2.2;k_go;refine a20 b2.Q8.md ?_;rw[z.2.1];k_go;refine gi (λc=>?_) λc=>?_
  ·k_go;refine dY Qh (by rw[ax];exact bc (ah (bq ..) ln) (by decide)) ?_
   k_go;have b3:=hI.1.put (o:=.list (a_.2.map (mkV A)++[mkV A e])) (aZ (ak ..));rw[cZ]at b3;refine⟨b3.sub _ _ hm,hR ((_,_,_),a_.2++[e]) _ ⟨by rw[aJ];exact b3,?_,by rw[aa,zN,jQ [e].length];exact ln⟩⟩
   rw[←hI.2.1,af];exact congrArg (a_.2++·) (h9 (p:=λe:Bool×Int=>decide (x.mp e.1=a)) (l:=vs) (a:=e) (decide_eq_true c)).symm
  ·k_go;refine⟨(b2.pr.sub _ _ hm),hR ((_,_,_),a_.2) _ ⟨hI.1,?_,l5 ln⟩⟩;rw[←hI.2.1];exact congrArg (a_.2++·) (sY (p:=λe:Bool×Int=>decide (x.mp e.1=a)) (l:=vs) (a:=e) (by rw[decide_eq_false c];exact aq)).symm
 ·have e2:=hI.2.1;rw[show tm a x []=[]from rfl,ay]at e2;have b2:=hI.1;rw[e2]at b2;induction b2.at_ with|intro a6q w2=>
  have TZ:=w2.1;k_go;refine Jw rfl b2 h0 h1 λjJ b3=>?_;k_go;refine F0 rfl b3 hl hn hV hp hK h0 h1 xD λEc vh k4 b4=>?_;have fin:∀qJ,B A Ec (upd φ vq (.list ((tm a x ms).map (mkV A)))) qJ (bif f then(x.goto a).gW A K W else((x.goto a).gW A K W).goto a)→wB (X 13) (qU 6 gT) (lUD A.b (.tup [.str w,.int a,.ref pc,.bool f]) (.ref mq) (.ref vq) a_.1.1 a_.1.2.1 a_.1.2.2) qJ (ends Q):=λqJ b5=>VN b5 fc λpE b6=>hq Ec pE k4 b6;induction b4.at_ with|intro a6p w4=>
  have hb4:=w4.1;refine V6 ?_;k_in;cases f
  ·refine H7 (Oi ?_);k_in;refine Jw rfl b4 h0 ?_ λqJ b5=>?_
   ·show a≤(((x.K.take (a-1).toNat++K++x.K.drop (a-1).toNat).length:Nat):Int)+1;rw[tJ];lia
   ·exact yT (fin qJ b5)
  ·exact Pd (yT (fin vh b4))
end
noncomputable def AV.tu(x:AV)(t:Int):AV:=if t=x.dZ then(x.uz x.K x.pt x.tk x.tk).xQ (x.rows.map (iz t x.tk)) x.nt else x
noncomputable def a4x(r:UR)(x:AV):Prop:=match r with
 |.ins a b=>1≤a∧a<b∧b≤x.K.length+1
 |.del a _ _ K _=>DE x.rows=true∧K.length≠0∧1≤a∧a≤x.K.length+1∧x.K.length+K.length+8≤2000
 |.prop s e k _=>1≤s∧s≤e∧e≤x.K.length+1∧(k=1∨k=2)
 |.bd=>False
 |_=>True
noncomputable def a4y(T:PM→PM)(s e:Int)(x x':AV):Prop:=(x'=x∧fX T x.V (s-1) (e-1)=x.V)∨∃ps,x'=x.yN T s e ps∧D8 s e ps∧fX T x.V (s-1) (e-1)≠x.V∧(ps.length:Int)≤2*(e-s)∧ps.foldr uV (fX T x.V (s-1) (e-1))=x.V
noncomputable def a1I(A:BA)(ms:List (Bool×Int))(r:UR)(x x':AV):Prop:=match r with
 |.ins a b=>∃pc,x'=(x.goto a).Hk A pc a b
 |.del a _ f K W=>x'=x.vF A a K W f ms
 |.prop s e k el=>a4y (iq k el) s e x x'
 |.tu t=>x'=x.tu t
 |_=>x'=x
noncomputable def vJ(r:UR)(rest:List UR):Nat:=match r with
 |.del _ _ _ _ _=>(Bv rest).length
 |_=>0
theorem Buf.a2W{A:BA}{ι φ σ:St}{x:AV}{i:BI}{c:Addr}{rows:List UR}(h:Buf A ι φ σ x i)(hc:σ c=none)(hr:∀r∈rows,jf ι A r):B A ι φ (upd (upd σ c (uA rows)) A.ul (VM c x.nt)) (x.xQ rows x.nt):=
 have l:=(Le.refl σ).new (o:=uA rows) hc;have b:=h.le l;have nu:∀{y w},σ y=some w→a9 (kd w) 318=false→upd (upd σ c (uA rows)) A.ul (VM c x.nt) y=some w:=λ{y w}e n=>(aC (bS e h.ul.ul n)).trans (l _ _ e);have hu:A.ul∈mf A i.rl:=.tail _ (.tail _ (.tail _ (.tail _ (.tail _ (.head _)))));have cu:c≠A.ul:=λe=>h.lv hu (rwr e hc);have z:=b.off (Off.put (a:=A.ul) (o:=VM c x.nt) (F:=[A.ul]) (.head _)) λy m=>rwl (aQ.mp m) hu
 ⟨{i with rl:=c},nu h.b rfl,⟨nu h.gap.g rfl,nu h.gap.cl rfl,h.gap.bd⟩,nu h.m1 rfl,nu h.m2 rfl,⟨ak ..,(aC cu).trans (ak ..)⟩,z.2.2,h.im,h.K,h.V,hr,λe=>ar h.gap.cl (rwl e hc),
  λy m=>if q:y=c then rwl q (⟨h.pr.sub.none hc,h.fr.none hc⟩)else h.no y ((aU.mp (show y∈[A.b,A.g,A.cl,A.m1,A.m2,A.ul]++[c]from m)).elim (λm=>aN [i.rl] m) λm=>absurd (aQ.mp m) q),z.2.1,h.fi⟩
theorem SA{ι:St}{A:BA}{t f:Int}{rows:List UR}(h:∀r∈rows,jf ι A r):∀r∈rows.map (iz t f),jf ι A r:=λr m=>by
 obtain⟨q,mq,rfl⟩:=dv.mp m;have z:=h q mq;induction q with
 |tu u=>
  show jf ι A (bif decide (u=t)then .tu f else .tu u);cases decide (u=t)<;>exact trivial
 |_=>exact z
section
variable{be:Nat}{σ ι φ:St}{Q:bw}{A:BA}{x:AV}
set_option maxHeartbeats 2000000 in
theorem NJ{wq:Addr}{rest tl:List UR}{r:UR}(aV:ai 14 be=true)(h:B A ι φ σ x)(hw:ι wq=some (uA (rest.reverse++r::tl)))(ok:∀q∈r::rest,jf ι A q)(hv:a4x r x)(hln:rest.length≤90000)
  (hl:x.rows.length≤500000) (hK:x.K.length≤1900) (hV:x.V.length=x.K.length)
  (hq:∀bx av x',Le ι bx→B A bx φ av x'→a1I A (Bv rest) r x x'→Q (.int (rest.length-(vJ r rest:Nat):Int)) av):
  D be (.fn 362) [.ref A.b,.ref wq,.int (r::rest).length] σ Q:=by
 refine h.at_.elim λfY hb=>G2 aV ?_;dsimp only[zB];have hb:=hb.1;have hK2:x.K.length≤2000:=ah hK (by decide)
 have hl6:x.rows.length≤600000:=ah hl (by decide)
 have e4:(((r::rest).length:Nat):Int)-1=rest.length:=dM (rest.length:Int) 1;have q0:∀bx av x',vJ r rest=0→Le ι bx→B A bx φ av x'→a1I A (Bv rest) r x x'→Q (.int rest.length) av:=λbx av x' e k b u=>by
  have z:=hq bx av x' k b u;rw[e]at z;rwa [show(rest.length:Int)-((0:Nat):Int)=rest.length from a1V _]at z
 k_go;refine EL (h.sub _ _ hw) e4 ?_;k_go;rw[e4];induction r with
 |bd=>exact hv.elim
 |mk i m d=>
  dsimp only[UR.val,UR.hd,UR.tl];k_go;exact q0 ι σ x rfl (.refl _) h rfl
 |ins a b=>
  dsimp only[UR.val,UR.hd,UR.tl];k_go;refine Ha rfl h hl6 hK2 hV hv.1 hv.2.1 hv.2.2 λbx av pc k b'=>?_;k_go;exact q0 bx av _ rfl k b' ⟨pc,rfl⟩
 |del a pc f K W=>
  dsimp only[UR.val,UR.hd,UR.tl];k_go;refine D4 rfl h hw (ah hln (by decide)) (λr m=>ok r (.tail _ m)) λc Bu dE k1 hc b1=>?_
  k_go;refine Hb rfl b1 hl6 hv.1 hV (jf.mono k1 (ok _ (.head _))) hv.2.1 hv.2.2.1 hv.2.2.2.1 hv.2.2.2.2 hc (ah (S9 rest) (ah hln (by decide))) λbx av k b'=>?_
  have hc':=b'.sub _ _ (k _ _ hc);k_go;rw[ax];exact hq bx av _ (k1.trans k) b' rfl
 |prop s e k el=>
  dsimp only[UR.val,UR.hd,UR.tl];k_go;refine NP rfl h hv.1 hv.2.2.1 ?_;k_go;refine FR rfl h hl hK2 hV hv.1 hv.2.1 hv.2.2.1 hv.2.2.2 (λbx av k' b' e'=>?_) λbx av ps k' b' o n l u=>?_
  ·k_go;exact q0 bx av x rfl k' b' (.inl ⟨rfl,e'⟩)
  ·k_go;exact q0 bx av _ rfl k' b' (.inr ⟨ps,rfl,o,n,l,u⟩)
 |tu t=>
  dsimp only[UR.val,UR.hd,UR.tl];k_go;refine gi (λc=>?_) λc=>?_
  ·induction h with|intro i b=>
   k_go;refine w3 rfl b.b ?_;have b1:=b.setB x.pt x.tk x.tk i.fY;induction b1 with|intro i1 b1=>
   have Fd:=b1.b;have a6c:=b1.pr.sub _ _ b1.im.rc;have a08:=b1.ul.ul;k_go;refine XM rfl b1.ul (ah hl (by decide)) λc2 mL=>?_
   k_go;refine q0 ι _ _ rfl (.refl _) (b1.a2W mL (SA b1.rr)) ?_;show _=x.tu t;unfold AV.tu;rw[if_pos c];rfl
  ·k_go;exact q0 ι σ x rfl (.refl _) h (if_neg c).symm
end
noncomputable def Gm(A:BA):Nat→List UR→AV→(AV→Prop)→Prop
 |_,[],x,P=>P x
 |0,_::_,_,_=>False
 |n+1,r::rest,x,P=>(a4x r x∧x.rows.length≤500000∧x.K.length≤1900∧x.V.length=x.K.length)∧∀x1,a1I A (Bv rest) r x x1→Gm A n (rest.drop (vJ r rest)) x1 P
theorem OE{g rem:List UR}(h:∀r∈rem.head?,r.lV=true):Bv (g++rem)=Bv g:=by
 induction g with
 |nil=>induction rem with
  |nil=>rfl
  |cons r rem=>
   have h:=h r rfl;induction r with
   |bd=>rfl
   |_=>exact absurd h aq
 |cons r g ih=>induction r with
  |mk i m d=>exact congrArg ((i,d)::·) ih
  |_=>rfl
theorem PE{r:UR}{g rem:List UR}(h:∀r∈rem.head?,r.lV=true):vJ r (g++rem)=vJ r g:=by
 induction r with
 |del=>exact congrArg bl (OE h)
 |_=>rfl
theorem Sk(r:UR)(g:List UR):vJ r g≤g.length:=by
 induction r with
 |del=>exact S9 g
 |_=>exact cy _
section
variable{be:Nat}{σ ι φ:St}{Q:bw}{A:BA}{x:AV}
theorem XO{wq:Addr}{bds T tl:List UR}(aV:ai 0 be=true)(hw:σ wq=some (uA ((bds++T).reverse++tl)))(hb:∀r∈bds,r.lV=true)(ht:∀r∈T.head?,r.lV=false)(hq:Q (.int T.length) σ):D be (.fn 369) [.ref wq,.int (bds++T).length] σ Q:=by
 refine uX aV ?_;dsimp only[ke];refine th ?_;refine dS λP hP=>?_;have key:∀(B:List UR)(Kh:List UR),(∀r∈B,r.lV=true)→(bds++T).reverse++tl=(B++T).reverse++Kh→P [(aX,some (.ref wq)),(x_at,some (.int (B++T).length))] σ:=by
  intro B;induction B with
  |nil=>
   intro Kh hB e;apply hP;induction T using aF with
   |nil=>
    k_go;exact hq
   |cons r R=>
    have hr:=ht r rfl;rw[e,cN,cG,af]at hw;k_go;refine pk (cB.mpr (gX _)) ?_;k_go;refine EL hw (dM (R.length:Int) 1) ?_;k_go;refine Ul ?_;rw[hr];k_go;exact hq
  |cons r B ih=>
   intro Kh hB e;have hr:=hB r (.head _);have e4:(((r::B++T).length:Nat):Int)-1=(B++T).length:=dM ((B++T).length:Int) 1;have OO:=hw;rw[e,bH,cG,af]at OO;apply hP;k_go;refine pk (cB.mpr (gX _)) ?_;k_go;refine EL OO e4 ?_;k_go;refine Ul ?_;rw[hr];k_go;rw[e4];exact ih _ (λr m=>hB r (.tail _ m)) (by rw[e,bH,cG,af])
 exact key bds tl hb rfl
theorem Jm{wq:Addr}{bds g rem tl:List UR}{N:Nat}{P:AV→Prop}(aV:ai 15 be=true)(h:B A ι φ σ x)(hw:ι wq=some (uA ((bds++(g++rem)).reverse++tl)))(ok:∀q∈g++rem,jf ι A q)(hb:∀r∈bds,r.lV=true)(hg:∀r∈g,r.lV=false)(nF:g≠[])
  (hm:∀r∈rem.head?,r.lV=true) (hl:(g++rem).length≤90000) (hp:Gm A N g x P) (hq:∀bx av x',Le ι bx→B A bx φ av x'→P x'→Q (.int rem.length) av):D be (.fn 376) [.ref A.b,.ref wq,.int (bds++(g++rem)).length] σ Q:=by
 refine DM aV ?_;dsimp only[tV];k_go;refine XO rfl (h.sub _ _ hw) hb (λr m=>hg r (by induction g using aF with|nil=>exact absurd rfl nF|cons a g=>exact rwr (aA m) (.head _))) ?_
 k_go;refine dS λR0 hR0=>?_;have key:∀(N:Nat)(g' Kh:List UR)(Bu dE:St)(x1:AV),(∀r∈g',r.lV=false)→(bds++(g++rem)).reverse++tl=(g'++rem).reverse++Kh→(∀q∈g'++rem,jf Bu A q)→(g'++rem).length≤90000→Gm A N g' x1 P→B A Bu φ dE x1→Le ι Bu→
   R0 [(ae,some (.ref A.b)),(aX,some (.ref wq)),(x_at,some (.int (g'++rem).length))] dE:=by
  have done:∀(Kh:List UR)(Bu dE:St)(x1:AV),(bds++(g++rem)).reverse++tl=rem.reverse++Kh→P x1→B A Bu φ dE x1→Le ι Bu→R0 [(ae,some (.ref A.b)),(aX,some (.ref wq)),(x_at,some (.int rem.length))] dE:=by
   intro Kh Bu dE x1 e GX b1 k1;have YB:=b1.sub _ _ (k1 _ _ hw);have fin:=hq Bu dE x1 k1 b1 GX;apply hR0;induction rem using aF with
   |nil=>
    k_go;exact fin
   |cons r R=>
    have hr:=hm r rfl;rw[e,cG,af]at YB;k_go;refine pk (cB.mpr (gX _)) ?_;k_go;refine EL YB (dM (R.length:Int) 1) ?_;k_go;refine Yk ?_;rw[hr];k_go;exact fin
  intro N;induction N with
  |zero=>
   intro g' Kh Bu dE x1 hg' e U7 ln GX b1 k1;induction g' using aF with
   |nil=>exact done Kh Bu dE x1 e GX b1 k1
   |cons r g'=>exact GX.elim
  |succ N ih=>
   intro g' Kh Bu dE x1 hg' e U7 ln GX b1 k1;induction g' using aF with
   |nil=>exact done Kh Bu dE x1 e GX b1 k1
   |cons r g'=>
    have hr:=hg' r (.head _);have YB:=k1 _ _ hw;rw[e,bH,cG,af]at YB;apply hR0;k_go;refine pk (cB.mpr (gX _)) ?_;k_go;refine EL (b1.sub _ _ YB) (dM ((g'++rem).length:Int) 1) ?_;k_go;refine Yk ?_;rw[hr];k_go;refine NJ (rest:=g'++rem) rfl b1 YB U7 GX.1.1 (l5 ln) GX.1.2.1 GX.1.2.2.1 GX.1.2.2.2 λjA dp x2 k2 b2 hu=>?_;k_go;have ei:(((g'++rem).length:Nat):Int)-(vJ r (g'++rem):Nat)=((g'.drop (vJ r g')++rem).length:Nat):=by
     have:=Sk r g';rw[PE hm,aa,aa,d6];lia
    rw[ei];refine ih _ ((g'.take (vJ r g')).reverse++r::Kh) jA dp x2 (λr m=>hg' r (.tail _ (Mn m))) ?_ (λq m=>jf.mono k2 (U7 q (.tail _ ((aU.mp m).elim (λm=>aN _ (Mn m)) (az _))))) ?_ (GX.2 x2 (rwr (OE (g:=g') hm) hu)) b2 (k1.trans k2)
    ·rw[e,←af,←bD,←af,cw,bH,cG,af];rfl
    ·rw[aa,d6];rw[bH,cg,aa]at ln;lia
 exact key N g _ ι σ x hg (by rw[show(bds++(g++rem)).reverse=(g++rem).reverse++bds.reverse from bD,af]) ok hl hp h (.refl _)
end
structure I0(σ:St)(b g cl ms md ls:Addr)(un pr:MV)(P F S:List Int)(pt tk fY dZ:Int)(ds:List (Int×MV)):Prop where
 b:σ b=some (lH g ms ls pt ((P++S).length+1) tk fY dZ un pr)
 gap:g7 σ g cl P F S
 ms:σ ms=some (.inst 608 [(aX,.ref md)])
 md:σ md=some (.dict ds)
 ls:σ ls=some (.list [])
section
variable{σ av:St}{b g cl ms md ls:Addr}{un pr:MV}{P F S:List Int}{pt tk fY dZ:Int}{ds:List (Int×MV)}
theorem I0.keep(h:I0 σ b g cl ms md ls un pr P F S pt tk fY dZ ds)(k:∀y∈[b,g,cl,ms,md,ls],av y=σ y):I0 av b g cl ms md ls un pr P F S pt tk fY dZ ds:=
 ⟨(k _ (.head _)).trans h.b,h.gap.frame (k _ (.tail _ (.head _))) (k _ (.tail _ (.tail _ (.head _)))),(k _ (.tail _ (.tail _ (.tail _ (.head _))))).trans h.ms,(k _ (.tail _ (.tail _ (.tail _ (.tail _ (.head _)))))).trans h.md,
  (k _ (.tail _ (.tail _ (.tail _ (.tail _ (.tail _ (.head _))))))).trans h.ls⟩
theorem I0.live(h:I0 σ b g cl ms md ls un pr P F S pt tk fY dZ ds):∀y∈[b,g,cl,ms,md,ls],σ y≠none:=λy m=>
 (aE.mp m).elim (λe=>rwl e (aZ h.b)) λm=>(aE.mp m).elim (λe=>rwl e (aZ h.gap.g)) λm=>(aE.mp m).elim (λe=>rwl e (aZ h.gap.cl)) λm=>
 (aE.mp m).elim (λe=>rwl e (aZ h.ms)) λm=>(aE.mp m).elim (λe=>rwl e (aZ h.md)) λm=>rwl (aQ.mp m) (aZ h.ls)
theorem I0.le(h:I0 σ b g cl ms md ls un pr P F S pt tk fY dZ ds)(l:Le σ av):I0 av b g cl ms md ls un pr P F S pt tk fY dZ ds:=
 h.keep λy m=>(gQ (h.live y m)).elim λo e=>(l y o e).trans e.symm
end
section
variable{X:Ctx}{ρ:Loc}{σ:St}{Q:bw}
theorem Z'{a:Addr}(h:σ a=some (.list [.int 0]))(q:fe [.int 0,.int 0,.int 0,.int 0,.int 0,.int 0,.int 0,.int 0] σ Q):BY .Mult (.ref a) (.int 8) σ Q:=
 hH (kl:=λl=>(l.length≤1∧-(2^40)<(8:Int)∧(8:Int)≤lim)∧fe (zf l (8:Int).toNat) σ Q) h ⟨⟨cM _,by decide,by decide⟩,q⟩
end
section
variable{be:Nat}{σ:St}{Q:bw}
theorem yH{a:Addr}{n:Int}{v:Bool}(aV:ai 0 be=true)(hq:Q .none (upd σ a (eB n v .none 0))):D be (.fn 516) [.ref a,.int n,.bool v] (upd σ a (.inst 540 [])) Q:=by
 refine wX aV ?_;dsimp only[lP];k_go;rw[cZ,cZ,cZ,cZ];exact hq
theorem Ga{a:Addr}(aV:ai 0 be=true)(h:σ a=none)(hq:∀d av,σ d=none→av a=some (.inst 608 [(aX,.ref d)])→av d=some (.dict [])→Le σ av→Q .none av):D be (.fn 556) [.ref a] (upd σ a (.inst 608 [])) Q:=by
 refine uZ aV ?_;dsimp only[kg];refine Oj (RJ λd hd=>?_);have hda:d≠a:=λe=>ar (ak σ a (.inst 608 [])) (e▸hd);have ha:=(aC (o:=.dict []) hda.symm).trans (ak σ a (.inst 608 []));have hd':σ d=none:=(aC hda).symm.trans hd;k_go;exact hq d _ hd' (ak ..) ((aC hda).trans (ak ..)) ((((Le.refl σ).side _ h).side _ hd').side _ h)
theorem D6{a:Addr}(aV:ai 0 be=true)(h:σ a=none)(hq:∀r av,σ r=none→r≠a→av a=some (VM r none)→av r=some (.list [])→Le σ av→Q .none av):D be (.fn 238) [.ref a] (upd σ a (.inst 316 [])) Q:=by
 refine tM aV ?_;dsimp only[jM];k_go;intro r hr;have hra:r≠a:=λe=>ar (ak σ a (.inst 316 [])) (e▸hr);have ha:=(aC (o:=.list []) hra.symm).trans (ak σ a (.inst 316 []));k_go;have hr':σ r=none:=(aC hra).symm.trans hr;rw[cZ,cZ,cZ,cZ];exact hq r _ hr' hra (ak ..) ((aC hra).trans (ak ..)) ((((Le.refl σ).side _ h).side _ hr').side _ h)
theorem Ct{a:Addr}(aV:ai 1 be=true)(h:σ a=none)(hq:∀u r av,σ u=none→σ r=none→av a=some (.inst 1163 [(c8,.ref u)])→av u=some (VM r none)→av r=some (.list [])→Le σ av→Q .none av):D be (.fn 1141) [.ref a] (upd σ a (.inst 1163 [])) Q:=by
 refine sO aV ?_;dsimp only[jv];k_go;intro u hu;refine D6 rfl hu λr av hr hru h1 h2 l=>?_;have hua:u≠a:=λe=>ar (ak σ a (.inst 1163 [])) (e▸hu);have hra:r≠a:=λe=>ar (ak σ a (.inst 1163 [])) (e▸hr);have ha:=l _ _ (ak σ a (.inst 1163 []));k_go;exact hq u r _ ((aC hua).symm.trans hu) ((aC hra).symm.trans hr) (ak ..) ((aC hua).trans h1) ((aC hra).trans h2) ((Le.trans ((Le.refl σ).side _ h) l).side _ h)
end
theorem E3{σ:St}{l:List MV}{Q:bw}(k:∀c av,σ c=none→Le σ av→av c=some (.list l)→Q (.ref c) av):fe l σ Q:=λc hc=>k c _ hc ((Le.refl σ).new hc) (ak ..)
noncomputable abbrev Qu:List Int:=[0,0,0,0,0,0,0,0]
section
variable{be:Nat}{σ:St}{Q:bw}
theorem Gb{a c0:Addr}(aV:ai 0 be=true)(h:σ a=none)(hc:σ c0=some (.list []))(hq:∀cl av,σ cl=none→g7 av a cl [] Qu []→Le σ av→Q .none av):D be (.fn 390) [.ref a,.ref c0,.int 8] (upd σ a (.inst 463 [])) Q:=by
 refine u4 aV ?_;dsimp only[kj];have hca:c0≠a:=λe=>ar hc (rwl e h);k_go;generalize hτ:upd (upd σ a (.inst 463 [])) a (.inst 463 (iH [] gN (.int 8)))=τ;have l0:Le σ τ:=rwr hτ (((Le.refl σ).side _ h).side _ h);have ha:τ a=some (.inst 463 [(gN,.int 8)]):=rwr hτ (ak ..);refine jm (l0 _ _ hc) (E3 λc1 Pw _ k1 e1=>?_);have B8:=k1 _ _ ha;k_go;refine E3 λc2 τ2 _ k2 f2=>?_;k_go;refine Z' f2 (E3 λc3 τ3 _ k3 f3=>?_);k_go;refine BH (k3 _ _ (k2 _ _ e1)) f3 (by decide) (E3 λc4 τ4 h4 k4 f4=>?_)
 have l3:=l0.trans (k1.trans (k2.trans k3));have Xf:=(k1.trans (k2.trans k3)) _ _ ha;have n4:c4≠a:=λe=>ar Xf (rwr e h4);have l4:=l3.trans k4;have hc4:=l4 _ _ hc;have ha4:=k4 _ _ Xf;k_go;rw[cZ];k_go;rw[cZ];exact hq c4 _ (l3.none h4) ⟨ak ..,(aC n4).trans f4,by decide⟩ (l4.side _ h)
noncomputable abbrev a1M(σ:St)(a:Addr)(Q:bw):Prop:=∀g cl ms md ls av,σ cl=none→σ ls=none→I0 av a g cl ms md ls .none .none [] Qu [] 1 1 1 1 []→cl≠ls→Le σ av→Q .none av
theorem Hi{a:Addr}(aV:ai 1 be=true)(h:σ a=none)(hq:a1M σ a Q):D be (.fn 627) [.ref a,.int 1,.str x_a] (upd σ a (.inst 714 [])) Q:=by
 refine tQ aV ?_;dsimp only[je];k_go;refine E3 λc0 τ0 _ k0 e0=>?_;have l0:Le σ τ0:=Le.trans (((((Le.refl σ).side _ h).side _ h).side _ h)) k0;k_go;intro g hg;refine Gb rfl hg e0 λcl Pw Qn Qm k1=>?_;have B8:=k1 _ _ (k0 _ _ (ak _ a _));k_go;intro ms zK;refine Ga rfl zK λmd τ2 hmd h2 h3 k2=>?_;have OS:g7 τ2 g cl [] Qu []:=⟨k2 _ _ ((aC (bS Qm.g B8 rfl)).trans Qm.g),k2 _ _ ((aC (bS Qm.cl B8 rfl)).trans Qm.cl),Qm.bd⟩;have l2:=((l0.trans k1).side (.inst 714 (iH (iH (iH [] aG (.int 1)) s9 (.str x_a)) vl (.ref g))) h).trans k2;have Vc:=k2 _ _ (ak ..);k_go;refine E3 λls τ3 hls k3 h4=>?_;have l2':Le σ τ3:=by
  refine Le.trans ?_ k3;repeat refine Le.side ?_ _ h
  exact l2
 have a5s:σ ls=none:=by
  refine Le.none ?_ hls;repeat refine Le.side ?_ _ h
  exact l2
 have Xf:=k3 _ _ (ak ..);have kp:∀{y w},τ2 y=some w→a9 (kd w) 716=false→τ3 y=some w:=λ{y w}e n=>by
  refine k3 _ _ ?_;repeat refine(aC (bS e Vc n)).trans ?_
  exact e
 have nl:cl≠ls:=λq=>by
  rw[←q]at hls;refine ar (x:=dt ([]++Qu++[])) ?_ hls;repeat refine(aC (bS OS.cl Vc rfl)).trans ?_
  exact OS.cl
 have fin:∀av,av a=some (lH g ms ls 1 (([]++[]:List Int).length+1) 1 1 1 .none .none)→(∀z,z≠a→av z=τ3 z)→Le σ av→Q .none av:=λav hb o l=>by
  have kq:∀{y w},τ3 y=some w→a9 (kd w) 716=false→av y=some w:=λ{y w}e n=>(o y (bS e Xf n)).trans e;exact hq g cl ms md ls _ (l0.none Qn) a5s ⟨hb,⟨kq (kp OS.g rfl) rfl,kq (kp OS.cl rfl) rfl,Qm.bd⟩,kq (kp h2 rfl) rfl,kq (kp h3 rfl) rfl,kq h4 rfl⟩ nl l
 k_in;refine tA Xf rfl rfl ?_
 iterate 6
  k_in;refine tA (ak ..) rfl rfl ?_
 k_in;refine fin _ ((ak ..).trans (congrArg (λl=>some (MO.inst 714 l)) (by kernel_rfl))) (λz nz=>?_) ?_
 ·repeat refine(aC nz).trans ?_
  exact rfl
 ·repeat refine Le.side ?_ _ h
  exact l2'
end
section
variable{X:Ctx}{σ:St}{Q:bw}
theorem Z5{a:Addr}{l:List MV}{i:Int}{j:Nat}{u:MV}{K:St→Prop}(h:σ a=some (.list l))(e:xY i l.length=some j)(q:K (upd σ a (.list (l.set j u)))):pS (.ref a) (.int i) u σ K:=
 hH (kl:=λl=>gv (xY i l.length) λj=>K (upd σ a (.list (l.set j u)))) h (by rw[e];exact q)
theorem Yb{i j:Int}(h:0<j)(q:Q (.int (i%j)) σ):BY .Mod (.int i) (.int j) σ Q:=⟨h,q⟩
theorem KA{i n:Int}(h:-(2^62)<i∧i<2^62)(q:Q (.int (i*n)) σ):BY .Mult (.int i) (.int n) σ Q:=⟨h,q⟩
theorem a21{i j:Int}(h:0<j∧j<1000)(q:Q (.int (i/j)) σ):BY .FloorDiv (.int i) (.int j) σ Q:=⟨h,q⟩
end
noncomputable abbrev gK(d0:Addr)(n:Int):MO:=.list [.ref d0,.int n]
section
variable{be:Nat}{σ:St}{Q:bw}{jG d0:Addr}{js:List Int}{n m:Int}
theorem UL(aV:ai 0 be=true)(h:σ jG=some (gK d0 n))(h':σ d0=some (.list (js.map .int)))(hd:d0≠jG)(hn:0≤n)(YH:n≤100000)(hm:0<m)
  (hq:∀v,0≤v→v<m→Q (.int v) (upd σ jG (gK d0 (n+1)))):D be (.fn 1174) [.ref jG,.int m] σ Q:=by
 refine FK aV ?_;dsimp only[xl];have go:∀i,Q (.int (i%m)) (upd σ jG (gK d0 (n+1))):=λi=>hq _ (Int.emod_nonneg i (Ma hm)) (Int.emod_lt_of_pos i hm);k_go;refine j9 (j:=1) h rfl ?_;k_go;refine Z5 h (j:=1) rfl ?_;have h1:upd σ jG (.list ([MV.ref d0,.int n].set 1 (.int (n+1))))=upd σ jG (gK d0 (n+1)):=rfl;rw[h1];have hs:=ak σ jG (gK d0 (n+1));have h2:=(aC (o:=gK d0 (n+1)) hd).trans h';generalize upd σ jG _=τ at go hs h2;k_go;refine j9 (j:=1) hs rfl ?_;k_go;refine j9 (j:=0) hs rfl ?_;k_go;refine gi (λc=>?_) λc=>?_
 ·k_go;refine j9 (j:=0) hs rfl ?_;k_go;refine j9 (j:=1) hs rfl ?_;k_go;have ex:∃v,(js.map MV.int)[n.toNat]?=some (.int v):=by
   have hl:n.toNat<js.length:=by lia
   exact⟨js[n.toNat],by rw[lR,j5 hl];rfl⟩
  induction ex with|intro v ex=>
  rw[show n+1-1=((n.toNat:Nat):Int) by lia]
  refine j9 h2 ex ?_;k_go;refine Yb hm ?_;k_go;exact go v
 ·have e1:(n+1)*(n+1)<2^62:=gg (Int.mul_le_mul (show n+1≤200000 by lia) (show n+1≤200000 by lia) (by lia) (by decide)) (by decide)
  have e2:-(2^62)<(n+1)*(n+1):=iO (by decide) (Int.mul_nonneg (show 0≤n+1 by lia) (show 0≤n+1 by lia))
  k_go;refine j9 (j:=1) hs rfl ?_;k_go;refine j9 (j:=1) hs rfl ?_;k_go;refine KA (by lia) ?_
  k_go;refine KA ⟨e2,e1⟩ ?_;k_go;refine j9 (j:=1) hs rfl ?_;refine KA (by decide) ?_
  k_go;refine j9 (j:=0) hs rfl ?_;k_go;refine KA (by decide) ?_
  k_go;refine a21 (by decide) ?_
  k_go;refine Yb hm ?_;k_go;exact go _
end
structure DJ(jG d0 b:Addr)(js:List Int)(k:Int)(J:Int→St→Prop):Prop where
 at_:∀n σ,J n σ→σ jG=some (gK d0 n)∧σ d0=some (.list (js.map .int))
 ne:d0≠jG
 buf:∀n σ,J n σ→∃fs,σ b=some (.inst 714 fs)
 size:∀n σ Q,J n σ→Q (.int k) σ→D 2 (.fn 662) [.ref b] σ Q
 up:∀n σ,J n σ→J (n+1) (upd σ jG (gK d0 (n+1)))
section
variable{be:Nat}{σ:St}{Q:bw}{jG d0 b:Addr}{js:List Int}{k n m:Int}{J:Int→St→Prop}
theorem DJ.draw(d:DJ jG d0 b js k J)(aV:ai 0 be=true)(h:J n σ)(hn:0≤n)(YH:n≤100000)(hm:0<m)(hq:∀v av,0≤v→v<m→J (n+1) av→Q (.int v) av):D be (.fn 1174) [.ref jG,.int m] σ Q:=
 UL aV (d.at_ n σ h).1 (d.at_ n σ h).2 d.ne hn YH hm λv h0 h1=>hq v _ h0 h1 (d.up n σ h)
theorem DJ.Od(d:DJ jG d0 b js k J)(aV:ai 2 be=true)(h:J n σ)(hn:0≤n)(YH:n≤90000)(hk:0≤k)(hq:∀s e av,1≤s→s≤e→e≤k+1→J (n+2) av→Q (.tup [.int s,.int e]) av):D be (.fn 1181) [.ref jG,.ref b] σ Q:=by
 refine AY aV ?_;dsimp only[qu];induction d.buf n σ h with|intro fs hb=>
 k_go;refine d.size n σ _ h ?_;k_go;refine d.draw rfl h hn (aS YH (by decide)) (Int.lt_add_one_of_le hk) λv dE v0 v1 h1=>?_
 induction d.buf _ dE h1 with|intro fs1 Fd=>
 k_go;refine d.size _ dE _ h1 ?_;k_go;refine d.draw rfl h1 (by lia) (by lia) (by lia) λw dp w0 w1 h2=>?_
 k_go;exact hq _ _ dp (by lia) (by lia) (by lia) (by rw[sU]at h2;exact h2)
end
section
variable{be:Nat}{σ:St}{Q:bw}{b g cl ms md ls q:Addr}{K:List Int}
theorem FY{s e:Int}{bf:Bool}(aV:ai 1 be=true)(h:σ ms=some (.inst 608 [(aX,.ref md)]))(h':σ md=some (.dict []))(hq:Q .none σ):D be (.fn 591) [.ref ms,.int s,.int e,.bool bf] σ Q:=by
 refine D.pure (mz aV ?_) hq;dsimp only[iE];k_go;refine D.fresh (o:=.list []) (nV rfl ?_) λc hc=>?_
 ·dsimp only[jd];k_go;refine Om h' (cy _) λc hc=>?_;k_go;exact⟨c,rfl,hc,ak ..,(Le.refl _).new hc⟩
 ·k_go;refine xr ?_;k_go;exact⟨rfl,(Le.refl _).new hc⟩
theorem NN{pt zv tk fY dZ a k:Int}{bf:Bool}(aV:ai 9 be=true)(h:σ b=some (lH g ms ls pt zv tk fY dZ .none .none))(hq:Q .none σ):D be (.fn 104) [.ref b,.int a,.int k,.bool bf] σ Q:=by
 refine AU aV ?_;dsimp only[xI];k_go;exact hq
theorem NK(aV:ai 4 be=true)(h:I0 σ b g cl ms md ls .none .none [] Qu [] 1 1 1 1 [])(hk:σ q=some (dt K))(hK:K.length≤8)(nq:q≠cl)
  (hq:∀F av,g7 av g cl K F []→av b=some (lH g ms ls 1 (1+(K.length:Nat)) 1 1 1 .none .none)→Off σ av [b,g,cl]→Q .none av):D be (.fn 90) [.ref b,.int 1,.ref q] σ Q:=by
 refine AJ aV ?_;dsimp only[xH];have hb:=h.b;have hg:=h.gap.g;have nqb:q≠b:=bS hk hb rfl;k_go;refine Bk (P':=[]) (S':=[]) rfl h.gap rfl rfl hk nq (by show 0+0+K.length+8≤2000;lia) λdE F1 g1 o1=>?_
 have Fd:=(o1 b (Q6 (bS hb hg rfl) (bS hb h.gap.cl rfl))).trans hb;have HQ:=(o1 q (Q6 (bS hk hg rfl) nq)).trans hk;k_go;refine px (by decide) ?_
 k_go;exact hq F1 _ (g1.frame (aC (bS g1.g Fd rfl)) (aC (bS g1.cl Fd rfl))) (ak ..) ((Off.wide o1).tr (.put (.head _)))
theorem QN(aV:ai 11 be=true)(h:I0 σ b g cl ms md ls .none .none [] Qu [] 1 1 1 1 [])(hk:σ q=some (dt K))(hK0:K.length≠0)(hK:K.length≤8)(nq:q≠cl)(nl:cl≠ls)
  (hq:∀F fY av,I0 av b g cl ms md ls .none .none K F [] (1+(K.length:Nat)) 2 fY 1 []→Off σ av [b,g,cl]→Q .none av):D be (.fn 127) [.ref b,.ref q] σ Q:=by
 refine yD aV ?_;dsimp only[xi];have hb:=h.b;k_go;refine C4 rfl ?_;dsimp only[sT];k_go;refine fy rfl hb ?_;k_go;refine mN rfl hb (dU _) (dU _) (by decide) ?_
 k_go;refine px (λe=>hK0 (cO e)) ?_;k_go;refine w8 rfl hb h.gap (by lia) ?_
 k_go;refine Ba rfl hb h.ls ?_;k_go;refine NK rfl h hk hK nq λF dE g1 b1 o1=>?_;have nqb:q≠b:=bS hk hb rfl;have HQ:=(o1 q (WG nqb (Q6 (bS hk h.gap.g rfl) nq))).trans hk;have a3Q:=(o1 ms (WG (bS h.ms hb rfl) (Q6 (bS h.ms h.gap.g rfl) (bS h.ms h.gap.cl rfl)))).trans h.ms;have a3T:=(o1 md (WG (bS h.md hb rfl) (Q6 (bS h.md h.gap.g rfl) (bS h.md h.gap.cl rfl)))).trans h.md;have a3V:=(o1 ls (WG (bS h.ls hb rfl) (Q6 (bS h.ls h.gap.g rfl) nl.symm))).trans h.ls;k_in;refine yX b1 rfl rfl λdp b2 k2 _=>?_;have b2:dp b=some (lH g ms ls (1+(K.length:Nat)) (1+(K.length:Nat)) 1 1 1 .none .none):=b2;have kp:∀{y w},dE y=some w→y≠b→dp y=some w:=λe n=>(k2 _ n).trans e;have ym:=kp HQ nqb;have Xb:=kp a3Q (bS a3Q b1 rfl);have a3S:=kp a3T (bS a3T b1 rfl);have a3U:=kp a3V (bS a3V b1 rfl);have g2:=g1.frame (k2 _ (bS g1.g b1 rfl)) (k2 _ (bS g1.cl b1 rfl));k_go;refine FY rfl Xb a3S ?_;k_go;refine NN rfl b2 ?_;k_go;refine yE rfl b2 a3U λfY=>?_;k_go;have ne:∀{y w},dp y=some w→a9 (kd w) 716=false→upd dp b (lH g ms ls (1+(K.length:Nat)) (1+(K.length:Nat)) (1+1) fY 1 .none .none) y=some w:=λe n=>(aC (bS e b2 n)).trans e;refine hq F fY _ ⟨(ak ..).trans ?_,⟨ne g2.g rfl,ne g2.cl rfl,g2.bd⟩,ne Xb rfl,ne a3S rfl,ne a3U rfl⟩ ((o1.tr λx hx=>k2 x λe=>hx (rwr e (.head _))).tr (.put (.head _)));rw[ay,a1W 1];rfl
end
theorem Dat.mono{σ τ:St}(k:Le σ τ){m:MV}{d:PyData}(h:Dat σ m d):Dat τ m d:=
 @Dat.rec σ (λm d _=>Dat τ m d) (λl ds _=>fR τ l ds) (λi=>.int i) (λb=>.bool b) (λx=>.str x) (λ_ f=>.tup f) (λe _ f=>.list (k _ _ e) f) .nil (λ_ _ f g=>.cons f g) m d h
theorem fR.ind{σ:St}{P:List MV→List PyData→Prop}(h0:P [] [])(h1:∀{m l d ds},Dat σ m d→P l ds→P (m::l) (d::ds)){l:List MV}{ds:List PyData}(h:fR σ l ds):P l ds:=
 @fR.rec σ (λ_ _ _=>True) (λl ds _=>P l ds) (λ_=>trivial) (λ_=>trivial) (λ_=>trivial) (λ_ _=>trivial) (λ_ _ _=>trivial) h0 (λh _ _ q=>h1 h q) l ds h
theorem fR.mono{σ τ:St}(k:Le σ τ){l:List MV}{ds:List PyData}:fR σ l ds→fR τ l ds:=fR.ind .nil λh r=>.cons (h.mono k) r
theorem fR.app{σ:St}{k:List MV}{es:List PyData}(h':fR σ k es){l:List MV}{ds:List PyData}:fR σ l ds→fR σ (l++k) (ds++es):=fR.ind (P:=λl ds=>fR σ (l++k) (ds++es)) h' λh r=>.cons h r
theorem fR.ints{σ:St}(l:List Int):fR σ (l.map .int) (l.map .int):=
 l.rec .nil λi l ih=>.cons (.int i) ih
theorem fR.rep{σ:St}{m:MV}{d:PyData}(h:Dat σ m d)(n):fR σ (zf [m] n) (aM n d):=
 n.rec .nil λn ih=>.cons h ih
theorem HL{m:MV}(n):(zf [m] n).length=n:=
 n.rec rfl λn ih=>congrArg (·+1) ih
noncomputable def pD(p:Int×Int):PyData:=.tuple [.int p.1,.int p.2]
noncomputable def oD(k:Int)(o:Option Int):List PyData:=match o with
 |some u=>[pD (k,u)]
 |none=>[]
noncomputable def pdV(v:PM):PyData:=.list (oD 1 v.1++oD 2 v.2)
noncomputable def kD(K:List Int):PyData:=.list (K.map .int)
noncomputable def vD(V:List PM):PyData:=.list (V.map pdV)
noncomputable def mD(p1 p2:Int):PyData:=.list [.int p1,.int p2]
theorem fR.pairs{σ:St}(l:jx):fR σ (l.map uC) (l.map pD):=
 l.rec .nil λi l ih=>.cons (.tup (.cons (.int i.1) (.cons (.int i.2) .nil))) ih
theorem MQ:∀{pl:jx},Good pl→(Oe pl).map pD=oD 1 (view pl).1++oD 2 (view pl).2
 |[],_=>rfl
 |[(a,u)],h=>(h.k _ (.head _)).elim (λe=>by rw[show a=1 from e];rfl) λe=>by rw[show a=2 from e];rfl
 |[(a,u),(b,v)],h=>by
  have n:a≠b:=λe=>(dw.mp h.n).1 (rwr e (.head _));rcases h.k _ (.head _)with e|e<;>rcases h.k _ (.tail _ (.head _))with e'|e'<;>rw[show a=_ from e,show b=_ from e']at n⊢<;>first|rfl|exact absurd rfl n
 |_::_::_::r,h=>absurd h.sz (by simp)
section
variable{X:Ctx}{σ:St}{Q:bw}
theorem Wh{a:Addr}{pl:jx}(h:σ a=some (yi pl))(g:Good pl)(q:fe ((Oe pl).map uC) σ Q):fF "sorted" [.ref a] σ Q:=
 LX (by refine hH h ?_;exact .inr ⟨pl,rfl,⟨g.sz,g.n⟩,q⟩)
theorem Z9{a:Addr}{m:MV}{n:Int}(h:σ a=some (.list [m]))(h0:0≤n)(h1:n≤2000)(q:fe (zf [m] n.toNat) σ Q):BY .Mult (.ref a) (.int n) σ Q:=
 hH (kl:=λl=>(l.length≤1∧-(2^40)<n∧n≤lim)∧fe (zf l n.toNat) σ Q) h ⟨⟨cM _,iO (by decide) h0,aS h1 (by decide)⟩,q⟩
end
noncomputable def lLS(b mk fq:Addr)(v1 v2 v3:Option MV):Loc:=[(ae,some (.ref b)),(fj,some (.ref mk)),(bG,some (.ref fq)),(aT,v1),(aH,v2),(aI,v3)]
section
variable{be:Nat}{σ ι φ:St}{Q:bw}{A:BA}{x:AV}
set_option maxHeartbeats 1000000 in
theorem Ek{mk:Addr}(aV:ai 4 be=true)(h:B A ι φ σ x)(hm:ι mk=some (.list [.ref A.m1,.ref A.m2]))(hK:x.K.length≤2000)(hV:x.V.length=x.K.length)
  (hq:∀u1 u2 u3 bx av,Le ι bx→B A bx φ av x→Dat bx u1 (kD x.K)→Dat bx u2 (vD x.V)→Dat bx u3 (mD x.p1 x.p2)→Q (.tup [u1,u2,u3]) av):D be (.fn 1186) [.ref A.b,.ref mk] σ Q:=by
 refine DZ aV ?_;dsimp only[ui];k_go;refine h.KW λfq dE fc h1=>?_;induction h1 with|intro i1 b1=>
 have Fd:=b1.b;have es:=b1.MI;k_go;refine El rfl ⟨i1,b1⟩ ?_;k_go;refine qe rfl b1.pr (es.symm▸cK.mpr (rwl hV (ah hK (by decide)))) (dU 0) (bJ _) (es.symm▸rwr hV (dU _)) λc2 rows mL xF hex xE=>?_
 rw[b1.V,cS,←hV,sW]at hex;have hex:expand ι rows=x.V:=hex;have b2:=B.W6 (o:=.list (rows.map gR)) ⟨i1,b1⟩ mL;have k2:Le ι (upd ι c2 (.list (rows.map gR))):=(Le.refl ι).new (b1.pr.sub.none mL);have mL:=ak ι c2 (.list (rows.map gR));generalize upd ι c2 _=jA at b2 k2 mL;generalize upd dE c2 _=dp at b2;have a33:=b2.sub _ _ mL;k_go;refine lp gR (a:=((none,none,none),([],[],jA))) (λa_:(Option MV×Option MV×Option MV)×List MV×List Row×St=>lLS A.b mk fq a_.1.1 a_.1.2.1 a_.1.2.2)
  (λR a_ av=>B A a_.2.2.2 (upd φ fq (.list a_.2.1)) av x∧Le jA a_.2.2.2∧a_.2.2.1++R=rows∧fR a_.2.2.2 a_.2.1 ((expand ι a_.2.2.1).map pdV)∧a_.2.1.length=(expand ι a_.2.2.1).length) ⟨b2,.refl _,rfl,.nil,rfl⟩ (λr vs a_ qJ R0 hI hR=>?_) λa_ qJ hI=>?_
 ·have hm:r∈rows:=rwr hI.2.2.1 (az _ (.head _));have hr:=xF.each.2 r hm;obtain⟨lo,hi,p⟩:=r;refine iA (xE _ hm) λq pl zh=>rU zh λGu g=>?_;subst Gu;have U':=hI.1.fr _ _ (ak ..);k_go;refine Wh (hI.1.sub _ _ (hI.2.1 _ _ (k2 _ _ g.at_))) g.good (hI.1.lU λq1 kO pE k6 hq1 b6=>?_);k_go;refine b6.lU λql Q1 Mr k7 hql b7=>?_;k_go;refine Z9 (b7.sub _ _ hql) (bk (bp hr.2.1)) (by have:=hr.1;have:=hr.2.2;lia) (b7.lU λqr ι8 Mc k8 hqr b8=>?_)
  have e9:a_.2.1.length+(hi-lo).toNat=(expand ι (a_.2.2.1++[(lo,hi,.ref q)])).length:=by rw[qX,aa,bP,hI.2.2.2.2]
  have e10:(expand ι (a_.2.2.1++[(lo,hi,MV.ref q)])).length≤2000:=by
   have y:(expand ι (a_.2.2.1++[(lo,hi,MV.ref q)]++vs)).length=x.V.length:=by rw[af,←hex];exact(congrArg (λl=>(expand ι l).length) hI.2.2.1)
   unfold expand at y⊢;rw[hU,aa]at y;lia
  k_go;refine vN (b8.fr _ _ (ak ..)) (b8.sub _ _ hqr) (by rw[HL,e9];exact ah e10 (by decide)) (λe=>ar hqr (rwr e (b8.fi (aZ (ak ..))))) ?_
  k_go;have b9:=b8.put (o:=.list (a_.2.1++zf [.ref q1] (hi-lo).toNat)) (aZ (ak ..));rw[cZ]at b9;have k68:=k6.trans (k7.trans k8);refine⟨b9.sub _ _ (k68 _ _ (hI.2.1 _ _ mL)),hR ((_,_,_),(a_.2.1++zf [.ref q1] (hi-lo).toNat,a_.2.2.1++[(lo,hi,.ref q)],ι8)) _ ⟨b9,hI.2.1.trans k68,by rw[af];exact hI.2.2.1,?_,by rw[aa,HL];exact e9⟩⟩
  rw[qX,aJ,d3,g.view];refine fR.app (fR.rep ?_ _) (hI.2.2.2.1.mono k68);have e:=MQ g.good;unfold pdV;rw[←e];exact .list ((k7.trans k8) _ _ hq1) (fR.pairs _)
 ·have eD:=hI.2.2.1;rw[ay]at eD;have hD:=hI.2.2.2.1;rw[eD,hex]at hD;have b5:=hI.1.fix (xO:=φ) (ak ..) ((Le.refl φ).new fc) fc;have k5:Le a_.2.2.2 (upd a_.2.2.2 fq (.list a_.2.1)):=(Le.refl _).new (hI.1.fi (aZ (ak ..)));have U':=ak a_.2.2.2 fq (.list a_.2.1);have hD:=hD.mono k5;have k5:=k2.trans (hI.2.1.trans k5);generalize upd a_.2.2.2 fq _=Bt at b5 k5 U' hD;induction b5 with|intro i5 b5=>
  have hb5:=b5.b;k_go;refine El rfl ⟨i5,b5⟩ ?_;k_go;refine LW (A:=[]) (M:=x.K) (B:=[]) rfl hb5 b5.gap (by rw[cN,ay];exact b5.K) rfl (by rw[bQ,dM];exact(qB _).symm) (B.lU ⟨i5,b5⟩ λkc kO pE k6 YI b6=>?_)
  have hm6:=b6.sub _ _ (k6 _ _ (k5 _ _ hm));k_go;induction b6 with|intro i6 b6=>
  refine rR (s:=.list mk ([false,true].map λi=>.ref (A.Yl i))) (λi=>.ref (A.Yl i)) (λi=>.int (x.mp i)) hm6 [false,true] [] (λi _ T hT=>?_) (by decide) ?_
  ·have hmk:∃n v,pE (A.Yl i)=some (eB n v (.ref A.b) (x.mp i)):=(B.mkA ⟨i6,b6⟩ i).imp λn z=>z.imp λv z=>z.1;induction hmk with|intro n z=>
   induction z with|intro v hmk=>
   k_go;exact hT
  ·refine B.lU ⟨i6,b6⟩ λcp Q1 Mr k7 hcp b7=>?_;k_go;exact hq _ _ _ Q1 Mr (k5.trans (k6.trans k7)) b7 (.list (k7 _ _ YI) (fR.ints _)) (.list ((k6.trans k7) _ _ U') (hD.mono (k6.trans k7))) (.list hcp (fR.ints [x.p1,x.p2]))
end
structure Sn where
 K:List Int
 V:List PM
 p1:Int
 p2:Int
noncomputable def AV.sn(x:AV):Sn:=⟨x.K,x.V,x.p1,x.p2⟩
structure Un(x y:AV)(g:List UR):Prop where
 rows:y.rows=iu x.rows x.nt (decide (x.dZ<x.tk)) x.dZ++g
 nt:y.nt=pQ x.nt (decide (x.dZ<x.tk)) x.dZ
 dZ:y.dZ=x.dZ
 tk:x.tk<y.tk
theorem Ag{rows:List UR}{nt:Option Int}{t:Int}:iu rows nt true t=rows∧pQ nt true t=nt:=⟨rfl,rfl⟩
theorem Un.trans{x y z:AV}{g g':List UR}(h:Un x y g)(k:Un y z g')(hs:x.dZ≤x.tk):Un x z (g++g'):=by
 have e:decide (y.dZ<y.tk)=true:=decide_eq_true (rwl h.dZ (gg hs h.tk));have kr:=k.rows;have kn:=k.nt;rw[e,Ag.1,h.rows,af]at kr;rw[e,(Ag (rows:=[])).2,h.nt]at kn;exact⟨kr,kn,k.dZ.trans h.dZ,fT h.tk k.tk⟩
theorem Un.len{x y:AV}{g:List UR}(h:Un x y g):y.rows.length≤x.rows.length+1+g.length:=by
 rw[h.rows,aa];exact bN (si ..) _
noncomputable def dl(ms:List UR)(a:Int)(pc:Addr)(f:Bool)(K:List Int)(W:List PM):List UR:=match K with
 |[]=>[]
 |_::_=>ms++[.del a pc f K W]
noncomputable def il(a:Int)(K:List Int):List UR:=match K with
 |[]=>[]
 |_::_=>[.ins a (a+(K.length:Nat))]
noncomputable def Q7(A:BA)(a e p1 p2:Int):List UR:=jn (wM false A.m1 A.a1 a e p1++wM true A.m2 true a e p2)
inductive GD (A:BA) (M:Prop):List UR→Sn→Sn→Prop
 |ed (a:Int) (X Y K K':List Int) (P Q W W':List PM) (p1 p2 q1 q2:Int) (ms:List UR) (pc:Addr) (f:Bool) (ha:a=X.length+1) (hX:P.length=X.length) (hY:Q.length=Y.length) (hK:W.length=K.length) (Qp:W'.length=K'.length) (ne:K.length+K'.length≠0)
  (zK:∀r∈ms,r.B3=true) (hl:ms.length≤2)
  (hm:M→(ig a (a+K'.length) q1=ig a (a+K.length) p1∧ig a (a+K'.length) q2=ig a (a+K.length) p2)∧ms=Q7 A a (a+K.length) p1 p2):
  GD A M (dl ms a pc f K W++il a K') ⟨X++K++Y,P++W++Q,p1,p2⟩ ⟨X++K'++Y,P++W'++Q,q1,q2⟩
 |prop (ps:List UR) (K:List Int) (V V':List PM) (p1 p2 q1 q2:Int) (hV:V.length=K.length) (YO:V'.length=K.length) (ok:D8 1 (K.length+1) ps) (hf:ps.foldr uV V'=V) (nF:V'≠V) (hm:M→q1=p1∧q2=p2):GD A M ps ⟨K,V,p1,p2⟩ ⟨K,V',q1,q2⟩
theorem kH{a p:Int}:ig a (a+0) p=p:=by
 unfold ig;split
 ·lia
 ·split
  ·lia
  ·rfl
theorem Lu{a k p:Int}{v:Bool}(hk:0<k):ig a (a+k) (om a (a+k) false v p)=p:=by
 unfold ig om;cases v<;>simp only[zP,or_self,and_false,or_false,or_true,and_true]<;>(split<;>split<;>(try split)<;>lia)
theorem Ls{a e k p:Int}(hk:0<k)(he:a<e):ig a (a+k) (yW a e k p)=ig a e p:=by
 unfold ig yW;split<;>split<;>(try split)<;>(try split)<;>lia
theorem HA{K K':List Int}{V V':List PM}{p q:Int}(h:K=K')(k:V=V'):Sn.mk K V p q=Sn.mk K' V' p q:=by rw[h,k]
theorem CP{ms:List UR}{a:Int}{pc:Addr}{f:Bool}{W:List PM}{K:List Int}(h:K.length≠0):dl ms a pc f K W=ms++[.del a pc f K W]:=by
 induction K using aF with
 |nil=>exact absurd rfl h
 |cons=>rfl
theorem CN{a:Int}{K:List Int}(h:K.length≠0):il a K=[.ins a (a+(K.length:Nat))]:=by
 induction K using aF with
 |nil=>exact absurd rfl h
 |cons=>rfl
theorem I7{ms:List (Bool×Addr×Int)}:∀r∈jn ms,r.B3=true:=λr m=>by
 obtain⟨t,_,rfl⟩:=KX m;rfl
theorem E4{A:BA}{a e p1 p2:Int}:(Q7 A a e p1 p2).length≤2:=ah (OC _) (by rw[aa];exact ik (N' ..) (N' ..))
theorem RN{i:Bool}{m:Addr}{v:Bool}{a p:Int}:jn (wM i m v a a p)=[]:=by
 unfold wM;by_cases c:a≤p∧p≤a
 ·rw[if_pos c];have e:sA a a v p=0:=by
   unfold sA;split
   ·rfl
   ·cases v
    ·show a-p=0;lia
    ·show a-p=0;lia
  rw[e];rfl
 ·rw[if_neg c];rfl
theorem KY:∀{l k:List (Bool×Addr×Int)},jn (l++k)=jn l++jn k:=by
 intro zl;induction zl with
 |nil=>
  rintro _;exact rfl
 |cons e r ih=>
  rintro k;rw[bH,jn,jn,ih];cases decide (e.2.2=0)<;>rfl
theorem WN{A:BA}{a p1 p2:Int}:Q7 A a a p1 p2=[]:=by
 unfold Q7;rw[KY,RN,RN];rfl
section
variable{A:BA}{x:AV}{a e:Int}{K:List Int}{pc:Addr}
theorem Ud(hV:x.V.length=x.K.length)(h0:1≤a)(h1:a≤x.K.length+1)(hK:K.length≠0):Un x (x.D7 A a K false false) (il a K)∧GD A True (il a K) x.sn (x.D7 A a K false false).sn:=by
 have a0:=bk h0;have a1:=bt h1;have t1:=fE a0 a1;have d2:=nJ (l:=x.V) a0 (rwl hV a1);have k0:0<((K.length:Nat):Int):=cB.mpr (iN hK);refine⟨by rw[CN hK];exact⟨rfl,rfl,rfl,oK _⟩,?_⟩
 have z:=GD.ed (A:=A) (M:=True) a (x.K.take (a-1).toNat) (x.K.drop (a-1).toNat) [] K (x.V.take (a-1).toNat) (x.V.drop (a-1).toNat) [] (aM K.length (none,none)) x.p1 x.p2 (om a (a+(K.length:Nat)) false A.a1 x.p1) (om a (a+(K.length:Nat)) false true x.p2) [] 0 false
  (by rw[t1];lia) (cO ((fE (l:=x.V) a0 (rwl hV a1)).trans t1.symm)) (cO (by rw[hV]at d2;exact d2.trans (nJ a0 a1).symm)) rfl (bP ..) (by rw[bQ,cQ];exact hK) (λ_ m=>absurd m aD) (cy _)
  (λ_=>⟨⟨(Lu k0).trans kH.symm,(Lu k0).trans kH.symm⟩,by rw[bQ];show[]=Q7 A a (a+0) x.p1 x.p2;rw[fh,WN]⟩)
 rw[ay,ay,cw,cw]at z;have ey:(x.D7 A a K false false).sn=⟨x.K.take (a-1).toNat++K++x.K.drop (a-1).toNat,x.V.take (a-1).toNat++aM K.length (none,none)++x.V.drop (a-1).toNat,om a (a+(K.length:Nat)) false A.a1 x.p1,om a (a+(K.length:Nat)) false true x.p2⟩:=
  HA rfl (show K9 x.V (a-1) ((K.length:Nat):Int).toNat (none,none)=_ by rw[cS];rfl)
 rw[ey];exact z
theorem a1p(hV:x.V.length=x.K.length)(h0:1≤a)(h1:a<e)(h2:e≤x.K.length+1):∃g,Un x (x.Hk A pc a e) g∧GD A True g x.sn (x.Hk A pc a e).sn∧g.length≤3:=by
 have a0:=bk h0;have a1:a-1≤e-1:=by lia
 have a2:=bt h2;have t1:=fE a0 (aS a1 a2);have d2:=nJ (l:=x.V) (aS a0 a1) (rwl hV a2);have s1:=tz a0 a1 a2;have s2:=tz (l:=x.V) a0 a1 (rwl hV a2);have sn:(sl x.K (a-1) (e-1)).length≠0:=by lia
 have se:a+((sl x.K (a-1) (e-1)).length:Nat)=e:=by lia
 refine⟨jn (x.ws A a e)++[x.cut pc a e],⟨rfl,rfl,rfl,oK _⟩,?_,by rw[aa];exact bN (E4 (A:=A) (a:=a) (e:=e) (p1:=x.p1) (p2:=x.p2)) 1⟩
 have z:=GD.ed (A:=A) (M:=True) a (x.K.take (a-1).toNat) (x.K.drop (e-1).toNat) (sl x.K (a-1) (e-1)) [] (x.V.take (a-1).toNat) (x.V.drop (e-1).toNat) (sl x.V (a-1) (e-1)) [] x.p1 x.p2 (ig a e x.p1) (ig a e x.p2) (Q7 A a e x.p1 x.p2) pc (decide (x.pt=a+((sl x.K (a-1) (e-1)).length:Nat)))
  (by rw[t1];lia) (cO ((fE (l:=x.V) a0 (rwl hV (aS a1 a2))).trans t1.symm)) (cO (by rw[hV]at d2;exact d2.trans (nJ (aS a0 a1) a2).symm)) (cO (s2.trans s1.symm)) rfl (by lia) I7 E4
  (λ_=>⟨by rw[se];exact⟨kH,kH⟩,by rw[se]⟩)
 rw[CP sn,←jW x.K a1,←jW x.V a1,ay,ay]at z;rw[show il a ([]:List Int)=[]from rfl,ay]at z;exact z
end
section
variable{A:BA}{x:AV}{a e:Int}{K:List Int}{pc:Addr}
theorem a5J{c:Bool}{x y:AV}{P:AV→Prop}(h:P x)(k:P y):P (bif c then x else y):=by cases c<;>assumption
theorem a1o(hV:x.V.length=x.K.length)(h0:1≤a)(h1:a<e)(h2:e≤x.K.length+1)(hK:K.length≠0):∃g,Un x (x.Jz A pc a e K) g∧GD A True g x.sn (x.Jz A pc a e K).sn∧g.length≤4:=by
 have a0:=bk h0;have a1:a-1≤e-1:=by lia
 have a2:=bt h2;have t1:=fE a0 (aS a1 a2);have t2:=fE (l:=x.V) a0 (rwl hV (aS a1 a2));have t3:=fE (l:=x.V) (aS a0 a1) (rwl hV a2);have d1:=nJ (aS a0 a1) a2;have d2:=nJ (l:=x.V) (aS a0 a1) (rwl hV a2);have s1:=tz a0 a1 a2;have s2:=tz (l:=x.V) a0 a1 (rwl hV a2);have sn:(sl x.K (a-1) (e-1)).length≠0:=by lia
 have se:a+((sl x.K (a-1) (e-1)).length:Nat)=e:=by lia
 have k0:0<((K.length:Nat):Int):=cB.mpr (iN hK);have n1:(x.K.take (a-1).toNat).length=(a-1).toNat:=by lia
 have n2:(x.V.take (a-1).toNat).length=(a-1).toNat:=by lia
 have n3:(x.V.take (e-1).toNat).length=(e-1).toNat:=by lia
 have eK:(x.Jz A pc a e K).K=x.K.take (a-1).toNat++K++x.K.drop (e-1).toNat:=by
  have z:∀c:Bool,(bif c then((x.m9 A pc a e).z5 a K).goto (x.pt+(K.length:Nat)-(e-a))else(x.m9 A pc a e).z5 a K).K=((x.m9 A pc a e).z5 a K).K:=λc=>by cases c<;>rfl
  refine(z _).trans ?_;show(x.K.take (a-1).toNat++x.K.drop (e-1).toNat).take (a-1).toNat++K++(x.K.take (a-1).toNat++x.K.drop (e-1).toNat).drop (a-1).toNat=_;rw[pN n1,nH n1]
 have eV:(x.Jz A pc a e K).V=x.V.take (a-1).toNat++aM K.length (none,none)++x.V.drop (e-1).toNat:=by
  have z:∀c:Bool,(bif c then((x.m9 A pc a e).z5 a K).goto (x.pt+(K.length:Nat)-(e-a))else(x.m9 A pc a e).z5 a K).V=x.V:=λc=>by cases c<;>rfl
  show QA (K9 (AV.V (bif decide (e≤x.pt)then _ else _)) (e-1) ((K.length:Nat):Int).toNat (none,none)) (a-1) (e-1)=_;rw[z,cS];show(x.V.take (e-1).toNat++aM K.length (none,none)++x.V.drop (e-1).toNat).take (a-1).toNat++(x.V.take (e-1).toNat++aM K.length (none,none)++x.V.drop (e-1).toNat).drop (e-1).toNat=_;rw[af,nH n3,Ea (by lia),Vj,eS (by lia),af]
 have em:(x.Jz A pc a e K).p1=yW a e (K.length:Nat) x.p1∧(x.Jz A pc a e K).p2=yW a e (K.length:Nat) x.p2:=by
  show yW a e (K.length:Nat) (AV.p1 (bif decide (e≤x.pt)then _ else _))=_∧yW a e (K.length:Nat) (AV.p2 (bif decide (e≤x.pt)then _ else _))=_;cases decide (e≤x.pt)<;>exact⟨rfl,rfl⟩
 refine⟨(jn (x.ws A a e)++[x.cut pc a e])++[.ins a (a+(K.length:Nat))],?_,?_,by rw[aa,aa];exact bN (bN (E4 (A:=A) (a:=a) (e:=e) (p1:=x.p1) (p2:=x.p2)) 1) 1⟩
 ·have r:=congrArg AV.rows (BV (x:=x) (us:=jn (x.ws A a e)++[x.cut pc a e]) (ZF:=[.ins a (a+(K.length:Nat))]));have z:∀c:Bool,Un x (((((bif c then((x.m9 A pc a e).z5 a K).goto (x.pt+(K.length:Nat)-(e-a))else(x.m9 A pc a e).z5 a K).mkR a e (K.length:Nat)).vin e (K.length:Nat)).VJ a e).EF) ((jn (x.ws A a e)++[x.cut pc a e])++[.ins a (a+(K.length:Nat))]):=λc=>by
   cases c<;>exact⟨r,(congrArg AV.nt (BV (x:=x) (us:=jn (x.ws A a e)++[x.cut pc a e]) (ZF:=[.ins a (a+(K.length:Nat))]))),rfl,oK _⟩
  exact z _
 ·have z:=GD.ed (A:=A) (M:=True) a (x.K.take (a-1).toNat) (x.K.drop (e-1).toNat) (sl x.K (a-1) (e-1)) K (x.V.take (a-1).toNat) (x.V.drop (e-1).toNat) (sl x.V (a-1) (e-1)) (aM K.length (none,none)) x.p1 x.p2 (yW a e (K.length:Nat) x.p1) (yW a e (K.length:Nat) x.p2) (Q7 A a e x.p1 x.p2) pc (decide (x.pt=a+((sl x.K (a-1) (e-1)).length:Nat)))
   (by rw[t1];lia) (n2.trans n1.symm) (cO (by rw[hV]at d2;exact d2.trans d1.symm)) (cO (s2.trans s1.symm)) (bP ..) (by lia) I7 E4
   (λ_=>⟨by rw[se];exact⟨Ls k0 h1,Ls k0 h1⟩,by rw[se]⟩)
  rw[CP sn,CN hK,←jW x.K a1,←jW x.V a1]at z;have ey:(x.Jz A pc a e K).sn=⟨_,_,_,_⟩:=show Sn.mk _ _ _ _=Sn.mk _ _ _ _ by rw[eK,eV,em.1,em.2]
  rw[ey];exact z
theorem Xh{T:PM→PM}{ps:List UR}(hV:x.V.length=x.K.length)(h0:1≤a)(h1:a≤e)(h2:e≤x.K.length+1)(ok:D8 a e ps)(hf:ps.foldr uV (fX T x.V (a-1) (e-1))=x.V)(nF:fX T x.V (a-1) (e-1)≠x.V):Un x (x.yN T a e ps) ps∧GD A True ps x.sn (x.yN T a e ps).sn:=
 ⟨⟨rfl,rfl,rfl,oK _⟩,.prop ps x.K x.V _ x.p1 x.p2 x.p1 x.p2 hV ((EN (bk h0) (gY h1 1) (by rw[hV];exact bt h2)).trans hV)
  (λr m=>(ok r m).imp λs z=>z.imp λe' z=>z.imp λk z=>z.imp λel z=>⟨z.1,aS h0 z.2.1,z.2.2.1,aS z.2.2.2.1 h2,z.2.2.2.2⟩) hf nF λ_=>⟨rfl,rfl⟩⟩
end
theorem GD.eq{A:BA}{M:Prop}{g:List UR}{d e d' e':Sn}(h:GD A M g d e)(q:d=d')(r:e=e'):GD A M g d' e':=q▸rwr r h
inductive Cmd (A:BA) (x y:AV):Prop
 |same (h:y=x)
 |ed (g:List UR) (u:Un x y g) (d:GD A True g x.sn y.sn) (l:g.length≤38)
noncomputable def lLC(dk b:Addr)(fr way st en co:MV):Loc:=[(di,some (.ref dk)),(ae,some (.ref b)),(x_fresh,some fr),(zR,some way),(au,some st),(aH,some en),(ba,some co)]
theorem a4J:∀n:Nat,oZ n=(fB n).map λi:Nat=>MV.int i:=λn=>by unfold oZ;rw[cS]
section
variable{be:Nat}{σ ι φ:St}{Q:bw}{A:BA}{x:AV}
noncomputable abbrev BJ(A:BA)(ι φ:St)(x:AV)(jG d0:Addr)(n:Int)(σ:St):Prop:=B A ι (upd φ jG (gK d0 n)) σ x
theorem BJ.dj{jG d0:Addr}{js:List Int}(Gn:ι d0=some (.list (js.map .int)))(nF:d0≠jG):DJ jG d0 A.b js x.K.length (BJ A ι φ x jG d0):=
 ⟨λn σ h=>⟨h.fr _ _ (ak ..),h.sub _ _ Gn⟩,nF,λn σ h=>h.at_.elim λfY w=>⟨_,w.1⟩,λn σ Q h q=>El rfl h q,λn σ h=>by
  have z:=B.put (o:=gK d0 (n+1)) h (aZ (ak ..));rw[cZ]at z;exact z⟩
theorem Dg.cmd{T:PM→PM}{jG d0:Addr}{n':Int}{a e:Int}{Q:bw}(hV:x.V.length=x.K.length)(h0:1≤a)(h1:a≤e)(h2:e≤x.K.length+1)(hK:x.K.length≤18)
  (hq:∀v bx av x',Le ι bx→BJ A bx φ x' jG d0 n' av→Cmd A x x'→x'.K.length=x.K.length→Q v av):Dg A ι (upd φ jG (gK d0 n')) x T a e Q:=
 ⟨λbx av k b _=>hq _ bx av x k b (.same rfl) rfl,λbx av ps k b o n l u=>have z:=Xh hV h0 h1 h2 o u n;hq _ bx av _ k b (.ed ps z.1 z.2 (by omega)) rfl⟩
theorem OH{pc:Addr}{a e:Int}(h:a≤e):(x.Hk A pc a e).K.length≤x.K.length:=by
 show(x.K.take (a-1).toNat++x.K.drop (e-1).toNat).length≤_;rw[aa,eX,d6];omega
theorem len_rep{pc:Addr}{a e:Int}{K:List Int}(h:a≤e):(x.Jz A pc a e K).K.length≤x.K.length+K.length:=by
 have z:∀c:Bool,(bif c then((x.m9 A pc a e).z5 a K).goto (x.pt+(K.length:Nat)-(e-a))else(x.m9 A pc a e).z5 a K).K=((x.m9 A pc a e).z5 a K).K:=λc=>by cases c<;>rfl
 refine ah (cR (congrArg bl (z _))) ?_;refine ah (cR tJ) (bN ?_ _);exact OH (A:=A) (pc:=pc) h
set_option maxHeartbeats 4000000 in
theorem QP{jG d0:Addr}{js:List Int}{n fr:Int}(aV:ai 13 be=true)(h:BJ A ι φ x jG d0 n σ)(Gn:ι d0=some (.list (js.map .int)))(nF:d0≠jG)(hn:0≤n)(YH:n≤80000)(hl:x.rows.length≤400000)(hni:DE x.rows=true)(hV:x.V.length=x.K.length)(hK:x.K.length≤16)
  (hq:∀v bx av x' n',Le ι bx→BJ A bx φ x' jG d0 n' av→n≤n'→n'≤n+5→Cmd A x x'→x'.K.length≤x.K.length+2→Q v av):D be (.fn 1191) [.ref jG,.ref A.b,.int fr] σ Q:=by
 refine AZ aV ?_;dsimp only[qw];have dj:=BJ.dj (φ:=φ) (A:=A) (x:=x) Gn nF;have hl5:x.rows.length≤500000:=ah hl (by decide)
 have hl6:x.rows.length≤600000:=ah hl (by decide)
 have hK2:x.K.length≤2000:=ah hK (by decide)
 k_go;refine dj.draw rfl h hn (by omega) (by decide) λway dE w0 w1 h1=>?_
 k_go;refine dj.Od rfl h1 (by omega) (by omega) (bJ _) λs e dp s0 se e1 h2=>?_
 k_go;refine dj.draw rfl h2 (by omega) (by omega) (by decide) λv jJ v0 v1 h3=>?_
 k_go;refine tx (by omega) (by show _≤(1000000:Int);omega) ?_
 k_go;refine rR (s:=.items (oZ (1+v))) (λi:Nat=>MV.int i) (λi=>.int (fr+i)) trivial (fB (1+v).toNat) [] (λi _ T hT=>?_) (by rw[bQ,cQ,jh];exact ah (show _≤5 by omega) (by decide)) ?_
 ·k_go;exact hT
 refine B.lU h3 λcq Ec vh k4 TX h4=>?_;have TX:Ec cq=some (dt ((fB (1+v).toNat).map λi:Nat=>fr+i)):=TX.trans (congrArg (λl=>some (MO.list l)) (by rw[cN,jI];rfl))
 have lk:((fB (1+v).toNat).map λi:Nat=>fr+i).length=(1+v).toNat:=by rw[ax,jh]
 have WY:((fB (1+v).toNat).map λi:Nat=>fr+i).length≠0:=by omega
 have lk2:((fB (1+v).toNat).map λi:Nat=>fr+i).length≤2:=by omega
 generalize((fB (1+v).toNat).map λi:Nat=>fr+i)=K at TX WY lk2;clear lk;have hd4:=k4 _ _ Gn;have fin:∀{v bx av x'},Le Ec bx→BJ A bx φ x' jG d0 (n+1+2+1) av→Cmd A x x'→x'.K.length≤x.K.length+2→Q v av:=λ{v bx av x'}k b c l=>hq v bx av x' _ (k4.trans k) b (by omega) (by omega) c l
 have a1r:∀{v bx av x'},Le Ec bx→BJ A bx φ x' jG d0 (n+1+2+1+1) av→Cmd A x x'→x'.K.length≤x.K.length+2→Q v av:=λ{v bx av x'}k b c l=>hq v bx av x' _ (k4.trans k) b (by omega) (by omega) c l
 have xD:x.K.length+K.length+8≤2000:=by omega
 k_go;refine gi (λc=>?_) λc=>?_
 ·k_go;refine Dc rfl h4 hl6 hni hV TX WY s0 (aS se e1) xD λBt qJ k5 h5=>?_;k_go;have z:=Ud (A:=A) hV s0 (aS se e1) WY;exact fin k5 h5 (.ed _ z.1 z.2 (by rw[CN WY];exact bh rfl)) (ah (cR tJ) (c9 lk2 _))
 k_go;refine gi (λc=>?_) λc=>?_
 ·k_go;by_cases q:s=e
  ·subst q;refine QO rfl h4 s0 e1 λc qJ h5=>?_;k_go;exact fin (.refl _) h5 (.same rfl) (bq _ _)
  ·have sl:s<e:=yc.mpr ⟨se,q⟩;refine LU rfl h4 hl6 hK2 hV s0 sl e1 λc Bt qJ pc k5 h5=>?_;k_go;induction a1p (A:=A) (pc:=pc) hV s0 sl e1 with|intro g z=>
   exact fin k5 h5 (.ed g z.1 z.2.1 (ah z.2.2 (by decide))) (ah (OH se) (bq _ _))
 k_go;refine gi (λc=>?_) λc=>?_
 ·k_go;by_cases q:s=e
  ·subst q;refine NL rfl h4 hl5 hni hV TX WY s0 e1 xD λc Bt qJ k5 h5=>?_;k_go;have z:=Ud (A:=A) hV s0 e1 WY;exact fin k5 h5 (.ed _ z.1 z.2 (by rw[CN WY];exact bh rfl)) (ah (cR tJ) (c9 lk2 _))
  ·have sl:s<e:=yc.mpr ⟨se,q⟩;refine QL rfl h4 hl5 hV TX WY s0 sl e1 xD λc Bt qJ pc k5 h5=>?_;k_go;induction a1o (A:=A) (pc:=pc) hV s0 sl e1 WY with|intro g z=>
   exact fin k5 h5 (.ed g z.1 z.2.1 (ah z.2.2 (by decide))) (ah (len_rep se) (c9 lk2 _))
 k_go;refine gi (λc=>?_) λc=>?_
 ·k_go;refine(BJ.dj (φ:=φ) (A:=A) (x:=x) hd4 nF).draw rfl h4 (by omega) (by omega) (by decide) λw qJ w0 w1 h5=>?_
  k_go;refine a4m rfl h5 hl5 hK2 hV s0 se e1 (by omega) (Dg.cmd hV s0 se e1 (by omega) λv kO pE x6 k6 h6 c l=>?_)
  k_go;exact a1r k6 h6 c (ah (cR l) (bq _ _))
 k_go;refine gi (λc=>?_) λc=>?_
 ·k_go;refine B.lU h4 λpq0 Bt qJ k5 hp5 h5=>?_;k_go;refine(BJ.dj (φ:=φ) (A:=A) (x:=x) (k5 _ _ hd4) nF).draw rfl h5 (by omega) (by omega) (by decide) λw pE w0 w1 h6=>?_
  k_go;have hi:hi? (.int w) 1=some w.toNat:=by
   have z:=B6 (i:=w.toNat) (n:=1) (by omega)
   rwa [bL w0]at z
  refine HC (B.sub h6 _ _ hp5) (i:=0) (j:=w.toNat) rfl hi (B.lU h6 λp0 Q1 Mr k7 YF h7=>?_);have xE:uj Q1 p0 ([(2,fr)].take w.toNat):=⟨YF.trans (by
   have:w=0∨w=1:=by omega
   rcases this with rfl|rfl<;>rfl),by
   have:w=0∨w=1:=by omega
   rcases this with rfl|rfl
   ·exact⟨λ_ m=>absurd m aD,.nil⟩
   ·exact⟨λ_ m=>rwl (aQ.mp m) (.inr rfl),dw.mpr ⟨aD,.nil⟩⟩,ah (og ..) (bh rfl)⟩
  k_go;refine QM rfl h7 xE hl5 hK2 hV s0 se e1 (Dg.cmd hV s0 se e1 (by omega) λv ι8 Mc x8 k8 h8 c l=>?_)
  k_go;exact a1r (k5.trans (k7.trans k8)) h8 c (ah (cR l) (bq _ _))
 ·k_go;refine B.lU h4 λpq0 Bt qJ k5 hp5 h5=>?_;k_go;refine(BJ.dj (φ:=φ) (A:=A) (x:=x) (k5 _ _ hd4) nF).draw rfl h5 (by omega) (by omega) (by decide) λw pE w0 w1 h6=>?_
  k_go;have hi:hi? (.int (1+w)) 2=some (1+w).toNat:=by
   have z:=B6 (i:=(1+w).toNat) (n:=2) (by omega)
   rwa [bL (show 0≤1+w by omega)]at z
  refine HC (B.sub h6 _ _ hp5) (i:=0) (j:=(1+w).toNat) rfl hi (B.lU h6 λp0 Q1 Mr k7 YF h7=>?_);have hn7:Q1 p0=some (.list (([1,2].take (1+w).toNat).map .int)):=YF.trans (by
   have:w=0∨w=1:=by omega
   rcases this with rfl|rfl<;>rfl)
  k_go;refine UI rfl h7 hn7 hl5 hK2 hV s0 se e1 (Dg.cmd hV s0 se e1 (by omega) λv ι8 Mc x8 k8 h8 c l=>?_)
  k_go;exact a1r (k5.trans (k7.trans k8)) h8 c (ah (cR l) (bq _ _))
end
theorem MB{A:BA}{P:AV→Prop}{n:Nat}{g:List UR}{x:AV}(h:Gm A n g x P):Gm A (n+1) g x P:=by
 induction n generalizing g x with
 |zero=>induction g with
  |nil=>exact h
  |cons=>exact h.elim
 |succ n ih=>induction g using aF with
  |nil=>exact h
  |cons=>exact⟨h.1,λx1 u=>ih (h.2 x1 u)⟩
theorem mid{α:Type}{X K Y:List α}{a:Int}(ha:a=X.length+1):(X++K++Y).take (a-1).toNat=X∧(X++K++Y).drop (a+K.length-1).toNat=Y∧sl (X++K++Y) (a-1) (a+K.length-1)=K∧(X++Y).take (a-1).toNat=X∧(X++Y).drop (a-1).toNat=Y:=by
 have e1:(a-1).toNat=X.length:=by lia
 have e2:(a+K.length-1).toNat=X.length+K.length:=by lia
 unfold sl;rw[e1,e2,a4j rfl rfl,af,xK,xK,xN,←af,←aa,xN];exact⟨rfl,rfl,rfl,rfl,rfl⟩
theorem Uk{ms:List (Bool×Int)}{x:AV}:∃p q,x.Qw ms=x.setM p q:=by
 induction ms generalizing x with
 |nil=>exact⟨x.p1,x.p2,rfl⟩
 |cons e r ih=>
  refine iA (ih (x:=x.Qx e)) λp q h=>?_;refine⟨p,q,h.trans ?_⟩;unfold AV.Qx AV.Sl;cases e.1<;>rfl
theorem ZJ{A:BA}{y:AV}{a:Int}{X K' Y:List Int}{P W' Q:List PM}{pc:Addr}(ha:a=X.length+1)(hX:P.length=X.length)(hK:W'.length=K'.length)(h0:K'.length≠0)(hy:y.K=X++K'++Y)(hv:y.V=P++W'++Q):
  ((y.goto a).Hk A pc a (a+K'.length)).sn=⟨X++Y,P++Q,ig a (a+K'.length) y.p1,ig a (a+K'.length) y.p2⟩∧∃ms f,(∀r∈ms,r.B3=true)∧ms.length≤2∧Un y ((y.goto a).Hk A pc a (a+K'.length)) (dl ms a pc f K' W'):=by
 have m1:=mid (K:=K') (Y:=Y) ha;have m2:=mid (X:=P) (K:=W') (Y:=Q) (a:=a) (by rw[hX];exact ha)
 rw[hK]at m2;refine⟨?_,Q7 A a (a+K'.length) y.p1 y.p2,decide ((y.goto a).pt=a+((sl (y.goto a).K (a-1) (a+K'.length-1)).length:Nat)),I7,E4,?_⟩
 ·show Sn.mk (y.K.take _++y.K.drop _) (y.V.take _++y.V.drop _) _ _=_;rw[hy,hv,m1.1,m1.2.1,m2.1,m2.2.1];rfl
 ·rw[CP h0];have e2:sl (y.goto a).V (a-1) (a+K'.length-1)=W':=by show sl y.V _ _=_;rw[hv,m2.2.2.1]
  have e3:(y.goto a).cut pc a (a+K'.length)=.del a pc (decide ((y.goto a).pt=a+((sl (y.goto a).K (a-1) (a+K'.length-1)).length:Nat))) K' W':=by
   unfold AV.cut;rw[e2];exact congrArg (λl=>UR.del a pc _ l W') (by show sl y.K _ _=_;rw[hy,m1.2.2.1])
  refine⟨?_,rfl,rfl,oK _⟩;rw[←e3];rfl
theorem ZI{A:BA}{y:AV}{a:Int}{X K Y:List Int}{P W Q:List PM}{f:Bool}{ms:List (Bool×Int)}(ha:a=X.length+1)(hX:P.length=X.length)(h0:K.length≠0)(hy:y.K=X++Y)(hv:y.V=P++Q):
  ∃p q,(y.vF A a K W f ms).sn=⟨X++K++Y,P++W++Q,p,q⟩∧Un y (y.vF A a K W f ms) (il a K):=by
 have m1:=mid (K:=K) (Y:=Y) ha;have m2:=mid (X:=P) (K:=W) (Y:=Q) (a:=a) (by rw[hX];exact ha)
 refine iA (Uk (ms:=tm a y ms) (x:=bif f then(y.goto a).gW A K W else((y.goto a).gW A K W).goto a)) λp q e=>?_;have e:y.vF A a K W f ms=_:=e;rw[e];refine⟨p,q,?_,?_⟩
 ·have z:(bif f then(y.goto a).gW A K W else((y.goto a).gW A K W).goto a).K=X++K++Y∧(bif f then(y.goto a).gW A K W else((y.goto a).gW A K W).goto a).V=P++W++Q:=by
   cases f<;>
   ·show y.K.take (a-1).toNat++K++y.K.drop (a-1).toNat=_∧y.V.take (a-1).toNat++W++y.V.drop (a-1).toNat=_;rw[hy,hv,m1.2.2.2.1,m1.2.2.2.2,m2.2.2.2.1,m2.2.2.2.2];exact⟨rfl,rfl⟩
  exact HA z.1 z.2
 ·rw[CN h0];cases f<;>exact⟨rfl,rfl,rfl,oK _⟩
theorem OD:∀{u:List UR},(∀r∈u.head?,r.B3=false)→Bv u=[]:=by
 intro zl;induction zl with
 |nil=>
  rintro _;exact rfl
 |cons r _ ih=>
  rintro h;exact a0t (h r rfl)
theorem KZ{i v:Bool}{m:Addr}{a b p:Int}(hab:a<b):(jn (wM i m v a b p)=[]∧om a b false v (ig a b p)=p)∨∃d,jn (wM i m v a b p)=[.mk i m d]∧ig a b p=a∧∀hi,b≤hi→1≤a→p9 1 hi (om a b false v (ig a b p)-d)=p:=by
 unfold wM;by_cases c:a≤p∧p≤b
 ·rw[if_pos c];have e:ig a b p=a:=by
   unfold ig;rw[if_neg (dc.mpr c.2)];split
   ·rfl
   ·lia
  rw[e];have ed:sA a b v p=bif v then b-p else a-p:=if_neg (by lia)
  have ei:om a b false v a=bif v then b else a:=by
   unfold om;cases v
   ·exact if_neg (by simp)
   ·exact(if_pos (.inr ⟨rfl,.inr rfl⟩)).trans (by show a+b-a=b;lia)
  by_cases d:sA a b v p=0
  ·refine .inl ⟨by show(bif decide (sA a b v p=0)then _ else _)=_;rw[decide_eq_true d];rfl,?_⟩
   rw[ei];rw[ed]at d;cases v
   ·show a=p;have d:a-p=0:=d;lia
   ·show b=p;have d:b-p=0:=d;lia
  ·refine .inr ⟨sA a b v p,by show(bif decide (sA a b v p=0)then _ else _)=_;rw[decide_eq_false d];rfl,rfl,λhi h1 h2=>?_⟩
   have q:om a b false v a-sA a b v p=p:=by
    rw[ei,ed];cases v
    ·show a-(a-p)=p;lia
    ·show b-(b-p)=p;lia
   rw[q];exact Fx (aS h2 c.1) (aS c.2 h1)
 ·rw[if_neg c];refine .inl ⟨rfl,?_⟩;unfold ig om;by_cases h:b<p
  ·rw[if_pos h,if_pos (.inl (by lia))];lia
  ·rw[if_neg h,if_neg (show¬a<p by lia),if_neg (by lia)]
theorem RR{A:BA}{y:AV}{a p1 p2:Int}{X K Y:List Int}{W:List PM}{f:Bool}{u:List UR}(ha:a=X.length+1)(h0:K.length≠0)(hy:y.K=X++Y)(h1:y.p1=ig a (a+K.length) p1)(h2:y.p2=ig a (a+K.length) p2)(hu:∀r∈u.head?,r.B3=false):
  (y.vF A a K W f (Bv ((Q7 A a (a+K.length) p1 p2).reverse++u))).p1=p1∧(y.vF A a K W f (Bv ((Q7 A a (a+K.length) p1 p2).reverse++u))).p2=p2:=by
 have k0:0<((K.length:Nat):Int):=cB.mpr (iN h0);have hi:a+K.length≤((X++K++Y).length:Nat)+1:=by rw[aa,aa];lia
 have a1:1≤a:=by lia
 have mu:=OD hu;have m1:=mid (K:=K) (Y:=Y) ha;have w:∀L,y.vF A a K W f L=AV.Qw (bif f then(y.goto a).gW A K W else((y.goto a).gW A K W).goto a) (tm a y L):=λ_=>rfl;have wf:(bif f then(y.goto a).gW A K W else((y.goto a).gW A K W).goto a).p1=om a (a+K.length) false A.a1 y.p1∧(bif f then(y.goto a).gW A K W else((y.goto a).gW A K W).goto a).p2=om a (a+K.length) false true y.p2∧
   (bif f then(y.goto a).gW A K W else((y.goto a).gW A K W).goto a).K=X++K++Y:=by
  cases f<;>
  ·refine⟨rfl,rfl,?_⟩;show y.K.take (a-1).toNat++K++y.K.drop (a-1).toNat=_;rw[hy,m1.2.2.2.1,m1.2.2.2.2]
 generalize(bif f then(y.goto a).gW A K W else((y.goto a).gW A K W).goto a)=z at w wf;have vm:∀i d,y.mp i=a→tm a y [(i,d)]=[(i,d)]:=λi d e=>h9 (decide_eq_true e);rw[w];unfold Q7;rw[KY];have f1:∀d,(z.Qx (false,d)).p1=p9 1 (((X++K++Y).length:Nat)+1) (om a (a+K.length) false A.a1 (ig a (a+K.length) p1)-d):=λd=>by
  show p9 1 ((z.K.length:Nat)+1) (z.p1-d)=_;rw[wf.2.2,wf.1,h1]
 have f2:∀d,(z.Qx (true,d)).p2=p9 1 (((X++K++Y).length:Nat)+1) (om a (a+K.length) false true (ig a (a+K.length) p2)-d):=λd=>by
  show p9 1 ((z.K.length:Nat)+1) (z.p2-d)=_;rw[wf.2.2,wf.2.1,h2]
 rcases KZ (i:=false) (v:=A.a1) (m:=A.m1) (a:=a) (b:=a+K.length) (p:=p1) (by lia)with⟨e1,r1⟩|⟨d1,e1,q1,r1⟩<;>rcases KZ (i:=true) (v:=true) (m:=A.m2) (a:=a) (b:=a+K.length) (p:=p2) (by lia)with⟨e2,r2⟩|⟨d2,e2,q2,r2⟩<;>rw[e1,e2]
 ·rw[show Bv (([]++[]:List UR).reverse++u)=[]from mu];exact⟨by show z.p1=p1;rw[wf.1,h1,r1],by show z.p2=p2;rw[wf.2.1,h2,r2]⟩
 ·rw[show Bv ((([]:List UR)++[UR.mk true A.m2 d2]).reverse++u)=[(true,d2)]from congrArg ((true,d2)::·) mu,vm true d2 (h2.trans q2)];exact⟨by show z.p1=p1;rw[wf.1,h1,r1],(f2 d2).trans (r2 _ hi a1)⟩
 ·rw[show Bv (([UR.mk false A.m1 d1]++([]:List UR)).reverse++u)=[(false,d1)]from congrArg ((false,d1)::·) mu,vm false d1 (h1.trans q1)];exact⟨(f1 d1).trans (r1 _ hi a1),by show z.p2=p2;rw[wf.2.1,h2,r2]⟩
 ·rw[show Bv (([UR.mk false A.m1 d1]++[UR.mk true A.m2 d2]).reverse++u)=[(true,d2),(false,d1)]from congrArg (λl=>(true,d2)::(false,d1)::l) mu,
   show tm a y [(true,d2),(false,d1)]=[(true,d2),(false,d1)]from(h9 (p:=λe:Bool×Int=>decide (y.mp e.1=a)) (l:=[(false,d1)]) (a:=(true,d2)) (decide_eq_true (h2.trans q2))).trans (congrArg ((true,d2)::·) (vm false d1 (h1.trans q1)))]
  exact⟨(f1 d1).trans (r1 _ hi a1),(f2 d2).trans (r2 _ hi a1)⟩
noncomputable def Sm(M:Prop)(d e:Sn):Prop:=d.K=e.K∧d.V=e.V∧(M→d.p1=e.p1∧d.p2=e.p2)
theorem WO{u:List UR}{l:List UR}(h:∀r∈l,r.B3=true):(Bv (l++u)).length=l.length+(Bv u).length:=by
 induction l with
 |nil=>exact(cQ _).symm
 |cons r l ih=>
  have ih:=ih λr m=>h r (.tail _ m);have hr:=h r (.head _);induction r with
  |mk i m d=>
   show(Bv (l++u)).length+1=l.length+1+_;rw[ih,kM]
  |_=>exact absurd hr aq
section
variable{A:BA}{P:AV→Prop}{n:Nat}{u rest:List UR}{y:AV}{a:Int}
theorem Zq{X K' Y:List Int}{V W' Q:List PM}(ha:a=X.length+1)(hX:V.length=X.length)(hY:Q.length=Y.length)(hK:W'.length=K'.length)(h0:K'.length≠0)(hy:y.K=X++K'++Y)(hv:y.V=V++W'++Q)(hl:y.rows.length≤500000)(hk:y.K.length≤1900)
  (k:∀pc,Gm A n rest ((y.goto a).Hk A pc a (a+K'.length)) P):Gm A (n+1) (.ins a (a+K'.length)::rest) y P:=by
 have e:y.K.length=X.length+K'.length+Y.length:=by rw[hy,aa,aa]
 have e2:y.V.length=V.length+W'.length+Q.length:=by rw[hv,aa,aa]
 exact⟨⟨⟨by lia,by lia,by lia⟩,hl,hk,by lia⟩,λx1 q=>q.elim λpc q=>rwl q (k pc)⟩
theorem Zr{X K Y:List Int}{V W Q:List PM}{pc:Addr}{f:Bool}{ms:List UR}(ha:a=X.length+1)(hX:V.length=X.length)(hY:Q.length=Y.length)(h0:K.length≠0)(zK:∀r∈ms,r.B3=true)(hu:∀r∈u.head?,r.B3=false)(hy:y.K=X++Y)(hv:y.V=V++Q)(hl:y.rows.length≤500000)(hk:y.K.length+K.length≤1900)
  (hn:DE y.rows=true) (k:Gm A n u (y.vF A a K W f (Bv (ms.reverse++u))) P):Gm A (n+1) ((dl ms a pc f K W).reverse++u) y P:=by
 have e:y.K.length=X.length+Y.length:=by rw[hy,aa]
 have e2:y.V.length=V.length+Q.length:=by rw[hv,aa]
 rw[CP h0,bD];refine⟨⟨⟨hn,h0,by lia,by lia,by lia⟩,hl,by lia,by lia⟩,λx1 q=>?_⟩
 have es:vJ (.del a pc f K W) (ms.reverse++u)=ms.reverse.length:=by
  show(Bv (ms.reverse++u)).length=_;rw[WO λr m=>zK r (hZ.mp m),OD hu];rfl
 show Gm A n ((ms.reverse++u).drop (vJ (.del a pc f K W) (ms.reverse++u))) x1 P;rw[es,xN,show x1=_ from q];exact k
noncomputable def UnP(x y:AV)(g:List UR):Prop:=(y=x∧g=[])∨Un x y g
theorem UnP.trans{x y z:AV}{g g':List UR}(h:UnP x y g)(k:UnP y z g')(hs:x.dZ≤x.tk):UnP x z (g++g'):=by
 rcases h with⟨rfl,rfl⟩|h
 ·exact k
 ·rcases k with⟨rfl,rfl⟩|k
  ·rw[ay];exact .inr h
  ·exact .inr (h.trans k hs)
theorem RD:∀{L:List UR}{y:AV}{g0:List UR}{y0:AV},D8 1 (y.K.length+1) L→y.K.length≤18→y.V.length=y.K.length→y.rows.length+38*L.length≤450000→y.dZ≤y.tk→
  (∀y' g',UnP y y' g'→y'.K=y.K→y'.p1=y.p1→y'.p2=y.p2→y'.V=L.reverse.foldr uV y.V→D8 1 (y.K.length+1) g'→g'.foldr uV y'.V=y.V→g'.length≤38*L.length→Gm A n u y' P)→Gm A (n+L.length) (L++u) y P:=by
 intro zl;induction zl with
 |nil=>
  rintro y _ _ _ _ _ _ _ k;exact k y [] (.inl ⟨rfl,rfl⟩) rfl rfl rfl rfl (λ_ m=>absurd m aD) rfl (cy _)
 |cons r L ih=>
  rintro y g0 y0 ok hK hV hl ho k;refine Jf (ok r (.head _)) λs e kk el zh=>an5 zh λzr4 h1 h2 h3 h4=>?_;subst zr4;have U7:D8 1 (y.K.length+1) L:=λr m=>ok r (.tail _ m);have hl':y.rows.length+(38*L.length+38)≤450000:=by rw[cg,L7]at hl;exact hl
  have e5:38*(L.length+1)=38*L.length+38:=L7 ..;have fr:∀V,(L.reverse++[UR.prop s e kk el]).foldr uV V=L.reverse.foldr uV (fX (iq kk el) V (s-1) (e-1)):=λV=>rS;refine⟨⟨⟨h1,bp h2,h3,h4⟩,by lia,by lia,hV⟩,λx1 q=>?_⟩
  show Gm A (n+L.length) (L++u) x1 P;rcases q with⟨rfl,q⟩|⟨ps,rfl,o,_,l,f⟩
  ·refine ih (g0:=g0) (y0:=y0) U7 hK hV (by lia) ho λy' g' a1 a2 a3 a4 a5 a6 a7 a8=>k y' g' a1 a2 a3 a4 ?_ a6 a7 (by rw[cg];lia)
   rw[cG,fr,q];exact a5
  ·have hb:(fX (iq kk el) y.V (s-1) (e-1)).length=y.V.length:=EN (bk h1) (by lia) (by rw[hV];exact bt h3)
   have un:Un y (y.yN (iq kk el) s e ps) ps:=⟨rfl,rfl,rfl,oK _⟩;have hr:=un.len;refine ih (g0:=g0) (y0:=y0) (y:=y.yN (iq kk el) s e ps) U7 hK (hb.trans hV) (by lia) (aS ho (bp un.tk)) λy' g' a1 a2 a3 a4 a5 a6 a7 a8=>?_
   refine k y' (ps++g') (UnP.trans (.inr un) a1 ho) a2 a3 a4 ?_ (λr m=>(aU.mp m).elim (λm=>?_) (a6 r)) ?_ (by rw[aa,cg];lia)
   ·rw[cG,fr];exact a5
   ·exact(o r m).imp λs' z=>z.imp λe' z=>z.imp λk' z=>z.imp λel' z=>⟨z.1,aS h1 z.2.1,z.2.2.1,aS z.2.2.2.1 h3,z.2.2.2.2⟩
   ·rw[rS,a7];exact f
end
theorem RE{A:BA}{P:AV→Prop}{n m:Nat}{g:List UR}{x:AV}(h:Gm A n g x P)(l:n≤m):Gm A m g x P:=by
 refine Cc (JR l) λk zr1=>?_;subst zr1;induction k with
 |zero=>exact h
 |succ k ih=>exact MB (ih (bq _ _))
theorem Un.ni{x y:AV}{ms:List UR}{a:Int}{pc:Addr}{f:Bool}{K:List Int}{W:List PM}(h:Un x y (dl ms a pc f K W))(h0:K.length≠0):DE y.rows=true:=by
 rw[h.rows,CP h0];exact OA rfl
section
variable{A:BA}{M:Prop}{P:AV→Prop}{n:Nat}{u:List UR}
theorem a2u(a:Int)(X Y K K':List Int)(V Q W W':List PM)(p1 p2 q1 q2:Int)(ms:List UR)(pc:Addr)(f:Bool)(ha:a=X.length+1)(hX:V.length=X.length)(hY:Q.length=Y.length)(hK:W.length=K.length)(Qp:W'.length=K'.length)(ne:K.length+K'.length≠0)
   (zK:∀r∈ms,r.B3=true)
   (hm:M→(ig a (a+K'.length) q1=ig a (a+K.length) p1∧ig a (a+K'.length) q2=ig a (a+K.length) p2)∧ms=Q7 A a (a+K.length) p1 p2)
  {y:AV} (hy:y.K=X++K'++Y) (hv:y.V=V++W'++Q) (hyM:M→y.p1=q1∧y.p2=q2) (hu:∀r∈u.head?,r.B3=false) (ho:y.dZ≤y.tk) (hn:DE y.rows=true) (l1:(X++K++Y).length≤18) (l2:y.K.length≤18) (hl:y.rows.length≤449000)
  (k:∀y' g',Un y y' g'→GD A False g' y.sn y'.sn→Sm M y'.sn ⟨X++K++Y,V++W++Q,p1,p2⟩→g'.length≤4→Gm A n u y' P):Gm A (n+2) ((dl ms a pc f K W++il a K').reverse++u) y P:=by
 have lX:X.length+K.length+Y.length≤18:=by rw[aa,aa]at l1;exact l1
 have lY:X.length+K'.length+Y.length≤18:=by rw[hy,aa,aa]at l2;exact l2
 rw[bD,af];have back:∀(y1:AV)(g1:List UR),K.length≠0→y1.K=X++Y→y1.V=V++Q→(M→y1.p1=ig a (a+K.length) p1∧y1.p2=ig a (a+K.length) p2)→DE y1.rows=true→y1.rows.length≤450000→
   (∀y',Un y1 y' (il a K)→y'.sn=⟨X++K++Y,V++W++Q,y'.p1,y'.p2⟩→Sm M y'.sn ⟨X++K++Y,V++W++Q,p1,p2⟩→Gm A n u y' P)→Gm A (n+1) ((dl ms a pc f K W).reverse++u) y1 P:=λy1 g1 h0 e1 e2 em en el kk=>by
  refine Zr ha hX hY h0 zK hu e1 e2 (ah el (by decide)) (by rw[e1,aa];lia) en ?_
  refine iA (ZI (A:=A) (f:=f) (ms:=Bv (ms.reverse++u)) (W:=W) ha hX h0 e1 e2) λp q zh=>rU zh λes un=>?_;refine kk _ un (es.trans ?_) ⟨show(y1.vF A a K W f (Bv (ms.reverse++u))).sn.K=_ by rw[es],show(y1.vF A a K W f (Bv (ms.reverse++u))).sn.V=_ by rw[es],λm=>?_⟩
  ·have z1:=congrArg Sn.p1 es;have z2:=congrArg Sn.p2 es;rw[show p=_ from z1.symm,show q=_ from z2.symm];rfl
  ·have z:=hm m;rw[z.2];exact RR ha h0 e1 (em m).1 (em m).2 hu
 induction K' using aF with
 |nil=>
  have h0:K.length≠0:=ne;have e1:y.K=X++Y:=by rw[hy,ay]
  have w0:W'=[]:=dr Qp;subst w0;have e2:y.V=V++Q:=by rw[hv,ay]
  refine MB (back y [] h0 e1 e2 (λm=>?_) hn (ah hl (by decide)) λy' un es sm=>k y' (il a K) un ?_ sm (by rw[CN h0];exact bh rfl))
  ·have z:=(hm m).1;rw[←(hyM m).1,←(hyM m).2]at z;exact⟨kH.symm.trans z.1,kH.symm.trans z.2⟩
  ·refine(GD.ed (A:=A) (M:=False) a X Y [] K V Q [] W y.p1 y.p2 y'.p1 y'.p2 [] 0 false ha hX hY rfl hK (by rw[bQ,cQ];exact h0) (λ_ m=>absurd m aD) (cy _) Gl).eq ?_ es.symm
   exact HA (by rw[e1,ay]) (by rw[e2,ay])
 |cons c K'=>
  rw[CN (K:=c::K') (cF _)];refine Zq ha hX hY Qp (cF _) hy hv (ah hl (by decide)) (ah l2 (by decide)) λpc1=>?_
  obtain⟨es,ms',f',a3R,a1c,un⟩:=ZJ (A:=A) (pc:=pc1) ha hX Qp (cF _) hy hv;have hr:=un.len;rw[CP (K:=c::K') (cF _),aa]at hr;generalize(y.goto a).Hk A pc1 a (a+(c::K').length)=y1 at es un hr;have e1:y1.K=X++Y:=congrArg Sn.K es;have e2:y1.V=V++Q:=congrArg Sn.V es;have em:M→y1.p1=ig a (a+K.length) p1∧y1.p2=ig a (a+K.length) p2:=λm=>by
   have z:=(hm m).1;rw[←(hyM m).1,←(hyM m).2]at z;exact⟨(congrArg Sn.p1 es).trans z.1,(congrArg Sn.p2 es).trans z.2⟩
  have ldl:(dl ms' a pc1 f' (c::K') W').length≤3:=by rw[CP (K:=c::K') (cF _),aa];exact bN a1c 1
  induction K using aF with
  |nil=>
   have w0:W=[]:=dr hK;subst w0;refine MB (k y1 (dl ms' a pc1 f' (c::K') W') un ?_ ⟨e1.trans (show X++Y=X++[]++Y by rw[ay]),e2.trans (show V++Q=V++[]++Q by rw[ay]),λm=>?_⟩ (ji ldl))
   ·have z:=GD.ed (A:=A) (M:=False) a X Y (c::K') [] V Q W' [] y.p1 y.p2 y1.p1 y1.p2 ms' pc1 f' ha hX hY Qp rfl (cF _) a3R a1c Gl;rw[show il a ([]:List Int)=[]from rfl,ay]at z;exact z.eq (HA hy.symm hv.symm) (HA (by rw[e1,ay]) (by rw[e2,ay]))
   ·exact⟨(em m).1.trans kH,(em m).2.trans kH⟩
  |cons c0 K=>
   refine back y1 [] (cF _) e1 e2 em (un.ni (cF _)) (ah hr (show y.rows.length+1+(ms'.length+1)≤450000 by lia)) λy' un' es' sm=>k y' (dl ms' a pc1 f' (c::K') W'++il a (c0::K)) (un.trans un' ho) ?_ sm (by rw[aa,CN (K:=c0::K) (cF _)];exact bN ldl 1)
   have z:=GD.ed (A:=A) (M:=False) a X Y (c::K') (c0::K) V Q W' W y.p1 y.p2 y'.p1 y'.p2 ms' pc1 f' ha hX hY Qp hK (by rw[jQ];exact ne) a3R a1c Gl
   exact z.eq (HA hy.symm hv.symm) es'.symm
theorem ED{g:List UR}{d e:Sn}(h:GD A M g d e){y:AV}(hs:Sm M y.sn e)(hu:∀r∈u.head?,r.B3=false)(ho:y.dZ≤y.tk)(hn:DE y.rows=true)(l1:d.K.length≤18)(l2:e.K.length≤18)(hl:y.rows.length+38*g.length≤449000)
  (k:∀y' g',Un y y' g'→GD A False g' y.sn y'.sn→Sm M y'.sn d→g'.length≤38*g.length→Gm A n u y' P):Gm A (n+2+g.length) (g.reverse++u) y P:=by
 cases h with
 |ed a X Y K K' V Q W W' p1 p2 q1 q2 ms pc f ha hX hY hK Qp ne zK hml hm=>
  have e:y.K=X++K'++Y:=hs.1;refine RE (a2u a X Y K K' V Q W W' p1 p2 q1 q2 ms pc f ha hX hY hK Qp ne zK hm e hs.2.1 hs.2.2 hu ho hn l1 (rwl e l2) (by lia) λy' g' un gd sm l=>k y' g' un gd sm ?_) (bq _ _)
  have:(dl ms a pc f K W++il a K').length≠0:=by
   rw[aa];induction K using aF with
   |nil=>
    induction K' using aF with
    |nil=>exact absurd rfl ne
    |cons=>exact cF _
   |cons c K=>rw[CP (K:=c::K) (cF _),aa];show ms.length+1+_≠0;lia
  lia
 |prop ps K V V' p1 p2 q1 q2 hV YO ok hf nF hm=>
  have eK:y.K=K:=hs.1;have eV:y.V=V':=hs.2.1;have z:=RD (A:=A) (P:=P) (n:=n) (u:=u) (L:=g.reverse) (y:=y) (g0:=[]) (y0:=y) (by rw[eK];exact λr m=>ok r (hZ.mp m)) (rwl eK l2) (by rw[eK,eV];exact YO) (by rw[c7];lia) ho λy' g' un a1 a2 a3 a4 a5 a6 a7=>by
   rw[jy,eV,hf]at a4;rw[eV,a4]at a6;rw[eK]at a5;have un:Un y y' g':=un.elim (λq=>absurd (by rw[←eV,←q.1,a4]) nF) id
   refine k y' g' un ?_ ⟨a1.trans eK,a4,λm=>?_⟩ (by rw[c7]at a7;exact a7)
   ·exact(GD.prop (A:=A) (M:=False) g' K V' V y.p1 y.p2 y'.p1 y'.p2 YO hV a5 a6 (UZ nF) Gl).eq (show _=Sn.mk y.K y.V y.p1 y.p2 by rw[eK,eV]) (show _=Sn.mk y'.K y'.V y'.p1 y'.p2 by rw[a1,eK,a4])
   ·have w:=hs.2.2 m;exact⟨a2.trans (w.1.trans (hm m).1),a3.trans (w.2.trans (hm m).2)⟩
  rw[c7]at z;exact RE z (by lia)
end
theorem GD.imp{A:BA}{M M':Prop}{g:List UR}{d e:Sn}(h:GD A M g d e)(k:M'→M):GD A M' g d e:=by
 induction h with
 |ed a X Y K K' V Q W W' p1 p2 q1 q2 ms pc f ha hX hY hK Qp ne zK hml hm=>exact .ed a X Y K K' V Q W W' p1 p2 q1 q2 ms pc f ha hX hY hK Qp ne zK hml λm=>hm (k m)
 |prop ps K V V' p1 p2 q1 q2 hV YO ok hf nF hm=>exact .prop _ K V V' p1 p2 q1 q2 hV YO ok hf nF λm=>hm (k m)
noncomputable def UR.plain(r:UR):Bool:=match r with
 |.bd=>false
 |.tu _=>false
 |_=>true
theorem GD.plain{A:BA}{M:Prop}{g:List UR}{d e:Sn}(h:GD A M g d e):g≠[]∧∀r∈g,r.plain=true:=by
 have a5k:∀{a K},∀r∈il a K,r.plain=true:=λ{a K}r m=>by
  induction K using aF with
  |nil=>exact absurd m aD
  |cons=>rw[aQ.mp m];rfl
 induction h with
 |ed a X Y K K' V Q W W' p1 p2 q1 q2 ms pc f ha hX hY hK Qp ne zK hml hm=>
  refine⟨λz=>?_,λr m=>(aU.mp m).elim (λm=>?_) (a5k r)⟩
  ·have z:=eI.mp z;induction K using aF with
   |nil=>
    induction K' using aF with
    |nil=>exact ne rfl
    |cons=>exact nomatch z.2
   |cons=>exact nomatch(eI.mp z.1).2
  ·induction K using aF with
   |nil=>exact absurd m aD
   |cons=>
    refine(aU.mp m).elim (λm=>?_) λm=>by rw[aQ.mp m];rfl
    have z:=zK r m;induction r with
    |mk=>rfl
    |_=>exact nomatch z
 |prop ps K V V' p1 p2 q1 q2 hV YO ok hf nF hm=>
  refine⟨λz=>?_,λr m=>?_⟩
  ·rw[z]at hf;exact nF hf
  ·refine Jf (ok r m) λ_ _ _ _ zh=>rU zh λzr4 _=>?_;subst zr4;rfl
theorem KD{r:UR}(h:r.plain=true):r.lV=false:=by
 induction r with
 |bd=>exact absurd h aq
 |_=>rfl
theorem CL{t f:Int}{g:List UR}(h:∀r∈g,r.plain=true):g.map (iz t f)=g:=by
 induction g with
 |nil=>rfl
 |cons r g ih=>
  have ih:=ih λr m=>h r (.tail _ m);have hr:=h r (.head _);rw[dm,ih];induction r with
  |tu=>exact absurd hr aq
  |_=>rfl
noncomputable abbrev jP:=List (List UR×Sn)
noncomputable def Hs(A:BA)(M:Prop):jP→Sn→Prop
 |[],_=>True
 |(g,d0)::r,d=>GD A M g d0 d∧Hs A M r d0
noncomputable def hR:jP→List UR→List UR
 |[],base=>base
 |(g,_)::r,base=>.bd::(g.reverse++hR r base)
theorem Xg{base:List UR}(hb:∀r∈base.head?,r.lV=true){gs:jP}(r)(m:r∈(hR gs base).head?):r.lV=true:=by
 induction gs using aF with
 |nil=>exact hb r m
 |cons=>exact rwr (aA m) rfl
theorem T8{A:BA}{M:Prop}{t f:Int}{base:List UR}:∀{gs:jP}{d:Sn},Hs A M gs d→(hR gs base).map (iz t f)=hR gs (base.map (iz t f)):=by
 intro zl;induction zl with
 |nil=>
  rintro _ _;exact rfl
 |cons zx r ih=>
  obtain⟨g,d0⟩:=zx;rintro d h;show UR.bd::(g.reverse++hR r base).map (iz t f)=_;rw[aJ,ih h.2,CL λq m=>h.1.plain.2 q (hZ.mp m)];rfl
noncomputable def Res(ι:St)(M:Prop):jP→List MV→Prop
 |[],vs=>vs=[]
 |(_,d0)::r,vs=>∃u1 u2 u3 b Gy,vs=.tup [.tup [u1,u2,u3],.bool b]::Gy∧Dat ι u1 (kD d0.K)∧Dat ι u2 (vD d0.V)∧(M→Dat ι u3 (mD d0.p1 d0.p2)∧b=!r.isEmpty)∧Res ι M r Gy
noncomputable def kv(s:Sn):List Int×List PM:=(s.K,s.V)
noncomputable def Short:jP→Prop
 |[]=>True
 |(g,d0)::r=>(d0.K.length≤18∧d0.V.length=d0.K.length)∧Short r
noncomputable def Kn:jP→Nat
 |[]=>0
 |(g,_)::r=>39*g.length+2+Kn r
theorem Ff{α:Type}{X:Ctx}{b t:N}{s:Src}{k:BK}{a:α}{σ:St}{n:Nat}(P:α→Loc)(I:Nat→α→St→Prop)(h:I 0 a σ)
  (hs:∀i a σ(R:LK),i<n→I i a σ→(∀Jy aO,I (i+1) Jy aO→R (P Jy) aO)→UN (yJ X t (.int i) (P a)) (blk X b (sq (stK s R) k)) σ) (he:∀a σ,I n a σ→k .next (P a) σ):FW X b t s (oZ n) (P a) σ k:=
 OZ (λi ρ σ=>∃a,ρ=P a∧I i a σ) ⟨a,rfl,h⟩ (λi _ σ R hi z hR=>z.elim λa z=>rwl z.1 (hs i a σ R hi z.2 λJy aO h=>hR _ aO ⟨Jy,rfl,h⟩)) λ_ σ z=>z.elim λa z=>rwl z.1 (he a σ z.2)
theorem Pj{R g:List UR}(n:g≠[])(h:∀r∈g,r.plain=true):Hj (R++g)=false:=by
 rcases Si (rows:=g)with e|⟨g',r,rfl⟩
 ·exact absurd e n
 ·rw[←af];unfold Hj;rw[jz];exact KD (h r (az _ (.head _)))
theorem Nw{t f:Int}:∀{b:List UR},(∀r∈b.head?,r.lV=true)→∀r∈(b.map (iz t f)).head?,r.lV=true:=by
 intro zl;induction zl with
 |nil=>
  rintro _ r m;exact nomatch m
 |cons q b ih=>
  rintro h r m;have hq:=h q rfl;rw[←aA m];induction q with
  |bd=>rfl
  |_=>exact nomatch hq
structure UP(A:BA)(M:Prop)(N N2:Nat)(gs:jP)(d:Sn)(u ro:List UR)(Jc:jP)(x:AV)(uD:jP):Prop where
 hs:∃d',Hs A M Jc d'∧Sm M x.sn d'
 kvs:(uD.map λp=>kv p.2).reverse++(kv x.sn::Jc.map λp=>kv p.2)=kv d::gs.map λp=>kv p.2
 zg:Hs A False uD x.sn
 md:(¬M∧u=[])∨(M∧(Jc≠[]→x.dZ<x.tk∧u=[.tu x.dZ]∧x.rows.reverse=hR uD ro)∧(Jc=[]→∃b1,x.rows.reverse=hR uD b1∧∀r∈b1.head?,r.lV=true))
 ho:x.dZ≤x.tk
 ni:DE x.rows=true
 K:x.K.length≤18
 V:x.V.length=x.K.length
 sh:Short Jc
 sh2:Short uD
 len:x.rows.length+Kn Jc≤N
 a3t:Kn uD+38*Kn Jc≤N2
structure UB(A:BA)(M:Prop)(N N2:Nat)(gs:jP)(d:Sn)(u ro:List UR)(d0:Sn)(r:jP)(x:AV)(uD:jP)(y:AV):Prop where
 bd:Hj y.rows=false
 fl:M→decide (y.dZ<y.tk)=!r.isEmpty
 kv_:kv y.sn=kv d0
 Q8:M→y.p1=d0.p1∧y.p2=d0.p2
 up:∃g',UP A M N N2 gs d u ro r (y.xQ (y.rows++[.bd]) y.nt) ((g',x.sn)::uD)
theorem UP.Ge{A:BA}{M:Prop}{N N2:Nat}{gs:jP}{d:Sn}{u ro:List UR}{g:List UR}{d0:Sn}{r:jP}{x:AV}{uD:jP}(hN:N≤449000)(h:UP A M N N2 gs d u ro ((g,d0)::r) x uD)(hb:∀q∈ro.head?,q.lV=true):
  Gm A (1+2+g.length) (g.reverse++(bif r.isEmpty then u else[])) x (UB A M N N2 gs d u ro d0 r x uD):=by
 obtain⟨d',⟨hg,hr⟩,sm⟩:=h.hs;have xD:x.rows.length+(39*g.length+2+Kn r)≤N:=h.len;have hsz2:Kn uD+38*(39*g.length+2+Kn r)≤N2:=h.a3t;have l2:d'.K.length≤18:=by rw[←sm.1];exact h.K
 have kv2:∀{y:AV}{g':List UR},Sm M y.sn d0→(((g',x.sn)::uD).map λp=>kv p.2).reverse++(kv y.sn::r.map λp=>kv p.2)=kv d::gs.map λp=>kv p.2:=λ{y g'}s=>by
  rw[show kv y.sn=kv d0 from lQ s.1 s.2.1,dm,cG,af];exact h.kvs
 have main:∀(y:AV)(g':List UR),(∀q∈g',q.plain=true)→g'≠[]→GD A False g' x.sn y.sn→Sm M y.sn d0→y.dZ≤y.tk→y.rows.length+1+Kn r≤N→g'.length≤38*g.length→(∃R,y.rows=R++g')→(M→decide (y.dZ<y.tk)=!r.isEmpty)→
   ((¬M∧u=[])∨(M∧(r≠[]→y.dZ<y.tk∧u=[.tu y.dZ]∧(y.rows++[UR.bd]).reverse=hR ((g',x.sn)::uD) ro)∧(r=[]→∃b1,(y.rows++[UR.bd]).reverse=hR ((g',x.sn)::uD) b1∧∀q∈b1.head?,q.lV=true)))→UB A M N N2 gs d u ro d0 r x uD y:=λy g' pl ne gd s ho ln lg er fl md=>
  ⟨er.elim λR e=>rwl e (Pj ne pl),fl,lQ s.1 s.2.1,s.2.2,g',⟨⟨d0,hr,s⟩,kv2 s,⟨gd,h.zg⟩,md,ho,Ai,ah (cR (congrArg bl s.1)) h.sh.1.1,(congrArg bl s.2.1).trans (h.sh.1.2.trans (congrArg bl s.1).symm),h.sh.2,⟨⟨h.K,h.V⟩,h.sh2⟩,by
   show(y.rows++[UR.bd]).length+Kn r≤N;rw[aa];exact ln,by
   show 39*g'.length+2+Kn uD+38*Kn r≤N2;lia⟩⟩
 have simple:∀(y:AV)(g':List UR),Un x y g'→GD A False g' x.sn y.sn→Sm M y.sn d0→g'.length≤38*g.length→(M→r≠[])→UB A M N N2 gs d u ro d0 r x uD y:=λy g' un gd s l hM=>by
  have lt:y.dZ<y.tk:=rwl un.dZ (gg h.ho un.tk);have rl:=un.len;refine main y g' gd.plain.2 gd.plain.1 gd s (bp lt) (by lia) l ⟨_,un.rows⟩ (λm=>by
   rw[decide_eq_true lt];induction r using aF with
   |nil=>exact absurd rfl (hM m)
   |cons=>rfl) ?_
  rcases h.md with q|⟨m,q,_⟩
  ·exact .inl q
  ·have q:=q (d7 _ _);refine .inr ⟨m,λ_=>⟨lt,by rw[un.dZ];exact q.2.1,?_⟩,λe=>absurd e (hM m)⟩
   have ur:=un.rows;rw[decide_eq_true q.1,Ag.1]at ur;rw[ur,bD,bD,q.2.2];rfl
 induction r using aF with
 |cons p r=>
  exact ED (u:=[]) hg sm (λ_ m=>ar m rfl) h.ho h.ni h.sh.1.1 l2 (by lia) λy g' un gd s l=>simple y g' un gd s l λ_=>d7 _ _
 |nil=>
  rcases h.md with⟨nm,rfl⟩|⟨m,q,_⟩
  ·exact ED (u:=[]) hg sm (λ_ m=>ar m rfl) h.ho h.ni h.sh.1.1 l2 (by lia) λy g' un gd s l=>simple y g' un gd s l λm=>absurd m nm
  ·have q:=q (d7 _ _);have q1:=q.1;have q3:=q.2.2;have eu:=q.2.1;subst eu;refine ED (n:=1) (u:=[.tu x.dZ]) hg sm (λ_ m=>by rw[←aA m];rfl) h.ho h.ni h.sh.1.1 l2 (by lia) λy g' un gd s l=>?_
   have rl:=un.len;have ur:=un.rows;rw[decide_eq_true q1,Ag.1]at ur;have yK:y.K.length≤18:=ah (cR (congrArg bl s.1)) h.sh.1.1;refine⟨⟨trivial,by lia,by lia,(congrArg bl s.2.1).trans (h.sh.1.2.trans (congrArg bl s.1).symm)⟩,λx1 e=>?_⟩
   have e:x1=(y.uz y.K y.pt y.tk y.tk).xQ (y.rows.map (iz x.dZ y.tk)) y.nt:=by
    rw[show x1=y.tu x.dZ from e];exact if_pos un.dZ.symm
   show UB A M N N2 gs d [.tu x.dZ] ro d0 [] x uD x1;rw[e];have pl:=gd.plain;have em:y.rows.map (iz x.dZ y.tk)=x.rows.map (iz x.dZ y.tk)++g':=by rw[ur,aJ,CL pl.2]
   refine main _ g' pl.2 pl.1 gd s (dU _) (by show(y.rows.map _).length+1+0≤_;rw[ax];lia) l ⟨_,em⟩ (λ_=>decide_eq_false (aP _)) (.inr ⟨m,λn=>absurd rfl n,λ_=>⟨ro.map (iz x.dZ y.tk),?_,Nw hb⟩⟩)
   show(y.rows.map (iz x.dZ y.tk)++[UR.bd]).reverse=_;rw[em,bD,bD,←sX,q3,T8 h.zg];rfl
noncomputable def lUN(b mk ul fq wq:Addr)(n:Int)(place:MV)(Ge:Option MV):Loc:=[(ae,some (.ref b)),(fj,some (.ref mk)),(bE,some (.int n)),(fO,some (.ref ul)),(bG,some (.ref fq)),(eF,some (.ref wq)),(bF,some place),(mG,Ge)]
structure UJ(A:BA)(M:Prop)(N N2:Nat)(gs:jP)(d:Sn)(u base:List UR)(x:AV)(jA φ:St)(fq:Addr)(i:Nat)(place:MV)(Jc uD:jP)(x':AV)(vs:List MV)(bx av:St):Prop where
 b:B A bx (upd φ fq (.list vs)) av x'
 k:Le jA bx
 up:UP A M N N2 gs d u x.rows.reverse Jc x' uD
 n:i+Jc.length=gs.length
 pl:Jc≠[]→place=.int (hR Jc (u++base)).length
 pre:∃pre,x.rows.reverse=pre++hR Jc (u++base)
 res:∀Dj tv,Le bx Dj→Res Dj M Jc tv→Res Dj M gs (vs++tv)
 len:vs.length=i
theorem UP.u{A:BA}{M:Prop}{N N2:Nat}{gs:jP}{d:Sn}{u ro:List UR}{p:List UR×Sn}{r:jP}{x:AV}{uD:jP}(h:UP A M N N2 gs d u ro (p::r) x uD):∀q∈u,q.lV=false:=λq m=>by
 rcases h.md with⟨_,rfl⟩|⟨_,w,_⟩
 ·exact absurd m aD
 ·rw[(w (d7 _ _)).2.1]at m;rw[aQ.mp m];rfl
theorem Al{u base g:List UR}{d0:Sn}:∀{r:jP},hR ((g,d0)::r) (u++base)=[UR.bd]++((g.reverse++(bif r.isEmpty then u else[]))++(bif r.isEmpty then base else hR r (u++base))):=by
 intro zl;induction zl with
 |nil=>
  show UR.bd::(g.reverse++(u++base))=UR.bd::((g.reverse++u)++base);rw[af]
 |cons _ _ ih=>
  show UR.bd::(g.reverse++_)=UR.bd::((g.reverse++[])++_);rw[ay];rfl
section
variable{be:Nat}{σ ι φ:St}{Q:bw}{A:BA}{x:AV}
set_option maxHeartbeats 4000000 in
theorem LG{M:Prop}{N N2:Nat}{gs:jP}{d:Sn}{u base:List UR}{mk:Addr}(aV:ai 16 be=true)(hNN:N≤449000)(h:B A ι φ σ x)(hm:ι mk=some (.list [.ref A.m1,.ref A.m2]))(hp:UP A M N N2 gs d u x.rows.reverse gs x [])(hW:x.rows.reverse=hR gs (u++base))(hb:∀q∈base.head?,q.lV=true)(hb0:∀q∈x.rows.reverse.head?,q.lV=true)(hN:x.rows.length≤80000)(hg:gs.length≤1000)
  (hq:∀fq vs bx av x' uD,Le ι bx→bx fq=some (.list vs)→Res bx M gs vs→vs.length=gs.length→B A bx φ av x'→UP A M N N2 gs d u x.rows.reverse [] x' uD→Q (.ref fq) av):D be (.fn 1198) [.ref A.b,.ref mk,.int gs.length] σ Q:=by
 refine h.elim λi b=>Cn aV ?_;dsimp only[rN];have hbb:=b.b;have Qj:=b.pr.sub _ _ b.im.rc;k_go;refine h.KW λfq dE fc h1=>?_;cases h1 with|intro i1 b1=>
 have Nt:=b1.ul.ul;k_go;refine jm b1.ul.rl (B.lU ⟨i1,b1⟩ λwq jA dp k2 hw b2=>?_);have OO:=b2.sub _ _ hw;k_go;rw[ax];k_go;refine tx (bJ _) (cK.mpr (ah hg (by decide))) ?_
 k_go;refine Ff (n:=gs.length) (a:=((.int x.rows.length,none),gs,[],x,[],jA)) (λa_:(MV×Option MV)×jP×jP×AV×List MV×St=>lUN A.b mk A.ul fq wq gs.length a_.1.1 a_.1.2) (λi a_ av=>UJ A M N N2 gs d u base x jA φ fq i a_.1.1 a_.2.1 a_.2.2.1 a_.2.2.2.1 a_.2.2.2.2.1 a_.2.2.2.2.2 av)
  ⟨b2,.refl _,hp,cQ _,λ_=>by rw[←hW,c7],⟨[],hW⟩,λ_ tv _ r=>r,rfl⟩ (λi a_ jJ R hi I hKK=>?_) λa_ jJ I=>?_
 ·obtain⟨⟨place,Ge⟩,Jc,uD,x',vs,Md⟩:=a_;induction Jc using aF with
  |nil=>exact absurd (show i+0=gs.length from I.n) (cb hi)
  |cons p r=>
   obtain⟨g,d0⟩:=p;have ep:place=.int (hR ((g,d0)::r) (u++base)).length:=I.pl (d7 _ _);subst ep;obtain⟨pre,W9⟩:=I.pre;have eW:x.rows=(hR ((g,d0)::r) (u++base)).reverse++pre.reverse:=by rw[←bD,←W9,jy]
   have sub:∀q∈(g.reverse++(bif r.isEmpty then u else[]))++(bif r.isEmpty then base else hR r (u++base)),q∈x.rows:=λq m=>by
    rw[eW,Al];exact aN _ (hZ.mpr (az _ m))
   have ln:=congrArg bl eW;rw[aa,c7,Al,aa]at ln;obtain⟨d',⟨hgd,_⟩,_⟩:=I.up.hs;have U9:=(k2.trans I.k);rw[Al];k_go;refine Jm (bds:=[.bd]) (tl:=pre.reverse) rfl I.b ((I.k _ _ hw).trans (by rw[←Al,←eW])) (λq m=>jf.mono (k2.trans I.k) (b.rr q (sub q m))) (BL rfl) (λq m=>?_) (λz=>hgd.plain.1 (List.reverse_eq_nil_iff.mp (eI.mp z).1)) (λq m=>?_) (by lia) (I.up.Ge hNN hb0) λEc vh y k4 b4 ub=>?_
   ·exact(aU.mp m).elim (λm=>KD (hgd.plain.2 q (hZ.mp m))) λm=>I.up.u q (by
     induction r using aF with
     |nil=>exact m
     |cons=>exact absurd m aD)
   ·induction r using aF with
    |nil=>exact hb q m
    |cons p r=>rw[←aA m];rfl
   obtain⟨g',up⟩:=ub.up;cases b4 with|intro i4 b4=>
   have a55:=b4.ul.ul;k_go;refine F9 rfl b4.ul (ah (show y.rows.length≤449000 by have:=up.len;have e:(y.rows++[UR.bd]).length+Kn r≤N:=this;rw[aa]at e;lia) (by decide)) λqJ u5 o5=>?_
   rw[ub.bd]at u5;have b5:=b4.xQ o5 u5 λq m=>(aU.mp m).elim (b4.rr q) (BL (P:=jf Ec A) (u:=.bd) trivial q);have U':=b5.fr _ _ (ak ..);k_go;refine Ek rfl b5 (k4 _ _ (I.k _ _ (k2 _ _ hm))) (ah up.K (by decide)) up.V λu1 u2 u3 kO pE k6 b6 du1 du2 du3=>?_
   cases b6 with|intro i6 b6=>
   have Vb:=b6.b;k_go;refine m4 rfl Vb ?_;k_go;refine dY (b6.fr _ _ (ak ..)) (by rw[show vs.length=i from I.len];exact Nat.lt_of_lt_of_le hi (ah hg (by decide))) ?_
   k_go;have b7:=B.put (o:=.list (vs++[.tup [.tup [u1,u2,u3],.bool (decide (y.dZ<y.tk))]])) ⟨i6,b6⟩ (aZ (ak ..));rw[cZ]at b7;refine⟨trivial,hKK ((_,_),r,(g',x'.sn)::uD,y.xQ (y.rows++[.bd]) y.nt,vs++[.tup [.tup [u1,u2,u3],.bool (decide (y.dZ<y.tk))]],kO) _ ⟨b7,I.k.trans (k4.trans k6),?_,?_,?_,?_,λDj tv k'' rs=>?_,?_⟩⟩
   ·exact up
   ·have e:i+(r.length+1)=gs.length:=I.n;show i+1+r.length=gs.length;lia
   ·intro n;induction r using aF with
    |nil=>exact absurd rfl n
    |cons p r=>rfl
   ·refine⟨pre++(.bd::g.reverse),?_⟩;rw[W9,af];rfl
   ·rw[af];have eK:y.K=d0.K:=congrArg Gq ub.kv_;have eV:y.V=d0.V:=congrArg Mj ub.kv_;refine I.res Dj _ ((k4.trans k6).trans k'') ⟨u1,u2,u3,_,tv,rfl,rwr eK (du1.mono k''),rwr eV (du2.mono k''),λm=>⟨?_,ub.fl m⟩,rs⟩;have e:=ub.Q8 m;rw[←e.1,←e.2];exact du3.mono k''
   ·rw[aa,show vs.length=i from I.len];rfl
 ·obtain⟨⟨place,Ge⟩,Jc,uD,x',vs,Md⟩:=a_;have e0:Jc=[]:=dr (by have n:gs.length+Jc.length=gs.length:=I.n;lia)
  subst e0;have k3:Le Md (upd Md fq (.list vs)):=(Le.refl Md).new (B.fi I.b (aZ (ak ..)));have rs:=I.res (upd Md fq (.list vs)) [] k3 rfl;rw[ay]at rs;k_go;exact hq fq vs _ jJ x' uD ((k2.trans I.k).trans k3) (ak ..) rs I.len (B.fix (xO:=φ) I.b (ak ..) ((Le.refl φ).new fc) fc) I.up
end
structure AW where
 (b g cl ms md ls tp tr:Addr)
structure PA(ι φ σ:St)(W:AW)(K:List Int)(ds:List (Int×MV)):Prop where
 i0:∃P F S pt tk fY dZ,I0 σ W.b W.g W.cl W.ms W.md W.ls .none (.ref W.tp) P F S pt tk fY dZ ds∧P++S=K
 pi:∃L,PI ι σ W.tp W.tr L∧sumF L=K.length∧∀y,φ y≠none→ι y=none∧y∉foot W.tr L
 no:∀y∈[W.b,W.g,W.cl,W.md],ι y=none∧φ y=none
 fr:Le φ σ
 ms:ι W.ms=some (.inst 608 [(aX,.ref W.md)])
 ls:ι W.ls=some (.list [])
section
variable{ι φ σ bx xO av:St}{c:Addr}{W:AW}{K:List Int}{ds:List (Int×MV)}{o:MO}
theorem PA.grow(h:PA ι φ σ W K ds)(l:∀y o,σ y=some o→φ y=none→av y=some o)(k:Le ι bx)(k':Le bx av)(f:Le xO av)(n1:∀y,bx y≠none→ι y≠none∨φ y≠none∨σ y=none)(n2:∀y,xO y≠none→(φ y≠none∨σ y=none)∧bx y=none):PA bx xO av W K ds:=by
 refine Xo h.i0 λP F S pt tk fY dZ zh=>rU zh λi0 eK=>?_;refine Cc h.pi λL zh=>oe zh λpi es fi=>?_;have ff:∀y∈foot W.tr L,φ y=none:=λy m=>Q5 λ_ e=>(fi y (aZ e)).2 m;have fn:∀y,ι y=none→φ y=none→σ y≠none→bx y=none:=λy a b1 c=>Q5 λ_ e=>(n1 y (aZ e)).elim (λq=>q a) λq=>q.elim (λq=>q b1) c;have lv:∀y∈[W.b,W.g,W.cl,W.md],σ y≠none:=λy m=>i0.live y (by
  simp only[aE,aD,or_false]at m⊢;rcases m with e|e|e|e<;>simp[e])
 have m:∀{y w},σ y=some w→y∈[W.b,W.g,W.cl,W.md]→av y=some w:=λe m=>l _ _ e (h.no _ m).2;refine⟨⟨P,F,S,pt,tk,fY,dZ,⟨m i0.b (.head _),⟨m i0.gap.g (.tail _ (.head _)),m i0.gap.cl (.tail _ (.tail _ (.head _))),i0.gap.bd⟩,k' _ _ (k _ _ h.ms),m i0.md (.tail _ (.tail _ (.tail _ (.head _)))),k' _ _ (k _ _ h.ls)⟩,eK⟩,
  ⟨L,⟨k',k _ _ pi.tp,pi.tl.frame λy m=>(gQ (pi.tl.live y m)).elim λo e=>(l y o e (ff y m)).trans e.symm,pi.pos,λy m=>fn y (pi.Rg y m) (ff y m) (pi.tl.live y m),λe m=>(pi.pl e m).mono k⟩,es,λy q=>⟨(n2 y q).2,λm=>(n2 y q).1.elim (λz=>z (ff y m)) (pi.tl.live y m)⟩⟩,
  λy m=>⟨fn y (h.no y m).1 (h.no y m).2 (lv y m),Q5 λ_ e=>(n2 y (aZ e)).1.elim (λq=>q (h.no y m).2) (lv y m)⟩,f,k _ _ h.ms,k _ _ h.ls⟩
theorem PA.sub(h:PA ι φ σ W K ds):Le ι σ:=h.pi.elim λ_ z=>z.1.sub
theorem PA.fi(h:PA ι φ σ W K ds)(hc:φ c≠none):ι c=none:=h.pi.elim λ_ z=>(z.2.2 c hc).1
theorem PA.le(h:PA ι φ σ W K ds)(l:Le σ av):PA ι φ av W K ds:=h.grow (λy o e _=>l y o e) (.refl _) (h.sub.trans l) (h.fr.trans l) (λ_=>.inl) λy q=>⟨.inl q,h.fi q⟩
theorem PA.W6(h:PA ι φ σ W K ds)(hc:σ c=none):PA (upd ι c o) φ (upd σ c o) W K ds:=
 h.grow (λy _ e _=>(Le.refl σ).new hc y _ e) ((Le.refl ι).new (h.sub.none hc)) (h.sub.upd c o) (h.fr.new hc) (λ_ q=>(mJ q).elim (λe=>.inr (.inr (rwl e hc))) .inl)
  λy q=>⟨.inl q,(aC λ(e:y=c)=>q ((congrArg φ e).trans (h.fr.none hc))).trans (h.fi q)⟩
theorem PA.own(h:PA ι φ σ W K ds)(hc:σ c=none):PA ι (upd φ c o) (upd σ c o) W K ds:=
 h.grow (λy _ e _=>(Le.refl σ).new hc y _ e) (.refl _) (h.sub.new hc) (h.fr.upd c o) (λ_=>.inl) λy q=>(mJ q).elim (λe=>rwl e (⟨.inr hc,h.sub.none hc⟩)) λq=>⟨.inl q,h.fi q⟩
theorem PA.put(h:PA ι φ σ W K ds)(hc:φ c≠none):PA ι (upd φ c o) (upd σ c o) W K ds:=
 h.grow (λy _ e n=>(aC λ(q:y=c)=>hc (rwr q n)).trans e) (.refl _) (h.sub.side o (h.fi hc)) (h.fr.upd c o) (λ_=>.inl)
  λy q=>have q:φ y≠none:=(mJ q).elim (λe=>rwl e hc) id;⟨.inl q,h.fi q⟩
theorem PA.mds(h:PA ι φ σ W K ds){ds':List (Int×MV)}:PA ι φ (upd σ W.md (.dict ds')) W K ds':=by
 refine Xo h.i0 λP F S pt tk fY dZ zh=>rU zh λi0 eK=>?_;refine Cc h.pi λL zh=>oe zh λpi es fi=>?_;have hn:=h.no W.md (.tail _ (.tail _ (.tail _ (.head _))));have m:∀{y w},σ y=some w→a9 (kd w) 1=false→upd σ W.md (.dict ds') y=some w:=λe n=>(aC (bS e i0.md n)).trans e;have nf:W.md∉foot W.tr L:=λhx=>aq (pi.tl.kind hx i0.md);exact⟨⟨P,F,S,pt,tk,fY,dZ,⟨m i0.b rfl,⟨m i0.gap.g rfl,m i0.gap.cl rfl,i0.gap.bd⟩,m i0.ms rfl,ak ..,m i0.ls rfl⟩,eK⟩,
  ⟨L,⟨pi.sub.side _ hn.1,pi.tp,pi.tl.frame λy hy=>aC λe=>nf (rwr e hy),pi.pos,pi.Rg,pi.pl⟩,es,fi⟩,h.no,h.fr.side _ hn.2,h.ms,h.ls⟩
theorem PA.tree(h:PA ι φ σ W K ds){L L':eE}(hL:PI ι σ W.tp W.tr L∧sumF L=K.length∧∀y,φ y≠none→ι y=none∧y∉foot W.tr L)(p:PI bx av W.tp W.tr L')(es:sumF L'=sumF L)(ev:Ev ι σ (foot W.tr L) bx av (foot W.tr L')):PA bx φ av W K ds:=by
 refine Xo h.i0 λP F S pt tk fY dZ zh=>rU zh λi0 eK=>?_;have nf:∀{y w},σ y=some w→(a9 (kd w) 735||a9 (kd w) 756)=false→y∉foot W.tr L:=λe n hx=>aq (n.symm.trans (hL.1.tl.kind hx e));have k:∀{y w},σ y=some w→(a9 (kd w) 735||a9 (kd w) 756)=false→av y=some w:=λe n=>ev.kp.keep (nf e n) e;have n:∀{y},ι y=none→y∉foot W.tr L→σ y≠none→bx y=none:=λ{y}a b1 c=>Q5 λ_ e=>(ev.new y (aZ e)).elim (λq=>q a) λq=>q.elim (λm=>b1 m) c;have nn:∀{y w},y∈[W.b,W.g,W.cl,W.md]→σ y=some w→(a9 (kd w) 735||a9 (kd w) 756)=false→bx y=none∧φ y=none:=λm e q=>⟨n (h.no _ m).1 (nf e q) (aZ e),(h.no _ m).2⟩;refine⟨⟨P,F,S,pt,tk,fY,dZ,⟨k i0.b rfl,⟨k i0.gap.g rfl,k i0.gap.cl rfl,i0.gap.bd⟩,k i0.ms rfl,k i0.md rfl,k i0.ls rfl⟩,eK⟩,
  ⟨L',p,es.trans hL.2.1,λy q=>have z:=hL.2.2 y q;have s:σ y≠none:=λe=>q (h.fr.none e);⟨n z.1 z.2 s,λm=>(ev.kp.new y m).elim z.2 s⟩⟩,
  λy m=>?_,λa mo e=>ev.kp.keep (hL.2.2 a (aZ e)).2 (h.fr a mo e),ev.le _ _ h.ms,ev.le _ _ h.ls⟩
 simp only[aE,aD,or_false]at m;rcases m with rfl|rfl|rfl|rfl
 ·exact nn (.head _) i0.b rfl
 ·exact nn (.tail _ (.head _)) i0.gap.g rfl
 ·exact nn (.tail _ (.tail _ (.head _))) i0.gap.cl rfl
 ·exact nn (.tail _ (.tail _ (.tail _ (.head _)))) i0.md rfl
end
section
variable{be:Nat}{σ:St}{Q:bw}{a:Addr}
theorem Cs{n:Int}(aV:ai 2 be=true)(h:σ a=none)(hn:0<n)
  (hq:∀c0 tr f av,σ c0=none→Le σ av→av c0=some (.list [])→av a=some (.inst 985 [(aY,.ref tr)])→TL av tr [(f,n,.ref c0)]→(∀y∈foot tr [(f,n,.ref c0)],σ y=none)→Q .none av):D be (.fn 940) [.ref a,.int n] (upd σ a (.inst 985 [])) Q:=by
 refine sN aV ?_;dsimp only[ju];k_go;refine E3 λc0 Pw h1 k1 e1=>?_;have hca:c0≠a:=λe=>ar (ak σ a (.inst 985 [])) (e▸h1);have B8:=k1 _ _ (ak σ a (.inst 985 []));have l1:=((Le.refl σ).side (.inst 985 []) h).trans k1;k_go;intro tr YC;refine yb rfl YC hn λf τ2 tl kp=>?_;have k2:∀{y w},Pw y=some w→τ2 y=some w:=λe=>kp.keep aD e;have nf:∀y∈foot tr [(f,n,.ref c0)],Pw y=none:=λy m=>(kp.new y m).elim (λq=>absurd q aD) id;k_in;refine tA (k2 B8) rfl rfl ?_;k_in;refine hq c0 tr f _ ((aC hca).symm.trans h1) ((Le.trans l1 λy w e=>k2 e).side _ h) ((aC hca).trans (k2 e1)) (ak ..) (tl.frame λy m=>aC λe=>(λm=>ar B8 (nf a m)) (rwr e m)) λy m=>Q5 λw e=>ar (l1 _ _ e) (nf y m)
end
section
variable{X:Ctx}{σ:St}
theorem Z6{a:Addr}{l:List (Int×MV)}{k:Int}{u:MV}{K:St→Prop}(h:σ a=some (.dict l))(hl:l.length≤100)(q:K (upd σ a (.dict (Fi l k u)))):pS (.ref a) (.int k) u σ K:=by
 show look σ a _ _ _;exact I9 h ⟨hl,q⟩
end
section
variable{be:Nat}{ι φ σ:St}{Q:bw}{m:Addr}{W:AW}{K:List Int}{ds:List (Int×MV)}
theorem PA.size(h:PA ι φ σ W K ds)(aV:ai 1 be=true)(hq:Q (.int K.length) σ):D be (.fn 662) [.ref W.b] σ Q:=by
 refine Xo h.i0 λP F S pt tk fY dZ zh=>rU zh λi0 eK=>?_;exact Jo aV i0.b i0.gap (rwl eK hq)
theorem yF{k p:Int}{v:Bool}(aV:ai 2 be=true)(h:PA ι φ σ W K ds)(hm:φ m=some (eB k v .none 0))(hl:ds.length≤100)(h0:1≤p)(h1:p≤K.length+1)
  (hq:∀av,PA ι (upd φ m (eB k v (.ref W.b) p)) av W K (Fi ds k (.ref m))→Q .none av):D be (.fn 1106) [.ref m,.ref W.b,.int p] σ Q:=by
 refine DO aV ?_;dsimp only[tY];have hm0:=h.fr _ _ hm;k_in;refine tA hm0 rfl rfl ?_;have h2:=h.put (o:=eB k v (.ref W.b) 0) (aZ hm);have Qk:=ak φ m (eB k v (.ref W.b) 0);have e2:upd σ m (.inst 540 (iH (Yn k v .none 0) ae (.ref W.b)))=upd σ m (eB k v (.ref W.b) 0):=rfl;rw[e2];generalize upd σ m _=dp at h2;have Xb:=h2.sub _ _ h2.ms;refine Xo h2.i0 λP F S pt tk fY dZ zh=>rU zh λi0 eK=>?_;have TZ:=i0.b;k_in;refine h2.size rfl ?_;k_in;rw[show(if((K.length:Nat):Int)+1<(if p<1 then 1 else p)then((K.length:Nat):Int)+1 else(if p<1 then 1 else p))=p from Fx h0 h1];have hmk:=h2.fr _ _ Qk;refine Co rfl ?_;dsimp only[rO];k_in;refine Z6 i0.md hl ?_;have h3:=h2.mds (ds':=Fi ds k (.ref m));have hm3:=h3.fr _ _ Qk;generalize upd dp W.md _=jJ at h3 hm3;k_in;refine tA hm3 rfl rfl ?_;k_in;have h4:=h3.put (o:=eB k v (.ref W.b) p) (aZ Qk);rw[cZ]at h4;exact hq _ h4
theorem LO{s e k w:Int}(aV:ai 7 be=true)(h:PA ι φ σ W K ds)(hK:K.length≤2000)(h0:0≤s)(h1:s≤e)(h2:e≤K.length)(hk:k=1∨k=2)
  (hq:∀cv bx av,Le ι bx→PA bx φ av W K ds→Q (.bool cv) av):D be (.fn 1017) [.ref W.tp,.int s,.int e,.int k,.int w] σ Q:=by
 refine Cc h.pi λL hL=>?_;exact FV aV hL.1 (by rw[hL.2.1];lia) h0 h1 (rwl hL.2.1 h2) hk λcv bx av L' p _ es ev=>hq cv bx av ev.le (h.tree hL p es ev)
end
noncomputable abbrev em:St:=λ_=>none
theorem PA.start{σ:St}{b g cl ms md ls tp tr c0 d0 dk f:Addr}{P F S K js:List Int}{pt tk fY dZ nn:Int}(i0:I0 σ b g cl ms md ls .none (.ref tp) P F S pt tk fY dZ [])(hK:P++S=K)(h0:σ c0=some (.list []))(ht:σ tp=some (.inst 985 [(aY,.ref tr)]))(tl:TL σ tr [(f,(K.length:Nat),.ref c0)])(hn:0<(K.length:Int))
  (hd:σ d0=some (.list (js.map .int))) (hk:σ dk=some (gK d0 nn)) (n1:cl≠d0) (n2:cl≠dk) (n3:cl≠c0) (n4:cl≠ls) (n5:dk≠d0) (n6:dk≠c0) (n7:dk≠ls):
  ∃ι,PA ι (upd em dk (gK d0 nn)) σ ⟨b,g,cl,ms,md,ls,tp,tr⟩ K []∧ι d0=some (.list (js.map .int)):=by
 have hle:Le (upd (upd (upd (upd (upd em c0 (.list [])) tp (.inst 985 [(aY,.ref tr)])) ms (.inst 608 [(aX,.ref md)])) ls (.list [])) d0 (.list (js.map .int))) σ:=
  (((((show Le em σ from λ_ _ e=>nomatch e).put h0).put ht).put i0.ms).put i0.ls).put hd
 have hi:∀y,upd (upd (upd (upd (upd em c0 (.list [])) tp (.inst 985 [(aY,.ref tr)])) ms (.inst 608 [(aX,.ref md)])) ls (.list [])) d0 (.list (js.map .int)) y≠none→y=d0∨y=ls∨y=ms∨y=tp∨y=c0:=λy q=>
  (mJ q).elim .inl λq=>(mJ q).elim (λe=>.inr (.inl e)) λq=>(mJ q).elim (λe=>.inr (.inr (.inl e))) λq=>(mJ q).elim (λe=>.inr (.inr (.inr (.inl e)))) λq=>(mJ q).elim (λe=>.inr (.inr (.inr (.inr e)))) λq=>absurd rfl q
 have c1:upd (upd (upd (upd (upd em c0 (.list [])) tp (.inst 985 [(aY,.ref tr)])) ms (.inst 608 [(aX,.ref md)])) ls (.list [])) d0 (.list (js.map .int)) c0≠none:=fb _ (fb _ (fb _ (fb _ (aZ (ak ..)))));have c2:upd (upd (upd (upd (upd em c0 (.list [])) tp (.inst 985 [(aY,.ref tr)])) ms (.inst 608 [(aX,.ref md)])) ls (.list [])) d0 (.list (js.map .int)) tp≠none:=fb _ (fb _ (fb _ (aZ (ak ..))));have c3:upd (upd (upd (upd (upd em c0 (.list [])) tp (.inst 985 [(aY,.ref tr)])) ms (.inst 608 [(aX,.ref md)])) ls (.list [])) d0 (.list (js.map .int)) ms≠none:=fb _ (fb _ (aZ (ak ..)));have c4:upd (upd (upd (upd (upd em c0 (.list [])) tp (.inst 985 [(aY,.ref tr)])) ms (.inst 608 [(aX,.ref md)])) ls (.list [])) d0 (.list (js.map .int)) ls≠none:=fb _ (aZ (ak ..));have c5:=ak (upd (upd (upd (upd em c0 (.list [])) tp (.inst 985 [(aY,.ref tr)])) ms (.inst 608 [(aX,.ref md)])) ls (.list [])) d0 (.list (js.map .int));generalize upd (upd (upd (upd (upd em c0 (.list [])) tp (.inst 985 [(aY,.ref tr)])) ms (.inst 608 [(aX,.ref md)])) ls (.list [])) d0 (.list (js.map .int))=ι at hle hi c1 c2 c3 c4 c5;have get:∀{y o},ι y≠none→σ y=some o→ι y=some o:=λn e=>(gQ n).elim λw z=>z.trans ((hle _ _ z).symm.trans e);have kn:∀{y o},σ y=some o→(a9 (kd o) 0||(a9 (kd o) 987||a9 (kd o) 610))=false→ι y=none:=λ{y o}e n=>Q5 λw z=>by
  have h:=hi y (aZ z);have nk:∀{c o'},y=c→σ c=some o'→(a9 (kd o') 0||(a9 (kd o') 987||a9 (kd o') 610))=true→False:=λq e' t=>aq (n.symm.trans (by rw[aA (e.symm.trans (rwl q e'))];exact t))
  exact h.elim (λq=>nk q hd rfl) λh=>h.elim (λq=>nk q i0.ls rfl) λh=>h.elim (λq=>nk q i0.ms rfl) λh=>h.elim (λq=>nk q ht rfl) λq=>nk q h0 rfl
 have pn:∀{y o},σ y=some o→a9 (kd o) 0=false→upd em dk (gK d0 nn) y=none:=λe n=>aC (bS e hk n);have fk:∀y∈foot tr [(f,(K.length:Int),MV.ref c0)],∃o,σ y=some o∧(a9 (kd o) 735||a9 (kd o) 756)=true:=λy m=>(gQ (tl.live y m)).elim λo e=>⟨o,e,tl.kind m e⟩;have kk:∀o:MO,(a9 (kd o) 735||a9 (kd o) 756)=true→(a9 (kd o) 0||(a9 (kd o) 987||a9 (kd o) 610))=false:=λo h=>by
  rcases bK.mp h with h|h<;>rw[bR h]<;>rfl
 have ncl:ι cl=none:=Q5 λw z=>(hi cl (aZ z)).elim n1 λh=>h.elim n4 λh=>h.elim (bS i0.gap.cl i0.ms rfl) λh=>h.elim (bS i0.gap.cl ht rfl) n3;refine⟨ι,⟨⟨P,F,S,pt,tk,fY,dZ,i0,hK⟩,⟨[(f,(K.length:Nat),.ref c0)],⟨hle,get c2 ht,tl,?_,λy m=>(fk y m).elim λo z=>kn z.1 (kk o z.2),λe m=>?_⟩,?_,λy q=>?_⟩,λy m=>?_,(show Le em σ from λ_ _ e=>nomatch e).put hk,get c3 i0.ms,get c4 i0.ls⟩,c5⟩
 ·exact fp.mpr ⟨hn,λ_ m=>absurd m aD⟩
 ·rw[aQ.mp m];exact⟨c0,[],rfl,get c1 h0,⟨λ_ m=>absurd m aD,.nil⟩,cy _⟩
 ·exact fh _
 ·have e:y=dk:=(mJ q).elim id λq=>absurd rfl q;subst e;exact⟨Q5 λw z=>(hi y (aZ z)).elim n5 λh=>h.elim n7 λh=>h.elim (bS hk i0.ms rfl) λh=>h.elim (bS hk ht rfl) n6,λm=>aq (tl.kind m hk)⟩
 ·simp only[aE,aD,or_false]at m;rcases m with rfl|rfl|rfl|rfl
  ·exact⟨kn i0.b rfl,pn i0.b rfl⟩
  ·exact⟨kn i0.gap.g rfl,pn i0.gap.g rfl⟩
  ·exact⟨ncl,aC n2⟩
  ·exact⟨kn i0.md rfl,pn i0.md rfl⟩
theorem PA.buf{ι φ xO σ av:St}{A:BA}{K:List Int}{p1 p2 pt tk fY:Int}{r:Addr}{P F S:List Int}{pt0 tk0 a5C a4X:Int}(h:PA ι φ σ ⟨A.b,A.g,A.cl,A.ms,A.md,A.ls,A.tp,A.tr⟩ K [(1,.ref A.m1),(2,.ref A.m2)])(i0:I0 σ A.b A.g A.cl A.ms A.md A.ls .none (.ref A.tp) P F S pt0 tk0 a5C a4X [(1,.ref A.m1),(2,.ref A.m2)])(eK:P++S=K)
  (h1:φ A.m1=some (eB 1 A.a1 (.ref A.b) p1)) (h2:φ A.m2=some (eB 2 true (.ref A.b) p2)) (lf:Le xO φ) (f1:xO A.m1=none) (f2:xO A.m2=none) (hb:av A.b=some (A.bO K.length pt tk fY tk)) (k:∀y w,y≠A.b→σ y=some w→av y=some w)
  (Qj:av A.rc=some (.inst 1163 [(c8,.ref A.ul)])) (hu:av A.ul=some (VM r none)) (hr:av r=some (.list [])) (g1:σ A.rc=none) (g2:σ A.ul=none) (g3:σ r=none):
  ∃bx V,Le ι bx∧B A bx xO av ⟨K,V,p1,p2,tk,tk,pt,[],none⟩∧V.length=K.length:=by
 refine Cc h.pi λL zh=>oe zh λpi es fi=>?_;have nb:ι A.b=none∧φ A.b=none:=h.no _ (.head _);have nmd:=h.no A.md (.tail _ (.tail _ (.tail _ (.head _))));have kk:∀{y w},σ y=some w→a9 (kd w) 716=false→av y=some w:=λe n=>k _ _ (bS e i0.b n) e;have ki:∀{y w},ι y=some w→av y=some w:=λ{y w}e=>k y w (λq=>ar e (rwl q nb.1)) (h.sub _ _ e);have rm:A.rc≠A.md:=λe=>ar i0.md (rwr e g1);have l:Le ι (upd (upd ι A.md (.dict [(1,.ref A.m1),(2,.ref A.m2)])) A.rc (.inst 1163 [(c8,.ref A.ul)])):=((Le.refl ι).new nmd.1).new ((aC rm).trans (h.sub.none g1));have hle:Le (upd (upd ι A.md (.dict [(1,.ref A.m1),(2,.ref A.m2)])) A.rc (.inst 1163 [(c8,.ref A.ul)])) av:=((show Le ι av from λ_ _=>ki).put (kk i0.md rfl)).put Qj;have nn:∀y,ι y=none→y≠A.md→y≠A.rc→upd (upd ι A.md (.dict [(1,.ref A.m1),(2,.ref A.m2)])) A.rc (.inst 1163 [(c8,.ref A.ul)]) y=none:=λy a b c=>(aC c).trans ((aC b).trans a);have mdI:upd (upd ι A.md (.dict [(1,.ref A.m1),(2,.ref A.m2)])) A.rc (.inst 1163 [(c8,.ref A.ul)]) A.md=some (.dict [(1,.ref A.m1),(2,.ref A.m2)]):=(aC rm.symm).trans (ak ..);have rcI:=ak (upd ι A.md (.dict [(1,.ref A.m1),(2,.ref A.m2)])) A.rc (.inst 1163 [(c8,.ref A.ul)]);generalize upd (upd ι A.md (.dict [(1,.ref A.m1),(2,.ref A.m2)])) A.rc (.inst 1163 [(c8,.ref A.ul)])=bx at l hle nn mdI rcI;have hm1:=h.fr _ _ h1;have Qk:=h.fr _ _ h2;have live:∀y w,σ y=some w→a9 (kd w) 1=false→ι y=none→bx y=none:=λy w e n z=>nn y z (bS e i0.md n) λq=>ar e (rwl q g1);have fr:∀y,φ y=none→xO y=none:=λy e=>lf.none e;have fresh:∀y,σ y=none→y≠A.rc→bx y=none∧xO y=none:=λy e n=>⟨nn y (h.sub.none e) (λq=>ar i0.md (rwr q e)) n,fr y (h.fr.none e)⟩;refine⟨bx,Vw ι L,l,⟨⟨r,P,F,S,L,fY⟩,hb,⟨kk i0.gap.g rfl,kk i0.gap.cl rfl,i0.gap.bd⟩,kk hm1 rfl,kk Qk rfl,⟨hu,hr⟩,⟨hle,l _ _ pi.tp,pi.tl.frame λy m=>?_,pi.pos,λy m=>?_,λe m=>(pi.pl e m).mono l⟩,⟨l _ _ h.ms,mdI,l _ _ h.ls,rcI⟩,eK,pi.vw l,λ_ m=>absurd m aD,λe=>ar i0.gap.cl (rwl e g3),λy m=>?_,λa o e=>?_,λy q=>?_⟩,?_⟩
 ·have z:=(gQ (pi.tl.live y m));exact z.elim λo e=>(kk e (by
   rcases bK.mp (pi.tl.kind m e)with h|h<;>rw[bR h]<;>rfl)).trans e.symm
 ·have z:=(gQ (pi.tl.live y m));exact z.elim λo e=>live y o e (by
   rcases bK.mp (pi.tl.kind m e)with h|h<;>rw[bR h]<;>rfl) (pi.Rg y m)
 ·simp only[aE,aD,or_false]at m;rcases m with rfl|rfl|rfl|rfl|rfl|rfl|rfl
  ·exact⟨live _ _ i0.b rfl nb.1,fr _ nb.2⟩
  ·have z:=h.no A.g (.tail _ (.head _));exact⟨live _ _ i0.gap.g rfl z.1,fr _ z.2⟩
  ·have z:=h.no A.cl (.tail _ (.tail _ (.head _)));exact⟨live _ _ i0.gap.cl rfl z.1,fr _ z.2⟩
  ·exact⟨live _ _ hm1 rfl (h.fi (aZ h1)),f1⟩
  ·exact⟨live _ _ Qk rfl (h.fi (aZ h2)),f2⟩
  ·exact fresh _ g2 (bS hu Qj rfl)
  ·exact fresh _ g3 (bS hr Qj rfl)
 ·have e:=lf _ _ e;exact k _ _ (λq=>ar e (rwl q nb.2)) (h.fr _ _ e)
 ·have q:φ y≠none:=λe=>q (fr y e);exact⟨nn y (fi y q).1 (λe=>q (rwl e nmd.2)) λe=>(λe=>q (h.fr.none e)) (rwl e g1),(fi y q).2⟩
 ·have z:=kz (ι:=ι) pi.pos;exact cO (z.trans es)
noncomputable def Sh(n:Nat)(d:PyData):Prop:=d.canLay0=true∧d.depth≤n
theorem Sh.all{n:Nat}{ds:List PyData}(h:∀d∈ds,Sh n d):PyData.canLayAll0 ds=true∧PyData.depthAll ds≤n:=by
 induction ds with
 |nil=>exact⟨rfl,cy _⟩
 |cons d ds ih=>
  have hd:=h d (.head _);have ih:=ih λe m=>h e (.tail _ m);exact⟨ao.mpr ⟨hd.1,ih.1⟩,Nat.max_le.mpr ⟨hd.2,ih.2⟩⟩
theorem Sh.list{n:Nat}{ds:List PyData}(h:∀d∈ds,Sh n d):Sh (n+1) (.list ds):=⟨by simp only[PyData.canLay0];exact(Sh.all h).1,by
 simp only[PyData.depth];have:=(Sh.all h).2;lia⟩
theorem Sh.tup{n:Nat}{ds:List PyData}(h:∀d∈ds,Sh n d):Sh (n+1) (.tuple ds):=⟨by simp only[PyData.canLay0];exact(Sh.all h).1,by
 simp only[PyData.depth];have:=(Sh.all h).2;lia⟩
theorem Sh.int{n:Nat}(i:Int):Sh (n+1) (.int i):=⟨by simp only[PyData.canLay0],by simp only[PyData.depth];lia⟩
theorem Sh.bool{n:Nat}(b:Bool):Sh (n+1) (.bool b):=⟨by simp only[PyData.canLay0],by simp only[PyData.depth];lia⟩
theorem Sh.cons{n:Nat}{d:PyData}{ds:List PyData}(h:Sh n d)(k:∀e∈ds,Sh n e):∀e∈d::ds,Sh n e:=λe m=>(aE.mp m).elim (λq=>rwl q h) (k e)
theorem Sh.nil{n:Nat}:∀e∈([]:List PyData),Sh n e:=λ_ m=>absurd m aD
theorem Sh.kD(K:List Int):Sh 6 (kD K):=.list λd m=>by
 obtain⟨i,_,rfl⟩:=dv.mp m;exact .int i
theorem Sh.mD(p q:Int):Sh 6 (mD p q):=.list (.cons (.int _) (.cons (.int _) .nil))
theorem Sh.pdV(v:PM):Sh 5 (pdV v):=.list λd m=>by
 have g:∀k o,d∈oD k o→Sh 4 d:=λk o m=>by
  induction o with
  |none=>exact absurd m aD
  |some u=>rw[aQ.mp m];exact .tup (.cons (.int _) (.cons (.int _) .nil))
 exact(aU.mp m).elim (g _ _) (g _ _)
theorem Sh.vD(V:List PM):Sh 6 (vD V):=.list λd m=>by
 obtain⟨i,_,rfl⟩:=dv.mp m;exact .pdV i
noncomputable def ZO(d:Sn):PyData:=.tuple [kD d.K,vD d.V,mD d.p1 d.p2]
noncomputable def VY(p:List Int×List PM):PyData:=.tuple [kD p.1,vD p.2]
theorem Sh.ZO(d:Sn):Sh 7 (ZO d):=.tup (.cons (.kD _) (.cons (.vD _) (.cons (.mD _ _) .nil)))
theorem Sh.U5{n:Nat}{d:PyData}(h:Sh n d)(hn:n≤64):U5 d:=⟨h.1,ah h.2 hn⟩
noncomputable def Qy:jP→List PyData
 |[]=>[]
 |(_,d)::r=>.tuple [ZO d,.bool (!r.isEmpty)]::Qy r
theorem Sh.due:∀gs:jP,∀e∈Qy gs,Sh 8 e:=by
 intro zl;induction zl with
 |nil=>
  exact .nil
 |cons zx r ih=>
  obtain⟨_,d⟩:=zx;exact .cons (.tup (.cons (.ZO d) (.cons (.bool _) .nil))) (ih)
theorem Sh.again(l:List (List Int×List PM)):∀e∈l.map VY,Sh 7 e:=λe m=>by
 obtain⟨p,_,rfl⟩:=dv.mp m;exact .tup (.cons (.kD _) (.cons (.vD _) .nil))
section
variable{c:Cl}{z:Bool}{ρ:Loc}{σ:St}{K:TK}
theorem Z8{a b:Addr}{d:PyData}{n:Nat}(x:Dat σ (.ref a) d)(y:Dat σ (.ref b) d)(h:Sh n d)(hn:n≤64)(q:K true ρ σ):ka (E5 c z) .Eq (.ref a) (.ref b) K ρ σ:=⟨true,Fg x y (h.U5 hn),q⟩
theorem Oo{a b:MV}{d:PyData}{n:Nat}(e:Lm a b=none)(x:Dat σ a d)(y:Dat σ b d)(h:Sh n d)(hn:n≤64)(q:K false ρ σ):ka (E5 c z) .NotEq a b K ρ σ:=by
 show mEq (E5 c z) true a b σ λr=>K (!r) ρ σ;unfold mEq;rw[e];exact⟨true,Fg x y (h.U5 hn),q⟩
theorem SD{x y w:MV}{Q:bw}(q:Q (.tup [x,y]) σ):l8 (.tup [x,y,w]) (.MR .none (.int 2)) σ Q:=⟨rfl,rfl,x,y,w,rfl,q⟩
end
structure UT(ι:St)(d:Sn)(v:MV):Prop where
 at_:∃u1 u2 u3,v=.tup [u1,u2,u3]∧Dat ι u1 (kD d.K)∧Dat ι u2 (vD d.V)∧Dat ι u3 (mD d.p1 d.p2)
theorem UT.mono{ι bx:St}{d:Sn}{v:MV}(h:UT ι d v)(k:Le ι bx):UT bx d v:=⟨h.at_.imp λ_ z=>z.imp λ_ z=>z.imp λ_ z=>⟨z.1,z.2.1.mono k,z.2.2.1.mono k,z.2.2.2.mono k⟩⟩
theorem UT.dat{ι:St}{d:Sn}{v:MV}(h:UT ι d v):Dat ι v (ZO d):=by
 refine JM h.at_ λu1 u2 u3 zh=>an4 zh λIk a b c=>?_;subst Ik;exact .tup (.cons a (.cons b (.cons c .nil)))
noncomputable def SL(ι:St):List Sn→List MV→Prop
 |[],vs=>vs=[]
 |d::ds,vs=>∃v Gy,vs=v::Gy∧UT ι d v∧SL ι ds Gy
theorem SL.mono{ι bx:St}(k:Le ι bx){ds:List Sn}{vs:List MV}(H:SL ι ds vs):SL bx ds vs:=by
 induction ds generalizing vs with
 |nil=>exact H
 |cons _ _ ih=>exact iA H λv Gy z=>⟨v,Gy,z.1,z.2.1.mono k,ih z.2.2⟩
theorem SL.len{ι:St}{ds:List Sn}{vs:List MV}(h:SL ι ds vs):vs.length=ds.length:=by
 induction ds generalizing vs with
 |nil=>exact congrArg bl h
 |cons _ _ ih=>exact iA h λv Gy z=>(congrArg bl z.1).trans (congrArg (·+1) (ih z.2.2))
theorem Res.dat{ι:St}{M:Prop}(m:M){gs:jP}{vs:List MV}(H:Res ι M gs vs):fR ι vs (Qy gs):=by
 induction gs generalizing vs with
 |nil=>exact rwl ((show vs=[]from H)) .nil
 |cons p r ih=>
  refine ex5 H λu1 u2 u3 b Gy z=>an5 z λe a1 a2 a3 h=>?_;have z:=a3 m;rw[e];show fR _ _ (.tuple [ZO p.2,.bool (!r.isEmpty)]::Qy r);rw[z.2];exact .cons (.tup (.cons (.tup (.cons a1 (.cons a2 (.cons z.1 .nil)))) (.cons (.bool _) .nil))) (ih h)
theorem Res.again{ι:St}{M:Prop}{gs:jP}{vs:List MV}(H:Res ι M gs vs):∃ws:List ((MV×MV×MV)×Bool),vs=ws.map (λw=>.tup [.tup [w.1.1,w.1.2.1,w.1.2.2],.bool w.2])∧fR ι (ws.map λw=>.tup [w.1.1,w.1.2.1]) ((gs.map λp=>kv p.2).map VY):=by
 induction gs generalizing vs with
 |nil=>exact⟨[],H,.nil⟩
 |cons p r ih=>
  refine ex5 H λu1 u2 u3 b Gy z=>an5 z λe a1 a2 a3 h=>(ih h).elim λws z=>⟨((u1,u2,u3),b)::ws,by rw[e,z.1];rfl,.cons (.tup (.cons a1 (.cons a2 .nil))) z.2⟩
theorem SL.again{ι:St}{ds:List Sn}{vs:List MV}(H:SL ι ds vs):∃ws:List (MV×MV×MV),vs=ws.map (λw=>.tup [w.1,w.2.1,w.2.2])∧fR ι (ws.map λw=>.tup [w.1,w.2.1]) ((ds.map kv).map VY):=by
 induction ds generalizing vs with
 |nil=>exact⟨[],H,.nil⟩
 |cons _ _ ih=>
  refine iA H λv Gy z=>oe z λe h r=>Cc (ih r) λws zh=>rU zh λe' hw=>?_;refine JM h.at_ λu1 u2 u3 zh=>an4 zh λev a b c=>?_;exact⟨(u1,u2,u3)::ws,by rw[e,e',ev];rfl,.cons (.tup (.cons a (.cons b .nil))) hw⟩
theorem fR.rev{σ:St}{l:List MV}{ds:List PyData}(h:fR σ l ds):fR σ l.reverse ds.reverse:=
 h.ind (P:=λl ds=>fR σ l.reverse ds.reverse) .nil λh r=>by
  rw[cG,cG];exact fR.app (.cons h .nil) r
theorem fR.tl{σ:St}{l:List MV}{ds:List PyData}(h:fR σ l ds):fR σ (l.drop 1) (ds.drop 1):=
 (h.ind (P:=λl ds=>fR σ l ds∧fR σ (l.drop 1) (ds.drop 1)) ⟨.nil,.nil⟩ λh r=>⟨.cons h r.1,r.1⟩).2
noncomputable def TB(sc dk b:Addr)(v1 v2 v3 mk one st hi Ge before many due again:Option MV):Loc:=[(vp,some (.ref sc)),(di,some (.ref dk)),(ae,some (.ref b)),(aG,v1),(au,v2),(aH,v3),(fj,mk),(gZ,one),(jT,st),(fO,hi),(mG,Ge),(jU,before),(bE,many),(J4,due),(pJ,again)]
theorem SL.at_{ι:St}{ds:List Sn}{vs:List MV}{i:Nat}{d:Sn}(H:SL ι ds vs)(q:ds[i]?=some d):∃v,vs[i]?=some v∧UT ι d v:=by
 induction ds generalizing vs i with
 |nil=>exact ar q rfl
 |cons _ _ ih=>
  refine iA H λv Gy z=>oe z λe h r=>?_;rw[e];induction i using kQ with
  |zero=>exact⟨v,rfl,rwr (aA q) h⟩
  |succ i=>exact ih (vs:=Gy) (i:=i) r q
noncomputable def Us(xA:List MV)(m i:Nat):MV:=.tup [(xA[m-1-i]?).getD .none,.bool (decide ((i:Int)<(m:Int)-1))]
theorem Xs{ι:St}{xA:List MV}{m:Nat}{gs:jP}{k:Nat}(e':k+gs.length=m)(h:∀j d,(gs.map (·.2))[j]?=some d→∃v,xA[m-1-(k+j)]?=some v∧UT ι d v):fR ι ((Mm k gs.length).map (Us xA m)) (Qy gs):=by
 induction gs generalizing k with
 |nil=>exact .nil
 |cons p r ih=>
  have e':k+(r.length+1)=m:=e';refine .cons ?_ (ih (k:=k+1) (by lia) λj d' q=>?_)
  ·refine(h 0 p.2 rfl).elim λv z=>?_;unfold Us;rw[show xA[m-1-k]?=some v from z.1];rw[show decide ((k:Int)<(m:Int)-1)=!r.isEmpty by
    induction r using aF with
    |nil=>exact decide_eq_false (by show¬(k:Int)<(m:Int)-1;have:k+1=m:=e';lia)
    |cons p r=>exact decide_eq_true (by have:k+(r.length+1+1)=m:=e';lia)]
   exact .tup (.cons z.2.dat (.cons (.bool _) .nil))
  ·rw[show k+1+j=k+(j+1) by lia];exact h (j+1) d' q
section
variable{be:Nat}{σ ι φ:St}{Q:bw}{A:BA}{x:AV}
set_option maxHeartbeats 4000000 in
theorem WZ{gs:jP}{u base:List UR}{mk st sc dk:Addr}{xA:List MV}{v1 v2 v3 one hi Ge before:Option MV}(h:B A ι φ σ x)(hm:ι mk=some (.list [.ref A.m1,.ref A.m2]))(YD:ι st=some (.list xA))(hsl:SL ι (x.sn::gs.map (·.2)) xA.reverse)
  (hp:UP A True 8000 300000 gs x.sn u x.rows.reverse gs x []) (hW:x.rows.reverse=hR gs (u++base)) (hb:∀q∈base.head?,q.lV=true) (hb0:∀q∈x.rows.reverse.head?,q.lV=true) (hg:gs.length≤5) (hq:∀av,Q (.bool true) av):
  wB (X 17) (qU 10 fw) (TB sc dk A.b v1 v2 v3 (some (.ref mk)) one (some (.ref st)) hi Ge before none none none) σ (ends Q):=by
 dsimp only[fw,qU];have a5o:=h.sub _ _ YD;have ls:xA.length=gs.length+1:=by rw[←c7,hsl.len,cg,ax]
 have lm:((xA.length:Nat):Int)-1=gs.length:=by rw[ls];exact dM (gs.length:Int) 1
 k_go;rw[lm];k_go;refine tx (bJ _) (cK.mpr (ah hg (by decide))) ?_
 k_go;have it:∀i,i<gs.length→∃v,xA[gs.length-1-i]?=some v:=λi hi=>⟨_,j5 (by lia)⟩
 refine rR (s:=.items (oZ gs.length)) (λi:Nat=>MV.int i) (Us xA gs.length) trivial (fB gs.length) [] (λi hi T hT=>?_) (by rw[bQ,cQ,jh];exact ah hg (by decide)) ?_
 ·have hi:=List.mem_range.mp hi;obtain⟨v,hv⟩:=it i hi;unfold Us at hT;rw[hv]at hT;k_go;rw[show(gs.length:Int)-1-(i:Int)=((gs.length-1-i:Nat):Int) by lia]
  refine j9 a5o hv ?_;k_go;exact hT
 refine h.lU λdu Bu dE k1 hdu b1=>?_;k_go;refine LG (M:=True) rfl (by decide) b1 (k1 _ _ hm) hp hW hb hb0 (by have:=hp.len;lia) (ah hg (by decide)) λfq vs jA dp x2 uD k2 Mf rs ln b2 U4=>?_
 have a5v:fR jA ((fB gs.length).map (Us xA gs.length)) (Qy gs):=by
  rw[xM];refine Xs (cQ _) λj d e=>?_;have hj:j<gs.length:=by
   have:=(gk.mp e).1;rwa [ax]at this
  obtain⟨v,hv,sv⟩:=SL.at_ (i:=j+1) hsl e;refine⟨v,?_,sv.mono (k1.trans k2)⟩;rw[List.getElem?_reverse (by rw[ls];lia),ls]at hv
  rw[←hv]
  congr 1
  lia
 k_go;refine Oo rfl (.list (b2.sub _ _ Mf) ((Res.dat trivial rs).mono b2.sub)) (.list (b2.sub _ _ (k2 _ _ hdu)) (by rw[cN];exact a5v.mono b2.sub)) (Sh.list (Sh.due gs)) (by decide) ?_
 k_go;have kvs:=U4.kvs;have l2:uD.length=gs.length:=by
  have z:=congrArg bl kvs;simp only[aa,c7,ax,cg,bQ]at z;lia
 obtain⟨b1',e1',a35⟩:=(U4.md.elim (λq=>absurd trivial q.1) λq=>q.2.2 rfl);have ln2:x2.rows.length+0≤8000:=U4.len;have ln3:Kn uD+38*0≤300000:=U4.a3t;have vV:UP A False 308000 11400000 uD x2.sn [] x2.rows.reverse uD x2 []:=
  ⟨⟨x2.sn,U4.zg,rfl,rfl,λf=>f.elim⟩,rfl,trivial,.inl ⟨id,rfl⟩,U4.ho,U4.ni,U4.K,U4.V,U4.sh2,trivial,by lia,by show 0+38*Kn uD≤11400000;lia⟩
 rw[←l2];refine LG (M:=False) (base:=b1') rfl (by decide) b2 (k2 _ _ (k1 _ _ hm)) vV e1' a35 (by rw[e1'];exact Xg a35) (by lia) (by lia) λfq2 vs2 Md jJ x3 gs3 k3 hf3 rs3 ln3 b3 up3=>?_
 obtain⟨ws,ews,dws⟩:=rs3.again;subst ews;have a5u:=b3.sub _ _ hf3;k_go;have lws:ws.length≤5:=by rw[ax]at ln3;lia
 refine rR (s:=.list fq2 (ws.map λw:(MV×MV×MV)×Bool=>.tup [.tup [w.1.1,w.1.2.1,w.1.2.2],.bool w.2])) (λw:(MV×MV×MV)×Bool=>.tup [.tup [w.1.1,w.1.2.1,w.1.2.2],.bool w.2]) (λw=>.tup [w.1.1,w.1.2.1]) a5u ws [] (λw _ T hT=>?_) (by rw[bQ,cQ];exact ah lws (by decide)) ?_
 ·k_go;refine SD ?_;exact hT
 refine b3.lU λag Ec vh k4 hag b4=>?_;k_go;refine HC (b4.sub _ _ (k4 _ _ (k3 _ _ (k2 _ _ (k1 _ _ YD))))) (i:=1) (j:=xA.length) (Ja (i:=1) (by decide)) rfl (b4.lU λcs Bt qJ k5 YN b5=>?_)
 refine Cc hsl.again λwt zh=>rU zh λewt dwt=>?_;have esv:AH xA 1 xA.length=(wt.reverse.drop 1).map λw=>.tup [w.1,w.2.1,w.2.2]:=by
  unfold AH;rw[sW,Ib,sX,←ewt,jy]
 rw[esv]at YN;have a5x:=b5.sub _ _ YN;k_go;have lwt:(wt.reverse.drop 1).length≤6:=by
  have z:=congrArg bl ewt;rw[c7,ax,ls]at z;rw[d6,c7];lia
 refine rR (s:=.list cs ((wt.reverse.drop 1).map λw:MV×MV×MV=>.tup [w.1,w.2.1,w.2.2])) (λw:MV×MV×MV=>.tup [w.1,w.2.1,w.2.2]) (λw=>.tup [w.1,w.2.1]) a5x (wt.reverse.drop 1) [] (λw _ T hT=>?_) (by rw[bQ,cQ];exact ah lwt (by decide)) ?_
 ·k_go;refine SD ?_;exact hT
 refine b5.lU λc6 kO pE k6 OV b6=>?_;have ekv:(uD.map λp=>kv p.2)=((x.sn::gs.map (·.2)).map kv).reverse.drop 1:=by
  have z:=congrArg List.reverse kvs;rw[bD,jy]at z;have z2:kv x2.sn::(uD.map λp=>kv p.2)=((x.sn::gs.map (·.2)).map kv).reverse:=by
   rw[dm,jI];exact z
  rw[←z2];rfl
 have db:fR kO ((wt.reverse.drop 1).map λw=>.tup [w.1,w.2.1]) ((uD.map λp=>kv p.2).map VY):=by
  rw[ekv,Ib,sX,Ib,sX];exact((dwt.rev.tl).mono (k1.trans (k2.trans (k3.trans (k4.trans (k5.trans k6))))))
 refine Z8 (.list (b6.sub _ _ ((k5.trans k6) _ _ hag)) (by rw[cN];exact(dws.mono (k4.trans (k5.trans k6))).mono b6.sub)) (.list (b6.sub _ _ OV) (by rw[cN];exact db.mono b6.sub)) (Sh.list (Sh.again _)) (by decide) ?_
 k_go;exact hq pE
end
theorem VL{σ:St}{a b:Addr}{o o' o'':MO}(h:a≠b):upd (upd (upd σ a o) b o') a o''=upd (upd σ a o'') b o':=by
 funext y
 unfold upd;by_cases e:y=a
 ·rw[if_pos e,if_neg (λq=>h (e.symm.trans q)),if_pos e]
 ·rw[if_neg e,if_neg e,if_neg e]
theorem GD.a5c{A:BA}{M:Prop}{g:List UR}{d e:Sn}(h:GD A M g d e):e.V.length=e.K.length:=by
 induction h with
 |ed a X Y K K' P Q W W' p1 p2 q1 q2 ms pc f ha hX hY hK Qp=>
  show(P++W'++Q).length=(X++K'++Y).length;rw[aa,aa,aa,aa,hX,hY,Qp]
 |prop ps K V V' p1 p2 q1 q2 hV YO=>exact YO
noncomputable def OT:N→N
 |.cons s _=>s
 |x=>x
structure LI(A:BA)(i:Nat)(gs:jP)(u:List UR)(x:AV):Prop where
 hs:Hs A True gs x.sn
 st:(gs=[]∧u=[]∧x.rows=[]∧x.nt=none∧x.dZ=x.tk)∨(gs≠[]∧u=[.tu x.dZ]∧x.dZ<x.tk)
 rw:x.rows.reverse=hR gs u
 ni:DE x.rows=true
 K:x.K.length≤8+2*i
 V:x.V.length=x.K.length
 sh:Short gs
 sz:Kn gs≤i*1484
 ln:x.rows.length≤i*40
 gl:gs.length≤i
section
variable{A:BA}{i:Nat}{gs:jP}{u g:List UR}{x y:AV}
theorem LI.idle(h:LI A i gs u x):LI A (i+1) gs u x:=⟨h.hs,h.st,h.rw,h.ni,ah h.K (by lia),h.V,h.sh,ah h.sz (by lia),ah h.ln (by lia),ji h.gl⟩
theorem LI.ends(h:LI A i gs u x):∀q∈x.rows.reverse.head?,q.lV=true:=λq m=>by
 rw[h.rw]at m;induction h.st with
 |inl e=>
  rw[e.1,e.2.1]at m;exact nomatch m
 |inr e=>
  induction gs using aF with
  |nil=>exact absurd rfl e.1
  |cons p r=>rw[←aA m];rfl
theorem LI.Ge(h:LI A i gs u x)(hi:i≤4)(k:Un x y g)(gd:GD A True g x.sn y.sn)(l:g.length≤38)(hK:y.K.length≤x.K.length+2)(hV:y.V.length=y.K.length):Hj y.rows=false∧y.rows.length≤i*40+39∧LI A (i+1) ((g,x.sn)::gs) [.tu x.dZ] (y.xQ (y.rows++[.bd]) y.nt):=by
 have er:(y.rows++[UR.bd]).reverse=hR ((g,x.sn)::gs) [.tu x.dZ]:=by
  rw[bD,k.rows,bD];show UR.bd::(g.reverse++_)=UR.bd::(g.reverse++_);induction h.st with
  |inl e=>
   rw[e.1,e.2.2.1,e.2.2.2.1,decide_eq_false (by rw[e.2.2.2.2];exact aP _)]
   rfl
  |inr e=>
   rw[decide_eq_true e.2.2,Ag.1,h.rw,e.2.1]
 have lt:x.dZ<y.tk:=by
  induction h.st with
  |inl e=>rw[e.2.2.2.2];exact k.tk
  |inr e=>exact fT e.2.2 k.tk
 have lr:=k.len;have hln:=h.ln;have xD:=h.sz;have hhK:=h.K;refine⟨?_,by lia,⟨gd,h.hs⟩,.inr ⟨d7 _ _,?_,?_⟩,er,?_,?_,hV,⟨⟨?_,h.V⟩,h.sh⟩,?_,?_,bU h.gl⟩
 ·rw[k.rows];exact Pj gd.plain.1 gd.plain.2
 ·exact congrArg (λt=>[UR.tu t]) k.dZ.symm
 ·exact rwl k.dZ lt
 ·show DE (y.rows++[UR.bd])=true;unfold DE;rw[jz];rfl
 ·show y.K.length≤_;lia
 ·show x.K.length≤18;lia
 ·show 39*g.length+2+Kn gs≤_;lia
 ·show(y.rows++[UR.bd]).length≤_;rw[aa,List.length_singleton];lia
theorem LI.up(h:LI A i gs u x)(hi:i≤5):UP A True 8000 300000 gs x.sn u x.rows.reverse gs x []:=by
 have xD:=h.sz;have hln:=h.ln;have hK:=h.K;refine⟨⟨x.sn,h.hs,rfl,rfl,λ_=>⟨rfl,rfl⟩⟩,rfl,trivial,.inr ⟨trivial,λn=>?_,λ_=>⟨_,rfl,h.ends⟩⟩,?_,h.ni,by lia,h.V,h.sh,trivial,by lia,?_⟩
 ·induction h.st with
  |inl e=>exact absurd e.1 n
  |inr e=>exact⟨e.2.2,e.2.1,rfl⟩
 ·induction h.st with
  |inl e=>exact CC e.2.2.2.2
  |inr e=>exact bp e.2.2
 ·show 0+38*Kn gs≤_;lia
end
section
variable{be:Nat}{σ ι φ:St}{Q:bw}{A:BA}{x:AV}
theorem Ju{ul rl:Addr}{rows:List UR}{nt:Option Int}(aV:ai 0 be=true)(h:qA σ ul rl rows nt)(hq:Q (.int rows.length) σ):D be (.fn 245) [.ref ul] σ Q:=by
 refine x4 aV ?_;dsimp only[mQ];have Nt:=h.ul;have OR:=h.rl;k_go;rw[ax,qB];exact hq
structure LJ(A:BA)(Vo:St)(st dk d0:Addr)(n0:Int)(i:Nat)(σ:St):Prop where
 ex:∃ι gs u x xA n,BJ A ι (upd em st (.list xA)) x dk d0 n σ∧Le Vo ι∧LI A i gs u x∧SL ι (x.sn::gs.map (·.2)) xA.reverse∧n0≤n∧n≤n0+5*i∧xA.length≤i+1
set_option maxHeartbeats 4000000 in
theorem Tz{dk d0 mk st sc:Addr}{js:List Int}{n:Int}{v:MV}{v1 v2 v3 one:Option MV}(nF:d0≠dk)(hsd:st≠dk)(Gn:ι d0=some (.list (js.map .int)))(hm:ι mk=some (.list [.ref A.m1,.ref A.m2]))(h:BJ A ι (upd em st (.list [v])) x dk d0 n σ)(hv:UT ι x.sn v)(l0:LI A 0 [] [] x)(hn:0≤n)(YH:n≤1000)(hq:∀av,Q (.bool true) av):
  wB (X 17) (qU 9 fw) (TB sc dk A.b v1 v2 v3 (some (.ref mk)) one (some (.ref st)) (some (.ref A.ul)) none none none none none) σ (ends Q):=by
 have fin:∀(a1 a2:Option MV)av i,i≤5→LJ A ι st dk d0 (n+1) i av→wB (X 17) (qU 10 fw) (TB sc dk A.b v1 v2 v3 (some (.ref mk)) one (some (.ref st)) (some (.ref A.ul)) a1 a2 none none none) av (ends Q):=λa1 a2 av i hi j=>by
  refine ex6 j.ex λbx gs u x' xA n' zh=>an7 zh λb k li sl _ _ _=>?_;have e:upd (upd em st (.list xA)) dk (gK d0 n') st=some (.list xA):=(aC hsd).trans (ak ..);have b':=B.fix (xO:=upd em dk (gK d0 n')) b e (λy o q=>by
   unfold upd at q⊢;by_cases c:y=dk
   ·rw[if_pos c]at q⊢;exact q
   ·rw[if_neg c]at q;exact ar q rfl) (aC hsd)
  have le:Le bx (upd bx st (.list xA)):=(Le.refl bx).new (b.fi (aZ e));exact WZ b' (le _ _ (k _ _ hm)) (ak ..) (sl.mono le) (li.up hi) (base:=[]) (by rw[ay];exact li.rw) (λq m=>nomatch m) li.ends (ah li.gl hi) hq
 show wB (X 17) (.cons (OT (qU 9 fw)) (qU 10 fw)) _ _ _;generalize qU 10 fw=rest at fin⊢;dsimp only[fw,qU,OT];k_go;refine(BJ.dj (φ:=upd em st (.list [v])) (A:=A) (x:=x) Gn nF).draw rfl h hn (by lia) (by decide) λw dE w0 w1 h1=>?_
 k_go;refine tx (by lia) (by show _≤(1000000:Int);lia) ?_
 rw[show 1+w=(((1+w).toNat:Nat):Int) by lia]
 have hw:(1+w).toNat≤5:=by lia
 generalize(1+w).toNat=m at hw;k_go;refine Ff (n:=m) (a:=(none,none)) (λa_:Option MV×Option MV=>TB sc dk A.b v1 v2 v3 (some (.ref mk)) one (some (.ref st)) (some (.ref A.ul)) a_.1 a_.2 none none none) (λi _ av=>LJ A ι st dk d0 (n+1) i av)
  ⟨ι,[],[],x,[v],n+1,h1,.refl _,l0,⟨v,[],rfl,hv,rfl⟩,dU _,by lia,cM _⟩ (λi a_ dp R hi I hK=>?_) λa_ dp I=>fin _ _ dp m hw I
 obtain⟨jA,gs,u,x2,xA,n2,b2,k2,li,sl,a6i,a6h,hl⟩:=I.ex;have hln:=li.ln;have hhK:=li.K;have Qk:=k2 _ _ hm;obtain⟨a1,a2⟩:=a_;induction b2 with|intro i2 b2=>
 have a07:=b2.ul.ul;k_go;refine Ju rfl b2.ul ?_;k_go;refine KA (by decide) ?_
 k_go;refine QP rfl ⟨i2,b2⟩ (k2 _ _ Gn) nF (by lia) (by lia) (by lia) li.ni li.V (by lia) λ_ Md jJ x3 n3 k3 b3 n30 n31 cm hKK=>?_
 induction cm with
 |same e=>
  subst e;induction b3 with|intro i3 b3=>
  have a5n:=b3.ul.ul;k_go;refine Ju rfl b3.ul ?_;k_go;refine px (aP _) ?_;k_go;refine Ek rfl ⟨i3,b3⟩ (k3 _ _ Qk) (by lia) li.V λu1 u2 u3 kO pE k6 b6 du1 du2 du3=>?_
  refine iA sl λw0 ws zh=>oe zh λew sw _=>?_;have es:xA=ws.reverse++[w0]:=by rw[←jy xA,ew,cG]
  have a3N:=b6.fr st (.list xA) ((aC hsd).trans (ak ..));rw[es]at a3N;k_go;refine MX a3N ?_;k_go;refine JM sw.at_ λz1 z2 z3 zh=>rU zh λIk _=>?_;subst Ik;refine Oo rfl (((show UT kO x3.sn (.tup [u1,u2,u3])from⟨u1,u2,u3,rfl,du1,du2,du3⟩).dat).mono b6.sub) (((sw.mono (k3.trans k6)).dat).mono b6.sub) (Sh.ZO _) (by decide) ?_
  k_go;exact⟨trivial,hK (_,_) _ ⟨kO,gs,u,x3,xA,n3,b6,k2.trans (k3.trans k6),li.idle,SL.mono (k3.trans k6) sl,by lia,by lia,by lia⟩⟩
 |ed g un gd l=>
  induction b3 with|intro i3 b3=>
  have hV:x3.V.length=x3.K.length:=gd.a5c;refine oe (li.Ge (by lia) un gd l hKK hV) λab ly lb=>?_
  have a5n:=b3.ul.ul;k_go;refine Ju rfl b3.ul ?_;have lt:x2.rows.length<x3.rows.length:=by
   rw[un.rows,aa];have:=NZ.mpr gd.plain.1;have z:x2.rows.length≤(iu x2.rows x2.nt (decide (x2.dZ<x2.tk)) x2.dZ).length:=by
    unfold iu;cases nb x2.nt (decide (x2.dZ<x2.tk)) x2.dZ
    ·exact cM _
    ·show _≤(x2.rows++_).length;rw[aa];exact bq _ _
   lia
  k_go;refine pk (cB.mpr lt) ?_;k_go;refine F9 rfl b3.ul (by lia) λqJ u5 o5=>?_
  rw[ab]at u5;have b5:=b3.xQ o5 u5 λq m=>(aU.mp m).elim (b3.rr q) (BL (P:=jf Md A) (u:=.bd) trivial q);have a59:=b5.fr st (.list xA) ((aC hsd).trans (ak ..));have hKy:x3.K.length≤2000:=by lia
  k_go;refine Ek rfl b5 (k3 _ _ Qk) hKy hV λu1 u2 u3 kO pE k6 b6 du1 du2 du3=>?_;k_go;refine dY (b6.fr st (.list xA) ((aC hsd).trans (ak ..))) (bc (show xA.length≤5 by lia) (by decide)) ?_
  k_go;have b7:=B.put (c:=st) (o:=.list (xA++[.tup [u1,u2,u3]])) b6 (aZ ((aC hsd).trans (ak ..)));rw[VL hsd]at b7;exact⟨trivial,hK (_,_) _ ⟨kO,(g,x2.sn)::gs,_,_,xA++[.tup [u1,u2,u3]],n3,b7,k2.trans (k3.trans k6),lb,by rw[bD];exact⟨_,_,rfl,⟨u1,u2,u3,rfl,du1,du2,du3⟩,SL.mono (k3.trans k6) sl⟩,by lia,by lia,by rw[aa];exact bU hl⟩⟩
end
structure MJ(ι:St)(W:AW)(dk d0 m1 m2:Addr)(K:List Int)(ds:List (Int×MV))(o1 o2:MO)(n:Int)(σ:St):Prop where
 ex:∃φ,PA ι φ σ W K ds∧φ dk=some (gK d0 n)∧φ m1=some o1∧φ m2=some o2
section
variable{ι σ:St}{dk d0 m1 m2:Addr}{W:AW}{K js:List Int}{ds:List (Int×MV)}{o1 o2:MO}{n:Int}
theorem PA.up{φ:St}(h:PA ι φ σ W K ds)(hd:φ dk=some (gK d0 n)):PA ι (upd φ dk (gK d0 (n+1))) (upd σ dk (gK d0 (n+1))) W K ds:=h.put (aZ hd)
theorem MJ.dj(Gn:ι d0=some (.list (js.map .int)))(nF:d0≠dk)(n1:m1≠dk)(n2:m2≠dk):DJ dk d0 W.b js K.length (MJ ι W dk d0 m1 m2 K ds o1 o2):=
 ⟨λn σ h=>h.ex.elim λφ w=>⟨w.1.fr _ _ w.2.1,w.1.sub _ _ Gn⟩,nF,λn σ h=>by
  obtain⟨φ,w,_⟩:=h.ex;refine Xo w.i0 λ_ _ _ _ _ _ _ zh=>rU zh λi0 _=>?_;exact⟨_,i0.b⟩,λn σ Q h q=>h.ex.elim λφ w=>w.1.size rfl q,λn σ h=>h.ex.elim λφ w=>⟨_,w.1.up w.2.1,ak ..,(aC n1).trans w.2.2.1,(aC n2).trans w.2.2.2⟩⟩
structure PJ(ι:St)(W:AW)(dk d0:Addr)(K:List Int)(n:Int)(σ:St):Prop where
 pa:PA ι (upd em dk (gK d0 n)) σ W K []
theorem PJ.dj(Gn:ι d0=some (.list (js.map .int)))(nF:d0≠dk):DJ dk d0 W.b js K.length (PJ ι W dk d0 K):=
 ⟨λn σ h=>⟨h.pa.fr _ _ (ak ..),h.pa.sub _ _ Gn⟩,nF,λn σ h=>by
  refine Xo h.pa.i0 λ_ _ _ _ _ _ _ zh=>rU zh λi0 _=>?_;exact⟨_,i0.b⟩,λn σ Q h q=>h.pa.size rfl q,λn σ h=>⟨by
  have z:=h.pa.up (ak ..);rw[cZ]at z;exact z⟩⟩
end
section
variable{σ ι:St}{Q:bw}{dk d0 sc:Addr}{W:AW}{K js:List Int}{n:Int}{v1 v2 v3:Option MV}
set_option maxHeartbeats 4000000 in
theorem Qe(nF:d0≠dk)(Gn:ι d0=some (.list (js.map .int)))(h:PJ ι W dk d0 K n σ)(hn:0≤n)(YH:n≤900)(hK:K.length≤8)(hq:∀av,Q (.bool true) av):
  wB (X 17) (qU 4 fw) (TB sc dk W.b v1 v2 v3 none none none none none none none none none) σ (ends Q):=by
 have fin:∀(A:BA)(ι:St)(one:Option MV)(mk st:Addr)(v:MV)(x:AV)av n',ι d0=some (.list (js.map .int))→st≠dk→ι mk=some (.list [.ref A.m1,.ref A.m2])→BJ A ι (upd em st (.list [v])) x dk d0 n' av→UT ι x.sn v→LI A 0 [] [] x→0≤n'→n'≤1000→
   wB (X 17) (qU 9 fw) (TB sc dk A.b v1 v2 v3 (some (.ref mk)) one (some (.ref st)) (some (.ref A.ul)) none none none none none) av (ends Q):=λA ι one mk st v x av n' a1 a2 a3 a4 a5 a6 a7 a8=>Tz nF a2 a1 a3 a4 a5 a6 a7 a8 hq
 have ht:∃rest,qU 9 fw=rest:=⟨_,rfl⟩;show wB (X 17) (.cons (OT (qU 4 fw)) (.cons (OT (qU 5 fw)) (.cons (OT (qU 6 fw)) (.cons (OT (qU 7 fw)) (.cons (OT (qU 8 fw)) (qU 9 fw)))))) _ _ _;generalize qU 9 fw=rest at fin⊢;dsimp only[fw,qU,OT];k_go;refine(PJ.dj (W:=W) (K:=K) Gn nF).draw rfl h hn (by lia) (by decide) λw dE w0 w1 h1=>?_
 k_go;intro m1 hm1;refine yH rfl ?_;have p1:=h1.pa.own (o:=eB 1 (decide (w=1)) .none 0) hm1;generalize decide (w=1)=aw at p1;have n1:m1≠dk:=λe=>ar (h1.pa.fr _ _ (ak ..)) (rwr e hm1);generalize upd dE m1 _=dp at p1;k_go;intro m2 Qk;refine yH rfl ?_;have p2:=p1.own (o:=eB 2 true .none 0) Qk;have n2:m2≠dk:=λe=>ar (p1.fr dk (gK d0 (n+1)) ((aC n1.symm).trans (ak ..))) (rwr e Qk);have n12:m1≠m2:=λe=>ar (p1.fr _ _ (ak ..)) (rwl e Qk);generalize upd dp m2 _=jJ at p2;k_go;intro mk hmk;have le3:Le ι (upd ι mk (.list [.ref m1,.ref m2])):=(Le.refl ι).new (p2.sub.none hmk);have im:=ak ι mk (.list [.ref m1,.ref m2]);have j3:MJ (upd ι mk (.list [.ref m1,.ref m2])) W dk d0 m1 m2 K [] (eB 1 aw .none 0) (eB 2 true .none 0) (n+1) (upd jJ mk (.list [.ref m1,.ref m2])):=
  ⟨_,(p2.W6 (o:=.list [.ref m1,.ref m2]) hmk),(aC n2.symm).trans ((aC n1.symm).trans (ak ..)),(aC n12).trans (ak ..),ak ..⟩
 generalize upd jJ mk _=vh at j3;generalize upd ι mk _=Ec at j3 le3 im;have hd4:=le3 _ _ Gn;have a6k:vh mk=some (.list [.ref m1,.ref m2]):=j3.ex.elim λ_ w=>w.1.sub _ _ im;k_go
 as_aux_lemma=>
 refine lp MV.ref (rows:=[m1,m2]) (a:=none) (λa_:Option MV=>TB sc dk W.b v1 v2 v3 (some (.ref mk)) a_ none none none none none none none)
  (λR _ av=>∃n' o1 o2 ds,MJ Ec W dk d0 m1 m2 K ds o1 o2 n' av∧n+1≤n'∧n'≤n+3-R.length∧(R=[m1,m2]∧o1=eB 1 aw .none 0∧o2=eB 2 true .none 0∧ds=[]∨R=[m2]∧(∃p,o1=eB 1 aw (.ref W.b) p)∧o2=eB 2 true .none 0∧ds=[(1,.ref m1)]∨R=[]∧(∃p,o1=eB 1 aw (.ref W.b) p)∧(∃p,o2=eB 2 true (.ref W.b) p)∧ds=[(1,.ref m1),(2,.ref m2)]))
  ⟨n+1,_,_,[],j3,dU _,by show n+1≤n+3-2;lia,.inl ⟨rfl,rfl,rfl,rfl⟩⟩ (λe R a_ qJ R0 hI hR=>?_) λa_ qJ hI=>?_
 ·obtain⟨n',o1,o2,ds,j,a0,a1,c⟩:=hI;have dj4:=MJ.dj (W:=W) (K:=K) (ds:=ds) (o1:=o1) (o2:=o2) hd4 nF n1 n2;obtain⟨fs5,hb5⟩:=dj4.buf _ _ j;have l1:n'≤n+3-((R.length+1:Nat):Int):=a1;k_go;refine dj4.size _ _ _ j ?_;k_go;refine dj4.draw rfl j (by lia) (by lia) (by lia) λw pE w0 w1 j6=>?_
  k_go;obtain⟨φ,pa,q0,q1,q2⟩:=j6.ex;rcases c with⟨eR,e1,e2,e3⟩|⟨eR,e1,e2,e3⟩|⟨eR,e1,e2,e3⟩
  ·cases eR;subst e1 e2 e3;have l2:n'≤n+3-2:=a1;refine yF rfl pa q1 (cy _) (by lia) (by lia) λMr p7=>?_
   k_go;exact⟨p7.sub _ _ im,hR _ _ ⟨n'+1,_,_,_,⟨_,p7,(aC n1.symm).trans q0,ak ..,(aC n12.symm).trans q2⟩,by lia,by show _≤n+3-1;lia,.inr (.inl ⟨rfl,⟨_,rfl⟩,rfl,rfl⟩)⟩⟩
  ·cases eR;subst e2 e3;have l2:n'≤n+3-1:=a1;refine yF rfl pa q2 (show 1≤100 by decide) (by lia) (by lia) λMr p7=>?_
   k_go;exact⟨p7.sub _ _ im,hR _ _ ⟨n'+1,_,_,_,⟨_,p7,(aC n2.symm).trans q0,(aC n12).trans q1,ak ..⟩,by lia,by show _≤n+3-0;lia,.inr (.inr ⟨rfl,e1,⟨_,rfl⟩,rfl⟩)⟩⟩
  ·cases eR
 ·obtain⟨n',o1,o2,ds,j,a0,a1,c⟩:=hI;rcases c with⟨eR,_⟩|⟨eR,_⟩|⟨_,⟨q1,e1⟩,⟨q2,e2⟩,e3⟩
  ·cases eR
  ·cases eR
  subst e1 e2 e3;refine Cc j.ex λφ zh=>an4 zh λpa f0 f1 f2=>?_;refine Xo pa.i0 λP F S pt tk fY dZ zh=>rU zh λi0 eK=>?_;have hb5:=i0.b;k_go;refine w3 rfl hb5 ?_;have Vb:=ak qJ W.b (lH W.g W.ms W.ls pt (((P++S).length:Nat)+1) tk fY tk .none (.ref W.tp));have k6:∀y,y≠W.b→upd qJ W.b (lH W.g W.ms W.ls pt (((P++S).length:Nat)+1) tk fY tk .none (.ref W.tp)) y=qJ y:=λy e=>aC e;generalize upd qJ W.b _=pE at Vb k6;k_go;intro rc Qj;have nb:∀{y},pE y=none→y≠W.b∧qJ y=none:=λ{y}e=>have n:=λ(q:y=W.b)=>ar Vb (rwr q e);⟨n,(k6 y n).symm.trans e⟩;refine Ct rfl Qj λul r Mr hu hr er eu el le7=>?_;k_in;refine yX (le7 _ _ Vb) rfl rfl λMc hb8 o8 _=>?_;obtain⟨A,hA⟩:∃A:BA,A=⟨W.b,W.g,W.cl,W.ms,W.md,m1,m2,W.ls,rc,ul,W.tp,W.tr,aw⟩:=⟨_,rfl⟩;have eA:A.b=W.b:=rwl hA rfl;have hb8:Mc A.b=some (A.bO K.length pt tk fY tk):=by
   subst hA;rw[←eK];exact hb8
  obtain⟨nbu,gu⟩:=nb hu;obtain⟨nbr,gr⟩:=nb hr;obtain⟨nbc,gc⟩:=nb Qj;obtain⟨Bt,V,le5,b8,eV⟩:∃bx V,Le Ec bx∧B A bx (upd em dk (gK d0 n')) Mc ⟨K,V,q1,q2,tk,tk,pt,[],none⟩∧V.length=K.length:=by
   subst hA;exact PA.buf (A:=⟨W.b,W.g,W.cl,W.ms,W.md,m1,m2,W.ls,rc,ul,W.tp,W.tr,aw⟩) pa i0 eK f1 f2 ((show Le em φ from λ_ _ e=>nomatch e).put f0) (aC n1) (aC n2) hb8 (λy w e q=>(o8 y e).trans (le7 y w ((k6 y e).trans q))) ((o8 _ nbc).trans er) ((o8 _ nbu).trans eu) ((o8 _ nbr).trans el) gc gu gr
  have im5:Bt mk=some (.list [.ref A.m1,.ref A.m2]):=by subst hA;exact le5 _ _ im
  have eul:A.ul=ul:=by subst hA;rfl
  clear hA;rw[←eA];subst eul;k_go;refine Ek rfl b8 im5 (ah hK (by decide)) eV λu1 u2 u3 kO Zb k9 b9 du1 du2 du3=>?_
  k_go;refine b9.KW λst Ms YD JO=>?_;have ns:st≠dk:=λe=>ar (ak em dk (gK d0 n')) (e▸YD);have JO:BJ A kO (upd em st (.list [.tup [u1,u2,u3]])) ⟨K,V,q1,q2,tk,tk,pt,[],none⟩ dk d0 n' Ms:=by
   have z:upd (upd em dk (gK d0 n')) st (.list [.tup [u1,u2,u3]])=upd (upd em st (.list [.tup [u1,u2,u3]])) dk (gK d0 n'):=by
    funext y
    unfold upd;by_cases e:y=st
    ·rw[if_pos e,if_neg (λq=>ns (e.symm.trans q)),if_pos e]
    ·rw[if_neg e,if_neg e]
   show B A kO (upd (upd em st _) dk _) Ms _;rw[←z];exact JO
  induction id JO with|intro i10 bb=>
  have a34:=bb.b;have a5W:=bb.pr.sub _ _ bb.im.rc;k_go;exact fin A kO _ mk st _ _ Ms n' (k9 _ _ (le5 _ _ hd4)) ns (k9 _ _ im5) JO ⟨u1,u2,u3,rfl,du1,du2,du3⟩ ⟨trivial,.inl ⟨rfl,rfl,rfl,rfl,rfl⟩,rfl,rfl,hK,eV,trivial,cM _,cM _,cM _⟩ (by lia) (by have:n'≤n+3-0:=a1;lia)
end
section
variable{σ ι:St}{Q:bw}{dk d0 sc:Addr}{W:AW}{K js:List Int}{n:Int}
set_option maxHeartbeats 4000000 in
theorem Qd(nF:d0≠dk)(Gn:ι d0=some (.list (js.map .int)))(h:PJ ι W dk d0 K n σ)(hn:0≤n)(YH:n≤800)(hK:K.length≤8)(hq:∀av,Q (.bool true) av):
  wB (X 17) (qU 3 fw) (TB sc dk W.b none none none none none none none none none none none none) σ (ends Q):=by
 have fin:∀ι v1 v2 v3 n' av,ι d0=some (.list (js.map .int))→PJ ι W dk d0 K n' av→0≤n'→n'≤900→wB (X 17) (qU 4 fw) (TB sc dk W.b v1 v2 v3 none none none none none none none none none) av (ends Q):=λι v1 v2 v3 n' av a1 a2 a3 a4=>Qe nF a1 a2 a3 a4 hK hq;show wB (X 17) (.cons (OT (qU 3 fw)) (qU 4 fw)) _ _ _;generalize qU 4 fw=rest at fin⊢;dsimp only[fw,qU,OT];k_go;refine(PJ.dj (W:=W) (K:=K) Gn nF).draw rfl h hn (by lia) (by decide) λw dE w0 w1 h1=>?_
 k_go;refine tx w0 (by show _≤(1000000:Int);lia) ?_
 rw[show w=((w.toNat:Nat):Int) by lia]
 have hw:w.toNat≤2:=by lia
 generalize w.toNat=m at hw;k_go;refine Ff (n:=m) (a:=(none,none,none)) (λa_:Option MV×Option MV×Option MV=>TB sc dk W.b a_.1 a_.2.1 a_.2.2 none none none none none none none none none) (λi _ av=>∃bx n',PJ bx W dk d0 K n' av∧Le ι bx∧n+1≤n'∧n'≤n+1+3*i)
  ⟨ι,n+1,h1,.refl _,dU _,by lia⟩ (λi a_ dp R hi hI hR=>?_) λa_ dp hI=>?_
 ·obtain⟨jA,n2,j,k2,a0,a1⟩:=hI;have dj2:=PJ.dj (W:=W) (K:=K) (k2 _ _ Gn) nF;obtain⟨v1,v2,v3⟩:=a_;k_go;refine dj2.Od rfl j (by lia) (by lia) (bJ _) λs e jJ s0 se e1 j3=>?_
  refine Xo j3.pa.i0 λ_ _ _ _ _ _ _ zh=>rU zh λi0 _=>?_;have hb3:=i0.b;k_go;refine dj2.draw rfl j3 (by lia) (by lia) (by decide) λw vh w0 w1 j4=>?_
  k_go;refine LO rfl j4.pa (ah hK (by decide)) (by lia) (by lia) (by lia) (by lia) λcv Bt qJ k5 p5=>?_
  k_go;exact⟨trivial,hR (_,_,_) _ ⟨Bt,_,⟨p5⟩,k2.trans k5,by lia,by lia⟩⟩
 ·obtain⟨jA,n2,j,k2,a0,a1⟩:=hI;exact fin jA _ _ _ n2 dp (k2 _ _ Gn) j (by lia) (by lia)
end
theorem a22{i:Int}{σ:St}{Q:bw}(q:Q (.int (if i<0 then-i else i)) σ):fF "abs" [.int i] σ Q:=by
 unfold fF;rw[show("abs"=="len")=false by decide,show("abs"=="abs")=true by decide]
 exact q
section
variable{be:Nat}{σ:St}{Q:bw}{sc:Addr}{js0:List Int}
set_option maxHeartbeats 4000000 in
theorem a4n(aV:ai 17 be=true)(h:σ sc=some (.Lc (js0.map .int)))(hq:∀av,Q (.bool true) av):D be (.fn 1203) [.ref sc] σ Q:=by
 refine UD aV ?_;have fin:∀(ι:St)(W:AW)(dk d0:Addr)(K js:List Int)(n:Int)(av:St),d0≠dk→ι d0=some (.list (js.map .int))→PJ ι W dk d0 K n av→0≤n→n≤800→K.length≤8→
  wB (X 17) (qU 3 fw) (TB sc dk W.b none none none none none none none none none none none none) av (ends Q):=λι W dk d0 K js n av a1 a2 a3 a4 a5 a6=>Qd (js:=js) a1 a2 a3 a4 a5 a6 hq
 show wB (X 17) (.cons (OT (qU 0 fw)) (.cons (OT (qU 1 fw)) (.cons (OT (qU 2 fw)) (qU 3 fw)))) _ _ _;generalize qU 3 fw=rest at fin⊢;dsimp only[fw,qU,OT];k_go;refine a0d h rfl (B6 (i:=63) (by decide)) (E3 λq dE hq1 k1 e1=>?_)
 have ec:AH (js0.map MV.int) 0 63=(js0.take 63).map MV.int:=by
  unfold AH;rw[Vl,List.map_take]
 rw[ec]at e1;have l63:(js0.take 63).length≤63:=by rw[eX];exact Nat.min_le_left _ _
 generalize js0.take 63=js1 at e1 l63;k_go;refine rR (s:=.list q (js1.map MV.int)) MV.int (λi=>.int (if i<0 then-i else i)) e1 js1 [] (λi _ T hT=>?_) (by rw[bQ,cQ];exact ah l63 (by decide)) ?_
 ·k_go;refine a22 ?_;k_go;exact hT
 refine E3 λd0 dp Gn k2 e2=>?_;have e2:dp d0=some (.list ((js1.map λi:Int=>if i<0 then-i else i).map .int)):=by rw[jI];exact e2
 generalize(js1.map λi:Int=>if i<0 then-i else i)=js at e2;k_go;refine E3 λdk jJ hdk k3 e3=>?_;have n0:d0≠dk:=λe=>ar e2 (rwl e hdk);have e2':=k3 _ _ e2;k_go;intro b hb;refine Hi rfl hb λg cl ms md ls vh Qn hls i0 ncl k4=>?_;have e2:=k4 _ _ e2';have Xr:=k4 _ _ e3;have a0r:cl≠dk:=λe=>ar e3 (rwr e Qn);have a3d:cl≠d0:=λe=>ar e2' (rwr e Qn);have a3a:dk≠ls:=λe=>ar e3 (rwl e hls);k_go;refine UL rfl Xr e2 n0 (by decide) (by decide) (by decide) λw w0 w1=>?_
 have i1:=i0.keep (av:=upd vh dk (gK d0 (0+1))) λy m=>aC λe=>by
  subst e;simp only[aE,aD,or_false]at m;rcases m with m|m|m|m|m|m
  ·exact bS i0.b Xr rfl m.symm
  ·exact bS i0.gap.g Xr rfl m.symm
  ·exact a0r m.symm
  ·exact bS i0.ms Xr rfl m.symm
  ·exact bS i0.md Xr rfl m.symm
  ·exact a3a m
 have e3:=ak vh dk (gK d0 (0+1));have e2:=(aC (o:=gK d0 (0+1)) n0).trans e2;generalize upd vh dk _=qJ at i1 e2 e3;k_go;refine tx (by lia) (by show _≤(1000000:Int);lia) ?_
 k_go;refine .inr (show fe (oZ (1+w)) _ _ from E3 λq2 pE hq2 k6 e6=>?_);have eK:(oZ (1+w))=((fB (1+w).toNat).map λi:Nat=>(i:Int)).map MV.int:=by unfold oZ;rw[jI];rfl
 rw[eK]at e6;have lK:((fB (1+w).toNat).map λi:Nat=>(i:Int)).length=(1+w).toNat:=by rw[ax,jh]
 generalize((fB (1+w).toNat).map λi:Nat=>(i:Int))=K at e6 lK;have i2:=i1.le k6;have e2:=k6 _ _ e2;have Xr:=k6 _ _ e3;k_go;refine QN rfl i2 e6 (by lia) (by lia) (λe=>ar i1.gap.cl (rwr e hq2)) ncl λF fY Mr i3 o7=>?_
 have e3:=(o7 dk (WG (bS Xr i2.b rfl) (Q6 (bS Xr i2.gap.g rfl) a0r.symm))).trans Xr;have hb7:=i3.b;k_go;refine Jo rfl i3.b i3.gap ?_;rw[ay];k_go;intro tp OP;refine Cs rfl OP (by lia) λc0 tr f Mc hc0 k8 e8 t8 tl8 n8=>?_
 have hb8:=k8 _ _ hb7;have i4:=i3.le k8;k_in;refine yX hb8 rfl rfl λZb hb9 o9 _=>?_;have i5:I0 Zb b g cl ms md ls .none (.ref tp) K F [] (1+(K.length:Nat)) 2 fY 1 []:=by
  have k:∀{y w},Mc y=some w→a9 (kd w) 716=false→Zb y=some w:=λe n=>(o9 _ (bS e hb8 n)).trans e;exact⟨hb9,⟨k i4.gap.g rfl,k i4.gap.cl rfl,i4.gap.bd⟩,k i4.ms rfl,k i4.md rfl,k i4.ls rfl⟩
 have k9:∀{y w},Mc y=some w→a9 (kd w) 716=false→Zb y=some w:=λe n=>(o9 _ (bS e hb8 n)).trans e;obtain⟨ι,pa,hd⟩:=PA.start (js:=js) (d0:=d0) (dk:=dk) (nn:=0+1) (K:=K) i5 (ay K) (k9 e8 rfl) (k9 t8 rfl) (tl8.frame λy m=>o9 y λe=>by
   subst e;exact ar hb7 (n8 y m)) (by lia) (k9 (k8 _ _ ((o7 d0 (WG (bS e2 i2.b rfl) (Q6 (bS e2 i2.gap.g rfl) a3d.symm))).trans e2)) rfl) (k9 (k8 _ _ e3) rfl) a3d a0r (λe=>ar i3.gap.cl (rwl e hc0)) ncl n0.symm (λe=>ar e3 (rwl e hc0)) a3a
 k_go;exact fin ι ⟨b,g,cl,ms,md,ls,tp,tr⟩ dk d0 K js _ Zb n0 hd ⟨pa⟩ (by decide) (by decide) (by lia)
end
end Mine.Internal
set_option maxRecDepth 100000
namespace Mine.Internal
open PySem PySem.W PySem.Calls PyProof.Rows
theorem has_int{R:WRecords}{x:WData}(h:WShape.has R x .int=true):∃i,x=.int i:=by cases x<;>first|exact⟨_,rfl⟩|exact absurd h aq
theorem has_list{R:WRecords}{x:WData}(h:WShape.has R x (.list .int)=true):∃xs,x=.list xs∧WShape.hasItems R xs .int=true:=by cases x<;>first|exact⟨_,rfl,(Bool.or_false _).symm.trans h⟩|exact absurd h aq
section
variable{P:Params}{h:Heap}{v:Value}{d:WData}
noncomputable def VW(P:Params)(h:Heap)(v:Value)(d:WData):Prop:=match d with
 |.int i=>∃t,v=.int i t
 |.list xs=>∃a vs,v=.ref a∧h.get? a=some (cU vs 0)∧WellAll P h vs xs
 |_=>True
theorem X4(x:Well P h v d):VW P h v d:=by
 cases x with
 |int i t=>exact⟨t,rfl⟩
 |list g w=>exact⟨_,_,rfl,g,w⟩
 |_=>trivial
end
theorem items_int{R:WRecords}{P:Params}{h:Heap}{T:aR}(xs:List WData):∀{vs:List Value},WShape.hasItems R xs .int=true→WellAll P h vs xs→∃js:List Int,xs=js.map .int∧eQ T (js.map .int) vs:=by
 induction xs with
 |nil=>intro vs _ w;cases w;exact⟨[],rfl,rfl⟩
 |cons x xs ih=>
  intro vs e w;have e:=iJ e;refine(has_int e.1).elim λi q=>(wellAll_cons_inv w).elim λv z=>z.elim λGy z=>(ih e.2 z.2.2).elim λjs y=>?_;have t:=X4 (q▸z.2.1);exact t.elim λt r=>⟨i::js,by rw[q,y.1];rfl,v,Gy,z.1,⟨t,r⟩,y.2⟩
theorem a1F{P:Params}{h:Heap}{args:List WData}{vals:List Value}(hp:WShape.hasAll [] args [.list .int]=true)(W:WellAll P h vals args):
  ∃sc vs,∃js:List Int,vals=[.ref sc]∧args=[.list (js.map .int)]∧h.get? sc=some (cU vs 0)∧∀T,eQ T (js.map .int) vs:=by
 induction args using aF with
 |nil=>exact absurd hp aq
 |cons d ds=>
  have hp:=iJ hp;induction ds using aF with
  |cons _ _=>exact absurd hp.2 aq
  |nil=>
   refine(has_list hp.1).elim λxs q=>(wellAll_cons_inv W).elim λv z=>z.elim λGy z=>?_;have w:VW P h v (.list xs):=X4 (rwr q.1 z.2.1);refine w.elim λa w=>w.elim λvs w=>(items_int (T:=λ_=>none) _ q.2 w.2.2).elim λjs r=>?_;have e:Gy=[]:=by cases z.2.2;rfl
   exact⟨a,vs,js,by rw[z.1,w.1,e],by rw[q.1,r.1],w.2.1,λT=>r.2.up λ_ _ e=>ar e rfl⟩
section
variable{g:aR}{h:Heap}{b:Addr}
theorem ZL(h:E' b=true):∃q∈tabs,q.1=b:=
 (bK.mp h).elim (λh=>⟨_,.head _,(bR h).symm⟩) λh=>(bK.mp h).elim (λh=>⟨_,.tail _ (.head _),(bR h).symm⟩) λh=>⟨_,.tail _ (.tail _ (.head _)),(bR h).symm⟩
theorem MH(N:Kk g=Kj)(k:g.le h.get?){q:Addr×Str}(m:q∈tabs):h.get? q.1=some (tabObj #[]):=k _ _ (Bw.mp N q m)
theorem Gi(k:g.le h.get?):(LZ g).le h.get?:=λb o e=>by
 unfold LZ at e;induction t:E' b with
 |true=>rw[t]at e;exact ar e rfl
 |false=>rw[t]at e;exact k _ _ e
theorem R5(X:Lz (LZ g) (Kg g))(k:g.le h.get?){q:Addr×Str}(m:q∈tabs):isCodeTable h q.1:=by
 have z:=beq_iff_eq.mp (X.at 14 rfl);have c:∃c,codeHdIn (Kg g) c q.1=true:=by
  injection z with z1 z
  injection z with z2 z
  injection z with z3 z
  cases m with
  |head=>exact⟨_,z1⟩
  |tail _ m=>cases m with
   |head=>exact⟨_,z2⟩
   |tail _ m=>cases m with
    |head=>exact⟨_,z3⟩
    |tail _ m=>cases m
 obtain⟨c,z⟩:=c;obtain⟨o,vs,_,_,_,_,_,_,_,e1,e2,e3,e4,_⟩:=codeHd_of_K (Y4 (Gi k)) z;exact⟨c,o,vs,e1,e2,e3,e4⟩
open Classical in
noncomputable def TT(g:aR)(h:Heap)(sc:Addr):aR:=λb=>if b=sc then h.get? sc else LZ g b
open Classical in
noncomputable def BB(g:aR)(h:Heap)(sc:Addr):aR:=λb=>if TT g h sc b≠none∨E' b=true then none else h.get? b
open Classical in
noncomputable def sg(sc:Addr)(js:List Int):St:=λb=>if b=sc then some (.Lc (js.map .int))else none
theorem Qg{w:World}{s:Shared}{sc:Addr}{js:List Int}{vs:List Value}(N:Kk g=Kj)(k:g.le s.heap.get?)(hg:s.gens=#[])(hs:s.heap.get? sc=some (cU vs 0))(r:eQ (TT g s.heap sc) (js.map .int) vs)
  (hl:js.length≤63) (ns:(sc==sysModules)=false):Inv (GG g w s.os) (TT g s.heap sc) (BB g s.heap sc) (sg sc js) s:=by
 have sgv:∀a mo,sg sc js a=some mo→a=sc∧mo=.Lc (js.map .int):=λa mo e=>by
  unfold sg at e;split at e
  ·exact⟨by assumption,(aA e).symm⟩
  ·exact ar e rfl
 have foot:∀x,¬n9 (sg sc js) x:=λx f=>f.elim (λf=>f.elim λo e=>by rw[(sgv _ _ e.1).2]at e;exact aq e.2) λf=>f.elim λC f=>f.elim λfs e=>by cases(sgv _ _ e).2
 have tn:∀q∈tabs,TT g s.heap sc q.1=none:=λq m=>by
  unfold TT;rw[if_neg λe=>by have:=(e▸MH N k m).symm.trans hs;cases this]
  unfold LZ;rw[MG q m];rfl
 refine⟨λb o e=>?_,λb o e=>?_,λb o e=>?_,λx hx=>?_,λa mo e=>?_,λx f=>absurd f (foot x),λd C fs e=>?_,λq m=>?_,λq m=>⟨tn q m,?_,foot _⟩,rfl,hg⟩
 ·unfold TT at e;split at e
  ·rename_i q;rw[q];exact e
  ·exact Gi k _ _ e
 ·unfold BB at e;split at e
  ·exact ar e rfl
  ·exact e
 ·unfold TT;split
  ·rename_i q;exact rwr q (Gi k _ _ e)
  ·exact e
 ·unfold BB at hx;split at hx
  ·exact absurd rfl hx
  ·rename_i q;exact a5Q.mp λz=>q (.inl z)
 ·have q:=sgv _ _ e;rw[q.1,q.2];exact .mk vs 0 (by unfold TT;rw[if_pos rfl];exact hs) hs r (by rw[ax];exact ah hl (by decide)) ns
 ·cases(sgv _ _ e).2
 ·exact⟨#[],MH N k m,trivial,λpos cv e=>ar e rfl⟩
 ·unfold BB;rw[if_pos (.inr (MG q m))]
theorem Wt{w:World}{os:OsState}{s':Shared}{T':aR}{av:St}{sc:Addr}(X:Lz (LZ g) (Kg g))(N:Kk g=Kj)(k:g.le h.get?)(t:(TT g h sc).le T')(I:Inv (GG g w os) T' (BB g h sc) av s')
  (le:(TT g h sc).le h.get?):OldK h s'.heap:=by
 have main:∀b o,h.get? b=some o→asItWas h s'.heap b o∧∃o',s'.heap.get? b=some o':=λb o e=>by
  have keep:s'.heap.get? b=some o→asItWas h s'.heap b o∧∃o',s'.heap.get? b=some o':=λz=>⟨.inl z,o,z⟩;induction u:TT g h sc b with
  |some o'=>exact keep ((I.t _ _ (t _ _ u)).trans ((le _ _ u).symm.trans e))
  |none=>induction z:E' b with
   |true=>
    refine(ZL z).elim λq m=>?_;cases m.2;refine(I.tab q m.1).elim λps r=>?_;cases(MH N k m.1).symm.trans e;exact⟨.inr (.inl ⟨R5 X k m.1,rfl,#[],ps,rfl,by rw[r.1,Array.empty_append]⟩),_,r.1⟩
   |false=>exact keep (I.b _ _ (by unfold BB;rw[if_neg λy=>y.elim (λy=>y u) λy=>aq (z.symm.trans y)];exact e))
 exact⟨λb o e=>(main b o e).1,λb o e=>(main b o e).2⟩
end
theorem entry(a5t:∀(sc:Addr)(σ:St)(Q:bw)(js:List Int),σ sc=some (.Lc (js.map .int))→(∀av,Q (.bool true) av)→D 18 (.fn 1203) [.ref sc] σ Q):
  WalkO qv lo (λ_ _=>True) (λ_ h=>JB h) BF.toRowW dk.1 dk.2 λf vs=>a1Q f vs:=by
 intro w a5Z BC mg mb G Y a o pm cd doc dV kV h1 h2 h3 h4 h5 hg args vals as W9 a6l L W ns;refine Y.elim λg Y=>?_;have X:Lz (LZ g) (Kg g):=Y.1;have k:=Y.2.2.2;refine(km (X.at 13 rfl)).elim λv fa=>?_;have fv:=RP fa.2;have ha:a=1203:=by
  refine(Ak (X.at 3 rfl)).elim λoM ns=>ns.elim λn ns=>?_;obtain⟨o2,es2,ep2,f1,f2,_,f4⟩:=G.T.g;cases(Gi k _ _ ns.1).symm.trans f1;cases ns.2.1.symm.trans f2;exact(Value.ref.inj (fv.1.symm.trans (aA ((fa.1.symm.trans (nj _ _).symm).trans ((f4 "law").trans (rwr ((defOf_name a3Z:dk.1.name=S8)) h5)))))).symm
 subst ha;have hp:=iJ (show(WShape.hasAll [] args [.list .int]&&BF.toRowW.pre.holds [] {args:=args})=true from W9);refine JM (a1F hp.1 W) λsc vs js zh=>an4 zh λIk zr4 hs hj=>?_;subst Ik;subst zr4;have hlen:js.length≤63:=by
  have z:=hp.2;rw[show BF.toRowW.pre=.and (.not (.lt (.lit (.int 63)) (.len (.arg 0)))) (.lit (.bool true))from rfl]at z;refine Nat.le_of_not_lt λn=>?_;have n:decide ((63:Int)<((js.map WData.int).length:Int))=true:=decide_eq_true (cB.mpr (by rw[ax];exact n))
  have e:WTm.value [] (.lt (.lit (.int 63)) (.len (.arg 0))) {args:=[WData.list (js.map .int)]}=some (.bool (decide ((63:Int)<((js.map WData.int).length:Int)))):=rfl;rw[n]at e;have e2:WTm.value [] (.not (.lt (.lit (.int 63)) (.len (.arg 0)))) {args:=[WData.list (js.map .int)]}=some (.bool false):=by rw[WTm.value,e];rfl
  unfold WTm.holds at z;rw[WTm.value,e2]at z;exact aq z
 have nsm:(sc==sysModules)=false:=beq_eq_false_iff_ne.mpr λe=>(jS.mp (X.at 0 rfl)).elim λes q=>(bind_eq q).elim λo z=>(Lq z.2).elim λn d=>by
  have h:=(Gi k _ _ z.1).symm.trans (rwr e hs);rw[aA h]at d;exact Data.noConfusion d
 have I:=Qg (w:=w) Y.2.2.1 k hg hs (hj _) hlen nsm;refine wpAny_call (codeAny_mono ((XY (VQ (w:=w) (os:=BC.os) X Y.2.1) 18 (.fn 1203) [.ref sc] (sg sc js) (λm _=>m=.bool true) (a5t sc _ _ js (if_pos rfl) λ_=>rfl)) callerA _ _ BC (.ref 1203) [.ref sc] ⟨rfl,by decide,by decide⟩ I ⟨rfl,fv.2.mono I.base⟩ ⟨_,_,rfl,rfl,rfl⟩) λr s' z=>?_)
 induction z with|mk v T' m av e t x I' q=>
 rw[e];rw[q]at x;rw[show v=.bool true from x];exact⟨.inl ⟨.bool true,.bool true,[],rfl,λcls=>rfl,.bool true,by kernel_rfl,λ_=>⟨.nil,λ_ h=>nomatch h⟩⟩,Wt X Y.2.2.1 k t I' I.t,I'.os,.of_eq I'.gens⟩
theorem holds:Q3.Holds:=a0T (entry λ_ _ _ _ h hq=>a4n rfl h hq)
end Mine.Internal
end
theorem PySem.Challenge.cw_pq0322_01_holds : PySem.Challenge.rw_pq0322_01.Holds :=
 Mine.Internal.holds
